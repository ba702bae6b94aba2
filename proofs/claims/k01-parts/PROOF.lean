import PyProof.Rows.All
import Wide.All
import OpenK.AllK
import Wide.FinOn
import HandS.ForMost
import HandS.ForExc
import HandS.Deep
import HandS.TupAny
import HandS.RaiseMore
import HandS.HeadHook2
import HandS.HeadEnd
import PyProof.ReprBulk
import HandS.Words
import PySem.Challenge.RW_acquit_k01_parts_of_amounts
import KE.KStateDown
import HandS.Codes
import HandS.Head0
import HandS.Head1
import HandS.Head2
import HandS.HeadHook1
set_option Elab.async false
set_option linter.all false
set_option maxRecDepth 100000
set_option maxHeartbeats 0
/-! A small language of its own: plain values, a heap by names, what must hold ahead of a run (wp). -/
namespace Cq
open PySem

/-- values: tuples and lists that nobody changes are data; ref: an object of the heap -/
inductive D (A : Type) where
  | non | bl (b : Bool) | int (i : Int) | str (k : Nat) | txt (s : Str)
  | tup (ds : List (D A)) | lst (ds : List (D A)) | ref (a : A)
/-- objects -/
inductive O (A : Type) where
  | lst (ds : List (D A)) | dic (kvs : List (D A × D A)) | ins (c : Nat) (fs : List (Nat × D A))
inductive BO where
  | add | sub | mul | fdiv | mod | pow
inductive CO where
  | lt | le | gt | ge | eq | ne | in_ | nin | isN | notN | isB | notB
inductive Bi where
  | len | int | abs | tuple | list | sorted | sortedSet | sum | max2 | min2 | repr | isInt | isBool | isTuple | isList | isStr | isStrInt | rng
inductive Bm where
  | append | extend | popAt | popKey | values | index | count | remove | get
mutual
inductive CE where
  | var (i : Nat) | int (i : Int) | bl (b : Bool) | non | str (k : Nat)
  | tup (es : List CE) | list (es : List CE)
  | bin (o : BO) (a b : CE) | neg (a : CE)
  | cmp (o : CO) (a b : CE)
  | and_ (a b : CE) | or_ (a b : CE) | not_ (a : CE) | ite (t : CT) (a b : CE)
  | sub (o i : CE) | slice (o lo hi : CE)
  | fld (o : CE) (f : Nat)
  | call (f : Nat) (es : List CE) | meth (o : CE) (m : Nat) (es : List CE) | mk (c : Nat) (es : List CE)
  | bi (b : Bi) (es : List CE) | bm (m : Bm) (o : CE) (es : List CE)
  | comp (it : CI) (tg vs : List Nat) (ts : List CT) (e : CE)
  | dcomp (it : CI) (tg vs : List Nat) (k v : CE)
  | disp (ks vs : List CE)
/-- tests -/
inductive CT where
  | val (e : CE) | and_ (a b : CT) | or_ (a b : CT) | not_ (a : CT) | cmp (o : CO) (a b : CE) | chain (o p : CO) (a b c : CE)
/-- what is walked -/
inductive CI where
  | val (e : CE) | range1 (a : CE) | range2 (a b : CE) | enum (a : CE)
end
inductive CS where
  | pass | expr (e : CE) | ret (e : CE) | retN | brk
  | set (tg : List Nat) (e : CE)
  | par (is : List Nat) (es : List CE)
  | setSub (o i e : CE) | setFld (o : CE) (f : Nat) (e : CE)
  | augVar (i : Nat) (o : BO) (e : CE) | augFld (a : CE) (f : Nat) (o : BO) (e : CE) | augSub (a i : CE) (o : BO) (e : CE)
  | del (o i : CE)
  | ite (t : CT) (a b : List CS)
  | for_ (tg : List Nat) (it : CI) (body : List CS)
  | raise (c : Nat)
  | try_ (body : List CS) (i : Nat) (suite : CE)
  | never

section
variable {A : Type} [DecidableEq A]
abbrev PH (A : Type) := A → Option (O A)
abbrev Env (A : Type) := List (Option (D A))
abbrev QD (A : Type) := D A → PH A → Prop
abbrev QE (A : Type) := Nat → PH A → Prop
def up (h : PH A) (a : A) (o : O A) : PH A := fun b => if b = a then some o else h b
/-- a call: the def's number, the arguments -/
abbrev CallW (A : Type) := Nat → List (D A) → PH A → QD A → QE A → Prop

/-- a new list: data, or an object -/
def newL (ds : List (D A)) (h : PH A) (Q : QD A) : Prop := Q (.lst ds) h ∨ ∃ a, h a = none ∧ Q (.ref a) (up h a (.lst ds))

def getL (h : PH A) (a : A) : Option (List (D A)) := match h a with
  | some (.lst ds) => some ds
  | _ => none
def getK (h : PH A) (a : A) : Option (List (D A × D A)) := match h a with
  | some (.dic ds) => some ds
  | _ => none
def getI (h : PH A) (a : A) : Option (Nat × List (Nat × D A)) := match h a with
  | some (.ins c fs) => some (c, fs)
  | _ => none
theorem getL_iff {h : PH A} {a : A} {ds : List (D A)} : getL h a = some ds ↔ h a = some (.lst ds) := by
  unfold getL
  split
  · rename_i e; rw [e]; simp
  · rename_i e; exact ⟨fun z => (nomatch z), fun z => (e _ z).elim⟩
theorem getK_iff {h : PH A} {a : A} {ds : List (D A × D A)} : getK h a = some ds ↔ h a = some (.dic ds) := by
  unfold getK
  split
  · rename_i e; rw [e]; simp
  · rename_i e; exact ⟨fun z => (nomatch z), fun z => (e _ z).elim⟩
theorem getI_iff {h : PH A} {a : A} {p : Nat × List (Nat × D A)} : getI h a = some p ↔ h a = some (.ins p.1 p.2) := by
  unfold getI
  split
  · rename_i e; rw [e]; obtain ⟨c, fs⟩ := p; simp
  · rename_i e; exact ⟨fun z => (nomatch z), fun z => (e _ _ z).elim⟩

/-! ### data -/
mutual
/-- what a value is, as data without objects; T: the texts by their numbers -/
def pd (T : Nat → Str) : D A → Option PyData
  | .non => some .none
  | .bl b => some (.bool b)
  | .int i => some (.int i)
  | .str k => some (.str (T k))
  | .txt s => some (.str s)
  | .tup ds => (pds T ds).map .tuple
  | .lst ds => (pds T ds).map .list
  | .ref _ => none
def pds (T : Nat → Str) : List (D A) → Option (List PyData)
  | [] => some []
  | d :: ds => match pd T d, pds T ds with
    | some x, some xs => some (x :: xs)
    | _, _ => none
end
mutual
/-- == of values (no object) -/
def eqb : D A → D A → Option Bool
  | .non, .non => some true
  | .bl a, .bl b => some (a == b)
  | .int a, .int b => some (decide (a = b))
  | .str a, .str b => some (decide (a = b))
  | .txt a, .txt b => some (decide (a = b))
  | .bl a, .int b => some ((if a then 1 else 0) == b)
  | .int a, .bl b => some (a == (if b then 1 else 0))
  | .tup a, .tup b => eqbs a b
  | .lst a, .lst b => eqbs a b
  | .ref _, _ => none
  | _, .ref _ => none
  | .txt _, _ => none
  | _, .txt _ => none
  | _, _ => some false
def eqbs : List (D A) → List (D A) → Option Bool
  | [], [] => some true
  | a :: as, b :: bs => match eqb a b, eqbs as bs with
    | some true, r => r
    | some false, some _ => some false
    | _, _ => none
  | [], _ :: _ => some false
  | _ :: _, [] => some false
end
mutual
/-- no object, no made text, not too deep -/
def okD : Nat → D A → Bool
  | _, .ref _ => false
  | _, .txt _ => false
  | 0, .tup _ => false
  | 0, .lst _ => false
  | n + 1, .tup ds => okDs n ds
  | n + 1, .lst ds => okDs n ds
  | _, _ => true
def okDs : Nat → List (D A) → Bool
  | _, [] => true
  | n, d :: ds => okD n d && okDs n ds
end
/-- a list of the heap, as a list -/
def top (h : PH A) : D A → D A
  | .ref a => match getL h a with
    | some ds => .lst ds
    | none => .ref a
  | d => d
def flatD : D A → Bool
  | .non => true
  | .bl _ => true
  | .int _ => true
  | .str _ => true
  | .txt _ => true
  | _ => false
def eqT (x y : D A) : Option Bool := if (flatD x && flatD y) = true then eqb x y else if (okD 60 x && okD 60 y) = true then eqb x y else none
def eqF (h : PH A) (x y : D A) : Option Bool := eqT (top h x) (top h y)
def truth (h : PH A) : D A → Option Bool
  | .non => some false
  | .bl b => some b
  | .int i => some (i != 0)
  | .tup ds => some (!ds.isEmpty)
  | .lst ds => some (!ds.isEmpty)
  | .ref a => match getL h a with
    | some ds => some (!ds.isEmpty)
    | none => (getK h a).map fun ds => !ds.isEmpty
  | _ => none

/-! ### operators -/
/-- it is there, and so -/
def on {α : Type} (r : Option α) (K : α → Prop) : Prop := ∃ a, r = some a ∧ K a
theorem on_mono {α : Type} {r : Option α} {K K' : α → Prop} (hk : ∀ a, K a → K' a) : on r K → on r K'
  | ⟨a, e, k⟩ => ⟨a, e, hk a k⟩
@[simp] theorem on_some {α : Type} {a : α} {K : α → Prop} : on (some a) K ↔ K a := ⟨fun ⟨_, e, k⟩ => by cases e; exact k, fun k => ⟨a, rfl, k⟩⟩
@[simp] theorem on_none {α : Type} {K : α → Prop} : on none K ↔ False := ⟨fun ⟨_, e, _⟩ => (nomatch e), False.elim⟩
def small (i j : Int) : Bool := (decide (-(2 ^ 64) < i) && decide (i < 2 ^ 64)) || (decide (-(2 ^ 64) < j) && decide (j < 2 ^ 64))
def binF (o : BO) (x y : D A) : Option (D A) := match o, x, y with
  | .add, .int i, .int j => some (.int (i + j))
  | .sub, .int i, .int j => some (.int (i - j))
  | .mul, .int i, .int j => if small i j = true then some (.int (i * j)) else none
  | .fdiv, .int i, .int j => if j ≠ 0 ∧ j.natAbs < 1073741824 then some (.int (i.fdiv j)) else none
  | .mod, .int i, .int j => if j ≠ 0 then some (.int (i.fmod j)) else none
  | .pow, .int i, .int j => if 0 ≤ j ∧ j ≤ 1000000 ∧ i.natAbs < 2 ^ 64 then some (.int (i ^ j.toNat)) else none
  | _, _, _ => none
def negF : D A → Option (D A)
  | .int i => some (.int (-i))
  | _ => none
def asB : D A → Option Bool
  | .bl b => some b
  | _ => none
/-- x is one of them, by == -/
def anyB (x : D A) : List (D A) → Option Bool
  | [] => some false
  | y :: ys => match eqb y x, anyB x ys with
    | some a, some b => some (a || b)
    | _, _ => none
def itemsF (h : PH A) : D A → Option (List (D A))
  | .tup ds => some ds
  | .lst ds => some ds
  | .ref a => getL h a
  | _ => none
def isTup : D A → Bool
  | .tup _ => true
  | _ => false
def inF (h : PH A) (x y : D A) : Option Bool := (itemsF h y).bind fun ys =>
  if (flatD x && ys.all flatD) = true then anyB x ys else if (!isTup y && okD 50 x && okDs 50 ys) = true then anyB x ys else none
def cmpF (o : CO) (x y : D A) (h : PH A) : Option Bool := match o with
  | .lt => (match x, y with | .int i, .int j => some (decide (i < j)) | _, _ => none)
  | .le => (match x, y with | .int i, .int j => some (decide (i ≤ j)) | _, _ => none)
  | .gt => (match x, y with | .int i, .int j => some (decide (j < i)) | _, _ => none)
  | .ge => (match x, y with | .int i, .int j => some (decide (j ≤ i)) | _, _ => none)
  | .eq => eqF h x y
  | .ne => (eqF h x y).map (!·)
  | .in_ => inF h x y
  | .nin => (inF h x y).map (!·)
  | .isN => (match x with | .non => some true | _ => some false)
  | .notN => (match x with | .non => some false | _ => some true)
  | _ => none
def subF (x y : D A) (h : PH A) : Option (D A) := match y with
  | .int i => (itemsF h x).bind fun ds => L2.atI ds i
  | _ => none
def lenF (h : PH A) : D A → Option Nat
  | .ref a => match getL h a with
    | some ds => some ds.length
    | none => (getK h a).map (·.length)
  | d => (itemsF h d).map (·.length)
def reprF (T : Nat → Str) (h : PH A) (d : D A) : Option (D A) := (pd T (top h d)).bind fun p =>
  if p.showable = true ∧ p.depth ≤ 64 ∧ p.shown.length + 64 ≤ sizeLine then some (.txt p.shown) else none
def biF (T : Nat → Str) (b : Bi) (xs : List (D A)) (h : PH A) : Option (D A) := match b, xs with
  | .len, [x] => (lenF h x).map fun (n : Nat) => D.int (n : Int)
  | .int, [.int i] => some (.int i)
  | .abs, [.int i] => some (.int (if i < 0 then -i else i))
  | .repr, [d] => reprF T h d
  | _, _ => none
def bmF (m : Bm) (o : D A) (xs : List (D A)) (h : PH A) : Option (D A × PH A) := match m, o, xs with
  | .append, .ref a, [d] => (getL h a).bind fun ds => if ds.length < sizeLine then some (.non, up h a (.lst (ds ++ [d]))) else none
  | _, _, _ => none
/-- what a method is asked of -/
def tyB (m : Bm) (x : D A) (h : PH A) : Bool := match x with
  | .lst _ => true
  | .ref a => (getL h a).isSome
  | _ => false
/-- o[i] = v -/
def setF (o i v : D A) (h : PH A) : Option (PH A) := match o, i with
  | .ref a, .int j => (getL h a).bind fun ds => (L2.ixN ds.length j).map fun k => up h a (.lst (ds.set k v))
  | _, _ => none

/-! ### loops -/
/-- what a walk's source is; what must stand at each turn -/
def iterF (d : D A) (h : PH A) : Option (List (D A) × Option (A × O A)) := match d with
  | .tup ds => some (ds, none)
  | .lst ds => some (ds, none)
  | .ref a => (getL h a).map fun ds => (ds, some (a, .lst ds))
  | _ => none
def stays (st : Option (A × O A)) (h : PH A) : Prop := match st with
  | none => True
  | some (a, o) => h a = some o
def setAll : Env A → List Nat → List (D A) → Option (Env A)
  | σ, [], [] => some σ
  | σ, i :: is, d :: ds => setAll (σ.set i (some d)) is ds
  | _, _, _ => none
/-- a target takes a value -/
def tgF (tg : List Nat) (d : D A) (σ : Env A) : Option (Env A) := match tg with
  | [i] => some (σ.set i (some d))
  | _ => match d with
    | .tup ds => setAll σ tg ds
    | _ => none
def wipeE (σ : Env A) : List Nat → Env A
  | [] => σ
  | v :: vs => (wipeE σ vs).set v none
def compL (st : Option (A × O A)) (turn : D A → PH A → (Option (D A) → PH A → Prop) → Prop) : List (D A) → List (D A) → PH A → (List (D A) → PH A → Prop) → Prop
  | [], acc, h, Q => stays st h ∧ Q acc h
  | d :: ds, acc, h, Q => stays st h ∧ turn d h fun r h1 => match r with
    | none => compL st turn ds acc h1 Q
    | some x => acc.length < sizeLine ∧ compL st turn ds (acc ++ [x]) h1 Q
def rngF (x y : D A) : Option (List (D A)) := match x, y with
  | .int i, .int j => if -(2 ^ 62) ≤ i ∧ i < 2 ^ 62 ∧ -(2 ^ 62) ≤ j ∧ j < 2 ^ 62 then some ((List.range (j - i).toNat).map fun (k : Nat) => .int (i + k)) else none
  | _, _ => none
/-- what is walked, by its value -/
abbrev KI (A : Type) := List (D A) → Option (A × O A) → PH A → Prop

/-! ### expressions -/
mutual
def wE (T : Nat → Str) (F : CallW A) : CE → Env A → PH A → QD A → QE A → Prop
  | .var i, σ, h, Q, _ => on σ[i]?.join fun d => Q d h
  | .int i, _, h, Q, _ => Q (.int i) h
  | .bl b, _, h, Q, _ => Q (.bl b) h
  | .non, _, h, Q, _ => Q .non h
  | .str k, _, h, Q, _ => Q (.str k) h
  | .tup es, σ, h, Q, E => wA T F es σ h (fun ds h1 => ds.length ≤ sizeLine ∧ Q (.tup ds) h1) E
  | .list es, σ, h, Q, E => wA T F es σ h (fun ds h1 => ds.length ≤ sizeLine ∧ newL ds h1 Q) E
  | .bin o a b, σ, h, Q, E => wE T F a σ h (fun x h1 => wE T F b σ h1 (fun y h2 => on (binF o x y) fun d => Q d h2) E) E
  | .neg a, σ, h, Q, E => wE T F a σ h (fun x h1 => on (negF x) fun d => Q d h1) E
  | .cmp o a b, σ, h, Q, E => wE T F a σ h (fun x h1 => wE T F b σ h1 (fun y h2 => on (cmpF o x y h2) fun c => Q (.bl c) h2) E) E
  | .and_ a b, σ, h, Q, E => wE T F a σ h (fun x h1 => on (asB x) fun c => if c = true then wE T F b σ h1 Q E else Q (.bl false) h1) E
  | .or_ a b, σ, h, Q, E => wE T F a σ h (fun x h1 => on (asB x) fun c => if c = true then Q (.bl true) h1 else wE T F b σ h1 Q E) E
  | .not_ a, σ, h, Q, E => wE T F a σ h (fun x h1 => on (asB x) fun c => Q (.bl (!c)) h1) E
  | .ite t a b, σ, h, Q, E => wT T F t σ h (fun c h1 => if c = true then wE T F a σ h1 Q E else wE T F b σ h1 Q E) E
  | .sub o i, σ, h, Q, E => wE T F o σ h (fun x h1 => wE T F i σ h1 (fun y h2 => on (subF x y h2) fun d => Q d h2) E) E
  | .call f es, σ, h, Q, E => wA T F es σ h (fun ds h1 => F f ds h1 Q E) E
  | .bi b es, σ, h, Q, E => wA T F es σ h (fun ds h1 => on (biF T b ds h1) fun d => Q d h1) E
  | .bm m o es, σ, h, Q, E => wE T F o σ h (fun x h1 => tyB m x h1 = true ∧ wA T F es σ h1 (fun ds h2 => on (bmF m x ds h2) fun p => Q p.1 p.2) E) E
  | .comp it tg vs ts e, σ, h, Q, E => wI T F it σ h (fun ds st h1 => compL st
      (fun d h2 K => on (tgF tg d (wipeE σ vs)) fun σ2 => wTs T F ts σ2 h2 (fun c h3 => if c = true then wE T F e σ2 h3 (fun y h4 => K (some y) h4) (fun _ _ => False) else K none h3) (fun _ _ => False))
      ds [] h1 fun acc h2 => newL acc h2 Q) E
  | .slice _ _ _, _, _, _, _ => False
  | .fld _ _, _, _, _, _ => False
  | .meth _ _ _, _, _, _, _ => False
  | .mk _ _, _, _, _, _ => False
  | .dcomp _ _ _ _ _, _, _, _, _ => False
  | .disp _ _, _, _, _, _ => False
def wA (T : Nat → Str) (F : CallW A) : List CE → Env A → PH A → (List (D A) → PH A → Prop) → QE A → Prop
  | [], _, h, Q, _ => Q [] h
  | e :: es, σ, h, Q, E => wE T F e σ h (fun d h1 => wA T F es σ h1 (fun ds h2 => Q (d :: ds) h2) E) E
def wT (T : Nat → Str) (F : CallW A) : CT → Env A → PH A → (Bool → PH A → Prop) → QE A → Prop
  | .and_ a b, σ, h, Q, E => wT T F a σ h (fun c h1 => if c = true then wT T F b σ h1 Q E else Q false h1) E
  | .or_ a b, σ, h, Q, E => wT T F a σ h (fun c h1 => if c = true then Q true h1 else wT T F b σ h1 Q E) E
  | .not_ a, σ, h, Q, E => wT T F a σ h (fun c h1 => Q (!c) h1) E
  | .cmp o a b, σ, h, Q, E => wE T F a σ h (fun x h1 => wE T F b σ h1 (fun y h2 => on (cmpF o x y h2) fun c => Q c h2) E) E
  | .chain o p a b c, σ, h, Q, E => wE T F a σ h (fun x h1 => wE T F b σ h1 (fun y h2 => on (cmpF o x y h2) fun k =>
      if k = true then wE T F c σ h2 (fun z h3 => on (cmpF p y z h3) fun k' => Q k' h3) E else Q false h2) E) E
  | .val e, σ, h, Q, E => wE T F e σ h (fun x h1 => on (truth h1 x) fun c => Q c h1) E
def wTs (T : Nat → Str) (F : CallW A) : List CT → Env A → PH A → (Bool → PH A → Prop) → QE A → Prop
  | [], _, h, Q, _ => Q true h
  | e :: _, σ, h, Q, E => wT T F e σ h Q E
def wI (T : Nat → Str) (F : CallW A) : CI → Env A → PH A → KI A → QE A → Prop
  | .range1 a, σ, h, K, E => wE T F a σ h (fun x h1 => on (rngF (.int 0) x) fun ds => K ds none h1) E
  | .range2 a b, σ, h, K, E => wE T F a σ h (fun x h1 => wE T F b σ h1 (fun y h2 => on (rngF x y) fun ds => K ds none h2) E) E
  | .enum _, _, _, _, _ => False
  | .val e, σ, h, K, E => wE T F e σ h (fun x h1 => on (iterF x h1) fun p => K p.1 p.2 h1) E
end
/-! ### statements -/
/-- what is wanted behind: on, handed back, broken off, raised -/
structure KS (A : Type) where
  nx : Env A → PH A → Prop
  rt : QD A
  bk : Env A → PH A → Prop
  er : Nat → Env A → PH A → Prop
def loopL (st : Option (A × O A)) (tg : List Nat) (body : Env A → PH A → KS A → Prop) : List (D A) → Env A → PH A → KS A → Prop
  | [], σ, h, K => stays st h ∧ K.nx σ h
  | d :: ds, σ, h, K => stays st h ∧ on (tgF tg d σ) fun σ1 => body σ1 h { K with nx := fun σ2 h2 => loopL st tg body ds σ2 h2 K, bk := K.nx }
mutual
def wS (T : Nat → Str) (F : CallW A) : CS → Env A → PH A → KS A → Prop
  | .pass, σ, h, K => K.nx σ h
  | .expr e, σ, h, K => wE T F e σ h (fun _ h1 => K.nx σ h1) fun c h1 => K.er c σ h1
  | .ret e, σ, h, K => wE T F e σ h K.rt fun c h1 => K.er c σ h1
  | .retN, _, h, K => K.rt .non h
  | .brk, σ, h, K => K.bk σ h
  | .set tg e, σ, h, K => wE T F e σ h (fun d h1 => on (tgF tg d σ) fun σ1 => K.nx σ1 h1) fun c h1 => K.er c σ h1
  | .par is es, σ, h, K => wA T F es σ h (fun ds h1 => on (setAll σ is ds) fun σ1 => K.nx σ1 h1) fun c h1 => K.er c σ h1
  | .setSub o i e, σ, h, K => wE T F e σ h (fun v h1 => wE T F o σ h1 (fun x h2 => wE T F i σ h2 (fun y h3 => on (setF x y v h3) fun h4 => K.nx σ h4) fun c h1 => K.er c σ h1) fun c h1 => K.er c σ h1) fun c h1 => K.er c σ h1
  | .augVar i o e, σ, h, K => on σ[i]?.join fun x => wE T F e σ h (fun y h1 => on (binF o x y) fun z => K.nx (σ.set i (some z)) h1) fun c h1 => K.er c σ h1
  | .setFld _ _ _, _, _, _ => False
  | .augFld _ _ _ _, _, _, _ => False
  | .augSub _ _ _ _, _, _, _ => False
  | .del _ _, _, _, _ => False
  | .ite t a b, σ, h, K => wT T F t σ h (fun c h1 => if c = true then wSs T F a σ h1 K else wSs T F b σ h1 K) fun c h1 => K.er c σ h1
  | .for_ tg it body, σ, h, K => wI T F it σ h (fun ds st h1 => loopL st tg (fun σ2 h2 K2 => wSs T F body σ2 h2 K2) ds σ h1 K) fun c h1 => K.er c σ h1
  | .raise c, σ, h, K => K.er c σ h
  | .try_ _ _ _, _, _, _ => False
  | .never, _, _, _ => False
def wSs (T : Nat → Str) (F : CallW A) : List CS → Env A → PH A → KS A → Prop
  | [], σ, h, K => K.nx σ h
  | s :: ss, σ, h, K => wS T F s σ h { K with nx := fun σ1 h1 => wSs T F ss σ1 h1 K }
end
end
end Cq
namespace Cq
open PySem PySem.Spec PyProof.Rows L2

section
variable {A : Type} [DecidableEq A]

/-! ### more is wanted of less -/
def MonoF (F : CallW A) : Prop := ∀ f ds h (Q Q' : QD A) (E E' : QE A), (∀ d h, Q d h → Q' d h) → (∀ k h, E k h → E' k h) → F f ds h Q E → F f ds h Q' E'
variable {T : Nat → Str} {F : CallW A}
theorem newL_mono {ds : List (D A)} {h : PH A} {Q Q' : QD A} (hq : ∀ d h, Q d h → Q' d h) : newL ds h Q → newL ds h Q'
  | .inl q => .inl (hq _ _ q)
  | .inr ⟨a, n, q⟩ => .inr ⟨a, n, hq _ _ q⟩
theorem ite_mono {c : Bool} {P Q P' Q' : Prop} (h1 : P → P') (h2 : Q → Q') (w : if c = true then P else Q) : if c = true then P' else Q' := by
  cases c with
  | true => exact h1 w
  | false => exact h2 w
theorem compL_mono {st : Option (A × O A)} {turn turn' : D A → PH A → (Option (D A) → PH A → Prop) → Prop} (ht : ∀ d h K K', (∀ r h, K r h → K' r h) → turn d h K → turn' d h K') : ∀ (ds acc : List (D A)) (h : PH A) (Q Q' : List (D A) → PH A → Prop),
    (∀ l h, Q l h → Q' l h) → compL st turn ds acc h Q → compL st turn' ds acc h Q'
  | [], acc, h, Q, Q', hq, w => ⟨w.1, hq _ _ w.2⟩
  | d :: ds, acc, h, Q, Q', hq, w => ⟨w.1, ht _ _ _ _ (fun r h1 q => by
      cases r with
      | none => exact compL_mono ht ds acc h1 Q Q' hq q
      | some x => exact ⟨q.1, compL_mono ht ds (acc ++ [x]) h1 Q Q' hq q.2⟩) w.2⟩
mutual
theorem wE_mono (hF : MonoF F) : ∀ (c : CE) {σ : Env A} {h : PH A} {Q Q' : QD A} {E E' : QE A}, (∀ d h, Q d h → Q' d h) → (∀ k h, E k h → E' k h) → wE T F c σ h Q E → wE T F c σ h Q' E'
  | .var i, σ, h, Q, Q', E, E', hq, he, w => on_mono (fun d q => hq _ _ q) w
  | .int i, σ, h, Q, Q', E, E', hq, he, w => hq _ _ w
  | .bl i, σ, h, Q, Q', E, E', hq, he, w => hq _ _ w
  | .non, σ, h, Q, Q', E, E', hq, he, w => hq _ _ w
  | .str i, σ, h, Q, Q', E, E', hq, he, w => hq _ _ w
  | .tup es, σ, h, Q, Q', E, E', hq, he, w => wA_mono hF es (fun _ _ q => ⟨q.1, hq _ _ q.2⟩) he w
  | .list es, σ, h, Q, Q', E, E', hq, he, w => wA_mono hF es (fun _ _ q => ⟨q.1, newL_mono hq q.2⟩) he w
  | .bin o a b, σ, h, Q, Q', E, E', hq, he, w => wE_mono hF a (fun _ _ q => wE_mono hF b (fun _ _ q => on_mono (fun _ q => hq _ _ q) q) he q) he w
  | .neg a, σ, h, Q, Q', E, E', hq, he, w => wE_mono hF a (fun x _ q => on_mono (fun _ q => hq _ _ q) q) he w
  | .cmp o a b, σ, h, Q, Q', E, E', hq, he, w => wE_mono hF a (fun _ _ q => wE_mono hF b (fun _ _ q => on_mono (fun _ q => hq _ _ q) q) he q) he w
  | .and_ a b, σ, h, Q, Q', E, E', hq, he, w => wE_mono hF a (fun x _ q => on_mono (fun c q => ite_mono (wE_mono hF b hq he) (hq _ _) q) q) he w
  | .or_ a b, σ, h, Q, Q', E, E', hq, he, w => wE_mono hF a (fun x _ q => on_mono (fun c q => ite_mono (hq _ _) (wE_mono hF b hq he) q) q) he w
  | .not_ a, σ, h, Q, Q', E, E', hq, he, w => wE_mono hF a (fun x _ q => on_mono (fun _ q => hq _ _ q) q) he w
  | .ite t a b, σ, h, Q, Q', E, E', hq, he, w => wT_mono hF t (fun c _ q => ite_mono (wE_mono hF a hq he) (wE_mono hF b hq he) q) he w
  | .sub a b, σ, h, Q, Q', E, E', hq, he, w => wE_mono hF a (fun _ _ q => wE_mono hF b (fun _ _ q => on_mono (fun _ q => hq _ _ q) q) he q) he w
  | .call f es, σ, h, Q, Q', E, E', hq, he, w => wA_mono hF es (fun _ _ q => hF _ _ _ _ _ _ _ hq he q) he w
  | .bi b es, σ, h, Q, Q', E, E', hq, he, w => wA_mono hF es (fun _ _ q => on_mono (fun _ q => hq _ _ q) q) he w
  | .bm m o es, σ, h, Q, Q', E, E', hq, he, w => wE_mono hF o (fun _ _ q => ⟨q.1, wA_mono hF es (fun _ _ q => on_mono (fun _ q => hq _ _ q) q) he q.2⟩) he w
  | .comp it tg vs ts e, σ, h, Q, Q', E, E', hq, he, w => by
    unfold wE at w ⊢
    refine wI_mono hF it (fun ds st h1 q => ?_) he w
    refine compL_mono (fun d h K K' hk q => ?_) ds [] h1 _ _ (fun _ _ q => newL_mono hq q) q
    refine on_mono (fun σ2 q => ?_) q
    refine wTs_mono hF ts (fun c h3 q => ?_) (fun _ _ z => z) q
    exact ite_mono (fun q => wE_mono hF e (fun y h4 q => hk _ _ q) (fun _ _ z => z) q) (hk _ _) q
  | .slice _ _ _, σ, h, Q, Q', E, E', hq, he, w => w
  | .fld _ _, σ, h, Q, Q', E, E', hq, he, w => w
  | .meth _ _ _, σ, h, Q, Q', E, E', hq, he, w => w
  | .mk _ _, σ, h, Q, Q', E, E', hq, he, w => w
  | .dcomp _ _ _ _ _, σ, h, Q, Q', E, E', hq, he, w => w
  | .disp _ _, σ, h, Q, Q', E, E', hq, he, w => w
theorem wA_mono (hF : MonoF F) : ∀ (es : List CE) {σ : Env A} {h : PH A} {Q Q' : List (D A) → PH A → Prop} {E E' : QE A}, (∀ d h, Q d h → Q' d h) → (∀ k h, E k h → E' k h) → wA T F es σ h Q E → wA T F es σ h Q' E'
  | [], σ, h, Q, Q', E, E', hq, he, w => hq _ _ w
  | e :: es, σ, h, Q, Q', E, E', hq, he, w => wE_mono hF e (fun _ _ q => wA_mono hF es (fun _ _ q => hq _ _ q) he q) he w
theorem wT_mono (hF : MonoF F) : ∀ (c : CT) {σ : Env A} {h : PH A} {Q Q' : Bool → PH A → Prop} {E E' : QE A}, (∀ d h, Q d h → Q' d h) → (∀ k h, E k h → E' k h) → wT T F c σ h Q E → wT T F c σ h Q' E'
  | .and_ a b, σ, h, Q, Q', E, E', hq, he, w => wT_mono hF a (fun c _ q => ite_mono (wT_mono hF b hq he) (hq _ _) q) he w
  | .or_ a b, σ, h, Q, Q', E, E', hq, he, w => wT_mono hF a (fun c _ q => ite_mono (hq _ _) (wT_mono hF b hq he) q) he w
  | .not_ a, σ, h, Q, Q', E, E', hq, he, w => wT_mono hF a (fun c _ q => hq _ _ q) he w
  | .cmp o a b, σ, h, Q, Q', E, E', hq, he, w => wE_mono hF a (fun _ _ q => wE_mono hF b (fun _ _ q => on_mono (fun _ q => hq _ _ q) q) he q) he w
  | .chain o p a b c, σ, h, Q, Q', E, E', hq, he, w => wE_mono hF a (fun _ _ q => wE_mono hF b (fun _ _ q => on_mono (fun k q => ite_mono (wE_mono hF c (fun _ _ q => on_mono (fun _ q => hq _ _ q) q) he) (hq _ _) q) q) he q) he w
  | .val e, σ, h, Q, Q', E, E', hq, he, w => wE_mono hF e (fun x h1 q => on_mono (fun _ q => hq _ _ q) q) he w
theorem wTs_mono (hF : MonoF F) : ∀ (es : List CT) {σ : Env A} {h : PH A} {Q Q' : Bool → PH A → Prop} {E E' : QE A}, (∀ d h, Q d h → Q' d h) → (∀ k h, E k h → E' k h) → wTs T F es σ h Q E → wTs T F es σ h Q' E'
  | [], σ, h, Q, Q', E, E', hq, he, w => hq _ _ w
  | e :: _, σ, h, Q, Q', E, E', hq, he, w => wT_mono hF e hq he w
theorem wI_mono (hF : MonoF F) : ∀ (c : CI) {σ : Env A} {h : PH A} {K K' : KI A} {E E' : QE A}, (∀ ds st h, K ds st h → K' ds st h) → (∀ k h, E k h → E' k h) → wI T F c σ h K E → wI T F c σ h K' E'
  | .range1 a, σ, h, Q, Q', E, E', hq, he, w => wE_mono hF a (fun _ _ q => on_mono (fun _ q => hq _ _ _ q) q) he w
  | .range2 a b, σ, h, Q, Q', E, E', hq, he, w => wE_mono hF a (fun _ _ q => wE_mono hF b (fun _ _ q => on_mono (fun _ q => hq _ _ _ q) q) he q) he w
  | .enum _, σ, h, Q, Q', E, E', hq, he, w => w
  | .val e, σ, h, Q, Q', E, E', hq, he, w => wE_mono hF e (fun _ _ q => on_mono (fun _ q => hq _ _ _ q) q) he w
end
structure KS.Le (K K' : KS A) : Prop where
  nx : ∀ σ h, K.nx σ h → K'.nx σ h
  rt : ∀ d h, K.rt d h → K'.rt d h
  bk : ∀ σ h, K.bk σ h → K'.bk σ h
  er : ∀ c σ h, K.er c σ h → K'.er c σ h
theorem loopL_mono {st : Option (A × O A)} {tg : List Nat} {body : Env A → PH A → KS A → Prop} (hb : ∀ σ h K K', K.Le K' → body σ h K → body σ h K') : ∀ (ds : List (D A)) (σ : Env A) (h : PH A) {K K' : KS A}, K.Le K' → loopL st tg body ds σ h K → loopL st tg body ds σ h K'
  | [], σ, h, K, K', l, w => ⟨w.1, l.nx _ _ w.2⟩
  | d :: ds, σ, h, K, K', l, w => by
    refine ⟨w.1, on_mono (fun σ1 q => ?_) w.2⟩
    refine hb _ _ _ _ ?_ q
    exact ⟨fun σ2 h2 q => loopL_mono hb ds σ2 h2 l q, l.rt, l.nx, l.er⟩
mutual
theorem wS_mono (hF : MonoF F) : ∀ (c : CS) {σ : Env A} {h : PH A} {K K' : KS A}, K.Le K' → wS T F c σ h K → wS T F c σ h K'
  | .pass, σ, h, K, K', l, w => l.nx _ _ w
  | .expr e, σ, h, K, K', l, w => wE_mono hF e (fun _ _ q => l.nx _ _ q) (fun _ _ q => l.er _ _ _ q) w
  | .ret e, σ, h, K, K', l, w => wE_mono hF e (fun _ _ q => l.rt _ _ q) (fun _ _ q => l.er _ _ _ q) w
  | .retN, σ, h, K, K', l, w => l.rt _ _ w
  | .brk, σ, h, K, K', l, w => l.bk _ _ w
  | .set tg e, σ, h, K, K', l, w => wE_mono hF e (fun _ _ q => on_mono (fun _ q => l.nx _ _ q) q) (fun _ _ q => l.er _ _ _ q) w
  | .par is es, σ, h, K, K', l, w => wA_mono hF es (fun _ _ q => on_mono (fun _ q => l.nx _ _ q) q) (fun _ _ q => l.er _ _ _ q) w
  | .setSub o i e, σ, h, K, K', l, w => wE_mono hF e (fun _ _ q => wE_mono hF o (fun _ _ q => wE_mono hF i (fun _ _ q => on_mono (fun _ q => l.nx _ _ q) q) (fun _ _ q => l.er _ _ _ q) q) (fun _ _ q => l.er _ _ _ q) q) (fun _ _ q => l.er _ _ _ q) w
  | .augVar i o e, σ, h, K, K', l, w => on_mono (fun _ q => wE_mono hF e (fun _ _ q => on_mono (fun _ q => l.nx _ _ q) q) (fun _ _ q => l.er _ _ _ q) q) w
  | .setFld _ _ _, σ, h, K, K', l, w => w
  | .augFld _ _ _ _, σ, h, K, K', l, w => w
  | .augSub _ _ _ _, σ, h, K, K', l, w => w
  | .del _ _, σ, h, K, K', l, w => w
  | .ite t a b, σ, h, K, K', l, w => wT_mono hF t (fun c _ q => ite_mono (wSs_mono hF a l) (wSs_mono hF b l) q) (fun _ _ q => l.er _ _ _ q) w
  | .for_ tg it body, σ, h, K, K', l, w => by
    unfold wS at w ⊢
    refine wI_mono hF it (fun ds st h1 q => ?_) (fun _ _ q => l.er _ _ _ q) w
    exact loopL_mono (body := fun σ2 h2 K2 => wSs T F body σ2 h2 K2) (fun σ h K K' l q => wSs_mono hF body l q) ds σ h1 l q
  | .raise c, σ, h, K, K', l, w => l.er _ _ _ w
  | .try_ _ _ _, σ, h, K, K', l, w => w
  | .never, σ, h, K, K', l, w => w
theorem wSs_mono (hF : MonoF F) : ∀ (c : List CS) {σ : Env A} {h : PH A} {K K' : KS A}, K.Le K' → wSs T F c σ h K → wSs T F c σ h K'
  | [], σ, h, K, K', l, w => l.nx _ _ w
  | s :: ss, σ, h, K, K', l, w => by
    unfold wSs at w ⊢
    refine wS_mono hF s ?_ w
    exact ⟨fun σ1 h1 q => wSs_mono hF ss l q, l.rt, l.bk, l.er⟩
end
end

/-! ### values and heaps, and what stands for them -/
/-- the texts by their numbers -/
structure Tx where
  f : Nat → Str
  n : Nat
  inj : ∀ i j, i < n → j < n → f i = f j → i = j
  ok : ∀ i, i < n → (f i).cps.all (· < 0x110000) = true
/-- what is fixed: the written part, the texts, the fields' names, the classes -/
structure Gx where
  K : PySem.W.Frag
  tx : Tx
  fl : Tx
  cl : Nat → Addr
section
variable {A : Type} [DecidableEq A] (G : Gx)
/-- where the objects stand; the lists that are being made -/
structure Rh (A : Type) where
  f : A → Addr
  z : Addr → Prop
instance : CoeFun (Rh A) (fun _ => A → Addr) := ⟨Rh.f⟩
def Img (ρ : Rh A) (h : PH A) (a : Addr) : Prop := ρ.z a ∨ ∃ r, h r ≠ none ∧ ρ r = a
/-- a list that stays -/
def FzL (ρ : Rh A) (h : PH A) (H : Hp) (a : Addr) (vs : List V) : Prop :=
  (Rd H a (.lst vs) ∧ ¬ Img ρ h a) ∨ ∃ (o : Obj) (its : Array Value) (n : Nat), G.K.lookup a = some o ∧ o.cls = .type "list" ∧ o.dict = none ∧ o.data = .seq its n ∧ its.size ≤ sizeLine ∧ Vals vs its.toList
mutual
def Rep (ρ : Rh A) (h : PH A) (H : Hp) : D A → V → Prop
  | .non, v => v = .non
  | .bl b, v => v = .bl b
  | .int i, v => v = .int i
  | .str k, v => v = .str (G.tx.f k) ∧ k < G.tx.n
  | .txt s, v => v = .str s
  | .tup ds, v => ∃ a vs, v = .ref a ∧ SqT G.K H a vs ∧ Reps ρ h H ds vs
  | .lst ds, v => ∃ a vs, v = .ref a ∧ FzL G ρ h H a vs ∧ Reps ρ h H ds vs
  | .ref r, v => v = .ref (ρ r) ∧ h r ≠ none
def Reps (ρ : Rh A) (h : PH A) (H : Hp) : List (D A) → List V → Prop
  | [], vs => vs = []
  | d :: ds, vs => ∃ v r, vs = v :: r ∧ Rep ρ h H d v ∧ Reps ρ h H ds r
end
def Imm : HO → Prop
  | .lst _ => True
  | .tup _ => True
  | .frz _ _ => True
  | _ => False
structure Ext (ρ : Rh A) (h : PH A) (H : Hp) (ρ' : Rh A) (h' : PH A) (H' : Hp) : Prop where
  dom : ∀ r, h r ≠ none → h' r ≠ none ∧ ρ' r = ρ r
  new : ∀ r, h r = none → h' r ≠ none → H (ρ' r) = none
  imm : ∀ a o, H a = some o → Imm o → ¬ Img ρ h a → H' a = some o
  grow : ∀ a, H a ≠ none → H' a ≠ none
  zz : ρ'.z = ρ.z
  zst : ∀ a, ρ.z a → H' a = H a
def RepF (ρ : Rh A) (h : PH A) (H : Hp) : List (Nat × D A) → List (Str × V) → Prop
  | [], vs => vs = []
  | (k, d) :: fs, vs => ∃ v r, vs = (G.fl.f k, v) :: r ∧ k < G.fl.n ∧ Rep G ρ h H d v ∧ RepF ρ h H fs r
def RepO (ρ : Rh A) (h : PH A) (H : Hp) : O A → HO → Prop
  | .lst ds, o => ∃ vs, o = .lst vs ∧ Reps G ρ h H ds vs
  | .ins c fs, o => ∃ dx vs, o = .ins (G.cl c) dx vs ∧ RepF G ρ h H fs vs
  | .dic _, _ => False
structure Sim (ρ : Rh A) (h : PH A) (H : Hp) : Prop where
  obj : ∀ r o, h r = some o → ∃ u, H (ρ r) = some u ∧ RepO G ρ h H o u
  inj : ∀ r r', h r ≠ none → h r' ≠ none → ρ r = ρ r' → r = r'
  zin : ∀ a, ρ.z a → H a ≠ none
  zout : ∀ r, h r ≠ none → ¬ ρ.z (ρ r)
structure EnvR (ρ : Rh A) (h : PH A) (H : Hp) (env : Env A) (σ : L2.St) : Prop where
  len : env.length = σ.length
  at_ : ∀ (i : Nat) d, env[i]? = some (some d) → ∃ v, σ[i]? = some (some v) ∧ Rep G ρ h H d v
end
section
variable {A : Type} [DecidableEq A] {G : Gx} {ρ ρ' ρ'' : Rh A} {h h' h'' : PH A} {H H' H'' : Hp}
theorem Ext.refl : Ext ρ h H ρ h H := ⟨fun _ q => ⟨q, rfl⟩, fun _ q q' => (q' q).elim, fun _ _ q _ _ => q, fun _ q => q, rfl, fun _ _ => rfl⟩
theorem Ext.img (x : Ext ρ h H ρ' h' H') {a : Addr} (n : ¬ Img ρ h a) (q : H a ≠ none) : ¬ Img ρ' h' a := fun i => by
  rcases i with i | ⟨r, hr, e⟩
  · rw [x.zz] at i; exact n (.inl i)
  · by_cases z : h r = none
    · exact q (e ▸ x.new r z hr)
    · exact n (.inr ⟨r, z, (x.dom r z).2.symm.trans e⟩)
theorem Ext.trans (x : Ext ρ h H ρ' h' H') (y : Ext ρ' h' H' ρ'' h'' H'') : Ext ρ h H ρ'' h'' H'' where
  dom := fun r q => let ⟨a, b⟩ := x.dom r q; let ⟨c, d⟩ := y.dom r a; ⟨c, d.trans b⟩
  new := fun r q q' => by
    by_cases z : h' r = none
    · have e := y.new r z q'
      cases e2 : H (ρ'' r) with
      | none => rfl
      | some o => exact (x.grow _ (by rw [e2]; exact fun z => nomatch z) e).elim
    · rw [(y.dom r z).2]; exact x.new r q z
  imm := fun a o q i n => y.imm a o (x.imm a o q i n) i (x.img n (by rw [q]; exact fun z => nomatch z))
  grow := fun a q => y.grow a (x.grow a q)
  zz := y.zz.trans x.zz
  zst := fun a q => (y.zst a (by rw [x.zz]; exact q)).trans (x.zst a q)
theorem Ext.sqT {K : PySem.W.Frag} (x : Ext ρ h H ρ' h' H') (s : Sim G ρ h H) {a : Addr} {vs : List V} (q : SqT K H a vs) : SqT K H' a vs := by
  have ni : ∀ o, H a = some o → Imm o → (∀ C dx fs, o ≠ .ins C dx fs) → (∀ l, o ≠ .lst l) → H' a = some o := fun o e im n1 n2 => by
    by_cases z : ρ.z a
    · rw [x.zst a z]; exact e
    refine x.imm _ _ e im fun i => ?_
    rcases i with i | ⟨r, hr, er⟩
    · exact z i
    cases er
    cases e2 : h r with
    | none => exact hr e2
    | some u =>
      obtain ⟨v, ev, ru⟩ := s.obj r u e2
      rw [e] at ev; cases ev
      cases u with
      | lst ds => obtain ⟨l, e3, _⟩ := ru; exact n2 l e3
      | dic ds => exact ru
      | ins c fs => obtain ⟨dx, l, e3, _⟩ := ru; exact n1 _ _ _ e3
  rcases q with (q | ⟨o, q⟩) | q
  · exact .inl (.inl (ni _ q trivial (fun _ _ _ z => nomatch z) fun _ z => nomatch z))
  · exact .inl (.inr ⟨o, ni _ q trivial (fun _ _ _ z => nomatch z) fun _ z => nomatch z⟩)
  · exact .inr q
theorem Ext.fzL (x : Ext ρ h H ρ' h' H') {a : Addr} {vs : List V} (q : FzL G ρ h H a vs) : FzL G ρ' h' H' a vs := by
  rcases q with ⟨q | ⟨o, q⟩, n⟩ | q
  · exact .inl ⟨.inl (x.imm _ _ q trivial n), x.img n (by rw [q]; exact fun z => nomatch z)⟩
  · exact .inl ⟨.inr ⟨o, x.imm _ _ q trivial n⟩, x.img n (by rw [q]; exact fun z => nomatch z)⟩
  · exact .inr q
/-- what values lean on is carried -/
structure Mv (G : Gx) (ρ : Rh A) (h : PH A) (H : Hp) (ρ' : Rh A) (h' : PH A) (H' : Hp) : Prop where
  dom : ∀ r, h r ≠ none → h' r ≠ none ∧ ρ' r = ρ r
  fz : ∀ a vs, FzL G ρ h H a vs → FzL G ρ' h' H' a vs
  tq : ∀ a vs, SqT G.K H a vs → SqT G.K H' a vs
theorem Ext.mv (x : Ext ρ h H ρ' h' H') (s : Sim G ρ h H) : Mv G ρ h H ρ' h' H' := ⟨x.dom, fun _ _ q => x.fzL q, fun _ _ q => x.sqT s q⟩
mutual
theorem Rep.mv (x : Mv G ρ h H ρ' h' H') : ∀ {d : D A} {v : V}, Rep G ρ h H d v → Rep G ρ' h' H' d v
  | .non, _, q => q
  | .bl _, _, q => q
  | .int _, _, q => q
  | .str _, _, q => q
  | .txt _, _, q => q
  | .tup ds, _, ⟨a, vs, e, q, r⟩ => ⟨a, vs, e, x.tq _ _ q, Reps.mv x r⟩
  | .lst ds, _, ⟨a, vs, e, q, r⟩ => ⟨a, vs, e, x.fz _ _ q, Reps.mv x r⟩
  | .ref r, _, ⟨e, q⟩ => ⟨by rw [e, (x.dom r q).2], (x.dom r q).1⟩
theorem Reps.mv (x : Mv G ρ h H ρ' h' H') : ∀ {ds : List (D A)} {vs : List V}, Reps G ρ h H ds vs → Reps G ρ' h' H' ds vs
  | [], _, q => q
  | d :: ds, _, ⟨v, r, e, q, q2⟩ => ⟨v, r, e, Rep.mv x q, Reps.mv x q2⟩
end
theorem RepF.mv (x : Mv G ρ h H ρ' h' H') : ∀ {fs : List (Nat × D A)} {vs : List (Str × V)}, RepF G ρ h H fs vs → RepF G ρ' h' H' fs vs
  | [], _, q => q
  | (k, d) :: fs, _, ⟨v, r, e, kk, q, q2⟩ => ⟨v, r, e, kk, q.mv x, RepF.mv x q2⟩
theorem RepO.mv (x : Mv G ρ h H ρ' h' H') {o : O A} {u : HO} (q : RepO G ρ h H o u) : RepO G ρ' h' H' o u := by
  cases o with
  | lst ds => obtain ⟨l, e, r⟩ := q; exact ⟨l, e, Reps.mv x r⟩
  | dic ds => exact q
  | ins c fs => obtain ⟨dx, l, e, r⟩ := q; exact ⟨dx, l, e, RepF.mv x r⟩
theorem EnvR.mv (x : Mv G ρ h H ρ' h' H') {env : Env A} {σ : L2.St} (e : EnvR G ρ h H env σ) : EnvR G ρ' h' H' env σ :=
  ⟨e.len, fun i d q => let ⟨v, a, b⟩ := e.at_ i d q; ⟨v, a, b.mv x⟩⟩
theorem Rep.ext (x : Ext ρ h H ρ' h' H') (s : Sim G ρ h H) {d : D A} {v : V} (q : Rep G ρ h H d v) : Rep G ρ' h' H' d v := q.mv (x.mv s)
theorem Reps.ext (x : Ext ρ h H ρ' h' H') (s : Sim G ρ h H) {ds : List (D A)} {vs : List V} (q : Reps G ρ h H ds vs) : Reps G ρ' h' H' ds vs := q.mv (x.mv s)
theorem EnvR.ext (x : Ext ρ h H ρ' h' H') (s : Sim G ρ h H) {env : Env A} {σ : L2.St} (e : EnvR G ρ h H env σ) : EnvR G ρ' h' H' env σ := e.mv (x.mv s)
theorem RepO.ext (x : Ext ρ h H ρ' h' H') (s : Sim G ρ h H) {o : O A} {u : HO} (q : RepO G ρ h H o u) : RepO G ρ' h' H' o u := q.mv (x.mv s)
end
end Cq
namespace Cq
open PySem PySem.Spec PyProof.Rows L2
section
variable {A : Type} [DecidableEq A] {G : Gx} {ρ ρ' ρ'' : Rh A} {h h' h'' : PH A} {H H' H'' : Hp}

/-! ### data -/
theorem FzL.sq {a : Addr} {vs : List V} (q : FzL G ρ h H a vs) : SqL G.K H a vs := by
  rcases q with ⟨q, _⟩ | q
  · exact .inl q
  · exact .inr q
mutual
theorem Rep.dp : ∀ {d : D A} {v : V} {p : PyData}, Rep G ρ h H d v → pd G.tx.f d = some p → Dp G.K H v p
  | .non, _, _, r, e => by cases e; cases r; exact .non
  | .bl b, _, _, r, e => by cases e; cases r; exact .bl b
  | .int b, _, _, r, e => by cases e; cases r; exact .int b
  | .str b, _, _, r, e => by cases e; obtain ⟨r, _⟩ := r; cases r; exact .str _
  | .txt b, _, _, r, e => by cases e; cases r; exact .str _
  | .tup ds, _, p, r, e => by
    obtain ⟨a, vs, rfl, q, r⟩ := r
    unfold pd at e
    obtain ⟨ps, e1, rfl⟩ := Option.map_eq_some_iff.mp e
    exact .tup q (Reps.dp r e1)
  | .lst ds, _, p, r, e => by
    obtain ⟨a, vs, rfl, q, r⟩ := r
    unfold pd at e
    obtain ⟨ps, e1, rfl⟩ := Option.map_eq_some_iff.mp e
    exact .lst q.sq (Reps.dp r e1)
  | .ref _, _, _, _, e => by cases e
theorem Reps.dp : ∀ {ds : List (D A)} {vs : List V} {ps : List PyData}, Reps G ρ h H ds vs → pds G.tx.f ds = some ps → DpAll G.K H vs ps
  | [], _, _, r, e => by cases e; cases r; exact .nil
  | d :: ds, _, ps, r, e => by
    obtain ⟨v, vs, rfl, r1, r2⟩ := r
    unfold pds at e
    split at e
    · rename_i x xs e1 e2
      cases e
      exact .cons (Rep.dp r1 e1) (Reps.dp r2 e2)
    · cases e
end
/-- a value as it is walked, a list of the heap as a list -/
theorem Sim.lst (s : Sim G ρ h H) {a : A} {ds : List (D A)} (e : getL h a = some ds) : ∃ vs, H (ρ a) = some (.lst vs) ∧ Reps G ρ h H ds vs := by
  obtain ⟨u, hu, vs, rfl, rs⟩ := s.obj a _ (getL_iff.mp e)
  exact ⟨vs, hu, rs⟩
theorem Sim.top (s : Sim G ρ h H) {d : D A} {v : V} (r : Rep G ρ h H d v) {p : PyData} (e : pd G.tx.f (Cq.top h d) = some p) : Dp G.K H v p := by
  cases d with
  | ref a =>
    obtain ⟨rfl, hn⟩ := r
    cases e2 : getL h a with
    | none =>
      have e' : Cq.top h (.ref a) = .ref a := by unfold Cq.top; simp only [e2]
      rw [e'] at e
      cases e
    | some ds =>
      have e' : Cq.top h (.ref a) = .lst ds := by unfold Cq.top; simp only [e2]
      rw [e'] at e
      obtain ⟨vs, hu, rs⟩ := s.lst e2
      unfold pd at e
      obtain ⟨ps, e1, rfl⟩ := Option.map_eq_some_iff.mp e
      exact .lst (SqL.of hu) (Reps.dp rs e1)
  | _ => exact r.dp e
mutual
theorem okD_pd : ∀ (n : Nat) (d : D A), okD n d = true → (∀ v, Rep G ρ h H d v → ∃ p, pd G.tx.f d = some p ∧ p.canLay0 = true ∧ p.depth ≤ n + 1)
  | n, .non, _, v, r => ⟨_, rfl, by cases n <;> rfl, by simp [PyData.depth]⟩
  | n, .bl b, _, v, r => ⟨_, rfl, by cases n <;> rfl, by simp [PyData.depth]⟩
  | n, .int b, _, v, r => ⟨_, rfl, by cases n <;> rfl, by simp [PyData.depth]⟩
  | n, .str b, _, v, r => ⟨_, rfl, by
      have := G.tx.ok b r.2
      simpa [PyData.canLay0, PyData.strOk] using this, by simp [PyData.depth]⟩
  | n, .txt b, e, v, r => by cases n <;> cases e
  | n, .ref b, e, v, r => by cases n <;> cases e
  | 0, .tup ds, e, v, r => by cases e
  | 0, .lst ds, e, v, r => by cases e
  | n + 1, .tup ds, e, v, r => by
    obtain ⟨a, vs, rfl, _, rs⟩ := r
    obtain ⟨ps, e1, e2, e3⟩ := okDs_pd n ds e vs rs
    exact ⟨.tuple ps, by unfold pd; rw [e1]; rfl, by simpa [PyData.canLay0] using e2, by simp only [PyData.depth]; omega⟩
  | n + 1, .lst ds, e, v, r => by
    obtain ⟨a, vs, rfl, _, rs⟩ := r
    obtain ⟨ps, e1, e2, e3⟩ := okDs_pd n ds e vs rs
    exact ⟨.list ps, by unfold pd; rw [e1]; rfl, by simpa [PyData.canLay0] using e2, by simp only [PyData.depth]; omega⟩
theorem okDs_pd : ∀ (n : Nat) (ds : List (D A)), okDs n ds = true → (∀ vs, Reps G ρ h H ds vs → ∃ ps, pds G.tx.f ds = some ps ∧ PyData.canLayAll0 ps = true ∧ PyData.depthAll ps ≤ n + 1)
  | n, [], _, vs, r => ⟨[], rfl, rfl, by simp [PyData.depthAll]⟩
  | n, d :: ds, e, vs, r => by
    obtain ⟨v, vs, rfl, r1, r2⟩ := r
    unfold okDs at e
    obtain ⟨e1, e2⟩ := Bool.and_eq_true_iff.mp e
    obtain ⟨p, a1, a2, a3⟩ := okD_pd n d e1 v r1
    obtain ⟨ps, b1, b2, b3⟩ := okDs_pd n ds e2 vs r2
    refine ⟨p :: ps, by unfold pds; rw [a1, b1], ?_, ?_⟩
    · simp only [PyData.canLayAll0, a2, b2, Bool.and_self]
    · simp only [PyData.depthAll]
      omega
end
mutual
/-- every written text has its number -/
def tn (n : Nat) : D A → Prop
  | .str k => k < n
  | .tup ds => tns n ds
  | .lst ds => tns n ds
  | _ => True
def tns (n : Nat) : List (D A) → Prop
  | [] => True
  | d :: ds => tn n d ∧ tns n ds
end
mutual
theorem Rep.tn : ∀ {d : D A} {v : V}, Rep G ρ h H d v → Cq.tn G.tx.n d
  | .non, _, _ => trivial
  | .bl _, _, _ => trivial
  | .int _, _, _ => trivial
  | .str _, _, r => r.2
  | .txt _, _, _ => trivial
  | .tup ds, _, ⟨_, _, _, _, r⟩ => Reps.tns r
  | .lst ds, _, ⟨_, _, _, _, r⟩ => Reps.tns r
  | .ref _, _, _ => trivial
theorem Reps.tns : ∀ {ds : List (D A)} {vs : List V}, Reps G ρ h H ds vs → Cq.tns G.tx.n ds
  | [], _, _ => trivial
  | d :: ds, _, ⟨_, _, _, r, r2⟩ => ⟨Rep.tn r, Reps.tns r2⟩
end
theorem top_ref {a : A} : Cq.top h (.ref a) = match getL h a with
    | some ds => .lst ds
    | none => .ref a := rfl
theorem Sim.topTn (s : Sim G ρ h H) {d : D A} {v : V} (r : Rep G ρ h H d v) : tn G.tx.n (Cq.top h d) := by
  cases d with
  | ref a =>
    rw [top_ref]
    split
    · rename_i ds e
      obtain ⟨vs, _, rs⟩ := s.lst e
      exact rs.tns
    · trivial
  | _ => exact r.tn
mutual
theorem eqb_eqv : ∀ (x y : D A) {c : Bool} {p q : PyData} {_x : Unit}, eqb x y = some c → pd G.tx.f x = some p → pd G.tx.f y = some q → tn G.tx.n x → tn G.tx.n y → PyData.eqv p q = c
  | .tup xs, .tup ys, c, p, q, _, e, e1, e2, r, r' => by
    unfold eqb at e
    unfold pd at e1 e2
    obtain ⟨ps, a1, rfl⟩ := Option.map_eq_some_iff.mp e1
    obtain ⟨qs, a2, rfl⟩ := Option.map_eq_some_iff.mp e2
    simp only [PyData.eqv]
    exact eqbs_eqv xs ys (c := c) (_x := ()) e a1 a2 r r'
  | .lst xs, .lst ys, c, p, q, _, e, e1, e2, r, r' => by
    unfold eqb at e
    unfold pd at e1 e2
    obtain ⟨ps, a1, rfl⟩ := Option.map_eq_some_iff.mp e1
    obtain ⟨qs, a2, rfl⟩ := Option.map_eq_some_iff.mp e2
    simp only [PyData.eqv]
    exact eqbs_eqv xs ys (c := c) (_x := ()) e a1 a2 r r'
  | .str i, .str j, c, p, q, _, e, e1, e2, r, r' => by
    cases e1; cases e2; cases e
    simp only [PyData.eqv]
    by_cases z : i = j
    · subst z; simp
    · have : G.tx.f i ≠ G.tx.f j := fun q => z (G.tx.inj i j r r' q)
      simp [z, this]
  | .non, .non, c, p, q, _, e, e1, e2, r, r' => by cases e1; cases e2; cases e; rfl
  | .bl _, .bl _, c, p, q, _, e, e1, e2, r, r' => by cases e1; cases e2; cases e; rfl
  | .int _, .int _, c, p, q, _, e, e1, e2, r, r' => by cases e1; cases e2; cases e; simp [PyData.eqv, Bool.beq_eq_decide_eq]
  | .txt _, .txt _, c, p, q, _, e, e1, e2, r, r' => by cases e1; cases e2; cases e; simp [PyData.eqv, Bool.beq_eq_decide_eq]
  | .bl _, .int _, c, p, q, _, e, e1, e2, r, r' => by cases e1; cases e2; cases e; rfl
  | .int _, .bl _, c, p, q, _, e, e1, e2, r, r' => by cases e1; cases e2; cases e; rfl
  | .ref _, _, c, p, q, _, e, e1, e2, r, r' => by cases e1
  | .tup _, .ref _, c, p, q, _, e, e1, e2, r, r' => by cases e2
  | .lst _, .ref _, c, p, q, _, e, e1, e2, r, r' => by cases e2
  | .str _, .ref _, c, p, q, _, e, e1, e2, r, r' => by cases e2
  | .non, .ref _, c, p, q, _, e, e1, e2, r, r' => by cases e2
  | .bl _, .ref _, c, p, q, _, e, e1, e2, r, r' => by cases e2
  | .int _, .ref _, c, p, q, _, e, e1, e2, r, r' => by cases e2
  | .txt _, .ref _, c, p, q, _, e, e1, e2, r, r' => by cases e2
  | .txt _, .tup _, c, p, q, _, e, e1, e2, r, r' => by cases e
  | .txt _, .lst _, c, p, q, _, e, e1, e2, r, r' => by cases e
  | .txt _, .str _, c, p, q, _, e, e1, e2, r, r' => by cases e
  | .txt _, .non, c, p, q, _, e, e1, e2, r, r' => by cases e
  | .txt _, .bl _, c, p, q, _, e, e1, e2, r, r' => by cases e
  | .txt _, .int _, c, p, q, _, e, e1, e2, r, r' => by cases e
  | .tup _, .txt _, c, p, q, _, e, e1, e2, r, r' => by cases e
  | .lst _, .txt _, c, p, q, _, e, e1, e2, r, r' => by cases e
  | .str _, .txt _, c, p, q, _, e, e1, e2, r, r' => by cases e
  | .non, .txt _, c, p, q, _, e, e1, e2, r, r' => by cases e
  | .bl _, .txt _, c, p, q, _, e, e1, e2, r, r' => by cases e
  | .int _, .txt _, c, p, q, _, e, e1, e2, r, r' => by cases e
  | .tup _, .lst _, c, p, q, _, e, e1, e2, r, r' => by cases e; unfold pd at e1; obtain ⟨ps, a1, rfl⟩ := Option.map_eq_some_iff.mp e1; unfold pd at e2; obtain ⟨qs, a2, rfl⟩ := Option.map_eq_some_iff.mp e2; first | rfl | simp only [PyData.eqv]
  | .tup _, .str _, c, p, q, _, e, e1, e2, r, r' => by cases e; unfold pd at e1; obtain ⟨ps, a1, rfl⟩ := Option.map_eq_some_iff.mp e1; cases e2; first | rfl | simp only [PyData.eqv]
  | .tup _, .non, c, p, q, _, e, e1, e2, r, r' => by cases e; unfold pd at e1; obtain ⟨ps, a1, rfl⟩ := Option.map_eq_some_iff.mp e1; cases e2; first | rfl | simp only [PyData.eqv]
  | .tup _, .bl _, c, p, q, _, e, e1, e2, r, r' => by cases e; unfold pd at e1; obtain ⟨ps, a1, rfl⟩ := Option.map_eq_some_iff.mp e1; cases e2; first | rfl | simp only [PyData.eqv]
  | .tup _, .int _, c, p, q, _, e, e1, e2, r, r' => by cases e; unfold pd at e1; obtain ⟨ps, a1, rfl⟩ := Option.map_eq_some_iff.mp e1; cases e2; first | rfl | simp only [PyData.eqv]
  | .lst _, .tup _, c, p, q, _, e, e1, e2, r, r' => by cases e; unfold pd at e1; obtain ⟨ps, a1, rfl⟩ := Option.map_eq_some_iff.mp e1; unfold pd at e2; obtain ⟨qs, a2, rfl⟩ := Option.map_eq_some_iff.mp e2; first | rfl | simp only [PyData.eqv]
  | .lst _, .str _, c, p, q, _, e, e1, e2, r, r' => by cases e; unfold pd at e1; obtain ⟨ps, a1, rfl⟩ := Option.map_eq_some_iff.mp e1; cases e2; first | rfl | simp only [PyData.eqv]
  | .lst _, .non, c, p, q, _, e, e1, e2, r, r' => by cases e; unfold pd at e1; obtain ⟨ps, a1, rfl⟩ := Option.map_eq_some_iff.mp e1; cases e2; first | rfl | simp only [PyData.eqv]
  | .lst _, .bl _, c, p, q, _, e, e1, e2, r, r' => by cases e; unfold pd at e1; obtain ⟨ps, a1, rfl⟩ := Option.map_eq_some_iff.mp e1; cases e2; first | rfl | simp only [PyData.eqv]
  | .lst _, .int _, c, p, q, _, e, e1, e2, r, r' => by cases e; unfold pd at e1; obtain ⟨ps, a1, rfl⟩ := Option.map_eq_some_iff.mp e1; cases e2; first | rfl | simp only [PyData.eqv]
  | .str _, .tup _, c, p, q, _, e, e1, e2, r, r' => by cases e; cases e1; unfold pd at e2; obtain ⟨qs, a2, rfl⟩ := Option.map_eq_some_iff.mp e2; first | rfl | simp only [PyData.eqv]
  | .str _, .lst _, c, p, q, _, e, e1, e2, r, r' => by cases e; cases e1; unfold pd at e2; obtain ⟨qs, a2, rfl⟩ := Option.map_eq_some_iff.mp e2; first | rfl | simp only [PyData.eqv]
  | .str _, .non, c, p, q, _, e, e1, e2, r, r' => by cases e; cases e1; cases e2; first | rfl | simp only [PyData.eqv]
  | .str _, .bl _, c, p, q, _, e, e1, e2, r, r' => by cases e; cases e1; cases e2; first | rfl | simp only [PyData.eqv]
  | .str _, .int _, c, p, q, _, e, e1, e2, r, r' => by cases e; cases e1; cases e2; first | rfl | simp only [PyData.eqv]
  | .non, .tup _, c, p, q, _, e, e1, e2, r, r' => by cases e; cases e1; unfold pd at e2; obtain ⟨qs, a2, rfl⟩ := Option.map_eq_some_iff.mp e2; first | rfl | simp only [PyData.eqv]
  | .non, .lst _, c, p, q, _, e, e1, e2, r, r' => by cases e; cases e1; unfold pd at e2; obtain ⟨qs, a2, rfl⟩ := Option.map_eq_some_iff.mp e2; first | rfl | simp only [PyData.eqv]
  | .non, .str _, c, p, q, _, e, e1, e2, r, r' => by cases e; cases e1; cases e2; first | rfl | simp only [PyData.eqv]
  | .non, .bl _, c, p, q, _, e, e1, e2, r, r' => by cases e; cases e1; cases e2; first | rfl | simp only [PyData.eqv]
  | .non, .int _, c, p, q, _, e, e1, e2, r, r' => by cases e; cases e1; cases e2; first | rfl | simp only [PyData.eqv]
  | .bl _, .tup _, c, p, q, _, e, e1, e2, r, r' => by cases e; cases e1; unfold pd at e2; obtain ⟨qs, a2, rfl⟩ := Option.map_eq_some_iff.mp e2; first | rfl | simp only [PyData.eqv]
  | .bl _, .lst _, c, p, q, _, e, e1, e2, r, r' => by cases e; cases e1; unfold pd at e2; obtain ⟨qs, a2, rfl⟩ := Option.map_eq_some_iff.mp e2; first | rfl | simp only [PyData.eqv]
  | .bl _, .str _, c, p, q, _, e, e1, e2, r, r' => by cases e; cases e1; cases e2; first | rfl | simp only [PyData.eqv]
  | .bl _, .non, c, p, q, _, e, e1, e2, r, r' => by cases e; cases e1; cases e2; first | rfl | simp only [PyData.eqv]
  | .int _, .tup _, c, p, q, _, e, e1, e2, r, r' => by cases e; cases e1; unfold pd at e2; obtain ⟨qs, a2, rfl⟩ := Option.map_eq_some_iff.mp e2; first | rfl | simp only [PyData.eqv]
  | .int _, .lst _, c, p, q, _, e, e1, e2, r, r' => by cases e; cases e1; unfold pd at e2; obtain ⟨qs, a2, rfl⟩ := Option.map_eq_some_iff.mp e2; first | rfl | simp only [PyData.eqv]
  | .int _, .str _, c, p, q, _, e, e1, e2, r, r' => by cases e; cases e1; cases e2; first | rfl | simp only [PyData.eqv]
  | .int _, .non, c, p, q, _, e, e1, e2, r, r' => by cases e; cases e1; cases e2; first | rfl | simp only [PyData.eqv]
theorem eqbs_eqv : ∀ (xs ys : List (D A)) {c : Bool} {ps qs : List PyData} {_x : Unit}, eqbs xs ys = some c → pds G.tx.f xs = some ps → pds G.tx.f ys = some qs → tns G.tx.n xs → tns G.tx.n ys → PyData.eqvAll ps qs = c
  | [], [], c, ps, qs, _, e, e1, e2, r, r' => by cases e; cases e1; cases e2; rfl
  | [], y :: ys, c, ps, qs, _, e, e1, e2, r, r' => by
    cases e; cases e1
    unfold pds at e2
    split at e2
    · cases e2; rfl
    · cases e2
  | x :: xs, [], c, ps, qs, _, e, e1, e2, r, r' => by
    cases e; cases e2
    unfold pds at e1
    split at e1
    · cases e1; rfl
    · cases e1
  | x :: xs, y :: ys, c, ps, qs, _, e, e1, e2, r, r' => by
    obtain ⟨r1, r2⟩ := r
    obtain ⟨r1', r2'⟩ := r'
    unfold pds at e1 e2
    split at e1
    · rename_i p ps a1 a2
      cases e1
      split at e2
      · rename_i q qs b1 b2
        cases e2
        simp only [PyData.eqvAll]
        unfold eqbs at e
        split at e
        · rename_i z
          rw [eqb_eqv x y (_x := ()) z a1 b1 r1 r1', eqbs_eqv xs ys (_x := ()) e a2 b2 r2 r2']
          rfl
        · rename_i z z2
          cases e
          rw [eqb_eqv x y (_x := ()) z a1 b1 r1 r1']
          rfl
        · cases e
      · cases e2
    · cases e1
end
end
end Cq
namespace Cq
open PySem PySem.Spec PyProof.Rows L2
section
variable {A : Type} [DecidableEq A] (G : Gx)
/-- what is wanted, of plain values -/
def LQ (ρ : Rh A) (h : PH A) (H : Hp) (Q : VK) : QD A := fun d h' => ∀ ρ' H' v, Ext ρ h H ρ' h' H' → Sim G ρ' h' H' → Rep G ρ' h' H' d v → Q v H'
def LE (W : WX) (ρ : Rh A) (h : PH A) (H : Hp) (σ : L2.St) : QE A := fun c h' => ∀ ρ' H', Ext ρ h H ρ' h' H' → Sim G ρ' h' H' → W (.ref (G.cl c)) none σ H'
def rBin (o : BO) : R2 := fun x y H Q => ∃ (ρ : Rh A) (h : PH A) (d e c : D A), Sim G ρ h H ∧ Rep G ρ h H d x ∧ Rep G ρ h H e y ∧ binF o d e = some c ∧ LQ G ρ h H Q c h
def rCmp (o : CO) : R2 := fun x y H Q => ∃ (ρ : Rh A) (h : PH A) (d e : D A) (c : Bool), Sim G ρ h H ∧ Rep G ρ h H d x ∧ Rep G ρ h H e y ∧ cmpF o d e h = some c ∧ Q (.bl c) H
def rSub : R2 := fun x y H Q => ∃ (ρ : Rh A) (h : PH A) (d e c : D A), Sim G ρ h H ∧ Rep G ρ h H d x ∧ Rep G ρ h H e y ∧ subF d e h = some c ∧ LQ G ρ h H Q c h
def rNeg : V → Hp → VK → Prop := fun x H Q => ∃ (ρ : Rh A) (h : PH A) (d c : D A), Sim G ρ h H ∧ Rep G ρ h H d x ∧ negF d = some c ∧ LQ G ρ h H Q c h
end
section
variable {A : Type} [DecidableEq A] {G : Gx} {ρ ρ' ρ'' : Rh A} {h h' h'' : PH A} {H H' H'' : Hp} {X : Cx}
theorem LQ.here {Q : VK} {d : D A} (q : LQ G ρ h H Q d h) (s : Sim G ρ h H) {v : V} (r : Rep G ρ h H d v) : Q v H := q ρ H v .refl s r
theorem LQ.on {Q : VK} {d : D A} {h2 : PH A} (q : LQ G ρ h H Q d h2) (x : Ext ρ h H ρ' h' H') : LQ G ρ' h' H' Q d h2 := fun ρ2 H2 v y s r => q ρ2 H2 v (x.trans y) s r

/-! ### operators -/
def opOf : BO → Operator
  | .add => .Add | .sub => .Sub | .mul => .Mult | .fdiv => .FloorDiv | .mod => .Mod | .pow => .Pow
theorem op_bin : ∀ (o : BO), OpR X (binaryOp (opOf o)) (rBin (A := A) G o)
  | .add => fun pins s σ H x y v u Q I rx ry ⟨ρ, h, d, e, c, S, r1, r2, q, k⟩ => by
    cases d <;> cases e <;> first | (cases q; done) | skip
    cases q; cases r1; cases r2
    exact op_add pins s σ H _ _ v u Q I rx ry ⟨_, _, rfl, rfl, k.here S rfl⟩
  | .sub => fun pins s σ H x y v u Q I rx ry ⟨ρ, h, d, e, c, S, r1, r2, q, k⟩ => by
    cases d <;> cases e <;> first | (cases q; done) | skip
    cases q; cases r1; cases r2
    exact op_sub pins s σ H _ _ v u Q I rx ry ⟨_, _, rfl, rfl, k.here S rfl⟩
  | .mul => fun pins s σ H x y v u Q I rx ry ⟨ρ, h, d, e, c, S, r1, r2, q, k⟩ => by
    cases d <;> cases e <;> first | (cases q; done) | skip
    rename_i i j
    unfold binF at q
    dsimp only at q
    split at q
    · rename_i hs
      cases q; cases r1; cases r2
      refine op_mul pins s σ H _ _ v u Q I rx ry ⟨_, _, rfl, rfl, ?_, k.here S rfl⟩
      unfold small at hs
      simp only [Bool.or_eq_true, Bool.and_eq_true, decide_eq_true_eq] at hs
      exact hs
    · cases q
  | .fdiv => fun pins s σ H x y v u Q I rx ry ⟨ρ, h, d, e, c, S, r1, r2, q, k⟩ => by
    cases d <;> cases e <;> first | (cases q; done) | skip
    unfold binF at q
    dsimp only at q
    split at q
    · rename_i hs
      cases q; cases r1; cases r2
      exact op_fdivN pins s σ H _ _ v u Q I rx ry ⟨_, _, rfl, rfl, hs, k.here S rfl⟩
    · cases q
  | .mod => fun pins s σ H x y v u Q I rx ry ⟨ρ, h, d, e, c, S, r1, r2, q, k⟩ => by
    cases d <;> cases e <;> first | (cases q; done) | skip
    unfold binF at q
    dsimp only at q
    split at q
    · rename_i hs
      cases q; cases r1; cases r2
      exact op_modN pins s σ H _ _ v u Q I rx ry ⟨_, _, rfl, rfl, hs, k.here S rfl⟩
    · cases q
  | .pow => fun pins s σ H x y v u Q I rx ry ⟨ρ, h, d, e, c, S, r1, r2, q, k⟩ => by
    cases d <;> cases e <;> first | (cases q; done) | skip
    unfold binF at q
    dsimp only at q
    split at q
    · rename_i hs
      cases q; cases r1; cases r2
      exact op_pow pins s σ H _ _ v u Q I rx ry ⟨_, _, rfl, rfl, hs, k.here S rfl⟩
    · cases q
theorem un_negC : UnR X (unaryOp .USub) (rNeg (A := A) G) := fun pins s σ H x v Q I rx ⟨ρ, h, d, c, S, r1, q, k⟩ => by
  cases d <;> first | (cases q; done) | skip
  cases q; cases r1
  exact un_neg pins s σ H _ v Q I rx ⟨_, rfl, k.here S rfl⟩

/-! ### comparisons -/
def copOf : CO → CmpOp
  | .lt => .Lt | .le => .LtE | .gt => .Gt | .ge => .GtE | .eq => .Eq | .ne => .NotEq | .in_ => .In | .nin => .NotIn | .isN => .Is | .notN => .IsNot | .isB => .Is | .notB => .IsNot
theorem Reps.len : ∀ {ds : List (D A)} {vs : List V}, Reps G ρ h H ds vs → ds.length = vs.length
  | [], _, r => by cases r; rfl
  | d :: ds, _, ⟨v, vs, e, _, r⟩ => by cases e; simp [Reps.len r]
theorem Reps.at : ∀ {ds : List (D A)} {vs : List V} {i : Nat} {d : D A}, Reps G ρ h H ds vs → ds[i]? = some d → ∃ v, vs[i]? = some v ∧ Rep G ρ h H d v
  | [], _, _, _, r, e => by simp at e
  | d :: ds, _, 0, _, ⟨v, vs, e, q, r⟩, e2 => by
    cases e
    simp at e2
    subst e2
    exact ⟨v, rfl, q⟩
  | d :: ds, _, i + 1, _, ⟨v, vs, e, q, r⟩, e2 => by
    cases e
    obtain ⟨v', a, b⟩ := Reps.at (i := i) r (by simpa using e2)
    exact ⟨v', by simpa using a, b⟩
theorem top_flat {d : D A} (f : flatD (Cq.top h d) = true) : Cq.top h d = d := by
  cases d with
  | ref a =>
    rw [top_ref] at f ⊢
    split
    · rename_i e; rw [e] at f; cases f
    · rfl
  | _ => rfl
theorem okD_flat {n : Nat} {d : D A} (f : flatD d = true) (t : ∀ s, d ≠ .txt s) : okD n d = true := by
  cases d <;> first | (cases f; done) | (exact absurd rfl (t _)) | (cases n <;> rfl)
theorem Sim.okTop (s : Sim G ρ h H) {d : D A} {v : V} (r : Rep G ρ h H d v) {n : Nat} (o : okD n (Cq.top h d) = true) : ∃ p, pd G.tx.f (Cq.top h d) = some p ∧ p.canLay0 = true ∧ p.depth ≤ n + 1 := by
  cases d with
  | ref a =>
    cases e2 : getL h a with
    | none =>
      have e' : Cq.top h (.ref a) = .ref a := by unfold Cq.top; simp only [e2]
      rw [e'] at o
      cases n <;> cases o
    | some ds =>
      have e' : Cq.top h (.ref a) = .lst ds := by unfold Cq.top; simp only [e2]
      rw [e'] at o ⊢
      obtain ⟨vs, hu, rs⟩ := s.lst e2
      cases n with
      | zero => cases o
      | succ n =>
        obtain ⟨ps, e1, e3, e4⟩ := okDs_pd n ds o vs rs
        exact ⟨.list ps, by unfold pd; rw [e1]; rfl, by simpa [PyData.canLay0] using e3, by simp only [PyData.depth]; omega⟩
  | _ => exact okD_pd n _ o v r
theorem eq_top (s : Sim G ρ h H) {x y : D A} {v w : V} {c : Bool} {p q : PyData} (rx : Rep G ρ h H x v) (ry : Rep G ρ h H y w) (e : eqb (Cq.top h x) (Cq.top h y) = some c)
    (e1 : pd G.tx.f (Cq.top h x) = some p) (e2 : pd G.tx.f (Cq.top h y) = some q) : PyData.eqv p q = c := eqb_eqv (G := G) _ _ (_x := ()) e e1 e2 (s.topTn rx) (s.topTn ry)
theorem txt_or {x y : D A} {c : Bool} (e : eqb x y = some c) (fx : flatD x = true) (fy : flatD y = true) : (∃ s t, x = .txt s ∧ y = .txt t ∧ c = decide (s = t)) ∨ ((∀ s, x ≠ .txt s) ∧ ∀ s, y ≠ .txt s) := by
  cases x <;> first | (cases fx; done) | skip
  all_goals cases y <;> first | (cases fy; done) | (cases e; done) | skip
  all_goals first
    | (refine .inr ⟨fun _ z => ?_, fun _ z => ?_⟩ <;> (cases z; done))
    | (cases e; exact .inl ⟨_, _, rfl, rfl, rfl⟩)
theorem eq_ok {X : Cx} (hK : X.K = G.K) (hu : X.A.units + 64 < cLine) {neg : Bool} {op : CmpOp} (hop : op = if neg then .NotEq else .Eq) {pins : List (Addr × Obj)} {s : Shared} {σ : L2.St} {H : Hp} {x y : V} {v u : Value} {Q : VK}
    (I : Inv X pins σ H s) (rx : RelV x v) (ry : RelV y u) {ρ : Rh A} {h : PH A} {d e : D A} {c : Bool} (S : Sim G ρ h H) (r1 : Rep G ρ h H d x) (r2 : Rep G ρ h H e y) (q : eqF h d e = some c)
    (k : Q (.bl (if neg then !c else c)) H) : wpAny (model X.prog X.w) X.A (compareOp op v u) (EP X pins σ Q) X.xe s := by
  have byD : (okD 60 (Cq.top h d) && okD 60 (Cq.top h e)) = true → eqb (Cq.top h d) (Cq.top h e) = some c → wpAny (model X.prog X.w) X.A (compareOp op v u) (EP X pins σ Q) X.xe s := fun ok q => by
    obtain ⟨o1, o2⟩ := Bool.and_eq_true_iff.mp ok
    obtain ⟨p1, a1, a2, a3⟩ := S.okTop r1 o1
    obtain ⟨p2, b1, b2, b3⟩ := S.okTop r2 o2
    have e1 := eq_top S r1 r2 q a1 b1
    have s1 : SeqAt.shaped p1 = true := by unfold SeqAt.shaped; rw [a2, Bool.true_and]; exact decide_eq_true (by omega)
    have s2 : SeqAt.shaped p2 = true := by unfold SeqAt.shaped; rw [b2, Bool.true_and]; exact decide_eq_true (by omega)
    have d1 : Dp X.K H x p1 := by rw [hK]; exact S.top r1 a1
    have d2 : Dp X.K H y p2 := by rw [hK]; exact S.top r2 b1
    subst hop
    cases neg with
    | false => exact op_eqD hu pins s σ H x y v u Q I rx ry ⟨p1, p2, d1, d2, s1, s2, by rw [e1]; exact k⟩
    | true => exact op_neD hu pins s σ H x y v u Q I rx ry ⟨p1, p2, d1, d2, s1, s2, by rw [e1]; exact k⟩
  unfold eqF eqT at q
  split at q
  · rename_i fl
    obtain ⟨f1, f2⟩ := Bool.and_eq_true_iff.mp fl
    rcases txt_or q f1 f2 with ⟨t1, t2, z1, z2, z3⟩ | ⟨n1, n2⟩
    · have g1 : d = .txt t1 := by rw [← top_flat (h := h) (d := d) f1]; exact z1
      have g2 : e = .txt t2 := by rw [← top_flat (h := h) (d := e) f2]; exact z2
      subst g1 g2
      cases r1; cases r2
      subst z3
      have ee : decide (V.str t1 = V.str t2) = decide (t1 = t2) := by simp
      subst hop
      cases neg with
      | false => exact op_eq pins s σ H _ _ v u Q I rx ry ⟨rfl, by rw [ee]; exact k⟩
      | true => exact op_ne pins s σ H _ _ v u Q I rx ry ⟨rfl, by rw [ee]; exact k⟩
    · exact byD (by rw [okD_flat f1 n1, okD_flat f2 n2]; rfl) q
  · split at q
    · rename_i ok
      exact byD ok q
    · cases q
theorem anyB_eqv : ∀ (ys : List (D A)) {x : D A} {c : Bool} {p : PyData} {qs : List PyData}, anyB x ys = some c → pd G.tx.f x = some p → pds G.tx.f ys = some qs → tn G.tx.n x → tns G.tx.n ys → (qs.any fun z => PyData.eqv z p) = c
  | [], x, c, p, qs, e, e1, e2, t1, t2 => by cases e; cases e2; rfl
  | y :: ys, x, c, p, qs, e, e1, e2, t1, t2 => by
    unfold pds at e2
    split at e2
    · rename_i q qs a1 a2
      cases e2
      unfold anyB at e
      split at e
      · rename_i b1 b2 z1 z2
        cases e
        rw [List.any_cons, eqb_eqv (G := G) _ _ (_x := ()) z1 a1 e1 t2.1 t1, anyB_eqv ys z2 e1 a2 t1 t2.2]
      · cases e
    · cases e2
theorem eqb_flat {x y : D A} {v w : V} {c : Bool} (e : eqb y x = some c) (fx : flatD x = true) (fy : flatD y = true) (rx : Rep G ρ h H x v) (ry : Rep G ρ h H y w) : eqV w v = c := by
  cases x <;> first | (cases fx; done) | skip
  all_goals cases y <;> first | (cases fy; done) | (cases e; done) | skip
  all_goals first
    | (obtain ⟨rx, k1⟩ := rx; obtain ⟨ry, k2⟩ := ry
       subst rx ry
       rename_i i j
       have e' : decide (j = i) = c := Option.some.inj e
       subst e'
       show (G.tx.f j == G.tx.f i) = decide (j = i)
       by_cases z : j = i
       · subst z; simp
       · have : G.tx.f j ≠ G.tx.f i := fun q => z (G.tx.inj j i k2 k1 q)
         simp [z, this])
    | (cases rx; cases ry; cases e; first | (rfl; done) | (simp [eqV, Bool.beq_eq_decide_eq]; done))
    | (obtain ⟨rx, k1⟩ := rx; cases rx; cases ry; cases e; rfl; done)
    | (obtain ⟨ry, k1⟩ := ry; cases rx; cases ry; cases e; rfl; done)
theorem flat_V {x : D A} {v : V} (fx : flatD x = true) (rx : Rep G ρ h H x v) : flatV v = true := by
  cases x <;> first | (cases fx; done) | skip
  all_goals first
    | (cases rx; rfl; done)
    | (obtain ⟨rx, _⟩ := rx; cases rx; rfl; done)
theorem anyB_flat : ∀ (ys : List (D A)) {x : D A} {v : V} {ws : List V} {c : Bool}, anyB x ys = some c → flatD x = true → ys.all flatD = true → Rep G ρ h H x v → Reps G ρ h H ys ws → inV v ws = c ∧ ws.all flatV = true
  | [], x, v, ws, c, e, fx, fy, rx, ry => by cases e; cases ry; exact ⟨rfl, rfl⟩
  | y :: ys, x, v, ws, c, e, fx, fy, rx, ry => by
    obtain ⟨w, ws, rfl, r1, r2⟩ := ry
    obtain ⟨f1, f2⟩ := Bool.and_eq_true_iff.mp (show (flatD y && ys.all flatD) = true from fy)
    unfold anyB at e
    split at e
    · rename_i b1 b2 z1 z2
      cases e
      obtain ⟨i1, i2⟩ := anyB_flat ys z2 fx f2 rx r2
      refine ⟨?_, ?_⟩
      · show (eqV w v || inV v ws) = _
        rw [eqb_flat z1 fx f1 rx r1, i1]
      · show (flatV w && ws.all flatV) = true
        rw [flat_V f1 r1, i2]
        rfl
    · cases e
theorem items_sq (S : Sim G ρ h H) {y : D A} {w : V} (r : Rep G ρ h H y w) {ys : List (D A)} (e : itemsF h y = some ys) : ∃ p ws, w = .ref p ∧ Reps G ρ h H ys ws ∧ ((isTup y = true ∧ SqT G.K H p ws) ∨ (isTup y = false ∧ SqL G.K H p ws)) := by
  cases y with
  | tup ds =>
    cases e
    obtain ⟨a, vs, rfl, q, rs⟩ := r
    exact ⟨a, vs, rfl, rs, .inl ⟨rfl, q⟩⟩
  | lst ds =>
    cases e
    obtain ⟨a, vs, rfl, q, rs⟩ := r
    exact ⟨a, vs, rfl, rs, .inr ⟨rfl, q.sq⟩⟩
  | ref a =>
    obtain ⟨rfl, _⟩ := r
    obtain ⟨vs, hu, rs⟩ := S.lst (show getL h a = some ys from e)
    exact ⟨_, vs, rfl, rs, .inr ⟨rfl, SqL.of hu⟩⟩
  | _ => cases e
theorem in_ok {X : Cx} (hK : X.K = G.K) (hu : X.A.units + 65 < cLine) {neg : Bool} {op : CmpOp} (hop : op = if neg then .NotIn else .In) {pins : List (Addr × Obj)} {s : Shared} {σ : L2.St} {H : Hp} {x y : V} {v u : Value} {Q : VK}
    (I : Inv X pins σ H s) (rx : RelV x v) (ry : RelV y u) {ρ : Rh A} {h : PH A} {d e : D A} {c : Bool} (S : Sim G ρ h H) (r1 : Rep G ρ h H d x) (r2 : Rep G ρ h H e y) (q : inF h d e = some c)
    (k : Q (.bl (if neg then !c else c)) H) : wpAny (model X.prog X.w) X.A (compareOp op v u) (EP X pins σ Q) X.xe s := by
  unfold inF at q
  obtain ⟨ys, q1, q⟩ := Option.bind_eq_some_iff.mp q
  obtain ⟨p, ws, rfl, rs, sq⟩ := items_sq S r2 q1
  have sq' : (isTup e = true ∧ SqT X.K H p ws) ∨ (isTup e = false ∧ SqL X.K H p ws) := by rw [hK]; exact sq
  split at q
  · rename_i fl
    obtain ⟨f1, f2⟩ := Bool.and_eq_true_iff.mp fl
    obtain ⟨i1, i2⟩ := anyB_flat ys q f1 f2 r1 rs
    have sq2 : SqL X.K H p ws ∨ SqT X.K H p ws := sq'.elim (fun z => .inr z.2) fun z => .inl z.2
    subst hop
    cases neg with
    | false => exact op_in_seq pins s σ H x _ v u Q I rx ry ⟨p, ws, rfl, sq2, flat_V f1 r1, i2, by rw [i1]; exact k⟩
    | true => exact op_notIn_seq pins s σ H x _ v u Q I rx ry ⟨p, ws, rfl, sq2, flat_V f1 r1, i2, by rw [i1]; exact k⟩
  · split at q
    · rename_i ok
      simp only [Bool.and_eq_true, Bool.not_eq_true'] at ok
      obtain ⟨⟨t, o1⟩, o2⟩ := ok
      have sl : SqL X.K H p ws := by
        rcases sq' with z | z
        · rw [t] at z; cases z.1
        · exact z.2
      obtain ⟨p1, a1, a2, a3⟩ := okD_pd 50 d o1 x r1
      obtain ⟨ps, b1, b2, b3⟩ := okDs_pd 50 ys o2 ws rs
      have e1 := anyB_eqv ys q a1 b1 r1.tn rs.tns
      have s1 : SeqAt.shaped p1 = true := by unfold SeqAt.shaped; rw [a2, Bool.true_and]; exact decide_eq_true (by omega)
      have s2 : SeqAt.shaped (.list ps) = true := by
        unfold SeqAt.shaped
        simp only [PyData.canLay0, b2, Bool.true_and, PyData.depth]
        exact decide_eq_true (by omega)
      have d1 : Dp X.K H x p1 := by rw [hK]; exact r1.dp a1
      have d2 : Dp X.K H (.ref p) (.list ps) := .lst sl (by rw [hK]; exact rs.dp b1)
      subst hop
      cases neg with
      | false => exact op_inD hu pins s σ H x _ v u Q I rx ry ⟨p1, ps, d1, d2, s1, s2, by rw [e1]; exact k⟩
      | true => exact op_notInD hu pins s σ H x _ v u Q I rx ry ⟨p1, ps, d1, d2, s1, s2, by rw [e1]; exact k⟩
    · cases q
theorem op_cmp (hK : X.K = G.K) (hu : X.A.units + 65 < cLine) : ∀ (o : CO), o ≠ .isN → o ≠ .notN → o ≠ .isB → o ≠ .notB → OpR X (compareOp (copOf o)) (rCmp (A := A) G o)
  | .lt, _, _, _, _ => fun pins s σ H x y v u Q I rx ry ⟨ρ, h, d, e, c, S, r1, r2, q, k⟩ => by
    cases d <;> cases e <;> first | (cases q; done) | skip
    cases q; cases r1; cases r2
    exact op_lt pins s σ H _ _ v u Q I rx ry ⟨_, _, rfl, rfl, k⟩
  | .le, _, _, _, _ => fun pins s σ H x y v u Q I rx ry ⟨ρ, h, d, e, c, S, r1, r2, q, k⟩ => by
    cases d <;> cases e <;> first | (cases q; done) | skip
    cases q; cases r1; cases r2
    exact op_le pins s σ H _ _ v u Q I rx ry ⟨_, _, rfl, rfl, k⟩
  | .gt, _, _, _, _ => fun pins s σ H x y v u Q I rx ry ⟨ρ, h, d, e, c, S, r1, r2, q, k⟩ => by
    cases d <;> cases e <;> first | (cases q; done) | skip
    cases q; cases r1; cases r2
    exact op_gt pins s σ H _ _ v u Q I rx ry ⟨_, _, rfl, rfl, k⟩
  | .ge, _, _, _, _ => fun pins s σ H x y v u Q I rx ry ⟨ρ, h, d, e, c, S, r1, r2, q, k⟩ => by
    cases d <;> cases e <;> first | (cases q; done) | skip
    cases q; cases r1; cases r2
    exact op_ge pins s σ H _ _ v u Q I rx ry ⟨_, _, rfl, rfl, k⟩
  | .eq, _, _, _, _ => fun pins s σ H x y v u Q I rx ry ⟨ρ, h, d, e, c, S, r1, r2, q, k⟩ => eq_ok hK (by omega) (neg := false) rfl I rx ry S r1 r2 q k
  | .ne, _, _, _, _ => fun pins s σ H x y v u Q I rx ry ⟨ρ, h, d, e, c, S, r1, r2, q, k⟩ => by
    obtain ⟨b, q1, rfl⟩ := Option.map_eq_some_iff.mp (show (eqF h d e).map (!·) = some c from q)
    exact eq_ok hK (by omega) (neg := true) rfl I rx ry S r1 r2 q1 k
  | .in_, _, _, _, _ => fun pins s σ H x y v u Q I rx ry ⟨ρ, h, d, e, c, S, r1, r2, q, k⟩ => in_ok hK hu (neg := false) rfl I rx ry S r1 r2 q k
  | .nin, _, _, _, _ => fun pins s σ H x y v u Q I rx ry ⟨ρ, h, d, e, c, S, r1, r2, q, k⟩ => by
    obtain ⟨b, q1, rfl⟩ := Option.map_eq_some_iff.mp (show (inF h d e).map (!·) = some c from q)
    exact in_ok hK hu (neg := true) rfl I rx ry S r1 r2 q1 k
  | .isN, z, _, _, _ => (z rfl).elim
  | .notN, _, z, _, _ => (z rfl).elim
  | .isB, _, _, z, _ => (z rfl).elim
  | .notB, _, _, _, z => (z rfl).elim
/-! ### items -/
theorem Reps.atI {ds : List (D A)} {vs : List V} {i : Int} {d : D A} (r : Reps G ρ h H ds vs) (e : L2.atI ds i = some d) : ∃ v, L2.atI vs i = some v ∧ Rep G ρ h H d v := by
  unfold L2.atI at e ⊢
  rw [← r.len]
  obtain ⟨j, e1, e2⟩ := Option.bind_eq_some_iff.mp e
  obtain ⟨v, a, b⟩ := r.at e2
  exact ⟨v, by rw [e1]; exact a, b⟩
theorem ix_sub (hK : X.K = G.K) : IxR X (rSub (A := A) G) := by
  intro value slice pins s σ H x y v u Q I rx ry ⟨ρ, h, d, e, c, S, r1, r2, q, k⟩ hs
  cases e <;> first | (cases q; done) | skip
  rename_i i
  cases r2
  obtain ⟨ds, q1, q2⟩ := Option.bind_eq_some_iff.mp (show (itemsF h d).bind (fun ds => L2.atI ds i) = some c from q)
  obtain ⟨p, ws, rfl, rs, sq⟩ := items_sq S r1 q1
  obtain ⟨z, a, b⟩ := rs.atI q2
  rcases sq with ⟨_, sq⟩ | ⟨_, sq⟩
  · exact ix_tup value slice pins s σ H _ _ v u Q I rx ry ⟨p, ws, i, z, rfl, rfl, by rw [hK]; exact sq, a, k.here S b⟩ hs
  · exact ix_list value slice pins s σ H _ _ v u Q I rx ry ⟨p, ws, i, z, rfl, rfl, by rw [hK]; exact sq, a, k.here S b⟩ hs
end
end Cq
namespace Cq
open PySem PySem.Spec PyProof.Rows L2

/-! ### a def, called: HandS's FnOk with the guards of repr -/
structure FnG (P : Program) (w : World) (K : PySem.W.Frag) (mg : Str → Option Value) (base : Heap) (k : Nat) (f : Addr) (fd : FuncData) (ps : List Str) (sp : Sp) : Prop where
  len : ∀ vs H Q E, sp vs H Q E → vs.length = ps.length
  run : ∀ (Ar : Around) (outer : List PySem.Env) (s : Shared) (H : Hp) (args : Args) (us : List Value) (vs : List V) (Q : VK) (E : XK), Room k Ar → Ar.guards = some [] → Env0 P w K mg base Ar outer s H → BindsTo s fd args (ps.zip us) → Vals vs us → sp vs H Q E →
    codeAny (model P w) Ar (.call (.ref f) args) (CR (L2.CX P w) outer P w H s Q E) s

section
variable {A : Type} [DecidableEq A] (G : Gx) (F : CallW A) (W : WX)
/-- a def's promise: what its plain run promises -/
def spF (i n : Nat) : Sp := fun vs H Q E => vs.length = n ∧ ∃ (ρ : Rh A) (h : PH A) (ds : List (D A)), Sim G ρ h H ∧ Reps G ρ h H ds vs ∧
  F i ds h (LQ G ρ h H Q) (fun c h' => ∀ ρ' H', Ext ρ h H ρ' h' H' → Sim G ρ' h' H' → E (.ref (G.cl c)) none H')
def tE (c : CE) : TE := fun σ H Q => ∃ (ρ : Rh A) (h : PH A) (env : Env A), Sim G ρ h H ∧ EnvR G ρ h H env σ ∧ wE G.tx.f F c env h (LQ G ρ h H Q) (LE G W ρ h H σ)
def tT (c : CT) : TT := fun σ H Q => ∃ (ρ : Rh A) (h : PH A) (env : Env A), Sim G ρ h H ∧ EnvR G ρ h H env σ ∧ wT G.tx.f F c env h (fun b h' => ∀ ρ' H', Ext ρ h H ρ' h' H' → Sim G ρ' h' H' → Q b H') (LE G W ρ h H σ)
def tTs (c : List CT) : TT := fun σ H Q => ∃ (ρ : Rh A) (h : PH A) (env : Env A), Sim G ρ h H ∧ EnvR G ρ h H env σ ∧ wTs G.tx.f F c env h (fun b h' => ∀ ρ' H', Ext ρ h H ρ' h' H' → Sim G ρ' h' H' → Q b H') (LE G W ρ h H σ)
def tA (c : List CE) : TA := fun σ H Q => ∃ (ρ : Rh A) (h : PH A) (env : Env A), Sim G ρ h H ∧ EnvR G ρ h H env σ ∧ wA G.tx.f F c env h (fun ds h' => ∀ ρ' H' vs, Ext ρ h H ρ' h' H' → Sim G ρ' h' H' → Reps G ρ' h' H' ds vs → Q vs H') (LE G W ρ h H σ)
/-- what a walk gives, from a state on -/
def Gives (J : It) (ds : List (D A)) (st : Option (A × O A)) (ρ : Rh A) (h : PH A) (H : Hp) : Prop := ∀ ρ' h' H', Mv G ρ h H ρ' h' H' → Sim G ρ' h' H' → stays st h' →
  (∀ i d, ds[i]? = some d → J.go i H' ∧ ∀ x H2, J.yld i H' x H2 → Ext ρ' h' H' ρ' h' H2 ∧ Sim G ρ' h' H2 ∧ Rep G ρ' h' H2 d x ∧ ∀ a o, H' a = some o → H2 a = some o) ∧ J.stop ds.length H'
def tI (c : CI) : TI := fun σ H R => ∃ (ρ : Rh A) (h : PH A) (env : Env A), Sim G ρ h H ∧ EnvR G ρ h H env σ ∧ wI G.tx.f F c env h (fun ds st h1 => ∀ ρ1 H1 J, Ext ρ h H ρ1 h1 H1 → Sim G ρ1 h1 H1 → Gives G J ds st ρ1 h1 H1 → R J H1) (LE G W ρ h H σ)
/-- a target takes a value -/
def tTg (tg : List Nat) : TG := fun v σ H Q => ∃ (ρ : Rh A) (h : PH A) (env : Env A) (d : D A) (env' : Env A), Sim G ρ h H ∧ EnvR G ρ h H env σ ∧ Rep G ρ h H d v ∧ tgF tg d env = some env' ∧
  ∀ σ', EnvR G ρ h H env' σ' → (∀ ws, (∀ i ∈ tg, i ∈ ws) → wipe σ' ws = wipe σ ws) → Q σ' H
def LK (D : Ends) (ρ : Rh A) (h : PH A) (H : Hp) : KS A where
  nx := fun env h' => ∀ ρ' H' σ', Ext ρ h H ρ' h' H' → Sim G ρ' h' H' → EnvR G ρ' h' H' env σ' → D.nx σ' H'
  rt := LQ G ρ h H D.rt
  bk := fun env h' => ∀ ρ' H' σ', Ext ρ h H ρ' h' H' → Sim G ρ' h' H' → EnvR G ρ' h' H' env σ' → D.bk σ' H'
  er := fun c env h' => ∀ ρ' H' σ', Ext ρ h H ρ' h' H' → Sim G ρ' h' H' → EnvR G ρ' h' H' env σ' → W (.ref (G.cl c)) none σ' H'
def tS (c : CS) : TS := fun D σ H => ∃ (ρ : Rh A) (h : PH A) (env : Env A), Sim G ρ h H ∧ EnvR G ρ h H env σ ∧ wS G.tx.f F c env h (LK G W D ρ h H)
def tSs (c : List CS) : TS := fun D σ H => ∃ (ρ : Rh A) (h : PH A) (env : Env A), Sim G ρ h H ∧ EnvR G ρ h H env σ ∧ wSs G.tx.f F c env h (LK G W D ρ h H)
end

section
variable {A : Type} [DecidableEq A] {G : Gx} {F : CallW A} {W : WX} {ρ ρ' ρ'' ρ0 : Rh A} {h h' h'' h0 : PH A} {H H' H'' H0 : Hp} {X : Cx} {σ : L2.St} {env : Env A}
theorem PE.imp {e : Expr} {t t' : TE} (p : PE X e t) (i : ∀ σ H Q, t' σ H Q → t σ H Q) : PE X e t' := ⟨fun pins s σ H Q I q => p.run pins s σ H Q I (i _ _ _ q)⟩
theorem PT.imp {e : Expr} {t t' : TT} (p : PT X e t) (i : ∀ σ H Q, t' σ H Q → t σ H Q) : PT X e t' := ⟨fun pins s σ H Q I q => p.run pins s σ H Q I (i _ _ _ q)⟩
theorem PTs.imp {e : List Expr} {t t' : TT} (p : PTs X e t) (i : ∀ σ H Q, t' σ H Q → t σ H Q) : PTs X e t' := ⟨fun pins s σ H Q I q => p.run pins s σ H Q I (i _ _ _ q)⟩
theorem PA.imp {e : List Expr} {t t' : TA} (p : PA X e t) (i : ∀ σ H Q, t' σ H Q → t σ H Q) : PA X e t' := ⟨fun pos pins s σ H Q I q => p.run pos pins s σ H Q I (i _ _ _ q)⟩
theorem PS.imp {e : Stmt} {t t' : TS} (p : PS X e t) (i : ∀ D σ H, t' D σ H → t D σ H) : PS X e t' := ⟨fun pins s σ H Q I q => p.run pins s σ H Q I (i _ _ _ q)⟩
theorem PSs.imp {e : List Stmt} {t t' : TS} (p : PSs X e t) (i : ∀ D σ H, t' D σ H → t D σ H) : PSs X e t' := ⟨fun pins s σ H Q I q => p.run pins s σ H Q I (i _ _ _ q)⟩
theorem PG.imp {e : Expr} {t t' : TG} (p : PG X e t) (i : ∀ v σ H Q, t' v σ H Q → t v σ H Q) : PG X e t' := ⟨fun pins s σ H v u Q I r q => p.run pins s σ H v u Q I r (i _ _ _ _ q)⟩
theorem PI.imp {tg e : Expr} {t t' : TI} (p : PI X tg e t) (i : ∀ σ H R, t' σ H R → t σ H R) : PI X tg e t' := ⟨fun pins s σ H R I q => p.run pins s σ H R I (i _ _ _ q)⟩

/-- the wish about an error, carried -/
theorem LE.on (x : Ext ρ0 h0 H0 ρ h H) : ∀ c h', LE G W ρ0 h0 H0 σ c h' → LE G W ρ h H σ c h' := fun c h' e ρ' H' y s => e ρ' H' (x.trans y) s
theorem tE_of (hF : MonoF F) {c : CE} {R : QD A} {Q : VK} (S : Sim G ρ h H) (er : EnvR G ρ h H env σ) (x : Ext ρ0 h0 H0 ρ h H) (w : wE G.tx.f F c env h R (LE G W ρ0 h0 H0 σ))
    (k : ∀ ρ' h' H' d v, Ext ρ h H ρ' h' H' → Sim G ρ' h' H' → EnvR G ρ' h' H' env σ → Rep G ρ' h' H' d v → R d h' → Q v H') : tE G F W c σ H Q :=
  ⟨ρ, h, env, S, er, wE_mono hF c (fun d h' r ρ' H' v y s rp => k ρ' h' H' d v y s (er.ext y S) rp r) (LE.on x) w⟩
theorem tA_of (hF : MonoF F) {c : List CE} {R : List (D A) → PH A → Prop} {Q : List V → Hp → Prop} (S : Sim G ρ h H) (er : EnvR G ρ h H env σ) (x : Ext ρ0 h0 H0 ρ h H) (w : wA G.tx.f F c env h R (LE G W ρ0 h0 H0 σ))
    (k : ∀ ρ' h' H' d v, Ext ρ h H ρ' h' H' → Sim G ρ' h' H' → EnvR G ρ' h' H' env σ → Reps G ρ' h' H' d v → R d h' → Q v H') : tA G F W c σ H Q :=
  ⟨ρ, h, env, S, er, wA_mono hF c (fun d h' r ρ' H' v y s rp => k ρ' h' H' d v y s (er.ext y S) rp r) (LE.on x) w⟩
theorem tT_of (hF : MonoF F) {c : CT} {R : Bool → PH A → Prop} {Q : Bool → Hp → Prop} (S : Sim G ρ h H) (er : EnvR G ρ h H env σ) (x : Ext ρ0 h0 H0 ρ h H) (w : wT G.tx.f F c env h R (LE G W ρ0 h0 H0 σ))
    (k : ∀ ρ' h' H' b, Ext ρ h H ρ' h' H' → Sim G ρ' h' H' → EnvR G ρ' h' H' env σ → R b h' → Q b H') : tT G F W c σ H Q :=
  ⟨ρ, h, env, S, er, wT_mono hF c (fun d h' r ρ' H' y s => k ρ' h' H' d y s (er.ext y S) r) (LE.on x) w⟩
theorem tTs_of (hF : MonoF F) {c : List CT} {R : Bool → PH A → Prop} {Q : Bool → Hp → Prop} (S : Sim G ρ h H) (er : EnvR G ρ h H env σ) (x : Ext ρ0 h0 H0 ρ h H) (w : wTs G.tx.f F c env h R (LE G W ρ0 h0 H0 σ))
    (k : ∀ ρ' h' H' b, Ext ρ h H ρ' h' H' → Sim G ρ' h' H' → EnvR G ρ' h' H' env σ → R b h' → Q b H') : tTs G F W c σ H Q :=
  ⟨ρ, h, env, S, er, wTs_mono hF c (fun d h' r ρ' H' y s => k ρ' h' H' d y s (er.ext y S) r) (LE.on x) w⟩
theorem tI_of (hF : MonoF F) {c : CI} {R : KI A} {Q : It → Hp → Prop} (S : Sim G ρ h H) (er : EnvR G ρ h H env σ) (x : Ext ρ0 h0 H0 ρ h H) (w : wI G.tx.f F c env h R (LE G W ρ0 h0 H0 σ))
    (k : ∀ ds st ρ' h' H' J, Ext ρ h H ρ' h' H' → Sim G ρ' h' H' → EnvR G ρ' h' H' env σ → Gives G J ds st ρ' h' H' → R ds st h' → Q J H') : tI G F W c σ H Q :=
  ⟨ρ, h, env, S, er, wI_mono hF c (fun ds st h' r ρ' H' J y s g => k ds st ρ' h' H' J y s (er.ext y S) g r) (LE.on x) w⟩
theorem LK.on {D : Ends} (x : Ext ρ0 h0 H0 ρ h H) : (LK G W D ρ0 h0 H0).Le (LK G W D ρ h H) where
  nx := fun _ _ e ρ' H' σ' y s r => e ρ' H' σ' (x.trans y) s r
  rt := fun _ _ e ρ' H' v y s r => e ρ' H' v (x.trans y) s r
  bk := fun _ _ e ρ' H' σ' y s r => e ρ' H' σ' (x.trans y) s r
  er := fun _ _ _ e ρ' H' σ' y s r => e ρ' H' σ' (x.trans y) s r
/-- from a statement's wish about errors to an expression's -/
theorem LK.er {D : Ends} (er : EnvR G ρ h H env σ) (S : Sim G ρ h H) : ∀ c h', (LK G W D ρ h H).er c env h' → LE G W ρ h H σ c h' := fun c h' e ρ' H' y s => e ρ' H' σ y s (er.ext y S)

/-! ### a new object -/
theorem Sim.notAt (S : Sim G ρ h H) {p : Addr} (n : H p = none) : ¬ Img ρ h p := fun i => by
  rcases i with i | ⟨r, hr, e⟩
  · exact S.zin p i n
  cases q : h r with
  | none => exact hr q
  | some o =>
    obtain ⟨u, hu, _⟩ := S.obj r o q
    rw [e, n] at hu; cases hu
theorem Ext.new0 (S : Sim G ρ h H) {p : Addr} {o : HO} (n : H p = none) : Ext ρ h H ρ h (upd H p o) :=
  ⟨fun _ q => ⟨q, rfl⟩, fun _ q q' => (q' q).elim, fun a u q _ _ => by rw [upd_ne (ne_of_none q n)]; exact q, fun a q => by
    by_cases z : a = p
    · rw [z, upd_same]; exact fun z => nomatch z
    · rw [upd_ne z]; exact q, rfl, fun a z => upd_ne (fun e => S.zin a z (e ▸ n))⟩
theorem Sim.new0 (S : Sim G ρ h H) {p : Addr} {o : HO} (n : H p = none) : Sim G ρ h (upd H p o) :=
  ⟨fun r u q => by
    obtain ⟨v, hv, rv⟩ := S.obj r u q
    exact ⟨v, by rw [upd_ne (ne_of_none hv n)]; exact hv, rv.ext (Ext.new0 S n) S⟩, S.inj, fun a z => (Ext.new0 S n).grow a (S.zin a z), S.zout⟩
/-- the object at p, not told so far, gets the name a -/
def Rh.at (ρ : Rh A) (a : A) (p : Addr) : Rh A := ⟨fun r => if r = a then p else ρ r, ρ.z⟩
theorem Rh.at_same {a : A} {p : Addr} : (ρ.at a p) a = p := if_pos rfl
theorem Rh.at_ne {a r : A} {p : Addr} (n : r ≠ a) : (ρ.at a p) r = ρ r := if_neg n
theorem up_same {a : A} {o : O A} : up h a o a = some o := if_pos rfl
theorem up_ne {a r : A} {o : O A} (n : r ≠ a) : up h a o r = h r := if_neg n
theorem Ext.name (x : Ext ρ0 h0 H0 ρ h H) {p : Addr} {a : A} {o : O A} (n0 : H0 p = none) (na : h a = none) : Ext ρ0 h0 H0 (ρ.at a p) (up h a o) H where
  dom := fun r q => by
    obtain ⟨q1, q2⟩ := x.dom r q
    have z : r ≠ a := fun z => q1 (z ▸ na)
    exact ⟨by rw [up_ne z]; exact q1, by rw [Rh.at_ne z]; exact q2⟩
  new := fun r q q' => by
    by_cases z : r = a
    · rw [z, Rh.at_same]; exact n0
    · rw [up_ne z] at q'; rw [Rh.at_ne z]; exact x.new r q q'
  imm := x.imm
  grow := x.grow
  zz := x.zz
  zst := x.zst
theorem Sim.name (S : Sim G ρ h H) {ρt : Rh A} {p : Addr} {u : HO} {a : A} {o : O A} (f1 : ρt a = p) (f2 : ∀ r, r ≠ a → ρt r = ρ r) (hp : H' p = some u) (ni : ∀ r, h r ≠ none → ρ r ≠ p) (na : h a = none) (r : RepO G ρt (up h a o) H' o u)
    (m : Mv G ρ h H ρt (up h a o) H') (hh : ∀ r, h r ≠ none → H' (ρ r) = H (ρ r)) (hz : ∀ b, ρt.z b → H' b ≠ none) (hzo : ∀ b, ρt.z b → ρ.z b) (hzp : ¬ ρt.z p) : Sim G ρt (up h a o) H' where
  obj := fun r' v q => by
    by_cases z : r' = a
    · rw [z, up_same] at q
      cases q
      exact ⟨u, by rw [z, f1]; exact hp, r⟩
    · rw [up_ne z] at q
      obtain ⟨w, hw, rw'⟩ := S.obj r' v q
      exact ⟨w, by rw [f2 _ z, hh r' (by rw [q]; exact fun z => nomatch z)]; exact hw, rw'.mv m⟩
  inj := fun r r' q q' e => by
    by_cases z : r = a
    · by_cases z' : r' = a
      · rw [z, z']
      · rw [z, f1, f2 _ z'] at e
        rw [up_ne z'] at q'
        exact (ni r' q' e.symm).elim
    · by_cases z' : r' = a
      · rw [z', f1, f2 _ z] at e
        rw [up_ne z] at q
        exact (ni r q e).elim
      · rw [f2 _ z, f2 _ z'] at e
        rw [up_ne z] at q
        rw [up_ne z'] at q'
        exact S.inj r r' q q' e
  zin := hz
  zout := fun r q => by
    by_cases z : r = a
    · rw [z, f1]; exact hzp
    · rw [f2 _ z]; rw [up_ne z] at q; exact fun y => S.zout r q (hzo _ y)
/-- a new object of HandS's gets a name -/
theorem new_obj {Q : VK} {p : Addr} {u : HO} {a : A} {o : O A} (S : Sim G ρ h H) (n : H p = none) (na : h a = none) (r : Mv G ρ h H (ρ.at a p) (up h a o) (upd H p u) → RepO G (ρ.at a p) (up h a o) (upd H p u) o u)
    (q : LQ G ρ h H Q (.ref a) (up h a o)) : Q (.ref p) (upd H p u) := by
  have x : Ext ρ h H (ρ.at a p) (up h a o) (upd H p u) := Ext.name (Ext.new0 S n) n na
  have S' := Sim.name S (ρt := ρ.at a p) (u := u) (o := o) (a := a) Rh.at_same (fun _ z => Rh.at_ne z) upd_same (fun r q e => S.notAt n (.inr ⟨r, q, e⟩)) na (r (x.mv S)) (x.mv S) (fun r q => upd_ne (fun e => S.notAt n (.inr ⟨r, q, e⟩)))
    (fun b z => (Ext.new0 (o := u) S n).grow b (S.zin b z)) (fun _ z => z) (fun z => S.notAt n (.inl z))
  exact q _ _ _ x S' ⟨by rw [Rh.at_same], by rw [up_same]; exact fun z => nomatch z⟩
/-- a new list of HandS's: data, or an object -/
theorem new_list {ds : List (D A)} {vs : List V} {Q : VK} {p : Addr} (S : Sim G ρ h H) (n : H p = none) (r : Reps G ρ h H ds vs) (q : newL ds h (LQ G ρ h H Q)) : Q (.ref p) (upd H p (.lst vs)) := by
  rcases q with q | ⟨a, na, q⟩
  · refine q _ _ _ (Ext.new0 S n) (Sim.new0 S n) ⟨p, vs, rfl, .inl ⟨.inl upd_same, S.notAt n⟩, r.ext (Ext.new0 S n) S⟩
  · exact new_obj (o := .lst ds) S n na (fun m => ⟨vs, rfl, r.mv m⟩) q
/-- a tracked object changes -/
theorem Ext.put (S : Sim G ρ h H) {u : HO} {a : A} {o o0 : O A} (ha : h a = some o0) : Ext ρ h H ρ (up h a o) (upd H (ρ a) u) where
  dom := fun r q => ⟨by
    by_cases z : r = a
    · rw [z, up_same]; exact fun z => nomatch z
    · rw [up_ne z]; exact q, rfl⟩
  new := fun r q q' => by
    by_cases z : r = a
    · rw [z, ha] at q; cases q
    · rw [up_ne z] at q'; exact (q' q).elim
  imm := fun b v q _ ni => by
    rw [upd_ne (fun z => ni (.inr ⟨a, by rw [ha]; exact (fun z => nomatch z), z.symm⟩))]; exact q
  grow := fun b q => by
    by_cases z : b = ρ a
    · rw [z, upd_same]; exact fun z => nomatch z
    · rw [upd_ne z]; exact q
  zz := rfl
  zst := fun b z => upd_ne (fun e => S.zout a (by rw [ha]; exact (fun z => nomatch z)) (e ▸ z))
theorem Sim.put (S : Sim G ρ h H) {u : HO} {a : A} {o o0 : O A} (ha : h a = some o0) (r : RepO G ρ (up h a o) (upd H (ρ a) u) o u) : Sim G ρ (up h a o) (upd H (ρ a) u) where
  obj := fun r' v q => by
    by_cases z : r' = a
    · subst z
      rw [up_same] at q
      cases q
      exact ⟨u, upd_same, r⟩
    · rw [up_ne z] at q
      obtain ⟨w, hw, rw'⟩ := S.obj r' v q
      refine ⟨w, ?_, rw'.ext (Ext.put S ha) S⟩
      rw [upd_ne (fun e => z (S.inj r' a (by rw [q]; exact fun z => nomatch z) (by rw [ha]; exact fun z => nomatch z) e))]
      exact hw
  inj := fun r r' q q' e => by
    have k : ∀ {x : A}, up h a o x ≠ none → h x ≠ none := fun {x} q => by
      by_cases z : x = a
      · rw [z, ha]; exact fun z => nomatch z
      · rw [up_ne z] at q; exact q
    exact S.inj r r' (k q) (k q') e
  zin := fun b z => (Ext.put (o := o) (u := u) S ha).grow b (S.zin b z)
  zout := fun r q => S.zout r (by
    by_cases z : r = a
    · rw [z, ha]; exact fun z => nomatch z
    · rw [up_ne z] at q; exact q)
end
end Cq
namespace Cq
open PySem PySem.Spec PyProof.Rows L2
section
variable {A : Type} [DecidableEq A] {G : Gx} {F : CallW A} {W : WX} {ρ ρ' ρ'' ρ0 : Rh A} {h h' h'' h0 : PH A} {H H' H'' H0 : Hp} {X : Cx} {σ : L2.St} {env : Env A}

/-! ### slots and targets -/
theorem EnvR.set (e : EnvR G ρ h H env σ) {i : Nat} {d : D A} {v : V} (r : Rep G ρ h H d v) : EnvR G ρ h H (env.set i (some d)) (σ.set i (some v)) where
  len := by simp [e.len]
  at_ := fun j x q => by
    by_cases z : i = j
    · subst z
      by_cases hj : i < env.length
      · rw [List.getElem?_set_self hj] at q
        cases q
        exact ⟨v, by rw [List.getElem?_set_self (by rw [← e.len]; exact hj)], r⟩
      · rw [List.getElem?_eq_none (by simpa using hj)] at q; cases q
    · rw [List.getElem?_set_ne z] at q ⊢
      exact e.at_ j x q
theorem EnvR.none (e : EnvR G ρ h H env σ) {i : Nat} : EnvR G ρ h H (env.set i none) (σ.set i none) where
  len := by simp [e.len]
  at_ := fun j x q => by
    by_cases z : i = j
    · subst z
      by_cases hj : i < env.length
      · rw [List.getElem?_set_self hj] at q
        cases q
      · rw [List.getElem?_eq_none (by simpa using hj)] at q; cases q
    · rw [List.getElem?_set_ne z] at q ⊢
      exact e.at_ j x q
theorem EnvR.wipe (e : EnvR G ρ h H env σ) : ∀ vs : List Nat, EnvR G ρ h H (wipeE env vs) (L2.wipe σ vs)
  | [] => e
  | v :: vs => (EnvR.wipe e vs).none
theorem wipe_set {i : Nat} {x : Option V} : ∀ {ws : List Nat} {σ : L2.St}, i ∈ ws → L2.wipe (σ.set i x) ws = L2.wipe σ ws
  | w :: ws, σ, hi => by
    by_cases z : i ∈ ws
    · show (L2.wipe (σ.set i x) ws).set w none = (L2.wipe σ ws).set w none
      rw [wipe_set z]
    · have e : w = i := by
        rcases List.mem_cons.mp hi with q | q
        · exact q.symm
        · exact (z q).elim
      subst e
      have key : ∀ {ws : List Nat} {σ : L2.St}, w ∉ ws → L2.wipe (σ.set w x) ws = (L2.wipe σ ws).set w x := fun {ws} => by
        induction ws with
        | nil => intro σ _; rfl
        | cons u us ih =>
          intro σ hn
          simp only [List.mem_cons, not_or] at hn
          show (L2.wipe (σ.set w x) us).set u none = ((L2.wipe σ us).set u none).set w x
          rw [ih hn.2, List.set_comm _ _ hn.1]
      show (L2.wipe (σ.set w x) ws).set w none = (L2.wipe σ ws).set w none
      rw [key z, List.set_set]
def gAll : List Nat → TGs
  | [] => gNil
  | i :: is => gCons (gName i) (gAll is)
theorem gAll_of : ∀ {is : List Nat} {ds : List (D A)} {vs : List V} {env env' : Env A} {σ : L2.St} {Q : L2.St → Hp → Prop}, EnvR G ρ h H env σ → Reps G ρ h H ds vs → setAll env is ds = some env' →
    (∀ σ', EnvR G ρ h H env' σ' → (∀ ws, (∀ i ∈ is, i ∈ ws) → L2.wipe σ' ws = L2.wipe σ ws) → Q σ' H) → gAll is vs σ H Q
  | [], [], vs, env, env', σ, Q, e, r, q, k => by
    cases q; cases r
    exact ⟨rfl, k σ e fun _ _ => rfl⟩
  | [], _ :: _, _, _, _, _, _, _, _, q, _ => by cases q
  | _ :: _, [], _, _, _, _, _, _, _, q, _ => by cases q
  | i :: is, d :: ds, vs, env, env', σ, Q, e, r, q, k => by
    obtain ⟨v, vs, rfl, r1, r2⟩ := r
    refine ⟨v, vs, rfl, ?_⟩
    refine gAll_of (e.set (i := i) r1) r2 q fun σ' e' w => k σ' e' fun ws hw => ?_
    rw [w ws fun j hj => hw j (List.mem_cons_of_mem _ hj), wipe_set (hw i List.mem_cons_self)]
/-- a name that may be stored -/
def storable (fn : Str → Bool) (sc : Scope) (x : Str) : Bool := match sc.names.lookup x with
  | some .local => true
  | some .cell => fn x
  | _ => false
structure Sc where
  N : List Str
  sc : Scope
  fn : Str → Bool
/-- what is known of where one stands, as to names -/
structure Nk (s : Sc) (X : Cx) : Prop where
  N : X.N = s.N
  nd : s.N.Nodup
  sc : X.env.scope = s.sc
  fn : X.fn = s.fn
  calm : X.calm = true
def ixOf (l : List Str) (x : Str) : Option Nat := l.findIdx? (· == x)
theorem ixOf_get {l : List Str} {x : Str} {i : Nat} (h : ixOf l x = some i) : l[i]? = some x := by
  unfold ixOf at h
  rw [List.findIdx?_eq_some_iff_getElem] at h
  obtain ⟨hi, e, _⟩ := h
  rw [List.getElem?_eq_getElem hi, beq_iff_eq.mp e]
def trN (s : Sc) : Expr → Option Nat
  | .Name x _ => if storable s.fn s.sc x = true then ixOf s.N x else none
  | _ => none
def trNs (s : Sc) : List Expr → Option (List Nat)
  | [] => some []
  | e :: es => match trN s e, trNs s es with
    | some i, some is => some (i :: is)
    | _, _ => none
def trTg (s : Sc) : Expr → Option (List Nat)
  | .Name x p => (trN s (.Name x p)).map fun i => [i]
  | .Tuple es _ _ => (trNs s es).bind fun is => if 2 ≤ is.length then some is else none
  | _ => none
theorem trN_sto {s : Sc} (k : Nk s X) {e : Expr} {i : Nat} (q : trN s e = some i) : ∃ x p, e = .Name x p ∧ X.N[i]? = some x ∧ Loc X.env.scope x ∧ (X.fn x = true ∨ X.env.scope.names.lookup x = some .local) := by
  unfold trN at q
  split at q
  · rename_i x p
    split at q
    · rename_i st
      refine ⟨x, p, rfl, by rw [k.N]; exact ixOf_get q, ?_⟩
      unfold storable at st
      rw [k.sc, k.fn]
      split at st
      · rename_i e; exact ⟨.inl e, .inr e⟩
      · rename_i e; exact ⟨.inr e, .inl st⟩
      · cases st
    · cases q
  · cases q
theorem pg_n {s : Sc} (k : Nk s X) {e : Expr} {i : Nat} (q : trN s e = some i) : PG X e (gName i) := by
  obtain ⟨x, p, rfl, a, b, c⟩ := trN_sto k q
  exact pg_name (by rw [k.N]; exact k.nd) a b c
theorem pgs_n {s : Sc} (k : Nk s X) : ∀ {es : List Expr} {is : List Nat}, trNs s es = some is → PGs X es (gAll is) ∧ (assignEach es X.env).length = is.length ∧ (assignEach es X.env).findIdx? (·.1) = none
  | [], is, q => by cases q; exact ⟨pgs_nil, rfl, rfl⟩
  | e :: es, is, q => by
    unfold trNs at q
    split at q
    · rename_i i is a b
      cases q
      obtain ⟨p1, p2, p3⟩ := pgs_n k b
      have pn := pg_n k a
      obtain ⟨x, p, rfl, _⟩ := trN_sto k a
      refine ⟨pgs_cons pn p1, ?_, ?_⟩
      · show (assignEach es X.env).length + 1 = _
        rw [p2]; rfl
      · show List.findIdx? _ ((false, _) :: assignEach es X.env) = none
        rw [List.findIdx?_cons]
        simp only [Bool.false_eq_true, if_false, p3]
        rfl
    · cases q
theorem pg_tg {s : Sc} (k : Nk s X) (hK : X.K = G.K) {e : Expr} {tg : List Nat} (q : trTg s e = some tg) : PG X e (tTg (A := A) G tg) := by
  unfold trTg at q
  split at q
  · rename_i x p
    obtain ⟨i, q1, rfl⟩ := Option.map_eq_some_iff.mp q
    refine PG.imp (pg_n k q1) fun v σ H Q ⟨ρ, h, env, d, env', S, er, r, t, kk⟩ => ?_
    cases t
    exact kk _ (er.set r) fun ws hw => wipe_set (hw i List.mem_cons_self)
  · rename_i es kk pos
    obtain ⟨is, q1, q2⟩ := Option.bind_eq_some_iff.mp q
    split at q2
    · rename_i hl
      cases q2
      obtain ⟨p1, p2, p3⟩ := pgs_n k q1
      refine PG.imp (pg_tup k.calm p1 p2 p3) fun v σ H Q ⟨ρ, h, env, d, env', S, er, r, t, kk⟩ => ?_
      obtain ⟨i0, i1, ir, rfl⟩ : ∃ a b r, tg = a :: b :: r := by
        match tg, hl with
        | a :: b :: r, _ => exact ⟨a, b, r, rfl⟩
      have hlen : ∀ {is : List Nat} {ds : List (D A)} {env env' : Env A}, setAll env is ds = some env' → ds.length = is.length := fun {is} => by
        induction is with
        | nil => intro ds env env' q; cases ds with
          | nil => rfl
          | cons _ _ => cases q
        | cons i is ih => intro ds env env' q; cases ds with
          | nil => cases q
          | cons d ds => simp [ih (show setAll (env.set i (some d)) is ds = some env' from q)]
      cases d with
      | tup ds =>
        have t' : setAll env (i0 :: i1 :: ir) ds = some env' := t
        obtain ⟨a, vs, rfl, sq, rs⟩ := r
        exact ⟨a, vs, rfl, by rw [hK]; exact sq, by rw [← rs.len]; exact hlen t', gAll_of er rs t' kk⟩
      | _ => exact (nomatch (show (none : Option (Env A)) = some env' from t))
    · cases q2
  · cases q

/-! ### walks -/
theorem pi_val {tg e : Expr} {c : CE} (hF : MonoF F) (hK : X.K = G.K) (p : PE X e (tE G F W c)) : PI X tg e (tI G F W (.val c)) := by
  refine ⟨fun pins s σ H R I q => ?_⟩
  obtain ⟨ρ, h, env, S, er, w⟩ := q
  -- the value, then the way by what it is
  have pe := p.run pins s σ H (fun v H1 => ∃ (a : Addr), v = .ref a ∧ (((∃ xs, SqL X.K H1 a xs) ∧ R (Itl X.K a) H1) ∨ ((∃ xs, SqT X.K H1 a xs) ∧ R (Itt X.K a) H1))) I ?_
  · refine thn pe fun v s1 ⟨x, H1, I1, r1, a, e, q1⟩ => ?_
    subst e
    rcases q1 with ⟨⟨xs, hq⟩, q⟩ | ⟨⟨xs, hq⟩, q⟩
    · cases r1
      obtain ⟨its, rv, p, hz⟩ := I1.list hq
      refine wpAny_pyIter_list p.isList ?_
      refine ⟨s1.heap.objs.size, [s1.heap.objs.size], _, _, H1, rfl, I1.kept (t' := s1.toks) fun b o e => Heap.get?_push_of_some _ e, turn_list a _, ⟨_, Heap.get?_push_size _ rfl, rfl, rfl⟩, fun b hb => ?_, q⟩
      have e : b = s1.heap.objs.size := by simpa using hb
      subst e
      exact I1.fpOk (Nat.le_refl _) (I1.hok.fresh (Nat.le_refl _))
    · cases r1
      obtain ⟨its, rv, p, hz⟩ := I1.tuple hq
      refine wpAny_pyIter_tuple (show s1.heap.IsTuple a its.toArray from p) ?_
      refine ⟨s1.heap.objs.size, [s1.heap.objs.size], _, _, H1, rfl, I1.kept (t' := s1.toks) fun b o e => Heap.get?_push_of_some _ e, turn_tuple a _, ⟨_, Heap.get?_push_size _ rfl, rfl, rfl⟩, fun b hb => ?_, q⟩
      have e : b = s1.heap.objs.size := by simpa using hb
      subst e
      exact I1.fpOk (Nat.le_refl _) (I1.hok.fresh (Nat.le_refl _))
  · refine tE_of hF S er .refl w fun ρ1 h1 H1 d v x1 S1 e1 r1 ⟨⟨ds, st⟩, q1, q2⟩ => ?_
    have seq : ∀ {a : Addr} {vs : List V} {J : It}, (∀ ρ' h' H', Mv G ρ1 h1 H1 ρ' h' H' → Sim G ρ' h' H' → stays st h' → ∃ vs, Reps G ρ' h' H' ds vs ∧ (∀ i x, vs[i]? = some x → J.go i H' ∧ ∀ y H2, J.yld i H' y H2 → H2 = H' ∧ y = x) ∧ J.stop vs.length H') → R J H1 := fun {a vs J} g => by
      refine q2 ρ1 H1 J x1 S1 fun ρ' h' H' x' S' s' => ?_
      obtain ⟨vs, rs, g1, g2⟩ := g ρ' h' H' x' S' s'
      refine ⟨fun i d hd => ?_, by rw [rs.len]; exact g2⟩
      obtain ⟨v, hv, rv⟩ := rs.at hd
      obtain ⟨a1, a2⟩ := g1 i v hv
      refine ⟨a1, fun y H2 hy => ?_⟩
      obtain ⟨e1, e2⟩ := a2 y H2 hy
      subst e1 e2
      exact ⟨.refl, S', rv, fun _ _ q => q⟩
    have tupS : ∀ {a : Addr} {vs : List V}, SqT G.K H1 a vs → Reps G ρ1 h1 H1 ds vs → R (Itt X.K a) H1 := fun {a vs} sq rs => by
      refine seq (a := a) (vs := vs) fun ρ' h' H' x' S' s' => ⟨vs, rs.mv x', fun i x hx => ⟨⟨vs, x, by rw [hK]; exact x'.tq _ _ sq, hx⟩, fun y H2 hy => ?_⟩, ⟨vs, by rw [hK]; exact x'.tq _ _ sq, Nat.le_refl _⟩⟩
      have z := hy.2 vs (by rw [hK]; exact x'.tq _ _ sq)
      rw [hx] at z
      exact ⟨hy.1, (Option.some.inj z).symm⟩
    have lstS : ∀ {a : Addr}, (∀ ρ' h' H', Mv G ρ1 h1 H1 ρ' h' H' → Sim G ρ' h' H' → stays st h' → ∃ vs, SqL G.K H' a vs ∧ Reps G ρ' h' H' ds vs) → R (Itl X.K a) H1 := fun {a} g => by
      refine seq (a := a) (vs := []) fun ρ' h' H' x' S' s' => ?_
      obtain ⟨vs, sq, rs⟩ := g ρ' h' H' x' S' s'
      refine ⟨vs, rs, fun i x hx => ⟨⟨vs, x, by rw [hK]; exact sq, hx⟩, fun y H2 hy => ?_⟩, ⟨vs, by rw [hK]; exact sq, Nat.le_refl _⟩⟩
      have z := hy.2 vs (by rw [hK]; exact sq)
      rw [hx] at z
      exact ⟨hy.1, (Option.some.inj z).symm⟩
    cases d with
    | tup ds' =>
      cases q1
      obtain ⟨a, vs, rfl, sq, rs⟩ := r1
      exact ⟨a, rfl, .inr ⟨⟨vs, by rw [hK]; exact sq⟩, tupS sq rs⟩⟩
    | lst ds' =>
      cases q1
      obtain ⟨a, vs, rfl, sq, rs⟩ := r1
      exact ⟨a, rfl, .inl ⟨⟨vs, by rw [hK]; exact sq.sq⟩, lstS fun ρ' h' H' x' S' s' => ⟨vs, (x'.fz _ _ sq).sq, rs.mv x'⟩⟩⟩
    | ref a =>
      obtain ⟨ds', z1, z2⟩ := Option.map_eq_some_iff.mp (show (getL h1 a).map (fun ds => (ds, some (a, O.lst ds))) = some (ds, st) from q1)
      cases z2
      obtain ⟨rfl, na⟩ := r1
      obtain ⟨vs, hu, rs⟩ := S1.lst z1
      refine ⟨_, rfl, .inl ⟨⟨vs, by rw [hK]; exact SqL.of hu⟩, lstS fun ρ' h' H' x' S' s' => ?_⟩⟩
      obtain ⟨vs', hu', rs'⟩ := S'.lst (getL_iff.mpr (show h' a = some (.lst ds) from s'))
      rw [(x'.dom a na).2] at hu'
      exact ⟨vs', SqL.of hu', rs'⟩
    | _ => cases q1
theorem rng_gives {i : Int} {n : Nat} (ρ : Rh A) (h : PH A) (H : Hp) : Gives G (Itr i n) ((List.range n).map fun (k : Nat) => D.int (i + k)) none ρ h H := fun ρ' h' H' x' S' _ => by
  refine ⟨fun j d hd => ?_, ?_⟩
  · have hj : j < n := by
      have := (List.getElem?_eq_some_iff.mp hd).1
      simpa using this
    have e2 : d = D.int (i + (j : Int)) := by
      rw [List.getElem?_map, List.getElem?_range hj] at hd
      exact (Option.some.inj hd).symm
    refine ⟨hj, fun y H2 hy => ?_⟩
    obtain ⟨a, b⟩ := hy
    subst a b e2
    exact ⟨.refl, S', rfl, fun _ _ q => q⟩
  · show n ≤ _
    simp
theorem rngF_some {x y : D A} {ds : List (D A)} (q : rngF x y = some ds) : ∃ i j, x = .int i ∧ y = .int j ∧ (-(2 ^ 62) ≤ i ∧ i < 2 ^ 62 ∧ -(2 ^ 62) ≤ j ∧ j < 2 ^ 62) ∧ ds = (List.range (j - i).toNat).map fun (k : Nat) => .int (i + k) := by
  unfold rngF at q
  split at q
  · split at q
    · rename_i i j hb
      cases q
      exact ⟨i, j, rfl, rfl, hb, rfl⟩
    · cases q
  · cases q
theorem pi_rng1 {tg a : Expr} {c : CE} {p pos : Pos} (hF : MonoF F) (hg : Gl X "range") (hm : X.mg "range" = none) (pa : PE X a (tE G F W c)) (hs : starEach [a] X.env = [(false, eval a X.env)]) :
    PI X tg (.Call (.Name "range" p) [a] [] pos) (tI G F W (.range1 c)) := by
  refine PI.imp (pi_range1 hg hm (ta := tCons (tE G F W c) tNil) (pa_cons pa pa_nil (by rw [hs]; rfl)) hs) fun σ H R ⟨ρ, h, env, S, er, w⟩ => ?_
  refine tE_of hF S er .refl w fun ρ1 h1 H1 d v x1 S1 e1 r1 ⟨ds, q1, q2⟩ => ?_
  obtain ⟨i, j, e, rfl, hb, rfl⟩ := rngF_some q1
  cases e
  cases r1
  refine ⟨j, rfl, hb.2.2.1, hb.2.2.2, ?_⟩
  have z := q2 ρ1 H1 (Itr 0 (j - 0).toNat) x1 S1 (rng_gives (i := 0) (n := (j - 0).toNat) ρ1 h1 H1)
  simpa using z
theorem pi_rng2 {tg a b : Expr} {c c' : CE} {p pos : Pos} (hF : MonoF F) (hg : Gl X "range") (hm : X.mg "range" = none) (pa : PE X a (tE G F W c)) (pb : PE X b (tE G F W c')) (hs : starEach [a, b] X.env = [(false, eval a X.env), (false, eval b X.env)]) (hs2 : starEach [b] X.env = [(false, eval b X.env)]) :
    PI X tg (.Call (.Name "range" p) [a, b] [] pos) (tI G F W (.range2 c c')) := by
  refine PI.imp (pi_range2 hg hm (ta := tCons (tE G F W c) (tCons (tE G F W c') tNil)) (pa_cons pa (pa_cons pb pa_nil (by rw [hs2]; rfl)) (by rw [hs, hs2])) hs hs2) fun σ H R ⟨ρ, h, env, S, er, w⟩ => ?_
  refine tE_of hF S er .refl w fun ρ1 h1 H1 d v x1 S1 e1 r1 w1 => ?_
  refine tE_of hF S1 e1 x1 w1 fun ρ2 h2 H2 d2 v2 x2 S2 e2 r2 ⟨ds, q1, q2⟩ => ?_
  obtain ⟨i, j, rfl, rfl, hb, rfl⟩ := rngF_some q1
  cases r1
  cases r2
  exact ⟨i, j, rfl, hb, q2 ρ2 H2 (Itr i (j - i).toNat) (x1.trans x2) S2 (rng_gives ρ2 h2 H2)⟩
end
end Cq
namespace Cq
open PySem PySem.Spec PyProof.Rows L2

/-! ### argument lists without a star -/
def noStar : Expr → Bool
  | .Starred _ _ => false
  | _ => true
theorem star1 {e : Expr} {es : List Expr} {env : PySem.Env} (h : noStar e = true) : starEach (e :: es) env = (false, eval e env) :: starEach es env := by
  cases e <;> first | rfl | cases h
theorem star_all : ∀ {es : List Expr} {env : PySem.Env} {pos : Pos}, es.all noStar = true → (backTo pos (starEach es env)).any (·.1) = false ∧ (backTo pos (starEach es env)).all (fun x => !x.1) = true
  | [], env, pos, _ => ⟨rfl, rfl⟩
  | e :: es, env, pos, h => by
    obtain ⟨h1, h2⟩ := Bool.and_eq_true_iff.mp (show (noStar e && es.all noStar) = true from h)
    obtain ⟨i1, i2⟩ := star_all (env := env) (pos := pos) h2
    rw [star1 h1]
    refine ⟨?_, ?_⟩
    · show (false || (backTo pos (starEach es env)).any (·.1)) = false
      rw [i1]; rfl
    · show (true && (backTo pos (starEach es env)).all (fun x => !x.1)) = true
      rw [i2]; rfl

section
variable {A : Type} [DecidableEq A] {G : Gx} {F : CallW A} {W : WX} {ρ ρ' ρ'' ρ0 : Rh A} {h h' h'' h0 : PH A} {H H' H'' H0 : Hp} {X : Cx} {σ : L2.St} {env : Env A}
theorem pa_nilC : PA X [] (tA G F W []) := PA.imp pa_nil fun σ H Q ⟨ρ, h, env, S, er, w⟩ => w ρ H [] .refl S rfl
theorem pa_consC {e : Expr} {es : List Expr} {c : CE} {cs : List CE} (hF : MonoF F) (hs : noStar e = true) (p : PE X e (tE G F W c)) (ps : PA X es (tA G F W cs)) : PA X (e :: es) (tA G F W (c :: cs)) :=
  PA.imp (pa_cons p ps (star1 hs)) fun σ H Q ⟨ρ, h, env, S, er, w⟩ => tE_of hF S er .refl w fun ρ1 h1 H1 d v x1 S1 e1 r1 w1 => tA_of hF S1 e1 x1 w1 fun ρ2 h2 H2 ds vs x2 S2 e2 r2 q =>
    q ρ2 H2 (v :: vs) (x1.trans x2) S2 ⟨v, vs, rfl, r1.ext x2 S1, r2⟩

/-! ### displays -/
theorem pe_tupC {es : List Expr} {cs : List CE} {k : Nat} {pos : Pos} (hF : MonoF F) (p : PA X es (tA G F W cs)) : PE X (.Tuple es k pos) (tE G F W (.tup cs)) :=
  PE.imp (pe_tup p) fun σ H Q ⟨ρ, h, env, S, er, w⟩ => tA_of hF S er .refl w fun ρ1 h1 H1 ds vs x1 S1 e1 r1 q => ⟨by rw [← r1.len]; exact q.1, fun p hp =>
    q.2 _ _ _ (x1.trans (Ext.new0 S1 hp)) (Sim.new0 S1 hp) ⟨p, vs, rfl, SqT.of upd_same, r1.ext (Ext.new0 S1 hp) S1⟩⟩
theorem pe_lstC {es : List Expr} {cs : List CE} {pos : Pos} (hF : MonoF F) (p : PA X es (tA G F W cs)) : PE X (.List es pos) (tE G F W (.list cs)) :=
  PE.imp (pe_lst p) fun σ H Q ⟨ρ, h, env, S, er, w⟩ => tA_of hF S er .refl w fun ρ1 h1 H1 ds vs x1 S1 e1 r1 q => ⟨by rw [← r1.len]; exact q.1, fun p hp =>
    new_list S1 hp r1 (newL_mono (fun d h2 q => LQ.on q x1) q.2)⟩

/-! ### calls -/
theorem run_fnG {k : Nat} {f : Addr} {fd : FuncData} {ps : List Str} {sp : Sp} {pins : List (Addr × Obj)} {s : Shared} {Q : VK} {us : List Value} {vs : List V} (Fn : FnG X.prog X.w X.K X.mg X.base k f fd ps sp) (hr : Room k X.A) (hg : X.A.guards = some [])
    (hb : Binds X.K fd ps []) (tk : Takes X W) (I : Inv X pins σ H s) (r : Vals vs us) (q : sp vs H Q (WE W σ)) : wpAny (model X.prog X.w) X.A (call (.ref f) us) (EP X pins σ Q) X.xe s := by
  have hl : us.length = ps.length := by rw [← r.length]; exact Fn.len _ _ _ _ q
  have b := hb s us I.kIn (by rw [List.append_nil]; exact hl)
  rw [List.append_nil] at b
  refine wpAny_call (codeAny_mono (Fn.run X.A X.stack s H ⟨us, []⟩ us vs Q (WE W σ) hr hg I.env0 b r q) fun r s' hq => ?_)
  cases r with
  | error e => exact passAt tk σ pins H s e s' I hq
  | ok fl =>
    cases fl with
    | ret u => exact I.after hq
    | next => exact False.elim hq
    | brk => exact False.elim hq
    | cont => exact False.elim hq
theorem spF_of (hF : MonoF F) {i n : Nat} {ds : List (D A)} {vs : List V} {Q : VK} (S : Sim G ρ h H) (x : Ext ρ0 h0 H0 ρ h H) (r : Reps G ρ h H ds vs) (hn : ds.length = n) (w : F i ds h (LQ G ρ0 h0 H0 Q) (LE G W ρ0 h0 H0 σ)) : spF G F i n vs H Q (WE W σ) :=
  ⟨by rw [← r.len]; exact hn, ρ, h, ds, S, r, hF _ _ _ _ _ _ _ (fun d h2 q => LQ.on q x) (fun c h2 q ρ' H' y s => q ρ' H' (x.trans y) s) w⟩
theorem pe_callC {k i n : Nat} {f : Addr} {fd : FuncData} {ps : List Str} {x : Str} {p pos : Pos} {es : List Expr} {cs : List CE} (hF : MonoF F) (Far : ∀ ds h (Q : QD A) (E : QE A), F i ds h Q E → ds.length = n) (hps : ps.length = n)
    (Fn : FnG X.prog X.w X.K X.mg X.base k f fd ps (spF G F i n)) (hr : Room k X.A) (hgd : X.A.guards = some []) (hg : Gl X x) (hm : X.mg x = some (.ref f)) (hk : PySem.W.keepIn X.K (.ref f) = true) (hb : Binds X.K fd ps []) (tk : Takes X W)
    (ha : PA X es (tA G F W cs)) (hcs : es = [] → cs = []) (hs : es.all noStar = true) (hdb : (x == ("__debug__" : Str)) = false) : PE X (.Call (.Name x p) es [] pos) (tE G F W (.call i cs)) := by
  refine ⟨fun pins s σ H Q I ⟨ρ, h, env, S, er, w⟩ => ?_⟩
  refine wpAny_Call_Name_kw (ld_glob I hg hm ?_ hdb)
  cases es with
  | nil =>
    obtain rfl := hcs rfl
    exact PySem.W.callWith_K0 I.kIn hk (run_fnG (us := []) (vs := []) Fn hr hgd hb tk I .nil (spF_of hF S .refl (ds := []) (vs := []) rfl (Far _ _ _ _ w) w))
  | cons e es =>
    obtain ⟨h1, h2⟩ := Bool.and_eq_true_iff.mp (show (noStar e && es.all noStar) = true from hs)
    have go : tA G F W cs σ H fun vs H1 => spF G F i n vs H1 Q (WE W σ) := tA_of hF S er .refl w fun ρ1 h1 H1 ds vs x1 S1 e1 r1 q => spF_of hF S1 x1 r1 (Far _ _ _ _ q) q
    refine PySem.W.callWith_K (h₀ := X.base) I.ok.mod.kin hk (thn (ha.run pos pins s σ H _ I go) fun us s1 ⟨vs, H1, I1, r, q⟩ => ⟨I1.kIn, ?_⟩) (star1 h1) (star_all h2).1
    exact run_fnG Fn hr hgd hb tk I1 r q
mutual
theorem pd_noDict {T : Nat → Str} : ∀ (d : D A) {p : PyData}, pd T d = some p → p.hasDict = false
  | .non, _, e => by cases e; rfl
  | .bl _, _, e => by cases e; rfl
  | .int _, _, e => by cases e; rfl
  | .str _, _, e => by cases e; rfl
  | .txt _, _, e => by cases e; rfl
  | .ref _, _, e => by cases e
  | .tup ds, _, e => by
    unfold pd at e
    obtain ⟨ps, e1, rfl⟩ := Option.map_eq_some_iff.mp e
    simp only [PyData.hasDict]
    exact pds_noDict ds e1
  | .lst ds, _, e => by
    unfold pd at e
    obtain ⟨ps, e1, rfl⟩ := Option.map_eq_some_iff.mp e
    simp only [PyData.hasDict]
    exact pds_noDict ds e1
theorem pds_noDict {T : Nat → Str} : ∀ (ds : List (D A)) {ps : List PyData}, pds T ds = some ps → PyData.hasDictAll ps = false
  | [], _, e => by cases e; rfl
  | d :: ds, _, e => by
    unfold pds at e
    split at e
    · rename_i a b
      cases e
      simp only [PyData.hasDictAll, pd_noDict d a, pds_noDict ds b, Bool.or_self]
    · cases e
end
/-- built-ins by values -/
def rBi (G : Gx) (b : Bi) : List V → Hp → VK → Prop := fun vs H Q => ∃ (ρ : Rh A) (h : PH A) (ds : List (D A)) (c : D A), Sim G ρ h H ∧ Reps G ρ h H ds vs ∧ biF G.tx.f b ds h = some c ∧ LQ G ρ h H Q c h
theorem reps1 {d : D A} {vs : List V} (r : Reps G ρ h H [d] vs) : ∃ v, vs = [v] ∧ Rep G ρ h H d v := by
  obtain ⟨v, vs, rfl, r1, rfl⟩ := r
  exact ⟨v, rfl, r1⟩
theorem bi1 {b : Bi} {ds : List (D A)} {c : D A} {T : Nat → Str} (q : biF T b ds h = some c) : ∃ d, ds = [d] := by
  unfold biF at q
  split at q <;> first | exact ⟨_, rfl⟩ | cases q
theorem bi_len (hK : X.K = G.K) : CallR X (.builtin "len") (rBi (A := A) G .len) := fun pins s σ H vs us Q I r ⟨ρ, h, ds, c, S, rs, q, k⟩ => by
  obtain ⟨d, rfl⟩ := bi1 q
  obtain ⟨v, rfl, r1⟩ := reps1 rs
  obtain ⟨n, q1, rfl⟩ := Option.map_eq_some_iff.mp (show (lenF h d).map (fun (n : Nat) => D.int (n : Int)) = some c from q)
  have key : ∀ {ys : List (D A)}, itemsF h d = some ys → n = ys.length → wpAny (model X.prog X.w) X.A (call (.builtin "len") us) (EP X pins σ Q) X.xe s := fun {ys} e1 e2 => by
    obtain ⟨p, ws, rfl, rs, sq⟩ := items_sq S r1 e1
    refine call_len pins s σ H _ us Q I r ⟨.ref p, n, rfl, ?_, k.here S rfl⟩
    rw [e2, rs.len]
    rcases sq with ⟨_, sq⟩ | ⟨_, sq⟩
    · exact .inr ⟨ws, by rw [hK]; exact sq, rfl⟩
    · exact .inl ⟨ws, by rw [hK]; exact sq, rfl⟩
  cases d with
  | tup ds => exact key rfl (Option.some.inj q1).symm
  | lst ds => exact key rfl (Option.some.inj q1).symm
  | ref a =>
    cases e : getL h a with
    | some ds =>
      have q2 : lenF h (.ref a) = some ds.length := by unfold lenF; simp only [e]
      rw [q2] at q1
      exact key e (Option.some.inj q1).symm
    | none =>
      obtain ⟨u, hu⟩ : ∃ u, getK h a = some u := by
        have q2 : lenF h (.ref a) = (getK h a).map (·.length) := by unfold lenF; simp only [e]
        rw [q2] at q1
        obtain ⟨u, hu, _⟩ := Option.map_eq_some_iff.mp q1
        exact ⟨u, hu⟩
      obtain ⟨v, _, rv⟩ := S.obj a _ (getK_iff.mp hu)
      exact rv.elim
  | _ => cases q1
theorem bi_int : CallR X (.type "int") (rBi (A := A) G .int) := fun pins s σ H vs us Q I r ⟨ρ, h, ds, c, S, rs, q, k⟩ => by
  obtain ⟨d, rfl⟩ := bi1 q
  obtain ⟨v, rfl, r1⟩ := reps1 rs
  cases d <;> first | (cases q; done) | skip
  cases q; cases r1
  exact call_int1 pins s σ H _ us Q I r (.inl ⟨_, rfl, k.here S rfl⟩)
theorem bi_abs : CallR X (.builtin "abs") (rBi (A := A) G .abs) := fun pins s σ H vs us Q I r ⟨ρ, h, ds, c, S, rs, q, k⟩ => by
  obtain ⟨d, rfl⟩ := bi1 q
  obtain ⟨v, rfl, r1⟩ := reps1 rs
  cases d <;> first | (cases q; done) | skip
  cases q; cases r1
  exact call_abs pins s σ H _ us Q I r ⟨_, rfl, k.here S rfl⟩
theorem bi_repr (hK : X.K = G.K) (hg : X.A.guards = some []) (hu : X.A.units + 100 < cLine) : CallR X (.builtin "repr") (rBi (A := A) G .repr) := fun pins s σ H vs us Q I r ⟨ρ, h, ds, c, S, rs, q, k⟩ => by
  obtain ⟨d, rfl⟩ := bi1 q
  obtain ⟨v, rfl, r1⟩ := reps1 rs
  obtain ⟨p, q1, q2⟩ := Option.bind_eq_some_iff.mp (show (pd G.tx.f (Cq.top h d)).bind (fun p => if p.showable = true ∧ p.depth ≤ 64 ∧ p.shown.length + 64 ≤ sizeLine then some (D.txt p.shown) else none) = some c from q)
  split at q2
  · rename_i hc
    cases q2
    obtain ⟨u, rfl, ru⟩ := vals1 r
    have dp : Dp X.K H v p := by rw [hK]; exact S.top r1 q1
    have kq : Q (.str p.shown) H := k.here S rfl
    cases dp with
    | non => cases ru; exact PySem.P.repr_of_none ⟨.str _, H, I.tok _, ⟨_, rfl⟩, by rw [PyData.shown_none] at kq; exact kq⟩
    | bl b => cases ru; exact PySem.P.repr_of_bool ⟨.str _, H, I.tok _, ⟨_, rfl⟩, by rw [PyData.shown_bool] at kq; exact kq⟩
    | int i =>
      obtain ⟨t, rfl⟩ := ru
      exact PySem.P.repr_of_int (by have := hc.1; simpa [PyData.showable] using this) ⟨.str _, H, I.tok _, ⟨_, rfl⟩, by rw [PyData.shown_int] at kq; exact kq⟩
    | str x =>
      obtain ⟨t, rfl⟩ := ru
      rw [PyData.shown_str] at kq
      exact PySem.P.repr_of_str ⟨.str _, H, I.tok _, ⟨_, rfl⟩, kq⟩ (by have := hc.2.2; rw [PyData.shown_str] at this; omega)
    | lst sq da =>
      cases ru
      obtain ⟨as, rd⟩ := Dp.reads I _ _ _ (Dp.lst sq da) rfl
      exact repr_of_reads' rd hc.1 (fun e => by rw [pd_noDict _ q1] at e; cases e) hg (by have := hc.2.1; omega) (fun _ _ e => e) (fun h' u tk kk => ⟨.str _, H, I.kept kk, ⟨_, rfl⟩, kq⟩) (by have := hc.2.2; omega)
    | tup sq da =>
      cases ru
      obtain ⟨as, rd⟩ := Dp.reads I _ _ _ (Dp.tup sq da) rfl
      exact repr_of_reads' rd hc.1 (fun e => by rw [pd_noDict _ q1] at e; cases e) hg (by have := hc.2.1; omega) (fun _ _ e => e) (fun h' u tk kk => ⟨.str _, H, I.kept kk, ⟨_, rfl⟩, kq⟩) (by have := hc.2.2; omega)
  · cases q2
end
end Cq
namespace Cq
open PySem PySem.Spec PyProof.Rows L2
section
variable {A : Type} [DecidableEq A] {G : Gx} {F : CallW A} {W : WX} {ρ ρ' ρ'' ρ0 : Rh A} {h h' h'' h0 : PH A} {H H' H'' H0 : Hp} {X : Cx} {σ : L2.St} {env : Env A}

/-! ### a list that is being made at D -/
def Rh.wz (ρ : Rh A) (z : Addr → Prop) : Rh A := ⟨ρ.f, z⟩
theorem img_wz {z : Addr → Prop} {b : Addr} (i : Img (ρ.wz z) h b) (k : z b → ρ.z b) : Img ρ h b := i.elim (fun q => .inl (k q)) .inr
theorem mv_unz {z : Addr → Prop} (hz : ∀ b, z b → ρ.z b) : Mv G ρ h H (ρ.wz z) h H :=
  ⟨fun r q => ⟨q, rfl⟩, fun a vs q => by
    rcases q with ⟨q, n⟩ | q
    · exact .inl ⟨q, fun i => n (img_wz i (hz a))⟩
    · exact .inr q, fun _ _ q => q⟩
theorem Sim.unz (S : Sim G ρ h H) {z : Addr → Prop} (hz : ∀ b, z b → ρ.z b) : Sim G (ρ.wz z) h H :=
  ⟨fun r o q => let ⟨u, a, b⟩ := S.obj r o q; ⟨u, a, b.mv (mv_unz hz)⟩, S.inj, fun a q => S.zin a (hz a q), fun r q y => S.zout r q (hz _ y)⟩
theorem Ext.unz (x : Ext ρ h H ρ' h' H') {z : Addr → Prop} (hz : ∀ b, z b → ρ.z b) : Ext (ρ.wz z) h H (ρ'.wz z) h' H' where
  dom := x.dom
  new := x.new
  imm := fun a o e i n => by
    by_cases q : ρ.z a
    · rw [x.zst a q]; exact e
    · exact x.imm a o e i fun y => y.elim q fun y => n (.inr y)
  grow := x.grow
  zz := rfl
  zst := fun a q => x.zst a (hz a q)
theorem Ext.touch (x : Ext ρ h H ρ' h' H') {D : Addr} {o : HO} (hD : H D = none) (hz : ¬ ρ.z D) : Ext ρ h H ρ' h' (upd H' D o) where
  dom := x.dom
  new := x.new
  imm := fun a u e i n => by rw [upd_ne (ne_of_none e hD)]; exact x.imm a u e i n
  grow := fun a q => by
    by_cases e : a = D
    · rw [e, upd_same]; exact fun z => nomatch z
    · rw [upd_ne e]; exact x.grow a q
  zz := x.zz
  zst := fun a q => by
    have ne : a ≠ D := fun e => hz (by rw [← e]; exact q)
    rw [upd_ne ne]; exact x.zst a q
/-- from the state ahead of the list to one where it stands at D, held -/
theorem mv_held (x : Ext ρ h H (ρ'.wz ρ.z) h' H') (S : Sim G ρ h H) {D : Addr} (hD : H D = none) (hz : ∀ b, ρ'.z b → ρ.z b ∨ b = D) : Mv G ρ h H ρ' h' H' := by
  have m := x.mv S
  refine ⟨m.dom, fun a vs q => ?_, m.tq⟩
  rcases id q with ⟨q2, n2⟩ | q2
  · have ne : a ≠ D := fun e => by
      subst e
      rcases q2 with q2 | ⟨o, q2⟩ <;> (rw [hD] at q2; cases q2)
    rcases m.fz a vs q with ⟨q1, n⟩ | q1
    · refine .inl ⟨q1, fun i => ?_⟩
      rcases i with i | i
      · exact (hz a i).elim (fun y => n (.inl y)) ne
      · exact n (.inr i)
    · exact .inr q1
  · exact .inr q2
theorem dropc {α : Type} {l : List α} {i : Nat} {x : α} (e : l[i]? = some x) : l.drop i = x :: l.drop (i + 1) := by
  obtain ⟨hi, e⟩ := List.getElem?_eq_some_iff.mp e
  rw [List.drop_eq_getElem_cons hi, e]
theorem repsApp : ∀ {ds : List (D A)} {vs : List V} {d : D A} {v : V}, Reps G ρ h H ds vs → Rep G ρ h H d v → Reps G ρ h H (ds ++ [d]) (vs ++ [v])
  | [], _, d, v, r, q => by cases r; exact ⟨v, [], rfl, q, rfl⟩
  | x :: ds, _, d, v, ⟨y, r, e, q1, q2⟩, q => by subst e; exact ⟨y, r ++ [v], rfl, q1, repsApp q2 q⟩
/-- what a turn of a comprehension does -/
def turnW (T : Nat → Str) (F : CallW A) (tg vs : List Nat) (ts : List CT) (e : CE) (env : Env A) (d : D A) (h2 : PH A) (K : Option (D A) → PH A → Prop) : Prop :=
  on (tgF tg d (wipeE env vs)) fun σ2 => wTs T F ts σ2 h2 (fun c h3 => if c = true then wE T F e σ2 h3 (fun y h4 => K (some y) h4) (fun _ _ => False) else K none h3) (fun _ _ => False)
abbrev Wno : WX := fun _ _ _ _ => False
theorem wipe_wipe : ∀ {vs ws : List Nat} {σ : L2.St}, (∀ i ∈ vs, i ∈ ws) → L2.wipe (L2.wipe σ vs) ws = L2.wipe σ ws
  | [], ws, σ, _ => rfl
  | v :: vs, ws, σ, hh => by
    show L2.wipe ((L2.wipe σ vs).set v none) ws = _
    rw [wipe_set (hh v List.mem_cons_self), wipe_wipe fun i q => hh i (List.mem_cons_of_mem _ q)]
theorem lc_ok (hF : MonoF F) {ci : CI} {tg vs : List Nat} {ts : List CT} {e : CE} (htg : ∀ i ∈ tg, i ∈ vs) {Q : VK} (w : tE G F W (.comp ci tg vs ts e) σ H Q) :
    tLc (tI (A := A) G F W ci) (tTg (A := A) G tg) (tTs (A := A) G F Wno ts) (tE (A := A) G F Wno e) vs σ H Q := by
  obtain ⟨ρ, h, env, S, er, w⟩ := w
  refine tI_of hF S er .refl w fun ds st ρ1 h1 H1 J x1 S1 e1 gv cl => ?_
  have cl : compL st (turnW G.tx.f F tg vs ts e env) ds [] h1 (fun acc h2 => newL acc h2 (LQ G ρ h H Q)) := cl
  intro L hD
  have hD0 : H L = none := by
    cases q : H L with
    | none => rfl
    | some o => exact (x1.grow L (by rw [q]; exact fun z => nomatch z) hD).elim
  have nz : ¬ ρ1.z L := fun z => S1.zin L z hD
  have s1z : ∀ b, ρ1.z b → H1 b ≠ none := S1.zin
  refine ⟨fun i m H' => m = ds.length - i ∧ i ≤ ds.length ∧ ∃ (ρ' : Rh A) (h' : PH A) (acc : List (Cq.D A)) (us : List V), (∀ b, ρ'.z b ↔ ρ1.z b ∨ b = L) ∧ Ext ρ1 h1 H1 (ρ'.wz ρ1.z) h' H' ∧ Sim G ρ' h' H' ∧ H' L = some (.lst us) ∧ Reps G ρ' h' H' acc us ∧
      compL st (turnW G.tx.f F tg vs ts e env) (ds.drop i) acc h' (fun acc h2 => newL acc h2 (LQ G ρ h H Q)), ?_, ?_⟩
  · -- the start
    refine ⟨ds.length, rfl, Nat.zero_le _, ρ1.wz (fun b => ρ1.z b ∨ b = L), h1, [], [], fun b => Iff.rfl, ?_, ?_, upd_same, rfl, cl⟩
    · exact (Ext.refl (ρ := ρ1) (h := h1) (H := H1)).touch hD nz
    · have x0 : Ext ρ1 h1 H1 ρ1 h1 (upd H1 L (.lst [])) := Ext.new0 S1 hD
      have m : Mv G ρ1 h1 H1 (ρ1.wz fun b => ρ1.z b ∨ b = L) h1 (upd H1 L (.lst [])) := mv_held (ρ' := ρ1.wz fun b => ρ1.z b ∨ b = L) (Ext.refl.touch hD nz) S1 hD fun b q => q
      refine ⟨fun r o q => ?_, S1.inj, fun b q => ?_, fun r q y => ?_⟩
      · obtain ⟨u, hu, ru⟩ := S1.obj r o q
        exact ⟨u, by show upd H1 L _ (ρ1 r) = _; rw [upd_ne (ne_of_none hu hD)]; exact hu, ru.mv m⟩
      · rcases q with q | q
        · exact x0.grow b (S1.zin b q)
        · rw [q, upd_same]; exact fun z => nomatch z
      · rcases y with y | y
        · exact S1.zout r q y
        · exact S1.notAt hD (.inr ⟨r, q, y⟩)
  · rintro i m H' ⟨rfl, hi, ρ', h', acc, us, hz, x, S', hus, rs, cl⟩
    have m' : Mv G ρ1 h1 H1 ρ' h' H' := mv_held x S1 hD fun b q => (hz b).mp q
    by_cases hlt : i < ds.length
    · -- a turn
      obtain ⟨d, hd⟩ : ∃ d, ds[i]? = some d := ⟨ds[i], List.getElem?_eq_getElem hlt⟩
      rw [dropc hd] at cl
      obtain ⟨cs, cl⟩ := cl
      obtain ⟨g1, g2⟩ := (gv ρ' h' H' m' S' cs).1 i d hd
      refine .inr ⟨g1, fun H2 => i + 1 ≤ ds.length ∧ ∃ (ρ' : Rh A) (h' : PH A) (acc : List (Cq.D A)) (us : List V), (∀ b, ρ'.z b ↔ ρ1.z b ∨ b = L) ∧ Ext ρ1 h1 H1 (ρ'.wz ρ1.z) h' H2 ∧ Sim G ρ' h' H2 ∧ H2 L = some (.lst us) ∧ Reps G ρ' h' H2 acc us ∧
        compL st (turnW G.tx.f F tg vs ts e env) (ds.drop (i + 1)) acc h' (fun acc h2 => newL acc h2 (LQ G ρ h H Q)), fun H2 q => ⟨ds.length - (i + 1), by omega, rfl, q⟩, fun y H2 hy => ?_⟩
      obtain ⟨xa, Sa, ra, ka⟩ := g2 y H2 hy
      obtain ⟨env2, t1, cl⟩ := cl
      have zD : ρ'.z L := (hz L).mpr (.inr rfl)
      have unz : ∀ b, ρ1.z b → ρ'.z b := fun b q => (hz b).mpr (.inl q)
      have era : EnvR G ρ' h' H2 (wipeE env vs) (L2.wipe σ vs) := ((e1.mv m').ext xa S').wipe vs
      refine ⟨ρ', h', wipeE env vs, d, env2, Sa, era, ra, t1, fun σ2 er2 hw => ?_⟩
      refine ⟨by rw [hw vs htg]; exact wipe_wipe fun _ q => q, ?_⟩
      refine tTs_of (ρ0 := ρ') (h0 := h') (H0 := H2) hF Sa er2 .refl (wTs_mono hF ts (fun _ _ q => q) (fun _ _ z => z.elim) cl) fun ρ3 h3 H3 b x3 S3 e3 q3 => ?_
      have fin : ∀ {ρ4 : Rh A} {h4 : PH A} {H4 : Hp}, Ext ρ' h' H2 ρ4 h4 H4 → Sim G ρ4 h4 H4 → (∀ b, ρ4.z b ↔ ρ1.z b ∨ b = L) ∧ Ext ρ1 h1 H1 (ρ4.wz ρ1.z) h4 H4 ∧ H4 L = some (.lst us) ∧ Reps G ρ4 h4 H4 acc us := fun {ρ4 h4 H4} x4 S4 => by
        have xx := (xa.trans x4)
        refine ⟨fun b => by rw [xx.zz]; exact hz b, x.trans (xx.unz unz), by rw [xx.zst L zD]; exact hus, rs.ext xx S'⟩
      cases b with
      | false =>
        simp only [Bool.false_eq_true, if_false] at q3 ⊢
        obtain ⟨f1, f2, f3, f4⟩ := fin x3 S3
        exact ⟨hlt, ρ3, h3, acc, us, f1, f2, S3, f3, f4, q3⟩
      | true =>
        simp only [if_true] at q3 ⊢
        refine tE_of (ρ0 := ρ3) (h0 := h3) (H0 := H3) hF S3 e3 .refl (wE_mono hF e (fun _ _ q => q) (fun _ _ z => z.elim) q3) fun ρ4 h4 H4 z zv x4 S4 e4 r4 q4 => ?_
        obtain ⟨f1, f2, f3, f4⟩ := fin (x3.trans x4) S4
        have zD4 : ρ4.z L := (f1 L).mpr (.inr rfl)
        refine ⟨us, f3, by rw [← f4.len]; exact q4.1, hlt, ρ4, h4, acc ++ [z], us ++ [zv], f1, f2.touch hD nz, ?_, upd_same, ?_, q4.2⟩
        all_goals
          have m4 : Mv G ρ4 h4 H4 ρ4 h4 (upd H4 L (.lst (us ++ [zv]))) := ⟨fun r q => ⟨q, rfl⟩, fun a l q => by
              rcases q with ⟨q, n⟩ | q
              · have ne : a ≠ L := fun e => n (.inl (by rw [e]; exact zD4))
                exact .inl ⟨by unfold Rd; rw [upd_ne ne]; exact q, n⟩
              · exact .inr q, fun a l q => by
              rcases q with q | q
              · have ne : a ≠ L := fun e => by
                  subst e
                  rcases q with q | ⟨o, q⟩ <;> (rw [f3] at q; cases q)
                exact .inl (by unfold Rd; rw [upd_ne ne]; exact q)
              · exact .inr q⟩
        · refine ⟨fun r o q => ?_, S4.inj, fun b q => ?_, S4.zout⟩
          · obtain ⟨u, hu, ru⟩ := S4.obj r o q
            have ne : ρ4 r ≠ L := fun e => S4.zout r (by rw [q]; exact fun z => nomatch z) (by rw [e]; exact zD4)
            exact ⟨u, by rw [upd_ne ne]; exact hu, ru.mv m4⟩
          · by_cases e : b = L
            · rw [e, upd_same]; exact fun z => nomatch z
            · rw [upd_ne e]; exact S4.zin b q
        · exact repsApp (f4.mv m4) (r4.mv m4)
    · -- the end
      have e : i = ds.length := by omega
      subst e
      rw [List.drop_length] at cl
      obtain ⟨cs, cl⟩ := cl
      refine .inl ⟨(gv ρ' h' H' m' S' cs).2, ?_⟩
      have unz : ∀ b, ρ1.z b → ρ'.z b := fun b q => (hz b).mpr (.inl q)
      have zD : ρ'.z L := (hz L).mpr (.inr rfl)
      have Sf : Sim G (ρ'.wz ρ1.z) h' H' := S'.unz unz
      have xf : Ext ρ h H (ρ'.wz ρ1.z) h' H' := x1.trans x
      have nat : ∀ r, h' r ≠ none → ρ' r ≠ L := fun r q e => S'.zout r q (by rw [e]; exact zD)
      rcases cl with cl | ⟨a, na, cl⟩
      · refine cl _ _ _ xf Sf ⟨L, us, rfl, .inl ⟨.inl hus, fun i => ?_⟩, rs.mv (mv_unz unz)⟩
        rcases i with i | ⟨r, q, e⟩
        · exact nz i
        · exact nat r q e
      · have xn : Ext ρ h H ((ρ'.wz ρ1.z).at a L) (up h' a (.lst acc)) H' := xf.name hD0 na
        have mm : Mv G ρ' h' H' ((ρ'.wz ρ1.z).at a L) (up h' a (.lst acc)) H' := by
          refine ⟨fun r q => ?_, fun b l q => ?_, fun _ _ q => q⟩
          · have ne : r ≠ a := fun e => q (e ▸ na)
            exact ⟨by rw [up_ne ne]; exact q, Rh.at_ne ne⟩
          · rcases q with ⟨q, n⟩ | q
            · refine .inl ⟨q, fun i => n ?_⟩
              rcases i with i | ⟨r, qr, er⟩
              · exact .inl (unz _ i)
              · by_cases e : r = a
                · rw [e, Rh.at_same] at er
                  exact .inl (by rw [← er]; exact zD)
                · rw [Rh.at_ne e] at er
                  rw [up_ne e] at qr
                  exact .inr ⟨r, qr, er⟩
            · exact .inr q
        have Sn : Sim G ((ρ'.wz ρ1.z).at a L) (up h' a (.lst acc)) H' := Sim.name S' (p := L) Rh.at_same (fun _ z => Rh.at_ne z) hus nat na ⟨us, rfl, rs.mv mm⟩ mm (fun _ _ => rfl) (fun b q => S'.zin b (unz b q)) unz nz
        exact cl _ _ _ xn Sn ⟨by rw [Rh.at_same], by rw [up_same]; exact fun z => nomatch z⟩
end
end Cq
namespace Cq
open PySem PySem.Spec PyProof.Rows L2

/-- the program's names: defs by number, whole numbers of the top, texts, fields -/
structure Tb where
  fns : List Str
  tint : List (Str × Int)
  tstr : List Str
  flds : List Str := []
def visB (s : Sc) (x : Str) : Bool := match s.sc.names.lookup x with
  | some .local => true
  | some .cell => true
  | some .free => true
  | _ => false
def glB (s : Sc) (x : Str) : Bool := match s.sc.names.lookup x with
  | some .globalImplicit => true
  | _ => false
/-- names that the model looks at by itself -/
def plainN (x : Str) : Bool := !(x == ("__debug__" : Str)) && (!(x == ("__classdict__" : Str)) && !(x == ("__name__" : Str)))
def boOf : Operator → Option BO
  | .Add => some .add | .Sub => some .sub | .Mult => some .mul | .FloorDiv => some .fdiv | .Mod => some .mod | .Pow => some .pow
  | _ => none
def coOf : CmpOp → Option CO
  | .Lt => some .lt | .LtE => some .le | .Gt => some .gt | .GtE => some .ge | .Eq => some .eq | .NotEq => some .ne | .In => some .in_ | .NotIn => some .nin
  | _ => none
/-- the built-ins that are called with one value -/
def biOf (x : Str) : Option Bi :=
  if x = "len" then some .len else if x = "int" then some .int else if x = "abs" then some .abs else if x = "repr" then some .repr else none
def bltNames : List Str := ["len", "int", "abs", "repr", "range"]
def bmOf (x : Str) : Option Bm := if x = "append" then some .append else none
/-- not super() -/
def baseB : Expr → Bool
  | .Call (.Name _ _) [] [] _ => false
  | _ => true
def isSlice : Expr → Bool
  | .Slice .. => true
  | _ => false
def ownOf (s : Sc) (scope : Scope) : List (Str × Nat) := scope.names.filterMap fun y => match y.2 with
  | .local => (ixOf s.N y.1).map fun i => (y.1, i)
  | .cell => (ixOf s.N y.1).map fun i => (y.1, i)
  | _ => none
def scIn (s : Sc) (scope : Scope) : Sc := ⟨s.N, relS scope s.sc, fun x => scope.names.lookup x == some .cell⟩
def plainT : Expr → Bool
  | .UnaryOp .Not _ _ => false
  | .BoolOp .. => false
  | .Compare .. => false
  | .IfExp .. => false
  | _ => true
def noSetIter : Expr → Bool
  | .Set .. => false
  | _ => true
section
variable (tb : Tb)
def trAnd {α : Type} (f : Expr → Option α) (g : α → α → α) : List Expr → Option α
  | [] => none
  | [a] => f a
  | a :: b :: r => match f a, trAnd f g (b :: r) with
    | some x, some y => some (g x y)
    | _, _ => none
def trL {α : Type} (f : Expr → Option α) : List Expr → Option (List α)
  | [] => some []
  | e :: es => match f e, trL f es with
    | some x, some xs => some (x :: xs)
    | _, _ => none
def o2 {α β γ : Type} (g : α → β → γ) : Option α → Option β → Option γ
  | some a, some b => some (g a b)
  | _, _ => none
def o3 {α β γ δ : Type} (g : α → β → γ → δ) : Option α → Option β → Option γ → Option δ
  | some a, some b, some c => some (g a b c)
  | _, _, _ => none
mutual
def trE : Nat → Sc → Expr → Option CE
  | 0, _, _ => none
  | n + 1, s, e => match e with
    | .Name x _ => if plainN x = true then (if visB s x = true then (ixOf s.N x).map .var else if glB s x = true then (tb.tint.lookup x).map .int else none) else none
    | .Constant (.int i) _ _ => some (.int i)
    | .Constant (.bool b) _ _ => some (.bl b)
    | .Constant .none _ _ => some .non
    | .Constant (.str x) _ _ => (ixOf tb.tstr x).map .str
    | .Tuple es _ _ => if es.all noStar = true then (trL (trE n s) es).map .tup else none
    | .List es _ => if es.all noStar = true then (trL (trE n s) es).map .list else none
    | .BinOp a op b _ => o3 .bin (boOf op) (trE n s a) (trE n s b)
    | .UnaryOp .USub a _ => (trE n s a).map .neg
    | .UnaryOp .Not a _ => (trE n s a).map .not_
    | .BoolOp .And es _ => trAnd (trE n s) .and_ es
    | .BoolOp .Or es _ => trAnd (trE n s) .or_ es
    | .Compare a [op] [b] _ => if behindInMarks op b = true then none else o3 .cmp (coOf op) (trE n s a) (trE n s b)
    | .IfExp t a b _ => o3 .ite (trT n s t) (trE n s a) (trE n s b)
    | .Subscript o i _ => if isSlice i = true then none else o2 .sub (trE n s o) (trE n s i)
    | .Call (.Name x _) es [] _ => if (plainN x && (glB s x && es.all noStar)) = true then (match ixOf tb.fns x with
        | some f => (trL (trE n s) es).map (.call f)
        | none => match es with
          | [a] => o2 (fun b c => .bi b [c]) (biOf x) (trE n s a)
          | _ => none) else none
    | .Call (.Attribute o name apos) es [] cpos => if (baseB o && ((apos.endLine == cpos.line) && (es.all noStar && decide (es.length < 20)))) = true then o3 .bm (bmOf name) (trE n s o) (if es.isEmpty = true then none else trL (trE n s) es) else none
    | .ListComp elt [⟨tg, iter, ifs, 0⟩] scope _ => if (blkC s.N s.sc scope (ownOf s scope) && noSetIter iter) = true then (match trTg (scIn s scope) tg with
        | some t => if (t.all fun i => (ownOf s scope).any fun p => p.2 == i) = true then o3 (fun ci ts c => CE.comp ci t ((ownOf s scope).map (·.2)) ts c) (trI n s iter) (match ifs with
            | [] => some []
            | [a] => (trT n (scIn s scope) a).map fun c => [c]
            | _ => none) (trE n (scIn s scope) elt) else none
        | none => none) else none
    | _ => none
def trT : Nat → Sc → Expr → Option CT
  | 0, _, _ => none
  | n + 1, s, e => match e with
    | .BoolOp .And es _ => trAnd (trT n s) .and_ es
    | .BoolOp .Or es _ => trAnd (trT n s) .or_ es
    | .UnaryOp .Not a _ => (trT n s a).map .not_
    | .Compare a [op] [b] _ => if behindInMarks op b = true then none else o3 .cmp (coOf op) (trE n s a) (trE n s b)
    | .Compare a [op, op'] [b, c] _ => if lastMarks [op, op'] [b, c] = true then none else o2 (fun (p : CO × CO) (q : CE × CE × CE) => CT.chain p.1 p.2 q.1 q.2.1 q.2.2) (o2 Prod.mk (coOf op) (coOf op')) (o3 (fun x y z => (x, y, z)) (trE n s a) (trE n s b) (trE n s c))
    | e => if plainT e = true then (trE n s e).map .val else none
def trI : Nat → Sc → Expr → Option CI
  | 0, _, _ => none
  | n + 1, s, e => match e with
    | .Call (.Name x _) es [] _ => if (decide (x = "range") && (glB s x && (es.all noStar && (ixOf tb.fns x).isNone))) = true then (match es with
        | [a] => (trE n s a).map .range1
        | [a, b] => o2 .range2 (trE n s a) (trE n s b)
        | _ => none) else (trE n s e).map .val
    | e => (trE n s e).map .val
end
end
end Cq
namespace Cq
open PySem PySem.Spec PyProof.Rows L2
section
variable {A : Type} [DecidableEq A]
/-- what is known of the program -/
structure Fx (G : Gx) (tb : Tb) (F : CallW A) (P : Program) (w : World) (K : PySem.W.Frag) (mg : Str → Option Value) (base : Heap) (k : Nat) : Prop where
  kk : K = G.K
  mono : MonoF F
  blt : ∀ x ∈ bltNames, mg x = none
  tint : ∀ x i, tb.tint.lookup x = some i → ∃ u, mg x = some u ∧ RelV (.int i) u
  tstr : ∀ i x, tb.tstr[i]? = some x → G.tx.f i = x ∧ i < G.tx.n
  fns : ∀ i x, tb.fns[i]? = some x → ∃ (f : Addr) (fd : FuncData) (ps : List Str), mg x = some (.ref f) ∧ PySem.W.keepIn K (.ref f) = true ∧ L2.Binds K fd ps [] ∧ FnG P w K mg base k f fd ps (spF G F i ps.length) ∧
    ∀ ds h (Q : QD A) (E : QE A), F i ds h Q E → ds.length = ps.length
structure Cok (G : Gx) (tb : Tb) (F : CallW A) (k : Nat) (s : Sc) (X : Cx) : Prop where
  nk : Nk s X
  fx : Fx G tb F X.prog X.w X.K X.mg X.base k
  room : Room k X.A
  gd : X.A.guards = some []
theorem Cok.blk {G : Gx} {tb : Tb} {F : CallW A} {k : Nat} {s : Sc} {X : Cx} (c : Cok G tb F k s X) {scope : Scope} (s' : Shared) (H : Hp) (cl : List (Str × Addr)) (C : Addr) (fp : List Addr) : Cok G tb F k (scIn s scope) (X.blk s' H scope (compEnvC scope cl C X.env) fp) where
  nk := ⟨c.nk.N, c.nk.nd, by rw [show (scIn s scope).sc = relS scope s.sc from rfl, ← c.nk.sc]; rfl, rfl, c.nk.calm⟩
  fx := c.fx
  room := c.room
  gd := c.gd
theorem takes_no {X : Cx} (hx : X.xe = fun _ _ => False) : Takes X Wno := fun u s' ⟨a, B, sI, pins, σ, H, cls, d, e, I, nb, up, sky, na, os, ag, w⟩ => w.elim
variable {G : Gx} {tb : Tb} {F : CallW A} {W : WX} {ρ ρ' ρ'' ρ0 : Rh A} {h h' h'' h0 : PH A} {H H' H'' H0 : Hp} {X : Cx} {σ : L2.St} {env : Env A} {k : Nat} {s : Sc}
theorem visB_vis {x : Str} (n : Nk s X) (q : visB s x = true) : Vis X.env.scope x := by
  unfold visB at q
  rw [← n.sc] at q
  split at q
  · rename_i e; exact .inl e
  · rename_i e; exact .inr (.inl e)
  · rename_i e; exact .inr (.inr e)
  · cases q
theorem glB_gl {x : Str} (n : Nk s X) (q : glB s x = true) : Gl X x := by
  unfold glB at q
  rw [← n.sc] at q
  split at q
  · rename_i e; exact e
  · cases q
theorem plainN_ok {x : Str} (q : plainN x = true) : (x == ("__debug__" : Str)) = false ∧ (x == ("__classdict__" : Str)) = false ∧ x ≠ ("__name__" : Str) := by
  unfold plainN at q
  obtain ⟨a, b⟩ := Bool.and_eq_true_iff.mp q
  obtain ⟨b, c⟩ := Bool.and_eq_true_iff.mp b
  refine ⟨by simpa using a, by simpa using b, by simpa using c⟩
theorem pe_varC {i : Nat} {x : Str} {pos : Pos} (n : Nk s X) (hi : ixOf s.N x = some i) (hv : visB s x = true) (hp : plainN x = true) : PE X (.Name x pos) (tE (A := A) G F W (.var i)) :=
  PE.imp (pe_var (by rw [n.N]; exact ixOf_get hi) (visB_vis n hv) (plainN_ok hp).1 (plainN_ok hp).2.1) fun σ H Q ⟨ρ, h, env, S, er, w⟩ => by
    obtain ⟨d, e, q⟩ := w
    obtain ⟨v, hv, rv⟩ := er.at_ i d (by
      cases z : env[i]? with
      | none => rw [z] at e; cases e
      | some o => rw [z] at e; rw [show o = some d from e])
    exact ⟨v, hv, q.here S rv⟩
theorem boOf_op {op : Operator} {o : BO} (q : boOf op = some o) : op = opOf o := by cases op <;> first | (cases q; done) | (cases q; rfl)
theorem coOf_op {op : CmpOp} {o : CO} (q : coOf op = some o) : op = copOf o ∧ o ≠ .isN ∧ o ≠ .notN ∧ o ≠ .isB ∧ o ≠ .notB := by
  cases op <;> first | (cases q; done) | (cases q; refine ⟨rfl, ?_, ?_, ?_, ?_⟩ <;> (intro z; cases z))
theorem o2_some {α β γ : Type} {g : α → β → γ} {a : Option α} {b : Option β} {c : γ} (q : o2 g a b = some c) : ∃ x y, a = some x ∧ b = some y ∧ g x y = c := by
  cases a with
  | none => cases q
  | some a => cases b with
    | none => cases q
    | some b => exact ⟨a, b, rfl, rfl, Option.some.inj q⟩
theorem o3_some {α β γ δ : Type} {g : α → β → γ → δ} {a : Option α} {b : Option β} {c : Option γ} {d : δ} (q : o3 g a b c = some d) : ∃ x y z, a = some x ∧ b = some y ∧ c = some z ∧ g x y z = d := by
  cases a with
  | none => cases q
  | some a => cases b with
    | none => cases q
    | some b => cases c with
      | none => cases q
      | some c => exact ⟨a, b, c, rfl, rfl, rfl, Option.some.inj q⟩
/-! ### two values, an operation -/
theorem imp2 {r : R2} {c a b : CE} (hF : MonoF F) {K : D A → D A → PH A → QD A → Prop}
    (hw : ∀ env h Q E, wE G.tx.f F c env h Q E → wE G.tx.f F a env h (fun x h1 => wE G.tx.f F b env h1 (fun y h2 => K x y h2 Q) E) E)
    (hr : ∀ (ρ : Rh A) (h : PH A) (H : Hp) d e x y (Q : VK), Sim G ρ h H → Rep G ρ h H d x → Rep G ρ h H e y → K d e h (LQ G ρ h H Q) → r x y H Q)
    (hk : ∀ d e h (Q Q' : QD A), (∀ d h, Q d h → Q' d h) → K d e h Q → K d e h Q') (σ : L2.St) (H : Hp) (Q : VK) (t : tE G F W c σ H Q) : tOp r (tE G F W a) (tE G F W b) σ H Q := by
  obtain ⟨ρ, h, env, S, er, w⟩ := t
  refine tE_of hF S er .refl (hw _ _ _ _ w) fun ρ1 h1 H1 d v x1 S1 e1 r1 w1 => ?_
  refine tE_of hF S1 e1 x1 w1 fun ρ2 h2 H2 d2 v2 x2 S2 e2 r2 q => ?_
  exact hr ρ2 h2 H2 d d2 v v2 Q S2 (r1.ext x2 S1) r2 (hk _ _ _ _ _ (fun d h q => LQ.on q (x1.trans x2)) q)
theorem pe_binC {o : BO} {a b : Expr} {ca cb : CE} {pos : Pos} (hF : MonoF F) (pa : PE X a (tE G F W ca)) (pb : PE X b (tE G F W cb)) : PE X (.BinOp a (opOf o) b pos) (tE G F W (.bin o ca cb)) :=
  PE.imp (pe_op (op_bin (A := A) (G := G) o) pa pb) (imp2 hF (K := fun x y h Q => on (binF o x y) fun d => Q d h) (fun _ _ _ _ w => w) (fun ρ h H d e x y Q S r1 r2 ⟨c, q, k⟩ => ⟨ρ, h, d, e, c, S, r1, r2, q, k⟩) fun _ _ _ _ _ hk q => on_mono (fun _ q => hk _ _ q) q)
theorem pe_cmpC {o : CO} {op : CmpOp} {a b : Expr} {ca cb : CE} {pos : Pos} (hF : MonoF F) (hK : X.K = G.K) (hu : X.A.units + 65 < cLine) (ho : coOf op = some o) (hm : behindInMarks op b = false) (pa : PE X a (tE G F W ca)) (pb : PE X b (tE G F W cb)) :
    PE X (.Compare a [op] [b] pos) (tE G F W (.cmp o ca cb)) := by
  obtain ⟨rfl, n1, n2, n3, n4⟩ := coOf_op ho
  exact PE.imp (pe_cmpR (op_cmp (A := A) hK hu o n1 n2 n3 n4) pa pb hm) (imp2 hF (K := fun x y h Q => on (cmpF o x y h) fun c => Q (.bl c) h) (fun _ _ _ _ w => w) (fun ρ h H d e x y Q S r1 r2 ⟨c, q, k⟩ => ⟨ρ, h, d, e, c, S, r1, r2, q, k.here S rfl⟩) fun _ _ _ _ _ hk q => on_mono (fun _ q => hk _ _ q) q)
theorem pt_cmpC {o : CO} {op : CmpOp} {a b : Expr} {ca cb : CE} {pos : Pos} (hF : MonoF F) (hK : X.K = G.K) (hu : X.A.units + 65 < cLine) (ho : coOf op = some o) (hm : behindInMarks op b = false) (pa : PE X a (tE G F W ca)) (pb : PE X b (tE G F W cb)) :
    PT X (.Compare a [op] [b] pos) (tT G F W (.cmp o ca cb)) := by
  obtain ⟨rfl, n1, n2, n3, n4⟩ := coOf_op ho
  refine PT.imp (pt_cmpR (op_cmp (A := A) hK hu o n1 n2 n3 n4) pa pb hm) fun σ H Q ⟨ρ, h, env, S, er, w⟩ => ?_
  refine tE_of hF S er .refl w fun ρ1 h1 H1 d v x1 S1 e1 r1 w1 => ?_
  refine tE_of hF S1 e1 x1 w1 fun ρ2 h2 H2 d2 v2 x2 S2 e2 r2 ⟨c, q, kq⟩ => ?_
  exact ⟨ρ2, h2, d, d2, c, S2, r1.ext x2 S1, r2, q, c, rfl, kq ρ2 H2 (x1.trans x2) S2⟩
theorem pe_subC {a b : Expr} {ca cb : CE} {pos : Pos} (hF : MonoF F) (hK : X.K = G.K) (hs : isSlice b = false) (pa : PE X a (tE G F W ca)) (pb : PE X b (tE G F W cb)) : PE X (.Subscript a b pos) (tE G F W (.sub ca cb)) :=
  PE.imp (pe_ix (ix_sub (A := A) hK) pa pb (by intro o i; cases b <;> first | rfl | cases hs)) (imp2 hF (K := fun x y h Q => on (subF x y h) fun d => Q d h) (fun _ _ _ _ w => w) (fun ρ h H d e x y Q S r1 r2 ⟨c, q, k⟩ => ⟨ρ, h, d, e, c, S, r1, r2, q, k⟩) fun _ _ _ _ _ hk q => on_mono (fun _ q => hk _ _ q) q)
theorem pe_negC {a : Expr} {c : CE} {pos : Pos} (hF : MonoF F) (pa : PE X a (tE G F W c)) : PE X (.UnaryOp .USub a pos) (tE G F W (.neg c)) :=
  PE.imp (pe_un (un_negC (A := A) (G := G)) pa) fun σ H Q ⟨ρ, h, env, S, er, w⟩ => tE_of hF S er .refl w fun ρ1 h1 H1 d v x1 S1 e1 r1 ⟨c, q, k⟩ => ⟨ρ1, h1, d, c, S1, r1, q, LQ.on k x1⟩
theorem asB_some {d : D A} {c : Bool} (q : asB d = some c) : d = .bl c := by cases d <;> first | (cases q; done) | (cases q; rfl)
theorem pe_notC {a : Expr} {c : CE} {pos : Pos} (hF : MonoF F) (pa : PE X a (tE G F W c)) : PE X (.UnaryOp .Not a pos) (tE G F W (.not_ c)) :=
  PE.imp (pe_not pa) fun σ H Q ⟨ρ, h, env, S, er, w⟩ => tE_of hF S er .refl w fun ρ1 h1 H1 d v x1 S1 e1 r1 ⟨c, q, k⟩ => by
    obtain rfl := asB_some q
    cases r1
    exact ⟨c, rfl, (LQ.on k x1).here S1 rfl⟩
theorem pe_andC {a b : Expr} {rest : List Expr} {c d : CE} {pos : Pos} (hF : MonoF F) (pa : PE X a (tE G F W c)) (pb : PE X (.BoolOp .And (b :: rest) pos) (tE G F W d)) : PE X (.BoolOp .And (a :: b :: rest) pos) (tE G F W (.and_ c d)) :=
  PE.imp (pe_and pa pb) fun σ H Q ⟨ρ, h, env, S, er, w⟩ => tE_of hF S er .refl w fun ρ1 h1 H1 x v x1 S1 e1 r1 ⟨c, q, kk⟩ => by
    obtain rfl := asB_some q
    cases r1
    refine ⟨c, rfl, ?_⟩
    cases c with
    | true => exact tE_of hF S1 e1 x1 kk fun ρ2 h2 H2 y v x2 S2 e2 r2 q => q _ _ _ (x1.trans x2) S2 r2
    | false => exact kk _ _ _ x1 S1 rfl
theorem pe_orC {a b : Expr} {rest : List Expr} {c d : CE} {pos : Pos} (hF : MonoF F) (pa : PE X a (tE G F W c)) (pb : PE X (.BoolOp .Or (b :: rest) pos) (tE G F W d)) : PE X (.BoolOp .Or (a :: b :: rest) pos) (tE G F W (.or_ c d)) :=
  PE.imp (pe_or pa pb) fun σ H Q ⟨ρ, h, env, S, er, w⟩ => tE_of hF S er .refl w fun ρ1 h1 H1 x v x1 S1 e1 r1 ⟨c, q, kk⟩ => by
    obtain rfl := asB_some q
    cases r1
    refine ⟨c, rfl, ?_⟩
    cases c with
    | false => exact tE_of hF S1 e1 x1 kk fun ρ2 h2 H2 y v x2 S2 e2 r2 q => q _ _ _ (x1.trans x2) S2 r2
    | true => exact kk _ _ _ x1 S1 rfl
theorem pe_iteC {t a b : Expr} {ct : CT} {c d : CE} {pos : Pos} (hF : MonoF F) (pt : PT X t (tT G F W ct)) (pa : PE X a (tE G F W c)) (pb : PE X b (tE G F W d)) : PE X (.IfExp t a b pos) (tE G F W (.ite ct c d)) :=
  PE.imp (pe_ifExp pt pa pb) fun σ H Q ⟨ρ, h, env, S, er, w⟩ => tT_of hF S er .refl w fun ρ1 h1 H1 c x1 S1 e1 kk => by
    cases c with
    | true => exact tE_of hF S1 e1 x1 kk fun ρ2 h2 H2 y v x2 S2 e2 r2 q => q _ _ _ (x1.trans x2) S2 r2
    | false => exact tE_of hF S1 e1 x1 kk fun ρ2 h2 H2 y v x2 S2 e2 r2 q => q _ _ _ (x1.trans x2) S2 r2
theorem pt_notC {a : Expr} {c : CT} {pos : Pos} (hF : MonoF F) (pa : PT X a (tT (A := A) G F W c)) : PT X (.UnaryOp .Not a pos) (tT (A := A) G F W (.not_ c)) :=
  PT.imp (pt_not pa) fun σ H Q ⟨ρ, h, env, S, er, w⟩ => tT_of hF S er .refl w fun ρ1 h1 H1 c x1 S1 e1 kk => kk _ _ x1 S1
theorem pw_andC {a b : Expr} {rest : List Expr} {c d : CT} {pos : Pos} (hF : MonoF F) (pa : PT X a (tT (A := A) G F W c)) (pb : PW X (.BoolOp .And (b :: rest) pos) (tT (A := A) G F W d)) : PW X (.BoolOp .And (a :: b :: rest) pos) (tT (A := A) G F W (.and_ c d)) := by
  have p := pw_and (pos := pos) pa pb
  refine ⟨fun wh pins s σ H Q I q => p.run wh pins s σ H Q I ?_⟩
  obtain ⟨ρ, h, env, S, er, w⟩ := q
  refine tT_of hF S er .refl w fun ρ1 h1 H1 c x1 S1 e1 kk => ?_
  cases c with
  | true => exact tT_of hF S1 e1 x1 kk fun ρ2 h2 H2 b x2 S2 e2 q => q _ _ (x1.trans x2) S2
  | false => exact kk _ _ x1 S1
theorem pw_orC {a b : Expr} {rest : List Expr} {c d : CT} {pos : Pos} (hF : MonoF F) (pa : PT X a (tT (A := A) G F W c)) (pb : PW X (.BoolOp .Or (b :: rest) pos) (tT (A := A) G F W d)) : PW X (.BoolOp .Or (a :: b :: rest) pos) (tT (A := A) G F W (.or_ c d)) := by
  have p := pw_or (pos := pos) pa pb
  refine ⟨fun wh pins s σ H Q I q => p.run wh pins s σ H Q I ?_⟩
  obtain ⟨ρ, h, env, S, er, w⟩ := q
  refine tT_of hF S er .refl w fun ρ1 h1 H1 c x1 S1 e1 kk => ?_
  cases c with
  | false => exact tT_of hF S1 e1 x1 kk fun ρ2 h2 H2 b x2 S2 e2 q => q _ _ (x1.trans x2) S2
  | true => exact kk _ _ x1 S1
theorem pt_chainC {o o' : CO} {op op' : CmpOp} {a b c : Expr} {ca cb cc : CE} {pos : Pos} (hF : MonoF F) (hK : X.K = G.K) (hu : X.A.units + 65 < cLine) (ho : coOf op = some o) (ho' : coOf op' = some o') (hm : lastMarks [op, op'] [b, c] = false)
    (pa : PE X a (tE G F W ca)) (pb : PE X b (tE G F W cb)) (pc : PE X c (tE G F W cc)) : PT X (.Compare a [op, op'] [b, c] pos) (tT G F W (.chain o o' ca cb cc)) := by
  obtain ⟨rfl, n1, n2, n3, n4⟩ := coOf_op ho
  obtain ⟨rfl, m1, m2, m3, m4⟩ := coOf_op ho'
  refine PT.imp (pt_chain (op_cmp (A := A) hK hu o n1 n2 n3 n4) (op_cmp (A := A) hK hu o' m1 m2 m3 m4) pa pb pc hm) fun σ H Q ⟨ρ, h, env, S, er, w⟩ => ?_
  refine tE_of hF S er .refl w fun ρ1 h1 H1 d v x1 S1 e1 r1 w1 => ?_
  refine tE_of hF S1 e1 x1 w1 fun ρ2 h2 H2 d2 v2 x2 S2 e2 r2 ⟨c, q, kq⟩ => ?_
  refine ⟨ρ2, h2, d, d2, c, S2, r1.ext x2 S1, r2, q, c, rfl, ?_⟩
  cases c with
  | false => exact ⟨false, rfl, kq _ _ (x1.trans x2) S2⟩
  | true => exact tE_of hF S2 e2 (x1.trans x2) kq fun ρ3 h3 H3 d3 v3 x3 S3 e3 r3 ⟨c, q, kq⟩ => ⟨ρ3, h3, d2, d3, c, S3, r2.ext x3 S2, r3, q, c, rfl, kq _ _ ((x1.trans x2).trans x3) S3⟩
theorem tru_ok' {d : D A} {v : V} {c : Bool} (hK : X.K = G.K) (S : Sim G ρ h H) (r : Rep G ρ h H d v) (q : truth h d = some c) : TruV X.K v H c := by
  rw [hK]
  cases d with
  | non => cases q; cases r; rfl
  | bl b => cases q; cases r; rfl
  | int i => cases q; cases r; rfl
  | tup ds =>
    cases q
    obtain ⟨a, vs, rfl, sq, rs⟩ := r
    refine .inr (.inl ⟨vs, sq, ?_⟩)
    cases ds <;> cases vs <;> first | rfl | (have := rs.len; simp at this)
  | lst ds =>
    cases q
    obtain ⟨a, vs, rfl, sq, rs⟩ := r
    refine .inl ⟨vs, sq.sq, ?_⟩
    cases ds <;> cases vs <;> first | rfl | (have := rs.len; simp at this)
  | ref a =>
    obtain ⟨rfl, na⟩ := r
    have q : (match getL h a with
      | some ds => some !ds.isEmpty
      | none => (getK h a).map fun ds => !ds.isEmpty) = some c := q
    split at q
    · rename_i ds e
      cases q
      obtain ⟨vs, hu, rs⟩ := S.lst e
      refine .inl ⟨vs, SqL.of hu, ?_⟩
      cases ds <;> cases vs <;> first | rfl | (have := rs.len; simp at this)
    · obtain ⟨u, hu, _⟩ := Option.map_eq_some_iff.mp q
      obtain ⟨v, _, rv⟩ := S.obj a _ (getK_iff.mp hu)
      exact rv.elim
  | _ => cases q
theorem pt_valC {a : Expr} {c : CE} (hF : MonoF F) (hK : X.K = G.K) (hp : plainT a = true) (pa : PE X a (tE G F W c)) : PT X a (tT G F W (.val c)) :=
  PT.imp (pt_truth pa (by intro wh; cases a <;> first | rfl | (cases hp; done) | (rename_i op _ _; cases op <;> first | rfl | cases hp))) fun σ H Q ⟨ρ, h, env, S, er, w⟩ => tE_of hF S er .refl w fun ρ1 h1 H1 d v x1 S1 e1 r1 ⟨c, q, k⟩ =>
    ⟨c, tru_ok' hK S1 r1 q, k _ _ x1 S1⟩
theorem pe_biC1 {b : Bi} {x : Str} {p pos : Pos} {a : Expr} {c : CE} (hF : MonoF F) (n : Cok G tb F k s X) (hg : glB s x = true) (hp : plainN x = true) (hs : noStar a = true) (hb : biOf x = some b) (pa : PE X a (tE G F W c)) : PE X (.Call (.Name x p) [a] [] pos) (tE G F W (.bi b [c])) := by
  have pA : PA X [a] (tA G F W [c]) := pa_consC hF hs pa pa_nilC
  have hg := glB_gl n.nk hg
  obtain ⟨p1, p2, p3⟩ := plainN_ok hp
  have key : ∀ b', b' = b → ∀ σ H Q, tE G F W (.bi b [c]) σ H Q → tA G F W [c] σ H fun vs H1 => rBi (A := A) G b' vs H1 Q := fun b' e σ H Q ⟨ρ, h, env, S, er, w⟩ => by
    subst e
    exact tA_of hF S er .refl w fun ρ1 h1 H1 ds vs x1 S1 e1 rs ⟨d, q, kk⟩ => ⟨ρ1, h1, ds, d, S1, rs, q, LQ.on kk x1⟩
  have hu := n.room.un
  unfold biOf at hb
  split at hb
  · rename_i e; subst e; cases hb
    exact PE.imp (pe_callB (bi_len (A := A) n.fx.kk) hg (n.fx.blt _ (by simp [bltNames])) rfl pA (by decide) (by decide) (star1 hs)) (key _ rfl)
  split at hb
  · rename_i e; subst e; cases hb
    exact PE.imp (pe_callTy (bi_int (A := A) (G := G)) hg (n.fx.blt _ (by simp [bltNames])) rfl pA (by decide) (by decide) (star1 hs)) (key _ rfl)
  split at hb
  · rename_i e; subst e; cases hb
    exact PE.imp (pe_callB (bi_abs (A := A) (G := G)) hg (n.fx.blt _ (by simp [bltNames])) rfl pA (by decide) (by decide) (star1 hs)) (key _ rfl)
  split at hb
  · rename_i e; subst e; cases hb
    exact PE.imp (pe_callB (bi_repr (A := A) n.fx.kk n.gd (by omega)) hg (n.fx.blt _ (by simp [bltNames])) rfl pA (by decide) (by decide) (star1 hs)) (key _ rfl)
  · cases hb
theorem base_ok {o : Expr} {x : Str} {env : PySem.Env} {wh : Sem Value} (h : baseB o = true) : attributeBase o x env wh = wh := by
  unfold baseB at h
  split at h
  · cases h
  · rename_i n
    unfold attributeBase
    split
    · exact (n _ _ _ rfl).elim
    · rfl
theorem few_ok : ∀ {es : List Expr} {env : PySem.Env} {pos : Pos}, es.all noStar = true → es.length < 20 → ((backTo pos (starEach es env)).all (fun x => !x.1) && (backToKw pos (keywordEach [] env)).all (fun x => x.1.isSome)
      && decide (es.length + ([] : List Keyword).length + (if ([] : List Keyword).isEmpty then 0 else 1) < 30)) = true := fun {es env pos} h hl => by
  rw [(star_all h).2]
  have : decide (es.length + ([] : List Keyword).length + (if ([] : List Keyword).isEmpty then 0 else 1) < 30) = true := decide_eq_true (by show es.length + 0 + 0 < 30; omega)
  rw [this]
  rfl
/-- methods of lists by values -/
def rBm (G : Gx) (m : Bm) : V → List V → Hp → VK → Prop := fun x vs H Q => ∃ (ρ : Rh A) (h : PH A) (d : D A) (ds : List (D A)) (p : D A × PH A), Sim G ρ h H ∧ Rep G ρ h H d x ∧ Reps G ρ h H ds vs ∧ bmF m d ds h = some p ∧ LQ G ρ h H Q p.1 p.2
theorem mt_app : MtR X "list.append" (rBm (A := A) G .append) := fun pins s σ H x vs v us Q I rx rv ⟨ρ, h, d, ds, p, S, r1, r2, q, kk⟩ => by
  cases d <;> first | (cases q; done) | skip
  rename_i a
  match ds, q, r2 with
  | [d], q, r2 =>
    obtain ⟨ys, e1, e2⟩ := Option.bind_eq_some_iff.mp (show (getL h a).bind (fun ds => if ds.length < sizeLine then some (D.non, up h a (.lst (ds ++ [d]))) else none) = some p from q)
    split at e2
    · rename_i hl
      cases e2
      obtain ⟨rfl, na⟩ := r1
      obtain ⟨y, rfl, ry⟩ := reps1 r2
      obtain ⟨zs, hu, rs⟩ := S.lst e1
      have ha := getL_iff.mp e1
      refine mt_append pins s σ H _ _ v us Q I rx rv ⟨_, zs, y, rfl, rfl, hu, by rw [← rs.len]; exact hl, ?_⟩
      have x0 : Ext ρ h H ρ (up h a (.lst (ys ++ [d]))) (upd H (ρ a) (.lst (zs ++ [y]))) := Ext.put S ha
      exact kk ρ _ _ x0 (Sim.put S ha ⟨_, rfl, repsApp (rs.ext x0 S) (ry.ext x0 S)⟩) rfl
    · cases e2
theorem tyB_ok {m : Bm} {d : D A} {v : V} (hK : X.K = G.K) (S : Sim G ρ h H) (r : Rep G ρ h H d v) (q : tyB m d h = true) : tyV X.K "list" v H := by
  rw [hK]
  cases d with
  | lst ds => obtain ⟨a, vs, rfl, sq, rs⟩ := r; exact .inl ⟨rfl, vs, sq.sq⟩
  | ref a =>
    obtain ⟨rfl, na⟩ := r
    obtain ⟨ds, e⟩ := Option.isSome_iff_exists.mp (show (getL h a).isSome = true from q)
    obtain ⟨vs, hu, rs⟩ := S.lst e
    exact .inl ⟨rfl, vs, SqL.of hu⟩
  | _ => cases q
theorem pe_bmC {m : Bm} {x : Str} {apos cpos : Pos} {o : Expr} {es : List Expr} {co : CE} {cs : List CE} (hF : MonoF F) (hK : X.K = G.K) (hm : bmOf x = some m) (hb : baseB o = true) (hl : (apos.endLine == cpos.line) = true) (hs : es.all noStar = true) (hn : es.length < 20) (he : es.isEmpty = false)
    (po : PE X o (tE G F W co)) (pa : PA X es (tA G F W cs)) : PE X (.Call (.Attribute o x apos) es [] cpos) (tE G F W (.bm m co cs)) := by
  cases es with
  | nil => cases he
  | cons e es =>
    have h1 := (Bool.and_eq_true_iff.mp (show (noStar e && es.all noStar) = true from hs))
    unfold bmOf at hm
    split at hm
    · rename_i ex
      cases hm; subst ex
      refine PE.imp (pe_bm PySem.F.plainAttrs_list PySem.F.slot_list_append rfl (mt_app (A := A) (G := G)) po pa (base_ok hb) (few_ok hs hn) hl (star1 h1.1) (star_all h1.2).1) fun σ H Q ⟨ρ, h, env, S, er, w⟩ => ?_
      refine tE_of hF S er .refl w fun ρ1 h1 H1 d v x1 S1 e1 r1 w1 => ⟨tyB_ok hK S1 r1 w1.1, ?_⟩
      refine tA_of hF S1 e1 x1 w1.2 fun ρ2 h2 H2 ds vs x2 S2 e2 rs ⟨p, q, kk⟩ => ⟨ρ2, h2, d, ds, p, S2, r1.ext x2 S1, rs, q, ?_⟩
      exact LQ.on kk (x1.trans x2)
    · cases hm
end
end Cq
namespace Cq
open PySem PySem.Spec PyProof.Rows L2
section
variable {A : Type} [DecidableEq A]
variable {G : Gx} {tb : Tb} {F : CallW A} {W : WX} {ρ ρ' ρ'' ρ0 : Rh A} {h h' h'' h0 : PH A} {H H' H'' H0 : Hp} {X : Cx} {σ : L2.St} {env : Env A} {k : Nat} {s : Sc}
theorem trL_ok {f : Expr → Option CE} (hF : MonoF F) (hf : ∀ e c, f e = some c → PE X e (tE G F W c)) : ∀ {es : List Expr} {cs : List CE}, es.all noStar = true → trL f es = some cs → PA X es (tA G F W cs) ∧ (es = [] → cs = [])
  | [], cs, _, q => by cases q; exact ⟨pa_nilC, fun _ => rfl⟩
  | e :: es, cs, hs, q => by
    obtain ⟨h1, h2⟩ := Bool.and_eq_true_iff.mp (show (noStar e && es.all noStar) = true from hs)
    unfold trL at q
    split at q
    · rename_i a b
      cases q
      exact ⟨pa_consC hF h1 (hf _ _ a) (trL_ok hF hf h2 b).1, fun z => (nomatch z)⟩
    · cases q
theorem trAnd_okE {f : Expr → Option CE} (hF : MonoF F) (hf : ∀ e c, f e = some c → PE X e (tE G F W c)) {pos : Pos} : ∀ {es : List Expr} {c : CE}, trAnd f .and_ es = some c → PE X (.BoolOp .And es pos) (tE G F W c)
  | [], c, q => by cases q
  | [a], c, q => pe_one (hf a c q)
  | a :: b :: r, c, q => by
    unfold trAnd at q
    split at q
    · rename_i x y
      cases q
      exact pe_andC hF (hf _ _ x) (trAnd_okE hF hf y)
    · cases q
theorem trOr_okE {f : Expr → Option CE} (hF : MonoF F) (hf : ∀ e c, f e = some c → PE X e (tE G F W c)) {pos : Pos} : ∀ {es : List Expr} {c : CE}, trAnd f .or_ es = some c → PE X (.BoolOp .Or es pos) (tE G F W c)
  | [], c, q => by cases q
  | [a], c, q => pe_one (hf a c q)
  | a :: b :: r, c, q => by
    unfold trAnd at q
    split at q
    · rename_i x y
      cases q
      exact pe_orC hF (hf _ _ x) (trOr_okE hF hf y)
    · cases q
theorem trAnd_okT {f : Expr → Option CT} (hF : MonoF F) (hf : ∀ e c, f e = some c → PT X e (tT (A := A) G F W c)) {pos : Pos} : ∀ {es : List Expr} {c : CT}, trAnd f .and_ es = some c → PW X (.BoolOp .And es pos) (tT (A := A) G F W c)
  | [], c, q => by cases q
  | [a], c, q => pw_and1 (hf a c q)
  | a :: b :: r, c, q => by
    unfold trAnd at q
    split at q
    · rename_i x y
      cases q
      exact pw_andC hF (hf _ _ x) (trAnd_okT hF hf y)
    · cases q
theorem trOr_okT {f : Expr → Option CT} (hF : MonoF F) (hf : ∀ e c, f e = some c → PT X e (tT (A := A) G F W c)) {pos : Pos} : ∀ {es : List Expr} {c : CT}, trAnd f .or_ es = some c → PW X (.BoolOp .Or es pos) (tT (A := A) G F W c)
  | [], c, q => by cases q
  | [a], c, q => pw_or1 (hf a c q)
  | a :: b :: r, c, q => by
    unfold trAnd at q
    split at q
    · rename_i x y
      cases q
      exact pw_orC hF (hf _ _ x) (trOr_okT hF hf y)
    · cases q
structure TrOk (A : Type) [DecidableEq A] (G : Gx) (tb : Tb) (F : CallW A) (k n : Nat) : Prop where
  e : ∀ {s X W e c}, Cok G tb F k s X → Takes X W → trE tb n s e = some c → PE X e (tE (A := A) G F W c)
  t : ∀ {s X W e c}, Cok G tb F k s X → Takes X W → trT tb n s e = some c → PT X e (tT (A := A) G F W c)
  i : ∀ {s X W e c tg}, Cok G tb F k s X → Takes X W → trI tb n s e = some c → PI X tg e (tI (A := A) G F W c)
theorem fin2 {α β : Type} {a : Option α} {f : α → β} {b : β} (q : a.map f = some b) : ∃ x, a = some x ∧ f x = b := Option.map_eq_some_iff.mp q
theorem fold_ok {e : Expr} {env : PySem.Env} {x : Value} (h : noSetIter e = true) : foldedSetIterable e env x = pure x := by
  cases e <;> first | rfl | cases h
theorem trE_ok {n : Nat} (ih : TrOk A G tb F k n) {s : Sc} {X : Cx} {W : WX} {e : Expr} {c : CE} (K : Cok G tb F k s X) (tk : Takes X W) (q : trE tb (n + 1) s e = some c) : PE X e (tE (A := A) G F W c) := by
  have hF := K.fx.mono
  have hu : X.A.units + 65 < cLine := by have := K.room.un; omega
  unfold trE at q
  split at q
  · -- Name
    rename_i x pos
    split at q
    · rename_i hp
      split at q
      · rename_i hv
        obtain ⟨i, e1, rfl⟩ := fin2 q
        exact pe_varC K.nk e1 hv hp
      · split at q
        · rename_i hg
          obtain ⟨i, e1, rfl⟩ := fin2 q
          obtain ⟨u, hm, r⟩ := K.fx.tint _ _ e1
          exact PE.imp (pe_glob (glB_gl K.nk hg) hm r (plainN_ok hp).1) fun σ H Q ⟨ρ, h, env, S, er, w⟩ => (show LQ G ρ h H Q (.int i) h from w).here S rfl
        · cases q
    · cases q
  · cases q; exact PE.imp pe_int fun σ H Q ⟨ρ, h, env, S, er, w⟩ => (show LQ G ρ h H Q (.int _) h from w).here S rfl
  · cases q; exact PE.imp pe_bl fun σ H Q ⟨ρ, h, env, S, er, w⟩ => (show LQ G ρ h H Q (.bl _) h from w).here S rfl
  · cases q; exact PE.imp pe_non fun σ H Q ⟨ρ, h, env, S, er, w⟩ => (show LQ G ρ h H Q .non h from w).here S rfl
  · -- str
    obtain ⟨i, e1, rfl⟩ := fin2 q
    obtain ⟨a, b⟩ := K.fx.tstr _ _ (ixOf_get e1)
    exact PE.imp pe_str fun σ H Q ⟨ρ, h, env, S, er, w⟩ => (show LQ G ρ h H Q (.str i) h from w).here S ⟨by rw [a], b⟩
  · split at q
    · rename_i hs
      obtain ⟨cs, e1, rfl⟩ := fin2 q
      exact pe_tupC hF (trL_ok hF (fun _ _ => ih.e K tk) hs e1).1
    · cases q
  · split at q
    · rename_i hs
      obtain ⟨cs, e1, rfl⟩ := fin2 q
      exact pe_lstC hF (trL_ok hF (fun _ _ => ih.e K tk) hs e1).1
    · cases q
  · obtain ⟨o, a, b, e1, e2, e3, rfl⟩ := o3_some q
    obtain rfl := boOf_op e1
    exact pe_binC hF (ih.e K tk e2) (ih.e K tk e3)
  · obtain ⟨a, e1, rfl⟩ := fin2 q
    exact pe_negC hF (ih.e K tk e1)
  · obtain ⟨a, e1, rfl⟩ := fin2 q
    exact pe_notC hF (ih.e K tk e1)
  · exact trAnd_okE hF (fun _ _ => ih.e K tk) q
  · exact trOr_okE hF (fun _ _ => ih.e K tk) q
  · split at q
    · cases q
    · rename_i hm
      obtain ⟨o, a, b, e1, e2, e3, rfl⟩ := o3_some q
      exact pe_cmpC hF K.fx.kk hu e1 (Bool.eq_false_iff.mpr hm) (ih.e K tk e2) (ih.e K tk e3)
  · obtain ⟨o, a, b, e1, e2, e3, rfl⟩ := o3_some q
    exact pe_iteC hF (ih.t K tk e1) (ih.e K tk e2) (ih.e K tk e3)
  · split at q
    · cases q
    · rename_i hm
      obtain ⟨a, b, e1, e2, rfl⟩ := o2_some q
      exact pe_subC hF K.fx.kk (Bool.eq_false_iff.mpr hm) (ih.e K tk e1) (ih.e K tk e2)
  · -- calls
    split at q
    · rename_i hc
      obtain ⟨hp, hc⟩ := Bool.and_eq_true_iff.mp hc
      obtain ⟨hg, hs⟩ := Bool.and_eq_true_iff.mp hc
      split at q
      · rename_i f e1
        obtain ⟨cs, e2, rfl⟩ := fin2 q
        obtain ⟨fa, fd, ps, m1, m2, m3, m4, m5⟩ := K.fx.fns _ _ (ixOf_get e1)
        obtain ⟨pa, pn⟩ := trL_ok hF (fun _ _ => ih.e K tk) hs e2
        exact pe_callC hF m5 rfl m4 K.room K.gd (glB_gl K.nk hg) m1 m2 m3 tk pa pn hs (plainN_ok hp).1
      · split at q
        · obtain ⟨b, c, e1, e2, rfl⟩ := o2_some q
          exact pe_biC1 hF K hg hp (Bool.and_eq_true_iff.mp (show (noStar _ && List.all [] noStar) = true from hs)).1 e1 (ih.e K tk e2)
        · cases q
    · cases q
  · -- methods
    split at q
    · rename_i hc
      obtain ⟨hb, hc⟩ := Bool.and_eq_true_iff.mp hc
      obtain ⟨hl, hc⟩ := Bool.and_eq_true_iff.mp hc
      obtain ⟨hs, hn⟩ := Bool.and_eq_true_iff.mp hc
      obtain ⟨m, a, b, e1, e2, e3, rfl⟩ := o3_some q
      split at e3
      · cases e3
      · rename_i he
        exact pe_bmC hF K.fx.kk e1 hb hl hs (of_decide_eq_true hn) (Bool.eq_false_iff.mpr he) (ih.e K tk e2) (trL_ok hF (fun _ _ => ih.e K tk) hs e3).1
    · cases q
  · -- comprehension
    split at q
    · rename_i hc
      obtain ⟨hb, hi⟩ := Bool.and_eq_true_iff.mp hc
      split at q
      · rename_i t et
        split at q
        · rename_i ht
          obtain ⟨ci, ts, ce, e1, e2, e3, rfl⟩ := o3_some q
          refine PE.imp (pe_lc (own := ownOf s _) K.nk.calm (by rw [K.nk.N]; exact K.nk.nd) (ih.i K tk e1) (blkOk_by (by rw [K.nk.N, K.nk.sc]; exact hb)) (tt := tTs (A := A) G F Wno ts) (te := tE (A := A) G F Wno ce) (g := tTg (A := A) G t)
            (fun s' H C cl fp => pg_tg (K.blk s' H cl C fp).nk K.fx.kk et) (fun s' H C cl fp => ?_) (fun s' H C cl fp => ih.e (K.blk s' H cl C fp) (takes_no rfl) e3) ?_) fun σ H Q w => lc_ok hF (fun i hi => ?_) w
          · split at e2
            · cases e2
              exact PTs.imp pts_nil fun σ H Q ⟨ρ, h, env, S, er, w⟩ => w ρ H .refl S
            · obtain ⟨a, e4, rfl⟩ := fin2 e2
              exact PTs.imp (pts_one (ih.t (K.blk s' H cl C fp) (takes_no rfl) e4)) fun σ H Q w => w
            · cases e2
          · intro x
            exact fold_ok hi
          · have z := List.all_eq_true.mp ht i hi
            obtain ⟨p, hp, e⟩ := List.any_eq_true.mp z
            rw [← beq_iff_eq.mp e]
            exact List.mem_map_of_mem hp
        · cases q
      · cases q
    · cases q
  · cases q
theorem trT_ok {n : Nat} (ih : TrOk A G tb F k n) {s : Sc} {X : Cx} {W : WX} {e : Expr} {c : CT} (K : Cok G tb F k s X) (tk : Takes X W) (q : trT tb (n + 1) s e = some c) : PT X e (tT (A := A) G F W c) := by
  have hF := K.fx.mono
  have hu : X.A.units + 65 < cLine := by have := K.room.un; omega
  unfold trT at q
  split at q
  · exact (trAnd_okT hF (fun _ _ => ih.t K tk) q).pt
  · exact (trOr_okT hF (fun _ _ => ih.t K tk) q).pt
  · obtain ⟨a, e1, rfl⟩ := fin2 q
    exact pt_notC hF (ih.t K tk e1)
  · split at q
    · cases q
    · rename_i hm
      obtain ⟨o, a, b, e1, e2, e3, rfl⟩ := o3_some q
      exact pt_cmpC hF K.fx.kk hu e1 (Bool.eq_false_iff.mpr hm) (ih.e K tk e2) (ih.e K tk e3)
  · split at q
    · cases q
    · rename_i hm
      obtain ⟨p, r, e1, e2, rfl⟩ := o2_some q
      obtain ⟨o, o', e3, e4, rfl⟩ := o2_some e1
      obtain ⟨a, b, c, e5, e6, e7, rfl⟩ := o3_some e2
      exact pt_chainC hF K.fx.kk hu e3 e4 (Bool.eq_false_iff.mpr hm) (ih.e K tk e5) (ih.e K tk e6) (ih.e K tk e7)
  · split at q
    · rename_i hp
      obtain ⟨a, e1, rfl⟩ := fin2 q
      exact pt_valC hF K.fx.kk hp (ih.e K tk e1)
    · cases q
theorem trI_ok {n : Nat} (ih : TrOk A G tb F k n) {s : Sc} {X : Cx} {W : WX} {e tg : Expr} {c : CI} (K : Cok G tb F k s X) (tk : Takes X W) (q : trI tb (n + 1) s e = some c) : PI X tg e (tI (A := A) G F W c) := by
  have hF := K.fx.mono
  unfold trI at q
  split at q
  · split at q
    · rename_i hc
      obtain ⟨hx, hc⟩ := Bool.and_eq_true_iff.mp hc
      obtain ⟨hg, hc⟩ := Bool.and_eq_true_iff.mp hc
      obtain ⟨hs, hn⟩ := Bool.and_eq_true_iff.mp hc
      have hx := of_decide_eq_true hx
      subst hx
      split at q
      · obtain ⟨a, e1, rfl⟩ := fin2 q
        have hs := (Bool.and_eq_true_iff.mp (show (noStar _ && List.all [] noStar) = true from hs)).1
        exact pi_rng1 hF (glB_gl K.nk hg) (K.fx.blt _ (by simp [bltNames])) (ih.e K tk e1) (star1 hs)
      · obtain ⟨a, b, e1, e2, rfl⟩ := o2_some q
        obtain ⟨h1, h2⟩ := Bool.and_eq_true_iff.mp (show (noStar _ && (noStar _ && List.all [] noStar)) = true from hs)
        obtain ⟨h2, h3⟩ := Bool.and_eq_true_iff.mp h2
        exact pi_rng2 hF (glB_gl K.nk hg) (K.fx.blt _ (by simp [bltNames])) (ih.e K tk e1) (ih.e K tk e2) (by rw [star1 h1, star1 h2]; rfl) (star1 h2)
      · cases q
    · obtain ⟨a, e1, rfl⟩ := fin2 q
      exact pi_val hF K.fx.kk (ih.e K tk e1)
  · obtain ⟨a, e1, rfl⟩ := fin2 q
    exact pi_val hF K.fx.kk (ih.e K tk e1)
theorem tr_ok : ∀ n, TrOk A G tb F k n
  | 0 => ⟨fun _ _ q => (nomatch q), fun _ _ q => (nomatch q), fun _ _ q => (nomatch q)⟩
  | n + 1 => ⟨trE_ok (tr_ok n), trT_ok (tr_ok n), trI_ok (tr_ok n)⟩
end
end Cq
namespace Cq
open PySem PySem.Spec PyProof.Rows L2
/-! ### statements: the translator -/
def notComp : Expr → Bool
  | .ListComp .. => false
  | .SetComp .. => false
  | .DictComp .. => false
  | _ => true
def notTup : Expr → Bool
  | .Tuple .. => false
  | _ => true
def notSlice (e : Expr) : Bool := !isSlice e
/-- a, b = x, y is stored from the right -/
def parC (s : Sc) (x : Str) (px : Pos) (y : Str) (py : Pos) (a b : Expr) : Bool :=
  (s.sc.names.lookup x == some .local) && ((s.sc.names.lookup y == some .local) && ((px.line == py.line) && ((!(x == y)) && ((noStar a && noStar b) && (!([a, b].all (foldedForSure 8)) && !([a, b].all (constantsAlone 8)))))))
def swC (s : Sc) (scope : Scope) (x : Str) (px lp : Pos) : Bool := (s.sc.names.lookup x == some .local) && ((px.line == lp.line) && !(scope.names.any fun y => y.1 == x && (y.2 == .local || y.2 == .cell)))
section
variable (tb : Tb)
def trSL {α : Type} (f : Stmt → Option α) : List Stmt → Option (List α)
  | [] => some []
  | e :: es => match f e, trSL f es with
    | some x, some xs => some (x :: xs)
    | _, _ => none
def trS : Nat → Sc → Stmt → Option CS
  | 0, _, _ => none
  | n + 1, s, st => match st with
    | .Pass _ => some .pass
    | .Break _ => some .brk
    | .Return none _ => some .retN
    | .Return (some e) _ => (trE tb n s e).map .ret
    | .Expr (.Constant (.str _) _ _) _ => some .pass
    | .Expr e _ => if notComp e = true then (trE tb n s e).map .expr else none
    | .If t a b _ => o3 .ite (trT tb n s t) (trSL (trS n s) a) (trSL (trS n s) b)
    | .For tg it body [] _ => if noSetIter it = true then o3 .for_ (trTg s tg) (trI tb n s it) (trSL (trS n s) body) else none
    | .AugAssign (.Name x p) op e _ => if op == .Add || op == .Sub then o3 .augVar (trN s (.Name x p)) (boOf op) (trE tb n s e) else none
    | .Assign [.Name x p] e _ => if notComp e = true then o2 (fun i c => .set [i] c) (trN s (.Name x p)) (trE tb n s e) else
      match e with
      | .ListComp _ _ scope lp => if swC s scope x p lp = true then o2 (fun i c => .set [i] c) (trN s (.Name x p)) (trE tb n s e) else none
      | _ => none
    | .Assign [.Tuple [.Name x px, .Name y py] k pt] (.Tuple [a, b] k2 pt2) _ => if parC s x px y py a b = true then o3 (fun i j c => .par [i, j] c) (trN s (.Name x px)) (trN s (.Name y py)) (trL (trE tb n s) [a, b]) else none
    | .Assign [.Tuple ts k pt] e _ => if (notComp e && notTup e) = true then o2 .set (trTg s (.Tuple ts k pt)) (trE tb n s e) else none
    | .Assign [.Subscript o i _] e _ => if (notComp e && notSlice i) = true then o3 .setSub (trE tb n s o) (trE tb n s i) (trE tb n s e) else none
    | _ => none
end
section
variable {A : Type} [DecidableEq A]
structure CokS (A : Type) [DecidableEq A] (G : Gx) (tb : Tb) (F : CallW A) (k : Nat) (s : Sc) (W : WX) (X : Cx) : Prop extends Cok G tb F k s X where
  kd : X.env.scope.kind = .function
  po : PassesOwn (model X.prog X.w) X.A X.env X.xe
  tk : Takes X W
variable {G : Gx} {tb : Tb} {F : CallW A} {W : WX} {ρ ρ' ρ'' ρ0 : Rh A} {h h' h'' h0 : PH A} {H H' H'' H0 : Hp} {X : Cx} {σ : L2.St} {env : Env A} {k : Nat} {s : Sc}
theorem blockKind_of {env : PySem.Env} (h : env.scope.kind = .function) : env.blockKind = .function := by
  unfold Env.blockKind
  rw [h]
  rfl
theorem sw_none {e : Expr} (h : notComp e = true) {t : Option Expr} {l : Nat} {env : PySem.Env} : swapsWith e t l env = pure false := by
  cases e <;> first | rfl | cases h
theorem sws_none {e t : Expr} (h : notComp e = true) {l : Nat} {env : PySem.Env} : swapsWithSole [t] e l env = pure false := sw_none h
theorem sw_true {X : Cx} {s : Sc} (n : Nk s X) (kd : X.env.scope.kind = .function) {elt : Expr} {gens : List Comprehension} {scope : Scope} {lp px : Pos} {x : Str} {l : Nat} (h : swC s scope x px lp = true) : swapsWith (.ListComp elt gens scope lp) (some (.Name x px)) l X.env = pure true := by
  unfold swC at h
  obtain ⟨h1, h⟩ := Bool.and_eq_true_iff.mp h
  obtain ⟨h2, h3⟩ := Bool.and_eq_true_iff.mp h
  show pure (X.env.blockKind == .function && X.env.kindOf x == some .local && px.line == lp.line && !(scope.names.any fun (n, k) => n == x && (k == .local || k == .cell))) = pure true
  rw [blockKind_of kd, show X.env.kindOf x = s.sc.names.lookup x from by rw [← n.sc]; rfl, h1, h2, h3]
  rfl
theorem sst_none {t e : Expr} (h : notTup e = true) {env : PySem.Env} : swappedStores [t] e env = pure none := by
  cases t <;> cases e <;> first | rfl | cases h
theorem parC_ok {X : Cx} {s : Sc} (n : Nk s X) (kd : X.env.scope.kind = .function) {x y : Str} {px py pt pt2 : Pos} {k k2 : Nat} {a b : Expr} (h : parC s x px y py a b = true) :
    swappedStores [.Tuple [.Name x px, .Name y py] k pt] (.Tuple [a, b] k2 pt2) X.env = pure (some [x, y]) ∧ X.env.scope.names.lookup x = some .local ∧ X.env.scope.names.lookup y = some .local ∧ x ≠ y ∧ noStar a = true ∧ noStar b = true := by
  unfold parC at h
  obtain ⟨h1, h⟩ := Bool.and_eq_true_iff.mp h
  obtain ⟨h2, h⟩ := Bool.and_eq_true_iff.mp h
  obtain ⟨h3, h⟩ := Bool.and_eq_true_iff.mp h
  obtain ⟨h4, h⟩ := Bool.and_eq_true_iff.mp h
  obtain ⟨h5, h⟩ := Bool.and_eq_true_iff.mp h
  obtain ⟨h6, h7⟩ := Bool.and_eq_true_iff.mp h
  obtain ⟨h8, h9⟩ := Bool.and_eq_true_iff.mp h5
  have e1 : X.env.scope.names.lookup x = some .local := by rw [n.sc]; exact beq_iff_eq.mp h1
  have e2 : X.env.scope.names.lookup y = some .local := by rw [n.sc]; exact beq_iff_eq.mp h2
  have ne : x ≠ y := by simpa using h4
  refine ⟨?_, e1, e2, ne, h8, h9⟩
  have hst : ∀ {e : Expr}, noStar e = true → (match e with | .Starred .. => true | _ => false) = false := fun {e} h => by cases e <;> first | rfl | cases h
  have k1 : X.env.kindOf x = some .local := e1
  have k2 : X.env.kindOf y = some .local := e2
  have hl : py.line = px.line := (beq_iff_eq.mp h3).symm
  have h6' : [a, b].all (foldedForSure 8) = false := Bool.not_eq_true' _ ▸ h6
  have h7' : [a, b].all (constantsAlone 8) = false := Bool.not_eq_true' _ ▸ h7
  have hv : ([a, b].any fun | .Starred .. => true | _ => false) = false := by
    simp only [List.any_cons, List.any_nil, Bool.or_false]
    cases a <;> cases b <;> first | rfl | (cases h8; done) | (cases h9; done)
  unfold swappedStores
  simp only [List.length_cons, List.length_nil, blockKind_of kd]
  simp only [hv, h6', h7', List.filterMap_cons, List.filterMap_nil, k1, k2, hl, List.head?_cons, Option.map_some, Option.getD_some, Expr.pos]
  have hd : ([x, y] : List Str).eraseDups.length = 2 := by
    have hyx : (y == x) = false := by simpa using fun e => ne e.symm
    simp [List.eraseDups_cons, hyx]
  simp [hd]
  intro z
  exfalso
  rcases z with z | z
  · cases a <;> first | (cases z; done) | cases h8
  · cases b <;> first | (cases z; done) | cases h9
theorem Reps.set : ∀ {ds : List (D A)} {vs : List V} {k : Nat} {d : D A} {v : V}, Reps G ρ h H ds vs → Rep G ρ h H d v → Reps G ρ h H (ds.set k d) (vs.set k v)
  | [], _, k, d, v, r, _ => by cases r; exact rfl
  | x :: ds, _, 0, d, v, ⟨y, r, e, q1, q2⟩, q => by subst e; exact ⟨v, r, rfl, q, q2⟩
  | x :: ds, _, k + 1, d, v, ⟨y, r, e, q1, q2⟩, q => by subst e; exact ⟨y, r.set k v, rfl, q1, Reps.set q2 q⟩
/-! ### one by one -/
theorem ps_passC {pos : Pos} : PS X (.Pass pos) (tS (A := A) G F W .pass) := PS.imp ps_pass fun D σ H ⟨ρ, h, env, S, er, w⟩ => w ρ H σ .refl S er
theorem ps_docC {x : Str} {j : Nat} {pos pos' : Pos} : PS X (.Expr (.Constant (.str x) j pos) pos') (tS (A := A) G F W .pass) := PS.imp ps_doc fun D σ H ⟨ρ, h, env, S, er, w⟩ => w ρ H σ .refl S er
theorem ps_breakC {pos : Pos} : PS X (.Break pos) (tS (A := A) G F W .brk) := PS.imp ps_break fun D σ H ⟨ρ, h, env, S, er, w⟩ => w ρ H σ .refl S er
theorem ps_retNC {pos : Pos} : PS X (.Return none pos) (tS (A := A) G F W .retN) := PS.imp ps_retN fun D σ H ⟨ρ, h, env, S, er, w⟩ => w ρ H .non .refl S rfl
/-- an expression in a statement -/
theorem stE (hF : MonoF F) {c : CE} {D : Ends} {R : QD A} {Q : VK} (S : Sim G ρ h H) (er : EnvR G ρ h H env σ) (w : wE G.tx.f F c env h R fun c h1 => (LK G W D ρ h H).er c env h1)
    (k : ∀ ρ' h' H' d v, Ext ρ h H ρ' h' H' → Sim G ρ' h' H' → EnvR G ρ' h' H' env σ → Rep G ρ' h' H' d v → R d h' → Q v H') : tE G F W c σ H Q :=
  tE_of hF S er .refl (wE_mono hF c (fun _ _ q => q) (LK.er er S) w) k
theorem ps_retC {e : Expr} {c : CE} {pos : Pos} (hF : MonoF F) (p : PE X e (tE (A := A) G F W c)) : PS X (.Return (some e) pos) (tS (A := A) G F W (.ret c)) :=
  PS.imp (ps_ret p) fun D σ H ⟨ρ, h, env, S, er, w⟩ => stE hF S er w fun ρ1 h1 H1 d v x1 S1 e1 r1 q => q ρ1 H1 v x1 S1 r1
theorem ps_exprC {e : Expr} {c : CE} {pos : Pos} (hF : MonoF F) (hn : notComp e = true) (p : PE X e (tE (A := A) G F W c)) : PS X (.Expr e pos) (tS (A := A) G F W (.expr c)) :=
  PS.imp (ps_expr p (sw_none hn)) fun D σ H ⟨ρ, h, env, S, er, w⟩ => stE hF S er w fun ρ1 h1 H1 d v x1 S1 e1 r1 q => q ρ1 H1 σ x1 S1 e1
/-- a target -/
theorem tg_of {tg : List Nat} {d : D A} {v : V} {Q : L2.St → Hp → Prop} (S : Sim G ρ h H) (er : EnvR G ρ h H env σ) (r : Rep G ρ h H d v) (w : on (tgF tg d env) fun σ1 => ∀ σ', EnvR G ρ h H σ1 σ' → Q σ' H) : tTg (A := A) G tg v σ H Q := by
  obtain ⟨env', e, q⟩ := w
  exact ⟨ρ, h, env, d, env', S, er, r, e, fun σ' er' _ => q σ' er'⟩
theorem asg_of (hF : MonoF F) {tg : List Nat} {c : CE} {D : Ends} {H : Hp} {σ : L2.St} (q : tS (A := A) G F W (.set tg c) D σ H) : tAsg (tE (A := A) G F W c) (tTg (A := A) G tg) D σ H := by
  obtain ⟨ρ, h, env, S, er, w⟩ := q
  refine stE hF S er w fun ρ1 h1 H1 d v x1 S1 e1 r1 q => tg_of S1 e1 r1 (on_mono (fun σ1 q σ' er' => ?_) q)
  exact q ρ1 H1 σ' x1 S1 er'
theorem g1_of {i : Nat} {v : V} {H : Hp} {σ : L2.St} {Q : L2.St → Hp → Prop} (q : tTg (A := A) G [i] v σ H Q) : gName i v σ H Q := by
  obtain ⟨ρ, h, env, d, env', S, er, r, t, kk⟩ := q
  cases t
  exact kk _ (er.set r) fun ws hw => wipe_set (hw i List.mem_cons_self)
theorem tE_imp {c : CE} {Q Q' : VK} {H : Hp} {σ : L2.St} (hF : MonoF F) (k : ∀ v H, Q v H → Q' v H) (q : tE (A := A) G F W c σ H Q) : tE (A := A) G F W c σ H Q' := by
  obtain ⟨ρ, h, env, S, er, w⟩ := q
  exact ⟨ρ, h, env, S, er, wE_mono hF c (fun d h' q ρ' H' v x s r => k v H' (q ρ' H' v x s r)) (fun _ _ z => z) w⟩
theorem ps_setC {x : Str} {i : Nat} {e : Expr} {c : CE} {p pos : Pos} (hF : MonoF F) (n : Nk s X) (hi : trN s (.Name x p) = some i) (hn : notComp e = true) (pe : PE X e (tE (A := A) G F W c)) : PS X (.Assign [.Name x p] e pos) (tS (A := A) G F W (.set [i] c)) := by
  obtain ⟨x', p', he, a, b, cc⟩ := trN_sto n hi
  cases he
  exact PS.imp (ps_set (by rw [n.N]; exact n.nd) a b pe (sw_none hn) cc) fun D σ H q => tE_imp hF (fun v H q => g1_of q) (asg_of hF q)
theorem ps_tgC {t e : Expr} {tg : List Nat} {c : CE} {pos : Pos} (hF : MonoF F) (n : Nk s X) (hK : X.K = G.K) (ht : trTg s t = some tg) (hn : notComp e = true) (hm : notTup e = true) (h1 : (assignEach [t] X.env).map (·.2) = [assign t X.env]) (pe : PE X e (tE (A := A) G F W c)) :
    PS X (.Assign [t] e pos) (tS (A := A) G F W (.set tg c)) :=
  PS.imp (ps_asg pe (pg_tg (A := A) n hK ht) (sws_none hn) (sst_none hm) h1) fun D σ H q => asg_of hF q
theorem ps_augC {x : Str} {i : Nat} {o : BO} {op : Operator} {e : Expr} {c : CE} {p pos : Pos} (hF : MonoF F) (n : Nk s X) (hi : trN s (.Name x p) = some i) (ho : boOf op = some o) (hop : (op == .Add || op == .Sub) = true) (pe : PE X e (tE (A := A) G F W c)) : PS X (.AugAssign (.Name x p) op e pos) (tS (A := A) G F W (.augVar i o c)) := by
  obtain ⟨x', p', he, a, b, cc⟩ := trN_sto n hi
  cases he
  have key : ∀ {ti : TIp}, (∀ (ρ : Rh A) h H d1 d2 v1 v2 (Q : VK), Sim G ρ h H → Rep G ρ h H d1 v1 → Rep G ρ h H d2 v2 → (∃ z, binF o d1 d2 = some z ∧ ∀ v, Rep G ρ h H z v → Q v H) → ti v1 v2 H Q) → ∀ D σ H, tS (A := A) G F W (.augVar i o c) D σ H → tAug i (tE (A := A) G F W c) ti D σ H := fun {ti} hti D σ H ⟨ρ, h, env, S, er, w⟩ => by
    obtain ⟨d, e, q⟩ := w
    obtain ⟨v, hv, rv⟩ := er.at_ i d (by
      cases z : env[i]? with
      | none => rw [z] at e; cases e
      | some o => rw [z] at e; rw [show o = some d from e])
    refine ⟨v, hv, stE hF S er q fun ρ1 h1 H1 d2 v2 x1 S1 e1 r2 q => ?_⟩
    obtain ⟨z, ez, q⟩ := q
    refine hti ρ1 h1 H1 d d2 v v2 _ S1 (rv.ext x1 S) r2 ⟨z, ez, fun u ru => ?_⟩
    exact q ρ1 H1 _ x1 S1 (e1.set ru)
  cases op <;> first | (cases hop; done) | skip
  · cases ho
    exact PS.imp (ps_aug (by rw [n.N]; exact n.nd) a b pe ip_add cc) (key fun ρ h H d1 d2 v1 v2 Q S r1 r2 ⟨z, ez, q⟩ => by
      cases d1 <;> cases d2 <;> first | (cases ez; done) | skip
      cases ez; cases r1; cases r2
      exact ⟨_, _, rfl, rfl, q _ rfl⟩)
  · cases ho
    exact PS.imp (ps_aug (by rw [n.N]; exact n.nd) a b pe ip_sub cc) (key fun ρ h H d1 d2 v1 v2 Q S r1 r2 ⟨z, ez, q⟩ => by
      cases d1 <;> cases d2 <;> first | (cases ez; done) | skip
      cases ez; cases r1; cases r2
      exact ⟨_, _, rfl, rfl, q _ rfl⟩)
theorem ps_parC {x y : Str} {px py pt pt2 pos : Pos} {kt k2 i j : Nat} {a b : Expr} {cs : List CE} (hF : MonoF F) (n : Nk s X) (kd : X.env.scope.kind = .function) (hp : parC s x px y py a b = true) (hi : trN s (.Name x px) = some i) (hj : trN s (.Name y py) = some j) (pa : PA X [a, b] (tA (A := A) G F W cs)) :
    PS X (.Assign [.Tuple [.Name x px, .Name y py] kt pt] (.Tuple [a, b] k2 pt2) pos) (tS (A := A) G F W (.par [i, j] cs)) := by
  obtain ⟨h1, h2, h3, h4, _, _⟩ := parC_ok (pt := pt) (k := kt) (pt2 := pt2) (k2 := k2) n kd hp
  obtain ⟨x', p', he, a1, b1, c1⟩ := trN_sto n hi
  cases he
  obtain ⟨x', p', he, a2, b2, c2⟩ := trN_sto n hj
  cases he
  refine PS.imp (ps_par n.calm (by rw [n.N]; exact n.nd) a1 a2 (fun e => h4 (by rw [e, a2] at a1; exact (Option.some.inj a1).symm)) h2 h3 pa h1) fun D σ H ⟨ρ, h, env, S, er, w⟩ => ?_
  refine tA_of hF S er .refl (wA_mono hF cs (fun _ _ q => q) (LK.er er S) w) fun ρ1 h1 H1 ds vs x1 S1 e1 rs q => ?_
  obtain ⟨env', q1, q2⟩ := q
  match ds, q1, rs with
  | [d1, d2], q1, rs =>
    obtain ⟨v1, r, rfl, r1, rs⟩ := rs
    obtain ⟨v2, rfl, r2⟩ := reps1 rs
    cases q1
    exact ⟨v1, v2, rfl, q2 ρ1 H1 _ x1 S1 ((e1.set r1).set r2)⟩
  | [], q1, _ => cases q1
  | [_], q1, _ => cases q1
  | _ :: _ :: _ :: _, q1, _ => cases q1
theorem ps_setSubC {o i e : Expr} {co ci ce : CE} {p pos : Pos} (hF : MonoF F) (hn : notComp e = true) (hsl : notSlice i = true) (po : PE X o (tE (A := A) G F W co)) (pi : PE X i (tE (A := A) G F W ci)) (pe : PE X e (tE (A := A) G F W ce)) :
    PS X (.Assign [.Subscript o i p] e pos) (tS (A := A) G F W (.setSub co ci ce)) := by
  refine PS.imp (ps_asg pe (pg_sub po pi set_list (by intro v; cases i <;> first | rfl | cases hsl)) (sws_none hn) (by cases e <;> rfl) (by cases i <;> first | rfl | cases hsl)) fun Dd σ H ⟨ρ, h, env, S, er, w⟩ => ?_
  refine stE hF S er w fun ρ1 h1 H1 d v x1 S1 e1 r1 w => ?_
  refine tE_of hF S1 e1 x1 (wE_mono hF co (fun _ _ q => q) (LK.er er S) w) fun ρ2 h2 H2 d2 v2 x2 S2 e2 r2 w => ?_
  refine tE_of hF S2 e2 (x1.trans x2) (wE_mono hF ci (fun _ _ q => q) (LK.er er S) w) fun ρ3 h3 H3 d3 v3 x3 S3 e3 r3 w => ?_
  obtain ⟨h4, q, kk⟩ := w
  have rr := (r1.ext x2 S1).ext x3 S2
  replace r2 := r2.ext x3 S2
  cases d2 <;> cases d3 <;> first | (cases q; done) | skip
  rename_i a j
  obtain ⟨ds, e4, q⟩ := Option.bind_eq_some_iff.mp (show (getL h3 a).bind (fun ds => (L2.ixN ds.length j).map fun k => up h3 a (.lst (ds.set k d))) = some h4 from q)
  obtain ⟨k, e5, rfl⟩ := fin2 q
  obtain ⟨rfl, na⟩ := r2
  cases r3
  obtain ⟨zs, hu, rs⟩ := S3.lst e4
  have ha := getL_iff.mp e4
  have x0 : Ext ρ3 h3 H3 ρ3 (up h3 a (.lst (ds.set k d))) (upd H3 (ρ3 a) (.lst (zs.set k v))) := Ext.put S3 ha
  refine ⟨_, zs, j, k, rfl, rfl, hu, by rw [← rs.len]; exact e5, ?_⟩
  exact kk ρ3 _ _ (((x1.trans x2).trans x3).trans x0) (Sim.put S3 ha ⟨_, rfl, Reps.set (rs.ext x0 S3) (rr.ext x0 S3)⟩) (e3.ext x0 S3)
end
end Cq
namespace Cq
open PySem PySem.Spec PyProof.Rows L2
section
variable {A : Type} [DecidableEq A]
variable {G : Gx} {tb : Tb} {F : CallW A} {W : WX} {ρ ρ' ρ'' ρ0 : Rh A} {h h' h'' h0 : PH A} {H H' H'' H0 : Hp} {X : Cx} {σ : L2.St} {env : Env A} {k : Nat} {s : Sc}
theorem pss_nilC : PSs X [] (tSs (A := A) G F W []) := PSs.imp pss_nil fun D σ H ⟨ρ, h, env, S, er, w⟩ => w ρ H σ .refl S er
theorem pss_consC {st : Stmt} {sts : List Stmt} {c : CS} {cs : List CS} (hF : MonoF F) (p : PS X st (tS (A := A) G F W c)) (ps : PSs X sts (tSs (A := A) G F W cs)) : PSs X (st :: sts) (tSs (A := A) G F W (c :: cs)) :=
  PSs.imp (pss_cons p ps) fun D σ H ⟨ρ, h, env, S, er, w⟩ => by
    unfold wSs at w
    refine ⟨ρ, h, env, S, er, wS_mono hF c ?_ w⟩
    exact ⟨fun env1 h1 q ρ1 H1 σ1 x1 S1 e1 => ⟨ρ1, h1, env1, S1, e1, wSs_mono hF cs (LK.on x1) q⟩, fun _ _ q => q, fun _ _ q => q, fun _ _ _ q => q⟩
theorem ps_iteC {t : Expr} {a b : List Stmt} {ct : CT} {ca cb : List CS} {pos : Pos} (hF : MonoF F) (p : PT X t (tT (A := A) G F W ct)) (pa : PSs X a (tSs (A := A) G F W ca)) (pb : PSs X b (tSs (A := A) G F W cb)) : PS X (.If t a b pos) (tS (A := A) G F W (.ite ct ca cb)) :=
  PS.imp (ps_if p pa pb) fun D σ H ⟨ρ, h, env, S, er, w⟩ => by
    unfold wS at w
    refine tT_of hF S er .refl (wT_mono hF ct (fun _ _ q => q) (LK.er er S) w) fun ρ1 h1 H1 c x1 S1 e1 q => ?_
    cases c with
    | true => exact ⟨ρ1, h1, env, S1, e1, wSs_mono hF ca (LK.on x1) q⟩
    | false => exact ⟨ρ1, h1, env, S1, e1, wSs_mono hF cb (LK.on x1) q⟩
theorem ps_forC {tg it : Expr} {body : List Stmt} {t : List Nat} {ci : CI} {cb : List CS} {pos : Pos} (hF : MonoF F) (K : CokS A G tb F k s W X) (hn : noSetIter it = true) (ht : trTg s tg = some t) (pi : PI X tg it (tI (A := A) G F W ci)) (pb : PSs X body (tSs (A := A) G F W cb)) :
    PS X (.For tg it body [] pos) (tS (A := A) G F W (.for_ t ci cb)) := by
  refine PS.imp (ps_for K.po K.nk.calm pi (pg_tg (A := A) K.nk K.fx.kk ht) pb (fun x => fold_ok hn)) fun Dd σ H ⟨ρ, h, env, S, er, w⟩ => ?_
  unfold wS at w
  refine tI_of hF S er .refl (wI_mono hF ci (fun _ _ _ q => q) (LK.er er S) w) fun ds st ρ1 h1 H1 J x1 S1 e1 gv lp => ?_
  refine ⟨fun i m σ' H' => m = ds.length - i ∧ i ≤ ds.length ∧ ∃ (ρ' : Rh A) (h' : PH A) (env' : Env A), Ext ρ1 h1 H1 ρ' h' H' ∧ Sim G ρ' h' H' ∧ EnvR G ρ' h' H' env' σ' ∧ loopL st t (fun σ2 h2 K2 => wSs G.tx.f F cb σ2 h2 K2) (ds.drop i) env' h' (LK G W Dd ρ' h' H'), ?_, ?_⟩
  · exact ⟨ds.length, rfl, Nat.zero_le _, ρ1, h1, env, .refl, S1, e1, loopL_mono (body := fun σ2 h2 K2 => wSs G.tx.f F cb σ2 h2 K2) (fun σ h K K' l q => wSs_mono hF cb l q) ds _ _ (LK.on x1) lp⟩
  · rintro i m σ' H' ⟨rfl, hi, ρ', h', env', x', S', er', lp⟩
    by_cases hlt : i < ds.length
    · obtain ⟨d, hd⟩ : ∃ d, ds[i]? = some d := ⟨ds[i], List.getElem?_eq_getElem hlt⟩
      rw [dropc hd] at lp
      obtain ⟨cs, lp⟩ := lp
      obtain ⟨g1, g2⟩ := (gv ρ' h' H' (x'.mv S1) S' cs).1 i d hd
      refine .inr ⟨g1, fun σ2 H2 => i + 1 ≤ ds.length ∧ ∃ (ρ' : Rh A) (h' : PH A) (env' : Env A), Ext ρ1 h1 H1 ρ' h' H2 ∧ Sim G ρ' h' H2 ∧ EnvR G ρ' h' H2 env' σ2 ∧ loopL st t (fun σ2 h2 K2 => wSs G.tx.f F cb σ2 h2 K2) (ds.drop (i + 1)) env' h' (LK G W Dd ρ' h' H2),
        fun σ2 H2 q => ⟨ds.length - (i + 1), by omega, rfl, q⟩, fun y H2 hy => ?_⟩
      obtain ⟨xa, Sa, ra, ka⟩ := g2 y H2 hy
      refine tg_of Sa (er'.ext xa S') ra (on_mono (fun env1 q σ2 er2 => ?_) lp)
      refine ⟨ρ', h', env1, Sa, er2, wSs_mono hF cb ?_ q⟩
      refine ⟨fun env2 h2 q2 ρ2 H3 σ3 x3 S3 e3 => ?_, ?_, ?_, ?_⟩
      · exact ⟨hlt, ρ2, h2, env2, (x'.trans xa).trans x3, S3, e3, loopL_mono (body := fun σ2 h2 K2 => wSs G.tx.f F cb σ2 h2 K2) (fun σ h K K' l q => wSs_mono hF cb l q) _ _ _ (LK.on (xa.trans x3)) q2⟩
      · exact fun d h2 q ρ2 H3 v x3 S3 r => q ρ2 H3 v (xa.trans x3) S3 r
      · exact fun e2 h2 q ρ2 H3 σ3 x3 S3 r => q ρ2 H3 σ3 (xa.trans x3) S3 r
      · exact fun c e2 h2 q ρ2 H3 σ3 x3 S3 r => q ρ2 H3 σ3 (xa.trans x3) S3 r
    · have e : i = ds.length := by omega
      subst e
      rw [List.drop_length] at lp
      obtain ⟨cs, lp⟩ := lp
      exact .inl ⟨(gv ρ' h' H' (x'.mv S1) S' cs).2, lp ρ' H' σ' .refl S' er'⟩
/-- a comprehension's parts -/
theorem lc_parts {n : Nat} {elt : Expr} {gens : List Comprehension} {scope : Scope} {lp : Pos} {c : CE} (q : trE tb (n + 1) s (.ListComp elt gens scope lp) = some c) : ∃ tg iter ifs t ci ts ce, gens = [⟨tg, iter, ifs, 0⟩] ∧ c = .comp ci t ((ownOf s scope).map (·.2)) ts ce ∧
    blkC s.N s.sc scope (ownOf s scope) = true ∧ noSetIter iter = true ∧ trTg (scIn s scope) tg = some t ∧ (∀ i ∈ t, i ∈ (ownOf s scope).map (·.2)) ∧ trI tb n s iter = some ci ∧ ((ifs = [] ∧ ts = []) ∨ ∃ a b, ifs = [a] ∧ ts = [b] ∧ trT tb n (scIn s scope) a = some b) ∧ trE tb n (scIn s scope) elt = some ce := by
  unfold trE at q
  split at q <;> first | (rename_i z; cases z; done) | skip
  · rename_i heq
    cases heq
    split at q
    · rename_i hc
      obtain ⟨hb, hi⟩ := Bool.and_eq_true_iff.mp hc
      split at q
      · rename_i t et
        split at q
        · rename_i ht
          obtain ⟨ci, ts, ce, e1, e2, e3, rfl⟩ := o3_some q
          refine ⟨_, _, _, t, ci, ts, ce, rfl, rfl, hb, hi, et, fun i hi => ?_, e1, ?_, e3⟩
          · have z := List.all_eq_true.mp ht i hi
            obtain ⟨p, hp, e⟩ := List.any_eq_true.mp z
            rw [← beq_iff_eq.mp e]
            exact List.mem_map_of_mem hp
          · split at e2
            · cases e2; exact .inl ⟨rfl, rfl⟩
            · obtain ⟨a, e4, rfl⟩ := fin2 e2
              exact .inr ⟨_, a, rfl, rfl, e4⟩
            · cases e2
        · cases q
      · cases q
    · cases q
  · cases q
/-- name = [..], exchanged -/
theorem tr_lc {n : Nat} {elt : Expr} {gens : List Comprehension} {scope : Scope} {lp : Pos} {c : CE} (K : Cok G tb F k s X) (tk : Takes X W) (kd : X.env.scope.kind = .function) {x : Str} {i : Nat} {px pos : Pos} (hi : trN s (.Name x px) = some i) (hs : swC s scope x px lp = true)
    (q : trE tb (n + 1) s (.ListComp elt gens scope lp) = some c) : PS X (.Assign [.Name x px] (.ListComp elt gens scope lp) pos) (tS (A := A) G F W (.set [i] c)) := by
  have hF := K.fx.mono
  have ih : TrOk A G tb F k n := tr_ok n
  obtain ⟨x', p', he, a, b, cc⟩ := trN_sto K.nk hi
  cases he
  have hl : X.env.scope.names.lookup x = some .local := by
    unfold swC at hs
    rw [K.nk.sc]
    exact beq_iff_eq.mp (Bool.and_eq_true_iff.mp hs).1
  obtain ⟨tg, iter, ifs, t, ci, ts, ce, rfl, rfl, hb, hn, et, htg, e1, e2, e3⟩ := lc_parts q
  refine PS.imp (ps_setLc (own := ownOf s scope) K.nk.calm (by rw [K.nk.N]; exact K.nk.nd) a hl (sw_true K.nk kd hs) (ih.i K tk e1) (blkOk_by (by rw [K.nk.N, K.nk.sc]; exact hb)) (tt := tTs (A := A) G F Wno ts) (te := tE (A := A) G F Wno ce) (g := tTg (A := A) G t)
    (fun s' H C cl fp => pg_tg (K.blk s' H cl C fp).nk K.fx.kk et) (fun s' H C cl fp => ?_) (fun s' H C cl fp => ih.e (K.blk s' H cl C fp) (takes_no rfl) e3) (fun x => fold_ok hn)) fun Dd σ H w => ?_
  · rcases e2 with ⟨rfl, rfl⟩ | ⟨a, b, rfl, rfl, e4⟩
    · exact PTs.imp pts_nil fun σ H Q ⟨ρ, h, env, S, er, w⟩ => w ρ H .refl S
    · exact PTs.imp (pts_one (ih.t (K.blk s' H cl C fp) (takes_no rfl) e4)) fun σ H Q w => w
  · exact lc_ok hF htg (tE_imp hF (fun v H q => g1_of q) (asg_of hF w))
/-! ### all of them -/
structure TrS (A : Type) [DecidableEq A] (G : Gx) (tb : Tb) (F : CallW A) (k n : Nat) : Prop where
  s : ∀ {s X W st c}, CokS A G tb F k s W X → trS tb n s st = some c → PS X st (tS (A := A) G F W c)
theorem trSL_ok {f : Stmt → Option CS} (hF : MonoF F) (hf : ∀ e c, f e = some c → PS X e (tS (A := A) G F W c)) : ∀ {es : List Stmt} {cs : List CS}, trSL f es = some cs → PSs X es (tSs (A := A) G F W cs)
  | [], cs, q => by cases q; exact pss_nilC
  | e :: es, cs, q => by
    unfold trSL at q
    split at q
    · rename_i a b
      cases q
      exact pss_consC hF (hf _ _ a) (trSL_ok hF hf b)
    · cases q
theorem trS_ok {n : Nat} (ih : TrS A G tb F k n) {s : Sc} {X : Cx} {W : WX} {st : Stmt} {c : CS} (K : CokS A G tb F k s W X) (q : trS tb (n + 1) s st = some c) : PS X st (tS (A := A) G F W c) := by
  have hF := K.fx.mono
  have te : TrOk A G tb F k n := tr_ok n
  have kc := K.toCok
  unfold trS at q
  split at q
  · cases q; exact ps_passC
  · cases q; exact ps_breakC
  · cases q; exact ps_retNC
  · obtain ⟨a, e1, rfl⟩ := fin2 q
    exact ps_retC hF (te.e kc K.tk e1)
  · cases q; exact ps_docC
  · split at q
    · rename_i hn
      obtain ⟨a, e1, rfl⟩ := fin2 q
      exact ps_exprC hF hn (te.e kc K.tk e1)
    · cases q
  · obtain ⟨t, a, b, e1, e2, e3, rfl⟩ := o3_some q
    exact ps_iteC hF (te.t kc K.tk e1) (trSL_ok hF (fun _ _ => ih.s K) e2) (trSL_ok hF (fun _ _ => ih.s K) e3)
  · split at q
    · rename_i hn
      obtain ⟨t, a, b, e1, e2, e3, rfl⟩ := o3_some q
      exact ps_forC hF K hn e1 (te.i kc K.tk e2) (trSL_ok hF (fun _ _ => ih.s K) e3)
    · cases q
  · split at q
    · rename_i hop
      obtain ⟨i, o, c, e1, e2, e3, rfl⟩ := o3_some q
      exact ps_augC hF K.nk e1 e2 hop (te.e kc K.tk e3)
    · cases q
  · split at q
    · rename_i hn
      obtain ⟨i, c, e1, e2, rfl⟩ := o2_some q
      exact ps_setC hF K.nk e1 hn (te.e kc K.tk e2)
    · split at q
      · split at q
        · rename_i hs
          obtain ⟨i, c, e1, e2, rfl⟩ := o2_some q
          cases n with
          | zero => cases e2
          | succ n => exact tr_lc kc K.tk K.kd e1 hs e2
        · cases q
      · cases q
  · split at q
    · rename_i hp
      obtain ⟨i, j, c, e1, e2, e3, rfl⟩ := o3_some q
      obtain ⟨_, _, _, _, n1, n2⟩ := parC_ok (pt := ⟨0, 0, 0, 0⟩) (k := 0) (pt2 := ⟨0, 0, 0, 0⟩) (k2 := 0) K.nk K.kd hp
      exact ps_parC hF K.nk K.kd hp e1 e2 (trL_ok hF (fun _ _ => te.e kc K.tk) (by simp [n1, n2]) e3).1
    · cases q
  · split at q
    · rename_i hn
      obtain ⟨h1, h2⟩ := Bool.and_eq_true_iff.mp hn
      obtain ⟨t, c, e1, e2, rfl⟩ := o2_some q
      exact ps_tgC hF K.nk K.fx.kk e1 h1 h2 rfl (te.e kc K.tk e2)
    · cases q
  · split at q
    · rename_i hn
      obtain ⟨h1, h2⟩ := Bool.and_eq_true_iff.mp hn
      obtain ⟨a, b, c, e1, e2, e3, rfl⟩ := o3_some q
      exact ps_setSubC hF h1 h2 (te.e kc K.tk e1) (te.e kc K.tk e2) (te.e kc K.tk e3)
    · cases q
  · cases q
theorem trs_ok : ∀ n, TrS A G tb F k n
  | 0 => ⟨fun _ q => (nomatch q)⟩
  | n + 1 => ⟨trS_ok (trs_ok n)⟩
end
end Cq
namespace Cq
open PySem PySem.Spec PyProof.Rows L2
/-! ### a def of the text: what it is, its code -/
structure Df where
  name : Str
  qual : Str
  params : Arguments
  body : List Stmt
  scope : Scope
  N : List Str
  ps : List Str
def Df.sc (d : Df) : Sc := ⟨d.N, d.scope, fun _ => true⟩
/-- arity, slots, code -/
structure Cd where
  ar : Nat
  sl : Nat
  code : List CS
def Df.cd (tb : Tb) (n : Nat) (d : Df) : Cd := ⟨d.ps.length, d.N.length, (trSL (trS tb n d.sc) d.body).getD [.never]⟩
section
variable {A : Type} [DecidableEq A]
/-- the program's run, k calls deep at the most -/
def runF (T : Nat → Str) (tab : List Cd) : Nat → CallW A
  | 0 => fun _ _ _ _ _ => False
  | k + 1 => fun i ds h Q E => on (tab[i]?) fun d => ds.length = d.ar ∧ wSs T (runF T tab k) d.code (ds.map some ++ List.replicate (d.sl - ds.length) none) h ⟨fun _ h => Q .non h, Q, fun _ _ => False, fun c _ h => E c h⟩
theorem runF_mono (T : Nat → Str) (tab : List Cd) : ∀ k, MonoF (runF (A := A) T tab k)
  | 0 => fun _ _ _ _ _ _ _ _ _ w => w
  | k + 1 => fun i ds h Q Q' E E' hq he w => on_mono (fun d q => ⟨q.1, by
      refine wSs_mono (runF_mono T tab k) _ ?_ q.2
      exact ⟨fun _ _ q => hq _ _ q, fun _ _ q => hq _ _ q, fun _ _ q => q, fun _ _ _ q => he _ _ q⟩⟩) w

section
variable {P : Program} {w : World} {K : PySem.W.Frag} {mg : Str → Option Value} {base : Heap}
/-- a def's promise from its body, with the guards of repr -/
theorem fnG_of {k : Nat} {f : Addr} {fd : FuncData} {N ps : List Str} {sp : Sp} {d : Df} {dvs : List V} {kws : List (Str × V)} (F : FunD K d.name d.qual d.params d.body d.scope dvs kws f fd) (S : FnScope N ps d.scope) (len : ∀ vs H Q E, sp vs H Q E → vs.length = ps.length)
    (hbody : ∀ (cdv : Value) (Ar : Around) (outer : List PySem.Env) (s : Shared) (H : Hp) (vs : List V) (Q : VK) (E : XK), Room k (Ar.deeper (envOfC d.qual d.scope s.heap.objs.size f cdv)) → Ar.guards = some [] → sp vs H Q E →
      ∃ t, PSs (cxOf (L2.CX P w) P w K mg base N d.qual d.scope f cdv Ar outer s H E) d.body t ∧ t { nx := fun _ H' => Q .non H', rt := Q } (start N vs) H) : FnG P w K mg base (k + 1) f fd ps sp := by
  refine ⟨len, fun Ar outer s H args us vs Q E hr hgd e0 hb r hsp => ?_⟩
  -- the rule for a def, of the promise that this very call keeps
  obtain ⟨oc, od, dV, kV, doc, pm, an, cdv, ct, osl, rfl, lk, hcd, _, _⟩ := F.ex
  have KX : K.In s.heap := e0.mod.kin.keeps fun b o e => (e0.bs b o e).1
  have lim : s.heap.NoLimit := e0.mod.nolimit.keeps fun b o e => (e0.bs b o e).1
  have hkind : ∀ y ∈ ps.zip us, d.scope.names.lookup y.1 = some .local ∨ (d.scope.names.lookup y.1 = some .cell ∧ ((cellsFrom (s.heap.objs.size + 1) d.scope.names []).lookup y.1).isSome = true) := fun ⟨n, v⟩ hy =>
    (S.par n (List.of_mem_zip hy).1).imp id fun q => ⟨q, PySem.W.cellsFrom_some _ _ _ (.inl q)⟩
  refine codeAny_call_function hr.depth (KX _ _ lk) rfl S.co S.gen rfl (PySem.W.codeRec_of KX hcd) (hb _ _ _ _ (wpAny_newFunctionEnv_cells S.kind hkind fun env he s1 x => ?_))
  subst he
  refine ⟨lim.keeps x.toInCall.keep, codeAny_func ?_⟩
  obtain ⟨t, ht, hq⟩ := hbody cdv Ar outer s H vs Q E (hr.deeper _) hgd hsp
  refine wpAny_mono (ht.run [] s1 (start N vs) H _ (inv_start S hr.hd e0 (len _ _ _ _ hsp) r x) hq) (fun fl s' hs => ?_) fun e s' hs => hs
  cases fl with
  | ret u => obtain ⟨v, σ', H', J, rv, q⟩ := hs; exact ⟨v, H', J.os, J.bare, J.base, J.hok, rv, q⟩
  | next => obtain ⟨σ', H', J, q⟩ := hs; exact ⟨V.non, H', J.os, J.bare, J.base, J.hok, rfl, q⟩
  | brk => obtain ⟨_, _, _, q⟩ := hs; exact q.elim
  | cont => obtain ⟨_, _, _, q⟩ := hs; exact q.elim
/-- the text as it stands behind the top -/
structure Txt (A : Type) [DecidableEq A] (G : Gx) (tb : Tb) (n : Nat) (defs : List Df) (K : PySem.W.Frag) (mg : Str → Option Value) : Prop where
  kk : K = G.K
  blt : ∀ x ∈ bltNames, mg x = none
  tint : ∀ x i, tb.tint.lookup x = some i → ∃ u, mg x = some u ∧ RelV (.int i) u
  tstr : ∀ i x, tb.tstr[i]? = some x → G.tx.f i = x ∧ i < G.tx.n
  fns : ∀ (i : Nat) x, tb.fns[i]? = some x → ∃ (d : Df) (f : Addr), defs[i]? = some d ∧ mg x = some (.ref f)
  fun_ : ∀ (i : Nat) d f x, defs[i]? = some d → tb.fns[i]? = some x → mg x = some (.ref f) → ∃ fd, FunD K d.name d.qual d.params d.body d.scope [] [] f fd ∧ L2.Binds K fd d.ps []
  scp : ∀ (i : Nat) d, defs[i]? = some d → FnScope d.N d.ps d.scope ∧ (trSL (trS tb n d.sc) d.body).isSome = true
variable {G : Gx} {tb : Tb} {n : Nat} {defs : List Df}
theorem start_env {ρ : Rh A} {h : PH A} {H : Hp} {N : List Str} : ∀ {ds : List (D A)} {vs : List V}, Reps G ρ h H ds vs → EnvR G ρ h H (ds.map some ++ List.replicate (N.length - ds.length) none) (start N vs) := fun {ds vs} r => by
  have hl := r.len
  refine ⟨by simp [L2.start, hl], fun i d q => ?_⟩
  rw [List.getElem?_append] at q
  by_cases hi : i < ds.length
  · rw [if_pos (by simpa using hi)] at q
    rw [List.getElem?_map] at q
    obtain ⟨d', e, e2⟩ := Option.map_eq_some_iff.mp q
    cases e2
    obtain ⟨v, hv, rv⟩ := r.at e
    refine ⟨v, ?_, rv⟩
    unfold L2.start
    rw [List.getElem?_append_left (by simpa [← hl] using hi), List.getElem?_map, hv]
    rfl
  · rw [if_neg (by simpa using hi)] at q
    rw [List.getElem?_replicate] at q
    split at q <;> cases q
theorem lev (T : Txt A G tb n defs K mg) : ∀ (k i : Nat) (d : Df) (f : Addr) (fd : FuncData), defs[i]? = some d → FunD K d.name d.qual d.params d.body d.scope [] [] f fd → FnG P w K mg base k f fd d.ps (spF G (runF (A := A) G.tx.f (defs.map (Df.cd tb n)) k) i d.ps.length)
  | 0, i, d, f, fd, hd, F => ⟨fun vs H Q E h => h.1, fun Ar outer s H args us vs Q E hr hgd e0 hb r hsp => by
      obtain ⟨_, _, _, _, _, _, z⟩ := hsp
      exact z.elim⟩
  | k + 1, i, d, f, fd, hd, F => by
    obtain ⟨S, hc⟩ := T.scp i d hd
    refine fnG_of F S (fun vs H Q E h => h.1) fun cdv Ar outer s H vs Q E hr hgd hsp => ?_
    obtain ⟨code, hcode⟩ := Option.isSome_iff_exists.mp hc
    have kc : CokS A G tb (runF (A := A) G.tx.f (defs.map (Df.cd tb n)) k) k d.sc (fun cls dd _ H => E cls dd H) (cxOf (L2.CX P w) P w K mg base d.N d.qual d.scope f cdv Ar outer s H E) :=
      { nk := ⟨rfl, S.nd, rfl, rfl, rfl⟩
        fx := ⟨T.kk, runF_mono _ _ k, T.blt, T.tint, T.tstr, fun j x hx => by
          obtain ⟨d', f', e1, e2⟩ := T.fns j x hx
          obtain ⟨fd', F', B'⟩ := T.fun_ j d' f' x e1 hx e2
          refine ⟨f', fd', d'.ps, e2, F'.kp, B', lev T k j d' f' fd' e1 F', fun ds h Q E q => ?_⟩
          cases k with
          | zero => exact (show False from q).elim
          | succ k =>
            obtain ⟨c, ec, hl, _⟩ := q
            rw [List.getElem?_map, e1] at ec
            cases ec
            exact hl⟩
        room := hr
        gd := hgd
        kd := S.kind
        po := L2.passes_of rfl
        tk := L2.takes_of rfl rfl rfl rfl }
    refine ⟨_, trSL_ok kc.fx.mono (fun _ _ => (trs_ok n).s kc) hcode, ?_⟩
    obtain ⟨hl, ρ, h, ds, Sm, rs, q⟩ := hsp
    obtain ⟨c, ec, hl2, q⟩ := q
    rw [List.getElem?_map, hd] at ec
    cases ec
    have ecode : (d.cd tb n).code = code := by
      show (trSL (trS tb n d.sc) d.body).getD [.never] = code
      rw [hcode]; rfl
    rw [ecode] at q
    refine ⟨ρ, h, _, Sm, start_env rs, wSs_mono (runF_mono _ _ k) code ?_ q⟩
    exact ⟨fun _ h' q ρ' H' σ' x S' _ => q ρ' H' .non x S' rfl, fun _ _ q => q, fun _ _ q => q.elim, fun c _ h' q ρ' H' σ' x S' _ => q ρ' H' x S'⟩
end
end
end Cq
namespace Cq
open PySem PySem.Spec PyProof.Rows L2
/-- the law's call at the heap behind the top: the script is one of the written objects, or the one object that is told -/
theorem callG {P : Program} {w : World} {K : PySem.W.Frag} {mg mb : Str → Option Value} {k : Nat} {fa a : Addr} {fd : FuncData} {x : Str} {sp : Sp} {s₁ : Shared} {vs : List Value} {ns : List Int}
    (KX : K.In s₁.heap) (hns : s₁.heap.Ns mainGlobals mg) (hb : s₁.heap.Ns builtinsNs mb) (hbb : ∀ x : Str, x ≠ "__name__" → mb x = bootBuiltins x) (hlim : s₁.heap.NoLimit) (hg : s₁.gens = #[])
    (ha : s₁.heap.get? a = some { cls := .type "list", data := .seq vs.toArray }) (hi : IntsAre vs ns) (hl : ns.length ≤ sizeLine) (hr : Room k callerA)
    (F : ∀ base : Heap, K.In base → base.Ns mainGlobals mg → FnG P w K mg base k fa fd [x] sp) (hbind : ∀ (s : Shared) (u : Value), BindsTo s fd ⟨[u], []⟩ [(x, u)])
    (hsp : ∀ H : Hp, Only H → SqL K H a (ns.map V.int) → sp [.ref a] H (fun v _ => v = .bl true) fun _ _ _ => False) :
    codeAny (model P w) callerA (.call (.ref fa) ⟨[.ref a], []⟩) (fun r s' => r = .ok (.ret (.bool true)) ∧ OldK s₁.heap s'.heap ∧ s'.os = s₁.os ∧ AllBare s'.gens) s₁ := by
  have rv := vals_ints hi
  have lenV := hi.length
  obtain ⟨ob, hob⟩ : ∃ ob : Obj, ob = { cls := .type "list", data := .seq vs.toArray } := ⟨_, rfl⟩
  -- what is told
  obtain ⟨H, hA, hS, hK⟩ : ∃ H : Hp, (∀ b, H b = none ∨ (b = a ∧ H b = some (.frz ob (.lst (ns.map V.int))))) ∧ SqL K H a (ns.map V.int) ∧ (∀ b, H b ≠ none → K.lookup b = none) := by
    cases hk : K.lookup a with
    | some o =>
      have e := KX a o hk
      rw [ha] at e
      cases e
      exact ⟨fun _ => none, fun _ => .inl rfl, .inr ⟨_, vs.toArray, _, hk, rfl, rfl, rfl, by rw [List.size_toArray, lenV]; exact hl, by simpa using rv⟩, fun b z => (z rfl).elim⟩
    | none =>
      refine ⟨fun b => if b = a then some (.frz ob (.lst (ns.map V.int))) else none, fun b => ?_, .inl (.inr ⟨ob, if_pos rfl⟩), fun b z => ?_⟩
      · by_cases e : b = a
        · exact .inr ⟨e, if_pos e⟩
        · exact .inl (if_neg e)
      · by_cases e : b = a
        · rw [e]; exact hk
        · exact (z (if_neg e)).elim
  have hO : Only H := fun b => (hA b).imp id fun q => ⟨_, _, q.2⟩
  have hok : HOk P w H s₁.heap := fun b u z => by
    rcases hA b with e | ⟨e, e2⟩
    · rw [e] at z; cases z
    · rw [e2] at z
      cases z
      rw [e]
      subst hob
      exact ⟨ha, by rw [List.length_map]; exact hl, vs, _, rv, ha⟩
  have at_ : ∀ {b : Addr} {o : Obj}, s₁.heap.get? b = some o → (∀ vs' n', o.data ≠ .seq vs' n') → H b = none := fun {b o} e d => by
    rcases hA b with q | ⟨q, _⟩
    · exact q
    · rw [q, ha] at e
      cases e
      exact (d _ _ rfl).elim
  have nsK : ∀ {b : Addr} {m : Str → Option Value}, s₁.heap.Ns b m → (hidT s₁.heap H).Ns b m := fun {b m} ⟨o, es, ep, e, d, r⟩ => ⟨o, es, ep, hidT_get e (at_ e fun _ _ z => by rw [d] at z; cases z), d, r⟩
  have hKb : K.In (hidT s₁.heap H) := fun b o e => hidT_get (KX b o e) (by
    cases q : H b with
    | none => rfl
    | some u =>
      have z := hK b (by rw [q]; exact fun z => nomatch z)
      rw [z] at e; cases e)
  have hM : Mod K mg (hidT s₁.heap H) := ⟨hKb, nsK hns, ⟨mb, nsK hb, hbb⟩, let ⟨mc, h1, h2⟩ := hlim; ⟨mc, nsK h1, h2⟩⟩
  have e0 : Env0 P w K mg (hidT s₁.heap H) callerA [] s₁ H := ⟨rfl, hM, fun b o e => of_hidT e, Nat.le_of_eq (hidT_size _ _), trivial, fun b hb => (List.not_mem_nil (show b ∈ ([] : List Addr) from hb)).elim, hok, .of_eq hg⟩
  refine codeAny_mono ((F _ hKb (nsK hns)).run callerA [] s₁ H ⟨[.ref a], []⟩ [.ref a] [.ref a] _ _ hr rfl e0 (hbind s₁ (.ref a)) (.cons rfl .nil) (hsp H hO hS)) fun r s' h => ?_
  cases r with
  | error e =>
    obtain ⟨_, _, _, _, _, _, _, _, _, _, _, _, z⟩ := h
    exact z.elim
  | ok fl =>
    cases fl with
    | next => exact False.elim h
    | brk => exact False.elim h
    | cont => exact False.elim h
    | ret u =>
      obtain ⟨v, H', os, bare, un, hok', r', q⟩ := h
      obtain rfl : v = .bl true := q
      obtain rfl : u = Value.bool true := r'
      refine ⟨rfl, OldK.of_keep fun b o e => ?_, os, bare⟩
      rcases hA b with z | ⟨_, z⟩
      · exact un.keep b o e z (by intro y; exact List.not_mem_nil (show b ∈ ([] : List Addr) from y)) (by simp)
      · obtain ⟨e1, _⟩ := hok b _ z
        obtain ⟨e2, _⟩ := hok' b _ (un.frzs b _ _ z)
        rw [e] at e1; cases e1
        exact e2
theorem walkG {l : PySem.W.OpenLaw} {n k : Nat} {q : Program} {loose : List Str} {XP : (Str → Option Value) → Heap → Prop} {YP : World → Heap → Prop} {d : DefRec} {x : Str}
    (hn : l.most = some n) (hn2 : n ≤ sizeLine) (hdf : d.params.defaults = []) (hr : Room k callerA)
    (F : ∀ (w : World) (mg : Str → Option Value) (fa : Addr) (h : Heap), YP w h → h.Ns mainGlobals mg → mg d.name = some (.ref fa) →
      ∃ (K : PySem.W.Frag) (fd : FuncData) (sp : Sp), K.In h ∧ (∀ (s : Shared) (u : Value), BindsTo s fd ⟨[u], []⟩ [(x, u)]) ∧
        (∀ (H : Hp) (a : Addr) (ns : List Int), ns.length ≤ n → Only H → SqL K H a (ns.map V.int) → sp [.ref a] H (fun v _ => v = .bl true) fun _ _ _ => False) ∧
        ∀ base : Heap, K.In base → base.Ns mainGlobals mg → FnG l.prog w K mg base k fa fd [x] sp) :
    PySem.W.WalkO q loose XP YP l.row.toRowW d [] (fun f vs => PySem.call f vs) := by
  refine Att.attach_call hn hdf fun w s₀ s₁ mg mb fa o pm cd doc a vs ns G Y ho hd hcd hmg hobj hints hlen hg => ?_
  obtain ⟨K, fd, sp, KX, hb, hsp, hF⟩ := F w mg fa _ Y G.T.g hmg
  exact callG KX G.T.g G.T.b G.T.builtins G.T.nolimit hg hobj hints (Nat.le_trans hlen hn2) hr hF hb fun H hO hS => hsp H a ns hlen hO hS
/-! ### the law's promise from the plain run -/
section
variable {A : Type} [DecidableEq A] {G : Gx}
theorem reps_ints {ρ : Rh A} {h : PH A} {H : Hp} : ∀ (ns : List Int), Reps G ρ h H (ns.map D.int) (ns.map V.int)
  | [] => rfl
  | n :: ns => ⟨_, _, rfl, rfl, reps_ints ns⟩
def ρ0 (A : Type) : Rh A := ⟨fun _ => 0, fun _ => False⟩
/-- the plain run answers True -/
theorem sp_law (z0 : A → Addr) {F : CallW A} {i : Nat} {H : Hp} {a : Addr} {ns : List Int} (hO : Only H) (hS : SqL G.K H a (ns.map V.int)) (run : F i [.lst (ns.map D.int)] (fun _ => none) (fun d _ => d = .bl true) fun _ _ => False) (hF : MonoF F) :
    spF G F i 1 [.ref a] H (fun v _ => v = .bl true) fun _ _ _ => False := by
  have nI : ∀ b, ¬ Img (A := A) ⟨z0, fun _ => False⟩ (fun _ => none) b := fun b i => by
    rcases i with i | ⟨r, e, _⟩
    · exact i
    · exact e rfl
  refine ⟨rfl, ⟨z0, fun _ => False⟩, fun _ => none, [.lst (ns.map D.int)], ⟨fun r o e => (nomatch e), fun r r' e => (e rfl).elim, fun b e => e.elim, fun r e => (e rfl).elim⟩, ?_, ?_⟩
  · refine ⟨.ref a, [], rfl, ⟨a, ns.map V.int, rfl, ?_, reps_ints ns⟩, rfl⟩
    rcases hS with q | q
    · exact .inl ⟨q, nI a⟩
    · exact .inr q
  · refine hF _ _ _ _ _ _ _ (fun d h q ρ' H' v x S r => ?_) (fun _ _ z => z.elim) run
    subst q
    exact r
end
end Cq
namespace Cq
open PySem PySem.Spec PyProof.Rows L2
/-! ### the head's facts -/
def Df.toD (d : Df) : He.DefD := ⟨(d.name, none), d.name, d.qual, d.params, d.body, d.scope, [], []⟩
def faOf (tb : Tb) : List He.Fa := tb.fns.map .glo ++ (bltNames.map .free ++ tb.tint.map fun p => .int p.1 p.2)
/-- the numbered texts -/
def txOf (l : List Str) (hn : l.Nodup) (ho : l.all (fun x => x.cps.all (· < 0x110000)) = true) : Tx where
  f := fun i => l.getD i ⟨#[]⟩
  n := l.length
  inj := fun i j hi hj e => by
    rw [List.getD_eq_getElem?_getD, List.getD_eq_getElem?_getD, List.getElem?_eq_getElem hi, List.getElem?_eq_getElem hj] at e
    exact (List.getElem_inj hn).mp e
  ok := fun i hi => by
    rw [List.getD_eq_getElem?_getD, List.getElem?_eq_getElem hi]
    exact List.all_eq_true.mp ho _ (List.getElem_mem hi)
theorem says_mem {fa : List He.Fa} {fn : List He.DefD} {K : PySem.W.Frag} (c : He.SaysD fa fn K) {f : He.Fa} (h : f ∈ fa) : f.ok K = true := by
  obtain ⟨i, hi⟩ := List.mem_iff_getElem?.mp h
  exact c.fact i hi
theorem lookup_mem {α β : Type} [BEq α] [LawfulBEq α] {x : α} {y : β} : ∀ {l : List (α × β)}, l.lookup x = some y → (x, y) ∈ l
  | [], h => by cases h
  | (a, b) :: l, h => by
    rw [List.lookup_cons] at h
    split at h
    · rename_i e
      cases h
      rw [beq_iff_eq.mp e]
      exact List.mem_cons_self
    · exact List.mem_cons_of_mem _ (lookup_mem h)
theorem txt_says {A : Type} [DecidableEq A] {tb : Tb} {n : Nat} {defs : List Df} {K : PySem.W.Frag} {h : Heap} {mg : Str → Option Value} {tx fl : Tx} {cl : Nat → Addr} (X : K.In h) (Gm : h.Ns mainGlobals mg) (c : He.SaysD (faOf tb) (defs.map Df.toD) K)
    (hf : tb.fns = defs.map (·.name)) (hs : ∀ i x, tb.tstr[i]? = some x → tx.f i = x ∧ i < tx.n)
    (hp : ∀ (i : Nat) d, defs[i]? = some d → FnScope d.N d.ps d.scope ∧ (trSL (trS tb n d.sc) d.body).isSome = true)
    (hb : ∀ (i : Nat) d, defs[i]? = some d → ∀ (kV doc pm : Value) (an : Option Addr) (cdv ct : Value) (us : List Value), us.length = d.ps.length → bindArgs (PySem.W.fnOf d.name d.qual d.params d.body d.scope .none kV doc pm an cdv ct) ⟨us, []⟩ = pure (d.ps.zip us)) :
    Txt A ⟨K, tx, fl, cl⟩ tb n defs K mg where
  kk := rfl
  blt := fun x hx => He.free_ok X Gm (says_mem c (List.mem_append_right _ (List.mem_append_left _ (List.mem_map_of_mem hx))))
  tint := fun x i hx => by
    obtain ⟨t, e⟩ := He.int_ok X Gm (says_mem c (f := .int x i) (List.mem_append_right _ (List.mem_append_right _ (List.mem_map.mpr ⟨(x, i), lookup_mem hx, rfl⟩))))
    exact ⟨_, e, ⟨t, rfl⟩⟩
  tstr := hs
  fns := fun i x hx => by
    have e := He.glo_ok X Gm (says_mem c (f := .glo x) (List.mem_append_left _ (List.mem_map_of_mem (List.mem_of_getElem? hx))))
    rw [hf, List.getElem?_map] at hx
    obtain ⟨d, hd, rfl⟩ := Option.map_eq_some_iff.mp hx
    exact ⟨d, _, hd, e⟩
  fun_ := fun i d f x hd hx hm => by
    have e := He.glo_ok X Gm (says_mem c (f := .glo x) (List.mem_append_left _ (List.mem_map_of_mem (List.mem_of_getElem? hx))))
    rw [hf, List.getElem?_map, hd] at hx
    cases hx
    obtain ⟨fd, F⟩ := c.def_ i (d := d.toD) (by rw [List.getElem?_map, hd]; rfl)
    rw [hm] at e
    cases e
    have F' : FunD K d.name d.qual d.params d.body d.scope [] [] (He.ga K d.name) fd := F
    exact ⟨fd, F', F'.bindsN (hb i d hd)⟩
  scp := hp
/-- the law holds: from the head's facts and the plain run -/
theorem law_end {A : Type} [DecidableEq A] (z0 : A → Addr) {l : PySem.W.OpenLaw} {n k m : Nat} {q : Program} {loose : List Str} {XP : (Str → Option Value) → Heap → Prop} {d : DefRec} {x : Str} {tb : Tb} {defs : List Df} {tx fl : Tx} {cl : PySem.W.Frag → Nat → Addr} {j : Nat} {dl : Df}
    (hn : l.most = some n) (hn2 : n ≤ sizeLine) (hdf : d.params.defaults = []) (hr : Room k callerA)
    (hj : defs[j]? = some dl) (hps : dl.ps = [x]) (hname : d.name = dl.name) (hf : tb.fns = defs.map (·.name)) (hs : ∀ i x, tb.tstr[i]? = some x → tx.f i = x ∧ i < tx.n)
    (hp : ∀ (i : Nat) d, defs[i]? = some d → FnScope d.N d.ps d.scope ∧ (trSL (trS tb m d.sc) d.body).isSome = true)
    (hb : ∀ (i : Nat) d, defs[i]? = some d → ∀ (kV doc pm : Value) (an : Option Addr) (cdv ct : Value) (us : List Value), us.length = d.ps.length → bindArgs (PySem.W.fnOf d.name d.qual d.params d.body d.scope .none kV doc pm an cdv ct) ⟨us, []⟩ = pure (d.ps.zip us))
    (run : ∀ ns : List Int, ns.length ≤ n → runF (A := A) tx.f (defs.map (Df.cd tb m)) k j [.lst (ns.map D.int)] (fun _ => none) (fun d _ => d = .bl true) fun _ _ => False) :
    PySem.W.WalkO q loose XP (fun w h => ∃ K : PySem.W.Frag, K.In h ∧ He.SaysD (faOf tb) (defs.map Df.toD) K) l.row.toRowW d [] (fun f vs => PySem.call f vs) := by
  refine walkG (x := x) (k := k) hn hn2 hdf hr fun w mg fa h ⟨K, KX, c⟩ Gm hm => ?_
  have T : Txt A ⟨K, tx, fl, cl K⟩ tb m defs K mg := txt_says KX Gm c hf hs hp hb
  have hx : tb.fns[j]? = some dl.name := by rw [hf, List.getElem?_map, hj]; rfl
  obtain ⟨fd, F, B⟩ := T.fun_ j dl fa dl.name hj hx (by rw [← hname]; exact hm)
  refine ⟨K, fd, spF ⟨K, tx, fl, cl K⟩ (runF (A := A) tx.f (defs.map (Df.cd tb m)) k) j dl.ps.length, KX, fun s u => ?_, fun H a ns hl hO hS => ?_, fun base _ _ => ?_⟩
  · have z := FunD.bindsA (ps := dl.ps) F (hb j dl hj) s [u] (by rw [hps]; rfl)
    rw [hps] at z
    exact z
  · rw [hps]
    exact sp_law z0 (G := ⟨K, tx, fl, cl K⟩) hO hS (run ns hl) (runF_mono _ _ k)
  · rw [← hps]
    exact lev T k j dl fa fd hj F
end Cq
namespace Cq
open PySem PySem.Spec PyProof.Rows L2
/-! the law's own drawing of numbers, in the small language -/
open CE CS CT CI CO BO Bi in
def takeC : List CS := [
  .ite (.cmp .eq (.sub (.var 0) (.int 1)) (.int 0))
    [.set [2] (.sub (.var 0) (.int 2)), .set [3] (.int 0),
     .ite (.cmp .lt (.var 2) (.bi .len [.sub (.var 0) (.int 3)]))
       [.set [3] (.sub (.sub (.var 0) (.int 3)) (.var 2)), .setSub (.var 0) (.int 1) (.ite (.cmp .ge (.var 3) (.bin .pow (.int 10) (.int 18))) (.int 60) (.neg (.int 9)))] [],
     .setSub (.var 0) (.int 2) (.bin .add (.var 2) (.int 1)), .setSub (.var 0) (.int 0) (.var 3),
     .ite (.cmp .eq (.sub (.var 0) (.int 1)) (.int 0)) [.ret (.int 0)] []] [],
  .ite (.cmp .gt (.sub (.var 0) (.int 1)) (.int 0))
    [.set [4] (.bin .mod (.bi .int [.sub (.var 0) (.int 0)]) (.var 1)), .setSub (.var 0) (.int 0) (.bin .fdiv (.sub (.var 0) (.int 0)) (.var 1)),
     .setSub (.var 0) (.int 1) (.ite (.cmp .gt (.sub (.var 0) (.int 0)) (.int 0)) (.bin .sub (.sub (.var 0) (.int 1)) (.int 1)) (.int 0)), .ret (.var 4)] [],
  .setSub (.var 0) (.int 1) (.bin .add (.sub (.var 0) (.int 1)) (.int 1)),
  .setSub (.var 0) (.int 0) (.bin .mod (.bi .int [.bin .add (.bin .mul (.sub (.var 0) (.int 0)) (.int 48271)) (.bin .mul (.int 69621) (.bin .add (.sub (.var 0) (.int 1)) (.int 20)))]) (.int 2147483647)),
  .ret (.bin .mod (.bin .mod (.bi .int [.bin .add (.bin .fdiv (.sub (.var 0) (.int 0)) (.int 7)) (.sub (.var 0) (.int 0))]) (.int 1000003)) (.var 1))]
section
variable {A : Type} [DecidableEq A]
theorem up_up {h : PH A} {a : A} {x y : O A} : up (up h a x) a y = up h a y := by
  funext b
  by_cases e : b = a <;> simp [up, e]
theorem getL_up {h : PH A} {a : A} {ds : List (D A)} : getL (up h a (.lst ds)) a = some ds := getL_iff.mpr up_same
theorem getL_ne {h : PH A} {a b : A} {o : O A} (n : b ≠ a) : getL (up h a o) b = getL h b := by
  unfold getL
  rw [up_ne n]
/-- the box -/
def box (s p t : Int) (xs : List Int) : O A := .lst [.int s, .int p, .int t, .lst (xs.map .int)]
theorem box_h {h : PH A} {a : A} {o : O A} (hb : h a = some o) : ∃ h0, h = up h0 a o := ⟨h, by
  funext b
  by_cases e : b = a
  · rw [e, up_same, hb]
  · rw [up_ne e]⟩
theorem subF_up {h : PH A} {a : A} {ds : List (D A)} {i : Int} : subF (.ref a) (.int i) (up h a (.lst ds)) = L2.atI ds i := by
  show (getL (up h a (.lst ds)) a).bind (fun ds => L2.atI ds i) = _
  rw [getL_up]; rfl
theorem setF_up {h : PH A} {a : A} {ds : List (D A)} {i : Int} {v : D A} : setF (.ref a) (.int i) v (up h a (.lst ds)) = (L2.ixN ds.length i).map fun k => up h a (.lst (ds.set k v)) := by
  show (getL (up h a (.lst ds)) a).bind (fun ds' => (L2.ixN ds'.length i).map fun k => up (up h a (.lst ds)) a (.lst (ds'.set k v))) = _
  rw [getL_up]
  simp [up_up]
theorem at0 {a : D A} {l : List (D A)} : L2.atI (a :: l) 0 = some a := by unfold L2.atI L2.ixN; rw [if_pos (by decide), if_pos (by simp)]; rfl
theorem at1 {a b : D A} {l : List (D A)} : L2.atI (a :: b :: l) 1 = some b := by unfold L2.atI L2.ixN; rw [if_pos (by decide), if_pos (by simp; omega)]; rfl
theorem at2 {a b c : D A} {l : List (D A)} : L2.atI (a :: b :: c :: l) 2 = some c := by unfold L2.atI L2.ixN; rw [if_pos (by decide), if_pos (by simp; omega)]; rfl
theorem at3 {a b c d : D A} {l : List (D A)} : L2.atI (a :: b :: c :: d :: l) 3 = some d := by unfold L2.atI L2.ixN; rw [if_pos (by decide), if_pos (by simp; omega)]; rfl
theorem eq_ii {i j : Int} {h : PH A} : cmpF .eq (.int i) (.int j) h = some (decide (i = j)) := rfl
theorem ne_ii {i j : Int} {h : PH A} : cmpF .ne (.int i) (.int j) h = some (!decide (i = j)) := rfl
theorem lt_ii {i j : Int} {h : PH A} : cmpF .lt (.int i) (.int j) h = some (decide (i < j)) := rfl
theorem le_ii {i j : Int} {h : PH A} : cmpF .le (.int i) (.int j) h = some (decide (i ≤ j)) := rfl
theorem gt_ii {i j : Int} {h : PH A} : cmpF .gt (.int i) (.int j) h = some (decide (j < i)) := rfl
theorem ge_ii {i j : Int} {h : PH A} : cmpF .ge (.int i) (.int j) h = some (decide (j ≤ i)) := rfl
theorem len_l {T : Nat → Str} {ds : List (D A)} {h : PH A} : biF T .len [.lst ds] h = some (.int ds.length) := rfl
theorem int_i {T : Nat → Str} {i : Int} {h : PH A} : biF T .int [.int i] h = some (.int i) := rfl
theorem sub_l {ds : List (D A)} {i : Int} {h : PH A} : subF (.lst ds) (.int i) h = L2.atI ds i := rfl
theorem sub_t {ds : List (D A)} {i : Int} {h : PH A} : subF (.tup ds) (.int i) h = L2.atI ds i := rfl
theorem add_ii {i j : Int} : binF .add (.int i) (.int j) = some (D.int (A := A) (i + j)) := rfl
theorem sub_ii {i j : Int} : binF .sub (.int i) (.int j) = some (D.int (A := A) (i - j)) := rfl
theorem mul_r {i j : Int} (h : -(2 ^ 64) < j) (h' : j < 2 ^ 64) : binF .mul (.int i) (.int j) = some (D.int (A := A) (i * j)) := by
  show (if small i j = true then _ else _) = _
  rw [if_pos]
  simp [small]; omega
theorem mul_l {i j : Int} (h : -(2 ^ 64) < i) (h' : i < 2 ^ 64) : binF .mul (.int i) (.int j) = some (D.int (A := A) (i * j)) := by
  show (if small i j = true then _ else _) = _
  rw [if_pos]
  simp [small]; omega
theorem fdiv_ii {i j : Int} (h : j ≠ 0) (h' : j.natAbs < 1073741824) : binF .fdiv (.int i) (.int j) = some (D.int (A := A) (i.fdiv j)) := if_pos ⟨h, h'⟩
theorem mod_ii {i j : Int} (h : j ≠ 0) : binF .mod (.int i) (.int j) = some (D.int (A := A) (i.fmod j)) := if_pos h
theorem pow_ii {i j : Int} (h : 0 ≤ j ∧ j ≤ 1000000 ∧ i.natAbs < 2 ^ 64) : binF .pow (.int i) (.int j) = some (D.int (A := A) (i ^ j.toNat)) := if_pos h
theorem neg_i {i : Int} : negF (.int i) = some (D.int (A := A) (-i)) := rfl
theorem atI_ints {xs : List Int} {i : Int} (h0 : 0 ≤ i) (h1 : i < xs.length) : L2.atI (xs.map (D.int (A := A))) i = some (.int (xs.getD i.toNat 0)) := by
  have : i.toNat < xs.length := by omega
  simp [L2.atI, L2.ixN, h0, h1, List.getD, this]
theorem take_ok {T : Nat → Str} {F : CallW A} {a : A} {h : PH A} {s p t m : Int} {xs : List Int} {K : KS A} (hb : h a = some (box s p t xs)) (ht : 0 ≤ t) (h1 : 1 ≤ m) (h2 : m < 1073741824)
    (k : ∀ r s' p' t' , 0 ≤ r → r < m → 0 ≤ t' → K.rt (.int r) (up h a (box s' p' t' xs))) : wSs T F takeC [some (.ref a), some (.int m), none, none, none] h K := by
  obtain ⟨h, rfl⟩ := box_h hb
  simp only [up_up] at k
  have m0 : m ≠ 0 := by omega
  have m1 : m.natAbs < 1073741824 := by omega
  have r0 : ∀ x : Int, 0 ≤ x.fmod m := fun x => Int.fmod_nonneg_of_pos x (by omega)
  have r1 : ∀ x : Int, x.fmod m < m := fun x => Int.fmod_lt_of_pos x (by omega)
  unfold box at k ⊢
  simp [takeC, wSs, wS, wT, wE, wA, subF_up, setF_up, up_up, at0, at1, at2, at3, eq_ii, lt_ii, gt_ii, ge_ii, tgF, int_i, sub_l, len_l, L2.ixN, add_ii, sub_ii, mul_r, mul_l, fdiv_ii, mod_ii, pow_ii, neg_i, m0, m1]
  by_cases c1 : p = 0
  · rw [if_pos c1]
    by_cases c2 : t < xs.length
    · simp [c2, atI_ints ht c2, ge_ii, subF_up, setF_up, up_up, at0, at1, at2, at3, eq_ii, lt_ii, gt_ii, ge_ii, tgF, int_i, sub_l, len_l, L2.ixN, add_ii, sub_ii, mul_r, mul_l, fdiv_ii, mod_ii, pow_ii, neg_i, m0, m1]
      split
      · try simp [subF_up, setF_up, up_up, at0, at1, at2, at3, eq_ii, lt_ii, gt_ii, ge_ii, tgF, int_i, sub_l, len_l, L2.ixN, add_ii, sub_ii, mul_r, mul_l, fdiv_ii, mod_ii, pow_ii, neg_i, m0, m1]
        split
        · exact k _ _ _ _ (r0 _) (r1 _) (by omega)
        · exact k _ _ _ _ (r0 _) (r1 _) (by omega)
      · try simp [subF_up, setF_up, up_up, at0, at1, at2, at3, eq_ii, lt_ii, gt_ii, ge_ii, tgF, int_i, sub_l, len_l, L2.ixN, add_ii, sub_ii, mul_r, mul_l, fdiv_ii, mod_ii, pow_ii, neg_i, m0, m1]
        exact k _ _ _ _ (r0 _) (r1 _) (by omega)
    · simp [c2, c1]
      exact k _ _ _ _ (by omega) (by omega) (by omega)
  · rw [if_neg c1]
    split
    · split
      · exact k _ _ _ _ (r0 _) (r1 _) (by omega)
      · exact k _ _ _ _ (r0 _) (r1 _) (by omega)
    · exact k _ _ _ _ (r0 _) (r1 _) (by omega)
end
end Cq
namespace Cq
open PySem PySem.Spec PyProof.Rows L2
section
variable {A : Type} [DecidableEq A] {T : Nat → Str} {F : CallW A}
theorem ite_f {c : Bool} {P Q : Prop} (h : c = false) (q : Q) : if c = true then P else Q := by rw [h]; exact q
theorem ite_t {c : Bool} {P Q : Prop} (h : c = true) (q : P) : if c = true then P else Q := by rw [h]; exact q
/-- a loop by what stands at each turn -/
theorem loopL_inv {tg : List Nat} {body : Env A → PH A → KS A → Prop} {K : KS A} (hm : ∀ σ h K K', K.Le K' → body σ h K → body σ h K') (I : Env A → PH A → Prop) (he : ∀ σ h, I σ h → K.nx σ h) :
    ∀ {ds : List (D A)} {σ : Env A} {h : PH A}, (∀ d ∈ ds, ∀ σ h, I σ h → on (tgF tg d σ) fun σ1 => body σ1 h { K with nx := I, bk := K.nx }) → I σ h → loopL none tg body ds σ h K
  | [], σ, h, hb, i => ⟨trivial, he _ _ i⟩
  | d :: ds, σ, h, hb, i => by
    refine ⟨trivial, on_mono (fun σ1 q => hm _ _ _ _ ?_ q) (hb d List.mem_cons_self σ h i)⟩
    exact ⟨fun σ2 h2 i2 => loopL_inv hm I he (fun d hd => hb d (List.mem_cons_of_mem _ hd)) i2, fun _ _ q => q, fun _ _ q => q, fun _ _ _ q => q⟩
/-- a comprehension each of whose turns gives a value by itself -/
theorem compL_map {turn : D A → PH A → (Option (D A) → PH A → Prop) → Prop} {g : D A → D A} {h : PH A} : ∀ {ds acc : List (D A)} {Q : List (D A) → PH A → Prop}, (∀ d ∈ ds, ∀ K, K (some (g d)) h → turn d h K) → acc.length + ds.length ≤ sizeLine → Q (acc ++ ds.map g) h → compL none turn ds acc h Q
  | [], acc, Q, ht, hl, q => ⟨trivial, by simpa using q⟩
  | d :: ds, acc, Q, ht, hl, q => ⟨trivial, ht d List.mem_cons_self _ (by
      simp only [List.length_cons] at hl
      refine ⟨by omega, compL_map (fun d hd => ht d (List.mem_cons_of_mem _ hd)) (by simp; omega) (by simpa using q)⟩)⟩
theorem ints_loop_mono {T : Nat → Str} {F : CallW A} (hF : MonoF F) {body : List CS} : ∀ σ h (K K' : KS A), K.Le K' → wSs T F body σ h K → wSs T F body σ h K' := fun σ h K K' l q => wSs_mono hF body l q
theorem repr_ok {h : PH A} {d : D A} {p : PyData} (hp : pd T (top h d) = some p) (h1 : p.leavesShort 13 = true) (h2 : p.showable = true) (h3 : p.depth ≤ 64) (h4 : p.bulk ≤ 32768) : biF T .repr [d] h = some (.txt p.shown) := by
  show reprF T h d = _
  unfold reprF
  rw [hp]
  have z := PyData.shown_le_bulk 13 (by decide) p h1
  show (if _ then _ else _) = _
  rw [if_pos ⟨h2, h3, by show _ ≤ 2 ^ 24; omega⟩]
def takeCd : Cd := ⟨2, 5, takeC⟩
theorem take_F {tab : List Cd} {k i : Nat} (hi : tab[i]? = some takeCd) {a : A} {h : PH A} {s p t m : Int} {xs : List Int} {Q : QD A} {E : QE A} (ht : 0 ≤ t) (h1 : 1 ≤ m) (h2 : m < 1073741824)
    (q : ∀ r s' p' t' , 0 ≤ r → r < m → 0 ≤ t' → Q (.int r) (up h a (box s' p' t' xs))) : runF T tab (k + 1) i [.ref a, .int m] (up h a (box s p t xs)) Q E := by
  refine ⟨_, hi, rfl, ?_⟩
  refine take_ok (K := ⟨fun _ h => Q .non h, Q, fun _ _ => False, fun c _ h => E c h⟩) up_same ht h1 h2 fun r s' p' t' a1 a2 a3 => ?_
  rw [up_up]
  exact q r s' p' t' a1 a2 a3
def absD : D A → D A
  | .int i => .int (if i < 0 then -i else i)
  | d => d
def boxC : List CS := [.ret (.list [.int 0, .int 0, .int 0, .comp (.val (.var 0)) [1] [1] [] (.bi .abs [.bi .int [.var 1]])])]
def boxCd : Cd := ⟨1, 2, boxC⟩
theorem box_F {tab : List Cd} {k i : Nat} (hi : tab[i]? = some boxCd) {a : A} {ns : List Int} (hl : ns.length ≤ 63) {Q : QD A} {E : QE A} (q : ∀ xs, Q (.ref a) (up (fun _ => none) a (box 0 0 0 xs))) : runF T tab (k + 1) i [.lst (ns.map .int)] (fun _ => none) Q E := by
  refine ⟨_, hi, rfl, ?_⟩
  simp only [boxCd, boxC, wSs, wS, wE, wA, wI, iterF, on_some, wTs, if_true]
  refine ⟨_, rfl, (ns.map D.int, none), rfl, ?_⟩
  refine compL_map (g := absD) (fun d hd K kk => ?_) (by show 0 + (ns.map D.int).length ≤ 2 ^ 24; simp; omega) ?_
  · obtain ⟨i, _, rfl⟩ := List.mem_map.mp hd
    exact ⟨_, rfl, _, rfl, _, rfl, _, rfl, kk⟩
  · refine .inl ⟨by show 4 ≤ 2 ^ 24; decide, .inr ⟨a, rfl, ?_⟩⟩
    have e : ([] : List (D A)) ++ (ns.map D.int).map absD = (ns.map fun i => if i < 0 then -i else i).map D.int := by
      simp [List.map_map, Function.comp_def, absD]
    rw [e]
    exact q _
def pickC (j : Nat) : List CS := [.ret (.sub (.var 1) (.call j [.var 0, .bi .len [.var 1]]))]
theorem atI_some {ds : List (D A)} {r : Int} (h0 : 0 ≤ r) (h1 : r < ds.length) : ∃ d, L2.atI ds r = some d ∧ d ∈ ds := by
  have : r.toNat < ds.length := by omega
  refine ⟨ds[r.toNat], ?_, List.getElem_mem this⟩
  simp [L2.atI, L2.ixN, h0, h1, this]
theorem pick_F {tab : List Cd} {k i j : Nat} (hi : tab[i]? = some ⟨2, 2, pickC j⟩) (hj : tab[j]? = some takeCd) {a : A} {h : PH A} {s p t : Int} {xs : List Int} {ds : List (D A)} {Q : QD A} {E : QE A} (ht : 0 ≤ t) (hn : 1 ≤ ds.length) (hn2 : ds.length < 1000)
    (q : ∀ d s' p' t', d ∈ ds → 0 ≤ t' → Q d (up h a (box s' p' t' xs))) : runF T tab (k + 2) i [.ref a, .lst ds] (up h a (box s p t xs)) Q E := by
  refine ⟨_, hi, rfl, ?_⟩
  simp only [pickC, wSs, wS, wE, wA]
  refine ⟨_, rfl, _, rfl, _, rfl, _, rfl, ?_⟩
  refine take_F (k := k) hj (m := (ds.length : Int)) ht (by omega) (by omega) fun r s' p' t' a1 a2 a3 => ?_
  obtain ⟨d, e, hd⟩ := atI_some a1 a2
  exact ⟨d, e, q d s' p' t' hd a3⟩
end
end Cq
open PySem PySem.Spec PyProof.Rows L2 Cq
namespace K01
def top (i : Nat) : Stmt := PySem.Challenge.pw_acquit_k01_parts_of_amounts.main.body.getD i (.Pass ⟨0, 0, 0, 0⟩)
def clsBody : Stmt → List Stmt
  | .ClassDef _ _ _ b _ _ _ _ _ _ _ => b
  | _ => []
def mth (i j : Nat) : Stmt := (clsBody (top i)).getD j (.Pass ⟨0, 0, 0, 0⟩)
def d0 : Df := ⟨"parts", "parts", defArgs (top 2), defBody (top 2), defScope (top 2), ["amount", "share", "fee"], ["amount", "share", "fee"]⟩
def d1 : Df := ⟨"_law_box", "_law_box", defArgs (top 4), defBody (top 4), defScope (top 4), ["_law_script", "_law_x"], ["_law_script"]⟩
def d2 : Df := ⟨"_law_take", "_law_take", defArgs (top 5), defBody (top 5), defScope (top 5), ["_law_box_here", "_law_m", "_law_at", "_law_cell", "_law_told"], ["_law_box_here", "_law_m"]⟩
def d3 : Df := ⟨"_law_pick", "_law_pick", defArgs (top 6), defBody (top 6), defScope (top 6), ["_law_box_here", "_law_menu"], ["_law_box_here", "_law_menu"]⟩
def d4 : Df := ⟨"law", "law", defArgs (top 7), defBody (top 7), defScope (top 7), ["_law_script", "_law_box_here", "_law_turn", "_law_amount", "_law_share", "_law_fee", "_law_told", "_law_first", "_law_one", "_law_other", "_law_k"], ["_law_script"]⟩
def defs : List Df := [d0, d1, d2, d3, d4]
def tb : Tb := ⟨["parts", "_law_box", "_law_take", "_law_pick", "law"], [("WHOLE", 10000)], [], []⟩
end K01
namespace K01
open PySem PySem.Spec PyProof.Rows L2 Cq
abbrev R : PySem.W.OpenRow := PySem.W.OpenLaw.row PySem.Challenge.rw_acquit_k01_parts_of_amounts
abbrev fa : List He.Fa := faOf tb
abbrev fn : List He.DefD := defs.map Df.toD
abbrev hk : PySem.W.Hook := He.hookD 4 fa fn
def ob (s : PySem.W.SharedT) : He.AlD := He.obsDG 4 fa fn (HandSHeadRun.getT s)
theorem ob_eq (s : PySem.W.SharedT) : ob s = hk.obs s.abs := He.obsDG_eq (HandSHeadRun.getT_eq s)
def names : List PySem.Str := ["WHOLE", "parts", "_law_box", "_law_take", "_law_pick"]
theorem run (w : World) : HandSHeadRun.RunEq R (PySem.W.view R.prog [7]) hk ob 700 names w := by
  intro os
  kernel_rfl
theorem scp : ∀ (i : Nat) d, defs[i]? = some d → FnScope d.N d.ps d.scope ∧ (trSL (trS tb 60 d.sc) d.body).isSome = true := by
  intro i d h
  match i, h with
  | 0, h => cases h; exact ⟨C8.fnScope_by (by kernel_rfl), by kernel_rfl⟩
  | 1, h => cases h; exact ⟨C8.fnScope_by (by kernel_rfl), by kernel_rfl⟩
  | 2, h => cases h; exact ⟨C8.fnScope_by (by kernel_rfl), by kernel_rfl⟩
  | 3, h => cases h; exact ⟨C8.fnScope_by (by kernel_rfl), by kernel_rfl⟩
  | 4, h => cases h; exact ⟨C8.fnScope_by (by kernel_rfl), by kernel_rfl⟩
  | _ + 5, h => cases h
theorem bnd : ∀ (i : Nat) d, defs[i]? = some d → ∀ (kV doc pm : Value) (an : Option Addr) (cdv ct : Value) (us : List Value), us.length = d.ps.length → bindArgs (PySem.W.fnOf d.name d.qual d.params d.body d.scope .none kV doc pm an cdv ct) ⟨us, []⟩ = pure (d.ps.zip us) := by
  intro i d h kV doc pm an cdv ct us hl
  match i, h with
  | 0, h => cases h; match us, hl with | [_, _, _], _ => rfl
  | 1, h => cases h; match us, hl with | [_], _ => rfl
  | 2, h => cases h; match us, hl with | [_, _], _ => rfl
  | 3, h => cases h; match us, hl with | [_, _], _ => rfl
  | 4, h => cases h; match us, hl with | [_], _ => rfl
  | _ + 5, h => cases h
end K01
namespace K01
open PySem PySem.Spec PyProof.Rows L2 Cq
def cParts : List CS := [.ret (.tup [.bin .fdiv (.bin .mul (.var 0) (.var 1)) (.int 10000), .bin .fdiv (.bin .mul (.var 0) (.var 2)) (.int 10000)])]
def cBox : List CS := [.ret (.list [.int 0, .int 0, .int 0, .comp (.val (.var 0)) [1] [1] [] (.bi .abs [.bi .int [.var 1]])])]
def cPick : List CS := [.ret (.sub (.var 1) (.call 2 [.var 0, .bi .len [.var 1]]))]
def tk (m : CE) : CE := .call 2 [.var 1, m]
def pk (l : List CE) : CE := .call 3 [.var 1, .list l]
def cIn : List CS := [.ite (.cmp .nin (.bin .sub (.bin .sub (.sub (.var 6) (.var 10)) (.sub (.var 8) (.var 10))) (.sub (.var 9) (.var 10))) (.tup [.int 0, .int 1])) [.ret (.bl false)] []]
def cBody : List CS := [
    .set [3] (pk [tk (.int 100), tk (.int 20000), .bin .add (.bin .mul (.int 1000) (tk (.int 1000000))) (tk (.int 1000)), .bin .pow (.int 10) (.int 9), .int 0, .int 9999, .int 10000]),
    .set [4] (pk [.int 0, .int 300, tk (.int 301), .int 1]),
    .set [5] (pk [.var 4, .int 500, .bin .add (.var 4) (tk (.bin .sub (.int 501) (.var 4)))]),
    .set [6] (.call 0 [.var 3, .var 4, .var 5]),
    .ite (.or_ (.cmp .ne (.bi .repr [.var 6]) (.bi .repr [.tup [.bin .fdiv (.bin .mul (.var 3) (.var 4)) (.int 10000), .bin .fdiv (.bin .mul (.var 3) (.var 5)) (.int 10000)]]))
      (.or_ (.cmp .gt (.sub (.var 6) (.int 0)) (.sub (.var 6) (.int 1))) (.cmp .gt (.bin .mul (.sub (.var 6) (.int 1)) (.int 20)) (.var 3)))) [.ret (.bl false)] [],
    .set [7] (.bin .fdiv (.bin .mul (tk (.int 1000000)) (.bin .add (.bin .fdiv (.var 3) (.int 1000000)) (.int 1))) (.int 2)),
    .ite (.cmp .le (.var 7) (.var 3)) [
      .par [8, 9] [.call 0 [.var 7, .var 4, .var 5], .call 0 [.bin .sub (.var 3) (.var 7), .var 4, .var 5]],
      .for_ [10] (.range1 (.int 2)) cIn] []]
def cLaw : List CS := [.set [1] (.call 1 [.var 0]), .for_ [2] (.range1 (.int 6)) cBody, .ret (.bl true)]
theorem tab_eq : defs.map (Df.cd tb 60) = [⟨3, 3, cParts⟩, ⟨1, 2, cBox⟩, ⟨2, 5, takeC⟩, ⟨2, 2, cPick⟩, ⟨1, 11, cLaw⟩] := by kernel_rfl
abbrev tab : List Cd := [⟨3, 3, cParts⟩, ⟨1, 2, cBox⟩, ⟨2, 5, takeC⟩, ⟨2, 2, cPick⟩, ⟨1, 11, cLaw⟩]
abbrev B (s p t : Int) (xs : List Int) : PH Unit := up (fun _ => none) () (box s p t xs)
theorem fd (x : Int) : x.fdiv 10000 = x / 10000 := Int.fdiv_eq_ediv_of_nonneg x (by decide)
theorem mul_le {a b M N : Int} (h0 : 0 ≤ a) (h1 : a ≤ M) (h2 : 0 ≤ b) (h3 : b ≤ N) : 0 ≤ a * b ∧ a * b ≤ M * N :=
  ⟨Int.mul_nonneg h0 h2, Int.mul_le_mul h1 h3 h2 (Int.le_trans h0 h1)⟩
theorem parts_F {T : Nat → Str} {k : Nat} {a s f : Int} {h : PH Unit} {Q : QD Unit} {E : QE Unit} (h1 : 0 ≤ s) (h2 : s ≤ 1000) (h3 : 0 ≤ f) (h4 : f ≤ 1000) (q : Q (.tup [.int (a * s / 10000), .int (a * f / 10000)]) h) : runF T tab (k + 1) 0 [.int a, .int s, .int f] h Q E := by
  refine ⟨_, rfl, rfl, ?_⟩
  rw [← fd, ← fd] at q
  exact ⟨_, rfl, _, rfl, _, mul_r (by omega) (by omega), _, fdiv_ii (by decide) (by decide), _, rfl, _, rfl, _, mul_r (by omega) (by omega), _, fdiv_ii (by decide) (by decide), by show 2 ≤ 2 ^ 24; decide, q⟩
theorem rep2 {T : Nat → Str} {h : PH Unit} {x y : Int} (hx : x.natAbs < 10 ^ 12) (hy : y.natAbs < 10 ^ 12) : biF T .repr [.tup [.int x, .int y]] h = some (.txt (PyData.tuple [.int x, .int y]).shown) := by
  refine repr_ok rfl ?_ ?_ (by simp [PyData.depth, PyData.depthAll]) (by simp [PyData.bulk, PyData.bulkAll])
  · simp [PyData.leavesShort, PyData.leavesShortAll, PyData.shown_int_le hx, PyData.shown_int_le hy]
  · have z : ∀ n : Int, n.natAbs < 10 ^ 12 → n.natAbs.log2 < 1920 := fun n hn => by
      by_cases e : n.natAbs = 0
      · rw [e]; decide
      · exact (Nat.log2_lt e).mpr (Nat.lt_of_lt_of_le hn (by decide +kernel))
    simp [PyData.showable, PyData.showableAll, z x hx, z y hy]
def I (L : D Unit) (xs : List Int) (σ : Env Unit) (h : PH Unit) : Prop := ∃ o2 o3 o4 o5 o6 o7 o8 o9 o10 s p t, σ = [some L, some (.ref ()), o2, o3, o4, o5, o6, o7, o8, o9, o10] ∧ 0 ≤ t ∧ h = B s p t xs
theorem law_run {T : Nat → Str} {ns : List Int} (hl : ns.length ≤ 63) : runF (A := Unit) T tab 4 4 [.lst (ns.map D.int)] (fun _ => none) (fun d _ => d = .bl true) fun _ _ => False := by
  refine ⟨_, rfl, rfl, ?_⟩
  have F2 : tab[2]? = some takeCd := rfl
  have F3 : tab[3]? = some ⟨2, 2, pickC 2⟩ := rfl
  have hF := runF_mono (A := Unit) T tab 3
  have F1 : tab[1]? = some boxCd := rfl
  show wSs T (runF T tab 3) cLaw [some (.lst (ns.map D.int)), none, none, none, none, none, none, none, none, none, none] _ ⟨_, _, _, _⟩
  simp only [cLaw, cBody, cIn, wSs, wS, pk, tk, wE, wA, wI, wT]
  refine ⟨_, rfl, box_F (k := 2) (a := ()) F1 hl fun xs => ?_⟩
  refine ⟨_, rfl, ?_⟩
  refine ⟨_, rfl, ?_⟩
  refine loopL_inv (fun σ h K K' l q => ?_) (I (.lst (ns.map D.int)) xs) ?_ ?_ ⟨_, _, _, _, _, _, _, _, _, _, _, _, rfl, Int.le_refl 0, rfl⟩
  · exact wSs_mono (T := T) hF cBody l q
  · rintro σ h _
    trivial
  · rintro d hd σ h ⟨o2, o3, o4, o5, o6, o7, o8, o9, o10, s, p, t, rfl, ht, rfl⟩
    refine ⟨_, rfl, ?_⟩
    -- the amount
    refine ⟨_, rfl, _, rfl, take_F (k := 2) F2 ht (by decide) (by decide) fun r1 s p t _ _ ht => ?_⟩
    refine ⟨_, rfl, take_F (k := 2) F2 ht (by decide) (by decide) fun r2 s p t a2 b2 ht => ?_⟩
    refine ⟨_, rfl, take_F (k := 2) F2 ht (by decide) (by decide) fun r3 s p t a3 b3 ht => ?_⟩
    refine ⟨_, mul_l (by decide) (by decide), _, rfl, take_F (k := 2) F2 ht (by decide) (by decide) fun r4 s p t a4 b4 ht => ?_⟩
    refine ⟨_, rfl, _, pow_ii (by decide), by show 7 ≤ 2 ^ 24; decide, .inl ?_⟩
    refine pick_F (k := 1) F3 F2 ht (by simp) (by simp) fun d s p t hd ht => ?_
    obtain ⟨a, rfl, a0, a9⟩ : ∃ a, d = .int a ∧ 0 ≤ a ∧ a ≤ 1000000000 := by
      simp only [List.mem_cons, List.not_mem_nil, or_false] at hd
      rcases hd with h | h | h | h | h | h | h <;> refine ⟨_, h, ?_, ?_⟩ <;> first | omega | decide
    refine ⟨_, rfl, _, rfl, _, rfl, take_F (k := 2) F2 ht (by decide) (by decide) fun r1 s p t a1 b1 ht => ?_⟩
    refine ⟨by show 4 ≤ 2 ^ 24; decide, .inl ?_⟩
    refine pick_F (k := 1) F3 F2 ht (by simp) (by simp) fun d s p t hd ht => ?_
    obtain ⟨sh, rfl, s0, s9⟩ : ∃ a, d = .int a ∧ 0 ≤ a ∧ a ≤ 300 := by
      simp only [List.mem_cons, List.not_mem_nil, or_false] at hd
      rcases hd with h | h | h | h <;> refine ⟨_, h, ?_, ?_⟩ <;> first | omega | decide
    refine ⟨_, rfl, _, rfl, _, rfl, _, rfl, _, rfl, _, rfl, _, rfl, take_F (k := 2) F2 ht (by omega) (by omega) fun r1 s p t a1 b1 ht => ?_⟩
    refine ⟨_, rfl, by show 3 ≤ 2 ^ 24; decide, .inl ?_⟩
    refine pick_F (k := 1) F3 F2 ht (by simp) (by simp) fun d s p t hd ht => ?_
    obtain ⟨fe, rfl, f0, f9⟩ : ∃ a, d = .int a ∧ sh ≤ a ∧ a ≤ 500 := by
      simp only [List.mem_cons, List.not_mem_nil, or_false] at hd
      rcases hd with h | h | h <;> refine ⟨_, h, ?_, ?_⟩ <;> omega
    refine ⟨_, rfl, _, rfl, _, rfl, _, rfl, parts_F (k := 2) s0 (by omega) (by omega) (by omega) ?_⟩
    obtain ⟨u0, u1⟩ := mul_le a0 a9 s0 s9
    obtain ⟨v0, v1⟩ := mul_le a0 a9 (show 0 ≤ fe by omega) f9
    have uv : a * sh ≤ a * fe := Int.mul_le_mul_of_nonneg_left f0 a0
    have va : a * fe ≤ a * 500 := Int.mul_le_mul_of_nonneg_left f9 a0
    refine ⟨_, rfl, _, rfl, _, rep2 (by omega) (by omega), _, rfl, _, rfl, _, mul_r (by omega) (by omega), _, fdiv_ii (by decide) (by decide), _, rfl, _, rfl, _, mul_r (by omega) (by omega), _, fdiv_ii (by decide) (by decide), ?_⟩
    rw [fd, fd]
    refine ⟨by show 2 ≤ 2 ^ 24; decide, _, rep2 (by omega) (by omega), _, rfl, ?_⟩
    refine ite_f (by simp) ?_
    refine ⟨_, rfl, _, rfl, _, rfl, _, rfl, _, rfl, ?_⟩
    refine ite_f (by simp; omega) ?_
    refine ⟨_, rfl, _, rfl, _, mul_r (by decide) (by decide), _, rfl, _, rfl, ?_⟩
    refine ite_f (by simp; omega) ?_
    -- the first part
    refine ⟨_, rfl, take_F (k := 2) F2 ht (by decide) (by decide) fun r1 s p t a1 b1 ht => ?_⟩
    refine ⟨_, rfl, _, fdiv_ii (by decide) (by decide), _, rfl, _, mul_l (by omega) (by omega), _, fdiv_ii (by decide) (by decide), _, rfl, _, rfl, _, rfl, _, rfl, ?_⟩
    have e6 : a.fdiv 1000000 = a / 1000000 := Int.fdiv_eq_ediv_of_nonneg a (by decide)
    have g0 : 0 ≤ r1 * (a / 1000000 + 1) := Int.mul_nonneg a1 (by omega)
    have e2 : (r1 * (a / 1000000 + 1)).fdiv 2 = (r1 * (a / 1000000 + 1)) / 2 := Int.fdiv_eq_ediv_of_nonneg _ (by decide)
    rw [e6, e2]
    obtain ⟨fi, hfi⟩ : ∃ fi, fi = (r1 * (a / 1000000 + 1)) / 2 := ⟨_, rfl⟩
    have fi0 : 0 ≤ fi := by omega
    rw [← hfi]
    by_cases hfa : fi ≤ a
    · refine ite_t (by simpa using hfa) ?_
      refine ⟨_, rfl, _, rfl, _, rfl, parts_F (k := 2) s0 (by omega) (by omega) (by omega) ?_⟩
      refine ⟨_, rfl, _, rfl, _, rfl, _, rfl, _, rfl, parts_F (k := 2) s0 (by omega) (by omega) (by omega) ?_⟩
      refine ⟨_, rfl, _, rfl, ?_⟩
      refine loopL_inv (fun σ h K K' l q => ?_) (fun σ' h' => h' = B s p t xs ∧ ∃ o10, σ' = [some (.lst (ns.map D.int)), some (.ref ()), some d, some (.int a), some (.int sh), some (.int fe), some (.tup [.int (a * sh / 10000), .int (a * fe / 10000)]), some (.int fi), some (.tup [.int (fi * sh / 10000), .int (fi * fe / 10000)]), some (.tup [.int ((a - fi) * sh / 10000), .int ((a - fi) * fe / 10000)]), o10]) ?_ ?_ ⟨rfl, _, rfl⟩
      · exact wSs_mono (T := T) hF cIn l q
      · rintro σ h ⟨rfl, o, rfl⟩
        exact ⟨_, _, _, _, _, _, _, _, _, _, _, _, rfl, ht, rfl⟩
      · rintro d2 hd2 σ h ⟨rfl, o, rfl⟩
        have k2 : d2 = .int 0 ∨ d2 = .int 1 := by
          have e : (List.range (2 - 0 : Int).toNat).map (fun (k : Nat) => (D.int (0 + (k : Int)) : D Unit)) = [.int 0, .int 1] := rfl
          rw [e] at hd2
          simpa using hd2
        have m1 : (a - fi) * sh = a * sh - fi * sh := Int.sub_mul _ _ _
        have m2 : (a - fi) * fe = a * fe - fi * fe := Int.sub_mul _ _ _
        have fin : ∀ z : Int, z = 0 ∨ z = 1 → cmpF .nin (.int z) (.tup [.int 0, .int 1]) (B s p t xs) = some false := by
          rintro z (rfl | rfl) <;> rfl
        refine ⟨_, rfl, ?_⟩
        rcases k2 with rfl | rfl
        · refine ⟨_, rfl, _, rfl, _, rfl, _, rfl, _, rfl, _, rfl, _, rfl, _, rfl, _, rfl, _, rfl, _, rfl, by show 2 ≤ 2 ^ 24; decide, _, fin _ (by rw [m1]; omega), ?_⟩
          exact ite_f rfl ⟨rfl, _, rfl⟩
        · refine ⟨_, rfl, _, rfl, _, rfl, _, rfl, _, rfl, _, rfl, _, rfl, _, rfl, _, rfl, _, rfl, _, rfl, by show 2 ≤ 2 ^ 24; decide, _, fin _ (by rw [m2]; omega), ?_⟩
          exact ite_f rfl ⟨rfl, _, rfl⟩
    · refine ite_f (by simpa using hfa) ?_
      exact ⟨_, _, _, _, _, _, _, _, _, _, _, _, rfl, ht, rfl⟩
end K01
open PySem PySem.W PySem.Calls PyProof.Rows
theorem PySem.Challenge.cw_acquit_k01_parts_of_amounts_holds : PySem.Challenge.rw_acquit_k01_parts_of_amounts.Holds := by
  w_on; o_law
  refine HandSHeadRun.head_any (r := OpenLaw.row PySem.Challenge.rw_acquit_k01_parts_of_amounts) (q := view (OpenLaw.row PySem.Challenge.rw_acquit_k01_parts_of_amounts).prog [7]) (H := K01.hk) (ob := K01.ob) (M := 700) (loose := K01.names) (d := HandSHeadRun.topDef (OpenLaw.row PySem.Challenge.rw_acquit_k01_parts_of_amounts).prog 7) (kwd := []) K01.ob_eq
    (by kernel_rfl) (fun s => by kernel_rfl) K01.run (by kernel_rfl) (by kernel_rfl) (by kernel_rfl) (by rfl) (by first | assumption | decide +kernel) (by decide +kernel) ⟨rfl, rfl, rfl, rfl, rfl, by decide +kernel⟩ ?hw ?hc
  case hw => w_witness2
  case hc =>
    refine Cq.law_end (A := Unit) (fun _ => 0) (l := PySem.Challenge.rw_acquit_k01_parts_of_amounts) (n := 63) (k := 4) (m := 60) (x := "_law_script") (tb := K01.tb) (defs := K01.defs) (tx := Cq.txOf [] (by decide) rfl) (fl := Cq.txOf [] (by decide) rfl) (cl := fun _ _ => 0) (j := 4) (dl := K01.d4) rfl (by decide) (by kernel_rfl) ⟨rfl, by decide, by decide⟩ rfl rfl (by kernel_rfl) (by kernel_rfl) (fun i x h => by cases h) K01.scp K01.bnd ?_
    intro ns hl
    rw [K01.tab_eq]
    exact K01.law_run hl
