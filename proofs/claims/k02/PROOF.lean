import PyProof.Rows.All
import Wide.All
import OpenK.AllK
import Wide.FinOn
import HandS.ForMost
import HandS.TupAny
import HandS.Deep
import HandS.ForExc
import HandS.CallSlots
import HandS.IsInst
import HandS.Zip
import HandS.Small
import HandS.Conv
import HandS.Words
import HandS.Ends
import KE.KIndexOf
import KE.DataMinMax
import KE.SortData
import PySem.Challenge.RW_seesofar_k02_rows_that_live
set_option Elab.async false
set_option linter.all false
set_option maxRecDepth 100000
set_option maxHeartbeats 4000000
/-! Mini semantics: data trees, an own heap, a small syntax, and what a piece of it asks (predicate transformers). -/
namespace Mp
open PySem PySem.Spec PyProof.Rows L2

/-- data: trees; what may change stands behind a number -/
inductive D where
  | non | bl (b : Bool) | int (i : Int) | str (x : Str) | tup (xs : List D) | ref (n : Nat) | fn (f : Nat)
  deriving Inhabited
inductive MO where
  | lst (xs : List D) | rol (xs : List D) | dic (kvs : List (List Key × D)) | ins (c : Nat) (fs : List (Nat × D))
  deriving Inhabited
abbrev MH := List MO
abbrev En := List (Option D)
structure Exn where
  c : Nat
  fs : List D
abbrev QV := D → MH → Prop
abbrev QX := Exn → MH → Prop
/-- what is wanted of an exception, with the names as they stand -/
abbrev QE := Exn → En → MH → Prop
abbrev Phi := Nat → List D → MH → QV → QX → Prop

/-- the items of a list that stands there -/
def MO.items : MO → Option (List D)
  | .lst xs => some xs
  | .rol xs => some xs
  | _ => none
def lstAt (h : MH) (n : Nat) : Option (List D) := (h[n]?).bind MO.items

/-! ### great numbers, not to be counted out -/
noncomputable def B62s : {n : Int // n = 2 ^ 62} := Classical.choice ⟨⟨2 ^ 62, rfl⟩⟩
noncomputable def B62 : Int := B62s.val
theorem B62_eq : B62 = 2 ^ 62 := B62s.property
noncomputable def B63s : {n : Int // n = 2 ^ 63} := Classical.choice ⟨⟨2 ^ 63, rfl⟩⟩
noncomputable def B63 : Int := B63s.val
theorem B63_eq : B63 = 2 ^ 63 := B63s.property
noncomputable def B64s : {n : Int // n = 2 ^ 64} := Classical.choice ⟨⟨2 ^ 64, rfl⟩⟩
noncomputable def B64 : Int := B64s.val
theorem B64_eq : B64 = 2 ^ 64 := B64s.property
noncomputable def N64s : {n : Nat // n = 2 ^ 64} := Classical.choice ⟨⟨2 ^ 64, rfl⟩⟩
noncomputable def N64 : Nat := N64s.val
theorem N64_eq : N64 = 2 ^ 64 := N64s.property
noncomputable def B30s : {n : Int // n = 1073741824} := Classical.choice ⟨⟨1073741824, rfl⟩⟩
noncomputable def B30 : Int := B30s.val
theorem B30_eq : B30 = 1073741824 := B30s.property
noncomputable def B20s : {n : Int // n = 1000000} := Classical.choice ⟨⟨1000000, rfl⟩⟩
noncomputable def B20 : Int := B20s.val
theorem B20_eq : B20 = 1000000 := B20s.property
noncomputable def N24s : {n : Nat // n = 2 ^ 24} := Classical.choice ⟨⟨2 ^ 24, rfl⟩⟩
noncomputable def N24 : Nat := N24s.val
theorem N24_eq : N24 = 2 ^ 24 := N24s.property
/-! ### as data of the library -/
def pyD : Nat → MH → D → Option PyData
  | 0, _, _ => none
  | n + 1, h, d => match d with
    | .non => some .none
    | .bl b => some (.bool b)
    | .int i => some (.int i)
    | .str x => some (.str x)
    | .tup xs => (xs.mapM (pyD n h)).map .tuple
    | .ref r => match lstAt h r with
      | some xs => (xs.mapM (pyD n h)).map .list
      | none => none
    | .fn _ => none
def eqD (h : MH) (x y : D) : Option Bool :=
  match pyD 65 h x, pyD 65 h y with
  | some a, some b => if SeqAt.shaped a && SeqAt.shaped b then some (PyData.eqv a b) else none
  | _, _ => none
/-- x in xs, by == -/
def inD (h : MH) (x y : D) : Option Bool :=
  match pyD 65 h x, y with
  | some a, .tup _ => match pyD 65 h y with
    | some (.tuple ds) => if SeqAt.shaped a && SeqAt.shaped (.tuple ds) then some (ds.any fun z => PyData.eqv z a) else none
    | _ => none
  | some a, .ref _ => match pyD 65 h y with
    | some (.list ds) => if SeqAt.shaped a && SeqAt.shaped (.list ds) then some (ds.any fun z => PyData.eqv z a) else none
    | _ => none
  | _, _ => none
def allInts : List D → Option (List Int)
  | [] => some []
  | .int i :: r => (allInts r).map (i :: ·)
  | _ => none
def allBls : List D → Option (List Bool)
  | [] => some []
  | .bl b :: r => (allBls r).map (b :: ·)
  | _ => none

/-! ### keys -/
def keyOf1 : D → Option Key
  | .int i => some (.inl i)
  | .str x => some (.inr x)
  | _ => none
def keyD : D → Option (List Key)
  | .tup xs => xs.mapM keyOf1
  | _ => none
def getK {α : Type} (kvs : List (List Key × α)) (k : List Key) : Option α := match kvs with
  | [] => none
  | p :: r => if p.1 = k then some p.2 else getK r k
def setK {α : Type} (kvs : List (List Key × α)) (k : List Key) (v : α) : List (List Key × α) := match kvs with
  | [] => [(k, v)]
  | p :: r => if p.1 = k then (p.1, v) :: r else p :: setK r k v
/-- x in y, of dicts too -/
def inX (h : MH) (x y : D) : Option Bool := match y with
  | .ref n => match h[n]? with
    | some (.dic kvs) => (keyD x).map fun k => (getK kvs k).isSome
    | _ => inD h x y
  | _ => inD h x y
/-- the ints from a up to b -/
noncomputable def rgOk (a b : Int) : Bool := decide (-B62 ≤ a ∧ a < B62 ∧ -B62 ≤ b ∧ b < B62 ∧ (b - a).toNat ≤ N24)
def rgD (a b : Int) : List D := (List.range (b - a).toNat).map fun (i : Nat) => .int (a + i)
/-- a slice with a step -/
def pickT {α : Type} (xs : List α) (lo hi : Option Int) (st : Int) : List α :=
  (List.range (Builtin.Slice.slicePlaces (Builtin.Slice.sliceAdjust lo hi st xs.length).1 (Builtin.Slice.sliceAdjust lo hi st xs.length).2 st)).filterMap fun (k : Nat) => xs[((Builtin.Slice.sliceAdjust lo hi st xs.length).1 + (k : Int) * st).toNat]?

/-! ### operations -/
inductive B2 where
  | add | sub | mul | fdiv | mod | pow | shl | shr | band | bxor
inductive C2 where
  | eq | ne | lt | le | gt | ge | isN | notN | inn | nin
abbrev PR := Option (D × MH)
def newL (h : MH) (xs : List D) : PR := if xs.length ≤ sizeLine then some (.ref h.length, h ++ [.lst xs]) else none

noncomputable def binop (o : B2) (x y : D) (h : MH) : PR :=
  match o, x, y with
  | .add, .int i, .int j => some (.int (i + j), h)
  | .sub, .int i, .int j => some (.int (i - j), h)
  | .mul, .int i, .int j => if (-B64 < i ∧ i < B64) ∨ (-B64 < j ∧ j < B64) then some (.int (i * j), h) else none
  | .fdiv, .int i, .int j => if 0 < j ∧ j < B30 then some (.int (i / j), h) else none
  | .mod, .int i, .int j => if 0 < j then some (.int (i % j), h) else none
  | .pow, .int i, .int j => if 0 ≤ j ∧ j ≤ B20 ∧ i.natAbs < N64 then some (.int (i ^ j.toNat), h) else none
  | .shl, .int i, .int j => if 0 ≤ j ∧ j ≤ B20 ∧ i.natAbs < N64 then some (.int (i * 2 ^ j.toNat), h) else none
  | .shr, .int i, .int j => if 0 ≤ j then some (.int (i / 2 ^ j.toNat), h) else none
  | .band, .int i, .int j => some (.int (Builtin.bitAnd i j), h)
  | .bxor, .int i, .int j => some (.int (Builtin.bitXor i j), h)
  | .add, .str a, .str b => if a.length + b.length ≤ sizeLine then some (.str (a ++ b), h) else none
  | .add, .tup a, .tup b => if a.length + b.length ≤ sizeLine then some (.tup (a ++ b), h) else none
  | .add, .ref a, .ref b => match h[a]?, h[b]? with
    | some (.lst xs), some (.lst ys) => newL h (xs ++ ys)
    | _, _ => none
  | _, _, _ => none

def cmpop (o : C2) (x y : D) (h : MH) : Option Bool :=
  match o with
  | .eq => eqD h x y
  | .ne => (eqD h x y).map (!·)
  | .inn => inX h x y
  | .nin => (inX h x y).map (!·)
  | .isN => match y, x with
    | .non, .non => some true
    | .non, _ => some false
    | _, _ => none
  | .notN => match y, x with
    | .non, .non => some false
    | .non, _ => some true
    | _, _ => none
  | .lt => match x, y with
    | .int i, .int j => some (decide (i < j))
    | .tup a, .tup b => match allInts a, allInts b with
      | some ns, some ms => some (HT.lexLt ns ms)
      | _, _ => none
    | _, _ => none
  | .le => match x, y with
    | .int i, .int j => some (decide (i ≤ j))
    | _, _ => none
  | .gt => match x, y with
    | .int i, .int j => some (decide (j < i))
    | _, _ => none
  | .ge => match x, y with
    | .int i, .int j => some (decide (j ≤ i))
    | _, _ => none

def ixop (x y : D) (h : MH) : Option D :=
  match x, y with
  | .tup xs, .int i => atI xs i
  | .ref n, .int i => (lstAt h n).bind fun xs => atI xs i
  | .ref n, .tup xs => match h[n]? with
    | some (.dic kvs) => (keyD (.tup xs)).bind fun k => getK kvs k
    | _ => none
  | _, _ => none
def cutD (xs : List D) (lo hi : Option Int) : List D := (xs.drop (HT.sIx xs.length 0 lo)).take (HT.sIx xs.length xs.length hi - HT.sIx xs.length 0 lo)
def slop (x : D) (lo hi : Option Int) (h : MH) : PR :=
  match x with
  | .tup xs => some (.tup (cutD xs lo hi), h)
  | .ref n => (lstAt h n).bind fun xs => newL h (cutD xs lo hi)
  | _ => none
def slSop (x : D) (lo hi : Option Int) (st : Int) (h : MH) : PR :=
  match x with
  | .tup xs => if st ≠ 0 ∧ st ≠ 1 ∧ (pickT xs lo hi st).length ≤ sizeLine then some (.tup (pickT xs lo hi st), h) else none
  | _ => none

inductive TY where
  | int | bool | str | tuple
def isT : TY → D → Option Bool
  | _, .fn _ => none
  | .int, .int _ => some true
  | .int, .bl _ => some true
  | .bool, .bl _ => some true
  | .str, .str _ => some true
  | .tuple, .tup _ => some true
  | _, _ => some false

def isTupNE : PyData → Bool
  | .tuple (_ :: _) => true
  | _ => false
def isPlainK : PyData → Bool
  | .none => false
  | .tuple _ => false
  | _ => true
/-- sorted of a list's items -/
def sortL (h : MH) (xs : List D) : Option (List D) := match xs.mapM (pyD 65 h) with
  | some ps => if (ps.all fun p => ps.all fun q => PySem.W.alike p q) && (ps.all isTupNE || ps.all isPlainK) && ps.all (fun p => decide (p.depth ≤ 64)) && decide (xs.length ≤ sizeLine)
      then some (((xs.zip ps).mergeSort (PySem.W.dataLe false Prod.snd)).map Prod.fst) else none
  | none => none
/-- built-ins -/
inductive BI where
  | len | all | any | sum | max1 | min1 | max2 | min2 | tupleOf | listOf | intOf | strOf | repr | sorted | isinst (t : TY) | dict0 | listRng1 | listRng2 | tupRng1 | tupRng2
def BI.two : BI → Bool
  | .max2 => true
  | .min2 => true
  | .listRng2 => true
  | .tupRng2 => true
  | _ => false
/-- list methods -/
inductive MT where
  | append | extend | pop0 | pop1 | index | reverse | insert
noncomputable def biop (f : BI) (ds : List D) (h : MH) : PR :=
  match f, ds with
  | .len, [.tup xs] => some (.int xs.length, h)
  | .len, [.str x] => if x.length ≤ sizeLine then some (.int x.length, h) else none
  | .len, [.ref n] => match h[n]? with
    | some (.lst xs) => some (.int xs.length, h)
    | some (.rol xs) => some (.int xs.length, h)
    | _ => none
  | .all, [.ref n] => ((lstAt h n).bind allBls).map fun bs => (.bl (bs.all id), h)
  | .any, [.ref n] => ((lstAt h n).bind allBls).map fun bs => (.bl (bs.any id), h)
  | .sum, [.ref n] => ((lstAt h n).bind allInts).map fun bs => (.int bs.sum, h)
  | .max2, [.int i, .int j] => some (.int (if j > i then j else i), h)
  | .min2, [.int i, .int j] => some (.int (if j < i then j else i), h)
  | .tupleOf, [.tup xs] => some (.tup xs, h)
  | .tupleOf, [.ref n] => (lstAt h n).map fun xs => (.tup xs, h)
  | .listOf, [.tup xs] => newL h xs
  | .listOf, [.ref n] => (lstAt h n).bind fun xs => newL h xs
  | .intOf, [.int i] => some (.int i, h)
  | .intOf, [.bl b] => some (.int (if b then 1 else 0), h)
  | .strOf, [.int i] => if i.natAbs.log2 < 1920 then some (.str (toString i), h) else none
  | .repr, [d] => match pyD 65 h d with
    | some p => if p.showable && !p.hasDict && decide (p.depth ≤ 64) && decide (p.shown.length ≤ sizeLine) then some (.str p.shown, h) else none
    | none => none
  | .sorted, [.ref n] => ((lstAt h n).bind (sortL h)).bind fun xs => newL h xs
  | .isinst t, [d] => (isT t d).map fun b => (.bl b, h)
  | .dict0, [] => some (.ref h.length, h ++ [.dic []])
  | .listRng1, [.int n] => if rgOk 0 n = true then newL h (rgD 0 n) else none
  | .listRng2, [.int a, .int b] => if rgOk a b = true then newL h (rgD a b) else none
  | .tupRng1, [.int n] => if rgOk 0 n = true then some (.tup (rgD 0 n), h) else none
  | .tupRng2, [.int a, .int b] => if rgOk a b = true then some (.tup (rgD a b), h) else none
  | _, _ => none
noncomputable def mtop (m : MT) (o : D) (ds : List D) (h : MH) : PR :=
  match m, o, ds with
  | .append, .ref n, [d] => match h[n]? with
    | some (.lst xs) => if xs.length < sizeLine then some (.non, h.set n (.lst (xs ++ [d]))) else none
    | _ => none
  | .extend, .ref n, [.ref m] => match h[n]?, h[m]? with
    | some (.lst xs), some (.lst ys) => if xs.length + ys.length ≤ sizeLine then some (.non, h.set n (.lst (xs ++ ys))) else none
    | _, _ => none
  | .pop0, .ref n, [] => match h[n]? with
    | some (.lst xs) => match xs[xs.length - 1]? with
      | some y => some (y, h.set n (.lst xs.dropLast))
      | none => none
    | _ => none
  | .reverse, .ref n, [] => match h[n]? with
    | some (.lst xs) => some (.non, h.set n (.lst xs.reverse))
    | _ => none
  | .pop1, .ref n, [.int i] => match h[n]? with
    | some (.lst xs) => if -B63 ≤ i ∧ i < B63 then match seqIndex? i xs.length with
      | some k => match xs[k]? with
        | some y => some (y, h.set n (.lst (xs.eraseIdx k)))
        | none => none
      | none => none else none
    | _ => none
  | .index, .ref n, [d] => match pyD 65 h (.ref n), pyD 65 h d with
    | some (.list ds), some a => if SeqAt.shaped a && SeqAt.shaped (.list ds) then (ds.findIdx? fun z => PyData.eqv z a).map fun j => (.int (j : Nat), h) else none
    | _, _ => none
  | _, _, _ => none
/-- the receiver is of the method's kind -/
def recv (m : MT) (x : D) (h : MH) : Bool := match x with
  | .ref n => (lstAt h n).isSome
  | _ => false
def setIx (o i v : D) (h : MH) : Option MH :=
  match o, i with
  | .ref n, .int k => match h[n]? with
    | some (.lst xs) => (ixN xs.length k).map fun j => h.set n (.lst (xs.set j v))
    | _ => none
  | .ref n, .tup xs => match h[n]? with
    | some (.dic kvs) => if kvs.length < sizeLine then (keyD (.tup xs)).map fun k => h.set n (.dic (setK kvs k v)) else none
    | _ => none
  | _, _ => none

/-! ### what is walked -/
inductive IK where
  | val | rng1 | rng2 | zip
/-- the items, and the lists that must stand as they are meanwhile -/
noncomputable def itemsOf (k : IK) (ds : List D) (h : MH) : Option (List D × List (Nat × List D)) :=
  match k, ds with
  | .val, [.tup xs] => some (xs, [])
  | .val, [.ref n] => (lstAt h n).map fun xs => (xs, [(n, xs)])
  | .rng1, [.int j] => if -B62 ≤ j ∧ j < B62 then some ((List.range j.toNat).map fun (i : Nat) => .int i, []) else none
  | .rng2, [.int i, .int j] => if -B62 ≤ i ∧ i < B62 ∧ -B62 ≤ j ∧ j < B62 then some ((List.range (j - i).toNat).map fun (k : Nat) => .int (i + k), []) else none
  | .zip, [.tup xs, .tup ys] => some ((xs.zip ys).map fun p => .tup [p.1, p.2], [])
  | .zip, [.ref n, .ref m] => match lstAt h n, lstAt h m with
    | some xs, some ys => some ((xs.zip ys).map fun p => .tup [p.1, p.2], [(n, xs), (m, ys)])
    | _, _ => none
  | _, _ => none
def Stand (S : List (Nat × List D)) (h : MH) : Prop := ∀ p ∈ S, lstAt h p.1 = some p.2

inductive TGt where
  | name (i : Nat) | tup (is : List Nat)
def bindT (t : TGt) (d : D) (en : En) : Option En :=
  match t, d with
  | .name i, d => some (en.set i (some d))
  | .tup is, .tup ds => if is.length = ds.length then some ((is.zip ds).foldl (fun e p => e.set p.1 (some p.2)) en) else none
  | _, _ => none
def TGt.slots : TGt → List Nat
  | .name i => [i]
  | .tup is => is
def wipeD (en : En) (is : List Nat) : En := is.foldr (fun i e => e.set i none) en

/-! ### the small syntax -/
inductive ME where
  | omit
  | var (i : Nat) | cst (d : D)
  | tup (es : List ME) | lst (es : List ME)
  | bin (o : B2) (a b : ME) | neg (a : ME) | not (a : ME)
  | cmp (o : C2) (a b : ME) | chain (o1 o2 : C2) (a b c : ME)
  | and (a b : ME) | or (a b : ME) | ite (c a b : ME)
  | ix (a b : ME) | sl (a lo hi : ME) | slS (a lo hi : ME) (st : Int)
  | call (f : Nat) (es : List ME)
  | bi (f : BI) (es : List ME)
  | mt (m : MT) (o : ME) (es : List ME)
  | comp (elt : ME) (tg : TGt) (k : IK) (its : List ME) (cond : ME)
inductive MS where
  | expr (e : ME) | asg (i : Nat) (e : ME) | asgT (is : List Nat) (e : ME) | asgIx (o i e : ME)
  | ifs (c : ME) (a b : List MS) | for_ (tg : TGt) (k : IK) (its : List ME) (body : List MS) | while_ (c : ME) (body : List MS)
  | ret (e : ME) | pass

def PQ (r : PR) (Q : QV) : Prop := match r with
  | some p => Q p.1 p.2
  | none => False
def OQ {α : Type} (r : Option α) (Q : α → Prop) : Prop := match r with
  | some p => Q p
  | none => False
def isOmit : ME → Bool
  | .omit => true
  | _ => false
def asInt : D → Option Int
  | .int i => some i
  | _ => none
def asBl : D → Option Bool
  | .bl b => some b
  | _ => none
/-- a bound that may be left out; a test that may be left out -/
def ifO (om : Bool) (w : QV → QX → Prop) (K : Option Int → MH → Prop) (E : QX) (h : MH) : Prop :=
  if om = true then K none h else w (fun y h2 => OQ (asInt y) fun i => K (some i) h2) E
def ifC (om : Bool) (w : QV → QX → Prop) (K : Bool → MH → Prop) (h : MH) : Prop :=
  if om = true then K true h else w (fun y h2 => OQ (asBl y) fun b => K b h2) (fun _ _ => False)
/-- a for's turns -/
def loopF (S : List (Nat × List D)) (one : D → En → MH → (En → MH → Prop) → Prop) : List D → En → MH → (En → MH → Prop) → Prop
  | [], en, h, nx => Stand S h ∧ nx en h
  | x :: xs, en, h, nx => Stand S h ∧ one x en h fun en2 h2 => loopF S one xs en2 h2 nx
/-- a comprehension's turns -/
def turns (S : List (Nat × List D)) (one : D → MH → (Option D → MH → Prop) → Prop) : List D → List D → MH → (List D → MH → Prop) → Prop
  | [], acc, h, Q => Stand S h ∧ Q acc h
  | x :: xs, acc, h, Q => Stand S h ∧ one x h fun r h' => match r with
    | some y => acc.length < sizeLine ∧ turns S one xs (acc ++ [y]) h' Q
    | none => turns S one xs acc h' Q

section
variable (Φ : Phi)
mutual
@[simp] def wE : ME → En → MH → QV → QX → Prop
  | .omit, _, _, _, _ => False
  | .var i, en, h, Q, _ => OQ (en[i]?.join) fun d => Q d h
  | .cst d, _, h, Q, _ => Q d h
  | .tup es, en, h, Q, E => wEs es en h (fun ds h1 => ds.length ≤ sizeLine ∧ Q (.tup ds) h1) E
  | .lst es, en, h, Q, E => wEs es en h (fun ds h1 => PQ (newL h1 ds) Q) E
  | .bin o a b, en, h, Q, E => wE a en h (fun x h1 => wE b en h1 (fun y h2 => PQ (binop o x y h2) Q) E) E
  | .neg a, en, h, Q, E => wE a en h (fun x h1 => OQ (asInt x) fun i => Q (.int (-i)) h1) E
  | .not a, en, h, Q, E => wE a en h (fun x h1 => OQ (asBl x) fun b => Q (.bl (!b)) h1) E
  | .cmp o a b, en, h, Q, E => wE a en h (fun x h1 => wE b en h1 (fun y h2 => OQ (cmpop o x y h2) fun b => Q (.bl b) h2) E) E
  | .chain o1 o2 a b c, en, h, Q, E => wE a en h (fun x h1 => wE b en h1 (fun y h2 => OQ (cmpop o1 x y h2) fun k => if k = true then wE c en h2 (fun z h3 => OQ (cmpop o2 y z h3) fun b => Q (.bl b) h3) E else Q (.bl false) h2) E) E
  | .and a b, en, h, Q, E => wE a en h (fun x h1 => OQ (asBl x) fun k => if k = true then wE b en h1 Q E else Q (.bl false) h1) E
  | .or a b, en, h, Q, E => wE a en h (fun x h1 => OQ (asBl x) fun k => if k = true then Q (.bl true) h1 else wE b en h1 Q E) E
  | .ite c a b, en, h, Q, E => wE c en h (fun x h1 => OQ (asBl x) fun k => if k = true then wE a en h1 Q E else wE b en h1 Q E) E
  | .ix a b, en, h, Q, E => wE a en h (fun x h1 => wE b en h1 (fun y h2 => OQ (ixop x y h2) fun d => Q d h2) E) E
  | .sl a lo hi, en, h, Q, E => wE a en h (fun x h1 => ifO (isOmit lo) (wE lo en h1) (fun l h2 => ifO (isOmit hi) (wE hi en h2) (fun u h3 => PQ (slop x l u h3) Q) E h2) E h1) E
  | .slS a lo hi st, en, h, Q, E => wE a en h (fun x h1 => ifO (isOmit lo) (wE lo en h1) (fun l h2 => ifO (isOmit hi) (wE hi en h2) (fun u h3 => PQ (slSop x l u st h3) Q) E h2) E h1) E
  | .call f es, en, h, Q, E => wEs es en h (fun ds h1 => Φ f ds h1 Q E) E
  | .bi f es, en, h, Q, E => wEs es en h (fun ds h1 => PQ (biop f ds h1) Q) E
  | .mt m o es, en, h, Q, E => wE o en h (fun x h1 => recv m x h1 = true ∧ wEs es en h1 (fun ds h2 => PQ (mtop m x ds h2) Q) E) E
  | .comp elt tg k its cond, en, h, Q, E => wEs its en h (fun ds h1 => OQ (itemsOf k ds h1) fun p =>
      turns p.2 (fun x h2 Qn => OQ (bindT tg x (wipeD en tg.slots)) fun en2 =>
        ifC (isOmit cond) (wE cond en2 h2) (fun b h3 => if b = true then wE elt en2 h3 (fun y h4 => Qn (some y) h4) (fun _ _ => False) else Qn none h3) h2) p.1 [] h1 fun out h5 => PQ (newL h5 out) Q) E
@[simp] def wEs : List ME → En → MH → (List D → MH → Prop) → QX → Prop
  | [], _, h, Q, _ => Q [] h
  | e :: es, en, h, Q, E => wE e en h (fun x h1 => wEs es en h1 (fun xs h2 => Q (x :: xs) h2) E) E
end
mutual
@[simp] def wS : MS → En → MH → (En → MH → Prop) → QV → QE → Prop
  | .expr e, en, h, nx, _, E => wE Φ e en h (fun _ h1 => nx en h1) fun x h1 => E x en h1
  | .asg i e, en, h, nx, _, E => wE Φ e en h (fun d h1 => nx (en.set i (some d)) h1) fun x h1 => E x en h1
  | .asgT is e, en, h, nx, _, E => wE Φ e en h (fun d h1 => OQ (bindT (.tup is) d en) fun en2 => nx en2 h1) fun x h1 => E x en h1
  | .asgIx o i e, en, h, nx, _, E => wE Φ e en h (fun d h1 => wE Φ o en h1 (fun x h2 => wE Φ i en h2 (fun y h3 => OQ (setIx x y d h3) fun h4 => nx en h4) fun x h1 => E x en h1) fun x h1 => E x en h1) fun x h1 => E x en h1
  | .ifs c a b, en, h, nx, rt, E => wE Φ c en h (fun x h1 => OQ (asBl x) fun k => if k = true then wSs a en h1 nx rt E else wSs b en h1 nx rt E) fun x h1 => E x en h1
  | .for_ tg k its body, en, h, nx, rt, E => wEs Φ its en h (fun ds h1 => OQ (itemsOf k ds h1) fun p =>
      loopF p.2 (fun x en2 h2 nx2 => OQ (bindT tg x en2) fun en3 => wSs body en3 h2 nx2 rt E) p.1 en h1 nx) fun x h1 => E x en h1
  | .while_ c body, en, h, nx, rt, E => ∃ W : Nat → En → MH → Prop, (∃ m, W m en h) ∧ ∀ m en h, W m en h →
      wE Φ c en h (fun x h1 => OQ (asBl x) fun k => if k = true then wSs body en h1 (fun en2 h2 => ∃ m2, m2 < m ∧ W m2 en2 h2) rt E else nx en h1) fun x h1 => E x en h1
  | .ret e, en, h, _, rt, E => wE Φ e en h rt fun x h1 => E x en h1
  | .pass, en, h, nx, _, _ => nx en h
@[simp] def wSs : List MS → En → MH → (En → MH → Prop) → QV → QE → Prop
  | [], en, h, nx, _, _ => nx en h
  | s :: ss, en, h, nx, rt, E => wS s en h (fun en1 h1 => wSs ss en1 h1 nx rt E) rt E
end
end
structure Def where
  np : Nat
  ns : Nat
  body : List MS
/-- a call to so many levels -/
def callN (Pr : Nat → Option Def) : Nat → Phi
  | 0, _, _, _, _, _ => False
  | n + 1, f, ds, h, Q, E => match Pr f with
    | some d => ds.length = d.np ∧ wSs (callN Pr n) d.body (ds.map some ++ List.replicate d.ns none) h (fun _ h2 => Q .non h2) Q fun x _ h2 => E x h2
    | none => False
end Mp
namespace Mp
open PySem PySem.Spec PyProof.Rows L2

/-! ### the own heap and the library's -/
section
variable (K : PySem.W.Frag) (fa : Nat → Option Addr)
/-- a tuple of ours -/
def TupAt (_ : PySem.W.Frag) (H : Hp) (a : Addr) (vs : List V) : Prop := H a = some (.tup vs)
theorem TupAt.sq {H : Hp} {a : Addr} {vs : List V} (x : TupAt K H a vs) : SqT K H a vs := .inl (.inl x)
mutual
inductive RD (ρ : List Addr) (H : Hp) : D → V → Prop
  | non : RD ρ H .non .non
  | bl (b : Bool) : RD ρ H (.bl b) (.bl b)
  | int (i : Int) : RD ρ H (.int i) (.int i)
  | str (x : Str) : RD ρ H (.str x) (.str x)
  | tup {xs : List D} {vs : List V} {a : Addr} : TupAt K H a vs → RDs ρ H xs vs → RD ρ H (.tup xs) (.ref a)
  | ref {n : Nat} {a : Addr} : ρ[n]? = some a → RD ρ H (.ref n) (.ref a)
  | fn {f : Nat} {a : Addr} : fa f = some a → RD ρ H (.fn f) (.ref a)
inductive RDs (ρ : List Addr) (H : Hp) : List D → List V → Prop
  | nil : RDs ρ H [] []
  | cons {x : D} {v : V} {xs : List D} {vs : List V} : RD ρ H x v → RDs ρ H xs vs → RDs ρ H (x :: xs) (v :: vs)
end
def RO (ρ : List Addr) (H : Hp) (a : Addr) : MO → Prop
  | .lst xs => ∃ vs, H a = some (.lst vs) ∧ RDs K fa ρ H xs vs
  | .rol xs => ∃ o vs, H a = some (.frz o (.lst vs)) ∧ RDs K fa ρ H xs vs
  | .dic kvs => ∃ kws : List (List Key × V), H a = some (.dT kws) ∧ kws.map (·.1) = kvs.map (·.1) ∧ RDs K fa ρ H (kvs.map (·.2)) (kws.map (·.2))
  | _ => False
structure RH (ρ : List Addr) (h : MH) (H : Hp) : Prop where
  len : ρ.length = h.length
  nd : ρ.Nodup
  at_ : ∀ (n : Nat) (o : MO) (a : Addr), h[n]? = some o → ρ[n]? = some a → RO K fa ρ H a o
structure REn (ρ : List Addr) (H : Hp) (en : En) (σ : L2.St) : Prop where
  len : en.length = σ.length
  at_ : ∀ (i : Nat) (d : D), en[i]? = some (some d) → ∃ v, σ[i]? = some (some v) ∧ RD K fa ρ H d v
structure Ext (ρ : List Addr) (H : Hp) (ρ2 : List Addr) (H2 : Hp) : Prop where
  pre : ∃ t, ρ2 = ρ ++ t
  tup : ∀ a vs, TupAt K H a vs → TupAt K H2 a vs
  fr : ∀ a o, H a = some o → a ∉ ρ → H2 a = some o
  new : ∀ a, a ∈ ρ2 → a ∉ ρ → H a = none
end
section
variable {K : PySem.W.Frag} {fa : Nat → Option Addr} {ρ ρ1 ρ2 : List Addr} {H H1 H2 : Hp} {h : MH} {a p : Addr} {n : Nat}

theorem Ext.refl : Ext K ρ H ρ H := ⟨⟨[], by simp⟩, fun _ _ x => x, fun _ _ x _ => x, fun a x y => absurd x y⟩
theorem Ext.trans (e : Ext K ρ H ρ1 H1) (f : Ext K ρ1 H1 ρ2 H2) : Ext K ρ H ρ2 H2 := by
  obtain ⟨t, rfl⟩ := e.pre
  obtain ⟨u, rfl⟩ := f.pre
  refine ⟨⟨t ++ u, by rw [List.append_assoc]⟩, fun a vs x => f.tup a vs (e.tup a vs x), fun a o x nx => ?_, fun a x nx => ?_⟩
  · refine f.fr a o (e.fr a o x nx) fun m => ?_
    have := e.new a m nx
    rw [x] at this; cases this
  · by_cases m : a ∈ ρ ++ t
    · exact e.new a m nx
    · have q := f.new a x m
      cases r : H a with
      | none => rfl
      | some o => rw [e.fr a o r nx] at q; cases q
/-- what our data lean on is kept -/
structure Mono (K : PySem.W.Frag) (ρ : List Addr) (H : Hp) (ρ2 : List Addr) (H2 : Hp) : Prop where
  pre : ∃ t, ρ2 = ρ ++ t
  tup : ∀ a vs, TupAt K H a vs → TupAt K H2 a vs
theorem Ext.mo (e : Ext K ρ H ρ2 H2) : Mono K ρ H ρ2 H2 := ⟨e.pre, e.tup⟩
mutual
theorem RD.mono0 (e : Mono K ρ H ρ2 H2) : ∀ (d : D) (v : V), RD K fa ρ H d v → RD K fa ρ2 H2 d v
  | .non, _, x => by cases x; exact .non
  | .bl b, _, x => by cases x; exact .bl b
  | .int i, _, x => by cases x; exact .int i
  | .str s, _, x => by cases x; exact .str s
  | .tup xs, _, x => by
    cases x with
    | tup h1 h2 => exact .tup (e.tup _ _ h1) (RDs.mono0 e xs _ h2)
  | .ref n, _, x => by
    cases x with
    | ref h1 =>
      obtain ⟨t, rfl⟩ := e.pre
      refine .ref ?_
      have : n < ρ.length := (List.getElem?_eq_some_iff.mp h1).1
      rw [List.getElem?_append_left this]; exact h1
  | .fn f, _, x => by cases x with | fn h1 => exact .fn h1
theorem RDs.mono0 (e : Mono K ρ H ρ2 H2) : ∀ (ds : List D) (vs : List V), RDs K fa ρ H ds vs → RDs K fa ρ2 H2 ds vs
  | [], _, x => by cases x; exact .nil
  | d :: ds, _, x => by
    cases x with
    | cons h1 h2 => exact .cons (RD.mono0 e d _ h1) (RDs.mono0 e ds _ h2)
end
theorem RD.mono (e : Ext K ρ H ρ2 H2) (d : D) (v : V) (r : RD K fa ρ H d v) : RD K fa ρ2 H2 d v := RD.mono0 e.mo d v r
theorem RDs.mono (e : Ext K ρ H ρ2 H2) (d : List D) (v : List V) (r : RDs K fa ρ H d v) : RDs K fa ρ2 H2 d v := RDs.mono0 e.mo d v r
theorem REn.mono {en : En} {σ : L2.St} (e : Ext K ρ H ρ2 H2) (r : REn K fa ρ H en σ) : REn K fa ρ2 H2 en σ :=
  ⟨r.len, fun i d x => let ⟨v, h1, h2⟩ := r.at_ i d x; ⟨v, h1, h2.mono e⟩⟩
theorem RDs.length : ∀ {ds : List D} {vs : List V}, RDs K fa ρ H ds vs → ds.length = vs.length
  | _, _, .nil => rfl
  | _, _, .cons _ t => by rw [List.length_cons, List.length_cons, RDs.length t]
theorem RDs.get : ∀ {ds : List D} {vs : List V} {i : Nat} {d : D}, RDs K fa ρ H ds vs → ds[i]? = some d → ∃ v, vs[i]? = some v ∧ RD K fa ρ H d v
  | _, _, _, _, .nil, e => by simp at e
  | _, _, 0, _, .cons r _, e => by simp at e; subst e; exact ⟨_, rfl, r⟩
  | _, _, i + 1, d, .cons _ t, e => by
    obtain ⟨u, h1, h2⟩ := RDs.get (i := i) (d := d) t (by simpa using e)
    exact ⟨u, by simpa using h1, h2⟩
theorem RDs.append : ∀ {xs ys : List D} {us ws : List V}, RDs K fa ρ H xs us → RDs K fa ρ H ys ws → RDs K fa ρ H (xs ++ ys) (us ++ ws)
  | _, _, _, _, .nil, s => s
  | _, _, _, _, .cons r t, s => .cons r (RDs.append t s)
theorem RDs.take : ∀ {xs : List D} {us : List V} (n : Nat), RDs K fa ρ H xs us → RDs K fa ρ H (xs.take n) (us.take n)
  | _, _, 0, _ => .nil
  | _, _, _ + 1, .nil => .nil
  | _, _, n + 1, .cons r t => .cons r (RDs.take n t)
theorem RDs.drop : ∀ {xs : List D} {us : List V} (n : Nat), RDs K fa ρ H xs us → RDs K fa ρ H (xs.drop n) (us.drop n)
  | _, _, 0, r => r
  | _, _, _ + 1, .nil => .nil
  | _, _, n + 1, .cons _ t => RDs.drop n t
theorem RDs.set {x : D} {v : V} (r : RD K fa ρ H x v) : ∀ {xs : List D} {us : List V} (i : Nat), RDs K fa ρ H xs us → RDs K fa ρ H (xs.set i x) (us.set i v)
  | _, _, _, .nil => .nil
  | _, _, 0, .cons _ t => .cons r t
  | _, _, i + 1, .cons q t => .cons q (RDs.set r i t)
theorem RDs.reverse {xs : List D} {us : List V} (r : RDs K fa ρ H xs us) : RDs K fa ρ H xs.reverse us.reverse := by
  induction xs generalizing us with
  | nil => cases r; exact .nil
  | cons x xs ih =>
    cases r with
    | cons r t => rw [List.reverse_cons, List.reverse_cons]; exact (ih t).append (.cons r .nil)
theorem RDs.dropLast {xs : List D} {us : List V} (r : RDs K fa ρ H xs us) : RDs K fa ρ H xs.dropLast us.dropLast := by
  rw [List.dropLast_eq_take, List.dropLast_eq_take, r.length]; exact r.take _

/-- no tuple stands there -/
def NoT (o : Option HO) : Prop := ∀ vs, o ≠ some (.tup vs)
theorem NoT.none : NoT none := fun _ z => by cases z
theorem NoT.lst {xs : List V} : NoT (some (.lst xs)) := fun _ z => by cases z
theorem NoT.dT {xs : List (List Key × V)} : NoT (some (.dT xs)) := fun _ z => by cases z
theorem upd_tup {o : HO} {vs : List V} {b : Addr} (hn : NoT (H p)) (x : TupAt K H b vs) : TupAt K (upd H p o) b vs := by
  have ne : b ≠ p := by
    rintro rfl
    exact hn _ x
  show upd H p o b = _
  rw [upd_ne ne]
  exact x
theorem TupAt.new {vs : List V} : TupAt K (upd H p (.tup vs)) p vs := upd_same
theorem RH.notin (R : RH K fa ρ h H) (hn : H p = none) : p ∉ ρ := by
  intro m
  obtain ⟨n, e⟩ := List.mem_iff_getElem?.mp m
  have hl : n < h.length := by rw [← R.len]; exact (List.getElem?_eq_some_iff.mp e).1
  have r := R.at_ n h[n] p (List.getElem?_eq_getElem hl) e
  cases q : h[n] with
  | lst xs => rw [q] at r; obtain ⟨_, z, _⟩ := r; rw [hn] at z; cases z
  | rol xs => rw [q] at r; obtain ⟨_, _, z, _⟩ := r; rw [hn] at z; cases z
  | dic _ => rw [q] at r; obtain ⟨_, z, _⟩ := r; rw [hn] at z; cases z
  | ins _ _ => rw [q] at r; exact r
/-- a new tuple -/
theorem Ext.newTup {vs : List V} (hn : H p = none) (hp : p ∉ ρ) : Ext K ρ H ρ (upd H p (.tup vs)) :=
  ⟨⟨[], by simp⟩, fun _ _ x => upd_tup (by rw [hn]; exact .none) x, fun b o x _ => by rw [upd_ne (ne_of_none x hn)]; exact x, fun b x y => absurd x y⟩
theorem RO.keep {o : MO} (e : Ext K ρ H ρ2 H2) (same : ∀ u, H a = some u → H2 a = some u) (r : RO K fa ρ H a o) : RO K fa ρ2 H2 a o := by
  cases o with
  | lst xs => obtain ⟨vs, e1, r1⟩ := r; exact ⟨vs, same _ e1, r1.mono e⟩
  | rol xs => obtain ⟨o, vs, e1, r1⟩ := r; exact ⟨o, vs, same _ e1, r1.mono e⟩
  | dic _ => obtain ⟨kws, e1, e2, r1⟩ := r; exact ⟨kws, same _ e1, e2, r1.mono e⟩
  | ins _ _ => exact r
theorem RH.newTup {vs : List V} (R : RH K fa ρ h H) (hn : H p = none) : RH K fa ρ h (upd H p (.tup vs)) :=
  ⟨R.len, R.nd, fun n o b e1 e2 => (R.at_ n o b e1 e2).keep (Ext.newTup hn (R.notin hn)) fun u q => by rw [upd_ne (ne_of_none q hn)]; exact q⟩
/-- a new object that is none of ours -/
theorem Ext.newU {o : HO} (hn : H p = none) : Ext K ρ H ρ (upd H p o) :=
  ⟨⟨[], by simp⟩, fun _ _ x => upd_tup (by rw [hn]; exact .none) x, fun b o x _ => by rw [upd_ne (ne_of_none x hn)]; exact x, fun b x y => absurd x y⟩
theorem RH.newU {o : HO} (R : RH K fa ρ h H) (hn : H p = none) : RH K fa ρ h (upd H p o) :=
  ⟨R.len, R.nd, fun n o b e1 e2 => (R.at_ n o b e1 e2).keep (Ext.newU hn) fun u q => by rw [upd_ne (ne_of_none q hn)]; exact q⟩
/-- a list that is none of ours is changed -/
theorem Mono.updU {xs : List V} {o : HO} (he : H p = some (.lst xs)) : Mono K ρ H ρ (upd H p o) := ⟨⟨[], by simp⟩, fun _ _ x => upd_tup (by rw [he]; exact .lst) x⟩
theorem RO.keep0 {o : MO} (e : Mono K ρ H ρ2 H2) (same : ∀ u, H a = some u → H2 a = some u) (r : RO K fa ρ H a o) : RO K fa ρ2 H2 a o := by
  cases o with
  | lst xs => obtain ⟨vs, e1, r1⟩ := r; exact ⟨vs, same _ e1, r1.mono0 e⟩
  | rol xs => obtain ⟨o, vs, e1, r1⟩ := r; exact ⟨o, vs, same _ e1, r1.mono0 e⟩
  | dic _ => obtain ⟨kws, e1, e2, r1⟩ := r; exact ⟨kws, same _ e1, e2, r1.mono0 e⟩
  | ins _ _ => exact r
theorem RH.updU {xs : List V} {o : HO} (R : RH K fa ρ h H) (he : H p = some (.lst xs)) (hp : p ∉ ρ) : RH K fa ρ h (upd H p o) :=
  ⟨R.len, R.nd, fun n o b e1 e2 => (R.at_ n o b e1 e2).keep0 (Mono.updU he) fun u q => by rw [upd_ne (show b ≠ p from fun z => hp (by rw [← z]; exact List.mem_of_getElem? e2))]; exact q⟩
theorem Ext.updU {xs : List V} {o : HO} (e : Ext K ρ H ρ2 H2) (hn : H p = none) (he : H2 p = some (.lst xs)) : Ext K ρ H ρ2 (upd H2 p o) :=
  ⟨e.pre, fun a vs x => upd_tup (by rw [he]; exact .lst) (e.tup a vs x), fun b o x nb => by rw [upd_ne (ne_of_none x hn)]; exact e.fr b o x nb, e.new⟩
/-- it becomes ours -/
theorem RH.adopt {ds : List D} {vs : List V} (R : RH K fa ρ h H) (he : H p = some (.lst vs)) (hp : p ∉ ρ) (r : RDs K fa ρ H ds vs) : RH K fa (ρ ++ [p]) (h ++ [.lst ds]) H := by
  have e : Mono K ρ H (ρ ++ [p]) H := ⟨⟨[p], rfl⟩, fun _ _ x => x⟩
  refine ⟨by simp [R.len], ?_, fun n o b e1 e2 => ?_⟩
  · rw [List.nodup_append]
    refine ⟨R.nd, by simp, fun a ha b hb => ?_⟩
    have : b = p := by simpa using hb
    subst this
    rintro rfl
    exact hp ha
  · by_cases hl : n < h.length
    · rw [List.getElem?_append_left hl] at e1
      rw [List.getElem?_append_left (by rw [R.len]; exact hl)] at e2
      exact (R.at_ n o b e1 e2).keep0 e fun u q => q
    · have hn' : n = h.length := by
        have := (List.getElem?_eq_some_iff.mp e1).1
        simp at this; omega
      subst hn'
      simp at e1
      rw [← R.len] at e2
      simp at e2
      subst e1; subst e2
      exact ⟨vs, he, r.mono0 e⟩
theorem Ext.adopt (e : Ext K ρ H ρ2 H2) (hn : H p = none) : Ext K ρ H (ρ2 ++ [p]) H2 := by
  obtain ⟨t, rfl⟩ := e.pre
  refine ⟨⟨t ++ [p], by rw [List.append_assoc]⟩, e.tup, e.fr, fun a ha na => ?_⟩
  rcases List.mem_append.mp ha with z | z
  · exact e.new a z na
  · have : a = p := by simpa using z
    rw [this]; exact hn
/-- a new list of ours -/
theorem Ext.newLst {o : HO} (hn : H p = none) : Ext K ρ H (ρ ++ [p]) (upd H p o) :=
  ⟨⟨[p], rfl⟩, fun _ _ x => upd_tup (by rw [hn]; exact .none) x, fun b o x _ => by rw [upd_ne (ne_of_none x hn)]; exact x, fun b x y => by
    rcases List.mem_append.mp x with z | z
    · exact absurd z y
    · have : b = p := by simpa using z
      rw [this]; exact hn⟩
theorem RH.newO {d : MO} {u : HO} (R : RH K fa ρ h H) (hn : H p = none) (r : RO K fa (ρ ++ [p]) (upd H p u) p d) : RH K fa (ρ ++ [p]) (h ++ [d]) (upd H p u) := by
  have e := Ext.newLst (K := K) (ρ := ρ) (o := u) hn
  refine ⟨by simp [R.len], ?_, fun n o b e1 e2 => ?_⟩
  · rw [List.nodup_append]
    refine ⟨R.nd, by simp, fun a ha b hb => ?_⟩
    have : b = p := by simpa using hb
    subst this
    rintro rfl
    exact R.notin hn ha
  · by_cases hl : n < h.length
    · rw [List.getElem?_append_left hl] at e1
      rw [List.getElem?_append_left (by rw [R.len]; exact hl)] at e2
      exact (R.at_ n o b e1 e2).keep e fun u q => by rw [upd_ne (ne_of_none q hn)]; exact q
    · have hn' : n = h.length := by
        have := (List.getElem?_eq_some_iff.mp e1).1
        simp at this; omega
      subst hn'
      simp at e1
      rw [← R.len] at e2
      simp at e2
      subst e1; subst e2
      exact r
theorem RH.newLst {ds : List D} {vs : List V} (R : RH K fa ρ h H) (hn : H p = none) (r : RDs K fa ρ H ds vs) : RH K fa (ρ ++ [p]) (h ++ [.lst ds]) (upd H p (.lst vs)) :=
  R.newO hn ⟨vs, upd_same, r.mono (Ext.newLst hn)⟩
/-- an object of ours is changed -/
theorem Ext.setO {o : HO} (hp : p ∈ ρ) (he : NoT (H p)) : Ext K ρ H ρ (upd H p o) :=
  ⟨⟨[], by simp⟩, fun _ _ x => upd_tup he x, fun b o x nb => by rw [upd_ne (show b ≠ p from fun z => nb (by rw [z]; exact hp))]; exact x, fun b x y => absurd x y⟩
theorem Ext.setLst {xs : List V} {o : HO} (hp : p ∈ ρ) (he : H p = some (.lst xs)) : Ext K ρ H ρ (upd H p o) := Ext.setO hp (by rw [he]; exact .lst)
theorem RO.noT {o : MO} (r : RO K fa ρ H a o) : NoT (H a) := by
  intro vs q
  cases o with
  | lst xs => obtain ⟨ws, e, _⟩ := r; rw [e] at q; cases q
  | rol xs => obtain ⟨ob, ws, e, _⟩ := r; rw [e] at q; cases q
  | dic _ => obtain ⟨ws, e, _⟩ := r; rw [e] at q; cases q
  | ins _ _ => exact r
theorem RH.setO {d d2 : MO} {u : HO} (R : RH K fa ρ h H) (hh : h[n]? = some d) (ha : ρ[n]? = some p) (r : RO K fa ρ (upd H p u) p d2) : RH K fa ρ (h.set n d2) (upd H p u) := by
  have he := (R.at_ n _ p hh ha).noT
  have e := Ext.setO (K := K) (o := u) (List.mem_of_getElem? ha) he
  have hl : n < h.length := (List.getElem?_eq_some_iff.mp hh).1
  refine ⟨by simp [R.len], R.nd, fun m o b e1 e2 => ?_⟩
  by_cases hm : m = n
  · subst hm
    rw [List.getElem?_set_self hl] at e1
    cases e1
    rw [ha] at e2; cases e2
    exact r
  · rw [List.getElem?_set_ne (Ne.symm hm)] at e1
    have ne : b ≠ p := by
      rintro rfl
      obtain ⟨i1, q1⟩ := List.getElem?_eq_some_iff.mp e2
      obtain ⟨i2, q2⟩ := List.getElem?_eq_some_iff.mp ha
      exact hm ((List.getElem_inj R.nd).mp (q1.trans q2.symm))
    exact (R.at_ m o b e1 e2).keep e fun u q => by rw [upd_ne ne]; exact q
theorem RH.setLst {ds ds2 : List D} {vs : List V} (R : RH K fa ρ h H) (hh : h[n]? = some (.lst ds)) (ha : ρ[n]? = some p) (r : RDs K fa ρ H ds2 vs) : RH K fa ρ (h.set n (.lst ds2)) (upd H p (.lst vs)) := by
  obtain ⟨ws, he, _⟩ := R.at_ n _ p hh ha
  exact R.setO hh ha ⟨vs, upd_same, r.mono (Ext.setLst (List.mem_of_getElem? ha) he)⟩
/-- a list of ours is read -/
theorem RH.lst {xs : List D} (R : RH K fa ρ h H) (e : lstAt h n = some xs) (ha : ρ[n]? = some a) : ∃ vs, SqL K H a vs ∧ RDs K fa ρ H xs vs := by
  unfold lstAt at e
  cases q : h[n]? with
  | none => rw [q] at e; cases e
  | some o =>
    rw [q] at e
    have r := R.at_ n o a q ha
    cases o with
    | lst ys =>
      obtain ⟨vs, e1, r1⟩ := r
      have : ys = xs := by simpa [MO.items] using e
      subst this
      exact ⟨vs, .inl (.inl e1), r1⟩
    | rol ys =>
      obtain ⟨o, vs, e1, r1⟩ := r
      have : ys = xs := by simpa [MO.items] using e
      subst this
      exact ⟨vs, .inl (.inr ⟨o, e1⟩), r1⟩
    | dic _ => cases e
    | ins _ _ => exact r.elim

/-! ### as the library's data -/
theorem mapM_some {α β : Type} {f : α → Option β} : ∀ {xs : List α} {ys : List β}, xs.mapM f = some ys → xs = [] ∧ ys = [] ∨ ∃ x r y s, xs = x :: r ∧ ys = y :: s ∧ f x = some y ∧ r.mapM f = some s
  | [], ys, e => by simp at e; exact .inl ⟨rfl, e⟩
  | x :: r, ys, e => by
    rw [List.mapM_cons] at e
    cases q : f x with
    | none => rw [q] at e; cases e
    | some y =>
      rw [q] at e
      cases q2 : r.mapM f with
      | none => rw [q2] at e; cases e
      | some s =>
        rw [q2] at e
        have : y :: s = ys := Option.some.inj e
        exact .inr ⟨x, r, y, s, rfl, this.symm, q, q2⟩
theorem RDs.dp_of {m : Nat} (ih : ∀ (d : D) (v : V) (p : PyData), RD K fa ρ H d v → pyD m h d = some p → Dp K H v p) : ∀ (ds : List D) (vs : List V) (ps : List PyData), RDs K fa ρ H ds vs → ds.mapM (pyD m h) = some ps → DpAll K H vs ps
  | [], _, ps, x, e => by
    cases x
    rcases mapM_some e with ⟨_, rfl⟩ | ⟨_, _, _, _, z, _⟩
    · exact .nil
    · cases z
  | d :: ds, _, ps, x, e => by
    rcases mapM_some e with ⟨z, _⟩ | ⟨d', r, y, s, z, rfl, e1, e2⟩
    · cases z
    · cases z
      cases x with
      | cons h1 h2 => exact .cons (ih _ _ _ h1 e1) (RDs.dp_of ih ds _ s h2 e2)
theorem RD.dp (R : RH K fa ρ h H) : ∀ (m : Nat) (d : D) (v : V) (p : PyData), RD K fa ρ H d v → pyD m h d = some p → Dp K H v p
  | 0, _, _, _, _, e => by cases e
  | m + 1, d, v, p, x, e => by
    unfold pyD at e
    cases x with
    | non => cases e; exact .non
    | bl b => cases e; exact .bl b
    | int i => cases e; exact .int i
    | str s => cases e; exact .str s
    | tup h1 h2 =>
      simp only [Option.map_eq_some_iff] at e
      obtain ⟨ps, e1, rfl⟩ := e
      exact .tup h1.sq (RDs.dp_of (RD.dp R m) _ _ ps h2 e1)
    | @ref n a h1 =>
      simp only at e
      cases q : lstAt h n with
      | none => rw [q] at e; cases e
      | some xs =>
        rw [q] at e
        simp only [Option.map_eq_some_iff] at e
        obtain ⟨ps, e1, rfl⟩ := e
        obtain ⟨vs, s1, s2⟩ := R.lst q h1
        exact .lst s1 (RDs.dp_of (RD.dp R m) _ _ ps s2 e1)
    | fn h1 => cases e
end
end Mp
namespace Mp
open PySem PySem.Spec PyProof.Rows L2

/-! ### readings -/
section
variable (K : PySem.W.Frag) (fa : Nat → Option Addr)
abbrev WE := En → MH → QV → QX → Prop
abbrev WL := En → MH → (List D → MH → Prop) → QX → Prop
/-- what follows a value -/
def Then (ρ : List Addr) (H : Hp) (Q0 : QV) (Q : VK) : Prop := ∀ d h2 v ρ2 H2, Ext K ρ H ρ2 H2 → RH K fa ρ2 h2 H2 → RD K fa ρ2 H2 d v → Q0 d h2 → Q v H2
/-- an exception of ours as it lies: its class, its own dict -/
def RX (xa : Nat → Option (Value × List Str)) (ρ : List Addr) (H : Hp) (x : Exn) (cls : Value) (d : Option Addr) : Prop := ∃ names, xa x.c = some (cls, names) ∧
  ((x.fs = [] ∧ d = none) ∨ ∃ a vs, d = some a ∧ H a = some (.xd (names.zip vs)) ∧ names.length = vs.length ∧ RDs K fa ρ H x.fs vs)
variable (xa : Nat → Option (Value × List Str))
def ThenX (ρ : List Addr) (H : Hp) (E0 : QX) (Wx : Value → Option Addr → Hp → Prop) : Prop := ∀ x h2 cls d ρ2 H2, Ext K ρ H ρ2 H2 → RH K fa ρ2 h2 H2 → RX K fa xa ρ2 H2 x cls d → E0 x h2 → Wx cls d H2
def RE (W : WX) (φ : WE) : TE := fun σ H Q => ∃ ρ en h Q0 E0, RH K fa ρ h H ∧ REn K fa ρ H en σ ∧ φ en h Q0 E0 ∧ Then K fa ρ H Q0 Q ∧ ThenX K fa xa ρ H E0 (fun c d H2 => W c d σ H2)
def RA (W : WX) (φ : WL) : TA := fun σ H Q => ∃ ρ en h Q0 E0, RH K fa ρ h H ∧ REn K fa ρ H en σ ∧ φ en h Q0 E0 ∧
  (∀ ds h2 vs ρ2 H2, Ext K ρ H ρ2 H2 → RH K fa ρ2 h2 H2 → RDs K fa ρ2 H2 ds vs → Q0 ds h2 → Q vs H2) ∧ ThenX K fa xa ρ H E0 (fun c d H2 => W c d σ H2)
end
theorem _root_.L2.PE.wk {X : Cx} {e : Expr} {t t2 : TE} (p : PE X e t) (c : ∀ σ H Q, t2 σ H Q → t σ H Q) : PE X e t2 := ⟨fun pins s σ H Q I q => p.run pins s σ H Q I (c _ _ _ q)⟩
theorem _root_.L2.PT.wk {X : Cx} {e : Expr} {t t2 : TT} (p : PT X e t) (c : ∀ σ H Q, t2 σ H Q → t σ H Q) : PT X e t2 := ⟨fun pins s σ H Q I q => p.run pins s σ H Q I (c _ _ _ q)⟩
theorem _root_.L2.PA.wk {X : Cx} {e : List Expr} {t t2 : TA} (p : PA X e t) (c : ∀ σ H Q, t2 σ H Q → t σ H Q) : PA X e t2 := ⟨fun pos pins s σ H Q I q => p.run pos pins s σ H Q I (c _ _ _ q)⟩
theorem _root_.L2.PS.wk {X : Cx} {e : Stmt} {t t2 : TS} (p : PS X e t) (c : ∀ D σ H, t2 D σ H → t D σ H) : PS X e t2 := ⟨fun pins s σ H D I q => p.run pins s σ H D I (c _ _ _ q)⟩
theorem _root_.L2.PSs.wk {X : Cx} {e : List Stmt} {t t2 : TS} (p : PSs X e t) (c : ∀ D σ H, t2 D σ H → t D σ H) : PSs X e t2 := ⟨fun pins s σ H D I q => p.run pins s σ H D I (c _ _ _ q)⟩

section
variable (K : PySem.W.Frag) (fa : Nat → Option Addr)
def G2 (r : R2) (f : D → D → MH → PR) : Prop := ∀ ρ h H x y v u Q Q0, RH K fa ρ h H → RD K fa ρ H x v → RD K fa ρ H y u → PQ (f x y h) Q0 → Then K fa ρ H Q0 Q → r v u H Q
def G1 (r : V → Hp → VK → Prop) (f : D → MH → PR) : Prop := ∀ ρ h H x v Q Q0, RH K fa ρ h H → RD K fa ρ H x v → PQ (f x h) Q0 → Then K fa ρ H Q0 Q → r v H Q
def GL (r : List V → Hp → VK → Prop) (f : List D → MH → PR) : Prop := ∀ ρ h H xs vs Q Q0, RH K fa ρ h H → RDs K fa ρ H xs vs → PQ (f xs h) Q0 → Then K fa ρ H Q0 Q → r vs H Q
/-- a comparison: the heap stays -/
def GC (r : R2) (f : D → D → MH → Option Bool) : Prop := ∀ ρ h H x y v u Q (Q0 : Bool → Prop), RH K fa ρ h H → RD K fa ρ H x v → RD K fa ρ H y u → OQ (f x y h) Q0 → (∀ b, Q0 b → Q (.bl b) H) → r v u H Q
end

section
variable {K : PySem.W.Frag} {fa : Nat → Option Addr} {ρ : List Addr} {h : MH} {H : Hp} {Q : VK} {Q0 : QV}
theorem Then.ext {ρ1 : List Addr} {H1 : Hp} (e : Ext K ρ H ρ1 H1) (k : Then K fa ρ H Q0 Q) : Then K fa ρ1 H1 Q0 Q := fun d h2 v ρ2 H2 f => k d h2 v ρ2 H2 (e.trans f)
theorem ThenX.ext {xa : Nat → Option (Value × List Str)} {E0 : QX} {Wx : Value → Option Addr → Hp → Prop} {ρ1 : List Addr} {H1 : Hp} (e : Ext K ρ H ρ1 H1) (k : ThenX K fa xa ρ H E0 Wx) : ThenX K fa xa ρ1 H1 E0 Wx :=
  fun x h2 c d ρ2 H2 f => k x h2 c d ρ2 H2 (e.trans f)
theorem Then.here (k : Then K fa ρ H Q0 Q) (R : RH K fa ρ h H) {d : D} {v : V} (r : RD K fa ρ H d v) (q : Q0 d h) : Q v H := k d h v ρ H .refl R r q
/-- a new list is told -/
theorem Then.lst (k : Then K fa ρ H Q0 Q) (R : RH K fa ρ h H) {xs : List D} {vs : List V} (r : RDs K fa ρ H xs vs) (q : PQ (newL h xs) Q0) : vs.length ≤ sizeLine ∧ ∀ p, H p = none → Q (.ref p) (upd H p (.lst vs)) := by
  unfold newL at q
  by_cases hz : xs.length ≤ sizeLine
  · rw [if_pos hz] at q
    refine ⟨by rw [← r.length]; exact hz, fun p hp => ?_⟩
    refine k _ _ _ (ρ ++ [p]) _ (Ext.newLst hp) (R.newLst hp r) (.ref ?_) q
    rw [← R.len]
    simp
  · rw [if_neg hz] at q
    exact False.elim q
/-- a new tuple is told -/
theorem Then.tup (k : Then K fa ρ H Q0 Q) (R : RH K fa ρ h H) {xs : List D} {vs : List V} (r : RDs K fa ρ H xs vs) (q : Q0 (.tup xs) h) : ∀ p, H p = none → Q (.ref p) (upd H p (.tup vs)) := fun p hp =>
  k _ _ _ ρ _ (Ext.newTup hp (R.notin hp)) (R.newTup hp) (.tup (TupAt.new) (r.mono (Ext.newTup hp (R.notin hp)))) q

/-! ### operators -/
def rAddS : R2 := fun x y H Q => ∃ i j, x = .str i ∧ y = .str j ∧ i.length + j.length ≤ sizeLine ∧ Q (.str (i ++ j)) H
def rAddX (K : PySem.W.Frag) : R2 := fun x y H Q => (rI0 fun i j => .int (i + j)) x y H Q ∨ rAddS x y H Q ∨ rCatA K x y H Q ∨ rCat x y H Q
theorem op_addX {X : Cx} : OpR X (binaryOp .Add) (rAddX X.K) := op_add.or (op_add_str.or (op_catA.or op_cat))
theorem g_add : G2 K fa (rAddX K) (binop .add) := by
  intro ρ h H x y v u Q Q0 R rx ry hp k
  cases rx with
  | int i =>
    cases ry with
    | int j => exact .inl ⟨i, j, rfl, rfl, k.here R (.int _) hp⟩
    | _ => exact False.elim hp
  | str a =>
    cases ry with
    | str b =>
      have hp : PQ (if a.length + b.length ≤ sizeLine then some (D.str (a ++ b), h) else none) Q0 := hp
      by_cases hz : a.length + b.length ≤ sizeLine
      · rw [if_pos hz] at hp
        exact .inr (.inl ⟨a, b, rfl, rfl, hz, k.here R (.str _) hp⟩)
      · rw [if_neg hz] at hp
        exact False.elim hp
    | _ => exact False.elim hp
  | @tup xs us a s1 r1 =>
    cases ry with
    | @tup ys ws b s2 r2 =>
      have hp : PQ (if xs.length + ys.length ≤ sizeLine then some (D.tup (xs ++ ys), h) else none) Q0 := hp
      by_cases hz : xs.length + ys.length ≤ sizeLine
      · rw [if_pos hz] at hp
        have hp : Q0 (D.tup (xs ++ ys)) h := hp
        refine .inr (.inr (.inl ⟨a, b, us, ws, rfl, rfl, s1.sq, s2.sq, by rw [← r1.length, ← r2.length]; exact hz, fun e => ?_, fun _ e => ?_, fun _ _ => k.tup R (r1.append r2) hp⟩))
        · subst e
          cases r1
          exact k.here R (.tup s2 r2) hp
        · subst e
          cases r2
          rw [List.append_nil] at hp
          exact k.here R (.tup s1 r1) hp
      · rw [if_neg hz] at hp
        exact False.elim hp
    | _ => exact False.elim hp
  | @ref n a ra =>
    cases ry with
    | @ref m b rb =>
      have hp : PQ (match h[n]?, h[m]? with | some (.lst xs), some (.lst ys) => newL h (xs ++ ys) | _, _ => none) Q0 := hp
      split at hp
      · rename_i xs ys e1 e2
        obtain ⟨us, z1, q1⟩ := R.at_ n _ a e1 ra
        obtain ⟨ws, z2, q2⟩ := R.at_ m _ b e2 rb
        obtain ⟨hz, kk⟩ := k.lst R (q1.append q2) hp
        exact .inr (.inr (.inr ⟨a, b, us, ws, rfl, rfl, z1, z2, by rw [List.length_append] at hz; exact hz, kk⟩))
      · exact False.elim hp
    | _ => exact False.elim hp
  | non => exact False.elim hp
  | bl b => exact False.elim hp
  | fn f => exact False.elim hp

/-- two ints in, an int out -/
theorem g_int {o : B2} {C : Int → Int → Prop} {g : Int → Int → Int} (hi : ∀ i j h Q0, PQ (binop o (.int i) (.int j) h) Q0 → C i j ∧ Q0 (.int (g i j)) h)
    (hn : ∀ x y h Q0, (∀ i j, ¬ (x = .int i ∧ y = .int j)) → PQ (binop o x y h) Q0 → False) : G2 K fa (rI C fun i j => .int (g i j)) (binop o) := by
  intro ρ h H x y v u Q Q0 R rx ry hp k
  have nx : ∀ {P : Prop}, (∀ i j, ¬ (x = .int i ∧ y = .int j)) → P := fun z => (hn x y h Q0 z hp).elim
  cases rx with
  | int i =>
    cases ry with
    | int j => obtain ⟨c, q⟩ := hi i j h Q0 hp; exact ⟨i, j, rfl, rfl, c, k.here R (.int _) q⟩
    | _ => exact nx fun i j z => nomatch z.2
  | _ => exact nx fun i j z => nomatch z.1
theorem ite_PQ {c : Prop} [Decidable c] {r : D × MH} {Q0 : QV} (h : PQ (if c then some r else none) Q0) : c ∧ Q0 r.1 r.2 := by
  by_cases hc : c
  · rw [if_pos hc] at h; exact ⟨hc, h⟩
  · rw [if_neg hc] at h; exact False.elim h
theorem g_sub : G2 K fa (rI (fun _ _ => True) fun i j => .int (i - j)) (binop .sub) := g_int (fun i j h Q0 q => ⟨trivial, q⟩) fun x y h Q0 n q => by
  cases x <;> cases y <;> first | exact q | exact n _ _ ⟨rfl, rfl⟩
theorem g_mul : G2 K fa (rI CMul fun i j => .int (i * j)) (binop .mul) := g_int (fun i j h Q0 q => have z := ite_PQ q; ⟨show (-(2 ^ 64) < i ∧ i < 2 ^ 64) ∨ (-(2 ^ 64) < j ∧ j < 2 ^ 64) by rw [← B64_eq]; exact z.1, z.2⟩) fun x y h Q0 n q => by
  cases x <;> cases y <;> first | exact q | exact n _ _ ⟨rfl, rfl⟩
theorem g_fdiv : G2 K fa (rI CDiv fun i j => .int (i / j)) (binop .fdiv) := g_int (fun i j h Q0 q => have z := ite_PQ q; ⟨show 0 < j ∧ j < 1073741824 by rw [← B30_eq]; exact z.1, z.2⟩) fun x y h Q0 n q => by
  cases x <;> cases y <;> first | exact q | exact n _ _ ⟨rfl, rfl⟩
theorem g_mod : G2 K fa (rI (fun _ j => 0 < j) fun i j => .int (i % j)) (binop .mod) := g_int (fun i j h Q0 q => ite_PQ q) fun x y h Q0 n q => by
  cases x <;> cases y <;> first | exact q | exact n _ _ ⟨rfl, rfl⟩
theorem g_pow : G2 K fa (rI CPow fun i j => .int (i ^ j.toNat)) (binop .pow) := g_int (fun i j h Q0 q => have z := ite_PQ q; ⟨show 0 ≤ j ∧ j ≤ 1000000 ∧ i.natAbs < 2 ^ 64 by rw [← B20_eq, ← N64_eq]; exact z.1, z.2⟩) fun x y h Q0 n q => by
  cases x <;> cases y <;> first | exact q | exact n _ _ ⟨rfl, rfl⟩
theorem g_shl : G2 K fa (rI CPow fun i j => .int (i * 2 ^ j.toNat)) (binop .shl) := g_int (fun i j h Q0 q => have z := ite_PQ q; ⟨show 0 ≤ j ∧ j ≤ 1000000 ∧ i.natAbs < 2 ^ 64 by rw [← B20_eq, ← N64_eq]; exact z.1, z.2⟩) fun x y h Q0 n q => by
  cases x <;> cases y <;> first | exact q | exact n _ _ ⟨rfl, rfl⟩
theorem g_shr : G2 K fa (rI (fun _ j => 0 ≤ j) fun i j => .int (i / 2 ^ j.toNat)) (binop .shr) := g_int (fun i j h Q0 q => ite_PQ q) fun x y h Q0 n q => by
  cases x <;> cases y <;> first | exact q | exact n _ _ ⟨rfl, rfl⟩
theorem g_band : G2 K fa (rI (fun _ _ => True) fun i j => .int (Builtin.bitAnd i j)) (binop .band) := g_int (fun i j h Q0 q => ⟨trivial, q⟩) fun x y h Q0 n q => by
  cases x <;> cases y <;> first | exact q | exact n _ _ ⟨rfl, rfl⟩
theorem g_bxor : G2 K fa (rI (fun _ _ => True) fun i j => .int (Builtin.bitXor i j)) (binop .bxor) := g_int (fun i j h Q0 q => ⟨trivial, q⟩) fun x y h Q0 n q => by
  cases x <;> cases y <;> first | exact q | exact n _ _ ⟨rfl, rfl⟩
theorem rI_of {X : Cx} {f : Value → Value → Sem Value} {g : Int → Int → V} (p : OpR X f (rI0 g)) : OpR X f (rI (fun _ _ => True) g) := fun pins s σ H x y v u Q I rx ry q =>
  p pins s σ H x y v u Q I rx ry (let ⟨i, j, a, b, _, c⟩ := q; ⟨i, j, a, b, c⟩)
/-- the operators together -/
def opOf : B2 → Operator
  | .add => .Add | .sub => .Sub | .mul => .Mult | .fdiv => .FloorDiv | .mod => .Mod | .pow => .Pow | .shl => .LShift | .shr => .RShift | .band => .BitAnd | .bxor => .BitXor
theorem op_all {X : Cx} (o : B2) : ∃ r, OpR X (binaryOp (opOf o)) r ∧ G2 X.K fa r (binop o) := by
  cases o with
  | add => exact ⟨_, op_addX, g_add⟩
  | sub => exact ⟨_, rI_of op_sub, g_sub⟩
  | mul => exact ⟨_, op_mul, g_mul⟩
  | fdiv => exact ⟨_, op_fdiv, g_fdiv⟩
  | mod => exact ⟨_, op_mod, g_mod⟩
  | pow => exact ⟨_, op_pow, g_pow⟩
  | shl => exact ⟨_, op_shl, g_shl⟩
  | shr => exact ⟨_, op_shr, g_shr⟩
  | band => exact ⟨_, rI_of op_and, g_band⟩
  | bxor => exact ⟨_, rI_of op_xor, g_bxor⟩

/-! ### comparisons -/
theorem OQ_some {α : Type} {o : Option α} {Q : α → Prop} (h : OQ o Q) : ∃ a, o = some a ∧ Q a := by
  cases o with
  | none => exact False.elim h
  | some a => exact ⟨a, rfl, h⟩
theorem eqD_some {x y : D} {b : Bool} (e : eqD h x y = some b) : ∃ p q, pyD 65 h x = some p ∧ pyD 65 h y = some q ∧ SeqAt.shaped p = true ∧ SeqAt.shaped q = true ∧ b = PyData.eqv p q := by
  unfold eqD at e
  split at e
  · rename_i p q e1 e2
    split at e
    · rename_i c
      rw [Bool.and_eq_true] at c
      exact ⟨p, q, e1, e2, c.1, c.2, (Option.some.inj e).symm⟩
    · cases e
  · cases e
theorem g_eq : GC K fa (rEqD K) (cmpop .eq) := by
  intro ρ h H x y v u Q Q0 R rx ry hp k
  obtain ⟨b, e, q⟩ := OQ_some hp
  obtain ⟨p1, p2, e1, e2, s1, s2, rfl⟩ := eqD_some (show eqD h x y = some b from e)
  exact ⟨p1, p2, rx.dp R _ _ _ _ e1, ry.dp R _ _ _ _ e2, s1, s2, k _ q⟩
theorem g_ne : GC K fa (rNeD K) (cmpop .ne) := by
  intro ρ h H x y v u Q Q0 R rx ry hp k
  obtain ⟨b, e, q⟩ := OQ_some hp
  have e : (eqD h x y).map (!·) = some b := e
  obtain ⟨c, e3, rfl⟩ := Option.map_eq_some_iff.mp e
  obtain ⟨p1, p2, e1, e2, s1, s2, rfl⟩ := eqD_some e3
  exact ⟨p1, p2, rx.dp R _ _ _ _ e1, ry.dp R _ _ _ _ e2, s1, s2, k _ q⟩
def rIs (neg : Bool) : R2 := fun x y H Q => y = .non ∧ Q (.bl (if neg then !decide (x = .non) else decide (x = .non))) H
theorem RD.non_iff {d : D} {v : V} (r : RD K fa ρ H d v) : (v = .non) ↔ d = .non := by
  cases r <;> simp
theorem g_is : GC K fa (fun x y H Q => y = .non ∧ Q (.bl (decide (x = .non))) H) (cmpop .isN) := by
  intro ρ h H x y v u Q Q0 R rx ry hp k
  obtain ⟨b, e, q⟩ := OQ_some hp
  cases y with
  | non =>
    cases ry
    refine ⟨rfl, ?_⟩
    cases rx <;> (cases e; exact k _ q)
  | _ => cases x <;> cases e
theorem g_isn : GC K fa (fun x y H Q => y = .non ∧ Q (.bl (!decide (x = .non))) H) (cmpop .notN) := by
  intro ρ h H x y v u Q Q0 R rx ry hp k
  obtain ⟨b, e, q⟩ := OQ_some hp
  cases y with
  | non =>
    cases ry
    refine ⟨rfl, ?_⟩
    cases rx <;> (cases e; exact k _ q)
  | _ => cases x <;> cases e
theorem RDs.ints : ∀ {ds : List D} {vs : List V} {ns : List Int}, RDs K fa ρ H ds vs → allInts ds = some ns → vs = ns.map V.int
  | [], _, _, .nil, e => by cases e; rfl
  | d :: ds, _, ns, .cons r t, e => by
    cases r with
    | int i =>
      have e : (allInts ds).map (i :: ·) = some ns := e
      obtain ⟨ms, e1, rfl⟩ := Option.map_eq_some_iff.mp e
      rw [RDs.ints t e1]; rfl
    | _ => cases e
theorem RDs.bls : ∀ {ds : List D} {vs : List V} {ns : List Bool}, RDs K fa ρ H ds vs → allBls ds = some ns → vs = ns.map V.bl
  | [], _, _, .nil, e => by cases e; rfl
  | d :: ds, _, ns, .cons r t, e => by
    cases r with
    | bl i =>
      have e : (allBls ds).map (i :: ·) = some ns := e
      obtain ⟨ms, e1, rfl⟩ := Option.map_eq_some_iff.mp e
      rw [RDs.bls t e1]; rfl
    | _ => cases e
def rLtX (K : PySem.W.Frag) : R2 := fun x y H Q => (rI0 fun i j => .bl (decide (i < j))) x y H Q ∨ rLtT K x y H Q
theorem g_lt : GC K fa (rLtX K) (cmpop .lt) := by
  intro ρ h H x y v u Q Q0 R rx ry hp k
  obtain ⟨b, e, q⟩ := OQ_some hp
  cases rx with
  | int i =>
    cases ry with
    | int j => cases e; exact .inl ⟨i, j, rfl, rfl, k _ q⟩
    | _ => cases e
  | @tup xs us a s1 r1 =>
    cases ry with
    | @tup ys ws b' s2 r2 =>
      have e : (match allInts xs, allInts ys with | some ns, some ms => some (HT.lexLt ns ms) | _, _ => none) = some b := e
      split at e
      · rename_i ns ms e1 e2
        cases e
        have z1 := r1.ints e1
        have z2 := r2.ints e2
        subst z1 z2
        exact .inr ⟨a, b', ns, ms, rfl, rfl, s1.sq, s2.sq, k _ q⟩
      · cases e
    | _ => cases e
  | _ => cases y <;> cases e
theorem g_cmpI {o : C2} {p : Int → Int → Bool} (hi : ∀ i j h, cmpop o (.int i) (.int j) h = some (p i j)) (hn : ∀ x y h, (∀ i j, ¬ (x = .int i ∧ y = .int j)) → cmpop o x y h = none) : GC K fa (rI0 fun i j => .bl (p i j)) (cmpop o) := by
  intro ρ h H x y v u Q Q0 R rx ry hp k
  obtain ⟨b, e, q⟩ := OQ_some hp
  have nx : ∀ {P : Prop}, (∀ i j, ¬ (x = .int i ∧ y = .int j)) → P := fun z => by rw [hn x y h z] at e; cases e
  cases rx with
  | int i =>
    cases ry with
    | int j => rw [hi] at e; cases e; exact ⟨i, j, rfl, rfl, k _ q⟩
    | _ => exact nx fun i j z => nomatch z.2
  | _ => exact nx fun i j z => nomatch z.1
theorem g_le : GC K fa (rI0 fun i j => .bl (decide (i ≤ j))) (cmpop .le) := g_cmpI (fun _ _ _ => rfl) fun x y h n => by
  cases x <;> cases y <;> first | rfl | exact absurd ⟨rfl, rfl⟩ (n _ _)
theorem g_gt : GC K fa (rI0 fun i j => .bl (decide (j < i))) (cmpop .gt) := g_cmpI (fun _ _ _ => rfl) fun x y h n => by
  cases x <;> cases y <;> first | rfl | exact absurd ⟨rfl, rfl⟩ (n _ _)
theorem g_ge : GC K fa (rI0 fun i j => .bl (decide (j ≤ i))) (cmpop .ge) := g_cmpI (fun _ _ _ => rfl) fun x y h n => by
  cases x <;> cases y <;> first | rfl | exact absurd ⟨rfl, rfl⟩ (n _ _)

/-- in a list, a tuple -/
def rInX (K : PySem.W.Frag) : R2 := fun x y H Q => ∃ d ds, Dp K H x d ∧ ((Dp K H y (.list ds) ∧ SeqAt.shaped (.list ds) = true) ∨ (Dp K H y (.tuple ds) ∧ SeqAt.shaped (.tuple ds) = true)) ∧ SeqAt.shaped d = true ∧ Q (.bl (ds.any fun z => PyData.eqv z d)) H
def rNiX (K : PySem.W.Frag) : R2 := fun x y H Q => ∃ d ds, Dp K H x d ∧ ((Dp K H y (.list ds) ∧ SeqAt.shaped (.list ds) = true) ∨ (Dp K H y (.tuple ds) ∧ SeqAt.shaped (.tuple ds) = true)) ∧ SeqAt.shaped d = true ∧ Q (.bl (!ds.any fun z => PyData.eqv z d)) H
theorem room_in {X : Cx} {d : PyData} (n : Nat) (s : SeqAt.shaped d = true) (hu : X.A.units + 65 < cLine) : X.A.units + 1 + min n d.depth < cLine := by
  have h1 := SeqAt.depth_of_shaped s
  have h2 : min n d.depth ≤ d.depth := Nat.min_le_right _ _
  omega
theorem op_inX {X : Cx} (hu : X.A.units + 65 < cLine) : OpR X (compareOp .In) (rInX X.K) := by
  intro pins s σ H x y v u Q I rx ry h
  obtain ⟨d, ds, hd, he | he, sd, q⟩ := h
  · exact op_inD hu pins s σ H x y v u Q I rx ry ⟨d, ds, hd, he.1, sd, he.2, q⟩
  · obtain ⟨as, r1⟩ := Dp.reads I d x v hd rx
    obtain ⟨bs, r2⟩ := Dp.reads I (.tuple ds) y u he.1 ry
    exact SeqAt.in_tuple_reads r2 r1 (SeqAt.canLay_of_shaped he.2) (SeqAt.canLay_of_shaped sd) (room_in _ sd hu) ⟨.bl _, H, I, rfl, q⟩
theorem op_niX {X : Cx} (hu : X.A.units + 65 < cLine) : OpR X (compareOp .NotIn) (rNiX X.K) := by
  intro pins s σ H x y v u Q I rx ry h
  obtain ⟨d, ds, hd, he | he, sd, q⟩ := h
  · exact op_notInD hu pins s σ H x y v u Q I rx ry ⟨d, ds, hd, he.1, sd, he.2, q⟩
  · obtain ⟨as, r1⟩ := Dp.reads I d x v hd rx
    obtain ⟨bs, r2⟩ := Dp.reads I (.tuple ds) y u he.1 ry
    exact SeqAt.notIn_tuple_reads r2 r1 (SeqAt.canLay_of_shaped he.2) (SeqAt.canLay_of_shaped sd) (room_in _ sd hu) ⟨.bl _, H, I, rfl, q⟩
theorem inD_some {x y : D} {b : Bool} (e : inD h x y = some b) : ∃ d ds p, pyD 65 h x = some d ∧ pyD 65 h y = some p ∧ (p = .list ds ∨ p = .tuple ds) ∧ SeqAt.shaped d = true ∧ SeqAt.shaped p = true ∧ b = ds.any fun z => PyData.eqv z d := by
  unfold inD at e
  split at e
  · rename_i a _ e1
    split at e
    · rename_i ds e2
      split at e
      · rename_i c
        rw [Bool.and_eq_true] at c
        exact ⟨a, ds, _, e1, e2, .inr rfl, c.1, c.2, (Option.some.inj e).symm⟩
      · cases e
    · cases e
  · rename_i a _ e1
    split at e
    · rename_i ds e2
      split at e
      · rename_i c
        rw [Bool.and_eq_true] at c
        exact ⟨a, ds, _, e1, e2, .inl rfl, c.1, c.2, (Option.some.inj e).symm⟩
      · cases e
    · cases e
  · cases e
/-! ### dicts whose keys are tuples -/
theorem keys_of : ∀ {xs : List D} {vs : List V} {k : List Key}, RDs K fa ρ H xs vs → xs.mapM keyOf1 = some k → vs = k.map kV
  | [], _, k, r, e => by
    cases r
    have : k = [] := by simpa using e.symm
    subst this
    rfl
  | x :: xs, _, k, r, e => by
    cases r with
    | cons r1 r2 =>
      rw [List.mapM_cons] at e
      cases q : keyOf1 x with
      | none => rw [q] at e; cases e
      | some y =>
        rw [q] at e
        cases q2 : xs.mapM keyOf1 with
        | none => rw [q2] at e; cases e
        | some ys =>
          rw [q2] at e
          have : k = y :: ys := (Option.some.inj e).symm
          subst this
          rw [keys_of r2 q2]
          cases r1 with
          | int i => cases q; rfl
          | str i => cases q; rfl
          | _ => cases q
theorem key_of {x : D} {v : V} {k : List Key} (r : RD K fa ρ H x v) (e : keyD x = some k) : ∃ b, v = .ref b ∧ H b = some (.tup (k.map kV)) := by
  cases r with
  | @tup xs vs a s1 r1 =>
    have := keys_of r1 (show xs.mapM keyOf1 = some k from e)
    subst this
    exact ⟨a, rfl, s1⟩
  | _ => cases e
theorem val_rel : ∀ {kvs : List (List Key × D)} {kws : List (List Key × V)} (k : List Key), kws.map (·.1) = kvs.map (·.1) → RDs K fa ρ H (kvs.map (·.2)) (kws.map (·.2)) →
    (getK kvs k = none ∧ valV kws k = none) ∨ ∃ d v, getK kvs k = some d ∧ valV kws k = some v ∧ RD K fa ρ H d v
  | [], [], k, _, _ => .inl ⟨rfl, rfl⟩
  | [], _ :: _, k, e, _ => by cases e
  | _ :: _, [], k, e, _ => by cases e
  | p :: kvs, q :: kws, k, e, r => by
    obtain ⟨e1, e2⟩ := List.cons.inj e
    cases r with
    | cons r1 r2 =>
      by_cases h : p.1 = k
      · refine .inr ⟨p.2, q.2, ?_, valV_pos (e1.trans h), r1⟩
        unfold getK
        rw [if_pos h]
      · have h' : ¬ q.1 = k := fun z => h (e1.symm.trans z)
        rw [valV_neg h']
        have : getK (p :: kvs) k = getK kvs k := by
          show (if p.1 = k then _ else _) = _
          rw [if_neg h]
        rw [this]
        exact val_rel k e2 r2
theorem val_dec {kvs : List (List Key × D)} {kws : List (List Key × V)} (k : List Key) (e : kws.map (·.1) = kvs.map (·.1)) (r : RDs K fa ρ H (kvs.map (·.2)) (kws.map (·.2))) : (valV kws k).isSome = (getK kvs k).isSome := by
  rcases val_rel k e r with ⟨a, b⟩ | ⟨d, v, a, b, _⟩ <;> rw [a, b] <;> rfl
theorem any_keys {kws : List (List Key × V)} {k : List Key} : (kws.any fun kv => decide (kv.1 = k)) = true ↔ k ∈ kws.map (·.1) := by
  rw [List.any_eq_true, List.mem_map]
  exact ⟨fun ⟨x, h1, h2⟩ => ⟨x, h1, of_decide_eq_true h2⟩, fun ⟨x, h1, h2⟩ => ⟨x, h1, decide_eq_true h2⟩⟩
theorem put_pos : ∀ {kvs : List (List Key × D)} {kws : List (List Key × V)} {k : List Key} {d : D} {v : V}, kws.map (·.1) = kvs.map (·.1) → RDs K fa ρ H (kvs.map (·.2)) (kws.map (·.2)) → (kws.map (·.1)).Nodup → RD K fa ρ H d v → k ∈ kws.map (·.1) →
    (kws.map fun kv => if kv.1 = k then (kv.1, v) else kv).map (·.1) = (setK kvs k d).map (·.1) ∧ RDs K fa ρ H ((setK kvs k d).map (·.2)) ((kws.map fun kv => if kv.1 = k then (kv.1, v) else kv).map (·.2))
  | [], [], k, d, v, _, _, _, rd, hk => by cases hk
  | [], _ :: _, k, _, _, e, _, _, _, _ => by cases e
  | _ :: _, [], k, _, _, e, _, _, _, _ => by cases e
  | p :: kvs, q :: kws, k, d, v, e, r, nd, rd, hk => by
    obtain ⟨e1, e2⟩ := List.cons.inj e
    have e1 : q.1 = p.1 := e1
    cases r with
    | cons r1 r2 =>
      have nd : (q.1 :: kws.map (·.1)).Nodup := nd
      obtain ⟨n1, n2⟩ := List.nodup_cons.mp nd
      by_cases h : p.1 = k
      · have h' : q.1 = k := e1.trans h
        have hs : setK (p :: kvs) k d = (p.1, d) :: kvs := by
          show (if p.1 = k then _ else _) = _
          rw [if_pos h]
        have rest : (kws.map fun kv => if kv.1 = k then (kv.1, v) else kv) = kws := by
          refine (List.map_congr_left fun z hz => ?_).trans (List.map_id' kws)
          rw [if_neg fun e3 => n1 (by rw [h', ← e3]; exact List.mem_map_of_mem hz)]
        rw [hs, List.map_cons, rest, if_pos h']
        exact ⟨by simp [e1, e2], .cons rd r2⟩
      · have h' : ¬ q.1 = k := fun z => h (e1.symm.trans z)
        have hs : setK (p :: kvs) k d = p :: setK kvs k d := by
          show (if p.1 = k then _ else _) = _
          rw [if_neg h]
        have hk' : k ∈ kws.map (·.1) := by
          rcases List.mem_cons.mp (show k ∈ q.1 :: kws.map (·.1) from hk) with z | z
          · exact absurd z.symm h'
          · exact z
        obtain ⟨i1, i2⟩ := put_pos (d := d) (v := v) e2 r2 n2 rd hk'
        rw [hs, List.map_cons, if_neg h']
        refine ⟨?_, .cons r1 i2⟩
        rw [List.map_cons, List.map_cons, i1, e1]
theorem put_neg : ∀ {kvs : List (List Key × D)} {kws : List (List Key × V)} {k : List Key} {d : D} {v : V}, kws.map (·.1) = kvs.map (·.1) → RDs K fa ρ H (kvs.map (·.2)) (kws.map (·.2)) → RD K fa ρ H d v → k ∉ kws.map (·.1) →
    (kws ++ [(k, v)]).map (·.1) = (setK kvs k d).map (·.1) ∧ RDs K fa ρ H ((setK kvs k d).map (·.2)) ((kws ++ [(k, v)]).map (·.2))
  | [], [], k, d, v, _, _, rd, hk => ⟨rfl, .cons rd .nil⟩
  | [], _ :: _, k, _, _, e, _, _, _ => by cases e
  | _ :: _, [], k, _, _, e, _, _, _ => by cases e
  | p :: kvs, q :: kws, k, d, v, e, r, rd, hk => by
    obtain ⟨e1, e2⟩ := List.cons.inj e
    have e1 : q.1 = p.1 := e1
    cases r with
    | cons r1 r2 =>
      have h : ¬ p.1 = k := fun z => hk (by show k ∈ q.1 :: kws.map (·.1); rw [e1, z]; exact List.mem_cons_self)
      have hs : setK (p :: kvs) k d = p :: setK kvs k d := by
        show (if p.1 = k then _ else _) = _
        rw [if_neg h]
      obtain ⟨i1, i2⟩ := put_neg (d := d) (v := v) e2 r2 rd fun z => hk (List.mem_cons_of_mem _ z)
      rw [hs]
      refine ⟨?_, .cons r1 i2⟩
      show q.1 :: (kws ++ [(k, v)]).map (·.1) = p.1 :: (setK kvs k d).map (·.1)
      rw [i1, e1]
def rInDc : R2 := fun x y H Q => ∃ a o, y = .ref a ∧ DGet H a x o ∧ Q (.bl o.isSome) H
def rNiDc : R2 := fun x y H Q => ∃ a o, y = .ref a ∧ DGet H a x o ∧ Q (.bl (!o.isSome)) H
theorem op_inDc {X : Cx} (hu : X.A.units + 1 < cLine) : OpR X (compareOp .In) rInDc := by
  intro pins s σ H x y v u Q I rx ry h
  obtain ⟨a, o, rfl, g, q⟩ := h
  cases (show u = Value.ref a from ry)
  exact d_in hu I g rx fun s' I' => ⟨.bl o.isSome, H, I', rfl, q⟩
theorem op_niDc {X : Cx} (hu : X.A.units + 1 < cLine) : OpR X (compareOp .NotIn) rNiDc := by
  intro pins s σ H x y v u Q I rx ry h
  obtain ⟨a, o, rfl, g, q⟩ := h
  cases (show u = Value.ref a from ry)
  exact d_notIn hu I g rx fun s' I' => ⟨.bl (!o.isSome), H, I', rfl, q⟩
theorem inX_cases {x y : D} {b : Bool} (e : inX h x y = some b) : inD h x y = some b ∨ ∃ n kvs k, y = .ref n ∧ h[n]? = some (.dic kvs) ∧ keyD x = some k ∧ b = (getK kvs k).isSome := by
  unfold inX at e
  split at e
  · rename_i n
    split at e
    · rename_i kvs e1
      obtain ⟨k, e2, rfl⟩ := Option.map_eq_some_iff.mp e
      exact .inr ⟨n, kvs, k, rfl, e1, e2, rfl⟩
    · exact .inl e
  · exact .inl e
theorem dget_of {x : D} {v : V} {n : Nat} {a : Addr} {kvs : List (List Key × D)} {k : List Key} (R : RH K fa ρ h H) (r : RD K fa ρ H x v) (ra : ρ[n]? = some a) (e1 : h[n]? = some (.dic kvs)) (e2 : keyD x = some k) :
    ∃ kws b, v = .ref b ∧ H a = some (.dT kws) ∧ H b = some (.tup (k.map kV)) ∧ kws.map (·.1) = kvs.map (·.1) ∧ RDs K fa ρ H (kvs.map (·.2)) (kws.map (·.2)) ∧ DGet H a v (valV kws k) := by
  obtain ⟨b, rfl, eb⟩ := key_of r e2
  obtain ⟨kws, h1, h2, h3⟩ := R.at_ n _ a e1 ra
  exact ⟨kws, b, rfl, h1, eb, h2, h3, .t h1 eb⟩
theorem g_in : GC K fa (fun x y H Q => rInX K x y H Q ∨ rInDc x y H Q) (cmpop .inn) := by
  intro ρ h H x y v u Q Q0 R rx ry hp k
  obtain ⟨b, e, q⟩ := OQ_some hp
  rcases inX_cases (show inX h x y = some b from e) with e | ⟨n, kvs, kk, rfl, e1, e2, rfl⟩
  · obtain ⟨d, ds, p, e1, e2, z, s1, s2, rfl⟩ := inD_some e
    refine .inl ⟨d, ds, rx.dp R _ _ _ _ e1, ?_, s1, k _ q⟩
    rcases z with rfl | rfl
    · exact .inl ⟨ry.dp R _ _ _ _ e2, s2⟩
    · exact .inr ⟨ry.dp R _ _ _ _ e2, s2⟩
  · cases ry with
    | @ref n a ra =>
      obtain ⟨kws, b, _, _, _, h2, h3, g⟩ := dget_of R rx ra e1 e2
      exact .inr ⟨a, _, rfl, g, by rw [val_dec kk h2 h3]; exact k _ q⟩
theorem g_nin : GC K fa (fun x y H Q => rNiX K x y H Q ∨ rNiDc x y H Q) (cmpop .nin) := by
  intro ρ h H x y v u Q Q0 R rx ry hp k
  obtain ⟨b, e, q⟩ := OQ_some hp
  have e : (inX h x y).map (!·) = some b := e
  obtain ⟨c, e3, rfl⟩ := Option.map_eq_some_iff.mp e
  rcases inX_cases e3 with e | ⟨n, kvs, kk, rfl, e1, e2, rfl⟩
  · obtain ⟨d, ds, p, e1, e2, z, s1, s2, rfl⟩ := inD_some e
    refine .inl ⟨d, ds, rx.dp R _ _ _ _ e1, ?_, s1, k _ q⟩
    rcases z with rfl | rfl
    · exact .inl ⟨ry.dp R _ _ _ _ e2, s2⟩
    · exact .inr ⟨ry.dp R _ _ _ _ e2, s2⟩
  · cases ry with
    | @ref n a ra =>
      obtain ⟨kws, b, _, _, _, h2, h3, g⟩ := dget_of R rx ra e1 e2
      exact .inr ⟨a, _, rfl, g, by rw [val_dec kk h2 h3]; exact k _ q⟩
def cmpOf : C2 → CmpOp
  | .eq => .Eq | .ne => .NotEq | .lt => .Lt | .le => .LtE | .gt => .Gt | .ge => .GtE | .isN => .Is | .notN => .IsNot | .inn => .In | .nin => .NotIn
theorem cmp_all {X : Cx} (hu : X.A.units + 66 < cLine) (o : C2) : ∃ r, OpR X (compareOp (cmpOf o)) r ∧ GC X.K fa r (cmpop o) := by
  cases o with
  | eq => exact ⟨_, op_eqD (by omega), g_eq⟩
  | ne => exact ⟨_, op_neD (by omega), g_ne⟩
  | lt => exact ⟨_, op_lt.or (op_ltT (by omega)), g_lt⟩
  | le => exact ⟨_, op_le, g_le⟩
  | gt => exact ⟨_, op_gt, g_gt⟩
  | ge => exact ⟨_, op_ge, g_ge⟩
  | isN => exact ⟨_, op_isN, g_is⟩
  | notN => exact ⟨_, op_notN, g_isn⟩
  | inn => exact ⟨_, (op_inX (by omega)).or (op_inDc (by omega)), g_in⟩
  | nin => exact ⟨_, (op_niX (by omega)).or (op_niDc (by omega)), g_nin⟩

/-! ### places, slices -/
theorem RDs.atI {xs : List D} {vs : List V} {i : Int} {d : D} (r : RDs K fa ρ H xs vs) (e : L2.atI xs i = some d) : ∃ v, L2.atI vs i = some v ∧ RD K fa ρ H d v := by
  unfold L2.atI at e ⊢
  rw [← r.length]
  cases q : ixN xs.length i with
  | none => rw [q] at e; cases e
  | some j =>
    rw [q] at e
    exact r.get e
def rIxDc : R2 := fun x y H Q => ∃ a v, x = .ref a ∧ DGet H a y (some v) ∧ Q v H
theorem ix_dc {X : Cx} (hu : X.A.units + 1 < cLine) : IxR X rIxDc := by
  intro value slice pins s σ H x y v u Q I rx ry h hs
  obtain ⟨a, r, rfl, g, q⟩ := h
  obtain rfl : v = Value.ref a := rx
  exact tail_any (dict_typeIs I g) PySem.F.slot_dict_getitem.lookup (d_getItem hu I g ry fun w' s' I' rw' => ⟨r, H, I', rw', q⟩) hs
def rIxX (K : PySem.W.Frag) : R2 := fun x y H Q => rIxL K x y H Q ∨ rIxT K x y H Q ∨ rIxDc x y H Q
theorem g_ix {x y : D} {v u : V} {Q1 : D → Prop} (R : RH K fa ρ h H) (rx : RD K fa ρ H x v) (ry : RD K fa ρ H y u) (hp : OQ (ixop x y h) Q1) (k : ∀ d w, RD K fa ρ H d w → Q1 d → Q w H) : rIxX K v u H Q := by
  obtain ⟨d, e, q⟩ := OQ_some hp
  cases rx with
  | @tup xs us a s1 r1 =>
    cases ry with
    | int i =>
      obtain ⟨w, e2, rw_⟩ := r1.atI (show L2.atI xs i = some d from e)
      exact .inr (.inl ⟨a, us, i, w, rfl, rfl, s1.sq, e2, k d w rw_ q⟩)
    | _ => cases e
  | @ref n a ra =>
    cases ry with
    | int i =>
      have e : ((lstAt h n).bind fun xs => L2.atI xs i) = some d := e
      obtain ⟨xs, e1, e2⟩ := Option.bind_eq_some_iff.mp e
      obtain ⟨us, s1, r1⟩ := R.lst e1 ra
      obtain ⟨w, e3, rw_⟩ := r1.atI e2
      exact .inl ⟨a, us, i, w, rfl, rfl, s1, e3, k d w rw_ q⟩
    | tup t1 t2 =>
      have e : (match h[n]? with | some (.dic kvs) => (keyD (.tup _)).bind fun k => getK kvs k | _ => none) = some d := e
      split at e
      · rename_i kvs e1
        obtain ⟨kk, e2, e3⟩ := Option.bind_eq_some_iff.mp e
        obtain ⟨kws, b, ev, _, _, h2, h3, g⟩ := dget_of R (RD.tup t1 t2) ra e1 e2
        rcases val_rel kk h2 h3 with ⟨z, _⟩ | ⟨d2, v2, z1, z2, rd⟩
        · rw [z] at e3; cases e3
        · rw [z1] at e3
          cases e3
          rw [z2] at g
          exact .inr (.inr ⟨a, v2, rfl, g, k _ _ rd q⟩)
      · cases e
    | _ => cases e
  | _ => cases y <;> cases e
theorem RDs.cut {xs : List D} {vs : List V} (r : RDs K fa ρ H xs vs) (lo hi : Option Int) : RDs K fa ρ H (cutD xs lo hi) (cutV vs lo hi) := by
  unfold cutD cutV
  rw [r.length]
  exact (r.drop _).take _
theorem cutD_whole {xs : List D} {lo hi : Option Int} (h1 : HT.sIx xs.length 0 lo = 0) (h2 : HT.sIx xs.length xs.length hi = xs.length) : cutD xs lo hi = xs := by
  unfold cutD
  rw [h1, h2]
  simp
def rSlX (K : PySem.W.Frag) : V → Option Int → Option Int → Hp → VK → Prop := fun x lo hi H Q => rSlL K x lo hi H Q ∨ rSlA K x lo hi H Q
theorem g_sl {x : D} {v : V} {lo hi : Option Int} (R : RH K fa ρ h H) (rx : RD K fa ρ H x v) (hp : PQ (slop x lo hi h) Q0) (k : Then K fa ρ H Q0 Q) : rSlX K v lo hi H Q := by
  cases rx with
  | @tup xs us a s1 r1 =>
    have hp : Q0 (.tup (cutD xs lo hi)) h := hp
    refine .inr ⟨a, us, rfl, s1.sq, fun z => ?_, fun _ => k.tup R (r1.cut lo hi) hp⟩
    rw [← r1.length] at z
    rw [cutD_whole z.1 z.2] at hp
    exact k.here R (.tup s1 r1) hp
  | @ref n a ra =>
    have hp : PQ ((lstAt h n).bind fun xs => newL h (cutD xs lo hi)) Q0 := hp
    cases e : lstAt h n with
    | none => rw [e] at hp; exact False.elim hp
    | some xs =>
      rw [e] at hp
      obtain ⟨us, s1, r1⟩ := R.lst e ra
      exact .inl ⟨a, us, rfl, s1, (k.lst R (r1.cut lo hi) hp).2⟩
  | _ => exact False.elim hp

/-! ### built-ins -/
def tyOf : TY → String
  | .int => "int" | .bool => "bool" | .str => "str" | .tuple => "tuple"
theorem RD.tyx {d : D} {v : V} {t : TY} {b : Bool} (R : RH K fa ρ h H) (r : RD K fa ρ H d v) (e : isT t d = some b) : ∃ ty, TyX K H v ty ∧ PySem.W.kitOne K ty (.type (tyOf t)) = some b := by
  cases r with
  | non => exact ⟨_, .base .non, by cases t <;> (cases e; exact kit_ty (by decide +kernel))⟩
  | bl x => exact ⟨_, .base (.bl x), by cases t <;> (cases e; exact kit_ty (by decide +kernel))⟩
  | int i => exact ⟨_, .base (.int i), by cases t <;> (cases e; exact kit_ty (by decide +kernel))⟩
  | str i => exact ⟨_, .base (.str i), by cases t <;> (cases e; exact kit_ty (by decide +kernel))⟩
  | @tup xs vs a s1 r1 =>
    have fin : PySem.W.kitOne K (.type "tuple") (.type (tyOf t)) = some b := by cases t <;> (cases e; exact kit_ty (by decide +kernel))
    exact ⟨_, .base (.tup s1), fin⟩
  | @ref n a ra =>
    have hl : n < h.length := by rw [← R.len]; exact (List.getElem?_eq_some_iff.mp ra).1
    have ro := R.at_ n h[n] a (List.getElem?_eq_getElem hl) ra
    have fin : PySem.W.kitOne K (.type "list") (.type (tyOf t)) = some b := by cases t <;> (cases e; exact kit_ty (by decide +kernel))
    cases q : h[n] with
    | lst xs => rw [q] at ro; obtain ⟨vs, e1, _⟩ := ro; exact ⟨_, .base (.lst e1), fin⟩
    | rol xs => rw [q] at ro; obtain ⟨o, vs, e1, _⟩ := ro; exact ⟨_, .base (.frz e1), fin⟩
    | dic _ => rw [q] at ro; obtain ⟨kws, e1, _⟩ := ro; exact ⟨_, .base (.dT e1), (by cases t <;> (cases e; exact kit_ty (by decide +kernel)))⟩
    | ins _ _ => rw [q] at ro; exact ro.elim
  | fn _ => cases e
end
end Mp
namespace Mp
open PySem PySem.Spec PyProof.Rows L2

/-- an expression by its small form: as a value, as a test, as a part of a test's chain -/
structure SE (X : Cx) (fa : Nat → Option Addr) (xa : Nat → Option (Value × List Str)) (W : WX) (e : Expr) (φ : WE) : Prop where
  pe : PE X e (RE X.K fa xa W φ)
  pt : PT X e (tB (RE X.K fa xa W φ))
  pw : ∀ op vs pos, e = .BoolOp op vs pos → PW X e (tB (RE X.K fa xa W φ))
  ns : ∀ es env, starEach (e :: es) env = (false, eval e env) :: starEach es env
structure SA (X : Cx) (fa : Nat → Option Addr) (xa : Nat → Option (Value × List Str)) (W : WX) (es : List Expr) (φ : WL) : Prop where
  pa : PA X es (RA X.K fa xa W φ)
  pl : ∀ pos env, (backTo pos (starEach es env)).any (·.1) = false

section
variable {X : Cx} {fa : Nat → Option Addr} {xa : Nat → Option (Value × List Str)} {W : WX} {e a b c : Expr} {es : List Expr} {φ φa φb φc : WE} {pos : Pos}

/-- from the value alone, where the test is the value's truth -/
theorem SE.of (p : PE X e (RE X.K fa xa W φ)) (ns : ∀ es env, starEach (e :: es) env = (false, eval e env) :: starEach es env) (nb : ∀ op vs pos, e ≠ .BoolOp op vs pos)
    (he : ∀ whole, isTrue e X.env whole = (do let v ← whole; standAt e.pos; holding [v] (truthy v))) : SE X fa xa W e φ :=
  ⟨p, pt_val p he, fun op vs ps z => absurd z (nb op vs ps), ns⟩

theorem RE.one {σ : L2.St} {H : Hp} {Q : VK} {f : En → D → MH → QV → QX → Prop} {Rk : V → Hp → Prop}
    (w : RE X.K fa xa W (fun en h Q E => φa en h (fun x h1 => f en x h1 Q E) E) σ H Q)
    (fin : ∀ ρ en h H x v Q0 E0, RH X.K fa ρ h H → REn X.K fa ρ H en σ → RD X.K fa ρ H x v → f en x h Q0 E0 → Then X.K fa ρ H Q0 Q → ThenX X.K fa xa ρ H E0 (fun c d H2 => W c d σ H2) → Rk v H) : RE X.K fa xa W φa σ H Rk := by
  obtain ⟨ρ, en, h, Q0, E0, R, N, q, k, kx⟩ := w
  exact ⟨ρ, en, h, _, E0, R, N, q, fun d h2 v ρ2 H2 e R2 r q2 => fin ρ2 en h2 H2 d v Q0 E0 R2 (N.mono e) r q2 (k.ext e) (kx.ext e), kx⟩
theorem RE.two {σ : L2.St} {H : Hp} {Q : VK} {f : D → D → MH → QV → QX → Prop} {Rk : V → V → Hp → Prop}
    (w : RE X.K fa xa W (fun en h Q E => φa en h (fun x h1 => φb en h1 (fun y h2 => f x y h2 Q E) E) E) σ H Q)
    (fin : ∀ ρ en h H x y v u Q0 E0, RH X.K fa ρ h H → REn X.K fa ρ H en σ → RD X.K fa ρ H x v → RD X.K fa ρ H y u → f x y h Q0 E0 → Then X.K fa ρ H Q0 Q → ThenX X.K fa xa ρ H E0 (fun c d H2 => W c d σ H2) → Rk v u H) :
    RE X.K fa xa W φa σ H fun v H1 => RE X.K fa xa W φb σ H1 fun u H2 => Rk v u H2 := by
  obtain ⟨ρ, en, h, Q0, E0, R, N, q, k, kx⟩ := w
  refine ⟨ρ, en, h, _, E0, R, N, q, fun d h2 v ρ2 H2 e R2 r q2 => ?_, kx⟩
  refine ⟨ρ2, en, h2, _, E0, R2, N.mono e, q2, fun d3 h3 u ρ3 H3 e3 R3 r3 q3 => ?_, kx.ext e⟩
  exact fin ρ3 en h3 H3 d d3 v u Q0 E0 R3 (N.mono (e.trans e3)) (r.mono e3) r3 q3 (k.ext (e.trans e3)) (kx.ext (e.trans e3))
/-- where the own heap stays as it is -/
theorem RE.zero {σ : L2.St} {H : Hp} {Q : VK} (w : RE X.K fa xa W φ σ H Q) {P : Prop} (fin : ∀ ρ en h Q0 E0, RH X.K fa ρ h H → REn X.K fa ρ H en σ → φ en h Q0 E0 → Then X.K fa ρ H Q0 Q → P) : P := by
  obtain ⟨ρ, en, h, Q0, E0, R, N, q, k, kx⟩ := w
  exact fin ρ en h Q0 E0 R N q k

/-! ### names, constants -/
theorem se_var {i : Nat} {x : Str} (hN : X.N[i]? = some x) (hv : Vis X.env.scope x) (hd : (x == ("__debug__" : Str)) = false) (hcd : (x == ("__classdict__" : Str)) = false) :
    SE X fa xa W (.Name x pos) fun en h Q _ => OQ (en[i]?.join) fun d => Q d h := by
  refine .of ((pe_var hN hv hd hcd).wk fun σ H Q w => w.zero fun ρ en h Q0 E0 R N q k => ?_) (fun _ _ => rfl) (fun _ _ _ z => nomatch z) fun _ => rfl
  obtain ⟨d, e, q⟩ := OQ_some q
  have e : en[i]? = some (some d) := by
    cases z : en[i]? with
    | none => rw [z] at e; cases e
    | some o => rw [z] at e; cases o with
      | none => cases e
      | some d' => cases e; rfl
  obtain ⟨v, e2, r⟩ := N.at_ i d e
  exact ⟨v, e2, k.here R r q⟩
theorem se_con0 {d : D} {v : V} {x : Str} (p : PE X (.Name x pos) (tC v)) (r : ∀ ρ H, RD X.K fa ρ H d v) : SE X fa xa W (.Name x pos) fun _ h Q _ => Q d h :=
  .of (p.wk fun σ H Q w => w.zero fun ρ en h Q0 E0 R N q k => k.here R (r ρ H) q) (fun _ _ => rfl) (fun _ _ _ z => nomatch z) fun _ => rfl
theorem se_con {d : D} {v : V} {cst : Const} {j : Nat} (p : PE X (.Constant cst j pos) (tC v)) (r : ∀ ρ H, RD X.K fa ρ H d v) : SE X fa xa W (.Constant cst j pos) fun _ h Q _ => Q d h :=
  .of (p.wk fun σ H Q w => w.zero fun ρ en h Q0 E0 R N q k => k.here R (r ρ H) q) (fun _ _ => rfl) (fun _ _ _ z => nomatch z) fun _ => rfl

/-! ### operators -/
theorem se_bin (ha : SE X fa xa W a φa) (hb : SE X fa xa W b φb) (o : B2) : SE X fa xa W (.BinOp a (opOf o) b pos) fun en h Q E => φa en h (fun x h1 => φb en h1 (fun y h2 => PQ (binop o x y h2) Q) E) E := by
  obtain ⟨r, h1, h2⟩ := op_all (X := X) (fa := fa) o
  refine .of ((pe_op h1 ha.pe hb.pe).wk fun σ H Q w => ?_) (fun _ _ => rfl) (fun _ _ _ z => nomatch z) fun _ => rfl
  exact w.two fun ρ en h H x y v u Q0 E0 R N rx ry q k _ => h2 ρ h H x y v u Q Q0 R rx ry q k
theorem se_neg (ha : SE X fa xa W a φa) : SE X fa xa W (.UnaryOp .USub a pos) fun en h Q E => φa en h (fun x h1 => OQ (asInt x) fun i => Q (.int (-i)) h1) E := by
  refine .of ((pe_un un_neg ha.pe).wk fun σ H Q w => ?_) (fun _ _ => rfl) (fun _ _ _ z => nomatch z) fun _ => rfl
  refine w.one (f := fun _ x h1 Q _ => OQ (asInt x) fun i => Q (.int (-i)) h1) fun ρ en h H x v Q0 E0 R N rx q k _ => ?_
  obtain ⟨i, e, q⟩ := OQ_some q
  cases rx with
  | int j => cases e; exact ⟨i, rfl, k.here R (.int _) q⟩
  | _ => cases e
theorem RD.bl_of {ρ : List Addr} {H : Hp} {x : D} {v : V} {k : Bool} (r : RD X.K fa ρ H x v) (e : asBl x = some k) : x = .bl k ∧ v = .bl k := by
  cases r with
  | bl b => cases e; exact ⟨rfl, rfl⟩
  | _ => cases e
theorem se_not (ha : SE X fa xa W a φa) : SE X fa xa W (.UnaryOp .Not a pos) fun en h Q E => φa en h (fun x h1 => OQ (asBl x) fun b => Q (.bl (!b)) h1) E := by
  refine ⟨(pe_not ha.pe).wk fun σ H Q w => ?_, (pt_not ha.pt).wk fun σ H Q w => ?_, (fun _ _ _ z => nomatch z), fun _ _ => rfl⟩
  · refine w.one (f := fun _ x h1 Q _ => OQ (asBl x) fun i => Q (.bl (!i)) h1) fun ρ en h H x v Q0 E0 R N rx q k _ => ?_
    obtain ⟨i, e, q⟩ := OQ_some q
    obtain ⟨rfl, rfl⟩ := rx.bl_of e
    exact ⟨i, rfl, k.here R (.bl _) q⟩
  · refine RE.one (f := fun _ x h1 Q _ => OQ (asBl x) fun i => Q (.bl (!i)) h1) w fun ρ en h H x v Q0 E0 R N rx q k _ => ?_
    obtain ⟨i, e, q⟩ := OQ_some q
    obtain ⟨rfl, rfl⟩ := rx.bl_of e
    obtain ⟨c, e2, q2⟩ := k.here R (.bl _) q
    cases e2
    exact ⟨i, rfl, q2⟩
theorem nomark2 (b : Expr) (op : CmpOp) (h : ∀ es k p, b ≠ .Set es k p) : behindInMarks op b = false := by
  cases b <;> first | rfl | exact absurd rfl (h _ _ _)
theorem se_cmp (hu : X.A.units + 66 < cLine) (ha : SE X fa xa W a φa) (hb : SE X fa xa W b φb) (o : C2) (hm : ∀ es k p, b ≠ .Set es k p) :
    SE X fa xa W (.Compare a [cmpOf o] [b] pos) fun en h Q E => φa en h (fun x h1 => φb en h1 (fun y h2 => OQ (cmpop o x y h2) fun b => Q (.bl b) h2) E) E := by
  obtain ⟨r, h1, h2⟩ := cmp_all (X := X) (fa := fa) hu o
  have core : ∀ σ H Q, RE X.K fa xa W (fun en h Q E => φa en h (fun x h1 => φb en h1 (fun y h2 => OQ (cmpop o x y h2) fun b => Q (.bl b) h2) E) E) σ H Q → tOp r (RE X.K fa xa W φa) (RE X.K fa xa W φb) σ H Q := fun σ H Q w =>
    w.two (f := fun x y h2 Q _ => OQ (cmpop o x y h2) fun b => Q (.bl b) h2) fun ρ en h H x y v u Q0 E0 R N rx ry q k _ => h2 ρ h H x y v u Q _ R rx ry q fun b q => k.here R (.bl b) q
  exact ⟨(pe_cmpR h1 ha.pe hb.pe (nomark2 _ _ hm)).wk core, (pt_cmpR h1 ha.pe hb.pe (nomark2 _ _ hm)).wk fun σ H Q w => core σ H _ w, (fun _ _ _ z => nomatch z), fun _ _ => rfl⟩
theorem lastMarks2 (b c : Expr) (o p : CmpOp) (h : ∀ es k q, c ≠ .Set es k q) : lastMarks [o, p] [b, c] = false := by
  show behindInMarks p c = false
  exact nomark2 c p h
theorem se_chain (hu : X.A.units + 66 < cLine) (ha : SE X fa xa W a φa) (hb : SE X fa xa W b φb) (hc : SE X fa xa W c φc) (o p : C2) (hm : ∀ es k q, c ≠ .Set es k q) :
    SE X fa xa W (.Compare a [cmpOf o, cmpOf p] [b, c] pos) fun en h Q E => φa en h (fun x h1 => φb en h1 (fun y h2 => OQ (cmpop o x y h2) fun k => if k = true then φc en h2 (fun z h3 => OQ (cmpop p y z h3) fun b => Q (.bl b) h3) E else Q (.bl false) h2) E) E := by
  obtain ⟨r, h1, h2⟩ := cmp_all (X := X) (fa := fa) hu o
  obtain ⟨r', h1', h2'⟩ := cmp_all (X := X) (fa := fa) hu p
  have core : ∀ σ H Q, RE X.K fa xa W (fun en h Q E => φa en h (fun x h1 => φb en h1 (fun y h2 => OQ (cmpop o x y h2) fun k => if k = true then φc en h2 (fun z h3 => OQ (cmpop p y z h3) fun b => Q (.bl b) h3) E else Q (.bl false) h2) E) E) σ H Q →
      tChain r r' (RE X.K fa xa W φa) (RE X.K fa xa W φb) (RE X.K fa xa W φc) σ H Q := fun σ H Q w => by
    obtain ⟨ρ, en, h, Q0, E0, R, N, q, k, kx⟩ := w
    refine ⟨ρ, en, h, _, E0, R, N, q, fun x g2 v ρ2 H2 e R2 rx q2 => ?_, kx⟩
    refine ⟨ρ2, en, g2, _, E0, R2, N.mono e, q2, fun y h3 u ρ3 H3 e3 R3 ry q3 => ?_, kx.ext e⟩
    refine h2 ρ3 h3 H3 x y v u _ _ R3 (rx.mono e3) ry q3 fun kk q4 => ⟨kk, rfl, ?_⟩
    have e4 := e.trans e3
    cases kk with
    | true =>
      rw [if_pos rfl] at q4 ⊢
      refine ⟨ρ3, en, h3, _, E0, R3, N.mono e4, q4, fun z h5 t ρ5 H5 e5 R5 rz q5 => ?_, kx.ext e4⟩
      exact h2' ρ5 h5 H5 y z u t Q _ R5 (ry.mono e5) rz q5 fun b q6 => (k.ext (e4.trans e5)).here R5 (.bl b) q6
    | false =>
      rw [if_neg Bool.false_ne_true] at q4 ⊢
      exact (k.ext e4).here R3 (.bl _) q4
  exact ⟨(pe_chain h1 h1' ha.pe hb.pe hc.pe (lastMarks2 _ _ _ _ hm)).wk core, (pt_chain h1 h1' ha.pe hb.pe hc.pe (lastMarks2 _ _ _ _ hm)).wk fun σ H Q w => core σ H _ w, (fun _ _ _ z => nomatch z), fun _ _ => rfl⟩

/-! ### and, or, a if c else b -/
def wAnd (φa φb : WE) : WE := fun en h Q E => φa en h (fun x h1 => OQ (asBl x) fun k => if k = true then φb en h1 Q E else Q (.bl false) h1) E
def wOr (φa φb : WE) : WE := fun en h Q E => φa en h (fun x h1 => OQ (asBl x) fun k => if k = true then Q (.bl true) h1 else φb en h1 Q E) E
def wIte (φc φa φb : WE) : WE := fun en h Q E => φc en h (fun x h1 => OQ (asBl x) fun k => if k = true then φa en h1 Q E else φb en h1 Q E) E
theorem se_one (ha : SE X fa xa W a φa) (op : BoolOp) : SE X fa xa W (.BoolOp op [a] pos) φa := by
  have pw : PW X (.BoolOp op [a] pos) (tB (RE X.K fa xa W φa)) := by
    cases op with
    | And => exact pw_and1 ha.pt
    | Or => exact pw_or1 ha.pt
  exact ⟨pe_one ha.pe, pw.pt, fun _ _ _ _ => pw, fun _ _ => rfl⟩
theorem _root_.L2.PW.wk {t t2 : TT} (p : PW X e t) (c : ∀ σ H Q, t2 σ H Q → t σ H Q) : PW X e t2 := ⟨fun w pins s σ H Q I q => p.run w pins s σ H Q I (c _ _ _ q)⟩
theorem RE.and {σ : L2.St} {H : Hp} {Q : VK} {R1 : VK} (w : RE X.K fa xa W (wAnd φa φb) σ H Q) (ht : ∀ H1, RE X.K fa xa W φb σ H1 Q → R1 (.bl true) H1) (hf : ∀ H1, Q (.bl false) H1 → R1 (.bl false) H1) : RE X.K fa xa W φa σ H R1 := by
  refine RE.one (f := fun en x h1 Q E => OQ (asBl x) fun k => if k = true then φb en h1 Q E else Q (.bl false) h1) w fun ρ en h H x v Q0 E0 R N rx q k kx => ?_
  obtain ⟨i, e, q⟩ := OQ_some q
  obtain ⟨rfl, rfl⟩ := rx.bl_of e
  cases i with
  | true => exact ht H ⟨ρ, en, h, Q0, E0, R, N, q, k, kx⟩
  | false => exact hf H (k.here R (.bl false) q)
theorem RE.or {σ : L2.St} {H : Hp} {Q : VK} {R1 : VK} (w : RE X.K fa xa W (wOr φa φb) σ H Q) (ht : ∀ H1, Q (.bl true) H1 → R1 (.bl true) H1) (hf : ∀ H1, RE X.K fa xa W φb σ H1 Q → R1 (.bl false) H1) : RE X.K fa xa W φa σ H R1 := by
  refine RE.one (f := fun en x h1 Q E => OQ (asBl x) fun k => if k = true then Q (.bl true) h1 else φb en h1 Q E) w fun ρ en h H x v Q0 E0 R N rx q k kx => ?_
  obtain ⟨i, e, q⟩ := OQ_some q
  obtain ⟨rfl, rfl⟩ := rx.bl_of e
  cases i with
  | true => exact ht H (k.here R (.bl true) q)
  | false => exact hf H ⟨ρ, en, h, Q0, E0, R, N, q, k, kx⟩
theorem RE.ite {σ : L2.St} {H : Hp} {Q : VK} {R1 : VK} (w : RE X.K fa xa W (wIte φc φa φb) σ H Q) (ht : ∀ H1, RE X.K fa xa W φa σ H1 Q → R1 (.bl true) H1) (hf : ∀ H1, RE X.K fa xa W φb σ H1 Q → R1 (.bl false) H1) : RE X.K fa xa W φc σ H R1 := by
  refine RE.one (f := fun en x h1 Q E => OQ (asBl x) fun k => if k = true then φa en h1 Q E else φb en h1 Q E) w fun ρ en h H x v Q0 E0 R N rx q k kx => ?_
  obtain ⟨i, e, q⟩ := OQ_some q
  obtain ⟨rfl, rfl⟩ := rx.bl_of e
  cases i with
  | true => exact ht H ⟨ρ, en, h, Q0, E0, R, N, q, k, kx⟩
  | false => exact hf H ⟨ρ, en, h, Q0, E0, R, N, q, k, kx⟩
theorem se_and (ha : SE X fa xa W a φa) (hb : SE X fa xa W (.BoolOp .And (b :: es) pos) φb) : SE X fa xa W (.BoolOp .And (a :: b :: es) pos) (wAnd φa φb) := by
  have pw : PW X (.BoolOp .And (a :: b :: es) pos) (tB (RE X.K fa xa W (wAnd φa φb))) := PW.wk (pw_and ha.pt (hb.pw _ _ _ rfl)) fun σ H Q w =>
    RE.and (R1 := fun x H1 => ∃ c, x = .bl c ∧ if c = true then tB (RE X.K fa xa W φb) σ H1 Q else Q false H1) w (fun H1 q => ⟨true, rfl, q⟩) fun H1 ⟨c, e, q⟩ => ⟨false, rfl, by cases e; exact q⟩
  exact ⟨(pe_and ha.pe hb.pe).wk fun σ H Q w => RE.and w (fun H1 q => ⟨true, rfl, q⟩) fun H1 q => ⟨false, rfl, q⟩, pw.pt, fun _ _ _ _ => pw, fun _ _ => rfl⟩
theorem se_or (ha : SE X fa xa W a φa) (hb : SE X fa xa W (.BoolOp .Or (b :: es) pos) φb) : SE X fa xa W (.BoolOp .Or (a :: b :: es) pos) (wOr φa φb) := by
  have pw : PW X (.BoolOp .Or (a :: b :: es) pos) (tB (RE X.K fa xa W (wOr φa φb))) := PW.wk (pw_or ha.pt (hb.pw _ _ _ rfl)) fun σ H Q w =>
    RE.or (R1 := fun x H1 => ∃ c, x = .bl c ∧ if c = true then Q true H1 else tB (RE X.K fa xa W φb) σ H1 Q) w (fun H1 ⟨c, e, q⟩ => ⟨true, rfl, by cases e; exact q⟩) fun H1 q => ⟨false, rfl, q⟩
  exact ⟨(pe_or ha.pe hb.pe).wk fun σ H Q w => RE.or w (fun H1 q => ⟨true, rfl, q⟩) fun H1 q => ⟨false, rfl, q⟩, pw.pt, fun _ _ _ _ => pw, fun _ _ => rfl⟩
theorem se_ite (hc : SE X fa xa W c φc) (ha : SE X fa xa W a φa) (hb : SE X fa xa W b φb) : SE X fa xa W (.IfExp c a b pos) (wIte φc φa φb) := by
  refine ⟨(pe_ifExp hc.pt ha.pe hb.pe).wk fun σ H Q w => RE.ite (R1 := fun x H1 => ∃ c, x = .bl c ∧ if c = true then RE X.K fa xa W φa σ H1 Q else RE X.K fa xa W φb σ H1 Q) w (fun H1 q => ⟨true, rfl, q⟩) fun H1 q => ⟨false, rfl, q⟩, ⟨fun pins s σ H Q I w => ?_⟩, (fun _ _ _ z => nomatch z), fun _ _ => rfl⟩
  refine isTrue_IfExp (thn (hc.pt.run pins s σ H (fun k H1 => if k = true then tB (RE X.K fa xa W φa) σ H1 Q else tB (RE X.K fa xa W φb) σ H1 Q) I
    (RE.ite (R1 := fun x H1 => ∃ c, x = .bl c ∧ if c = true then tB (RE X.K fa xa W φa) σ H1 Q else tB (RE X.K fa xa W φb) σ H1 Q) w (fun H1 q => ⟨true, rfl, q⟩) fun H1 q => ⟨false, rfl, q⟩)) fun k s1 ⟨H1, I1, q1⟩ => ?_)
  cases k with
  | true => exact ha.pt.run pins s1 σ H1 Q I1 q1
  | false => exact hb.pt.run pins s1 σ H1 Q I1 q1
end
end Mp
namespace Mp
open PySem PySem.Spec PyProof.Rows L2

section
variable {X : Cx} {fa : Nat → Option Addr} {xa : Nat → Option (Value × List Str)} {W : WX} {e a b c : Expr} {es : List Expr} {φ φa φb φc : WE} {ψ ψa : WL} {pos : Pos}

/-! ### argument lists -/
theorem RA.use {σ : L2.St} {H : Hp} {Q : VK} {f : En → List D → MH → QV → QX → Prop} {Rk : List V → Hp → Prop}
    (w : RE X.K fa xa W (fun en h Q E => ψ en h (fun ds h1 => f en ds h1 Q E) E) σ H Q)
    (fin : ∀ ρ en h H ds vs Q0 E0, RH X.K fa ρ h H → REn X.K fa ρ H en σ → RDs X.K fa ρ H ds vs → f en ds h Q0 E0 → Then X.K fa ρ H Q0 Q → ThenX X.K fa xa ρ H E0 (fun c d H2 => W c d σ H2) → Rk vs H) : RA X.K fa xa W ψ σ H Rk := by
  obtain ⟨ρ, en, h, Q0, E0, R, N, q, k, kx⟩ := w
  exact ⟨ρ, en, h, _, E0, R, N, q, fun ds h2 vs ρ2 H2 e R2 r q2 => fin ρ2 en h2 H2 ds vs Q0 E0 R2 (N.mono e) r q2 (k.ext e) (kx.ext e), kx⟩
theorem sa_nil : SA X fa xa W [] fun _ h Q _ => Q [] h :=
  ⟨pa_nil.wk fun σ H Q ⟨ρ, en, h, Q0, E0, R, N, q, k, kx⟩ => k _ _ _ ρ H .refl R .nil q, fun _ _ => rfl⟩
theorem sa_cons (ha : SE X fa xa W e φ) (hr : SA X fa xa W es ψ) : SA X fa xa W (e :: es) fun en h Q E => φ en h (fun x h1 => ψ en h1 (fun xs h2 => Q (x :: xs) h2) E) E := by
  refine ⟨(pa_cons ha.pe hr.pa (ha.ns _ _)).wk fun σ H Q ⟨ρ, en, h, Q0, E0, R, N, q, k, kx⟩ => ?_, fun pos env => ?_⟩
  · refine ⟨ρ, en, h, _, E0, R, N, q, fun d h2 v ρ2 H2 e1 R2 r q2 => ?_, kx⟩
    refine ⟨ρ2, en, h2, _, E0, R2, N.mono e1, q2, fun ds h3 vs ρ3 H3 e3 R3 rs q3 => ?_, kx.ext e1⟩
    exact k _ _ _ ρ3 H3 (e1.trans e3) R3 (.cons (r.mono e3) rs) q3
  · rw [ha.ns]
    show (false || (backTo pos (starEach es env)).any (·.1)) = false
    rw [hr.pl]; rfl

/-! ### displays -/
theorem se_tup {j : Nat} (hs : SA X fa xa W es ψ) : SE X fa xa W (.Tuple es j pos) fun en h Q E => ψ en h (fun ds h1 => ds.length ≤ sizeLine ∧ Q (.tup ds) h1) E := by
  refine .of ((pe_tup hs.pa).wk fun σ H Q w => ?_) (fun _ _ => rfl) (fun _ _ _ z => nomatch z) fun _ => rfl
  exact RA.use (f := fun _ ds h1 Q _ => ds.length ≤ sizeLine ∧ Q (.tup ds) h1) w fun ρ en h H ds vs Q0 E0 R N r q k kx => ⟨by rw [← r.length]; exact q.1, k.tup R r q.2⟩
theorem se_lst (hs : SA X fa xa W es ψ) : SE X fa xa W (.List es pos) fun en h Q E => ψ en h (fun ds h1 => PQ (newL h1 ds) Q) E := by
  refine .of ((pe_lst hs.pa).wk fun σ H Q w => ?_) (fun _ _ => rfl) (fun _ _ _ z => nomatch z) fun _ => rfl
  exact RA.use (f := fun _ ds h1 Q _ => PQ (newL h1 ds) Q) w fun ρ en h H ds vs Q0 E0 R N r q k kx => k.lst R r q

/-! ### places, slices -/
theorem plainIx_of (h : ∀ l u s p, b ≠ .Slice l u s p) : PlainIx b := fun o i => by
  cases b <;> first | rfl | exact absurd rfl (h _ _ _ _)
theorem se_ix (hu : X.A.units + 1 < cLine) (ha : SE X fa xa W a φa) (hb : SE X fa xa W b φb) (hs : ∀ l u s p, b ≠ .Slice l u s p) : SE X fa xa W (.Subscript a b pos) fun en h Q E => φa en h (fun x h1 => φb en h1 (fun y h2 => OQ (ixop x y h2) fun d => Q d h2) E) E := by
  refine .of ((pe_ix (ix_list.or (ix_tup.or (ix_dc hu))) ha.pe hb.pe (plainIx_of hs)).wk fun σ H Q w => ?_) (fun _ _ => rfl) (fun _ _ _ z => nomatch z) fun _ => rfl
  exact w.two (f := fun x y h2 Q _ => OQ (ixop x y h2) fun d => Q d h2) fun ρ en h H x y v u Q0 E0 R N rx ry q k _ => g_ix R rx ry q fun d w r q2 => k.here R r q2
/-- a bound -/
structure SP_ (X : Cx) (fa : Nat → Option Addr) (xa : Nat → Option (Value × List Str)) (W : WX) (o : Option Expr) (om : Bool) (φ : WE) : Prop where
  no : om = true → o = none
  yes : om = false → ∃ e, o = some e ∧ SE X fa xa W e φ
/-- a bound's reading, continued -/
def rO (K : PySem.W.Frag) (fa : Nat → Option Addr) (xa : Nat → Option (Value × List Str)) (W : WX) (om : Bool) (φ : WE) : TO := fun σ H Q => ∃ ρ en h Kc E0, RH K fa ρ h H ∧ REn K fa ρ H en σ ∧ ifO om (φ en h) Kc E0 h ∧
  (∀ o h2 ρ2 H2, Ext K ρ H ρ2 H2 → RH K fa ρ2 h2 H2 → Kc o h2 → Q o H2) ∧ ThenX K fa xa ρ H E0 (fun c d H2 => W c d σ H2)
theorem _root_.L2.PO.wk {o : Option Expr} {t t2 : TO} (p : PO X o t) (c : ∀ σ H Q, t2 σ H Q → t σ H Q) : PO X o t2 := ⟨fun pins s σ H Q I q => p.run pins s σ H Q I (c _ _ _ q)⟩
theorem po_all {o : Option Expr} {om : Bool} (s : SP_ X fa xa W o om φ) : PO X o (rO X.K fa xa W om φ) := by
  cases om with
  | true =>
    rw [s.no rfl]
    exact po_none.wk fun σ H Q ⟨ρ, en, h, Kc, E0, R, N, q, k, kx⟩ => k none h ρ H .refl R q
  | false =>
    obtain ⟨e, rfl, he⟩ := s.yes rfl
    refine (po_some he.pe).wk fun σ H Q ⟨ρ, en, h, Kc, E0, R, N, q, k, kx⟩ => ?_
    refine ⟨ρ, en, h, _, E0, R, N, q, fun d h2 v ρ2 H2 e1 R2 r q2 => ?_, kx⟩
    obtain ⟨i, e2, q2⟩ := OQ_some q2
    cases r with
    | int j => cases e2; exact ⟨i, rfl, k _ _ ρ2 H2 e1 R2 q2⟩
    | _ => cases e2
theorem se_sl {lo hi : Option Expr} {ol oh : Bool} {φl φh : WE} {p2 : Pos} (ha : SE X fa xa W a φa) (hl : SP_ X fa xa W lo ol φl) (hh : SP_ X fa xa W hi oh φh) :
    SE X fa xa W (.Subscript a (.Slice lo hi none p2) pos) fun en h Q E => φa en h (fun x h1 => ifO ol (φl en h1) (fun l h2 => ifO oh (φh en h2) (fun u h3 => PQ (slop x l u h3) Q) E h2) E h1) E := by
  refine .of ((pe_slice (r := rSlX X.K) (sl_list.or sl_tupA) ha.pe (po_all hl) (po_all hh)).wk fun σ H Q ⟨ρ, en, h, Q0, E0, R, N, q, k, kx⟩ => ?_) (fun _ _ => rfl) (fun _ _ _ z => nomatch z) fun _ => rfl
  refine ⟨ρ, en, h, _, E0, R, N, q, fun x h1 v ρ1 H1 e1 R1 rx q1 => ?_, kx⟩
  refine ⟨ρ1, en, h1, _, E0, R1, N.mono e1, q1, fun l h2 ρ2 H2 e2 R2 q2 => ?_, kx.ext e1⟩
  refine ⟨ρ2, en, h2, _, E0, R2, N.mono (e1.trans e2), q2, fun u h3 ρ3 H3 e3 R3 q3 => ?_, kx.ext (e1.trans e2)⟩
  exact g_sl R3 (rx.mono (e2.trans e3)) q3 (k.ext ((e1.trans e2).trans e3))

/-! ### built-ins -/
theorem g_len : GL X.K fa (fun xs H Q => ∃ x n, xs = [x] ∧ LenV X.K x H n ∧ Q (.int n) H) (biop .len) := by
  intro ρ h H xs vs Q Q0 R r q k
  cases r with
  | nil => exact False.elim q
  | cons r1 r2 =>
    cases r2 with
    | cons _ _ => (cases r1 <;> exact False.elim q)
    | nil =>
      cases r1 with
      | @tup ys us a s1 q1 => exact ⟨_, us.length, rfl, .inr ⟨us, s1.sq, rfl⟩, by rw [← q1.length]; exact k.here R (.int _) q⟩
      | str x =>
        obtain ⟨hz, q⟩ := ite_PQ q
        exact ⟨_, x.length, rfl, ⟨hz, rfl⟩, k.here R (.int _) q⟩
      | @ref n a ra =>
        have q : PQ (match h[n]? with | some (.lst xs) => some (.int xs.length, h) | some (.rol xs) => some (.int xs.length, h) | _ => none) Q0 := q
        split at q
        · rename_i ys e1
          obtain ⟨us, s1, q1⟩ := R.lst (show lstAt h n = some ys by unfold lstAt; rw [e1]; rfl) ra
          exact ⟨_, us.length, rfl, .inl ⟨us, s1, rfl⟩, by rw [← q1.length]; exact k.here R (.int _) q⟩
        · rename_i ys e1
          obtain ⟨us, s1, q1⟩ := R.lst (show lstAt h n = some ys by unfold lstAt; rw [e1]; rfl) ra
          exact ⟨_, us.length, rfl, .inl ⟨us, s1, rfl⟩, by rw [← q1.length]; exact k.here R (.int _) q⟩
        · exact False.elim q
      | _ => exact False.elim q

/-- one argument -/
theorem GL.one {r : List V → Hp → VK → Prop} {f : BI} (h1 : ∀ ρ h H x v Q Q0, RH X.K fa ρ h H → RD X.K fa ρ H x v → PQ (biop f [x] h) Q0 → Then X.K fa ρ H Q0 Q → r [v] H Q) (h0 : ∀ h, biop f [] h = none) (h2 : ∀ x y z h, biop f (x :: y :: z) h = none) : GL X.K fa r (biop f) := by
  intro ρ h H xs vs Q Q0 R rr q k
  cases rr with
  | nil => rw [h0] at q; exact False.elim q
  | cons r1 r2 =>
    cases r2 with
    | cons _ _ => rw [h2] at q; exact False.elim q
    | nil => exact h1 ρ h H _ _ Q Q0 R r1 q k
theorem bi2 {f : BI} (n : f.two = false) : ∀ x y z h, biop f (x :: y :: z) h = none := fun x y z h => by
  cases f <;> first | (cases x <;> rfl) | exact absurd n (by decide)
theorem bi0 {f : BI} (n : f ≠ .dict0) : ∀ h, biop f [] h = none := fun h => by
  cases f <;> first | rfl | exact absurd rfl n
/-- a list of ours behind an Option -/
theorem bind_lst {ρ : List Addr} {h : MH} {H : Hp} {n : Nat} {a : Addr} {α : Type} {g : List D → Option α} {Q : α → Prop} (R : RH X.K fa ρ h H) (ra : ρ[n]? = some a) (q : OQ ((lstAt h n).bind g) Q) :
    ∃ xs vs, lstAt h n = some xs ∧ SqL X.K H a vs ∧ RDs X.K fa ρ H xs vs ∧ OQ (g xs) Q := by
  cases e : lstAt h n with
  | none => rw [e] at q; exact False.elim q
  | some xs =>
    rw [e] at q
    obtain ⟨vs, s1, r1⟩ := R.lst e ra
    exact ⟨xs, vs, rfl, s1, r1, q⟩
theorem PQ_OQ {r : PR} {Q : QV} : PQ r Q = OQ r (fun p => Q p.1 p.2) := by cases r <;> rfl
theorem g_all : GL X.K fa (rAll X.K) (biop .all) := GL.one (fun ρ h H x v Q Q0 R r q k => by
  cases r with
  | @ref n a ra =>
    have q : PQ (((lstAt h n).bind allBls).map fun bs => (D.bl (bs.all id), h)) Q0 := q
    rw [PQ_OQ, Option.map_eq_bind, Option.bind_assoc] at q
    obtain ⟨xs, vs, e, s1, r1, q⟩ := bind_lst R ra q
    cases e2 : allBls xs with
    | none => rw [e2] at q; exact False.elim q
    | some bs =>
      rw [e2] at q
      have z := r1.bls e2
      subst z
      exact ⟨a, bs, rfl, s1, k.here R (.bl _) q⟩
  | _ => exact False.elim q) (bi0 (by intro z; cases z)) (bi2 rfl)
theorem g_any : GL X.K fa (rAny X.K) (biop .any) := GL.one (fun ρ h H x v Q Q0 R r q k => by
  cases r with
  | @ref n a ra =>
    have q : PQ (((lstAt h n).bind allBls).map fun bs => (D.bl (bs.any id), h)) Q0 := q
    rw [PQ_OQ, Option.map_eq_bind, Option.bind_assoc] at q
    obtain ⟨xs, vs, e, s1, r1, q⟩ := bind_lst R ra q
    cases e2 : allBls xs with
    | none => rw [e2] at q; exact False.elim q
    | some bs =>
      rw [e2] at q
      have z := r1.bls e2
      subst z
      exact ⟨a, bs, rfl, s1, k.here R (.bl _) q⟩
  | _ => exact False.elim q) (bi0 (by intro z; cases z)) (bi2 rfl)
theorem g_sum : GL X.K fa (rSum X.K) (biop .sum) := GL.one (fun ρ h H x v Q Q0 R r q k => by
  cases r with
  | @ref n a ra =>
    have q : PQ (((lstAt h n).bind allInts).map fun bs => (D.int bs.sum, h)) Q0 := q
    rw [PQ_OQ, Option.map_eq_bind, Option.bind_assoc] at q
    obtain ⟨xs, vs, e, s1, r1, q⟩ := bind_lst R ra q
    cases e2 : allInts xs with
    | none => rw [e2] at q; exact False.elim q
    | some bs =>
      rw [e2] at q
      have z := r1.ints e2
      subst z
      exact ⟨a, bs, rfl, s1, k.here R (.int _) q⟩
  | _ => exact False.elim q) (bi0 (by intro z; cases z)) (bi2 rfl)
theorem g_max2 : GL X.K fa (fun xs H Q => ∃ i j, xs = [.int i, .int j] ∧ Q (.int (if j > i then j else i)) H) (biop .max2) := by
  intro ρ h H xs vs Q Q0 R r q k
  cases r with
  | nil => exact False.elim q
  | cons r1 r2 =>
    cases r2 with
    | nil => (cases r1 <;> exact False.elim q)
    | cons r3 r4 =>
      cases r4 with
      | cons _ _ => (cases r1 <;> cases r3 <;> exact False.elim q)
      | nil =>
        cases r1 with
        | int i =>
          cases r3 with
          | int j => exact ⟨i, j, rfl, k.here R (.int _) q⟩
          | _ => exact False.elim q
        | _ => (cases r3 <;> exact False.elim q)
theorem g_min2 : GL X.K fa (fun xs H Q => ∃ i j, xs = [.int i, .int j] ∧ Q (.int (if j < i then j else i)) H) (biop .min2) := by
  intro ρ h H xs vs Q Q0 R r q k
  cases r with
  | nil => exact False.elim q
  | cons r1 r2 =>
    cases r2 with
    | nil => (cases r1 <;> exact False.elim q)
    | cons r3 r4 =>
      cases r4 with
      | cons _ _ => (cases r1 <;> cases r3 <;> exact False.elim q)
      | nil =>
        cases r1 with
        | int i =>
          cases r3 with
          | int j => exact ⟨i, j, rfl, k.here R (.int _) q⟩
          | _ => exact False.elim q
        | _ => (cases r3 <;> exact False.elim q)
theorem g_tupleOf : GL X.K fa (fun xs H Q => ∃ p ys, xs = [.ref p] ∧ ((SqL X.K H p ys ∧ ∀ l, H l = none → Q (.ref l) (upd H l (.tup ys))) ∨ (SqT X.K H p ys ∧ Q (.ref p) H))) (biop .tupleOf) := GL.one (fun ρ h H x v Q Q0 R r q k => by
  cases r with
  | @tup xs vs a s1 r1 => exact ⟨a, vs, rfl, .inr ⟨s1.sq, k.here R (.tup s1 r1) q⟩⟩
  | @ref n a ra =>
    have q : PQ ((lstAt h n).map fun xs => (D.tup xs, h)) Q0 := q
    rw [PQ_OQ, Option.map_eq_bind] at q
    obtain ⟨xs, vs, e, s1, r1, q⟩ := bind_lst R ra q
    exact ⟨a, vs, rfl, .inl ⟨s1, k.tup R r1 q⟩⟩
  | _ => exact False.elim q) (bi0 (by intro z; cases z)) (bi2 rfl)
theorem g_listOf : GL X.K fa (fun xs H Q => ∃ p ys, xs = [.ref p] ∧ (SqL X.K H p ys ∨ SqT X.K H p ys) ∧ ∀ l, H l = none → Q (.ref l) (upd H l (.lst ys))) (biop .listOf) := GL.one (fun ρ h H x v Q Q0 R r q k => by
  cases r with
  | @tup xs vs a s1 r1 => exact ⟨a, vs, rfl, .inr s1.sq, (k.lst R r1 q).2⟩
  | @ref n a ra =>
    have q : PQ ((lstAt h n).bind fun xs => newL h xs) Q0 := q
    rw [PQ_OQ] at q
    obtain ⟨xs, vs, e, s1, r1, q⟩ := bind_lst R ra q
    rw [← PQ_OQ] at q
    exact ⟨a, vs, rfl, .inl s1, (k.lst R r1 q).2⟩
  | _ => exact False.elim q) (bi0 (by intro z; cases z)) (bi2 rfl)
theorem g_intOf : GL X.K fa (fun xs H Q => (∃ i, xs = [.int i] ∧ Q (.int i) H) ∨ ∃ k, xs = [.bl k] ∧ Q (.int (if k then 1 else 0)) H) (biop .intOf) := GL.one (fun ρ h H x v Q Q0 R r q k => by
  cases r with
  | int i => exact .inl ⟨i, rfl, k.here R (.int _) q⟩
  | bl i => exact .inr ⟨i, rfl, k.here R (.int _) q⟩
  | _ => exact False.elim q) (bi0 (by intro z; cases z)) (bi2 rfl)
theorem g_strOf : GL X.K fa (fun xs H Q => ∃ i, xs = [.int i] ∧ i.natAbs.log2 < 1920 ∧ Q (.str (toString i)) H) (biop .strOf) := GL.one (fun ρ h H x v Q Q0 R r q k => by
  cases r with
  | int i =>
    obtain ⟨hz, q⟩ := ite_PQ (show PQ (if i.natAbs.log2 < 1920 then some (D.str (toString i), h) else none) Q0 from q)
    exact ⟨i, rfl, hz, k.here R (.str _) q⟩
  | _ => exact False.elim q) (bi0 (by intro z; cases z)) (bi2 rfl)

/-! ### repr -/
def rRepr (K : PySem.W.Frag) : List V → Hp → VK → Prop := fun xs H Q => ∃ x d, xs = [x] ∧ Dp K H x d ∧ d.showable = true ∧ d.hasDict = false ∧ d.depth ≤ 64 ∧ d.shown.length ≤ sizeLine ∧ Q (.str d.shown) H
theorem call_reprD (hg : X.A.guards = some []) (hu : X.A.units + 66 < cLine) : CallR X (.builtin "repr") (rRepr X.K) := by
  intro pins s σ H xs us Q I r h
  obtain ⟨x, d, rfl, hd, h1, h2, h3, h4, q⟩ := h
  obtain ⟨u, rfl, ru⟩ := vals1 r
  have go : EP X pins σ Q (.str d.shown s.toks) { s with toks := s.toks + 1 } := ⟨.str d.shown, H, I.tok _, ⟨_, rfl⟩, q⟩
  cases hd with
  | non => cases ru; exact PySem.P.repr_of_none go
  | bl b => cases ru; exact PySem.P.repr_of_bool (by cases b <;> exact go)
  | int i =>
    obtain ⟨t, rfl⟩ := ru
    exact PySem.P.repr_of_int (of_decide_eq_true h1) go
  | str y =>
    obtain ⟨t, rfl⟩ := ru
    exact PySem.P.repr_of_str go h4
  | lst s1 s2 =>
    have hd2 : Dp X.K H (.ref _) (.list _) := .lst s1 s2
    obtain ⟨as, rd⟩ := Dp.reads I _ _ u hd2 ru
    cases ru
    exact repr_of_reads' rd h1 (noDict h2) hg (by omega) (fun _ _ e => e) (fun h' t tk hk => ⟨.str _, H, I.kept hk, ⟨_, rfl⟩, q⟩) h4
  | tup s1 s2 =>
    have hd2 : Dp X.K H (.ref _) (.tuple _) := .tup s1 s2
    obtain ⟨as, rd⟩ := Dp.reads I _ _ u hd2 ru
    cases ru
    exact repr_of_reads' rd h1 (noDict h2) hg (by omega) (fun _ _ e => e) (fun h' t tk hk => ⟨.str _, H, I.kept hk, ⟨_, rfl⟩, q⟩) h4
where noDict {d : PyData} {as : List Addr} (h : d.hasDict = false) : d.hasDict = true → sysModules ∉ as := fun z => by rw [h] at z; cases z
theorem g_repr : GL X.K fa (rRepr X.K) (biop .repr) := GL.one (fun ρ h H x v Q Q0 R r q k => by
  have q : PQ (match pyD 65 h x with | some p => if p.showable && !p.hasDict && decide (p.depth ≤ 64) && decide (p.shown.length ≤ sizeLine) then some (D.str p.shown, h) else none | none => none) Q0 := q
  split at q
  · rename_i p e
    obtain ⟨c, q⟩ := ite_PQ q
    simp only [Bool.and_eq_true, decide_eq_true_eq, Bool.not_eq_true'] at c
    exact ⟨v, p, rfl, r.dp R _ _ _ _ e, c.1.1.1, c.1.1.2, c.1.2, c.2, k.here R (.str _) q⟩
  · exact False.elim q) (bi0 (by intro z; cases z)) (bi2 rfl)

/-! ### sorted -/
def rSortD (K : PySem.W.Frag) : List V → Hp → VK → Prop := fun vs H Q => ∃ (a : Addr) (ws : List V) (ps : List PyData), vs = [.ref a] ∧ SqL K H a ws ∧ DpAll K H ws ps ∧ (∀ p ∈ ps, ∀ q ∈ ps, PySem.W.alike p q = true) ∧ PySem.W.Sortable ps ∧ (∀ p ∈ ps, p.depth ≤ 64) ∧ ws.length ≤ sizeLine ∧
  ∀ l, H l = none → Q (.ref l) (upd H l (.lst (((ws.zip ps).mergeSort (PySem.W.dataLe false Prod.snd)).map Prod.fst)))
theorem DpAll.length {H : Hp} : ∀ {vs : List V} {ps : List PyData}, DpAll X.K H vs ps → vs.length = ps.length
  | _, _, .nil => rfl
  | _, _, .cons _ t => by rw [List.length_cons, List.length_cons, DpAll.length t]
theorem each_sort {pins : List (Addr × Obj)} {s : Shared} {σ : L2.St} {H : Hp} (I : Inv X pins σ H s) : ∀ {vs : List V} {ps : List PyData} {us : List Value}, DpAll X.K H vs ps → Vals vs us →
    PySem.W.EachIs (fun (u : Value) (b : V × PyData) => RelV b.1 u) us (vs.zip ps) ∧ PySem.W.EachIs (fun u (b : V × PyData) => ∃ as, Reads s.heap u b.2 as) us (vs.zip ps)
  | _, _, _, .nil, .nil => ⟨.nil, .nil⟩
  | _, _, _, .cons d1 d2, .cons r1 r2 => by
    obtain ⟨a, b⟩ := each_sort I d2 r2
    exact ⟨.cons r1 a, .cons (Dp.reads I _ _ _ d1 r1) b⟩
theorem zip_snd : ∀ {vs : List V} {ps : List PyData}, vs.length = ps.length → (vs.zip ps).map Prod.snd = ps
  | [], [], _ => rfl
  | _ :: vs, _ :: ps, h => by
    show _ :: (vs.zip ps).map Prod.snd = _
    rw [zip_snd (by simpa using h)]
theorem vals_each : ∀ {us : List Value} {bs : List (V × PyData)}, PySem.W.EachIs (fun (u : Value) (b : V × PyData) => RelV b.1 u) us bs → Vals (bs.map Prod.fst) us
  | _, _, .nil => .nil
  | _, _, .cons r t => .cons r (vals_each t)
theorem call_sortD (hu : X.A.units + 68 < cLine) : CallR X (.builtin "sorted") (rSortD X.K) := by
  intro pins s σ H vs us Q I r h
  obtain ⟨a, ws, ps, rfl, hs, hd, hal, hk, hdep, hz, q⟩ := h
  obtain ⟨u, rfl, ru⟩ := vals1 r
  cases ru
  obtain ⟨its, rv, pl, _⟩ := I.list hs
  obtain ⟨e1, e2⟩ := each_sort I hd rv
  have hl := DpAll.length hd
  have hsnd := zip_snd hl
  refine PySem.W.sorted_data (enc := Prod.snd) pl.isList e1 e2 (by rw [hsnd]; exact hal) (by rw [hsnd]; exact hk) (by rw [List.length_zip, ← hl, Nat.min_self]; exact hz) (fun b hb => ?_) fun out ho eo => ?_
  · have : b.2 ∈ ps := by rw [← hsnd]; exact List.mem_map_of_mem hb
    have := hdep _ this
    omega
  · obtain ⟨ep, he⟩ := sortedAll_at s.heap its out.toArray
    refine ⟨.ref _, _, I.laid (t' := s.toks) (o := .lst _) (fun _ _ => sortedAll_old) (Nat.le_succ _) ⟨?_, out, ep, vals_each eo, he⟩, rfl, q _ (I.hok.fresh (Nat.le_succ _))⟩
    rw [List.length_map, List.length_mergeSort, List.length_zip, ← hl, Nat.min_self]
    exact hz
theorem RDs.dpAll {ρ : List Addr} {h : MH} {H : Hp} (R : RH X.K fa ρ h H) {ds : List D} {vs : List V} {ps : List PyData} (r : RDs X.K fa ρ H ds vs) (e : ds.mapM (pyD 65 h) = some ps) : DpAll X.K H vs ps :=
  RDs.dp_of (RD.dp R 65) ds vs ps r e

theorem RDs.of_mem {ρ : List Addr} {H : Hp} {α : Type} {f : α → D} {g : α → V} : ∀ {l : List α}, (∀ t ∈ l, RD X.K fa ρ H (f t) (g t)) → RDs X.K fa ρ H (l.map f) (l.map g)
  | [], _ => .nil
  | t :: l, h => .cons (h t List.mem_cons_self) (RDs.of_mem fun u hu => h u (List.mem_cons_of_mem _ hu))
theorem RDs.triples {ρ : List Addr} {H : Hp} : ∀ {xs : List D} {ws : List V} {ps : List PyData}, RDs X.K fa ρ H xs ws → ws.length = ps.length →
    (xs.zip (ws.zip ps)).map (fun t => (t.1, t.2.2)) = xs.zip ps ∧ (xs.zip (ws.zip ps)).map (fun t => t.2) = ws.zip ps ∧ ∀ t ∈ xs.zip (ws.zip ps), RD X.K fa ρ H t.1 t.2.1
  | _, _, ps, .nil, e => ⟨rfl, (by cases ps with | nil => rfl | cons _ _ => cases e), fun t ht => (by cases ht)⟩
  | x :: xs, w :: ws, p :: ps, .cons r t, e => by
    obtain ⟨a, b, c⟩ := RDs.triples t (show ws.length = ps.length by simpa using e)
    refine ⟨?_, ?_, fun t ht => ?_⟩
    · show (x, p) :: (xs.zip (ws.zip ps)).map (fun t => (t.1, t.2.2)) = (x, p) :: xs.zip ps
      rw [a]
    · show (w, p) :: (xs.zip (ws.zip ps)).map (fun t => t.2) = (w, p) :: ws.zip ps
      rw [b]
    · rcases List.mem_cons.mp ht with rfl | ht
      · exact r
      · exact c t ht
  | _ :: _, _ :: _, [], .cons _ _, e => by cases e
theorem RDs.sorted {ρ : List Addr} {H : Hp} {xs : List D} {ws : List V} {ps : List PyData} (r : RDs X.K fa ρ H xs ws) (e : ws.length = ps.length) :
    RDs X.K fa ρ H (((xs.zip ps).mergeSort (PySem.W.dataLe false Prod.snd)).map Prod.fst) (((ws.zip ps).mergeSort (PySem.W.dataLe false Prod.snd)).map Prod.fst) := by
  obtain ⟨a, b, c⟩ := r.triples e
  have ea : (xs.zip ps).mergeSort (PySem.W.dataLe false Prod.snd) = ((xs.zip (ws.zip ps)).mergeSort (PySem.W.dataLe false fun t => t.2.2)).map (fun t => (t.1, t.2.2)) := by
    exact (congrArg (fun l => List.mergeSort l (PySem.W.dataLe false Prod.snd)) a.symm).trans (List.map_mergeSort (f := fun t : D × V × PyData => (t.1, t.2.2)) (r := PySem.W.dataLe false fun t => t.2.2) fun _ _ _ _ => rfl).symm
  have eb : (ws.zip ps).mergeSort (PySem.W.dataLe false Prod.snd) = ((xs.zip (ws.zip ps)).mergeSort (PySem.W.dataLe false fun t => t.2.2)).map (fun t => t.2) := by
    exact (congrArg (fun l => List.mergeSort l (PySem.W.dataLe false Prod.snd)) b.symm).trans (List.map_mergeSort (f := fun t : D × V × PyData => t.2) (r := PySem.W.dataLe false fun t => t.2.2) fun _ _ _ _ => rfl).symm
  rw [ea, eb, List.map_map, List.map_map]
  exact RDs.of_mem fun t ht => c t (List.mem_mergeSort.mp ht)
theorem sortable_of {ps : List PyData} (h : (ps.all isTupNE || ps.all isPlainK) = true) : PySem.W.Sortable ps := by
  rcases Bool.or_eq_true_iff.mp h with z | z
  · refine .inl fun d hd => ?_
    have q := List.all_eq_true.mp z d hd
    cases d with
    | tuple xs => cases xs with
      | nil => cases q
      | cons x r => exact ⟨x, r, rfl⟩
    | _ => cases q
  · refine .inr fun d hd => ?_
    have q := List.all_eq_true.mp z d hd
    cases d with
    | none => cases q
    | tuple _ => cases q
    | _ => exact ⟨(by intro z; cases z), (by intro xs z; cases z)⟩
theorem g_sorted : GL X.K fa (rSortD X.K) (biop .sorted) := GL.one (fun ρ h H x v Q Q0 R r q k => by
  cases r with
  | @ref n a ra =>
    have q : PQ (((lstAt h n).bind (sortL h)).bind fun xs => newL h xs) Q0 := q
    rw [PQ_OQ, Option.bind_assoc] at q
    obtain ⟨xs, ws, e, s1, r1, q⟩ := bind_lst R ra q
    rw [← PQ_OQ] at q
    unfold sortL at q
    cases e2 : xs.mapM (pyD 65 h) with
    | none => rw [e2] at q; exact False.elim q
    | some ps =>
      rw [e2] at q
      simp only at q
      have hd := r1.dpAll R e2
      have hl := DpAll.length hd
      split at q
      · rename_i c
        simp only [Bool.and_eq_true] at c
        obtain ⟨⟨⟨c1, c2⟩, c3⟩, c4⟩ := c
        refine ⟨a, ws, ps, rfl, s1, hd, fun p hp q hq => List.all_eq_true.mp (List.all_eq_true.mp c1 p hp) q hq, sortable_of c2, fun p hp => of_decide_eq_true (List.all_eq_true.mp c3 p hp), by rw [← r1.length]; exact of_decide_eq_true c4, (k.lst R (r1.sorted hl) q).2⟩
      · exact False.elim q
  | _ => exact False.elim q) (bi0 (by intro z; cases z)) (bi2 rfl)

/-! ### together -/
inductive BV where
  | fn (x : Str) (id : String) | ty (x : Str) (id : String)
def biName : BI → Option BV
  | .len => some (.fn "len" "len") | .all => some (.fn "all" "all") | .any => some (.fn "any" "any") | .sum => some (.fn "sum" "sum")
  | .max2 => some (.fn "max" "max") | .min2 => some (.fn "min" "min") | .repr => some (.fn "repr" "repr") | .sorted => some (.fn "sorted" "sorted")
  | .tupleOf => some (.ty "tuple" "tuple") | .listOf => some (.ty "list" "list") | .intOf => some (.ty "int" "int") | .strOf => some (.ty "str" "str")
  | _ => none
/-- the names of the built-ins that may be asked, none of them the module's own -/
def BNames : List Str := ["len", "all", "any", "sum", "max", "min", "repr", "sorted", "tuple", "list", "int", "str", "isinstance", "range", "zip", "bool"]
theorem se_biF {x : Str} {id : String} {f : BI} {p : Pos} {r : List V → Hp → VK → Prop} (hc : CallR X (.builtin id) r) (hgl : GL X.K fa r (biop f)) (hg : Gl X x) (hm : X.mg x = none) (hv : bootBuiltins x = some (.builtin id)) (hn : x ≠ "__name__") (hdb : (x == ("__debug__" : Str)) = false)
    (he : starEach (e :: es) X.env = (false, eval e X.env) :: starEach es X.env) (hpl : (backTo pos (starEach es X.env)).any (·.1) = false) (hs : SA X fa xa W (e :: es) ψ) :
    SE X fa xa W (.Call (.Name x p) (e :: es) [] pos) fun en h Q E => ψ en h (fun ds h1 => PQ (biop f ds h1) Q) E := by
  refine .of ((pe_callB hc hg hm hv hs.pa hn hdb he hpl).wk fun σ H Q w => ?_) (fun _ _ => rfl) (fun _ _ _ z => nomatch z) fun _ => rfl
  exact RA.use (f := fun _ ds h1 Q _ => PQ (biop f ds h1) Q) w fun ρ en h H ds vs Q0 E0 R N r q k kx => hgl ρ h H ds vs Q Q0 R r q k
theorem se_biT {x : Str} {id : String} {f : BI} {p : Pos} {r : List V → Hp → VK → Prop} (hc : CallR X (.type id) r) (hgl : GL X.K fa r (biop f)) (hg : Gl X x) (hm : X.mg x = none) (hv : bootBuiltins x = some (.type id)) (hn : x ≠ "__name__") (hdb : (x == ("__debug__" : Str)) = false)
    (he : starEach (e :: es) X.env = (false, eval e X.env) :: starEach es X.env) (hpl : (backTo pos (starEach es X.env)).any (·.1) = false) (hs : SA X fa xa W (e :: es) ψ) :
    SE X fa xa W (.Call (.Name x p) (e :: es) [] pos) fun en h Q E => ψ en h (fun ds h1 => PQ (biop f ds h1) Q) E := by
  refine .of ((pe_callTy hc hg hm hv hs.pa hn hdb he hpl).wk fun σ H Q w => ?_) (fun _ _ => rfl) (fun _ _ _ z => nomatch z) fun _ => rfl
  exact RA.use (f := fun _ ds h1 Q _ => PQ (biop f ds h1) Q) w fun ρ en h H ds vs Q0 E0 R N r q k kx => hgl ρ h H ds vs Q Q0 R r q k
def bvStr : BV → Str
  | .fn x _ => x
  | .ty x _ => x
theorem se_bi {f : BI} {p : Pos} {bv : BV} (hf : biName f = some bv) (hcalm : X.calm = true) (hgd : X.A.guards = some []) (hu : X.A.units + 68 < cLine) (hg : Gl X (bvStr bv)) (hm : X.mg (bvStr bv) = none)
    (he : starEach (e :: es) X.env = (false, eval e X.env) :: starEach es X.env) (hpl : (backTo pos (starEach es X.env)).any (·.1) = false) (hs : SA X fa xa W (e :: es) ψ) :
    SE X fa xa W (.Call (.Name (bvStr bv) p) (e :: es) [] pos) fun en h Q E => ψ en h (fun ds h1 => PQ (biop f ds h1) Q) E := by
  cases f with
  | len => cases hf; exact se_biF call_len g_len hg hm (by decide +kernel) (by decide +kernel) (by decide +kernel) he hpl hs
  | all => cases hf; exact se_biF (cr_all hcalm) g_all hg hm (by decide +kernel) (by decide +kernel) (by decide +kernel) he hpl hs
  | any => cases hf; exact se_biF (cr_any hcalm) g_any hg hm (by decide +kernel) (by decide +kernel) (by decide +kernel) he hpl hs
  | sum => cases hf; exact se_biF (cr_sum hcalm) g_sum hg hm (by decide +kernel) (by decide +kernel) (by decide +kernel) he hpl hs
  | max2 => cases hf; exact se_biF (call_max2 hcalm) g_max2 hg hm (by decide +kernel) (by decide +kernel) (by decide +kernel) he hpl hs
  | min2 => cases hf; exact se_biF (call_min2 hcalm) g_min2 hg hm (by decide +kernel) (by decide +kernel) (by decide +kernel) he hpl hs
  | repr => cases hf; exact se_biF (call_reprD hgd (by omega)) g_repr hg hm (by decide +kernel) (by decide +kernel) (by decide +kernel) he hpl hs
  | sorted => cases hf; exact se_biF (call_sortD hu) g_sorted hg hm (by decide +kernel) (by decide +kernel) (by decide +kernel) he hpl hs
  | tupleOf => cases hf; exact se_biT call_tuple_of g_tupleOf hg hm (by decide +kernel) (by decide +kernel) (by decide +kernel) he hpl hs
  | listOf => cases hf; exact se_biT call_list_of g_listOf hg hm (by decide +kernel) (by decide +kernel) (by decide +kernel) he hpl hs
  | intOf => cases hf; exact se_biT call_int1 g_intOf hg hm (by decide +kernel) (by decide +kernel) (by decide +kernel) he hpl hs
  | strOf => cases hf; exact se_biT call_str_int g_strOf hg hm (by decide +kernel) (by decide +kernel) (by decide +kernel) he hpl hs
  | _ => cases hf
end
end Mp
namespace Mp
open PySem PySem.Spec PyProof.Rows L2

/-- a def's promise where no repr runs around it -/
structure FnG (P : Program) (w : World) (K : PySem.W.Frag) (mg : Str → Option Value) (base : Heap) (k : Nat) (f : Addr) (fd : FuncData) (ps : List Str) (sp : Sp) : Prop where
  run : ∀ (A : Around) (outer : List Env) (s : Shared) (H : Hp) (args : Args) (us : List Value) (vs : List V) (Q : VK) (E : XK), A.guards = some [] → Room k A → Env0 P w K mg base A outer s H → BindsTo s fd args (ps.zip us) → Vals vs us → sp vs H Q E →
    codeAny (model P w) A (.call (.ref f) args) (CR (L2.CX P w) outer P w H s Q E) s
/-- what a call asks, by the small semantics -/
def spG (K : PySem.W.Frag) (fa : Nat → Option Addr) (xa : Nat → Option (Value × List Str)) (Φ : Phi) (f : Nat) : Sp := fun vs H Q E => ∃ ρ h ds Q0 E0, RH K fa ρ h H ∧ RDs K fa ρ H ds vs ∧ Φ f ds h Q0 E0 ∧ Then K fa ρ H Q0 Q ∧ ThenX K fa xa ρ H E0 E
structure CallOk (X : Cx) (fa : Nat → Option Addr) (xa : Nat → Option (Value × List Str)) (Φ : Phi) (f : Nat) (x : Str) : Prop where
  ex : ∃ (k : Nat) (a : Addr) (fd : FuncData) (ps : List Str), X.mg x = some (.ref a) ∧ fa f = some a ∧ PySem.W.keepIn X.K (.ref a) = true ∧ Binds X.K fd ps [] ∧ FnG X.prog X.w X.K X.mg X.base k a fd ps (spG X.K fa xa Φ f) ∧ Room k X.A ∧
    ∀ ds h Q E, Φ f ds h Q E → ds.length = ps.length

section
variable {X : Cx} {fa : Nat → Option Addr} {xa : Nat → Option (Value × List Str)} {W : WX} {e : Expr} {es : List Expr} {ψ : WL} {pos p : Pos} {Φ : Phi} {f : Nat} {x : Str}
theorem call_run {pins : List (Addr × Obj)} {σ : L2.St} {H : Hp} {s : Shared} {Q : VK} {us : List Value} {vs : List V} {k : Nat} {a : Addr} {fd : FuncData} {ps : List Str} {sp : Sp} (hg : X.A.guards = some []) (F : FnG X.prog X.w X.K X.mg X.base k a fd ps sp) (hr : Room k X.A) (hb : Binds X.K fd ps [])
    (tk : Takes X W) (I : Inv X pins σ H s) (r : Vals vs us) (hl : vs.length = ps.length) (h : sp vs H Q (fun c d H2 => W c d σ H2)) : wpAny (model X.prog X.w) X.A (call (.ref a) us) (EP X pins σ Q) X.xe s := by
  have hlu : (us ++ []).length = ps.length := by rw [List.append_nil, ← r.length, hl]
  have hbt := hb s us I.kIn hlu
  rw [List.append_nil] at hbt
  refine wpAny_call (codeAny_mono (F.run X.A X.stack s H ⟨us, []⟩ us vs Q _ hg hr I.env0 hbt r h) fun res s2 hq => ?_)
  cases res with
  | error er => exact tk er s2 (XE.of_call I (fun _ _ _ z => z) hq)
  | ok fl =>
    cases fl with
    | ret u => exact I.after hq
    | next => exact hq.elim
    | brk => exact hq.elim
    | cont => exact hq.elim
theorem se_call (hgd : X.A.guards = some []) (hg : Gl X x) (hdb : (x == ("__debug__" : Str)) = false) (C : CallOk X fa xa Φ f x) (tk : Takes X W) (hs : SA X fa xa W (e :: es) ψ)
    (h1 : starEach (e :: es) X.env = (false, eval e X.env) :: starEach es X.env) (h2 : (backTo pos (starEach es X.env)).any (·.1) = false) :
    SE X fa xa W (.Call (.Name x p) (e :: es) [] pos) fun en h Q E => ψ en h (fun ds h1 => Φ f ds h1 Q E) E := by
  obtain ⟨k, a, fd, ps, hm, hfa, hk, hb, F, hr, hlen⟩ := C.ex
  refine .of ⟨fun pins s σ H Q I w => ?_⟩ (fun _ _ => rfl) (fun _ _ _ z => nomatch z) fun _ => rfl
  have w2 : RA X.K fa xa W ψ σ H fun vs H1 => vs.length = ps.length ∧ spG X.K fa xa Φ f vs H1 Q (fun c d H2 => W c d σ H2) :=
    RA.use (f := fun _ ds h1 Q E => Φ f ds h1 Q E) w fun ρ en h H ds vs Q0 E0 R N r q kq kx => ⟨by rw [← r.length]; exact hlen _ _ _ _ q, ρ, h, ds, Q0, E0, R, r, q, kq, kx⟩
  refine wpAny_Call_Name_kw (ld_glob I hg hm ?_ hdb)
  refine PySem.W.callWith_K (h₀ := X.base) I.ok.mod.kin hk (thn (hs.pa.run pos pins s σ H _ I w2) fun us s1 ⟨vs, H1, I1, r1, hl, q⟩ => ⟨I1.kIn, ?_⟩) h1 h2
  exact call_run hgd F hr hb tk I1 r1 hl q
theorem se_call0 (hgd : X.A.guards = some []) (hg : Gl X x) (hdb : (x == ("__debug__" : Str)) = false) (C : CallOk X fa xa Φ f x) (tk : Takes X W) :
    SE X fa xa W (.Call (.Name x p) [] [] pos) fun en h Q E => Φ f [] h Q E := by
  obtain ⟨k, a, fd, ps, hm, hfa, hk, hb, F, hr, hlen⟩ := C.ex
  refine .of ⟨fun pins s σ H Q I ⟨ρ, en, h, Q0, E0, R, N, q, kq, kx⟩ => ?_⟩ (fun _ _ => rfl) (fun _ _ _ z => nomatch z) fun _ => rfl
  refine wpAny_Call_Name_kw (ld_glob I hg hm ?_ hdb)
  exact PySem.W.callWith_K0 I.kIn hk (call_run hgd F hr hb tk I .nil (hlen _ _ _ _ q) ⟨ρ, h, [], Q0, E0, R, .nil, q, kq, kx⟩)

/-! ### isinstance -/
theorem se_isi {t : TY} {p2 : Pos} {φ : WE} (hg : Gl X "isinstance") (hm : X.mg "isinstance" = none) (hg2 : Gl X (Str.ofString (tyOf t))) (hm2 : X.mg (Str.ofString (tyOf t)) = none) (ha : SE X fa xa W e φ) :
    SE X fa xa W (.Call (.Name "isinstance" p) [e, .Name (Str.ofString (tyOf t)) p2] [] pos) fun en h Q E => φ en h (fun x h1 => PQ (biop (.isinst t) [x] h1) Q) E := by
  have pt : PE X (.Name (Str.ofString (tyOf t)) p2) (tC (.ty (tyOf t))) := by
    cases t with
    | int => exact pe_bltn (u := .type "int") hg2 hm2 (by decide +kernel) rfl (by decide +kernel) (by decide +kernel)
    | bool => exact pe_bltn (u := .type "bool") hg2 hm2 (by decide +kernel) rfl (by decide +kernel) (by decide +kernel)
    | str => exact pe_bltn (u := .type "str") hg2 hm2 (by decide +kernel) rfl (by decide +kernel) (by decide +kernel)
    | tuple => exact pe_bltn (u := .type "tuple") hg2 hm2 (by decide +kernel) rfl (by decide +kernel) (by decide +kernel)
  refine .of ((pe_callB call_isi hg hm (by decide +kernel) (pa_cons ha.pe (pa_cons pt pa_nil) (ha.ns _ _)) (by decide +kernel) (by decide +kernel) (ha.ns _ _)).wk fun σ H Q w => ?_) (fun _ _ => rfl) (fun _ _ _ z => nomatch z) fun _ => rfl
  refine RE.one (f := fun _ x h1 Q _ => PQ (biop (.isinst t) [x] h1) Q) w fun ρ en h H x v Q0 E0 R N r q k kx => ?_
  have q : PQ ((isT t x).map fun b => (D.bl b, h)) Q0 := q
  rw [PQ_OQ] at q
  obtain ⟨⟨d, h2⟩, e1, q⟩ := OQ_some q
  obtain ⟨b, e2, e3⟩ := Option.map_eq_some_iff.mp e1
  cases e3
  obtain ⟨ty, t1, t2⟩ := r.tyx R e2
  exact ⟨v, .ty (tyOf t), ty, .type (tyOf t), b, rfl, .ty _, t1, t2, k.here R (.bl b) q⟩
end
end Mp
namespace Mp
open PySem PySem.Spec PyProof.Rows L2

/-- an iterator that yields our items, while ours grow -/
structure ItOk (K : PySem.W.Frag) (fa : Nat → Option Addr) (J : It) (S : List (Nat × List D)) (xs : List D) (ρ0 : List Addr) (H0 : Hp) : Prop where
  stop : ∀ (i : Nat) ρ h H, Ext K ρ0 H0 ρ H → RH K fa ρ h H → Stand S h → xs.length ≤ i → J.stop i H
  go : ∀ (i : Nat) ρ h H, Ext K ρ0 H0 ρ H → RH K fa ρ h H → Stand S h → i < xs.length → J.go i H
  yld : ∀ (i : Nat) ρ h H x v H2, Ext K ρ0 H0 ρ H → RH K fa ρ h H → Stand S h → xs[i]? = some x → J.yld i H v H2 → Ext K ρ H ρ H2 ∧ RH K fa ρ h H2 ∧ RD K fa ρ H2 x v
def RI (K : PySem.W.Frag) (fa : Nat → Option Addr) (xa : Nat → Option (Value × List Str)) (W : WX) (k : IK) (ψ : WL) : TI := fun σ H R => ∃ (ρ : List Addr) (en : En) (h : MH) (Kc : List D × List (Nat × List D) → MH → Prop) (E0 : QX), RH K fa ρ h H ∧ REn K fa ρ H en σ ∧ ψ en h (fun ds h1 => OQ (itemsOf k ds h1) fun p => Kc p h1) E0 ∧
  (∀ (p : List D × List (Nat × List D)) J h1 ρ1 H1, Ext K ρ H ρ1 H1 → RH K fa ρ1 h1 H1 → ItOk K fa J p.2 p.1 ρ1 H1 → Kc p h1 → R J H1) ∧ ThenX K fa xa ρ H E0 (fun c d H2 => W c d σ H2)
theorem _root_.L2.PI.wk {X : Cx} {tg e : Expr} {t t2 : TI} (p : PI X tg e t) (c : ∀ σ H Q, t2 σ H Q → t σ H Q) : PI X tg e t2 := ⟨fun pins s σ H Q I q => p.run pins s σ H Q I (c _ _ _ q)⟩

section
variable {X : Cx} {fa : Nat → Option Addr} {xa : Nat → Option (Value × List Str)} {W : WX} {e a b tg : Expr} {es : List Expr} {φ φa φb : WE} {ψ : WL} {pos p : Pos} {ρ0 : List Addr} {H0 : Hp}

theorem ItOk.list {n : Nat} {xs : List D} {ad : Addr} (hn : ρ0[n]? = some ad) : ItOk X.K fa (Itl X.K ad) [(n, xs)] xs ρ0 H0 where
  stop := fun i ρ h H e R S hi => by
    obtain ⟨t, rfl⟩ := e.pre
    obtain ⟨vs, s1, r1⟩ := R.lst (S _ List.mem_cons_self) (by rw [List.getElem?_append_left (List.getElem?_eq_some_iff.mp hn).1]; exact hn)
    exact ⟨vs, s1, by rw [← r1.length]; exact hi⟩
  go := fun i ρ h H e R S hi => by
    obtain ⟨t, rfl⟩ := e.pre
    obtain ⟨vs, s1, r1⟩ := R.lst (S _ List.mem_cons_self) (by rw [List.getElem?_append_left (List.getElem?_eq_some_iff.mp hn).1]; exact hn)
    obtain ⟨v, e1, _⟩ := r1.get (List.getElem?_eq_getElem hi)
    exact ⟨vs, v, s1, e1⟩
  yld := fun i ρ h H x v H2 e R S hi y => by
    obtain ⟨t, rfl⟩ := e.pre
    obtain ⟨vs, s1, r1⟩ := R.lst (S _ List.mem_cons_self) (by rw [List.getElem?_append_left (List.getElem?_eq_some_iff.mp hn).1]; exact hn)
    obtain ⟨rfl, y⟩ := y
    obtain ⟨w, e1, r⟩ := r1.get hi
    have := y vs s1
    rw [e1] at this; cases this
    exact ⟨.refl, R, r⟩
theorem ItOk.tup {xs : List D} {vs : List V} {ad : Addr} (hs : TupAt X.K H0 ad vs) (hr : RDs X.K fa ρ0 H0 xs vs) : ItOk X.K fa (Itt X.K ad) [] xs ρ0 H0 where
  stop := fun i ρ h H e R S hi => ⟨vs, (e.tup _ _ hs).sq, by rw [← hr.length]; exact hi⟩
  go := fun i ρ h H e R S hi => by
    obtain ⟨v, e1, _⟩ := hr.get (List.getElem?_eq_getElem hi)
    exact ⟨vs, v, (e.tup _ _ hs).sq, e1⟩
  yld := fun i ρ h H x v H2 e R S hi y => by
    obtain ⟨rfl, y⟩ := y
    obtain ⟨w, e1, r⟩ := hr.get hi
    have := y vs (e.tup _ _ hs).sq
    rw [e1] at this; cases this
    exact ⟨.refl, R, r.mono e⟩
theorem ItOk.rng {lo : Int} {n : Nat} : ItOk X.K fa (Itr lo n) [] ((List.range n).map fun (i : Nat) => D.int (lo + i)) ρ0 H0 where
  stop := fun i ρ h H e R S hi => by
    rw [List.length_map, List.length_range] at hi
    exact hi
  go := fun i ρ h H e R S hi => by
    rw [List.length_map, List.length_range] at hi
    exact hi
  yld := fun i ρ h H x v H2 e R S hi y => by
    obtain ⟨rfl, rfl⟩ := y
    rw [List.getElem?_map] at hi
    have hl : i < n := by
      by_cases hl : i < n
      · exact hl
      · rw [List.getElem?_eq_none (by simpa using hl)] at hi; cases hi
    rw [List.getElem?_range hl] at hi
    cases hi
    exact ⟨.refl, R, .int _⟩
/-- a list or a tuple, whichever comes -/
theorem si_val (ha : SE X fa xa W e φ) : PI X tg e (RI X.K fa xa W .val fun en h Q E => φ en h (fun x h1 => Q [x] h1) E) := by
  refine ⟨fun pins s σ H R I w => ?_⟩
  obtain ⟨ρ, en, h, Kc, E0, RR, N, q, k, kx⟩ := w
  have w2 : RE X.K fa xa W φ σ H fun v H1 => (∃ ad, v = .ref ad ∧ (∃ us, SqL X.K H1 ad us) ∧ R (Itl X.K ad) H1) ∨ ∃ ad, v = .ref ad ∧ (∃ us, SqT X.K H1 ad us) ∧ R (Itt X.K ad) H1 := by
    refine ⟨ρ, en, h, _, E0, RR, N, q, fun d h2 v ρ2 H2 e1 R2 r q2 => ?_, kx⟩
    obtain ⟨pp, e2, q3⟩ := OQ_some q2
    cases r with
    | @tup xs us ad s1 r1 => cases e2; exact .inr ⟨ad, rfl, ⟨us, s1.sq⟩, k _ _ h2 ρ2 H2 e1 R2 (.tup s1 r1) q3⟩
    | @ref n ad ra =>
      obtain ⟨xs, e3, e4⟩ := Option.map_eq_some_iff.mp (show (lstAt h2 n).map (fun xs => (xs, [(n, xs)])) = some pp from e2)
      cases e4
      obtain ⟨us, s1, r1⟩ := R2.lst e3 ra
      exact .inl ⟨ad, rfl, ⟨us, s1⟩, k _ _ h2 ρ2 H2 e1 R2 (.list ra) q3⟩
    | _ => cases e2
  refine thn (ha.pe.run pins s σ H _ I w2) fun v s1 ⟨x, H1, I1, r1, q1⟩ => ?_
  rcases q1 with ⟨ad, rfl, ⟨xs, hq⟩, q⟩ | ⟨ad, rfl, ⟨xs, hq⟩, q⟩
  · cases r1
    obtain ⟨its, rv, pl, hz⟩ := I1.list hq
    refine wpAny_pyIter_list pl.isList ?_
    refine ⟨s1.heap.objs.size, [s1.heap.objs.size], _, _, H1, rfl, I1.kept (t' := s1.toks) fun b o e => Heap.get?_push_of_some _ e, turn_list ad _, ⟨_, Heap.get?_push_size _ rfl, rfl, rfl⟩, fun b hb => ?_, q⟩
    have e : b = s1.heap.objs.size := by simpa using hb
    subst e
    exact I1.fpOk (Nat.le_refl _) (I1.hok.fresh (Nat.le_refl _))
  · cases r1
    obtain ⟨its, rv, pl, hz⟩ := I1.tuple hq
    refine wpAny_pyIter_tuple (show s1.heap.IsTuple ad its.toArray from pl) ?_
    refine ⟨s1.heap.objs.size, [s1.heap.objs.size], _, _, H1, rfl, I1.kept (t' := s1.toks) fun b o e => Heap.get?_push_of_some _ e, turn_tuple ad _, ⟨_, Heap.get?_push_size _ rfl, rfl, rfl⟩, fun b hb => ?_, q⟩
    have e : b = s1.heap.objs.size := by simpa using hb
    subst e
    exact I1.fpOk (Nat.le_refl _) (I1.hok.fresh (Nat.le_refl _))
theorem si_rng1 (hg : Gl X "range") (hm : X.mg "range" = none) (hs : SA X fa xa W [a] ψ) (hst : starEach [a] X.env = [(false, eval a X.env)]) : PI X tg (.Call (.Name "range" p) [a] [] pos) (RI X.K fa xa W .rng1 ψ) := by
  refine (pi_range1 hg hm hs.pa hst).wk fun σ H R ⟨ρ, en, h, Kc, E0, RR, N, q, k, kx⟩ => ?_
  refine ⟨ρ, en, h, _, E0, RR, N, q, fun ds h2 vs ρ2 H2 e1 R2 r q2 => ?_, kx⟩
  obtain ⟨pp, e2, q3⟩ := OQ_some q2
  cases r with
  | nil => cases e2
  | cons r1 r2 =>
    cases r2 with
    | cons _ _ => (cases r1 <;> cases e2)
    | nil =>
      cases r1 with
      | int j =>
        have e2 : (if -B62 ≤ j ∧ j < B62 then some ((List.range j.toNat).map fun (i : Nat) => D.int i, ([] : List (Nat × List D))) else none) = some pp := e2
        by_cases hb : -B62 ≤ j ∧ j < B62
        · rw [if_pos hb] at e2
          cases e2
          rw [B62_eq] at hb
          refine ⟨j, rfl, hb.1, hb.2, k _ _ h2 ρ2 H2 e1 R2 ?_ q3⟩
          have z := ItOk.rng (X := X) (fa := fa) (lo := 0) (n := j.toNat) (ρ0 := ρ2) (H0 := H2)
          simp only [Int.zero_add] at z
          exact z
        · rw [if_neg hb] at e2; cases e2
      | _ => cases e2
theorem si_rng2 (hg : Gl X "range") (hm : X.mg "range" = none) (hs : SA X fa xa W [a, b] ψ) (hst : starEach [a, b] X.env = [(false, eval a X.env), (false, eval b X.env)]) (hst2 : starEach [b] X.env = [(false, eval b X.env)]) :
    PI X tg (.Call (.Name "range" p) [a, b] [] pos) (RI X.K fa xa W .rng2 ψ) := by
  refine (pi_range2 hg hm hs.pa hst hst2).wk fun σ H R ⟨ρ, en, h, Kc, E0, RR, N, q, k, kx⟩ => ?_
  refine ⟨ρ, en, h, _, E0, RR, N, q, fun ds h2 vs ρ2 H2 e1 R2 r q2 => ?_, kx⟩
  obtain ⟨pp, e2, q3⟩ := OQ_some q2
  cases r with
  | nil => cases e2
  | cons r1 r2 =>
    cases r2 with
    | nil => (cases r1 <;> cases e2)
    | cons r3 r4 =>
      cases r4 with
      | cons _ _ => (cases r1 <;> cases r3 <;> cases e2)
      | nil =>
        cases r1 with
        | int i =>
          cases r3 with
          | int j =>
            have e2 : (if -B62 ≤ i ∧ i < B62 ∧ -B62 ≤ j ∧ j < B62 then some ((List.range (j - i).toNat).map fun (k : Nat) => D.int (i + k), ([] : List (Nat × List D))) else none) = some pp := e2
            by_cases hb : -B62 ≤ i ∧ i < B62 ∧ -B62 ≤ j ∧ j < B62
            · rw [if_pos hb] at e2
              cases e2
              rw [B62_eq] at hb
              exact ⟨i, j, rfl, hb, k _ _ h2 ρ2 H2 e1 R2 .rng q3⟩
            · rw [if_neg hb] at e2; cases e2
          | _ => cases e2
        | _ => (cases r3 <;> cases e2)
theorem zip_get {xs ys : List D} {i : Nat} {x : D} (h : ((xs.zip ys).map fun q => D.tup [q.1, q.2])[i]? = some x) : ∃ u w, xs[i]? = some u ∧ ys[i]? = some w ∧ x = .tup [u, w] := by
  rw [List.getElem?_map] at h
  obtain ⟨⟨u, w⟩, h1, rfl⟩ := Option.map_eq_some_iff.mp h
  obtain ⟨h2, h3⟩ := List.getElem?_zip_eq_some.mp h1
  exact ⟨u, w, h2, h3, rfl⟩
theorem pair_new {ρ : List Addr} {h : MH} {H : Hp} {T : Addr} {u w : D} {x y : V} (R : RH X.K fa ρ h H) (hn : H T = none) (ru : RD X.K fa ρ H u x) (rw_ : RD X.K fa ρ H w y) :
    Ext X.K ρ H ρ (upd H T (.tup [x, y])) ∧ RH X.K fa ρ h (upd H T (.tup [x, y])) ∧ RD X.K fa ρ (upd H T (.tup [x, y])) (.tup [u, w]) (.ref T) :=
  have e := Ext.newTup (K := X.K) (vs := [x, y]) hn (R.notin hn)
  ⟨e, R.newTup hn, .tup TupAt.new (.cons (ru.mono e) (.cons (rw_.mono e) .nil))⟩
theorem ItOk.zipT {xs ys : List D} {vs us : List V} {ad bd : Addr} (hs : TupAt X.K H0 ad vs) (hr : RDs X.K fa ρ0 H0 xs vs) (hs2 : TupAt X.K H0 bd us) (hr2 : RDs X.K fa ρ0 H0 ys us) : ItOk X.K fa (RZ.ItzT X.K ad bd) [] ((xs.zip ys).map fun q => .tup [q.1, q.2]) ρ0 H0 where
  stop := fun i ρ h H e R S hi => by
    rw [List.length_map, List.length_zip, hr.length, hr2.length] at hi
    exact ⟨vs, us, (e.tup _ _ hs).sq, (e.tup _ _ hs2).sq, by omega⟩
  go := fun i ρ h H e R S hi => by
    obtain ⟨u, w, h1, h2, _⟩ := zip_get (List.getElem?_eq_getElem hi)
    obtain ⟨x, e1, _⟩ := hr.get h1
    obtain ⟨y, e2, _⟩ := hr2.get h2
    exact ⟨vs, us, x, y, (e.tup _ _ hs).sq, (e.tup _ _ hs2).sq, e1, e2⟩
  yld := fun i ρ h H x v H2 e R S hi y => by
    obtain ⟨u, w, h1, h2, rfl⟩ := zip_get hi
    obtain ⟨x', e1, r1⟩ := hr.get h1
    obtain ⟨y', e2, r2⟩ := hr2.get h2
    obtain ⟨T, xv, yv, rfl, hn, rfl, f1, f2⟩ := y
    have z1 := f1 _ (e.tup _ _ hs).sq
    have z2 := f2 _ (e.tup _ _ hs2).sq
    rw [e1] at z1; rw [e2] at z2
    cases z1; cases z2
    exact pair_new R hn (r1.mono e) (r2.mono e)
theorem ItOk.zipL {xs ys : List D} {n m : Nat} {ad bd : Addr} (hn : ρ0[n]? = some ad) (hm : ρ0[m]? = some bd) : ItOk X.K fa (Itz X.K ad bd) [(n, xs), (m, ys)] ((xs.zip ys).map fun q => .tup [q.1, q.2]) ρ0 H0 := by
  have get : ∀ ρ h H, Ext X.K ρ0 H0 ρ H → RH X.K fa ρ h H → Stand [(n, xs), (m, ys)] h → (∃ vs, SqL X.K H ad vs ∧ RDs X.K fa ρ H xs vs) ∧ ∃ us, SqL X.K H bd us ∧ RDs X.K fa ρ H ys us := fun ρ h H e R S => by
    obtain ⟨t, rfl⟩ := e.pre
    exact ⟨R.lst (S _ List.mem_cons_self) (by rw [List.getElem?_append_left (List.getElem?_eq_some_iff.mp hn).1]; exact hn),
      R.lst (S _ (List.mem_cons_of_mem _ List.mem_cons_self)) (by rw [List.getElem?_append_left (List.getElem?_eq_some_iff.mp hm).1]; exact hm)⟩
  refine ⟨fun i ρ h H e R S hi => ?_, fun i ρ h H e R S hi => ?_, fun i ρ h H x v H2 e R S hi y => ?_⟩
  · obtain ⟨⟨vs, hs, hr⟩, us, hs2, hr2⟩ := get ρ h H e R S
    rw [List.length_map, List.length_zip, hr.length, hr2.length] at hi
    exact ⟨vs, us, hs, hs2, by omega⟩
  · obtain ⟨⟨vs, hs, hr⟩, us, hs2, hr2⟩ := get ρ h H e R S
    obtain ⟨u, w, h1, h2, _⟩ := zip_get (List.getElem?_eq_getElem hi)
    obtain ⟨x, e1, _⟩ := hr.get h1
    obtain ⟨y, e2, _⟩ := hr2.get h2
    exact ⟨vs, us, x, y, hs, hs2, e1, e2⟩
  · obtain ⟨⟨vs, hs, hr⟩, us, hs2, hr2⟩ := get ρ h H e R S
    obtain ⟨u, w, h1, h2, rfl⟩ := zip_get hi
    obtain ⟨x', e1, r1⟩ := hr.get h1
    obtain ⟨y', e2, r2⟩ := hr2.get h2
    obtain ⟨T, xv, yv, rfl, hn, rfl, f1, f2⟩ := y
    have z1 := f1 _ hs
    have z2 := f2 _ hs2
    rw [e1] at z1; rw [e2] at z2
    cases z1; cases z2
    exact pair_new R hn r1 r2
theorem si_zip {elts : List Expr} {kk : Nat} {tpos : Pos} (hg : Gl X "zip") (hm : X.mg "zip" = none) (hs : SA X fa xa W [a, b] ψ) (hst : starEach [a, b] X.env = (false, eval a X.env) :: starEach [b] X.env) (hpl : (backTo pos (starEach [b] X.env)).any (·.1) = false) :
    PI X (.Tuple elts kk tpos) (.Call (.Name "zip" p) [a, b] [] pos) (RI X.K fa xa W .zip ψ) := by
  refine (RZ.pi_zipA hg hm hs.pa hst hpl).wk fun σ H R ⟨ρ, en, h, Kc, E0, RR, N, q, k, kx⟩ => ?_
  refine ⟨ρ, en, h, _, E0, RR, N, q, fun ds h2 vs ρ2 H2 e1 R2 r q2 => ?_, kx⟩
  obtain ⟨pp, e2, q3⟩ := OQ_some q2
  cases r with
  | nil => cases e2
  | cons r1 r2 =>
    cases r2 with
    | nil => (cases r1 <;> cases e2)
    | cons r3 r4 =>
      cases r4 with
      | cons _ _ => (cases r1 <;> cases r3 <;> cases e2)
      | nil =>
        cases r1 with
        | @tup xs us ad s1 q1 =>
          cases r3 with
          | @tup ys ws bd s2 t2 => cases e2; exact ⟨ad, bd, us, ws, rfl, .inr ⟨s1.sq, s2.sq, k _ _ h2 ρ2 H2 e1 R2 (.zipT s1 q1 s2 t2) q3⟩⟩
          | _ => cases e2
        | @ref n ad ra =>
          cases r3 with
          | @ref m bd rb =>
            have e2 : (match lstAt h2 n, lstAt h2 m with | some xs, some ys => some ((xs.zip ys).map fun p => D.tup [p.1, p.2], [(n, xs), (m, ys)]) | _, _ => none) = some pp := e2
            split at e2
            · rename_i xs ys z1 z2
              cases e2
              obtain ⟨us, s1, t1⟩ := R2.lst z1 ra
              obtain ⟨ws, s2, t2⟩ := R2.lst z2 rb
              exact ⟨ad, bd, us, ws, rfl, .inl ⟨s1, s2, k _ _ h2 ρ2 H2 e1 R2 (.zipL ra rb) q3⟩⟩
            · cases e2
          | _ => cases e2
        | _ => (cases r3 <;> cases e2)
end
end Mp
namespace Mp
open PySem PySem.Spec PyProof.Rows L2

/-! ### targets -/
structure SG (X : Cx) (fa : Nat → Option Addr) (tg : Expr) (t : TGt) (g : TG) : Prop where
  pg : PG X tg g
  ok : ∀ ρ h H en (σ : L2.St) d v en2 (Q : L2.St → Hp → Prop), RH X.K fa ρ h H → REn X.K fa ρ H en σ → RD X.K fa ρ H d v → bindT t d en = some en2 →
    (∀ σ2 : L2.St, REn X.K fa ρ H en2 σ2 → (∀ i, i ∉ t.slots → σ2[i]? = σ[i]?) → σ2.length = σ.length → Q σ2 H) → g v σ H Q
structure SGs (X : Cx) (fa : Nat → Option Addr) (es : List Expr) (is : List Nat) (g : TGs) : Prop where
  pg : PGs X es g
  ok : ∀ ρ H ds vs en (σ : L2.St) (Q : L2.St → Hp → Prop), REn X.K fa ρ H en σ → RDs X.K fa ρ H ds vs → is.length = ds.length →
    (∀ σ2 : L2.St, REn X.K fa ρ H ((is.zip ds).foldl (fun e p => e.set p.1 (some p.2)) en) σ2 → (∀ i, i ∉ is → σ2[i]? = σ[i]?) → σ2.length = σ.length → Q σ2 H) → g vs σ H Q
  ln : ∀ env, (assignEach es env).length = is.length ∧ (assignEach es env).findIdx? (·.1) = none
section
variable {X : Cx} {fa : Nat → Option Addr} {xa : Nat → Option (Value × List Str)} {W : WX} {e a b tg iter : Expr} {es : List Expr} {φ φa φb : WE} {ψ : WL} {pos p : Pos} {K : PySem.W.Frag}

theorem REn.set {ρ : List Addr} {H : Hp} {en : En} {σ : L2.St} {d : D} {v : V} (N : REn K fa ρ H en σ) (r : RD K fa ρ H d v) (i : Nat) : REn K fa ρ H (en.set i (some d)) (σ.set i (some v)) := by
  refine ⟨by simp [N.len], fun j d2 e => ?_⟩
  by_cases hj : i = j
  · subst hj
    by_cases hl : i < en.length
    · rw [List.getElem?_set_self hl] at e
      cases e
      exact ⟨v, List.getElem?_set_self (by rw [← N.len]; exact hl), r⟩
    · rw [List.getElem?_eq_none (by simpa using hl)] at e; cases e
  · rw [List.getElem?_set_ne hj] at e
    obtain ⟨w, e1, r1⟩ := N.at_ j d2 e
    exact ⟨w, by rw [List.getElem?_set_ne hj]; exact e1, r1⟩
theorem REn.wipe {ρ : List Addr} {H : Hp} {en : En} {σ : L2.St} (N : REn K fa ρ H en σ) : ∀ is : List Nat, REn K fa ρ H (wipeD en is) (L2.wipe σ is)
  | [] => N
  | i :: is => by
    have ih := REn.wipe N is
    show REn K fa ρ H ((wipeD en is).set i none) ((L2.wipe σ is).set i none)
    refine ⟨by simp [ih.len], fun j d2 e => ?_⟩
    by_cases hj : i = j
    · subst hj
      by_cases hl : i < (wipeD en is).length
      · rw [List.getElem?_set_self hl] at e; cases e
      · rw [List.getElem?_eq_none (by simpa using hl)] at e; cases e
    · rw [List.getElem?_set_ne hj] at e
      obtain ⟨w, e1, r1⟩ := ih.at_ j d2 e
      exact ⟨w, by rw [List.getElem?_set_ne hj]; exact e1, r1⟩
theorem sg_name {i : Nat} {x : Str} (hN : X.N.Nodup) (hi : X.N[i]? = some x) (hx : Loc X.env.scope x) (hf : X.fn x = true ∨ X.env.scope.names.lookup x = some .local) : SG X fa (.Name x pos) (.name i) (gName i) :=
  ⟨pg_name hN hi hx hf, fun ρ h H en σ d v en2 Q R N r e q => by
    cases e
    exact q _ (N.set r i) (fun j hj => List.getElem?_set_ne fun z => hj (by rw [z]; exact List.mem_cons_self)) (by simp)⟩
theorem sgs_nil : SGs X fa [] [] gNil :=
  ⟨pgs_nil, fun ρ H ds vs en σ Q N r hl q => by
    cases ds with
    | cons _ _ => cases hl
    | nil => cases r; exact ⟨rfl, q σ N (fun _ _ => rfl) rfl⟩, fun env => ⟨rfl, rfl⟩⟩
theorem sgs_cons {i : Nat} {is : List Nat} {x : Str} {g : TGs} (hN : X.N.Nodup) (hi : X.N[i]? = some x) (hx : Loc X.env.scope x) (hf : X.fn x = true ∨ X.env.scope.names.lookup x = some .local) (S : SGs X fa es is g) :
    SGs X fa (.Name x pos :: es) (i :: is) (gCons (gName i) g) :=
  ⟨pgs_cons (pg_name hN hi hx hf) S.pg, fun ρ H ds vs en σ Q N r hl q => by
    cases r with
    | nil => cases hl
    | @cons d v ds vs r1 r2 =>
      refine ⟨v, vs, rfl, S.ok ρ H ds vs (en.set i (some d)) (σ.set i (some v)) Q (N.set r1 i) r2 (by simpa using hl) fun σ2 N2 f l => ?_⟩
      refine q σ2 N2 (fun j hj => ?_) (by rw [l]; simp)
      rw [f j fun z => hj (List.mem_cons_of_mem _ z)]
      exact List.getElem?_set_ne fun z => hj (by rw [z]; exact List.mem_cons_self), fun env => by
    obtain ⟨h1, h2⟩ := S.ln env
    refine ⟨by show (assignEach es env).length + 1 = _; rw [h1]; rfl, ?_⟩
    show (((false, assign (.Name x pos) env) :: assignEach es env).findIdx? (·.1)) = none
    rw [List.findIdx?_cons]
    simp [h2]⟩
theorem sg_tup {is : List Nat} {k : Nat} {g : TGs} (hc : X.calm = true) (S : SGs X fa es is g) : SG X fa (.Tuple es k pos) (.tup is) (gTup X.K is.length g) :=
  ⟨pg_tup hc S.pg (S.ln _).1 (S.ln _).2, fun ρ h H en σ d v en2 Q R N r e q => by
    cases r with
    | @tup ds vs ad s1 r1 =>
      have e : (if is.length = ds.length then some ((is.zip ds).foldl (fun e p => e.set p.1 (some p.2)) en) else none) = some en2 := e
      by_cases hl : is.length = ds.length
      · rw [if_pos hl] at e
        cases e
        exact ⟨ad, vs, rfl, s1.sq, by rw [← r1.length, hl], S.ok ρ H ds vs en σ Q N r1 hl q⟩
      · rw [if_neg hl] at e; cases e
    | _ => cases e⟩

/-! ### comprehensions -/
def ifsE (om : Bool) (φ : WE) : En → MH → (Bool → MH → Prop) → Prop := fun en h Kc => ifC om (φ en h) Kc h
def wComp (ψ : WL) (k : IK) (t : TGt) (om : Bool) (φc φe : WE) : WE := fun en h Q E => ψ en h (fun ds h1 => OQ (itemsOf k ds h1) fun p =>
  turns p.2 (fun x h2 Qn => OQ (bindT t x (wipeD en t.slots)) fun en2 => ifsE om φc en2 h2 fun b h3 => if b = true then φe en2 h3 (fun y h4 => Qn (some y) h4) (fun _ _ => False) else Qn none h3) p.1 [] h1 fun out h5 => PQ (newL h5 out) Q) E
abbrev W0 : WX := fun _ _ _ _ => False
/-- a comprehension's tests -/
def tIfs (K : PySem.W.Frag) (fa : Nat → Option Addr) (xa : Nat → Option (Value × List Str)) (om : Bool) (φc : WE) : TT := if om = true then tYes else tB (RE K fa xa W0 φc)
theorem wipe_set {σ : L2.St} : ∀ {vs : List Nat} {σ2 : L2.St}, (∀ i, i ∉ vs → σ2[i]? = σ[i]?) → σ2.length = σ.length → L2.wipe σ2 vs = L2.wipe σ vs := by
  intro vs σ2 f l
  apply List.ext_getElem?
  intro j
  by_cases hj : j ∈ vs
  · have none_ : ∀ (τ : L2.St) (ws : List Nat), j ∈ ws → (L2.wipe τ ws)[j]? = if j < τ.length then some none else none := by
      intro τ ws
      induction ws with
      | nil => intro h; cases h
      | cons w ws ih =>
        intro h
        show ((L2.wipe τ ws).set w none)[j]? = _
        by_cases hw : w = j
        · subst hw
          by_cases hl : w < τ.length
          · rw [List.getElem?_set_self (by rw [wipe_length]; exact hl), if_pos hl]
          · rw [List.getElem?_eq_none (by rw [List.length_set, wipe_length]; omega), if_neg hl]
        · rw [List.getElem?_set_ne hw]
          exact ih ((List.mem_cons.mp h).resolve_left fun z => hw z.symm)
    rw [none_ σ2 vs hj, none_ σ vs hj, l]
  · have keep : ∀ (τ : L2.St) (ws : List Nat), j ∉ ws → (L2.wipe τ ws)[j]? = τ[j]? := by
      intro τ ws
      induction ws with
      | nil => intro _; rfl
      | cons w ws ih =>
        intro h
        show ((L2.wipe τ ws).set w none)[j]? = _
        rw [List.getElem?_set_ne fun z => h (by rw [z]; exact List.mem_cons_self)]
        exact ih fun z => h (List.mem_cons_of_mem _ z)
    rw [keep σ2 vs hj, keep σ vs hj, f j hj]
theorem wipe_twice {σ : L2.St} {vs : List Nat} : L2.wipe (L2.wipe σ vs) vs = L2.wipe σ vs := by
  apply List.ext_getElem?
  intro j
  have keep : ∀ (τ : L2.St) (ws : List Nat), j ∉ ws → (L2.wipe τ ws)[j]? = τ[j]? := by
    intro τ ws
    induction ws with
    | nil => intro _; rfl
    | cons w ws ih =>
      intro h
      show ((L2.wipe τ ws).set w none)[j]? = _
      rw [List.getElem?_set_ne fun z => h (by rw [z]; exact List.mem_cons_self)]
      exact ih fun z => h (List.mem_cons_of_mem _ z)
  have none_ : ∀ (τ : L2.St) (ws : List Nat), j ∈ ws → (L2.wipe τ ws)[j]? = if j < τ.length then some none else none := by
    intro τ ws
    induction ws with
    | nil => intro h; cases h
    | cons w ws ih =>
      intro h
      show ((L2.wipe τ ws).set w none)[j]? = _
      by_cases hw : w = j
      · subst hw
        by_cases hl : w < τ.length
        · rw [List.getElem?_set_self (by rw [wipe_length]; exact hl), if_pos hl]
        · rw [List.getElem?_eq_none (by rw [List.length_set, wipe_length]; omega), if_neg hl]
      · rw [List.getElem?_set_ne hw]
        exact ih ((List.mem_cons.mp h).resolve_left fun z => hw z.symm)
  by_cases hj : j ∈ vs
  · rw [none_ _ vs hj, none_ _ vs hj, wipe_length]
  · rw [keep _ vs hj]
/-- the comprehension's reading, of ours -/
theorem lc_read {k : IK} {t : TGt} {g : TG} {om : Bool} {φc φe : WE} {own : List Nat} (ho : own = t.slots) (G : ∀ ρ h H en (σ : L2.St) d v en2 (Q : L2.St → Hp → Prop), RH X.K fa ρ h H → REn X.K fa ρ H en σ → RD X.K fa ρ H d v → bindT t d en = some en2 →
      (∀ σ2 : L2.St, REn X.K fa ρ H en2 σ2 → (∀ i, i ∉ t.slots → σ2[i]? = σ[i]?) → σ2.length = σ.length → Q σ2 H) → g v σ H Q) {σ : L2.St} {H : Hp} {Q : VK}
    (w : RE X.K fa xa W (wComp ψ k t om φc φe) σ H Q) : tLc (RI X.K fa xa W k ψ) g (tIfs X.K fa xa om φc) (RE X.K fa xa W0 φe) own σ H Q := by
  subst ho
  obtain ⟨ρ, en, h, Q0, E0, R, N, q, kq, kx⟩ := w
  refine ⟨ρ, en, h, fun p h1 => turns p.2 (fun x h2 Qn => OQ (bindT t x (wipeD en t.slots)) fun en2 => ifsE om φc en2 h2 fun b h3 => if b = true then φe en2 h3 (fun y h4 => Qn (some y) h4) (fun _ _ => False) else Qn none h3) p.1 [] h1 fun out h5 => PQ (newL h5 out) Q0,
    E0, R, N, q, fun pp J h1 ρ1 H1 e1 R1 hJ qp Dd hD => ?_, kx⟩
  obtain ⟨xs, S⟩ := pp
  have hJ : ItOk X.K fa J S xs ρ1 H1 := hJ
  generalize hone : (fun (x : D) (h2 : MH) (Qn : Option D → MH → Prop) => OQ (bindT t x (wipeD en t.slots)) fun en2 => ifsE om φc en2 h2 fun b h3 => if b = true then φe en2 h3 (fun y h4 => Qn (some y) h4) (fun _ _ => False) else Qn none h3) = one at qp
  refine ⟨fun i m H => ∃ (ρ2 : List Addr) (h2 : MH) (acc : List D) (avs : List V), H Dd = some (.lst avs) ∧ Dd ∉ ρ2 ∧ Ext X.K ρ1 H1 ρ2 H ∧ RH X.K fa ρ2 h2 H ∧ RDs X.K fa ρ2 H acc avs ∧ m = xs.length - i ∧ i ≤ xs.length ∧
    turns S one (xs.drop i) acc h2 fun out h5 => PQ (newL h5 out) Q0, ?_, ?_⟩
  · exact ⟨_, ρ1, h1, [], [], upd_same, R1.notin hD, Ext.newU hD, R1.newU hD, .nil, rfl, Nat.zero_le _, qp⟩
  · rintro i m H ⟨ρ2, h2, acc, avs, hDd, nD, e2, R2, ra, rfl, hi, qt⟩
    by_cases hlt : i < xs.length
    · rw [List.drop_eq_getElem_cons hlt] at qt
      obtain ⟨st, qt⟩ := qt
      refine .inr ⟨hJ.go i ρ2 h2 H e2 R2 st hlt, fun H' => ∃ (ρ2 : List Addr) (h2 : MH) (acc : List D) (avs : List V), H' Dd = some (.lst avs) ∧ Dd ∉ ρ2 ∧ Ext X.K ρ1 H1 ρ2 H' ∧ RH X.K fa ρ2 h2 H' ∧ RDs X.K fa ρ2 H' acc avs ∧ turns S one (xs.drop (i + 1)) acc h2 fun out h5 => PQ (newL h5 out) Q0,
        fun H' ⟨ρ3, h3, acc3, avs3, a1, a2, a3, a4, a5, a6⟩ => ⟨xs.length - (i + 1), by omega, ρ3, h3, acc3, avs3, a1, a2, a3, a4, a5, rfl, hlt, a6⟩, fun v H' y => ?_⟩
      obtain ⟨e3, R3, rv⟩ := hJ.yld i ρ2 h2 H xs[i] v H' e2 R2 st (List.getElem?_eq_getElem hlt) y
      rw [← hone] at qt
      obtain ⟨en2, hb, qt⟩ := OQ_some qt
      have N3 : REn X.K fa ρ2 H' (wipeD en t.slots) (L2.wipe σ t.slots) := REn.wipe (N.mono ((e1.trans e2).trans e3)) _
      refine G ρ2 h2 H' _ _ _ v en2 _ R3 N3 rv hb fun σ2 N4 f4 l4 => ⟨by rw [wipe_set f4 l4, wipe_twice], ?_⟩
      have hDd3 := e3.fr _ _ hDd nD
      have fin : ∀ b ρ5 h5 H5, Ext X.K ρ2 H' ρ5 H5 → RH X.K fa ρ5 h5 H5 → (if b = true then φe en2 h5 (fun y h4 => acc.length < sizeLine ∧ turns S one (xs.drop (i + 1)) (acc ++ [y]) h4 fun out h5 => PQ (newL h5 out) Q0) (fun _ _ => False) else turns S one (xs.drop (i + 1)) acc h5 fun out h5 => PQ (newL h5 out) Q0) →
          (if b = true then RE X.K fa xa W0 φe σ2 H5 fun y H4 => ∃ acc, H4 Dd = some (.lst acc) ∧ acc.length < sizeLine ∧ ∃ (ρ2 : List Addr) (h2 : MH) (acc2 : List D) (avs : List V), (upd H4 Dd (.lst (acc ++ [y]))) Dd = some (.lst avs) ∧ Dd ∉ ρ2 ∧ Ext X.K ρ1 H1 ρ2 (upd H4 Dd (.lst (acc ++ [y]))) ∧ RH X.K fa ρ2 h2 (upd H4 Dd (.lst (acc ++ [y]))) ∧ RDs X.K fa ρ2 (upd H4 Dd (.lst (acc ++ [y]))) acc2 avs ∧ turns S one (xs.drop (i + 1)) acc2 h2 fun out h5 => PQ (newL h5 out) Q0
            else ∃ (ρ2 : List Addr) (h2 : MH) (acc : List D) (avs : List V), H5 Dd = some (.lst avs) ∧ Dd ∉ ρ2 ∧ Ext X.K ρ1 H1 ρ2 H5 ∧ RH X.K fa ρ2 h2 H5 ∧ RDs X.K fa ρ2 H5 acc avs ∧ turns S one (xs.drop (i + 1)) acc h2 fun out h5 => PQ (newL h5 out) Q0) := fun b ρ5 h5 H5 e5 R5 q5 => by
        have nD5 : Dd ∉ ρ5 := fun z => by
          have := e5.new Dd z nD
          rw [hDd3] at this; cases this
        have hDd5 := e5.fr _ _ hDd3 nD
        cases b with
        | true =>
          rw [if_pos rfl] at q5 ⊢
          refine ⟨ρ5, en2, h5, _, _, R5, N4.mono e5, q5, fun yd h6 yv ρ6 H6 e6 R6 ry q6 => ?_, fun _ _ _ _ _ _ _ _ _ z => z⟩
          have nD6 : Dd ∉ ρ6 := fun z => by
            have := e6.new Dd z nD5
            rw [hDd5] at this; cases this
          have hDd6 := e6.fr _ _ hDd5 nD5
          have mo : Mono X.K ρ6 H6 ρ6 (upd H6 Dd (.lst (avs ++ [yv]))) := Mono.updU hDd6
          have ra6 : RDs X.K fa ρ6 H6 acc avs := RDs.mono0 ((e3.trans e5).trans e6).mo _ _ ra
          refine ⟨avs, hDd6, by rw [← ra.length]; exact q6.1, ρ6, h6, acc ++ [yd], avs ++ [yv], upd_same, nD6, Ext.updU ((e2.trans e3).trans (e5.trans e6)) hD hDd6, R6.updU hDd6 nD6, ?_, q6.2⟩
          exact RDs.mono0 mo _ _ (ra6.append (.cons ry .nil))
        | false =>
          rw [if_neg Bool.false_ne_true] at q5 ⊢
          exact ⟨ρ5, h5, acc, avs, hDd5, nD5, (e2.trans e3).trans e5, R5, RDs.mono0 (e3.trans e5).mo _ _ ra, q5⟩
      have qt : ifC om (φc en2 h2) (fun b h3 => if b = true then φe en2 h3 (fun y h4 => acc.length < sizeLine ∧ turns S one (xs.drop (i + 1)) (acc ++ [y]) h4 fun out h5 => PQ (newL h5 out) Q0) (fun _ _ => False) else turns S one (xs.drop (i + 1)) acc h3 fun out h5 => PQ (newL h5 out) Q0) h2 := by
        rw [hone] at qt
        exact qt
      unfold tIfs
      cases om with
      | true => exact fin true ρ2 h2 H' .refl R3 qt
      | false =>
        refine ⟨ρ2, en2, h2, _, _, R3, N4, qt, fun bd h5 bv ρ5 H5 e5 R5 rb q5 => ?_, fun _ _ _ _ _ _ _ _ _ z => z⟩
        obtain ⟨b, eb, q5⟩ := OQ_some q5
        obtain ⟨rfl, rfl⟩ := rb.bl_of eb
        exact ⟨b, rfl, fin b ρ5 h5 H5 e5 R5 q5⟩
    · have hx : xs.drop i = [] := List.drop_eq_nil_of_le (by omega)
      rw [hx] at qt
      obtain ⟨st, qt⟩ := qt
      refine .inl ⟨hJ.stop i ρ2 h2 H e2 R2 st (by omega), ?_⟩
      unfold newL at qt
      by_cases hz : acc.length ≤ sizeLine
      · rw [if_pos hz] at qt
        refine kq _ _ (.ref Dd) (ρ2 ++ [Dd]) H (e1.trans (e2.adopt hD)) (R2.adopt hDd nD ra) (.ref ?_) qt
        rw [← R2.len]
        simp
      · rw [if_neg hz] at qt
        exact False.elim qt
end
end Mp
namespace Mp
open PySem PySem.Spec PyProof.Rows L2

abbrev WSm := En → MH → (En → MH → Prop) → QV → QE → Prop
def NX (K : PySem.W.Frag) (fa : Nat → Option Addr) (ρ : List Addr) (H : Hp) (nx : En → MH → Prop) (Dn : L2.St → Hp → Prop) : Prop := ∀ en2 h2 σ2 ρ2 H2, Ext K ρ H ρ2 H2 → RH K fa ρ2 h2 H2 → REn K fa ρ2 H2 en2 σ2 → nx en2 h2 → Dn σ2 H2
def ThenE (K : PySem.W.Frag) (fa : Nat → Option Addr) (xa : Nat → Option (Value × List Str)) (ρ : List Addr) (H : Hp) (E0 : QE) (W : WX) : Prop := ∀ x en2 h2 cls d σ2 ρ2 H2, Ext K ρ H ρ2 H2 → RH K fa ρ2 h2 H2 → REn K fa ρ2 H2 en2 σ2 → RX K fa xa ρ2 H2 x cls d → E0 x en2 h2 → W cls d σ2 H2
def RS (K : PySem.W.Frag) (fa : Nat → Option Addr) (xa : Nat → Option (Value × List Str)) (W : WX) (φ : WSm) : TS := fun D σ H => ∃ ρ en h nx rt E0, RH K fa ρ h H ∧ REn K fa ρ H en σ ∧ φ en h nx rt E0 ∧ NX K fa ρ H nx D.nx ∧ Then K fa ρ H rt D.rt ∧ ThenE K fa xa ρ H E0 W
section
variable {K : PySem.W.Frag} {fa : Nat → Option Addr} {xa : Nat → Option (Value × List Str)} {ρ ρ1 : List Addr} {H H1 : Hp} {W : WX}
theorem NX.ext {nx : En → MH → Prop} {Dn : L2.St → Hp → Prop} (e : Ext K ρ H ρ1 H1) (k : NX K fa ρ H nx Dn) : NX K fa ρ1 H1 nx Dn := fun en2 h2 σ2 ρ2 H2 f => k en2 h2 σ2 ρ2 H2 (e.trans f)
theorem ThenE.ext {E0 : QE} (e : Ext K ρ H ρ1 H1) (k : ThenE K fa xa ρ H E0 W) : ThenE K fa xa ρ1 H1 E0 W := fun x en2 h2 c d σ2 ρ2 H2 f => k x en2 h2 c d σ2 ρ2 H2 (e.trans f)
/-- while an expression runs -/
theorem ThenE.at {E0 : QE} {en : En} {σ : L2.St} (N : REn K fa ρ H en σ) (k : ThenE K fa xa ρ H E0 W) : ThenX K fa xa ρ H (fun x h => E0 x en h) (fun c d H2 => W c d σ H2) := fun x h2 c d ρ2 H2 e R r q => k x en h2 c d σ ρ2 H2 e R (N.mono e) r q
end
structure SS (X : Cx) (fa : Nat → Option Addr) (xa : Nat → Option (Value × List Str)) (W : WX) (s : Stmt) (φ : WSm) : Prop where
  ps : PS X s (RS X.K fa xa W φ)
structure SSs (X : Cx) (fa : Nat → Option Addr) (xa : Nat → Option (Value × List Str)) (W : WX) (ss : List Stmt) (φ : WSm) : Prop where
  ps : PSs X ss (RS X.K fa xa W φ)
/-- a statement's expression: its value, then what follows -/
theorem RS.expr {K : PySem.W.Frag} {fa : Nat → Option Addr} {xa : Nat → Option (Value × List Str)} {W : WX} {φ : WE} {f : En → D → MH → (En → MH → Prop) → QV → QE → Prop} {Dd : Ends} {σ : L2.St} {H : Hp} {Rk : V → Hp → Prop}
    (w : RS K fa xa W (fun en h nx rt E => φ en h (fun x h1 => f en x h1 nx rt E) fun x h1 => E x en h1) Dd σ H)
    (fin : ∀ ρ en h H x v nx rt E0, RH K fa ρ h H → REn K fa ρ H en σ → RD K fa ρ H x v → f en x h nx rt E0 → NX K fa ρ H nx Dd.nx → Then K fa ρ H rt Dd.rt → ThenE K fa xa ρ H E0 W → Rk v H) : RE K fa xa W φ σ H Rk := by
  obtain ⟨ρ, en, h, nx, rt, E0, R, N, q, k1, k2, k3⟩ := w
  exact ⟨ρ, en, h, _, _, R, N, q, fun d h2 v ρ2 H2 e R2 r q2 => fin ρ2 en h2 H2 d v nx rt E0 R2 (N.mono e) r q2 (k1.ext e) (k2.ext e) (k3.ext e), k3.at N⟩
section
variable {X : Cx} {fa : Nat → Option Addr} {xa : Nat → Option (Value × List Str)} {W : WX} {e a b c tg iter elt : Expr} {es : List Expr} {φ φa φb φc φe : WE} {ψ : WL} {pos p : Pos} {s : Stmt} {ss bb : List Stmt} {χ χa χb : WSm}

/-! ### a comprehension as a value, as a name's value -/
structure CompOk (X : Cx) (fa : Nat → Option Addr) (xa : Nat → Option (Value × List Str)) (W : WX) (elt tg iter : Expr) (ifs : List Expr) (scope : Scope) (ψ : WL) (k : IK) (t : TGt) (om : Bool) (φc φe : WE) (own : List (Str × Nat)) (g : TG) : Prop where
  hc : X.calm = true
  hN : X.N.Nodup
  hi : PI X tg iter (RI X.K fa xa W k ψ)
  ok : BlkOk X.N X.env.scope scope own
  ow : own.map (·.2) = t.slots
  hg : ∀ (s : Shared) (H : Hp) (C : Addr) (cl : List (Str × Addr)) (fp : List Addr), SG (X.blk s H scope (compEnvC scope cl C X.env) fp) fa tg t g
  ht : ∀ (s : Shared) (H : Hp) (C : Addr) (cl : List (Str × Addr)) (fp : List Addr), PTs (X.blk s H scope (compEnvC scope cl C X.env) fp) ifs (tIfs X.K fa xa om φc)
  he : ∀ (s : Shared) (H : Hp) (C : Addr) (cl : List (Str × Addr)) (fp : List Addr), PE (X.blk s H scope (compEnvC scope cl C X.env) fp) elt (RE X.K fa xa W0 φe)
  hs : ∀ x, foldedSetIterable iter X.env x = pure x
theorem lc_all {ifs : List Expr} {scope : Scope} {k : IK} {t : TGt} {om : Bool} {own : List (Str × Nat)} {g : TG} (C : CompOk X fa xa W elt tg iter ifs scope ψ k t om φc φe own g) {σ : L2.St} {H : Hp} {Q : VK} (s0 : Shared)
    (w : RE X.K fa xa W (wComp ψ k t om φc φe) σ H Q) : tLc (RI X.K fa xa W k ψ) g (tIfs X.K fa xa om φc) (RE X.K fa xa W0 φe) (own.map (·.2)) σ H Q :=
  lc_read C.ow (fun ρ h H en σ d v en2 Q R N r e q => (C.hg s0 H 0 [] []).ok ρ h H en σ d v en2 Q R N r e q) w
theorem se_comp {ifs : List Expr} {scope : Scope} {k : IK} {t : TGt} {om : Bool} {own : List (Str × Nat)} {g : TG} (C : CompOk X fa xa W elt tg iter ifs scope ψ k t om φc φe own g) :
    SE X fa xa W (.ListComp elt [⟨tg, iter, ifs, 0⟩] scope pos) (wComp ψ k t om φc φe) := by
  refine .of ⟨fun pins s σ H Q I w => ?_⟩ (fun _ _ => rfl) (fun _ _ _ z => nomatch z) fun _ => rfl
  exact (pe_lc C.hc C.hN C.hi C.ok (fun s H Cc cl fp => (C.hg s H Cc cl fp).pg) C.ht C.he C.hs).run pins s σ H Q I (lc_all C s w)

/-! ### statements -/
theorem sss_nil : SSs X fa xa W [] fun en h nx _ _ => nx en h :=
  ⟨pss_nil.wk fun D σ H ⟨ρ, en, h, nx, rt, E0, R, N, q, k1, k2, k3⟩ => k1 en h σ ρ H .refl R N q⟩
theorem sss_cons (h1 : SS X fa xa W s χ) (h2 : SSs X fa xa W ss χa) : SSs X fa xa W (s :: ss) fun en h nx rt E => χ en h (fun en1 h1 => χa en1 h1 nx rt E) rt E :=
  ⟨(pss_cons h1.ps h2.ps).wk fun D σ H ⟨ρ, en, h, nx, rt, E0, R, N, q, k1, k2, k3⟩ =>
    ⟨ρ, en, h, _, rt, E0, R, N, q, fun en2 h2 σ2 ρ2 H2 e R2 N2 q2 => ⟨ρ2, en2, h2, nx, rt, E0, R2, N2, q2, k1.ext e, k2.ext e, k3.ext e⟩, k2, k3⟩⟩
theorem ss_pass : SS X fa xa W (.Pass pos) fun en h nx _ _ => nx en h :=
  ⟨ps_pass.wk fun D σ H ⟨ρ, en, h, nx, rt, E0, R, N, q, k1, k2, k3⟩ => k1 en h σ ρ H .refl R N q⟩
/-- no comprehension -/
def NoComp (e : Expr) : Prop := (∀ a b c d, e ≠ .ListComp a b c d) ∧ (∀ a b c d, e ≠ .SetComp a b c d) ∧ ∀ a b c d f, e ≠ .DictComp a b c d f
theorem sw_no {e : Expr} (h : NoComp e) (t : Option Expr) (l : Nat) (env : Env) : swapsWith e t l env = pure false := by
  obtain ⟨h1, h2, h3⟩ := h
  cases e <;> first | rfl | exact absurd rfl (h1 _ _ _ _) | exact absurd rfl (h2 _ _ _ _) | exact absurd rfl (h3 _ _ _ _ _)
theorem ss_expr (ha : SE X fa xa W a φ) (h : NoComp a) : SS X fa xa W (.Expr a pos) fun en h nx _ E => φ en h (fun _ h1 => nx en h1) fun x h1 => E x en h1 :=
  ⟨(ps_expr ha.pe (sw_no h _ _ _)).wk fun D σ H w => RS.expr (f := fun en _ h1 nx _ _ => nx en h1) w fun ρ en h H x v nx rt E0 R N r q k1 k2 k3 => k1 en h σ ρ H .refl R N q⟩
theorem ss_asg {i : Nat} {x : Str} {pos2 : Pos} (hN : X.N.Nodup) (hi : X.N[i]? = some x) (hx : Loc X.env.scope x) (hf : X.fn x = true) (ha : SE X fa xa W a φ) (hs : swapsWith a (some (.Name x pos2)) pos.line X.env = pure false) :
    SS X fa xa W (.Assign [.Name x pos2] a pos) fun en h nx _ E => φ en h (fun d h1 => nx (en.set i (some d)) h1) fun x h1 => E x en h1 :=
  ⟨(ps_set hN hi hx ha.pe hs (.inl hf)).wk fun D σ H w => RS.expr (f := fun en d h1 nx _ _ => nx (en.set i (some d)) h1) w fun ρ en h H x v nx rt E0 R N r q k1 k2 k3 => k1 _ h _ ρ H .refl R (N.set r i) q⟩
theorem ss_asgC {i : Nat} {x : Str} {pos2 : Pos} {ifs : List Expr} {scope : Scope} {k : IK} {t : TGt} {om : Bool} {own : List (Str × Nat)} {g : TG} (C : CompOk X fa xa W elt tg iter ifs scope ψ k t om φc φe own g)
    (hi : X.N[i]? = some x) (hy : X.env.scope.names.lookup x = some .local) (hsw : swapsWith (.ListComp elt [⟨tg, iter, ifs, 0⟩] scope p) (some (.Name x pos2)) pos.line X.env = pure true) :
    SS X fa xa W (.Assign [.Name x pos2] (.ListComp elt [⟨tg, iter, ifs, 0⟩] scope p) pos) fun en h nx _ E => wComp ψ k t om φc φe en h (fun d h1 => nx (en.set i (some d)) h1) fun x h1 => E x en h1 := by
  refine ⟨⟨fun pins s σ H D I w => ?_⟩⟩
  refine (ps_setLc C.hc C.hN hi hy hsw C.hi C.ok (fun s H Cc cl fp => (C.hg s H Cc cl fp).pg) C.ht C.he C.hs).run pins s σ H D I ?_
  exact lc_all C s (RS.expr (f := fun en d h1 nx _ _ => nx (en.set i (some d)) h1) w fun ρ en h H x v nx rt E0 R N r q k1 k2 k3 => k1 _ h _ ρ H .refl R (N.set r i) q)
theorem sw_sub {e o i : Expr} {ps : Pos} (l : Nat) (env : Env) : swapsWithSole [.Subscript o i ps] e l env = pure false := by
  cases e <;> rfl
theorem sw_tup {e : Expr} {es : List Expr} {k : Nat} {ps : Pos} (l : Nat) (env : Env) : swapsWithSole [.Tuple es k ps] e l env = pure false := by
  cases e <;> rfl
theorem ss_asgT {is : List Nat} {k : Nat} {ts : List Expr} {g : TGs} {pos2 : Pos} (hc : X.calm = true) (S : SGs X fa ts is g) (ha : SE X fa xa W a φ) (hn : ∀ es k q, a ≠ .Tuple es k q) :
    SS X fa xa W (.Assign [.Tuple ts k pos2] a pos) fun en h nx _ E => φ en h (fun d h1 => OQ (bindT (.tup is) d en) fun en2 => nx en2 h1) fun x h1 => E x en h1 := by
  have T := sg_tup (k := k) (pos := pos2) hc S
  refine ⟨(ps_asg ha.pe T.pg (sw_tup _ _) (by cases a <;> first | rfl | exact absurd rfl (hn _ _ _)) rfl).wk fun D σ H w => ?_⟩
  refine RS.expr (f := fun en d h1 nx _ _ => OQ (bindT (.tup is) d en) fun en2 => nx en2 h1) w fun ρ en h H x v nx rt E0 R N r q k1 k2 k3 => ?_
  obtain ⟨en2, e1, q⟩ := OQ_some q
  exact T.ok ρ h H en σ x v en2 _ R N r e1 fun σ2 N2 _ _ => k1 en2 h σ2 ρ H .refl R N2 q
theorem pset_or {r1 r2 : TSet} (a : PSet X r1) (b : PSet X r2) : PSet X (fun o i v H Q => r1 o i v H Q ∨ r2 o i v H Q) := fun pins s σ H o i v ov iv u Q I r1 r2 r3 h =>
  h.elim (a pins s σ H o i v ov iv u Q I r1 r2 r3) (b pins s σ H o i v ov iv u Q I r1 r2 r3)
theorem paired_keys {R : List Key × V → List Key × Addr × Value → Prop} {kws : List (List Key × V)} {xs : List (List Key × Addr × Value)} (rel : Paired R kws xs) (hR : ∀ p q, R p q → p.1 = q.1) : kws.map (·.1) = xs.map (·.1) := by
  induction rel with
  | nil => rfl
  | cons r _ ih => rw [List.map_cons, List.map_cons, ih, hR _ _ r]
theorem key_nodup {pins : List (Addr × Obj)} {s : Shared} {σ : L2.St} {H : Hp} {a : Addr} {kws : List (List Key × V)} (I : Inv X pins σ H s) (e : H a = some (.dT kws)) : (kws.map (·.1)).Nodup := by
  obtain ⟨_, _, xs, rel, o, es, ep, _, _, _, _, nd⟩ := I.hok a _ e
  rw [paired_keys rel fun _ _ r => r.1]
  exact nd
/-- a dict's place is stored; its keys are apart -/
def rSetN : TSet := fun o i v H Q => ∃ a kws k b, o = .ref a ∧ i = .ref b ∧ H a = some (.dT kws) ∧ H b = some (.tup (k.map kV)) ∧ kws.length < sizeLine ∧ ((kws.map (·.1)).Nodup → Q (upd H a (.dT (putK kws k v))))
theorem set_dictN (hu : X.A.units + 1 < cLine) : PSet X rSetN := by
  intro pins s σ H o i v ov iv u Q I ro ri rv h
  obtain ⟨a, kws, k, b, rfl, rfl, h1, h2, h3, q⟩ := h
  exact set_dict hu pins s σ H _ _ v ov iv u Q I ro ri rv ⟨a, _, rfl, .t h1 h2 h3, q (key_nodup I h1)⟩
theorem ss_asgIx (hu : X.A.units + 1 < cLine) (ha : SE X fa xa W a φa) (hb : SE X fa xa W b φb) (hc : SE X fa xa W c φc) {pos2 : Pos} (hasg : ∀ v, assign (.Subscript b c pos2) X.env v = (do
      let ov ← holding [v] (eval b X.env)
      let iv ← holding [v, ov] (eval c X.env)
      standAt pos2
      holding [v, ov, iv] (setItem ov iv v)
      release [v, ov, iv] [])) :
    SS X fa xa W (.Assign [.Subscript b c pos2] a pos) fun en h nx _ E => φa en h (fun d h1 => φb en h1 (fun x h2 => φc en h2 (fun y h3 => OQ (setIx x y d h3) fun h4 => nx en h4) fun x h1 => E x en h1) fun x h1 => E x en h1) fun x h1 => E x en h1 := by
  refine ⟨(ps_asg ha.pe (pg_sub hb.pe hc.pe (pset_or set_list (set_dictN hu)) hasg) (sw_sub _ _) rfl rfl).wk fun D σ H ⟨ρ, en, h, nx, rt, E0, R, N, q, k1, k2, k3⟩ => ?_⟩
  refine ⟨ρ, en, h, _, _, R, N, q, fun d h1 v ρ1 H1 e1 R1 r1 q1 => ?_, k3.at N⟩
  refine ⟨ρ1, en, h1, _, _, R1, N.mono e1, q1, fun x h2 ov ρ2 H2 e2 R2 r2 q2 => ?_, (k3.ext e1).at (N.mono e1)⟩
  have e2_ := e2
  have e12 := e1.trans e2
  refine ⟨ρ2, en, h2, _, _, R2, N.mono e12, q2, fun y h3 iv ρ3 H3 e3 R3 r3 q3 => ?_, (k3.ext e12).at (N.mono e12)⟩
  obtain ⟨h4, e4, q4⟩ := OQ_some q3
  have rx := r2.mono e3
  cases rx with
  | @ref n ad ra =>
    cases r3 with
    | int i =>
      have e4 : (match h3[n]? with | some (.lst xs) => (ixN xs.length i).map fun j => h3.set n (.lst (xs.set j d)) | _ => none) = some h4 := e4
      split at e4
      · rename_i xs z
        obtain ⟨j, ej, rfl⟩ := Option.map_eq_some_iff.mp e4
        obtain ⟨us, hu, ru⟩ := R3.at_ n _ ad z ra
        refine .inl ⟨ad, us, i, j, rfl, rfl, hu, by rw [← ru.length]; exact ej, ?_⟩
        have rd : RD X.K fa ρ3 H3 d v := r1.mono (e2.trans e3)
        have x1 := Ext.setLst (K := X.K) (o := .lst (us.set j v)) (List.mem_of_getElem? ra) hu
        exact k1 en _ σ ρ3 _ ((e12.trans e3).trans x1) (R3.setLst z ra (RDs.set rd j ru)) (N.mono ((e12.trans e3).trans x1)) q4
      · cases e4
    | tup t1 t2 =>
      have e4 : (match h3[n]? with | some (.dic kvs) => if kvs.length < sizeLine then (keyD (.tup _)).map fun k => h3.set n (.dic (setK kvs k d)) else none | _ => none) = some h4 := e4
      split at e4
      · rename_i kvs z
        by_cases hz : kvs.length < sizeLine
        · rw [if_pos hz] at e4
          obtain ⟨kk, e2, rfl⟩ := Option.map_eq_some_iff.mp e4
          obtain ⟨kws, b, ev, h1, h2, h3', h4', g⟩ := dget_of R3 (RD.tup t1 t2) ra z e2
          cases ev
          have rd : RD X.K fa ρ3 H3 d v := r1.mono (e2_.trans e3)
          refine .inr ⟨ad, kws, kk, _, rfl, rfl, h1, h2, ?_, fun nd => ?_⟩
          · have := congrArg List.length h3'
            simp only [List.length_map] at this
            rw [this]
            exact hz
          · have x1 := Ext.setO (K := X.K) (H := H3) (o := .dT (putK kws kk v)) (List.mem_of_getElem? ra) (by rw [h1]; exact .dT)
            have pk : (putK kws kk v).map (·.1) = (setK kvs kk d).map (·.1) ∧ RDs X.K fa ρ3 H3 ((setK kvs kk d).map (·.2)) ((putK kws kk v).map (·.2)) := by
              unfold putK
              split
              · rename_i c
                exact put_pos h3' h4' nd rd (any_keys.mp c)
              · rename_i c
                exact put_neg h3' h4' rd fun z => c (any_keys.mpr z)
            exact k1 en _ σ ρ3 _ ((e12.trans e3).trans x1) (R3.setO (d2 := .dic (setK kvs kk d)) z ra ⟨_, upd_same, pk.1, pk.2.mono x1⟩) (N.mono ((e12.trans e3).trans x1)) q4
        · rw [if_neg hz] at e4; cases e4
      · cases e4
    | _ => cases e4
  | _ => (cases y <;> cases e4)
theorem ss_ret (ha : SE X fa xa W a φ) : SS X fa xa W (.Return (some a) pos) fun en h _ rt E => φ en h rt fun x h1 => E x en h1 :=
  ⟨(ps_ret ha.pe).wk fun D σ H ⟨ρ, en, h, nx, rt, E0, R, N, q, k1, k2, k3⟩ => ⟨ρ, en, h, rt, _, R, N, q, k2, k3.at N⟩⟩
theorem ss_if (hc : SE X fa xa W c φ) (ha : SSs X fa xa W ss χa) (hb : SSs X fa xa W bb χb) : SS X fa xa W (.If c ss bb pos) fun en h nx rt E => φ en h (fun x h1 => OQ (asBl x) fun k => if k = true then χa en h1 nx rt E else χb en h1 nx rt E) fun x h1 => E x en h1 := by
  refine ⟨(ps_if hc.pt ha.ps hb.ps).wk fun D σ H w => ?_⟩
  refine RS.expr (f := fun en x h1 nx rt E => OQ (asBl x) fun k => if k = true then χa en h1 nx rt E else χb en h1 nx rt E) w fun ρ en h H x v nx rt E0 R N r q k1 k2 k3 => ?_
  obtain ⟨k, e1, q⟩ := OQ_some q
  obtain ⟨rfl, rfl⟩ := r.bl_of e1
  refine ⟨k, rfl, ?_⟩
  cases k with
  | true => exact ⟨ρ, en, h, nx, rt, E0, R, N, q, k1, k2, k3⟩
  | false => exact ⟨ρ, en, h, nx, rt, E0, R, N, q, k1, k2, k3⟩
theorem ss_while (hp : PassesOwn (model X.prog X.w) X.A X.env X.xe) (hc : SE X fa xa W c φ) (hb : SSs X fa xa W ss χ) : SS X fa xa W (.While c ss [] pos) fun en h nx rt E => ∃ Wm : Nat → En → MH → Prop, (∃ m, Wm m en h) ∧ ∀ m en h, Wm m en h →
    φ en h (fun x h1 => OQ (asBl x) fun k => if k = true then χ en h1 (fun en2 h2 => ∃ m2, m2 < m ∧ Wm m2 en2 h2) rt E else nx en h1) fun x h1 => E x en h1 := by
  refine ⟨(ps_while hp hc.pt hb.ps).wk fun D σ H ⟨ρ, en, h, nx, rt, E0, R, N, ⟨Wm, ⟨m0, w0⟩, turn⟩, k1, k2, k3⟩ => ?_⟩
  refine ⟨fun m σ2 H2 => ∃ ρ2 en2 h2, Ext X.K ρ H ρ2 H2 ∧ RH X.K fa ρ2 h2 H2 ∧ REn X.K fa ρ2 H2 en2 σ2 ∧ Wm m en2 h2, ⟨m0, ρ, en, h, .refl, R, N, w0⟩, fun m σ2 H2 ⟨ρ2, en2, h2, e2, R2, N2, w2⟩ => ?_⟩
  refine ⟨ρ2, en2, h2, _, _, R2, N2, turn m en2 h2 w2, fun x h3 v ρ3 H3 e3 R3 r3 q3 => ?_, (k3.ext e2).at N2⟩
  obtain ⟨k, e1, q⟩ := OQ_some q3
  obtain ⟨rfl, rfl⟩ := r3.bl_of e1
  refine ⟨k, rfl, ?_⟩
  cases k with
  | true =>
    rw [if_pos rfl] at q ⊢
    refine ⟨fun σ4 H4 => ∃ m4, m4 < m ∧ ∃ ρ2 en2 h2, Ext X.K ρ H ρ2 H4 ∧ RH X.K fa ρ2 h2 H4 ∧ REn X.K fa ρ2 H4 en2 σ4 ∧ Wm m4 en2 h2, fun σ4 H4 z => z, ρ3, en2, h3, _, rt, E0, R3, N2.mono e3, q, fun en5 h5 σ5 ρ5 H5 e5 R5 N5 ⟨m5, l5, w5⟩ => ?_, k2.ext (e2.trans e3), k3.ext (e2.trans e3)⟩
    exact ⟨m5, l5, ρ5, en5, h5, (e2.trans e3).trans e5, R5, N5, w5⟩
  | false =>
    rw [if_neg Bool.false_ne_true] at q ⊢
    exact k1 en2 h3 σ2 ρ3 H3 (e2.trans e3) R3 (N2.mono e3) q
theorem ss_for {k : IK} {t : TGt} {g : TG} (hp : PassesOwn (model X.prog X.w) X.A X.env X.xe) (hc : X.calm = true) (hi : PI X tg iter (RI X.K fa xa W k ψ)) (hg : SG X fa tg t g) (hb : SSs X fa xa W ss χ) (hs : ∀ x, foldedSetIterable iter X.env x = pure x) :
    SS X fa xa W (.For tg iter ss [] pos) fun en h nx rt E => ψ en h (fun ds h1 => OQ (itemsOf k ds h1) fun p => loopF p.2 (fun x en2 h2 nx2 => OQ (bindT t x en2) fun en3 => χ en3 h2 nx2 rt E) p.1 en h1 nx) fun x h1 => E x en h1 := by
  refine ⟨(ps_for hp hc hi hg.pg hb.ps hs).wk fun Dd σ H ⟨ρ, en, h, nx, rt, E0, R, N, q, k1, k2, k3⟩ => ?_⟩
  refine ⟨ρ, en, h, fun p h1 => loopF p.2 (fun x en2 h2 nx2 => OQ (bindT t x en2) fun en3 => χ en3 h2 nx2 rt E0) p.1 en h1 nx, _, R, N, q, fun pp J h1 ρ1 H1 e1 R1 hJ qp => ?_, k3.at N⟩
  obtain ⟨xs, S⟩ := pp
  have hJ : ItOk X.K fa J S xs ρ1 H1 := hJ
  generalize hone : (fun (x : D) (en2 : En) (h2 : MH) (nx2 : En → MH → Prop) => OQ (bindT t x en2) fun en3 => χ en3 h2 nx2 rt E0) = one at qp
  refine ⟨fun i m σ2 H2 => ∃ ρ2 en2 h2, Ext X.K ρ1 H1 ρ2 H2 ∧ RH X.K fa ρ2 h2 H2 ∧ REn X.K fa ρ2 H2 en2 σ2 ∧ m = xs.length - i ∧ i ≤ xs.length ∧ loopF S one (xs.drop i) en2 h2 nx, ⟨_, ρ1, en, h1, .refl, R1, N.mono e1, rfl, Nat.zero_le _, qp⟩, ?_⟩
  rintro i m σ2 H2 ⟨ρ2, en2, h2, e2, R2, N2, rfl, hi2, ql⟩
  by_cases hlt : i < xs.length
  · rw [List.drop_eq_getElem_cons hlt] at ql
    obtain ⟨st, ql⟩ := ql
    refine .inr ⟨hJ.go i ρ2 h2 H2 e2 R2 st hlt, fun σ3 H3 => ∃ ρ2 en2 h2, Ext X.K ρ1 H1 ρ2 H3 ∧ RH X.K fa ρ2 h2 H3 ∧ REn X.K fa ρ2 H3 en2 σ3 ∧ loopF S one (xs.drop (i + 1)) en2 h2 nx,
      fun σ3 H3 ⟨ρ3, en3, h3, a1, a2, a3, a4⟩ => ⟨xs.length - (i + 1), by omega, ρ3, en3, h3, a1, a2, a3, rfl, hlt, a4⟩, fun v H3 y => ?_⟩
    obtain ⟨e3, R3, rv⟩ := hJ.yld i ρ2 h2 H2 xs[i] v H3 e2 R2 st (List.getElem?_eq_getElem hlt) y
    rw [← hone] at ql
    obtain ⟨en3, hb3, ql⟩ := OQ_some ql
    refine hg.ok ρ2 h2 H3 en2 σ2 _ v en3 _ R3 (N2.mono e3) rv hb3 fun σ4 N4 _ _ => ?_
    have e123 := (e1.trans e2).trans e3
    refine ⟨ρ2, en3, h2, _, rt, E0, R3, N4, ql, fun en5 h5 σ5 ρ5 H5 e5 R5 N5 q5 => ?_, k2.ext e123, k3.ext e123⟩
    rw [hone] at q5
    exact ⟨ρ5, en5, h5, (e2.trans e3).trans e5, R5, N5, q5⟩
  · have hx : xs.drop i = [] := List.drop_eq_nil_of_le (by omega)
    rw [hx] at ql
    obtain ⟨st, ql⟩ := ql
    exact .inl ⟨hJ.stop i ρ2 h2 H2 e2 R2 st (by omega), k1 en2 h2 σ2 ρ2 H2 (e1.trans e2) R2 N2 ql⟩
end
end Mp
namespace Mp
open PySem PySem.Spec PyProof.Rows L2

section
variable {X : Cx} {fa : Nat → Option Addr} {xa : Nat → Option (Value × List Str)} {W : WX} {e o : Expr} {es : List Expr} {φ : WE} {ψ : WL} {apos cpos : Pos}
def GM (K : PySem.W.Frag) (fa : Nat → Option Addr) (r : V → List V → Hp → VK → Prop) (m : MT) : Prop := ∀ ρ h H x v ds vs Q Q0, RH K fa ρ h H → RD K fa ρ H x v → RDs K fa ρ H ds vs → PQ (mtop m x ds h) Q0 → Then K fa ρ H Q0 Q → r v vs H Q
theorem Then.set {K : PySem.W.Frag} {ρ : List Addr} {h : MH} {H : Hp} {Q : VK} {Q0 : QV} {n : Nat} {a : Addr} {ds ds2 : List D} {us vs : List V} {d : D} {v : V} (k : Then K fa ρ H Q0 Q) (R : RH K fa ρ h H) (hh : h[n]? = some (.lst ds)) (ra : ρ[n]? = some a) (hu : H a = some (.lst us)) (r : RDs K fa ρ H ds2 vs)
    (rd : RD K fa ρ H d v) (q : Q0 d (h.set n (.lst ds2))) : Q v (upd H a (.lst vs)) :=
  have x1 := Ext.setLst (K := K) (o := .lst vs) (List.mem_of_getElem? ra) hu
  k _ _ _ ρ _ x1 (R.setLst hh ra r) (rd.mono x1) q
theorem gm_append : GM X.K fa rAppend .append := by
  intro ρ h H x v ds vs Q Q0 R r rs q k
  cases r with
  | @ref n a ra =>
    cases rs with
    | nil => exact False.elim q
    | cons r1 r2 =>
      cases r2 with
      | cons _ _ => exact False.elim q
      | @nil =>
        rename_i d w
        have q : PQ (match h[n]? with | some (.lst xs) => if xs.length < sizeLine then some (D.non, h.set n (.lst (xs ++ [d]))) else none | _ => none) Q0 := q
        split at q
        · rename_i xs z
          obtain ⟨hz, q⟩ := ite_PQ q
          obtain ⟨us, hu, ru⟩ := R.at_ n _ a z ra
          exact ⟨a, us, w, rfl, rfl, hu, by rw [← ru.length]; exact hz, k.set R z ra hu (ru.append (.cons r1 .nil)) .non q⟩
        · exact False.elim q
  | _ => (cases rs <;> exact False.elim q)
theorem gm_extend : GM X.K fa rExtend .extend := by
  intro ρ h H x v ds vs Q Q0 R r rs q k
  cases r with
  | @ref n a ra =>
    cases rs with
    | nil => exact False.elim q
    | cons r1 r2 =>
      cases r2 with
      | cons _ _ => (cases r1 <;> exact False.elim q)
      | nil =>
        cases r1 with
        | @ref m b rb =>
          have q : PQ (match h[n]?, h[m]? with | some (.lst xs), some (.lst ys) => if xs.length + ys.length ≤ sizeLine then some (D.non, h.set n (.lst (xs ++ ys))) else none | _, _ => none) Q0 := q
          split at q
          · rename_i xs ys z1 z2
            obtain ⟨hz, q⟩ := ite_PQ q
            obtain ⟨us, hu, ru⟩ := R.at_ n _ a z1 ra
            obtain ⟨ws, hw, rw_⟩ := R.at_ m _ b z2 rb
            exact ⟨a, b, us, ws, rfl, rfl, hu, hw, by rw [← ru.length, ← rw_.length]; exact hz, k.set R z1 ra hu (ru.append rw_) .non q⟩
          · exact False.elim q
        | _ => exact False.elim q
  | _ => (cases rs <;> exact False.elim q)
theorem RDs.last {K : PySem.W.Frag} {ρ : List Addr} {H : Hp} {xs : List D} {us : List V} {y : D} (r : RDs K fa ρ H xs us) (e : xs[xs.length - 1]? = some y) : ∃ w, us[us.length - 1]? = some w ∧ RD K fa ρ H y w := by
  rw [← r.length]
  exact r.get e
theorem gm_pop0 : GM X.K fa rPop .pop0 := by
  intro ρ h H x v ds vs Q Q0 R r rs q k
  cases r with
  | @ref n a ra =>
    cases rs with
    | cons _ _ => exact False.elim q
    | nil =>
      have q : PQ (match h[n]? with | some (.lst xs) => (match xs[xs.length - 1]? with | some y => some (y, h.set n (.lst xs.dropLast)) | none => none) | _ => none) Q0 := q
      split at q
      · rename_i xs z
        split at q
        · rename_i y e
          obtain ⟨us, hu, ru⟩ := R.at_ n _ a z ra
          obtain ⟨w, e2, r2⟩ := ru.last e
          exact ⟨a, us, w, rfl, rfl, hu, e2, k.set R z ra hu ru.dropLast r2 q⟩
        · exact False.elim q
      · exact False.elim q
  | _ => (cases rs <;> exact False.elim q)
theorem gm_reverse : GM X.K fa rReverse .reverse := by
  intro ρ h H x v ds vs Q Q0 R r rs q k
  cases r with
  | @ref n a ra =>
    cases rs with
    | cons _ _ => exact False.elim q
    | nil =>
      have q : PQ (match h[n]? with | some (.lst xs) => some (D.non, h.set n (.lst xs.reverse)) | _ => none) Q0 := q
      split at q
      · rename_i xs z
        obtain ⟨us, hu, ru⟩ := R.at_ n _ a z ra
        exact ⟨a, us, rfl, rfl, hu, k.set R z ra hu ru.reverse .non q⟩
      · exact False.elim q
  | _ => (cases rs <;> exact False.elim q)

theorem RDs.eraseIdx {K : PySem.W.Frag} {ρ : List Addr} {H : Hp} {xs : List D} {us : List V} (r : RDs K fa ρ H xs us) (k : Nat) : RDs K fa ρ H (xs.eraseIdx k) (us.eraseIdx k) := by
  rw [List.eraseIdx_eq_take_drop_succ, List.eraseIdx_eq_take_drop_succ]
  exact (r.take k).append (r.drop (k + 1))
theorem gm_pop1 : GM X.K fa rPopAt .pop1 := by
  intro ρ h H x v ds vs Q Q0 R r rs q k
  cases r with
  | @ref n a ra =>
    cases rs with
    | nil => exact False.elim q
    | cons r1 r2 =>
      cases r2 with
      | cons _ _ => (cases r1 <;> exact False.elim q)
      | nil =>
        cases r1 with
        | int i =>
          have q : PQ (match h[n]? with | some (.lst xs) => (if -B63 ≤ i ∧ i < B63 then (match seqIndex? i xs.length with | some j => (match xs[j]? with | some y => some (y, h.set n (.lst (xs.eraseIdx j))) | none => none) | none => none) else none) | _ => none) Q0 := q
          split at q
          · rename_i xs z
            by_cases hz : -B63 ≤ i ∧ i < B63
            · rw [if_pos hz] at q
              rw [B63_eq] at hz
              split at q
              · rename_i j e1
                split at q
                · rename_i y e2
                  obtain ⟨us, hu, ru⟩ := R.at_ n _ a z ra
                  obtain ⟨w, e3, rw_⟩ := ru.get e2
                  exact ⟨a, us, i, j, w, rfl, rfl, hu, hz.1, hz.2, by rw [← ru.length]; exact e1, e3, k.set R z ra hu (ru.eraseIdx j) rw_ q⟩
                · exact False.elim q
              · exact False.elim q
            · rw [if_neg hz] at q; exact False.elim q
          · exact False.elim q
        | _ => exact False.elim q
  | _ => (cases rs <;> exact False.elim q)
theorem gm_index : GM X.K fa (rIndexD X.K) .index := by
  intro ρ h H x v ds vs Q Q0 R r rs q k
  cases r with
  | @ref n a ra =>
    cases rs with
    | nil => exact False.elim q
    | cons r1 r2 =>
      cases r2 with
      | cons _ _ => exact False.elim q
      | @nil =>
        rename_i d w
        have q : PQ (match pyD 65 h (.ref n), pyD 65 h d with | some (.list ds), some a => (if SeqAt.shaped a && SeqAt.shaped (.list ds) then (ds.findIdx? fun z => PyData.eqv z a).map fun j => (D.int (j : Nat), h) else none) | _, _ => none) Q0 := q
        split at q
        · rename_i ps p e1 e2
          by_cases hc : (SeqAt.shaped p && SeqAt.shaped (.list ps)) = true
          · rw [if_pos hc] at q
            rw [Bool.and_eq_true] at hc
            cases e3 : ps.findIdx? fun z => PyData.eqv z p with
            | none => rw [e3] at q; exact False.elim q
            | some j =>
              rw [e3] at q
              have q : Q0 (.int (j : Nat)) h := q
              obtain ⟨hj, e4, e5⟩ := List.findIdx?_eq_some_iff_getElem.mp e3
              refine ⟨a, w, p, ps, j, ps[j], rfl, rfl, (RD.ref ra).dp R _ _ _ _ e1, r1.dp R _ _ _ _ e2, hc.2, hc.1, List.getElem?_eq_getElem hj, e4, fun m z' hm hz' => ?_, k.here R (.int _) q⟩
              obtain ⟨hm2, rfl⟩ := List.getElem?_eq_some_iff.mp hz'
              simpa using e5 m hm
          · rw [if_neg hc] at q; exact False.elim q
        · exact False.elim q
  | _ => (cases rs with
    | nil => exact False.elim q
    | cons r1 r2 => cases r2 <;> exact False.elim q)

/-- what a method's receiver must not be: a call without arguments (super()) -/
def NoCall0 (o : Expr) : Prop := ∀ x p q, o ≠ .Call (.Name x p) [] [] q
theorem attr_no {nm : Str} {env : Env} {w : Sem Value} (h : NoCall0 o) : attributeBase o nm env w = w := by
  cases o with
  | Call f as ks q =>
    cases f with
    | Name x p =>
      cases as with
      | nil =>
        cases ks with
        | nil => exact absurd rfl (h _ _ _)
        | cons _ _ => rfl
      | cons _ _ => rfl
    | _ => rfl
  | _ => rfl
theorem recv_ty {ρ : List Addr} {h : MH} {H : Hp} {m : MT} {x : D} {v : V} (R : RH X.K fa ρ h H) (r : RD X.K fa ρ H x v) (e : recv m x h = true) : tyV X.K "list" v H := by
  cases r with
  | @ref n a ra =>
    have e : (lstAt h n).isSome = true := e
    obtain ⟨xs, z⟩ := Option.isSome_iff_exists.mp e
    obtain ⟨us, s1, _⟩ := R.lst z ra
    exact .inl ⟨rfl, us, s1⟩
  | _ => cases e
theorem few_of {es : List Expr} {env : Env} (h : (backTo cpos (starEach es env)).any (·.1) = false) (hl : es.length < 20) : ((backTo cpos (starEach es env)).all (fun x => !x.1) && (backToKw cpos (keywordEach [] env)).all (fun x => x.1.isSome) && decide (es.length + ([] : List Keyword).length + (if ([] : List Keyword).isEmpty then 0 else 1) < 30)) = true := by
  have h1 : (backTo cpos (starEach es env)).all (fun x => !x.1) = true := by
    rw [List.all_eq_not_any_not]
    simp only [Bool.not_not]
    rw [h]
    rfl
  rw [h1, Bool.true_and, Bool.and_eq_true]
  exact ⟨rfl, by simp; omega⟩
theorem se_mt1 {m : MT} {name : Str} {id : String} {r : V → List V → Hp → VK → Prop} (slot : Slot "list" name id) (hty : typeOf (.builtin id) = pure (.type "method_descriptor")) (hm : MtR X id r) (g : GM X.K fa r m) (ho : SE X fa xa W o φ) (hs : SA X fa xa W (e :: es) ψ) (hn : NoCall0 o)
    (hline : (apos.endLine == cpos.line) = true) (hl : (e :: es).length < 20) (h1 : starEach (e :: es) X.env = (false, eval e X.env) :: starEach es X.env) (h2 : (backTo cpos (starEach es X.env)).any (·.1) = false) :
    SE X fa xa W (.Call (.Attribute o name apos) (e :: es) [] cpos) fun en h Q E => φ en h (fun x h1 => recv m x h1 = true ∧ ψ en h1 (fun ds h2 => PQ (mtop m x ds h2) Q) E) E := by
  refine .of ((pe_bm PySem.F.plainAttrs_list slot hty hm ho.pe hs.pa (attr_no hn) (few_of (hs.pl _ _) hl) hline h1 h2).wk fun σ H Q w => ?_) (fun _ _ => rfl) (fun _ _ _ z => nomatch z) fun _ => rfl
  obtain ⟨ρ, en, h, Q0, E0, R, N, q, k, kx⟩ := w
  refine ⟨ρ, en, h, _, E0, R, N, q, fun x h3 v ρ3 H3 e3 R3 r3 q3 => ⟨recv_ty R3 r3 q3.1, ?_⟩, kx⟩
  refine ⟨ρ3, en, h3, _, E0, R3, N.mono e3, q3.2, fun ds h4 vs ρ4 H4 e4 R4 r4 q4 => ?_, kx.ext e3⟩
  exact g ρ4 h4 H4 x v ds vs Q Q0 R4 (r3.mono e4) r4 q4 (k.ext (e3.trans e4))
theorem se_mt0 {m : MT} {name : Str} {id : String} {r : V → List V → Hp → VK → Prop} (slot : Slot "list" name id) (hty : typeOf (.builtin id) = pure (.type "method_descriptor")) (hm : MtR X id r) (g : GM X.K fa r m) (ho : SE X fa xa W o φ) (hn : NoCall0 o)
    (hline : (apos.endLine == cpos.line) = true) :
    SE X fa xa W (.Call (.Attribute o name apos) [] [] cpos) fun en h Q E => φ en h (fun x h1 => recv m x h1 = true ∧ PQ (mtop m x [] h1) Q) E := by
  refine .of ((pe_bm0 PySem.F.plainAttrs_list slot hty hm ho.pe (attr_no hn) hline).wk fun σ H Q w => ?_) (fun _ _ => rfl) (fun _ _ _ z => nomatch z) fun _ => rfl
  refine RE.one (f := fun _ x h1 Q _ => recv m x h1 = true ∧ PQ (mtop m x [] h1) Q) w fun ρ en h H x v Q0 E0 R N r q k kx => ⟨recv_ty R r q.1, ?_⟩
  exact g ρ h H x v [] [] Q Q0 R r .nil q.2 k
def mtName : MT → Option Str
  | .append => some "append"
  | .extend => some "extend"
  | .pop0 => some "pop"
  | .reverse => some "reverse"
  | .pop1 => some "pop"
  | .index => some "index"
  | _ => none
theorem se_mt {m : MT} {name : Str} (hun : X.A.units + 65 < cLine) (hnm : mtName m = some name) (ho : SE X fa xa W o φ) (hs : SA X fa xa W es ψ) (hn : NoCall0 o) (hline : (apos.endLine == cpos.line) = true) (hl : es.length < 20)
    (h1 : ∀ e r, es = e :: r → starEach (e :: r) X.env = (false, eval e X.env) :: starEach r X.env ∧ (backTo cpos (starEach r X.env)).any (·.1) = false) (h0 : es = [] → ψ = fun _ h Q _ => Q [] h) (hpop : (m = .pop0 ∨ m = .reverse) ↔ es = []) :
    SE X fa xa W (.Call (.Attribute o name apos) es [] cpos) fun en h Q E => φ en h (fun x h1 => recv m x h1 = true ∧ ψ en h1 (fun ds h2 => PQ (mtop m x ds h2) Q) E) E := by
  cases es with
  | nil =>
    have hp := hpop.mpr rfl
    have z := h0 rfl
    subst z
    rcases hp with rfl | rfl
    · cases hnm; exact se_mt0 PySem.F.slot_list_pop PySem.F.type_list_pop mt_pop gm_pop0 ho hn hline
    · cases hnm; exact se_mt0 PySem.F.slot_list_reverse PySem.F.type_list_reverse mt_reverse gm_reverse ho hn hline
  | cons e r =>
    obtain ⟨a1, a2⟩ := h1 e r rfl
    have hp : ¬ (m = .pop0 ∨ m = .reverse) := fun z => nomatch hpop.mp z
    cases m with
    | append => cases hnm; exact se_mt1 PySem.F.slot_list_append PySem.F.type_list_append mt_append gm_append ho hs hn hline hl a1 a2
    | extend => cases hnm; exact se_mt1 PySem.F.slot_list_extend PySem.F.type_list_extend mt_extend gm_extend ho hs hn hline hl a1 a2
    | pop1 => cases hnm; exact se_mt1 PySem.F.slot_list_pop PySem.F.type_list_pop mt_popAt gm_pop1 ho hs hn hline hl a1 a2
    | index => cases hnm; exact se_mt1 PySem.F.slot_list_index PySem.F.type_list_index (mt_indexD hun) gm_index ho hs hn hline hl a1 a2
    | pop0 => exact absurd (.inl rfl) hp
    | reverse => exact absurd (.inr rfl) hp
    | _ => cases hnm
end
end Mp
namespace Mp
open PySem PySem.Spec PyProof.Rows L2

/-! ### tuples, slices with a step -/
section
variable {prog : Program} {w : World} {A : Around} {E : Value → Shared → Prop} {s : Shared}
theorem sliceApplied_step {sl : Addr} {vl vu vs : Value} {lo hi : Option Int} {st : Int} {n : Nat} {Q : Int × Int × Nat → Shared → Prop} (hs : s.heap.IsSliceOf sl vl vu vs) (pl : IsPart vl lo) (pu : IsPart vu hi) (ps : IsPart vs (some st)) (h0 : st ≠ 0)
    (h : Q ((Builtin.Slice.sliceAdjust lo hi st (n : Int)).1, st, Builtin.Slice.slicePlaces (Builtin.Slice.sliceAdjust lo hi st (n : Int)).1 (Builtin.Slice.sliceAdjust lo hi st (n : Int)).2 st) s) :
    wpAny (model prog w) A (Builtin.Slice.sliceApplied (.ref sl) (pure (n : Int))) Q E s := by
  obtain ⟨os, hos, hcs, hds⟩ := id hs
  unfold Builtin.Slice.sliceApplied Builtin.Slice.sliceFields
  refine wpAny_bind (wpAny_bind (wpAny_field hos hds (x := vl) rfl (wpAny_bind (wpAny_field hos hds (x := vu) rfl (wpAny_bind (wpAny_field hos hds (x := vs) rfl (wpAny_pure ?_)))))))
  refine wpAny_bind (HT.slicePart_ ps ?_)
  show wpAny _ _ (if (st == 0) = true then _ else _) _ _ s
  rw [if_neg (by simpa using h0)]
  refine wpAny_bind (HT.slicePart_ pl (wpAny_bind (HT.slicePart_ pu (wpAny_bind (wpAny_pure ?_)))))
  exact wpAny_pure h
theorem getItem_tuple_step {t sl : Addr} {items : Array Value} {vl vu vs : Value} {lo hi : Option Int} {st : Int} {Q : Value → Shared → Prop} (ht : IsTup s.heap t items) (hs : s.heap.IsSliceOf sl vl vu vs) (pl : IsPart vl lo) (pu : IsPart vu hi) (ps : IsPart vs (some st))
    (h0 : st ≠ 0) (h1 : st ≠ 1) (h : Q (.ref s.heap.objs.size) { s with heap := s.heap.push { cls := .type "tuple", data := .seq (pickT items.toList lo hi st).toArray } }) (hsz : (pickT items.toList lo hi st).length ≤ sizeLine) :
    wpAny (model prog w) A (getItem (.ref t) (.ref sl)) Q E s := by
  have htake : sizeOk (.seq (pickT items.toList lo hi st).toArray) := by
    show (pickT items.toList lo hi st).toArray.size ≤ sizeLine
    rw [List.size_toArray]
    exact hsz
  obtain ⟨os, hos, hcs, hds⟩ := id hs
  have hTs : s.TypeIs (.ref sl) "slice" := ⟨os, hos, hcs⟩
  unfold getItem
  try with_reducible refine wpAny_holding ?_
  first | refine wpAny_bind (wpAny_pure ?_) | skip
  refine wpAny_bind (wpAny_sequenceKey ht.typeIs (by decide) ?_)
  refine wpAny_bind (wpAny_callSpecial?_slot (name := Str.ofString "__getitem__") ht.typeIs PyProof.Rows.slot_tuple_getitem
    (wpAny_call_entry PyProof.Rows.slot_tuple_getitem ht.typeIs entry_tuple_getitem ?_ (args_tuple_getitem _ _)))
  show wpAny _ _ (Builtin.Tuple.tupleItemsOf (.ref t) >>= _) _ _ s
  refine wpAny_bind (tupleItemsOf_ ht ?_)
  refine wpAny_bind (wpAny_typeOf hTs ?_)
  rw [if_pos (by decide)]
  refine wpAny_bind (sliceApplied_step hs pl pu ps h0 ?_)
  have hno : ¬ (((Builtin.Slice.sliceAdjust lo hi st (items.size : Int)).1 == 0 && st == 1 && Builtin.Slice.slicePlaces (Builtin.Slice.sliceAdjust lo hi st (items.size : Int)).1 (Builtin.Slice.sliceAdjust lo hi st (items.size : Int)).2 st == items.size) = true) := by
    intro q
    rw [Bool.and_eq_true, Bool.and_eq_true] at q
    exact h1 (eq_of_beq q.1.2)
  show wpAny _ _ (if ((Builtin.Slice.sliceAdjust lo hi st (items.size : Int)).1 == 0 && st == 1 && Builtin.Slice.slicePlaces (Builtin.Slice.sliceAdjust lo hi st (items.size : Int)).1 (Builtin.Slice.sliceAdjust lo hi st (items.size : Int)).2 st == items.size) = true then _ else _) _ _ s
  rw [if_neg hno]
  have e : ((List.range (Builtin.Slice.slicePlaces (Builtin.Slice.sliceAdjust lo hi st (items.size : Int)).1 (Builtin.Slice.sliceAdjust lo hi st (items.size : Int)).2 st)).filterMap fun (k : Nat) => items[((Builtin.Slice.sliceAdjust lo hi st (items.size : Int)).1 + (k : Int) * st).toNat]?).toArray = (pickT items.toList lo hi st).toArray := by
    unfold pickT
    rw [Array.length_toList]
    simp only [Array.getElem?_toList]
  rw [e]
  first
    | exact wpAny_bind (m := Builtin.Tuple.tupleExact _) (wpAny_newObj_type (wpAny_pure ⟨_, rfl, wpAny_pure h⟩) htake)
    | exact wpAny_bind (m := Builtin.Tuple.tupleExact _) (wpAny_newObj_type (wpAny_bind (wpAny_pure (wpAny_pure ⟨_, rfl, wpAny_pure h⟩))) htake)
    | exact wpAny_bind (wpAny_bind (m := Builtin.Tuple.tupleExact _) (wpAny_newObj_type (wpAny_pure (wpAny_pure ⟨_, rfl, wpAny_pure h⟩)) htake))
    | exact wpAny_bind (wpAny_bind (m := Builtin.Tuple.tupleExact _) (wpAny_newObj_type (wpAny_pure ⟨_, rfl, wpAny_pure h⟩) htake))
end
theorem vals_fm {vs : List V} {us : List Value} (r : Vals vs us) (f : Nat → Nat) : ∀ l : List Nat, Vals (l.filterMap fun k => vs[f k]?) (l.filterMap fun k => us[f k]?)
  | [] => .nil
  | k :: l => by
    rw [List.filterMap_cons, List.filterMap_cons]
    cases e : vs[f k]? with
    | none =>
      have : us[f k]? = none := by
        rw [List.getElem?_eq_none_iff] at e ⊢
        rw [← r.length]; exact e
      rw [this]
      exact vals_fm r f l
    | some x =>
      obtain ⟨u, hu, ru⟩ := r.get e
      rw [hu]
      exact .cons ru (vals_fm r f l)
theorem vals_pick {vs : List V} {us : List Value} (r : Vals vs us) (lo hi : Option Int) (st : Int) : Vals (pickT vs lo hi st) (pickT us lo hi st) := by
  unfold pickT
  rw [r.length]
  exact vals_fm r _ _
section
variable {K : PySem.W.Frag} {fa : Nat → Option Addr} {ρ : List Addr} {H : Hp}
theorem rds_fm {ds : List D} {vs : List V} (r : RDs K fa ρ H ds vs) (f : Nat → Nat) : ∀ l : List Nat, RDs K fa ρ H (l.filterMap fun k => ds[f k]?) (l.filterMap fun k => vs[f k]?)
  | [] => .nil
  | k :: l => by
    rw [List.filterMap_cons, List.filterMap_cons]
    cases e : ds[f k]? with
    | none =>
      have : vs[f k]? = none := by
        rw [List.getElem?_eq_none_iff] at e ⊢
        rw [← r.length]; exact e
      rw [this]
      exact rds_fm r f l
    | some x =>
      obtain ⟨u, hu, ru⟩ := r.get e
      rw [hu]
      exact .cons ru (rds_fm r f l)
theorem rds_pick {ds : List D} {vs : List V} (r : RDs K fa ρ H ds vs) (lo hi : Option Int) (st : Int) : RDs K fa ρ H (pickT ds lo hi st) (pickT vs lo hi st) := by
  unfold pickT
  rw [r.length]
  exact rds_fm r _ _
end
section
variable {X : Cx} {fa : Nat → Option Addr} {xa : Nat → Option (Value × List Str)} {W : WX} {e a b : Expr} {es : List Expr} {φ φa φb : WE} {ψ : WL} {pos p p2 p3 : Pos}
/-- t[lo:hi:st] -/
def tStep (K : PySem.W.Frag) (te : TE) (tl th : TO) (st : Int) : TE := fun σ H Q => te σ H fun x H1 => tl σ H1 fun lo H2 => th σ H2 fun hi H3 => ∃ ad xs, x = .ref ad ∧ SqT K H3 ad xs ∧ (pickT xs lo hi st).length ≤ sizeLine ∧ ∀ p, H3 p = none → Q (.ref p) (upd H3 p (.tup (pickT xs lo hi st)))
theorem pe_step {lo hi : Option Expr} {se : Expr} {tl th : TO} {te : TE} {st : Int} (hst : PO X (some se) (tPart (tC (.int st)))) (h0 : st ≠ 0) (h1 : st ≠ 1) (he : PE X e te) (hl : PO X lo tl) (hh : PO X hi th) :
    PE X (.Subscript e (.Slice lo hi (some se) p3) pos) (tStep X.K te tl th st) := by
  refine ⟨fun pins s σ H Q I h => ?_⟩
  refine Subscript_ (thn (he.run pins s σ H _ I h) fun v s1 ⟨x, H1, I1, r1, q1⟩ => ?_)
  refine wpAny_Slice (thn (hl.run pins s1 σ H1 _ I1 q1) fun vl s2 ⟨l, H2, I2, pl, q2⟩ => ?_)
  refine thn (hh.run pins s2 σ H2 _ I2 q2) fun vu s3 ⟨u, H3, I3, pu, q3⟩ => ?_
  obtain ⟨ad, xs, ex, hx, hz, q⟩ := q3
  subst ex
  cases r1
  refine thn (hst.run pins s3 σ H3 (fun o H4 => o = some st ∧ H4 = H3) I3 ⟨st, rfl, rfl, rfl⟩) fun vs s4 ⟨o, H4, I4, ps, eo, e4⟩ => ?_
  subst eo e4
  have I5 : Inv X pins σ H4 { s4 with heap := s4.heap.push { cls := .type "slice", data := .fields #[vl, vu, vs] } } := I4.kept (t' := s4.toks) fun b ob q => Heap.get?_push_of_some _ q
  obtain ⟨its, r, ht, hzz⟩ := I5.tuple hx
  show wpAny (model X.prog X.w) X.A (subscriptTail e (.Slice lo hi (some se) p3) (.ref ad) (.ref s4.heap.objs.size)) (EP X pins σ Q) X.xe { s4 with heap := s4.heap.push { cls := .type "slice", data := .fields #[vl, vu, vs] } }
  have rp := vals_pick r l u st
  refine tail_any (ops := [.ref ad, .ref s4.heap.objs.size]) ht.typeIs (PyProof.Rows.slot_tuple_getitem.lookup) ?_ (by with_unfolding_all rfl)
  refine getItem_tuple_step ht (Heap.IsSliceOf.new _ vl vu vs) pl pu ps h0 h1 ?_ (by rw [← rp.length]; exact hz)
  refine ⟨.ref _, _, I5.laid (t' := s4.toks) (o := .tup (pickT xs l u st)) (fun b ob q => Heap.get?_push_of_some _ q) (Nat.le_refl _) ⟨hz, _, rp, IsTup.new _ _⟩, rfl, q _ (I5.hok.fresh (Nat.le_refl _))⟩
theorem se_slS {lo hi : Option Expr} {ol oh : Bool} {φl φh : WE} {se : Expr} {st : Int} (hst : PO X (some se) (tPart (tC (.int st)))) (ha : SE X fa xa W a φa) (hl : SP_ X fa xa W lo ol φl) (hh : SP_ X fa xa W hi oh φh) (h01 : st ≠ 0 ∧ st ≠ 1) :
    SE X fa xa W (.Subscript a (.Slice lo hi (some se) p2) pos) fun en h Q E => φa en h (fun x h1 => ifO ol (φl en h1) (fun l h2 => ifO oh (φh en h2) (fun u h3 => PQ (slSop x l u st h3) Q) E h2) E h1) E := by
  refine .of ((pe_step hst h01.1 h01.2 ha.pe (po_all hl) (po_all hh)).wk fun σ H Q ⟨ρ, en, h, Q0, E0, R, N, q, k, kx⟩ => ?_) (fun _ _ => rfl) (fun _ _ _ z => nomatch z) fun _ => rfl
  refine ⟨ρ, en, h, _, E0, R, N, q, fun x h1 v ρ1 H1 e1 R1 rx q1 => ?_, kx⟩
  refine ⟨ρ1, en, h1, _, E0, R1, N.mono e1, q1, fun l h2 ρ2 H2 e2 R2 q2 => ?_, kx.ext e1⟩
  refine ⟨ρ2, en, h2, _, E0, R2, N.mono (e1.trans e2), q2, fun u h3 ρ3 H3 e3 R3 q3 => ?_, kx.ext (e1.trans e2)⟩
  have rx3 := rx.mono (e2.trans e3)
  have k3 := k.ext ((e1.trans e2).trans e3)
  cases rx3 with
  | @tup xs us ad s1 r1 =>
    obtain ⟨c, q3⟩ := ite_PQ (show PQ (if st ≠ 0 ∧ st ≠ 1 ∧ (pickT xs l u st).length ≤ sizeLine then some (D.tup (pickT xs l u st), h3) else none) Q0 from q3)
    have rp := rds_pick r1 l u st
    exact ⟨ad, us, rfl, s1.sq, by rw [← rp.length]; exact c.2.2, k3.tup R3 rp q3⟩
  | _ => exact False.elim q3
/-- the step: a number written -/
def stepB (st : Int) : Expr → Bool
  | .Constant (.int k) _ _ => st == k
  | .UnaryOp .USub (.Constant (.int k) _ _) _ => st == -k
  | _ => false
theorem po_step {st : Int} {se : Expr} (h : stepB st se = true) : PO X (some se) (tPart (tC (.int st))) := by
  unfold stepB at h
  split at h
  · rw [eq_of_beq h]; exact po_some pe_int
  · rw [eq_of_beq h]
    exact (po_some (pe_un un_neg pe_int)).wk fun σ H Q q => by
      obtain ⟨i, e, q⟩ := q
      cases e
      exact ⟨_, rfl, _, rfl, q⟩
  · cases h

/-! ### {}, list(range(..)) -/
theorem se_dict0 : SE X fa xa W (.Dict [] [] pos) fun en h Q E => PQ (biop .dict0 [] h) Q := by
  refine .of (pe_dnewT.wk fun σ H Q ⟨ρ, en, h, Q0, E0, R, N, q, k, kx⟩ => ?_) (fun _ _ => rfl) (fun _ _ _ z => nomatch z) fun _ => rfl
  intro p hp
  have q : Q0 (.ref h.length) (h ++ [.dic []]) := q
  refine k _ _ _ (ρ ++ [p]) _ (Ext.newLst hp) (R.newO (d := .dic []) hp ⟨[], upd_same, rfl, .nil⟩) (.ref ?_) q
  rw [← R.len]
  simp
theorem rgOk_of {a b : Int} (h : rgOk a b = true) : RgOk a b := by
  simp only [rgOk, decide_eq_true_eq, B62_eq, N24_eq] at h
  exact h
theorem rgD_len (a b : Int) : (rgD a b).length = (rgV a b).length := by unfold rgD rgV; simp
theorem rg_rel {K : PySem.W.Frag} {ρ : List Addr} {H : Hp} (a b : Int) : RDs K fa ρ H (rgD a b) (rgV a b) := by
  unfold rgD rgV
  induction List.range (b - a).toNat with
  | nil => exact .nil
  | cons x r ih => exact .cons (.int _) ih
theorem RA.one1 {σ : L2.St} {H : Hp} {φ : WE} {f : D → MH → QV → QX → Prop} {Q : VK} {Rk : V → Hp → Prop} (w : RE X.K fa xa W (fun en h Q E => φ en h (fun x h1 => f x h1 Q E) E) σ H Q)
    (c : ∀ ρ en h H x v Q0 E0, RH X.K fa ρ h H → REn X.K fa ρ H en σ → RD X.K fa ρ H x v → f x h Q0 E0 → Then X.K fa ρ H Q0 Q → Rk v H) : RE X.K fa xa W φ σ H Rk :=
  RE.one (f := fun _ x h1 Q E => f x h1 Q E) w fun ρ en h H x v Q0 E0 R N r q k kx => c ρ en h H x v Q0 E0 R N r q k
theorem ite_PQ2 {c : Prop} [Decidable c] {r : PR} {Q : QV} (h : PQ (if c then r else none) Q) : c ∧ PQ r Q := by
  by_cases hc : c
  · rw [if_pos hc] at h; exact ⟨hc, h⟩
  · rw [if_neg hc] at h; exact False.elim h
/-- list(range(a)), list(range(a, b)), tuple(..) -/
theorem g_lr (f : BI) (hf : f = .listRng1 ∨ f = .listRng2) {ρ : List Addr} {h : MH} {H : Hp} {a b : Int} {Q : VK} {Q0 : QV} (R : RH X.K fa ρ h H) (k : Then X.K fa ρ H Q0 Q) (q : PQ (if rgOk a b = true then newL h (rgD a b) else none) Q0) :
    RgOk a b ∧ ∀ q, H q = none → Q (.ref q) (upd H q (.lst (rgV a b))) := by
  obtain ⟨c, q⟩ := ite_PQ2 q
  exact ⟨rgOk_of c, (k.lst R (rg_rel a b) q).2⟩
theorem g_tr {ρ : List Addr} {h : MH} {H : Hp} {a b : Int} {Q : VK} {Q0 : QV} (R : RH X.K fa ρ h H) (k : Then X.K fa ρ H Q0 Q) (q : PQ (if rgOk a b = true then some (D.tup (rgD a b), h) else none) Q0) :
    RgOk a b ∧ ∀ q, H q = none → Q (.ref q) (upd H q (.tup (rgV a b))) := by
  obtain ⟨c, q⟩ := ite_PQ2 q
  exact ⟨rgOk_of c, k.tup R (rg_rel a b) q⟩
theorem rg1_read {σ : L2.St} {H : Hp} {Q : VK} {f : BI} {Rk : Int → Int → Hp → Prop} (w : RE X.K fa xa W (fun en h Q E => φ en h (fun x h1 => PQ (biop f [x] h1) Q) E) σ H Q)
    (hno : ∀ x h, (∀ n, x ≠ .int n) → biop f [x] h = none) (c : ∀ ρ h H n Q0, RH X.K fa ρ h H → PQ (biop f [.int n] h) Q0 → Then X.K fa ρ H Q0 Q → Rk 0 n H) : tRg1 (RE X.K fa xa W φ) σ H Rk := by
  refine RE.one (f := fun _ x h1 Q _ => PQ (biop f [x] h1) Q) w fun ρ en h H x v Q0 E0 R N r q k kx => ?_
  cases r with
  | int n => exact ⟨n, rfl, c ρ h H n Q0 R q k⟩
  | _ => (rw [hno _ _ (by intro n z; cases z)] at q; exact False.elim q)
theorem rg2_read {σ : L2.St} {H : Hp} {Q : VK} {f : BI} {Rk : Int → Int → Hp → Prop} (w : RE X.K fa xa W (fun en h Q E => φa en h (fun x h1 => φb en h1 (fun y h2 => PQ (biop f [x, y] h2) Q) E) E) σ H Q)
    (hno : ∀ x y h, (∀ n m, ¬ (x = .int n ∧ y = .int m)) → biop f [x, y] h = none) (c : ∀ ρ h H n m Q0, RH X.K fa ρ h H → PQ (biop f [.int n, .int m] h) Q0 → Then X.K fa ρ H Q0 Q → Rk n m H) : tRg2 (RE X.K fa xa W φa) (RE X.K fa xa W φb) σ H Rk := by
  obtain ⟨ρ, en, h, Q0, E0, R, N, q, k, kx⟩ := w
  refine ⟨ρ, en, h, _, E0, R, N, q, fun x h1 v ρ1 H1 e1 R1 r1 q1 => ?_, kx⟩
  refine ⟨ρ1, en, h1, _, E0, R1, N.mono e1, q1, fun y h2 u ρ2 H2 e2 R2 r2 q2 => ?_, kx.ext e1⟩
  have r1' := r1.mono e2
  cases r1' with
  | int n =>
    cases r2 with
    | int m => exact ⟨n, m, rfl, rfl, c ρ2 h2 H2 n m Q0 R2 q2 (k.ext (e1.trans e2))⟩
    | _ => (rw [hno _ _ _ (by intro n m z; cases z.2)] at q2; exact False.elim q2)
  | _ => (rw [hno _ _ _ (by intro n m z; cases z.1)] at q2; exact False.elim q2)
theorem se_lr1 (hc : X.calm = true) (hg : Gl X "list") (hm : X.mg "list" = none) (hg2 : Gl X "range") (hm2 : X.mg "range" = none) (ha : SE X fa xa W a φ) :
    SE X fa xa W (.Call (.Name "list" p) [.Call (.Name "range" p2) [a] [] p3] [] pos) fun en h Q E => φ en h (fun x h1 => PQ (biop .listRng1 [x] h1) Q) E := by
  refine .of ((pe_listRg hc hg hm (prg_1 hg2 hm2 ha.pe (ha.ns _ _)) rfl).wk fun σ H Q w => ?_) (fun _ _ => rfl) (fun _ _ _ z => nomatch z) fun _ => rfl
  exact rg1_read w (fun x h n => by cases x <;> first | rfl | exact absurd rfl (n _)) fun ρ h H n Q0 R q k => g_lr .listRng1 (.inl rfl) R k q
theorem se_tr1 (hc : X.calm = true) (hg : Gl X "tuple") (hm : X.mg "tuple" = none) (hg2 : Gl X "range") (hm2 : X.mg "range" = none) (ha : SE X fa xa W a φ) :
    SE X fa xa W (.Call (.Name "tuple" p) [.Call (.Name "range" p2) [a] [] p3] [] pos) fun en h Q E => φ en h (fun x h1 => PQ (biop .tupRng1 [x] h1) Q) E := by
  refine .of ((pe_tupRg hc hg hm (prg_1 hg2 hm2 ha.pe (ha.ns _ _)) rfl).wk fun σ H Q w => ?_) (fun _ _ => rfl) (fun _ _ _ z => nomatch z) fun _ => rfl
  exact rg1_read w (fun x h n => by cases x <;> first | rfl | exact absurd rfl (n _)) fun ρ h H n Q0 R q k => g_tr R k q
theorem se_lr2 (hc : X.calm = true) (hg : Gl X "list") (hm : X.mg "list" = none) (hg2 : Gl X "range") (hm2 : X.mg "range" = none) (ha : SE X fa xa W a φa) (hb : SE X fa xa W b φb) :
    SE X fa xa W (.Call (.Name "list" p) [.Call (.Name "range" p2) [a, b] [] p3] [] pos) fun en h Q E => φa en h (fun x h1 => φb en h1 (fun y h2 => PQ (biop .listRng2 [x, y] h2) Q) E) E := by
  refine .of ((pe_listRg hc hg hm (prg_2 hg2 hm2 ha.pe hb.pe (ha.ns _ _) (hb.ns _ _) ?_) rfl).wk fun σ H Q w => ?_) (fun _ _ => rfl) (fun _ _ _ z => nomatch z) fun _ => rfl
  · rw [hb.ns]; rfl
  · exact rg2_read w (fun x y h n => by cases x <;> cases y <;> first | rfl | exact absurd ⟨rfl, rfl⟩ (n _ _)) fun ρ h H n m Q0 R q k => g_lr .listRng1 (.inl rfl) R k q
theorem se_tr2 (hc : X.calm = true) (hg : Gl X "tuple") (hm : X.mg "tuple" = none) (hg2 : Gl X "range") (hm2 : X.mg "range" = none) (ha : SE X fa xa W a φa) (hb : SE X fa xa W b φb) :
    SE X fa xa W (.Call (.Name "tuple" p) [.Call (.Name "range" p2) [a, b] [] p3] [] pos) fun en h Q E => φa en h (fun x h1 => φb en h1 (fun y h2 => PQ (biop .tupRng2 [x, y] h2) Q) E) E := by
  refine .of ((pe_tupRg hc hg hm (prg_2 hg2 hm2 ha.pe hb.pe (ha.ns _ _) (hb.ns _ _) ?_) rfl).wk fun σ H Q w => ?_) (fun _ _ => rfl) (fun _ _ _ z => nomatch z) fun _ => rfl
  · rw [hb.ns]; rfl
  · exact rg2_read w (fun x y h n => by cases x <;> cases y <;> first | rfl | exact absurd ⟨rfl, rfl⟩ (n _ _)) fun ρ h H n m Q0 R q k => g_tr R k q
end
end Mp
namespace Mp
open PySem PySem.Spec PyProof.Rows L2

/-- the module's names: functions by number, whole numbers -/
structure Tb where
  fn : Nat → Option Str
  gc : Str → Option Int
instance : CoeFun Tb fun _ => Nat → Option Str := ⟨Tb.fn⟩
/-! ### is a small form that of a text -/
def visB (sc : Scope) (x : Str) : Bool := match sc.names.lookup x with
  | some .local => true
  | some .cell => true
  | some .free => true
  | _ => false
def locB (sc : Scope) (x : Str) : Bool := match sc.names.lookup x with
  | some .local => true
  | some .cell => true
  | _ => false
def glB (sc : Scope) (x : Str) : Bool := match sc.names.lookup x with
  | some .globalImplicit => true
  | _ => false
def cstB : D → Const → Bool
  | .non, .none => true
  | .bl a, .bool b => a == b
  | .int a, .int b => a == b
  | .str a, .str b => decide (a = b)
  | _, _ => false
def plainName (x : Str) : Bool := !(x == ("__debug__" : Str)) && !(x == ("__classdict__" : Str))
def call0B : Expr → Bool
  | .Call (.Name _ _) [] [] _ => true
  | _ => false
def sliceB : Expr → Bool
  | .Slice .. => true
  | _ => false
def opB : B2 → Operator → Bool
  | o, p => decide (opOf o = p)
def cmpB : C2 → CmpOp → Bool
  | o, p => decide (cmpOf o = p)
/-- isinstance's two arguments -/
def isiB : List Expr → Option (Expr × Str)
  | [y, .Name ty _] => some (y, ty)
  | _ => none
theorem isiB_of {xs : List Expr} {q : Expr × Str} (h : isiB xs = some q) : ∃ p, xs = [q.1, .Name q.2 p] := by
  unfold isiB at h
  split at h
  · cases h; exact ⟨_, rfl⟩
  · cases h
def isDict0 : BI → Bool
  | .dict0 => true
  | _ => false
def hd1 : List Expr → Option Expr
  | [c] => some c
  | _ => none
theorem hd1_of {xs : List Expr} {c : Expr} (h : hd1 xs = some c) : xs = [c] := by
  unfold hd1 at h
  split at h
  · cases h; rfl
  · cases h
/-- whether a method has no arguments -/
def argB (m : MT) (b : Bool) : Bool := match m with
  | .pop0 => b
  | .reverse => b
  | _ => !b
theorem argB_iff {m : MT} {xs : List Expr} (h : argB m xs.isEmpty = true) : (m = .pop0 ∨ m = .reverse) ↔ xs = [] := by
  cases m with
  | pop0 => exact ⟨fun _ => List.isEmpty_iff.mp h, fun _ => .inl rfl⟩
  | reverse => exact ⟨fun _ => List.isEmpty_iff.mp h, fun _ => .inr rfl⟩
  | _ => exact ⟨(fun z => by rcases z with z | z <;> cases z), (fun z => by subst z; cases h)⟩
/-- a target's names with their places -/
def tgB (N : List Str) (ok : Str → Bool) : List Nat → List Expr → Bool
  | [], [] => true
  | i :: is, .Name x _ :: es => decide (N[i]? = some x) && ok x && tgB N ok is es
  | _, _ => false
def tgtB (N : List Str) (ok : Str → Bool) : TGt → Expr → Bool
  | .name i, .Name x _ => decide (N[i]? = some x) && ok x
  | .tup is, .Tuple es _ _ => tgB N ok is es
  | _, _ => false
def ownOf (N : List Str) (is : List Nat) : List (Str × Nat) := is.map fun i => (N.getD i default, i)
def call1B (nm : Str) (sc : Scope) : Expr → Option Expr
  | .Call (.Name x _) [a] [] _ => if decide (x = nm) && glB sc x then some a else none
  | _ => none
def call2B (nm : Str) (sc : Scope) : Expr → Option (Expr × Expr)
  | .Call (.Name x _) [a, b] [] _ => if decide (x = nm) && glB sc x then some (a, b) else none
  | _ => none
def tupB : Expr → Bool
  | .Tuple .. => true
  | _ => false
/-- what a for walks: which kind, the parts -/
def iterB (k : IK) (it : Expr) (tg : Expr) (sc : Scope) : Option (List Expr) := match k with
  | .val => some [it]
  | .rng1 => (call1B "range" sc it).map fun a => [a]
  | .rng2 => (call2B "range" sc it).map fun p => [p.1, p.2]
  | .zip => if tupB tg then (call2B "zip" sc it).map fun p => [p.1, p.2] else none
theorem call1_of {nm : Str} {sc : Scope} {it a : Expr} (h : call1B nm sc it = some a) : ∃ p pos, it = .Call (.Name nm p) [a] [] pos ∧ glB sc nm = true := by
  unfold call1B at h
  split at h
  · split at h
    · rename_i c
      simp only [Bool.and_eq_true, decide_eq_true_eq] at c
      obtain ⟨rfl, c⟩ := c
      cases h
      exact ⟨_, _, rfl, c⟩
    · cases h
  · cases h
theorem call2_of {nm : Str} {sc : Scope} {it a b : Expr} (h : call2B nm sc it = some (a, b)) : ∃ p pos, it = .Call (.Name nm p) [a, b] [] pos ∧ glB sc nm = true := by
  unfold call2B at h
  split at h
  · split at h
    · rename_i c
      simp only [Bool.and_eq_true, decide_eq_true_eq] at c
      obtain ⟨rfl, c⟩ := c
      cases h
      exact ⟨_, _, rfl, c⟩
    · cases h
  · cases h
section
variable (fnm : Tb) (N : List Str)
mutual
def chkE : Scope → ME → Expr → Bool
  | sc, .var i, .Name x _ => decide (N[i]? = some x) && visB sc x && plainName x
  | _, .cst d, .Constant c _ _ => cstB d c
  | sc, .cst d, .Name x _ => glB sc x && plainName x && (match d with
    | .int i => decide (fnm.gc x = some i)
    | _ => false)
  | sc, .tup es, .Tuple xs _ _ => chkEs sc es xs
  | sc, .lst es, .List xs _ => chkEs sc es xs
  | sc, .bin o a b, .BinOp x p y _ => opB o p && chkE sc a x && chkE sc b y
  | sc, .neg a, .UnaryOp .USub x _ => chkE sc a x
  | sc, .not a, .UnaryOp .Not x _ => chkE sc a x
  | sc, .cmp o a b, .Compare x [p] [y] _ => cmpB o p && chkE sc a x && chkE sc b y
  | sc, .chain o1 o2 a b c, .Compare x [p, q] [y, z] _ => cmpB o1 p && cmpB o2 q && chkE sc a x && chkE sc b y && chkE sc c z
  | sc, .and a b, .BoolOp .And (x :: y :: r) pos => chkE sc a x && (match r with
    | [] => chkE sc b y
    | z :: t => chkE sc b (.BoolOp .And (y :: z :: t) pos))
  | sc, .or a b, .BoolOp .Or (x :: y :: r) pos => chkE sc a x && (match r with
    | [] => chkE sc b y
    | z :: t => chkE sc b (.BoolOp .Or (y :: z :: t) pos))
  | sc, .ite c a b, .IfExp z x y _ => chkE sc c z && chkE sc a x && chkE sc b y
  | sc, .ix a b, .Subscript x y _ => !sliceB y && chkE sc a x && chkE sc b y
  | sc, .sl a lo hi, .Subscript x (.Slice l u none _) _ => chkE sc a x && (match l with
    | none => isOmit lo
    | some e => !isOmit lo && chkE sc lo e) && (match u with
    | none => isOmit hi
    | some e => !isOmit hi && chkE sc hi e)
  | sc, .slS a lo hi st, .Subscript x (.Slice l u (some se) _) _ => stepB st se && decide (st ≠ 0 ∧ st ≠ 1) && chkE sc a x && (match l with
    | none => isOmit lo
    | some e => !isOmit lo && chkE sc lo e) && (match u with
    | none => isOmit hi
    | some e => !isOmit hi && chkE sc hi e)
  | _, .bi f es, .Dict ks vs _ => isDict0 f && es.isEmpty && ks.isEmpty && vs.isEmpty
  | sc, .call f es, .Call (.Name x _) xs [] _ => decide (fnm f = some x) && glB sc x && plainName x && chkEs sc es xs
  | sc, .bi f es, .Call (.Name x _) xs [] _ => glB sc x && (match f with
    | .isinst t => (match isiB xs with
      | some q => decide (x = ("isinstance" : Str)) && decide (q.2 = Str.ofString (tyOf t)) && glB sc q.2 && chkEs sc es [q.1]
      | none => false)
    | .listRng1 => decide (x = ("list" : Str)) && (match (hd1 xs).bind (call1B "range" sc) with
      | some a => chkEs sc es [a]
      | none => false)
    | .tupRng1 => decide (x = ("tuple" : Str)) && (match (hd1 xs).bind (call1B "range" sc) with
      | some a => chkEs sc es [a]
      | none => false)
    | .listRng2 => decide (x = ("list" : Str)) && (match (hd1 xs).bind (call2B "range" sc) with
      | some q => chkEs sc es [q.1, q.2]
      | none => false)
    | .tupRng2 => decide (x = ("tuple" : Str)) && (match (hd1 xs).bind (call2B "range" sc) with
      | some q => chkEs sc es [q.1, q.2]
      | none => false)
    | f => (match biName f with
      | some bv => decide (x = bvStr bv) && decide (0 < xs.length) && chkEs sc es xs
      | none => false))
  | sc, .mt m o es, .Call (.Attribute y nm apos) xs [] cpos => decide (mtName m = some nm) && !call0B y && (apos.endLine == cpos.line) && decide (xs.length < 20) && argB m xs.isEmpty && chkE sc o y && chkEs sc es xs
  | sc, .comp elt tg k its cond, .ListComp e [⟨t, it, ifs, ia⟩] scope _ => decide (ia = 0) && blkC N sc scope (ownOf N tg.slots) && tgtB N (locB scope) tg t && (match iterB k it t sc with
    | some ps => chkEs sc its ps
    | none => false) && chkE (relS scope sc) elt e && (match ifs with
    | [] => isOmit cond
    | [c] => !isOmit cond && chkE (relS scope sc) cond c
    | _ => false)
  | _, _, _ => false
def chkEs : Scope → List ME → List Expr → Bool
  | _, [], [] => true
  | sc, e :: es, x :: xs => chkE sc e x && chkEs sc es xs
  | _, _, _ => false
end
/-- does the comprehension's name lie on its line (then the store is done within) -/
def swapB (sc : Scope) (x : Str) (pos2 : Pos) (e : Expr) : Bool := match e with
  | .ListComp _ _ s p => (match sc.names.lookup x with | some .local => true | _ => false) && (pos2.line == p.line) && !(s.names.any fun (n, k) => n == x && (k == .local || k == .cell))
  | _ => false
mutual
def chkS : Scope → MS → Stmt → Bool
  | sc, .expr e, .Expr x _ => (match x with | .ListComp .. => false | _ => true) && chkE fnm N sc e x
  | sc, .asg i e, .Assign [.Name x _] y _ => decide (N[i]? = some x) && locB sc x && chkE fnm N sc e y
  | sc, .asgT is e, .Assign [.Tuple ts _ _] y _ => tgB N (locB sc) is ts && (match y with | .Tuple .. => false | _ => true) && chkE fnm N sc e y
  | sc, .asgIx o i e, .Assign [.Subscript b c _] y _ => chkE fnm N sc o b && chkE fnm N sc i c && !sliceB c && chkE fnm N sc e y
  | sc, .ifs c a b, .If x ya yb _ => chkE fnm N sc c x && chkSs sc a ya && chkSs sc b yb
  | sc, .for_ tg k its body, .For t it b [] _ => tgtB N (locB sc) tg t && (match iterB k it t sc with
    | some ps => chkEs fnm N sc its ps
    | none => false) && chkSs sc body b
  | sc, .while_ c body, .While x b [] _ => chkE fnm N sc c x && chkSs sc body b
  | sc, .ret e, .Return (some x) _ => chkE fnm N sc e x
  | _, .pass, .Pass _ => true
  | _, _, _ => false
def chkSs : Scope → List MS → List Stmt → Bool
  | _, [], [] => true
  | sc, s :: ss, x :: xs => chkS sc s x && chkSs sc ss xs
  | _, _, _ => false
end
end
end Mp
namespace Mp
open PySem PySem.Spec PyProof.Rows L2

structure GX (X : Cx) (fa : Nat → Option Addr) (xa : Nat → Option (Value × List Str)) (fnm : Tb) (N : List Str) (Φ : Phi) (sc : Scope) (W : WX) : Prop where
  N : X.N = N
  nd : X.N.Nodup
  calm : X.calm = true
  sc : X.env.scope = sc
  gd : X.A.guards = some []
  un : X.A.units + 68 < cLine
  bn : ∀ x ∈ BNames, X.mg x = none
  calls : ∀ f x, fnm f = some x → CallOk X fa xa Φ f x
  tk : Takes X W
  gc : ∀ x i, fnm.gc x = some i → ∃ t, X.mg x = some (.int i t)
section
variable {X : Cx} {fa : Nat → Option Addr} {xa : Nat → Option (Value × List Str)} {fnm : Tb} {N : List Str} {Φ : Phi} {sc : Scope} {W : WX}
theorem GX.vis (G : GX X fa xa fnm N Φ sc W) {x : Str} (h : visB sc x = true) : Vis X.env.scope x := by
  rw [G.sc]
  unfold visB at h
  unfold Vis
  split at h
  · exact .inl (by assumption)
  · exact .inr (.inl (by assumption))
  · exact .inr (.inr (by assumption))
  · cases h
theorem GX.loc (G : GX X fa xa fnm N Φ sc W) {x : Str} (h : locB sc x = true) : L2.Loc X.env.scope x := by
  rw [G.sc]
  unfold locB at h
  unfold L2.Loc
  split at h
  · exact .inl (by assumption)
  · exact .inr (by assumption)
  · cases h
theorem GX.gl (G : GX X fa xa fnm N Φ sc W) {x : Str} (h : glB sc x = true) : Gl X x := by
  unfold Gl Env.kindOf
  rw [G.sc]
  unfold glB at h
  split at h
  · assumption
  · cases h
theorem GX.blk (G : GX X fa xa fnm N Φ sc W) (s : Shared) (H : Hp) (scope : Scope) (cl : List (Str × Addr)) (C : Addr) (fp : List Addr) : GX (X.blk s H scope (compEnvC scope cl C X.env) fp) fa xa fnm N Φ (relS scope sc) W0 :=
  ⟨G.N, G.nd, G.calm, by rw [← G.sc]; rfl, G.gd, G.un, G.bn, fun f x e => ⟨(G.calls f x e).ex⟩, fun u s' ⟨_, _, _, _, _, _, _, _, _, _, _, _, _, _, _, _, z⟩ => z.elim, G.gc⟩
theorem plain_of {x : Str} (h : plainName x = true) : (x == ("__debug__" : Str)) = false ∧ (x == ("__classdict__" : Str)) = false := by
  unfold plainName at h
  simpa using h
theorem call0_of {e : Expr} (h : call0B e = false) : NoCall0 e := fun x p q z => by
  subst z
  cases h
theorem slice_of {e : Expr} (h : sliceB e = false) : ∀ l u s p, e ≠ .Slice l u s p := fun l u s p z => by
  subst z
  cases h
theorem chk_set {m : ME} {es : List Expr} {k : Nat} {q : Pos} (h : chkE fnm N sc m (.Set es k q) = true) : False := by
  cases m <;> exact absurd (show false = true from h) Bool.false_ne_true
theorem no_set {m : ME} {e : Expr} (h : chkE fnm N sc m e = true) : ∀ es k q, e ≠ .Set es k q := fun es k q z => by
  subst z
  exact chk_set h
theorem no_slice {m : ME} {e : Expr} (h : chkE fnm N sc m e = true) : ∀ l u s p, e ≠ .Slice l u s p := fun l u s p z => by
  subst z
  cases m <;> exact absurd (show false = true from h) Bool.false_ne_true
/-- all parts plain: the stars -/
theorem SA.tail {e : Expr} {es : List Expr} {ψ : WL} (S : SA X fa xa W (e :: es) ψ) (h : ∀ env, starEach (e :: es) env = (false, eval e env) :: starEach es env) (pos : Pos) (env : Env) : (backTo pos (starEach es env)).any (·.1) = false := by
  have := S.pl pos env
  rw [h] at this
  exact (Bool.or_eq_false_iff.mp (show (false || (backTo pos (starEach es env)).any (·.1)) = false from this)).2
theorem own_snd (is : List Nat) : (ownOf N is).map (·.2) = is := by
  unfold ownOf
  rw [List.map_map]
  exact List.map_id'' (fun _ => rfl) is
theorem tg_ok {is : List Nat} : ∀ {is : List Nat} {es : List Expr} {ok : Str → Bool}, tgB N ok is es = true → X.N = N → X.N.Nodup → (∀ x, ok x = true → L2.Loc X.env.scope x ∧ (X.fn x = true ∨ X.env.scope.names.lookup x = some .local)) → ∃ g, SGs X fa es is g
  | [], [], _, _, _, _, _ => ⟨_, sgs_nil⟩
  | [], _ :: _, _, h, _, _, _ => nomatch h
  | _ :: _, [], _, h, _, _, _ => nomatch h
  | i :: is, e :: es, ok, h, hN, nd, hok => by
    cases e with
    | Name x p =>
      simp only [tgB, Bool.and_eq_true, decide_eq_true_eq] at h
      obtain ⟨⟨h1, h2⟩, h3⟩ := h
      obtain ⟨g, S⟩ := tg_ok (is := []) h3 hN nd hok
      obtain ⟨l, f⟩ := hok x h2
      exact ⟨_, sgs_cons nd (by rw [hN]; exact h1) l f S⟩
    | _ => exact absurd (show false = true from h) Bool.false_ne_true
theorem tgt_ok {t : TGt} {e : Expr} {ok : Str → Bool} (h : tgtB N ok t e = true) (hN : X.N = N) (nd : X.N.Nodup) (hc : X.calm = true) (hok : ∀ x, ok x = true → L2.Loc X.env.scope x ∧ (X.fn x = true ∨ X.env.scope.names.lookup x = some .local)) : ∃ g, SG X fa e t g := by
  cases t with
  | name i =>
    cases e with
    | Name x p =>
      simp only [tgtB, Bool.and_eq_true, decide_eq_true_eq] at h
      obtain ⟨l, f⟩ := hok x h.2
      exact ⟨_, sg_name nd (by rw [hN]; exact h.1) l f⟩
    | _ => exact absurd (show false = true from h) Bool.false_ne_true
  | tup is =>
    cases e with
    | Tuple es k p =>
      obtain ⟨g, S⟩ := tg_ok (is := []) (show tgB N ok is es = true from h) hN nd hok
      exact ⟨_, sg_tup hc S⟩
    | _ => exact absurd (show false = true from h) Bool.false_ne_true

/-- parts in a row, and the one alone -/
structure SA2 (X : Cx) (fa : Nat → Option Addr) (xa : Nat → Option (Value × List Str)) (W : WX) (Φ : Phi) (ms : List ME) (es : List Expr) : Prop where
  sa : SA X fa xa W es (wEs Φ ms)
  one : ∀ m e, ms = [m] → es = [e] → SE X fa xa W e (wE Φ m)
  st : ∀ e r, es = e :: r → ∀ env, starEach (e :: r) env = (false, eval e env) :: starEach r env
  len : ms.length = es.length
  two : ∀ a b, es = [a, b] → ∀ env, starEach [a, b] env = [(false, eval a env), (false, eval b env)] ∧ starEach [b] env = [(false, eval b env)]
theorem iter_ok (G : GX X fa xa fnm N Φ sc W) {k : IK} {it tg : Expr} {its : List ME} {ps : List Expr} (h : iterB k it tg sc = some ps) (S : SA2 X fa xa W Φ its ps) : PI X tg it (RI X.K fa xa W k (wEs Φ its)) := by
  cases k with
  | val =>
    cases h
    have hl := S.len
    match its, hl with
    | [m], _ =>
      have z := si_val (tg := tg) (S.one m it rfl rfl)
      have e : (wEs Φ [m] : WL) = fun en h Q E => wE Φ m en h (fun x h1 => Q [x] h1) E := by
        funext en h Q E
        rw [wEs]
        simp only [wEs]
      rw [e]
      exact z
  | rng1 =>
    obtain ⟨a, h1, rfl⟩ := Option.map_eq_some_iff.mp (show (call1B "range" sc it).map (fun a => [a]) = some ps from h)
    obtain ⟨p, pos, rfl, c⟩ := call1_of h1
    exact si_rng1 (G.gl c) (G.bn _ (by decide +kernel)) S.sa (by rw [S.st _ _ rfl]; rfl)
  | rng2 =>
    obtain ⟨⟨a, b⟩, h1, rfl⟩ := Option.map_eq_some_iff.mp (show (call2B "range" sc it).map (fun p => [p.1, p.2]) = some ps from h)
    obtain ⟨p, pos, rfl, c⟩ := call2_of h1
    exact si_rng2 (G.gl c) (G.bn _ (by decide +kernel)) S.sa (S.two _ _ rfl _).1 (S.two _ _ rfl _).2
  | zip =>
    have h : (if tupB tg then (call2B "zip" sc it).map (fun p => [p.1, p.2]) else none) = some ps := h
    split at h
    · rename_i ht
      obtain ⟨⟨a, b⟩, h1, rfl⟩ := Option.map_eq_some_iff.mp h
      obtain ⟨p, pos, rfl, c⟩ := call2_of h1
      cases tg with
      | Tuple es kk tp => exact si_zip (G.gl c) (G.bn _ (by decide +kernel)) S.sa (S.st _ _ rfl _) (S.sa.tail (S.st _ _ rfl) _ _)
      | _ => cases ht
    · cases h
theorem iter_fold (G : GX X fa xa fnm N Φ sc W) {k : IK} {it tg : Expr} {ps : List Expr} {its : List ME} (h : iterB k it tg sc = some ps) (hc : chkEs fnm N sc its ps = true) : ∀ x, foldedSetIterable it X.env x = pure x := by
  intro x
  cases it with
  | Set es kk q =>
    exfalso
    cases k with
    | val =>
      cases h
      cases its with
      | nil => exact absurd (show false = true from hc) Bool.false_ne_true
      | cons m ms =>
        have hc : (chkE fnm N sc m (.Set es kk q) && chkEs fnm N sc ms []) = true := hc
        exact chk_set (Bool.and_eq_true_iff.mp hc).1
    | rng1 => cases h
    | rng2 => cases h
    | zip =>
      have h : (if tupB tg then (call2B "zip" sc (.Set es kk q)).map (fun p => [p.1, p.2]) else none) = some ps := h
      split at h <;> cases h
  | _ => rfl
end
end Mp
namespace Mp
open PySem PySem.Spec PyProof.Rows L2

section
variable {fa : Nat → Option Addr} {xa : Nat → Option (Value × List Str)} {fnm : Tb} {N : List Str} {Φ : Phi}
theorem and2 {a b : Bool} (h : (a && b) = true) : a = true ∧ b = true := Bool.and_eq_true_iff.mp h
theorem opB_of {o : B2} {p : Operator} (h : opB o p = true) : p = opOf o := (of_decide_eq_true h).symm
theorem cmpB_of {o : C2} {p : CmpOp} (h : cmpB o p = true) : p = cmpOf o := (of_decide_eq_true h).symm
theorem rd_cst {X : Cx} {d : D} {c : Const} {j : Nat} {pos : Pos} (h : cstB d c = true) : ∃ v, PE X (.Constant c j pos) (tC v) ∧ ∀ ρ H, RD X.K fa ρ H d v := by
  cases d with
  | non => cases c <;> first | exact ⟨_, pe_non, fun _ _ => .non⟩ | cases h
  | bl b =>
    cases c with
    | bool b2 =>
      have e : b = b2 := eq_of_beq h
      subst e
      exact ⟨_, pe_bl, fun _ _ => .bl _⟩
    | _ => cases h
  | int i =>
    cases c with
    | int b2 =>
      have e : i = b2 := eq_of_beq h
      subst e
      exact ⟨_, pe_int, fun _ _ => .int _⟩
    | _ => cases h
  | str s =>
    cases c with
    | str b2 =>
      have e : s = b2 := of_decide_eq_true h
      subst e
      exact ⟨_, pe_str, fun _ _ => .str _⟩
    | _ => cases h
  | _ => cases c <;> cases h
theorem blk_ok {sc scope : Scope} {X : Cx} {W : WX} (G : GX X fa xa fnm N Φ sc W) {t : TGt} (h : blkC N sc scope (ownOf N t.slots) = true) : BlkOk X.N X.env.scope scope (ownOf N t.slots) := by
  rw [G.N, G.sc]
  exact blkOk_by h
theorem loc_blk {sc scope : Scope} {X : Cx} {W : WX} (G : GX X fa xa fnm N Φ sc W) (s : Shared) (H : Hp) (C : Addr) (cl : List (Str × Addr)) (fp : List Addr) {x : Str} (h : locB scope x = true) :
    L2.Loc (X.blk s H scope (compEnvC scope cl C X.env) fp).env.scope x ∧ ((X.blk s H scope (compEnvC scope cl C X.env) fp).fn x = true ∨ (X.blk s H scope (compEnvC scope cl C X.env) fp).env.scope.names.lookup x = some .local) := by
  unfold locB at h
  split at h
  · rename_i e
    have k : (relS scope X.env.scope).names.lookup x = some .local := lookup_relS_keep (by decide) e
    exact ⟨.inl k, .inr k⟩
  · rename_i e
    have k : (relS scope X.env.scope).names.lookup x = some .cell := lookup_relS_keep (by decide) e
    refine ⟨.inr k, .inl ?_⟩
    show (scope.names.lookup x == some NameKind.cell) = true
    rw [e]
    rfl
  · cases h
theorem tgs_blk {sc scope : Scope} {X : Cx} {W : WX} (G : GX X fa xa fnm N Φ sc W) : ∀ {is : List Nat} {es : List Expr}, tgB N (locB scope) is es = true → ∃ g, ∀ (s : Shared) (H : Hp) (C : Addr) (cl : List (Str × Addr)) (fp : List Addr), SGs (X.blk s H scope (compEnvC scope cl C X.env) fp) fa es is g
  | [], [], _ => ⟨_, fun _ _ _ _ _ => sgs_nil⟩
  | [], _ :: _, h => nomatch h
  | _ :: _, [], h => nomatch h
  | i :: is, e :: es, h => by
    cases e with
    | Name x p =>
      simp only [tgB, Bool.and_eq_true, decide_eq_true_eq] at h
      obtain ⟨⟨h1, h2⟩, h3⟩ := h
      obtain ⟨g, S⟩ := tgs_blk G h3
      refine ⟨gCons (gName i) g, fun s H C cl fp => ?_⟩
      obtain ⟨l, f⟩ := loc_blk G s H C cl fp h2
      exact sgs_cons G.nd (by show X.N[i]? = some x; rw [G.N]; exact h1) l f (S s H C cl fp)
    | _ => exact absurd (show false = true from h) Bool.false_ne_true
theorem tgt_blk {sc scope : Scope} {X : Cx} {W : WX} (G : GX X fa xa fnm N Φ sc W) {tg : TGt} {t : Expr} (h : tgtB N (locB scope) tg t = true) : ∃ g, ∀ (s : Shared) (H : Hp) (C : Addr) (cl : List (Str × Addr)) (fp : List Addr), SG (X.blk s H scope (compEnvC scope cl C X.env) fp) fa t tg g := by
  cases tg with
  | name i =>
    cases t with
    | Name x p =>
      simp only [tgtB, Bool.and_eq_true, decide_eq_true_eq] at h
      refine ⟨gName i, fun s H C cl fp => ?_⟩
      obtain ⟨l, f⟩ := loc_blk G s H C cl fp h.2
      exact sg_name G.nd (by show X.N[i]? = some x; rw [G.N]; exact h.1) l f
    | _ => exact absurd (show false = true from h) Bool.false_ne_true
  | tup is =>
    cases t with
    | Tuple es k p =>
      obtain ⟨g, S⟩ := tgs_blk G (show tgB N (locB scope) is es = true from h)
      exact ⟨gTup X.K is.length g, fun s H C cl fp => sg_tup (X := X.blk s H scope (compEnvC scope cl C X.env) fp) G.calm (S s H C cl fp)⟩
    | _ => exact absurd (show false = true from h) Bool.false_ne_true
theorem cmpOk {elt : ME} {tg : TGt} {k : IK} {its : List ME} {cond : ME} {X : Cx} {sc : Scope} {W : WX} {el t it : Expr} {ifs : List Expr} {scope : Scope} (G : GX X fa xa fnm N Φ sc W) (h2 : blkC N sc scope (ownOf N tg.slots) = true) (h3 : tgtB N (locB scope) tg t = true)
    (h4 : (match iterB k it t sc with | some ps => chkEs fnm N sc its ps | none => false) = true) (h5 : chkE fnm N (relS scope sc) elt el = true) (h6 : (match ifs with | [] => isOmit cond | [c] => !isOmit cond && chkE fnm N (relS scope sc) cond c | _ => false) = true)
    (hS : ∀ ps, chkEs fnm N sc its ps = true → SA2 X fa xa W Φ its ps) (hE : ∀ (Y : Cx) (sc2 : Scope), GX Y fa xa fnm N Φ sc2 W0 → chkE fnm N sc2 elt el = true → SE Y fa xa W0 el (wE Φ elt))
    (hC : ∀ (Y : Cx) (sc2 : Scope) (c : Expr), GX Y fa xa fnm N Φ sc2 W0 → chkE fnm N sc2 cond c = true → SE Y fa xa W0 c (wE Φ cond)) :
    ∃ g, CompOk X fa xa W el t it ifs scope (wEs Φ its) k tg (isOmit cond) (wE Φ cond) (wE Φ elt) (ownOf N tg.slots) g := by
  cases hi : iterB k it t sc with
  | none => rw [hi] at h4; cases h4
  | some ps =>
    rw [hi] at h4
    obtain ⟨g, hg⟩ := tgt_blk G h3
    refine ⟨g, G.calm, G.nd, iter_ok G hi (hS ps h4), blk_ok G h2, own_snd _, hg, fun s H C cl fp => ?_, fun s H C cl fp => (hE _ _ (G.blk s H scope cl C fp) h5).pe, iter_fold G hi h4⟩
    unfold tIfs
    match ifs, h6 with
    | [], h6 =>
      rw [if_pos (show isOmit cond = true from h6)]
      exact pts_nil
    | [c], h6 =>
      obtain ⟨h7, h8⟩ := and2 (show (!isOmit cond && chkE fnm N (relS scope sc) cond c) = true from h6)
      rw [if_neg (by simpa using h7)]
      exact pts_one (hC _ _ c (G.blk s H scope cl C fp) h8).pt
mutual
theorem sndE : ∀ (m : ME) {X : Cx} {sc : Scope} {W : WX} (e : Expr), GX X fa xa fnm N Φ sc W → chkE fnm N sc m e = true → SE X fa xa W e (wE Φ m)
  | .omit, X, sc, W, e, G, h => by exact absurd (show false = true from h) Bool.false_ne_true
  | .var i, X, sc, W, e, G, h => by
    cases e with
    | Name x p =>
      obtain ⟨h12, h3⟩ := and2 (show (decide (N[i]? = some x) && visB sc x && plainName x) = true from h)
      obtain ⟨h1, h2⟩ := and2 h12
      have e : (wE Φ (.var i) : WE) = fun en h Q _ => OQ (en[i]?.join) fun d => Q d h := by funext en h Q E; rw [wE]
      rw [e]
      exact se_var (by rw [G.N]; exact of_decide_eq_true h1) (G.vis h2) (plain_of h3).1 (plain_of h3).2
    | _ => exact absurd (show false = true from h) Bool.false_ne_true
  | .cst d, X, sc, W, e, G, h => by
    cases e with
    | Constant c j p =>
      obtain ⟨v, pe, r⟩ := rd_cst (X := X) (fa := fa) (j := j) (pos := p) (show cstB d c = true from h)
      have e : (wE Φ (.cst d) : WE) = fun _ h Q _ => Q d h := by funext en h Q E; rw [wE]
      rw [e]
      exact se_con pe r
    | Name x p =>
      obtain ⟨h12, h3⟩ := and2 (show (glB sc x && plainName x && (match (generalizing := false) d with | .int i => decide (fnm.gc x = some i) | _ => false)) = true from h)
      obtain ⟨h1, h2⟩ := and2 h12
      have e : (wE Φ (.cst d) : WE) = fun _ h Q _ => Q d h := by funext en h Q E; rw [wE]
      rw [e]
      cases d with
      | int i =>
        obtain ⟨t, hm⟩ := G.gc x i (of_decide_eq_true h3)
        exact se_con0 (pe_glob (v := .int i) (G.gl h1) hm ⟨t, rfl⟩ (plain_of h2).1) fun _ _ => .int i
      | _ => cases h3
    | _ => exact absurd (show false = true from h) Bool.false_ne_true
  | .tup es, X, sc, W, e, G, h => by
    cases e with
    | Tuple xs j p =>
      have S := sndEs es xs G (show chkEs fnm N sc es xs = true from h)
      have e : (wE Φ (.tup es) : WE) = fun en h Q E => wEs Φ es en h (fun ds h1 => ds.length ≤ sizeLine ∧ Q (.tup ds) h1) E := by funext en h Q E; rw [wE]
      rw [e]
      exact se_tup S.sa
    | _ => exact absurd (show false = true from h) Bool.false_ne_true
  | .lst es, X, sc, W, e, G, h => by
    cases e with
    | List xs p =>
      have S := sndEs es xs G (show chkEs fnm N sc es xs = true from h)
      have e : (wE Φ (.lst es) : WE) = fun en h Q E => wEs Φ es en h (fun ds h1 => PQ (newL h1 ds) Q) E := by funext en h Q E; rw [wE]
      rw [e]
      exact se_lst S.sa
    | _ => exact absurd (show false = true from h) Bool.false_ne_true
  | .bin o a b, X, sc, W, e, G, h => by
    cases e with
    | BinOp x p y ps =>
      obtain ⟨h12, h3⟩ := and2 (show (opB o p && chkE fnm N sc a x && chkE fnm N sc b y) = true from h)
      obtain ⟨h1, h2⟩ := and2 h12
      have e1 := opB_of h1
      subst e1
      have e : (wE Φ (.bin o a b) : WE) = fun en h Q E => wE Φ a en h (fun x h1 => wE Φ b en h1 (fun y h2 => PQ (binop o x y h2) Q) E) E := by funext en h Q E; rw [wE]
      rw [e]
      exact se_bin (sndE a x G h2) (sndE b y G h3) o
    | _ => exact absurd (show false = true from h) Bool.false_ne_true
  | .neg a, X, sc, W, e, G, h => by
    cases e with
    | UnaryOp p x ps =>
      cases p with
      | USub =>
        have e : (wE Φ (.neg a) : WE) = fun en h Q E => wE Φ a en h (fun x h1 => OQ (asInt x) fun i => Q (.int (-i)) h1) E := by funext en h Q E; rw [wE]
        rw [e]
        exact se_neg (sndE a x G h)
      | _ => exact absurd (show false = true from h) Bool.false_ne_true
    | _ => exact absurd (show false = true from h) Bool.false_ne_true
  | .not a, X, sc, W, e, G, h => by
    cases e with
    | UnaryOp p x ps =>
      cases p with
      | Not =>
        have e : (wE Φ (.not a) : WE) = fun en h Q E => wE Φ a en h (fun x h1 => OQ (asBl x) fun b => Q (.bl (!b)) h1) E := by funext en h Q E; rw [wE]
        rw [e]
        exact se_not (sndE a x G h)
      | _ => exact absurd (show false = true from h) Bool.false_ne_true
    | _ => exact absurd (show false = true from h) Bool.false_ne_true
  | .cmp o a b, X, sc, W, e, G, h => by
    cases e with
    | Compare x ps ys pos =>
      match ps, ys, h with
      | [p], [y], h =>
        obtain ⟨h12, h3⟩ := and2 (show (cmpB o p && chkE fnm N sc a x && chkE fnm N sc b y) = true from h)
        obtain ⟨h1, h2⟩ := and2 h12
        have e1 := cmpB_of h1
        subst e1
        have e : (wE Φ (.cmp o a b) : WE) = fun en h Q E => wE Φ a en h (fun x h1 => wE Φ b en h1 (fun y h2 => OQ (cmpop o x y h2) fun b => Q (.bl b) h2) E) E := by funext en h Q E; rw [wE]
        rw [e]
        exact se_cmp (by have := G.un; omega) (sndE a x G h2) (sndE b y G h3) o (no_set h3)
    | _ => exact absurd (show false = true from h) Bool.false_ne_true
  | .chain o1 o2 a b c, X, sc, W, e, G, h => by
    cases e with
    | Compare x ps ys pos =>
      match ps, ys, h with
      | [p, q], [y, z], h =>
        obtain ⟨h1234, h5⟩ := and2 (show (cmpB o1 p && cmpB o2 q && chkE fnm N sc a x && chkE fnm N sc b y && chkE fnm N sc c z) = true from h)
        obtain ⟨h123, h4⟩ := and2 h1234
        obtain ⟨h12, h3⟩ := and2 h123
        obtain ⟨h1, h2⟩ := and2 h12
        have e1 := cmpB_of h1
        have e2 := cmpB_of h2
        subst e1 e2
        have e : (wE Φ (.chain o1 o2 a b c) : WE) = fun en h Q E => wE Φ a en h (fun x h1 => wE Φ b en h1 (fun y h2 => OQ (cmpop o1 x y h2) fun k => if k = true then wE Φ c en h2 (fun z h3 => OQ (cmpop o2 y z h3) fun b => Q (.bl b) h3) E else Q (.bl false) h2) E) E := by funext en h Q E; rw [wE]
        rw [e]
        exact se_chain (by have := G.un; omega) (sndE a x G h3) (sndE b y G h4) (sndE c z G h5) o1 o2 (no_set h5)
    | _ => exact absurd (show false = true from h) Bool.false_ne_true
  | .and a b, X, sc, W, e, G, h => by
    have e0 : (wE Φ (.and a b) : WE) = wAnd (wE Φ a) (wE Φ b) := by funext en h Q E; rw [wE]; rfl
    rw [e0]
    cases e with
    | BoolOp op vs pos =>
      cases op with
      | And =>
        match vs, h with
        | [x, y], h =>
          obtain ⟨h1, h2⟩ := and2 (show (chkE fnm N sc a x && chkE fnm N sc b y) = true from h)
          exact se_and (sndE a x G h1) (se_one (sndE b y G h2) .And)
        | x :: y :: z :: t, h =>
          obtain ⟨h1, h2⟩ := and2 (show (chkE fnm N sc a x && chkE fnm N sc b (.BoolOp .And (y :: z :: t) pos)) = true from h)
          exact se_and (sndE a x G h1) (sndE b _ G h2)
      | Or => exact absurd (show false = true from h) Bool.false_ne_true
    | _ => exact absurd (show false = true from h) Bool.false_ne_true
  | .or a b, X, sc, W, e, G, h => by
    have e0 : (wE Φ (.or a b) : WE) = wOr (wE Φ a) (wE Φ b) := by funext en h Q E; rw [wE]; rfl
    rw [e0]
    cases e with
    | BoolOp op vs pos =>
      cases op with
      | Or =>
        match vs, h with
        | [x, y], h =>
          obtain ⟨h1, h2⟩ := and2 (show (chkE fnm N sc a x && chkE fnm N sc b y) = true from h)
          exact se_or (sndE a x G h1) (se_one (sndE b y G h2) .Or)
        | x :: y :: z :: t, h =>
          obtain ⟨h1, h2⟩ := and2 (show (chkE fnm N sc a x && chkE fnm N sc b (.BoolOp .Or (y :: z :: t) pos)) = true from h)
          exact se_or (sndE a x G h1) (sndE b _ G h2)
      | And => exact absurd (show false = true from h) Bool.false_ne_true
    | _ => exact absurd (show false = true from h) Bool.false_ne_true
  | .ite c a b, X, sc, W, e, G, h => by
    cases e with
    | IfExp z x y p =>
      obtain ⟨h12, h3⟩ := and2 (show (chkE fnm N sc c z && chkE fnm N sc a x && chkE fnm N sc b y) = true from h)
      obtain ⟨h1, h2⟩ := and2 h12
      have e : (wE Φ (.ite c a b) : WE) = wIte (wE Φ c) (wE Φ a) (wE Φ b) := by funext en h Q E; rw [wE]; rfl
      rw [e]
      exact se_ite (sndE c z G h1) (sndE a x G h2) (sndE b y G h3)
    | _ => exact absurd (show false = true from h) Bool.false_ne_true
  | .ix a b, X, sc, W, e, G, h => by
    have e0 : (wE Φ (.ix a b) : WE) = fun en h Q E => wE Φ a en h (fun x h1 => wE Φ b en h1 (fun y h2 => OQ (ixop x y h2) fun d => Q d h2) E) E := by funext en h Q E; rw [wE]
    rw [e0]
    cases e with
    | Subscript x y p =>
      obtain ⟨h12, h3⟩ := and2 (show (!sliceB y && chkE fnm N sc a x && chkE fnm N sc b y) = true from h)
      obtain ⟨h1, h2⟩ := and2 h12
      exact se_ix (by have := G.un; omega) (sndE a x G h2) (sndE b y G h3) (no_slice h3)
    | _ => exact absurd (show false = true from h) Bool.false_ne_true
  | .sl a lo hi, X, sc, W, e, G, h => by
    have e0 : (wE Φ (.sl a lo hi) : WE) = fun en h Q E => wE Φ a en h (fun x h1 => ifO (isOmit lo) (wE Φ lo en h1) (fun l h2 => ifO (isOmit hi) (wE Φ hi en h2) (fun u h3 => PQ (slop x l u h3) Q) E h2) E h1) E := by funext en h Q E; rw [wE]
    rw [e0]
    cases e with
    | Subscript x y p =>
      cases y with
      | Slice l u s p2 =>
        cases s with
        | some _ => exact absurd (show false = true from h) Bool.false_ne_true
        | none =>
          obtain ⟨h12, h3⟩ := and2 (show (chkE fnm N sc a x && (match (generalizing := false) l with | none => isOmit lo | some e => !isOmit lo && chkE fnm N sc lo e) && (match (generalizing := false) u with | none => isOmit hi | some e => !isOmit hi && chkE fnm N sc hi e)) = true from h)
          obtain ⟨h1, h2⟩ := and2 h12
          refine se_sl (sndE a x G h1) ⟨fun o => ?_, fun o => ?_⟩ ⟨fun o => ?_, fun o => ?_⟩
          · cases l with
            | none => rfl
            | some e => simp only [o] at h2; cases h2
          · cases l with
            | none => simp only at h2; rw [o] at h2; cases h2
            | some e => exact ⟨e, rfl, sndE lo e G (and2 h2).2⟩
          · cases u with
            | none => rfl
            | some e => simp only [o] at h3; cases h3
          · cases u with
            | none => simp only at h3; rw [o] at h3; cases h3
            | some e => exact ⟨e, rfl, sndE hi e G (and2 h3).2⟩
      | _ => exact absurd (show false = true from h) Bool.false_ne_true
    | _ => exact absurd (show false = true from h) Bool.false_ne_true
  | .slS a lo hi st, X, sc, W, e, G, h => by
    have e0 : (wE Φ (.slS a lo hi st) : WE) = fun en h Q E => wE Φ a en h (fun x h1 => ifO (isOmit lo) (wE Φ lo en h1) (fun l h2 => ifO (isOmit hi) (wE Φ hi en h2) (fun u h3 => PQ (slSop x l u st h3) Q) E h2) E h1) E := by funext en h Q E; rw [wE]
    rw [e0]
    cases e with
    | Subscript x y p =>
      cases y with
      | Slice l u s p2 =>
        cases s with
        | none => exact absurd (show false = true from h) Bool.false_ne_true
        | some se =>
          obtain ⟨h14, h5⟩ := and2 (show (stepB st se && decide (st ≠ 0 ∧ st ≠ 1) && chkE fnm N sc a x && (match (generalizing := false) l with | none => isOmit lo | some e => !isOmit lo && chkE fnm N sc lo e) && (match (generalizing := false) u with | none => isOmit hi | some e => !isOmit hi && chkE fnm N sc hi e)) = true from h)
          obtain ⟨h13, h4⟩ := and2 h14
          obtain ⟨h12, h3⟩ := and2 h13
          obtain ⟨h1, h2⟩ := and2 h12
          refine se_slS (po_step h1) (sndE a x G h3) ⟨fun o => ?_, fun o => ?_⟩ ⟨fun o => ?_, fun o => ?_⟩ (of_decide_eq_true h2)
          · cases l with
            | none => rfl
            | some e => simp only [o] at h4; cases h4
          · cases l with
            | none => simp only at h4; rw [o] at h4; cases h4
            | some e => exact ⟨e, rfl, sndE lo e G (and2 h4).2⟩
          · cases u with
            | none => rfl
            | some e => simp only [o] at h5; cases h5
          · cases u with
            | none => simp only at h5; rw [o] at h5; cases h5
            | some e => exact ⟨e, rfl, sndE hi e G (and2 h5).2⟩
      | _ => exact absurd (show false = true from h) Bool.false_ne_true
    | _ => exact absurd (show false = true from h) Bool.false_ne_true
  | .call f es, X, sc, W, e, G, h => by
    have e0 : (wE Φ (.call f es) : WE) = fun en h Q E => wEs Φ es en h (fun ds h1 => Φ f ds h1 Q E) E := by funext en h Q E; rw [wE]
    rw [e0]
    cases e with
    | Call fx xs ks pos =>
      cases fx with
      | Name x p =>
        cases ks with
        | cons _ _ => exact absurd (show false = true from h) Bool.false_ne_true
        | nil =>
          obtain ⟨h123, h4⟩ := and2 (show (decide (fnm f = some x) && glB sc x && plainName x && chkEs fnm N sc es xs) = true from h)
          obtain ⟨h12, h3⟩ := and2 h123
          obtain ⟨h1, h2⟩ := and2 h12
          have S := sndEs es xs G h4
          have C := G.calls f x (of_decide_eq_true h1)
          cases xs with
          | nil =>
            have hl := S.len
            have z : es = [] := List.eq_nil_of_length_eq_zero hl
            subst z
            have e1 : (fun (en : En) (h : MH) (Q : QV) (E : QX) => wEs Φ [] en h (fun ds h1 => Φ f ds h1 Q E) E) = fun en h Q E => Φ f [] h Q E := by funext en h Q E; rw [wEs]
            rw [e1]
            exact se_call0 G.gd (G.gl h2) (plain_of h3).1 C G.tk
          | cons y r => exact se_call G.gd (G.gl h2) (plain_of h3).1 C G.tk S.sa (S.st _ _ rfl _) (S.sa.tail (S.st _ _ rfl) _ _)
      | _ => exact absurd (show false = true from h) Bool.false_ne_true
    | _ => exact absurd (show false = true from h) Bool.false_ne_true
  | .bi f es, X, sc, W, e, G, h => by
    have e0 : (wE Φ (.bi f es) : WE) = fun en h Q E => wEs Φ es en h (fun ds h1 => PQ (biop f ds h1) Q) E := by funext en h Q E; rw [wE]
    rw [e0]
    cases e with
    | Dict ks vs p =>
      obtain ⟨h123, h4⟩ := and2 (show (isDict0 f && es.isEmpty && ks.isEmpty && vs.isEmpty) = true from h)
      obtain ⟨h12, h3⟩ := and2 h123
      obtain ⟨h1, h2⟩ := and2 h12
      have z2 := List.isEmpty_iff.mp h2
      have z3 := List.isEmpty_iff.mp h3
      have z4 := List.isEmpty_iff.mp h4
      subst z2 z3 z4
      have z1 : f = .dict0 := by cases f <;> first | rfl | cases h1
      subst z1
      have e1 : (fun (en : En) (h : MH) (Q : QV) (E : QX) => wEs Φ [] en h (fun ds h1 => PQ (biop .dict0 ds h1) Q) E) = fun en h Q E => PQ (biop .dict0 [] h) Q := by funext en h Q E; rw [wEs]
      rw [e1]
      exact se_dict0
    | Call fx xs ks pos =>
      cases fx with
      | Name x p =>
        cases ks with
        | cons _ _ => exact absurd (show false = true from h) Bool.false_ne_true
        | nil =>
          by_cases hf : ∃ t, f = .isinst t
          · obtain ⟨t, rfl⟩ := hf
            obtain ⟨h1, h2⟩ := and2 (show (glB sc x && (match isiB xs with | some q => decide (x = ("isinstance" : Str)) && decide (q.2 = Str.ofString (tyOf t)) && glB sc q.2 && chkEs fnm N sc es [q.1] | none => false)) = true from h)
            cases hq : isiB xs with
            | none => rw [hq] at h2; cases h2
            | some q =>
              rw [hq] at h2
              obtain ⟨h345, h6⟩ := and2 h2
              obtain ⟨h34, h5⟩ := and2 h345
              obtain ⟨h3, h4⟩ := and2 h34
              obtain ⟨p2, e2⟩ := isiB_of hq
              subst e2
              have ex := of_decide_eq_true h3
              subst ex
              have et := of_decide_eq_true h4
              have S := sndEs es [q.1] G h6
              have hl := S.len
              match es, S, hl with
              | [m], S, _ =>
                have e1 : (fun (en : En) (h : MH) (Q : QV) (E : QX) => wEs Φ [m] en h (fun ds h1 => PQ (biop (.isinst t) ds h1) Q) E) = fun en h Q E => wE Φ m en h (fun x h1 => PQ (biop (.isinst t) [x] h1) Q) E := by
                  funext en h Q E
                  rw [wEs]
                  simp only [wEs]
                rw [e1, et]
                rw [et] at h5
                exact se_isi (G.gl h1) (G.bn _ (by decide +kernel)) (G.gl h5) (G.bn _ (by cases t <;> decide +kernel)) (S.one m q.1 rfl rfl)
          · by_cases hr : f = .listRng1 ∨ f = .tupRng1 ∨ f = .listRng2 ∨ f = .tupRng2
            · have one : ∀ {m : ME} {q : Expr}, (fun (en : En) (h : MH) (Q : QV) (E : QX) => wEs Φ [m] en h (fun ds h1 => PQ (biop f ds h1) Q) E) = fun en h Q E => wE Φ m en h (fun x h1 => PQ (biop f [x] h1) Q) E := fun {m q} => by
                funext en h Q E
                rw [wEs]
                simp only [wEs]
              have two : ∀ {m m2 : ME} {q : Expr}, (fun (en : En) (h : MH) (Q : QV) (E : QX) => wEs Φ [m, m2] en h (fun ds h1 => PQ (biop f ds h1) Q) E) = fun en h Q E => wE Φ m en h (fun x h1 => wE Φ m2 en h1 (fun y h2 => PQ (biop f [x, y] h2) Q) E) E := fun {m m2 q} => by
                funext en h Q E
                rw [wEs]
                simp only [wEs]
              rcases hr with rfl | rfl | rfl | rfl
              · obtain ⟨h1, h2⟩ := and2 (show (glB sc x && (decide (x = ("list" : Str)) && (match (hd1 xs).bind (call1B "range" sc) with | some a => chkEs fnm N sc es [a] | none => false))) = true from h)
                obtain ⟨h3, h4⟩ := and2 h2
                have ex := of_decide_eq_true h3
                subst ex
                split at h4
                · rename_i a hq
                  obtain ⟨c, hc, hc2⟩ := Option.bind_eq_some_iff.mp hq
                  have := hd1_of hc
                  subst this
                  obtain ⟨p2, pos2, rfl, g⟩ := call1_of hc2
                  have S := sndEs es [a] G h4
                  have hl := S.len
                  match es, S, hl with
                  | [m], S, _ =>
                    rw [one (q := a)]
                    exact se_lr1 G.calm (G.gl h1) (G.bn _ (by decide +kernel)) (G.gl g) (G.bn _ (by decide +kernel)) (S.one m a rfl rfl)
                · cases h4
              · obtain ⟨h1, h2⟩ := and2 (show (glB sc x && (decide (x = ("tuple" : Str)) && (match (hd1 xs).bind (call1B "range" sc) with | some a => chkEs fnm N sc es [a] | none => false))) = true from h)
                obtain ⟨h3, h4⟩ := and2 h2
                have ex := of_decide_eq_true h3
                subst ex
                split at h4
                · rename_i a hq
                  obtain ⟨c, hc, hc2⟩ := Option.bind_eq_some_iff.mp hq
                  have := hd1_of hc
                  subst this
                  obtain ⟨p2, pos2, rfl, g⟩ := call1_of hc2
                  have S := sndEs es [a] G h4
                  have hl := S.len
                  match es, S, hl with
                  | [m], S, _ =>
                    rw [one (q := a)]
                    exact se_tr1 G.calm (G.gl h1) (G.bn _ (by decide +kernel)) (G.gl g) (G.bn _ (by decide +kernel)) (S.one m a rfl rfl)
                · cases h4
              · obtain ⟨h1, h2⟩ := and2 (show (glB sc x && (decide (x = ("list" : Str)) && (match (hd1 xs).bind (call2B "range" sc) with | some q => chkEs fnm N sc es [q.1, q.2] | none => false))) = true from h)
                obtain ⟨h3, h4⟩ := and2 h2
                have ex := of_decide_eq_true h3
                subst ex
                split at h4
                · rename_i a hq
                  obtain ⟨c, hc, hc2⟩ := Option.bind_eq_some_iff.mp hq
                  have := hd1_of hc
                  subst this
                  obtain ⟨p2, pos2, rfl, g⟩ := call2_of hc2
                  have S := sndEs es [a.1, a.2] G h4
                  have hl := S.len
                  match es, h4, S, hl with
                  | [m, m2], h4, S, _ =>
                    obtain ⟨i1, i2⟩ := and2 (show (chkE fnm N sc m a.1 && (chkE fnm N sc m2 a.2 && true)) = true from h4)
                    rw [two (q := a.1)]
                    exact se_lr2 G.calm (G.gl h1) (G.bn _ (by decide +kernel)) (G.gl g) (G.bn _ (by decide +kernel)) (sndE m a.1 G i1) (sndE m2 a.2 G (and2 i2).1)
                · cases h4
              · obtain ⟨h1, h2⟩ := and2 (show (glB sc x && (decide (x = ("tuple" : Str)) && (match (hd1 xs).bind (call2B "range" sc) with | some q => chkEs fnm N sc es [q.1, q.2] | none => false))) = true from h)
                obtain ⟨h3, h4⟩ := and2 h2
                have ex := of_decide_eq_true h3
                subst ex
                split at h4
                · rename_i a hq
                  obtain ⟨c, hc, hc2⟩ := Option.bind_eq_some_iff.mp hq
                  have := hd1_of hc
                  subst this
                  obtain ⟨p2, pos2, rfl, g⟩ := call2_of hc2
                  have S := sndEs es [a.1, a.2] G h4
                  have hl := S.len
                  match es, h4, S, hl with
                  | [m, m2], h4, S, _ =>
                    obtain ⟨i1, i2⟩ := and2 (show (chkE fnm N sc m a.1 && (chkE fnm N sc m2 a.2 && true)) = true from h4)
                    rw [two (q := a.1)]
                    exact se_tr2 G.calm (G.gl h1) (G.bn _ (by decide +kernel)) (G.gl g) (G.bn _ (by decide +kernel)) (sndE m a.1 G i1) (sndE m2 a.2 G (and2 i2).1)
                · cases h4
            have h : (glB sc x && (match biName f with | some bv => decide (x = bvStr bv) && decide (0 < xs.length) && chkEs fnm N sc es xs | none => false)) = true := by
              cases f <;> first | exact h | exact absurd ⟨_, rfl⟩ hf | exact absurd (.inl rfl) hr | exact absurd (.inr (.inl rfl)) hr | exact absurd (.inr (.inr (.inl rfl))) hr | exact absurd (.inr (.inr (.inr rfl))) hr
            obtain ⟨h1, h2⟩ := and2 h
            cases hb : biName f with
            | none => rw [hb] at h2; cases h2
            | some bv =>
              rw [hb] at h2
              obtain ⟨h34, h5⟩ := and2 h2
              obtain ⟨h3, h4⟩ := and2 h34
              have ex := of_decide_eq_true h3
              subst ex
              have S := sndEs es xs G h5
              cases xs with
              | nil => exact absurd (of_decide_eq_true h4) (Nat.lt_irrefl _)
              | cons y r =>
                refine se_bi hb G.calm G.gd G.un (G.gl h1) (G.bn _ ?_) (S.st _ _ rfl _) (S.sa.tail (S.st _ _ rfl) _ _) S.sa
                cases f <;> first | (cases hb; decide +kernel) | cases hb
      | _ => exact absurd (show false = true from h) Bool.false_ne_true
    | _ => exact absurd (show false = true from h) Bool.false_ne_true
  | .mt m o es, X, sc, W, e, G, h => by
    have e0 : (wE Φ (.mt m o es) : WE) = fun en h Q E => wE Φ o en h (fun x h1 => recv m x h1 = true ∧ wEs Φ es en h1 (fun ds h2 => PQ (mtop m x ds h2) Q) E) E := by funext en h Q E; rw [wE]
    rw [e0]
    cases e with
    | Call fx xs ks cpos =>
      cases fx with
      | Attribute y nm apos =>
        cases ks with
        | cons _ _ => exact absurd (show false = true from h) Bool.false_ne_true
        | nil =>
          obtain ⟨h16, h7⟩ := and2 (show (decide (mtName m = some nm) && !call0B y && (apos.endLine == cpos.line) && decide (xs.length < 20) && argB m xs.isEmpty && chkE fnm N sc o y && chkEs fnm N sc es xs) = true from h)
          obtain ⟨h15, h6⟩ := and2 h16
          obtain ⟨h14, h5⟩ := and2 h15
          obtain ⟨h13, h4⟩ := and2 h14
          obtain ⟨h12, h3⟩ := and2 h13
          obtain ⟨h1, h2⟩ := and2 h12
          have S := sndEs es xs G h7
          refine se_mt (by have := G.un; omega) (of_decide_eq_true h1) (sndE o y G h6) S.sa (call0_of (by simpa using h2)) h3 (of_decide_eq_true h4) (fun e r z => ?_) (fun z => ?_) (argB_iff h5)
          · subst z
            exact ⟨S.st _ _ rfl _, S.sa.tail (S.st _ _ rfl) _ _⟩
          · subst z
            have z : es = [] := List.eq_nil_of_length_eq_zero S.len
            subst z
            funext en h Q E
            rw [wEs]
      | _ => exact absurd (show false = true from h) Bool.false_ne_true
    | _ => exact absurd (show false = true from h) Bool.false_ne_true
  | .comp elt tg k its cond, X, sc, W, e, G, h => by
    have e0 : (wE Φ (.comp elt tg k its cond) : WE) = wComp (wEs Φ its) k tg (isOmit cond) (wE Φ cond) (wE Φ elt) := by funext en h Q E; rw [wE]; rfl
    rw [e0]
    cases e with
    | ListComp el gs scope p =>
      match gs, h with
      | [⟨t, it, ifs, ia⟩], h =>
        obtain ⟨h15, h6⟩ := and2 (show (decide (ia = 0) && blkC N sc scope (ownOf N tg.slots) && tgtB N (locB scope) tg t && (match (generalizing := false) iterB k it t sc with | some ps => chkEs fnm N sc its ps | none => false) && chkE fnm N (relS scope sc) elt el && (match (generalizing := false) ifs with | [] => isOmit cond | [c] => !isOmit cond && chkE fnm N (relS scope sc) cond c | _ => false)) = true from h)
        obtain ⟨h14, h5⟩ := and2 h15
        obtain ⟨h13, h4⟩ := and2 h14
        obtain ⟨h12, h3⟩ := and2 h13
        obtain ⟨h1, h2⟩ := and2 h12
        have ei := of_decide_eq_true h1
        subst ei
        obtain ⟨g, C⟩ := cmpOk (elt := elt) (its := its) (cond := cond) G h2 h3 h4 h5 h6 (fun ps hh => sndEs its ps G hh) (fun Y sc2 G2 hh => sndE elt el G2 hh) fun Y sc2 c G2 hh => sndE cond c G2 hh
        exact se_comp C
    | _ => exact absurd (show false = true from h) Bool.false_ne_true
theorem sndEs : ∀ (ms : List ME) {X : Cx} {sc : Scope} {W : WX} (es : List Expr), GX X fa xa fnm N Φ sc W → chkEs fnm N sc ms es = true → SA2 X fa xa W Φ ms es
  | [], X, sc, W, es, G, h => by
    cases es with
    | cons _ _ => exact absurd (show false = true from h) Bool.false_ne_true
    | nil =>
      have e : (wEs Φ [] : WL) = fun _ h Q _ => Q [] h := by funext en h Q E; rw [wEs]
      exact ⟨by rw [e]; exact sa_nil, (fun m e z => nomatch z), (fun e r z => nomatch z), rfl, (fun a b z => nomatch z)⟩
  | m :: ms, X, sc, W, es, G, h => by
    cases es with
    | nil => exact absurd (show false = true from h) Bool.false_ne_true
    | cons x xs =>
      obtain ⟨h1, h2⟩ := and2 (show (chkE fnm N sc m x && chkEs fnm N sc ms xs) = true from h)
      have A := sndE m x G h1
      have S := sndEs ms xs G h2
      have e : (wEs Φ (m :: ms) : WL) = fun en h Q E => wE Φ m en h (fun x h1 => wEs Φ ms en h1 (fun xs h2 => Q (x :: xs) h2) E) E := by funext en h Q E; rw [wEs]
      refine ⟨by rw [e]; exact sa_cons A S.sa, fun m' e' z1 z2 => ?_, fun e' r z env => ?_, by simp [S.len], fun a b z env => ?_⟩
      · cases z1; cases z2; exact A
      · cases z; exact A.ns _ _
      · cases z
        have q := S.st b [] rfl env
        exact ⟨by rw [A.ns, q]; rfl, by rw [q]; rfl⟩
end
end
end Mp
namespace Mp
open PySem PySem.Spec PyProof.Rows L2

structure GS (X : Cx) (fa : Nat → Option Addr) (xa : Nat → Option (Value × List Str)) (fnm : Tb) (N : List Str) (Φ : Phi) (sc : Scope) (W : WX) : Prop where
  g : GX X fa xa fnm N Φ sc W
  fn : ∀ x, X.fn x = true
  pw : PassesOwn (model X.prog X.w) X.A X.env X.xe
section
variable {fa : Nat → Option Addr} {xa : Nat → Option (Value × List Str)} {fnm : Tb} {N : List Str} {Φ : Phi} {X : Cx} {sc : Scope} {W : WX}
theorem no_setc {m : ME} {e : Expr} (h : chkE fnm N sc m e = true) : (∀ a b c d, e ≠ .SetComp a b c d) ∧ ∀ a b c d f, e ≠ .DictComp a b c d f := by
  refine ⟨fun a b c d z => ?_, fun a b c d f z => ?_⟩
  · subst z
    cases m <;> exact absurd (show false = true from h) Bool.false_ne_true
  · subst z
    cases m <;> exact absurd (show false = true from h) Bool.false_ne_true
theorem comp_of {m : ME} {el : Expr} {gs : List Comprehension} {scope : Scope} {p : Pos} (h : chkE fnm N sc m (.ListComp el gs scope p) = true) : ∃ elt tg k its cond t it ifs, m = .comp elt tg k its cond ∧ gs = [⟨t, it, ifs, 0⟩] := by
  cases m with
  | comp elt tg k its cond =>
    match gs, h with
    | [⟨t, it, ifs, ia⟩], h =>
      have h : (decide (ia = 0) && blkC N sc scope (ownOf N tg.slots) && tgtB N (locB scope) tg t && (match (generalizing := false) iterB k it t sc with | some ps => chkEs fnm N sc its ps | none => false) && chkE fnm N (relS scope sc) elt el && (match (generalizing := false) ifs with | [] => isOmit cond | [c] => !isOmit cond && chkE fnm N (relS scope sc) cond c | _ => false)) = true := h
      have ei := of_decide_eq_true (and2 (and2 (and2 (and2 (and2 h).1).1).1).1).1
      subst ei
      exact ⟨elt, tg, k, its, cond, t, it, ifs, rfl, rfl⟩
  | _ => exact absurd (show false = true from h) Bool.false_ne_true
theorem comp_parts (G : GX X fa xa fnm N Φ sc W) {elt : ME} {tg : TGt} {k : IK} {its : List ME} {cond : ME} {el t it : Expr} {ifs : List Expr} {scope : Scope} {p : Pos} (h : chkE fnm N sc (.comp elt tg k its cond) (.ListComp el [⟨t, it, ifs, 0⟩] scope p) = true) :
    ∃ g, CompOk X fa xa W el t it ifs scope (wEs Φ its) k tg (isOmit cond) (wE Φ cond) (wE Φ elt) (ownOf N tg.slots) g := by
  have h : (decide ((0 : Int) = 0) && blkC N sc scope (ownOf N tg.slots) && tgtB N (locB scope) tg t && (match (generalizing := false) iterB k it t sc with | some ps => chkEs fnm N sc its ps | none => false) && chkE fnm N (relS scope sc) elt el && (match (generalizing := false) ifs with | [] => isOmit cond | [c] => !isOmit cond && chkE fnm N (relS scope sc) cond c | _ => false)) = true := h
  obtain ⟨h15, h6⟩ := and2 h
  obtain ⟨h14, h5⟩ := and2 h15
  obtain ⟨h13, h4⟩ := and2 h14
  obtain ⟨h12, h3⟩ := and2 h13
  obtain ⟨h1, h2⟩ := and2 h12
  exact cmpOk (elt := elt) (its := its) (cond := cond) G h2 h3 h4 h5 h6 (fun ps hh => sndEs its ps G hh) (fun Y sc2 G2 hh => sndE elt el G2 hh) fun Y sc2 c G2 hh => sndE cond c G2 hh
theorem ss_asg_all (G : GS X fa xa fnm N Φ sc W) {i : Nat} {x : Str} {m : ME} {y : Expr} {pos2 pos : Pos} (hi : N[i]? = some x) (hx : locB sc x = true) (h : chkE fnm N sc m y = true) :
    SS X fa xa W (.Assign [.Name x pos2] y pos) fun en h nx _ E => wE Φ m en h (fun d h1 => nx (en.set i (some d)) h1) fun x h1 => E x en h1 := by
  have A := sndE m y G.g h
  have hi : X.N[i]? = some x := by rw [G.g.N]; exact hi
  by_cases hc : ∃ a b c d, y = .ListComp a b c d
  · obtain ⟨el, gs, scope, p, rfl⟩ := hc
    obtain ⟨elt, tg, k, its, cond, t, it, ifs, rfl, rfl⟩ := comp_of h
    have hsw : swapsWith (.ListComp el [⟨t, it, ifs, 0⟩] scope p) (some (.Name x pos2)) pos.line X.env = pure (X.env.blockKind == .function && X.env.kindOf x == some .local && pos2.line == p.line && !(scope.names.any fun (n, k) => n == x && (k == .local || k == .cell))) := rfl
    cases hb : (X.env.blockKind == .function && X.env.kindOf x == some .local && pos2.line == p.line && !(scope.names.any fun (n, k) => n == x && (k == .local || k == .cell))) with
    | false =>
      rw [hb] at hsw
      exact ss_asg G.g.nd hi (G.g.loc hx) (G.fn x) A hsw
    | true =>
      rw [hb] at hsw
      obtain ⟨g, C⟩ := comp_parts G.g h
      have kl : X.env.kindOf x = some .local := eq_of_beq (and2 (and2 (and2 hb).1).1).2
      have e0 : (wE Φ (.comp elt tg k its cond) : WE) = wComp (wEs Φ its) k tg (isOmit cond) (wE Φ cond) (wE Φ elt) := by funext en h Q E; rw [wE]; rfl
      rw [e0]
      exact ss_asgC C hi kl hsw
  · have nc : NoComp y := ⟨fun a b c d z => hc ⟨a, b, c, d, z⟩, (no_setc h).1, (no_setc h).2⟩
    exact ss_asg G.g.nd hi (G.g.loc hx) (G.fn x) A (sw_no nc _ _ _)
theorem asg_sub {b c : Expr} {p : Pos} {env : Env} (h : sliceB c = false) (v : Value) : assign (.Subscript b c p) env v = (do
      let ov ← holding [v] (eval b env)
      let iv ← holding [v, ov] (eval c env)
      standAt p
      holding [v, ov, iv] (setItem ov iv v)
      release [v, ov, iv] []) := by
  cases c <;> first | rfl | cases h
mutual
theorem sndS : ∀ (m : MS) {X : Cx} (s : Stmt), GS X fa xa fnm N Φ sc W → chkS fnm N sc m s = true → SS X fa xa W s (wS Φ m)
  | .expr e, X, s, G, h => by
    cases s with
    | Expr x p =>
      obtain ⟨h1, h2⟩ := and2 (show ((match (generalizing := false) x with | .ListComp .. => false | _ => true) && chkE fnm N sc e x) = true from h)
      have e0 : (wS Φ (.expr e) : WSm) = fun en h nx _ E => wE Φ e en h (fun _ h1 => nx en h1) fun x h1 => E x en h1 := by funext en h nx rt E; rw [wS]
      rw [e0]
      exact ss_expr (sndE e x G.g h2) ⟨(fun a b c d z => by subst z; cases h1), (no_setc h2).1, (no_setc h2).2⟩
    | _ => exact absurd (show false = true from h) Bool.false_ne_true
  | .asg i e, X, s, G, h => by
    cases s with
    | Assign ts y p =>
      match ts, h with
      | [.Name x p2], h =>
        obtain ⟨h12, h3⟩ := and2 (show (decide (N[i]? = some x) && locB sc x && chkE fnm N sc e y) = true from h)
        obtain ⟨h1, h2⟩ := and2 h12
        have e0 : (wS Φ (.asg i e) : WSm) = fun en h nx _ E => wE Φ e en h (fun d h1 => nx (en.set i (some d)) h1) fun x h1 => E x en h1 := by funext en h nx rt E; rw [wS]
        rw [e0]
        exact ss_asg_all G (of_decide_eq_true h1) h2 h3
    | _ => exact absurd (show false = true from h) Bool.false_ne_true
  | .asgT is e, X, s, G, h => by
    cases s with
    | Assign ts y p =>
      match ts, h with
      | [.Tuple es k p2], h =>
        obtain ⟨h12, h3⟩ := and2 (show (tgB N (locB sc) is es && (match (generalizing := false) y with | .Tuple .. => false | _ => true) && chkE fnm N sc e y) = true from h)
        obtain ⟨h1, h2⟩ := and2 h12
        have e0 : (wS Φ (.asgT is e) : WSm) = fun en h nx _ E => wE Φ e en h (fun d h1 => OQ (bindT (.tup is) d en) fun en2 => nx en2 h1) fun x h1 => E x en h1 := by funext en h nx rt E; rw [wS]
        rw [e0]
        obtain ⟨g, S⟩ := tg_ok (fa := fa) (is := []) h1 G.g.N G.g.nd fun x hx => ⟨G.g.loc hx, .inl (G.fn x)⟩
        exact ss_asgT G.g.calm S (sndE e y G.g h3) fun a b c z => by subst z; cases h2
    | _ => exact absurd (show false = true from h) Bool.false_ne_true
  | .asgIx o i e, X, s, G, h => by
    cases s with
    | Assign ts y p =>
      match ts, h with
      | [.Subscript b c p2], h =>
        obtain ⟨h123, h4⟩ := and2 (show (chkE fnm N sc o b && chkE fnm N sc i c && !sliceB c && chkE fnm N sc e y) = true from h)
        obtain ⟨h12, h3⟩ := and2 h123
        obtain ⟨h1, h2⟩ := and2 h12
        have e0 : (wS Φ (.asgIx o i e) : WSm) = fun en h nx _ E => wE Φ e en h (fun d h1 => wE Φ o en h1 (fun x h2 => wE Φ i en h2 (fun y h3 => OQ (setIx x y d h3) fun h4 => nx en h4) fun x h1 => E x en h1) fun x h1 => E x en h1) fun x h1 => E x en h1 := by funext en h nx rt E; rw [wS]
        rw [e0]
        exact ss_asgIx (by have := G.g.un; omega) (sndE e y G.g h4) (sndE o b G.g h1) (sndE i c G.g h2) (asg_sub (by simpa using h3))
    | _ => exact absurd (show false = true from h) Bool.false_ne_true
  | .ifs c a b, X, s, G, h => by
    cases s with
    | If x ya yb p =>
      obtain ⟨h12, h3⟩ := and2 (show (chkE fnm N sc c x && chkSs fnm N sc a ya && chkSs fnm N sc b yb) = true from h)
      obtain ⟨h1, h2⟩ := and2 h12
      have e0 : (wS Φ (.ifs c a b) : WSm) = fun en h nx rt E => wE Φ c en h (fun x h1 => OQ (asBl x) fun k => if k = true then wSs Φ a en h1 nx rt E else wSs Φ b en h1 nx rt E) fun x h1 => E x en h1 := by funext en h nx rt E; rw [wS]
      rw [e0]
      exact ss_if (sndE c x G.g h1) (sndSs a ya G h2) (sndSs b yb G h3)
    | _ => exact absurd (show false = true from h) Bool.false_ne_true
  | .for_ tg k its body, X, s, G, h => by
    cases s with
    | For t it b oe p =>
      cases oe with
      | cons _ _ => exact absurd (show false = true from h) Bool.false_ne_true
      | nil =>
        obtain ⟨h12, h3⟩ := and2 (show (tgtB N (locB sc) tg t && (match (generalizing := false) iterB k it t sc with | some ps => chkEs fnm N sc its ps | none => false) && chkSs fnm N sc body b) = true from h)
        obtain ⟨h1, h2⟩ := and2 h12
        have e0 : (wS Φ (.for_ tg k its body) : WSm) = fun en h nx rt E => wEs Φ its en h (fun ds h1 => OQ (itemsOf k ds h1) fun p =>
            loopF p.2 (fun x en2 h2 nx2 => OQ (bindT tg x en2) fun en3 => wSs Φ body en3 h2 nx2 rt E) p.1 en h1 nx) fun x h1 => E x en h1 := by funext en h nx rt E; rw [wS]
        rw [e0]
        cases hi : iterB k it t sc with
        | none => rw [hi] at h2; cases h2
        | some ps =>
          rw [hi] at h2
          obtain ⟨g, S⟩ := tgt_ok (fa := fa) h1 G.g.N G.g.nd G.g.calm fun x hx => ⟨G.g.loc hx, .inl (G.fn x)⟩
          exact ss_for G.pw G.g.calm (iter_ok G.g hi (sndEs its ps G.g h2)) S (sndSs body b G h3) (iter_fold G.g hi h2)
    | _ => exact absurd (show false = true from h) Bool.false_ne_true
  | .while_ c body, X, s, G, h => by
    cases s with
    | While x b oe p =>
      cases oe with
      | cons _ _ => exact absurd (show false = true from h) Bool.false_ne_true
      | nil =>
        obtain ⟨h1, h2⟩ := and2 (show (chkE fnm N sc c x && chkSs fnm N sc body b) = true from h)
        have e0 : (wS Φ (.while_ c body) : WSm) = fun en h nx rt E => ∃ W : Nat → En → MH → Prop, (∃ m, W m en h) ∧ ∀ m en h, W m en h →
            wE Φ c en h (fun x h1 => OQ (asBl x) fun k => if k = true then wSs Φ body en h1 (fun en2 h2 => ∃ m2, m2 < m ∧ W m2 en2 h2) rt E else nx en h1) fun x h1 => E x en h1 := by funext en h nx rt E; rw [wS]
        rw [e0]
        exact ss_while G.pw (sndE c x G.g h1) (sndSs body b G h2)
    | _ => exact absurd (show false = true from h) Bool.false_ne_true
  | .ret e, X, s, G, h => by
    cases s with
    | Return o p =>
      cases o with
      | none => exact absurd (show false = true from h) Bool.false_ne_true
      | some x =>
        have e0 : (wS Φ (.ret e) : WSm) = fun en h _ rt E => wE Φ e en h rt fun x h1 => E x en h1 := by funext en h nx rt E; rw [wS]
        rw [e0]
        exact ss_ret (sndE e x G.g h)
    | _ => exact absurd (show false = true from h) Bool.false_ne_true
  | .pass, X, s, G, h => by
    cases s with
    | Pass p =>
      have e0 : (wS Φ .pass : WSm) = fun en h nx _ _ => nx en h := by funext en h nx rt E; rw [wS]
      rw [e0]
      exact ss_pass
    | _ => exact absurd (show false = true from h) Bool.false_ne_true
theorem sndSs : ∀ (ms : List MS) {X : Cx} (ss : List Stmt), GS X fa xa fnm N Φ sc W → chkSs fnm N sc ms ss = true → SSs X fa xa W ss (wSs Φ ms)
  | [], X, ss, G, h => by
    cases ss with
    | cons _ _ => exact absurd (show false = true from h) Bool.false_ne_true
    | nil =>
      have e0 : (wSs Φ [] : WSm) = fun en h nx _ _ => nx en h := by funext en h nx rt E; rw [wSs]
      rw [e0]
      exact sss_nil
  | m :: ms, X, ss, G, h => by
    cases ss with
    | nil => exact absurd (show false = true from h) Bool.false_ne_true
    | cons s ss =>
      obtain ⟨h1, h2⟩ := and2 (show (chkS fnm N sc m s && chkSs fnm N sc ms ss) = true from h)
      have e0 : (wSs Φ (m :: ms) : WSm) = fun en h nx rt E => wS Φ m en h (fun en1 h1 => wSs Φ ms en1 h1 nx rt E) rt E := by funext en h nx rt E; rw [wSs]
      rw [e0]
      exact sss_cons (sndS m s G h1) (sndSs ms ss G h2)
end
end
end Mp
namespace Mp
open PySem PySem.Spec PyProof.Rows L2

/-- a def by its body, no repr around it -/
theorem fnG_of {P : Program} {w : World} {K : PySem.W.Frag} {mg : Str → Option Value} {base : Heap} {k : Nat} {f : Addr} {name qual : Str} {params : Arguments} {body : List Stmt} {scope : Scope} {dV kV doc pm cdv ct oc : Value} {an od : Option Addr}
    {osl : Array (Option Value)} {N ps : List Str} {sp : Sp} (lk : K.lookup f = some ⟨oc, od, .func (PySem.W.fnOf name qual params body scope dV kV doc pm an cdv ct), osl⟩) (hcd : PySem.W.codeIn K cdv qual = true) (S : FnScope N ps scope)
    (len : ∀ vs H Q E, sp vs H Q E → vs.length = ps.length)
    (hbody : ∀ (A : Around) (outer : List Env) (s : Shared) (H : Hp) (vs : List V) (Q : VK) (E : XK), A.guards = some [] → Room k (A.deeper (envOfC qual scope s.heap.objs.size f cdv)) → sp vs H Q E →
      ∃ t, PSs (cxOf (L2.CX P w) P w K mg base N qual scope f cdv A outer s H E) body t ∧ t { nx := fun _ H' => Q .non H', rt := Q } (L2.start N vs) H) :
    FnG P w K mg base (k + 1) f (PySem.W.fnOf name qual params body scope dV kV doc pm an cdv ct) ps sp := by
  refine ⟨fun A outer s H args us vs Q E hgd hr e0 hb r hsp => ?_⟩
  have hl := len _ _ _ _ hsp
  have KX : K.In s.heap := e0.mod.kin.keeps fun b o e => (e0.bs b o e).1
  have lim : s.heap.NoLimit := e0.mod.nolimit.keeps fun b o e => (e0.bs b o e).1
  have hkind : ∀ y ∈ ps.zip us, scope.names.lookup y.1 = some .local ∨ (scope.names.lookup y.1 = some .cell ∧ ((cellsFrom (s.heap.objs.size + 1) scope.names []).lookup y.1).isSome = true) := fun ⟨n, v⟩ hy => by
    rcases S.par n (List.of_mem_zip hy).1 with q | q
    · exact .inl q
    · exact .inr ⟨q, PySem.W.cellsFrom_some _ _ _ (.inl q)⟩
  refine codeAny_call_function hr.depth (KX _ _ lk) rfl S.co S.gen rfl (PySem.W.codeRec_of KX hcd) (hb _ _ _ _ ?_)
  refine wpAny_newFunctionEnv_cells S.kind hkind fun env he s1 x => ?_
  subst he
  refine ⟨lim.keeps x.toInCall.keep, codeAny_func ?_⟩
  obtain ⟨t, ht, hq⟩ := hbody A outer s H vs Q E hgd (hr.deeper _) hsp
  have I : Inv (cxOf (L2.CX P w) P w K mg base N qual scope f cdv A outer s H E) [] (L2.start N vs) H s1 := inv_start S hr.hd e0 hl r x
  refine wpAny_mono (ht.run [] s1 (L2.start N vs) H _ I hq) (fun fl s' hs => ?_) fun e s' hs => hs
  have fin : ∀ {σ' : L2.St} {H' : Hp} {v : V} {u : Value}, Inv (cxOf (L2.CX P w) P w K mg base N qual scope f cdv A outer s H E) [] σ' H' s' → RelV v u → Q v H' → CE outer P w H s Q u s' :=
    fun {σ' H' v u} J rv q => ⟨v, H', J.os, J.bare, J.base, J.hok, rv, q⟩
  cases fl with
  | ret u =>
    obtain ⟨v, σ', H', J, rv, q⟩ := hs
    exact fin J rv q
  | next =>
    obtain ⟨σ', H', J, q⟩ := hs
    exact fin (v := V.non) (u := Value.none) J rfl q
  | brk =>
    obtain ⟨_, _, _, q⟩ := hs
    exact False.elim q
  | cont =>
    obtain ⟨_, _, _, q⟩ := hs
    exact False.elim q

/-- what a function of the table is in the text -/
structure FnIs (K : PySem.W.Frag) (mg : Str → Option Value) (fnm : Tb) (fa : Nat → Option Addr) (f : Nat) (d : Def) : Prop where
  ex : ∃ (x : Str) (a : Addr) (fd : FuncData) (st : Stmt) (N ps : List Str), fnm f = some x ∧ fa f = some a ∧ mg x = some (.ref a) ∧ PySem.W.keepIn K (.ref a) = true ∧ L2.Fun K x x st a fd ∧ Binds K fd ps [] ∧ FnScope N ps (defScope st) ∧
    N.length = d.np + d.ns ∧ ps.length = d.np ∧ chkSs fnm N (defScope st) d.body (defBody st) = true

section
variable {P : Program} {w : World} {K : PySem.W.Frag} {mg : Str → Option Value} {base : Heap} {fa : Nat → Option Addr} {xa : Nat → Option (Value × List Str)} {fnm : Tb} {Pr : Nat → Option Def}
theorem ren_start {ρ : List Addr} {H : Hp} {ds : List D} {vs : List V} {N : List Str} {m : Nat} (r : RDs K fa ρ H ds vs) (hm : N.length = ds.length + m) : REn K fa ρ H (ds.map some ++ List.replicate m none) (L2.start N vs) := by
  have hl := r.length
  refine ⟨?_, fun i d e => ?_⟩
  · unfold L2.start
    simp only [List.length_append, List.length_map, List.length_replicate]
    omega
  · by_cases hi : i < ds.length
    · rw [List.getElem?_append_left (by simpa using hi), List.getElem?_map] at e
      cases e2 : ds[i]? with
      | none => rw [e2] at e; cases e
      | some d2 =>
        rw [e2] at e
        cases e
        obtain ⟨v, h1, h2⟩ := r.get e2
        refine ⟨v, ?_, h2⟩
        unfold L2.start
        rw [List.getElem?_append_left (by simpa using (by omega : i < vs.length)), List.getElem?_map, h1]
        rfl
    · rw [List.getElem?_append_right (by simpa using hi), List.getElem?_replicate] at e
      split at e <;> cases e
/-- every function of the table keeps what its small form asks, to every depth -/
theorem all_fns (hall : ∀ f x, fnm f = some x → ∃ d, Pr f = some d ∧ FnIs K mg fnm fa f d) (hbn : ∀ x ∈ BNames, mg x = none) (hgc : ∀ x i, fnm.gc x = some i → ∃ t, mg x = some (.int i t)) : ∀ (n f : Nat) (y : Str), fnm f = some y →
    ∃ (d : Def) (x : Str) (a : Addr) (fd : FuncData) (ps : List Str), Pr f = some d ∧ fnm f = some x ∧ fa f = some a ∧ mg x = some (.ref a) ∧ PySem.W.keepIn K (.ref a) = true ∧ Binds K fd ps [] ∧ ps.length = d.np ∧ FnG P w K mg base n a fd ps (spG K fa xa (callN Pr n) f)
  | 0, f, y, hy0 => by
    obtain ⟨d, hd, hF⟩ := hall f y hy0
    obtain ⟨x, a, fd, st, N, ps, h1, h2, h3, h4, h5, h6, h7, h8, h9, h10⟩ := hF.ex
    exact ⟨d, x, a, fd, ps, hd, h1, h2, h3, h4, h6, h9, ⟨fun A outer s H args us vs Q E _ _ _ _ _ ⟨_, _, _, _, _, _, _, z, _⟩ => False.elim z⟩⟩
  | n + 1, f, y, hy0 => by
    obtain ⟨d, hd, hF⟩ := hall f y hy0
    obtain ⟨x, a, fd, st, N, ps, h1, h2, h3, h4, h5, h6, h7, h8, h9, h10⟩ := hF.ex
    refine ⟨d, x, a, fd, ps, hd, h1, h2, h3, h4, h6, h9, ?_⟩
    obtain ⟨oc, od, kV, doc, pm, an, cdv, ct, osl, rfl, lk, hcd⟩ := h5.ex
    have open_ : ∀ {ds : List D} {h : MH} {Q : QV} {E : QX}, callN Pr (n + 1) f ds h Q E → ds.length = d.np ∧ wSs (callN Pr n) d.body (ds.map some ++ List.replicate d.ns none) h (fun _ h2 => Q .non h2) Q fun x _ h2 => E x h2 := fun {ds h Q E} z => by
      rw [callN, hd] at z
      exact z
    refine fnG_of lk hcd h7 (fun vs H Q E ⟨ρ, h, ds, Q0, E0, R, r, q, _⟩ => ?_) fun A outer s H vs Q E hgd hr ⟨ρ, h, ds, Q0, E0, R, r, q, kq, kx⟩ => ?_
    · rw [← r.length, (open_ q).1, h9]
    · obtain ⟨hl, q⟩ := open_ q
      have G : GS (cxOf (L2.CX P w) P w K mg base N x (defScope st) a cdv A outer s H E) fa xa fnm N (callN Pr n) (defScope st) (fun cls d _ H => E cls d H) := by
        refine ⟨⟨rfl, h7.nd, rfl, rfl, ?_, ?_, hbn, fun g y hy => ?_, takes_of rfl rfl rfl rfl, hgc⟩, fun _ => rfl, passes_of rfl⟩
        · show (A.deeper _).guards = _
          exact hgd
        · show (A.deeper _).units + 68 < cLine
          have := hr.un
          omega
        · obtain ⟨d2, x2, a2, fd2, ps2, hd2, i1, i2, i3, i4, i5, i6, i7⟩ := all_fns hall hbn hgc n g y hy
          rw [hy] at i1
          cases i1
          refine ⟨n, a2, fd2, ps2, i3, i2, i4, i5, i7, hr, fun ds h Q E z => ?_⟩
          rw [i6]
          cases n with
          | zero => exact False.elim z
          | succ n =>
            rw [callN, hd2] at z
            exact z.1
      refine ⟨_, (sndSs d.body (defBody st) G h10).ps, ρ, _, h, _, _, _, R, ren_start r (by rw [h8, hl]), q, fun en2 h2 σ2 ρ2 H2 e R2 N2 q2 => kq .non h2 .non ρ2 H2 e R2 .non q2, kq, fun x en2 h2 cls d σ2 ρ2 H2 e R2 N2 rx q2 => kx x h2 cls d ρ2 H2 e R2 rx q2⟩
end
end Mp
namespace Mp
open PySem PySem.Spec PyProof.Rows L2

/-- the top has written no list -/
def noL (K : PySem.W.Frag) : Bool := K.all fun p => match p.2.cls with
  | .type t => !(t == "list")
  | _ => true
theorem mem_look {K : List (Addr × Obj)} {a : Addr} {o : Obj} : K.lookup a = some o → (a, o) ∈ K := by
  induction K with
  | nil => intro e; cases e
  | cons p r ih =>
    intro e
    obtain ⟨b, u⟩ := p
    rw [List.lookup_cons] at e
    split at e
    · rename_i c
      have c := eq_of_beq c
      cases e
      rw [c]
      exact List.mem_cons_self
    · exact List.mem_cons_of_mem _ (ih e)
theorem noL_of {K : PySem.W.Frag} (h : noL K = true) {a : Addr} {o : Obj} (e : K.lookup a = some o) : o.cls ≠ .type "list" := by
  intro z
  have := List.all_eq_true.mp h (a, o) (mem_look e)
  simp only [z] at this
  simp at this
/-- the law's promise at the heap behind the top, no repr around it -/
theorem law_callG {P : Program} {w : World} {K : PySem.W.Frag} {mg mb : Str → Option Value} {k : Nat} {fa a : Addr} {sp : Sp} {s₁ : Shared} {vs : List Value} {ns : List Int}
    (KX : K.In s₁.heap) (hns : s₁.heap.Ns mainGlobals mg) (hb : s₁.heap.Ns builtinsNs mb) (hbb : ∀ x : Str, x ≠ "__name__" → mb x = bootBuiltins x) (hlim : s₁.heap.NoLimit) (hg : s₁.gens = #[])
    (ha : s₁.heap.get? a = some { cls := .type "list", data := .seq vs.toArray }) (hi : IntsAre vs ns) (hl : ns.length ≤ sizeLine) (hr : Room k callerA) (hK : noL K = true)
    (F : ∀ base : Heap, K.In base → base.Ns mainGlobals mg → ∃ fd x, Binds K fd [x] [] ∧ FnG P w K mg base k fa fd [x] sp)
    (hsp : ∀ H : Hp, (∀ b, b ≠ a → H b = none) → (∃ o, H a = some (.frz o (.lst (ns.map V.int)))) → sp [.ref a] H (fun v _ => v = .bl true) fun _ _ _ => False) :
    codeAny (model P w) callerA (.call (.ref fa) ⟨[.ref a], []⟩) (fun r s' => r = .ok (.ret (.bool true)) ∧ OldK s₁.heap s'.heap ∧ s'.os = s₁.os ∧ AllBare s'.gens) s₁ := by
  have rv := vals_ints hi
  have lenV := hi.length
  have hk : K.lookup a = none := by
    cases e : K.lookup a with
    | none => rfl
    | some o =>
      have e2 := KX a o e
      rw [ha] at e2
      cases e2
      exact absurd rfl (noL_of hK e)
  have core : ∀ H : Hp, (∀ b, b ≠ a → H b = none) → H a = some (.frz { cls := .type "list", data := .seq vs.toArray } (.lst (ns.map V.int))) → HOk P w H s₁.heap →
      codeAny (model P w) callerA (.call (.ref fa) ⟨[.ref a], []⟩) (fun r s' => r = .ok (.ret (.bool true)) ∧ OldK s₁.heap s'.heap ∧ s'.os = s₁.os ∧ AllBare s'.gens) s₁ := by
    intro H hO hS hok
    have hA : ∀ b, H b ≠ none → b = a := fun b h => by
      by_cases e : b = a
      · exact e
      · exact absurd (hO b e) h
    have base_of : ∀ {b : Addr} {o : Obj}, s₁.heap.get? b = some o → H b = none → (hidT s₁.heap H).get? b = some o := fun e n => hidT_get e n
    have noA : ∀ {b : Addr} {o : Obj} {es : Array DictEntry} {ep : Nat}, s₁.heap.get? b = some o → o.data = .dict es ep → H b = none := fun {b o es ep} e d => by
      cases q : H b with
      | none => rfl
      | some u =>
        have e' : b = a := hA b (by rw [q]; simp)
        subst e'
        rw [ha] at e; cases e
        have d' : Data.seq vs.toArray _ = Data.dict es ep := d
        cases d'
    have nsK : ∀ {b : Addr} {m : Str → Option Value}, s₁.heap.Ns b m → (hidT s₁.heap H).Ns b m := fun {b m} ⟨o, es, ep, e, d, r⟩ => ⟨o, es, ep, base_of e (noA e d), d, r⟩
    have hKb : K.In (hidT s₁.heap H) := fun b o e => base_of (KX b o e) (by
      cases q : H b with
      | none => rfl
      | some u =>
        have e' : b = a := hA b (by rw [q]; simp)
        subst e'
        rw [hk] at e; cases e)
    have hM : Mod K mg (hidT s₁.heap H) := ⟨hKb, nsK hns, ⟨mb, nsK hb, hbb⟩, let ⟨mc, h1, h2⟩ := hlim; ⟨mc, nsK h1, h2⟩⟩
    have e0 : Env0 P w K mg (hidT s₁.heap H) callerA [] s₁ H := ⟨rfl, hM, fun b o e => of_hidT e, Nat.le_of_eq (hidT_size _ _), trivial, fun b hb => absurd (show b ∈ ([] : List Addr) from hb) (by simp), hok, .of_eq hg⟩
    obtain ⟨fd, x, hbind, hF⟩ := F _ hKb (nsK hns)
    refine codeAny_mono (hF.run callerA [] s₁ H ⟨[.ref a], []⟩ [.ref a] [.ref a] _ _ rfl hr e0 (hbind s₁ [.ref a] KX rfl) (.cons rfl .nil) (hsp H hO ⟨_, hS⟩)) fun r s' h => ?_
    cases r with
    | error e =>
      obtain ⟨_, _, _, _, _, _, _, _, _, _, _, _, z⟩ := h
      exact z.elim
    | ok fl =>
      cases fl with
      | next => exact False.elim h
      | brk => exact False.elim h
      | cont => exact False.elim h
      | ret u =>
        obtain ⟨v, H', os, bare, un, hok', r', q⟩ := h
        have q' : v = .bl true := q
        subst q'
        obtain rfl : u = Value.bool true := r'
        refine ⟨rfl, OldK.of_keep fun b o e => ?_, os, bare⟩
        cases q : H b with
        | none => exact un.keep b o e q (by intro z; exact absurd (show b ∈ ([] : List Addr) from z) (by simp)) (by simp)
        | some u =>
          have eb := hA b (by rw [q]; simp)
          subst eb
          have z2 := un.frzs b _ _ hS
          obtain ⟨e1, _⟩ := hok b _ hS
          obtain ⟨e2, _⟩ := hok' b _ z2
          rw [e] at e1; cases e1
          exact e2
  refine core (fun b => if b = a then some (.frz { cls := .type "list", data := .seq vs.toArray } (.lst (ns.map V.int))) else none) (fun b hb => if_neg hb) (if_pos rfl) fun b u z => ?_
  by_cases hb : b = a
  · have z' := (if_pos hb).symm.trans z
    cases z'
    subst hb
    exact ⟨ha, by rw [List.length_map]; exact hl, vs, _, rv, ha⟩
  · have z' := (if_neg hb).symm.trans z
    cases z'
theorem rds_ints {K : PySem.W.Frag} {fa : Nat → Option Addr} {ρ : List Addr} {H : Hp} : ∀ ns : List Int, RDs K fa ρ H (ns.map D.int) (ns.map V.int)
  | [] => .nil
  | n :: r => .cons (.int n) (rds_ints r)
/-- the goal that k_head leaves, from the small form's promise -/
theorem walk_mini {l : PySem.W.OpenLaw} {n k f : Nat} {q : Program} {loose : List Str} {XP : (Str → Option Value) → Heap → Prop} {YP : World → Heap → Prop} {d : DefRec} {K : Params → PySem.W.Frag} {Pr : Nat → Option Def}
    (hn : l.most = some n) (hn2 : n ≤ sizeLine) (hdf : d.params.defaults = []) (hr : Room k callerA)
    (hY : ∀ (w : World) (h : Heap), YP w h → (K w.params).In h)
    (F : ∀ (w : World) (mg : Str → Option Value) (fa : Addr) (h : Heap), (K w.params).In h → h.Ns mainGlobals mg → mg d.name = some (.ref fa) →
      noL (K w.params) = true ∧ ∃ faT : Nat → Option Addr, 
        ∀ base : Heap, (K w.params).In base → base.Ns mainGlobals mg → ∃ fd x, Binds (K w.params) fd [x] [] ∧ FnG l.prog w (K w.params) mg base k fa fd [x] (spG (K w.params) faT (fun _ => none) (callN Pr k) f))
    (hsp : ∀ ns : List Int, ns.length ≤ n → callN Pr k f [.ref 0] [.rol (ns.map .int)] (fun d _ => d = .bl true) fun _ _ => False) :
    PySem.W.WalkO q loose XP YP l.row.toRowW d [] (fun f vs => PySem.call f vs) := by
  refine Att.attach_call hn hdf fun w s₀ s₁ mg mb fa o pm cd doc a vs ns G Y ho hd hcd hmg hobj hints hlen hg => ?_
  have KX := hY w _ Y
  obtain ⟨hK, faT, hF⟩ := F w mg fa _ KX G.T.g hmg
  refine law_callG KX G.T.g G.T.b G.T.builtins G.T.nolimit hg hobj hints (Nat.le_trans hlen hn2) hr hK hF fun H hO ⟨ob, hS⟩ => ?_
  have R : RH (K w.params) faT [a] [.rol (ns.map .int)] H := by
    refine ⟨rfl, by simp, fun m o b e1 e2 => ?_⟩
    cases m with
    | zero =>
      have e1 : some (MO.rol (ns.map .int)) = some o := e1
      have e2 : some a = some b := e2
      cases e1; cases e2
      exact ⟨ob, _, hS, rds_ints ns⟩
    | succ m => simp at e1
  refine ⟨[a], _, [.ref 0], _, _, R, .cons (.ref rfl) .nil, hsp ns hlen, fun d h2 v ρ2 H2 e R2 r z => ?_, fun x h2 c d ρ2 H2 e R2 r z => z.elim⟩
  subst z
  cases r
  rfl
/-! ### the defs as the top has written them -/
structure FnAt (K : PySem.W.Frag) (x : Str) (st : Stmt) (a : Addr) : Prop where
  ns : PySem.W.nsIn K mainGlobals x = some (some (.ref a))
  fn : ∃ fd, L2.Fun K x x st a fd
theorem fnAt_mk {K : PySem.W.Frag} {x : Str} {st : Stmt} {f : Addr} {oc kV doc pm cdv ct : Value} {od an : Option Addr} {osl : Array (Option Value)} (a : PySem.W.nsIn K mainGlobals x = some (some (.ref f)))
    (l : K.lookup f = some ⟨oc, od, .func (PySem.W.fnOf x x (defArgs st) (defBody st) (defScope st) .none kV doc pm an cdv ct), osl⟩) (c : PySem.W.codeIn K cdv x = true) (k : PySem.W.keepIn K (.ref f) = true) : ∃ a, FnAt K x st a :=
  ⟨f, a, _, fun_mk l c k⟩
/-- a def of a law's text: its number, its name, its place, its names, its small form -/
structure Row where
  f : Nat
  x : Str
  i : Nat
  N : List Str
def argsOf (n : Nat) : Prop := True
/-- what is looked at, once -/
def rowB (fnm : Tb) (Pr : Nat → Option Def) (st : Stmt) (r : Row) : Bool := match Pr r.f with
  | some d => decide ((defScope st).kind = .function) && !(defScope st).isCoroutine && !(defScope st).isGenerator && decide r.N.Nodup && decide ((r.N.take d.np).length = d.np) && (r.N.take d.np).all (fun x => decide ((defScope st).names.lookup x = some .local) || decide ((defScope st).names.lookup x = some .cell)) &&
      (defScope st).names.all (fun y => !decide (y.2 = .free)) && decide (r.N.length = d.np + d.ns) && decide (fnm r.f = some r.x) && chkSs fnm r.N (defScope st) d.body (defBody st)
  | none => false
theorem fnIs_of {K : PySem.W.Frag} {mg : Str → Option Value} {h : Heap} {fnm : Tb} {fa : Nat → Option Addr} {Pr : Nat → Option Def} {st : Stmt} {r : Row} {a : Addr} (X : K.In h) (G : h.Ns mainGlobals mg) (A : FnAt K r.x st a) (ha : fa r.f = some a) (hc : rowB fnm Pr st r = true)
    (hb : ∀ d, Pr r.f = some d → ∀ (kV doc pm : Value) (an : Option Addr) (cdv ct : Value) (us : List Value), us.length = (r.N.take d.np).length → bindArgs (PySem.W.fnOf r.x r.x (defArgs st) (defBody st) (defScope st) .none kV doc pm an cdv ct) ⟨us, []⟩ = pure ((r.N.take d.np).zip us)) :
    ∃ d, Pr r.f = some d ∧ FnIs K mg fnm fa r.f d := by
  unfold rowB at hc
  cases hd : Pr r.f with
  | none => rw [hd] at hc; cases hc
  | some d =>
    rw [hd] at hc
    simp only [Bool.and_eq_true, Bool.not_eq_true', decide_eq_true_eq, List.all_eq_true, Bool.or_eq_true, decide_eq_false_iff_not] at hc
    obtain ⟨⟨⟨⟨⟨⟨⟨⟨⟨h1, h2⟩, h3⟩, h4⟩, h5⟩, h6⟩, h7⟩, h8⟩, h9⟩, h10⟩ := hc
    obtain ⟨fd, F⟩ := A.fn
    exact ⟨d, rfl, ⟨r.x, a, fd, st, r.N, r.N.take d.np, h9, ha, PySem.W.mg_of X G A.ns, F.kp, F, F.binds (hb d hd), ⟨h1, h2, h3, h4, by rw [h5], h6, h7⟩, h8, h5, h10⟩⟩
inductive AllAt (K : PySem.W.Frag) (top : Nat → Stmt) : List Row → Prop
  | nil : AllAt K top []
  | cons {r : Row} {t : List Row} : (∃ a, FnAt K r.x (top r.i) a) → AllAt K top t → AllAt K top (r :: t)
inductive AllNo (K : PySem.W.Frag) : List Str → Prop
  | nil : AllNo K []
  | cons {x : Str} {t : List Str} : PySem.W.nsIn K mainGlobals x = some none → AllNo K t → AllNo K (x :: t)
inductive AllGc (K : PySem.W.Frag) : List (Str × Int) → Prop
  | nil : AllGc K []
  | cons {x : Str} {i : Int} {t : List (Str × Int)} {u : Tok} : PySem.W.nsIn K mainGlobals x = some (some (.int i u)) → AllGc K t → AllGc K ((x, i) :: t)
theorem AllAt.get {K : PySem.W.Frag} {top : Nat → Stmt} : ∀ {l : List Row}, AllAt K top l → ∀ r ∈ l, ∃ a, FnAt K r.x (top r.i) a
  | _, .cons h t, r, m => by
    rcases List.mem_cons.mp m with rfl | m
    · exact h
    · exact t.get r m
theorem AllNo.get {K : PySem.W.Frag} : ∀ {l : List Str}, AllNo K l → ∀ x ∈ l, PySem.W.nsIn K mainGlobals x = some none
  | _, .cons h t, r, m => by
    rcases List.mem_cons.mp m with rfl | m
    · exact h
    · exact t.get r m
theorem AllGc.get {K : PySem.W.Frag} : ∀ {l : List (Str × Int)}, AllGc K l → ∀ p ∈ l, ∃ u, PySem.W.nsIn K mainGlobals p.1 = some (some (.int p.2 u))
  | _, .cons h t, r, m => by
    rcases List.mem_cons.mp m with rfl | m
    · exact ⟨_, h⟩
    · exact t.get r m
/-- the names' table of a law -/
def tbOf (rows : List Row) (gcs : List (Str × Int)) : Tb := ⟨fun f => (rows.find? fun r => r.f == f).map (·.x), fun x => gcs.lookup x⟩
theorem mem_lookS {l : List (Str × Int)} {x : Str} {i : Int} : l.lookup x = some i → (x, i) ∈ l := by
  induction l with
  | nil => intro e; cases e
  | cons p r ih =>
    intro e
    obtain ⟨b, u⟩ := p
    rw [List.lookup_cons] at e
    split at e
    · rename_i c
      have c := eq_of_beq c
      cases e
      rw [c]
      exact List.mem_cons_self
    · exact List.mem_cons_of_mem _ (ih e)
/-- THE END: a law by its rows -/
theorem law_mini {l : PySem.W.OpenLaw} {n k f : Nat} {q : Program} {loose : List Str} {XP : (Str → Option Value) → Heap → Prop} {YP : World → Heap → Prop} {d : DefRec} {K : Params → PySem.W.Frag} {Pr : Nat → Option Def} {rows : List Row} {gcs : List (Str × Int)} {top : Nat → Stmt}
    (hn : l.most = some n) (hn2 : n ≤ sizeLine) (hdf : d.params.defaults = []) (hr : Room k callerA)
    (hY : ∀ (w : World) (h : Heap), YP w h → (K w.params).In h)
    (hf : tbOf rows gcs f = some d.name) (hp : ∃ df, Pr f = some df ∧ df.np = 1)
    (hrow : ∀ r ∈ rows, rowB (tbOf rows gcs) Pr (top r.i) r = true ∧ (rows.find? fun s => s.f == r.f) = some r ∧
      ∀ df, Pr r.f = some df → ∀ (kV doc pm : Value) (an : Option Addr) (cdv ct : Value) (us : List Value), us.length = (r.N.take df.np).length → bindArgs (PySem.W.fnOf r.x r.x (defArgs (top r.i)) (defBody (top r.i)) (defScope (top r.i)) .none kV doc pm an cdv ct) ⟨us, []⟩ = pure ((r.N.take df.np).zip us))
    (F : ∀ w : World, noL (K w.params) = true ∧ AllAt (K w.params) top rows ∧ AllNo (K w.params) BNames ∧ AllGc (K w.params) gcs)
    (hsp : ∀ ns : List Int, ns.length ≤ n → callN Pr k f [.ref 0] [.rol (ns.map .int)] (fun d _ => d = .bl true) fun _ _ => False) :
    PySem.W.WalkO q loose XP YP l.row.toRowW d [] (fun f vs => PySem.call f vs) := by
  refine walk_mini hn hn2 hdf hr hY (fun w mg fa h KX G hmg => ?_) hsp
  obtain ⟨hL, hA, hN, hG⟩ := F w
  refine ⟨hL, ?_⟩
  have pick : ∀ r ∈ rows, ∃ a, FnAt (K w.params) r.x (top r.i) a := hA.get
  let faT : Nat → Option Addr := fun g => match rows.find? fun s => s.f == g with
    | some r => match PySem.W.nsIn (K w.params) mainGlobals r.x with
      | some (some (.ref a)) => some a
      | _ => none
    | none => none
  refine ⟨faT, fun base KB GB => ?_⟩
  have hall : ∀ g y, (tbOf rows gcs) g = some y → ∃ df, Pr g = some df ∧ FnIs (K w.params) mg (tbOf rows gcs) faT g df := fun g y hy => by
    obtain ⟨r, hr1, rfl⟩ := Option.map_eq_some_iff.mp hy
    have hm := List.mem_of_find?_eq_some hr1
    have hg : r.f = g := by simpa using List.find?_some hr1
    subst hg
    obtain ⟨a, A⟩ := pick r hm
    obtain ⟨c1, c2, c3⟩ := hrow r hm
    refine fnIs_of KX G A ?_ c1 c3
    show (match rows.find? fun s => s.f == r.f with | some r => (match PySem.W.nsIn (K w.params) mainGlobals r.x with | some (some (.ref a)) => some a | _ => none) | none => none) = some a
    rw [c2]
    simp only [A.ns]
  obtain ⟨df, e3, e4⟩ := hp
  obtain ⟨df2, x2, a2, fd, ps, i1, i2, i3, i4, i5, i6, i7, i8⟩ := all_fns (P := l.prog) (w := w) (base := base) (xa := fun _ => none) hall (fun y hy => PySem.W.mg_none_of KX G (hN.get y hy)) (fun y i hy => by
    obtain ⟨u, hu⟩ := hG.get _ (mem_lookS hy)
    exact ⟨u, PySem.W.mg_of KX G hu⟩) k f d.name hf
  rw [hf] at i2
  cases i2
  rw [hmg] at i4
  cases i4
  rw [e3] at i1
  cases i1
  rw [e4] at i7
  match ps, i7, i6, i8 with
  | [y], _, i6, i8 => exact ⟨fd, y, i6, i8⟩
end Mp
namespace Mp
open PySem L2
/-- all_rows ['hues', 'wide', 'found', 'place', 'longer', 'row', 'choice'] -/
def d4 : Def := ⟨2, 5, [.asg 2 (.lst [.tup []]),
    .for_ (.name 3) .rng1 [.var 1] [.asg 4 (.lst []),
    .for_ (.name 5) .val [.var 2] [.expr (.mt .extend (.var 4) [.comp (.bin .add (.var 5) (.tup [.var 6])) (.name 6) .rng1 [.var 0] (.omit)])],
    .asg 2 (.var 4)],
    .ret (.var 2)]⟩
/-- unlike ['hues', 'row'] -/
def d5 : Def := ⟨1, 1, [.ret (.tup [.var 0, .cst (.int 2), .bi .tupleOf [.comp (.var 1) (.name 1) .val [.call 4 [.var 0, .cst (.int 2)]] (.cmp .ne (.ix (.var 1) (.cst (.int 0))) (.ix (.var 1) (.cst (.int 1))))]])]⟩
/-- posts [] -/
def d6 : Def := ⟨0, 0, [.ret (.tup [.cst (.int 2), .cst (.int 3), .tup [.tup [.cst (.int 0), .cst (.int 0), .cst (.int 1)], .tup [.cst (.int 0), .cst (.int 1), .cst (.int 0)], .tup [.cst (.int 1), .cst (.int 0), .cst (.int 0)], .tup [.cst (.int 1), .cst (.int 0), .cst (.int 1)]]])]⟩
/-- mates [] -/
def d7 : Def := ⟨0, 0, [.ret (.tup [.cst (.int 3), .cst (.int 2), .tup [.tup [.cst (.int 0), .cst (.int 1)], .tup [.cst (.int 1), .cst (.int 2)], .tup [.cst (.int 2), .cst (.int 0)], .tup [.cst (.int 2), .cst (.int 1)]]])]⟩
/-- ups ['hues', 'rows', 'row'] -/
def d8 : Def := ⟨1, 2, [.asg 1 (.comp (.var 2) (.name 2) .val [.call 4 [.var 0, .cst (.int 2)]] (.or (.cmp .lt (.ix (.var 2) (.cst (.int 0))) (.ix (.var 2) (.cst (.int 1)))) (.and (.cmp .eq (.ix (.var 2) (.cst (.int 1))) (.cst (.int 0))) (.cmp .ne (.ix (.var 2) (.cst (.int 0))) (.cst (.int 0)))))),
    .ret (.tup [.var 0, .cst (.int 2), .bi .tupleOf [.var 1]])]⟩
/-- _law_mix ['cell', 'k', 'by'] -/
def d9 : Def := ⟨2, 1, [.asg 2 (.bin .add (.bin .add (.bin .mul (.bin .add (.bin .mod (.var 0) (.bin .pow (.cst (.int 10)) (.cst (.int 15)))) (.cst (.int 1))) (.cst (.int 48271))) (.bin .mul (.bin .mul (.var 1) (.var 1)) (.cst (.int 16807)))) (.bin .mul (.var 1) (.cst (.int 7919)))),
    .ret (.bin .mod (.bin .mul (.bin .mod (.var 2) (.cst (.int 2147483647))) (.cst (.int 69621))) (.cst (.int 2147483629)))]⟩
/-- _law_feed ['script', 'k', 'cell'] -/
def d10 : Def := ⟨2, 1, [.asg 2 (.bin .add (.bin .mul (.cst (.int 7919)) (.var 1)) (.cst (.int 1))),
    .ifs (.cmp .lt (.var 1) (.bi .len [.var 0])) [.asg 2 (.ix (.var 0) (.var 1))] [.ifs (.cmp .gt (.bi .len [.var 0]) (.cst (.int 0))) [.asg 2 (.call 9 [.ix (.var 0) (.bin .mod (.var 1) (.bi .len [.var 0])), .var 1])] []],
    .ret (.lst [.var 2, .cst (.int 0), .bin .mul (.bin .sub (.var 2) (.bin .pow (.cst (.int 10)) (.cst (.int 18)))) (.bi .intOf [.cmp .ge (.var 2) (.bin .pow (.cst (.int 10)) (.cst (.int 18)))])])]⟩
/-- _law_take ['feed', 'many', 'found'] -/
def d11 : Def := ⟨2, 1, [.asgIx (.var 0) (.cst (.int 1)) (.bin .add (.ix (.var 0) (.cst (.int 1))) (.cst (.int 1))),
    .ifs (.cmp .gt (.ix (.var 0) (.cst (.int 2))) (.cst (.int 0))) [.asg 2 (.bin .mod (.ix (.var 0) (.cst (.int 2))) (.var 1)),
    .asgIx (.var 0) (.cst (.int 2)) (.bin .fdiv (.ix (.var 0) (.cst (.int 2))) (.var 1)),
    .ret (.var 2)] [],
    .ret (.bin .mod (.bin .fdiv (.call 9 [.ix (.var 0) (.cst (.int 0)), .ix (.var 0) (.cst (.int 1))]) (.cst (.int 7))) (.var 1))]⟩
/-- _law_all_rows ['hues', 'wide', 'found', 'place', 'longer', 'row', 'choice'] -/
def d12 : Def := ⟨2, 5, [.asg 2 (.lst [.tup []]),
    .for_ (.name 3) .rng1 [.var 1] [.asg 4 (.lst []),
    .for_ (.name 5) .val [.var 2] [.expr (.mt .extend (.var 4) [.comp (.bin .add (.var 5) (.tup [.var 6])) (.name 6) .rng1 [.var 0] (.omit)])],
    .asg 2 (.var 4)],
    .ret (.var 2)]⟩
/-- _law_wish ['feed', 'most', 'hues', 'wide', 'level', 'rows', 'row'] -/
def d13 : Def := ⟨2, 5, [.asg 2 (.bin .add (.cst (.int 1)) (.call 11 [.var 0, .var 1])),
    .asg 3 (.ix (.lst [.cst (.int 2), .cst (.int 3), .cst (.int 2)]) (.call 11 [.var 0, .cst (.int 3)])),
    .asg 4 (.call 11 [.var 0, .cst (.int 4)]),
    .asg 5 (.comp (.var 6) (.name 6) .val [.call 12 [.var 2, .var 3]] (.cmp .gt (.call 11 [.var 0, .cst (.int 5)]) (.var 4))),
    .ifs (.cmp .eq (.call 11 [.var 0, .cst (.int 4)]) (.cst (.int 0))) [.asg 5 (.comp (.var 6) (.name 6) .val [.call 12 [.var 2, .var 3]] (.and (.cmp .ne (.ix (.var 6) (.cst (.int 0))) (.ix (.var 6) (.cst (.int 1)))) (.cmp .ne (.ix (.var 6) (.neg (.cst (.int 1)))) (.ix (.var 6) (.neg (.cst (.int 2)))))))] [],
    .ret (.tup [.var 2, .var 3, .bi .tupleOf [.var 5]])]⟩
/-- comes_again ['rows', 'row', 'met', 'line', 'here', 'other'] -/
def d21 : Def := ⟨2, 4, [.asg 2 (.bi .dict0 []),
    .asg 3 (.lst [.var 1]),
    .while_ (.cmp .gt (.bi .len [.var 3]) (.cst (.int 0))) [.asg 4 (.mt .pop0 (.var 3) []),
    .for_ (.name 5) .val [.var 0] [.ifs (.and (.cmp .eq (.sl (.var 5) (.omit) (.neg (.cst (.int 1)))) (.sl (.var 4) (.cst (.int 1)) (.omit))) (.cmp .nin (.var 5) (.var 2))) [.asgIx (.var 2) (.var 5) (.cst (.bl true)),
    .expr (.mt .append (.var 3) [.var 5])] []]],
    .ret (.cmp .inn (.var 1) (.var 2))]⟩
/-- living ['wish', 'row'] -/
def d22 : Def := ⟨1, 1, [.ret (.comp (.var 1) (.name 1) .val [.ix (.var 0) (.cst (.int 2))] (.call 21 [.ix (.var 0) (.cst (.int 2)), .var 1]))]⟩
/-- _law_alive ['wish', 'found', 'row', 'met', 'at', 'again', 'some', 'other'] -/
def d23 : Def := ⟨1, 7, [.asg 1 (.lst []),
    .for_ (.name 2) .val [.ix (.var 0) (.cst (.int 2))] [.asg 3 (.lst [.var 2]),
    .asg 4 (.cst (.int 0)),
    .asg 5 (.cst (.bl false)),
    .while_ (.cmp .lt (.var 4) (.bi .len [.var 3])) [.asg 6 (.comp (.var 7) (.name 7) .val [.ix (.var 0) (.cst (.int 2))] (.cmp .eq (.sl (.var 7) (.omit) (.neg (.cst (.int 1)))) (.sl (.ix (.var 3) (.var 4)) (.cst (.int 1)) (.omit)))),
    .asg 5 (.or (.var 5) (.cmp .inn (.var 2) (.var 6))),
    .expr (.mt .extend (.var 3) [.comp (.var 7) (.name 7) .val [.var 6] (.cmp .nin (.var 7) (.var 3))]),
    .asg 4 (.bin .add (.var 4) (.cst (.int 1)))],
    .ifs (.var 5) [.expr (.mt .append (.var 1) [.var 2])] []],
    .ret (.var 1)]⟩
/-- law ['script', 'told', 'feed', 'wishes', 'k', 'wish', 'due', 'found'] -/
def d24 : Def := ⟨1, 7, [.asg 1 (.lst [.call 6 [], .call 7 [], .call 5 [.cst (.int 3)], .call 5 [.cst (.int 1)], .call 8 [.cst (.int 3)], .call 5 [.cst (.int 2)]]),
    .asg 2 (.call 10 [.var 0, .cst (.int 0)]),
    .asg 3 (.lst [.ix (.var 1) (.call 11 [.var 2, .cst (.int 6)])]),
    .for_ (.name 4) .rng1 [.cst (.int 4)] [.expr (.mt .append (.var 3) [.call 13 [.call 10 [.var 0, .bin .add (.cst (.int 1)) (.var 4)], .ix (.lst [.cst (.int 3), .cst (.int 4)]) (.bi .intOf [.cmp .eq (.var 4) (.cst (.int 0))])]])],
    .ifs (.and (.cmp .eq (.ix (.ix (.var 3) (.cst (.int 1))) (.cst (.int 0))) (.cst (.int 4))) (.cmp .eq (.ix (.ix (.var 3) (.cst (.int 1))) (.cst (.int 1))) (.cst (.int 3)))) [.asgIx (.var 3) (.cst (.int 1)) (.tup [.cst (.int 4), .cst (.int 3), .slS (.ix (.ix (.var 3) (.cst (.int 1))) (.cst (.int 2))) (.call 11 [.var 2, .cst (.int 3)]) (.omit) (3)])] [],
    .for_ (.name 5) .val [.var 3] [.asg 6 (.call 23 [.var 5]),
    .asg 7 (.call 22 [.var 5]),
    .ifs (.cmp .ne (.bi .repr [.var 7]) (.bi .repr [.var 6])) [.ret (.cst (.bl false))] [],
    .expr (.mt .append (.var 7) [.tup []]),
    .ifs (.cmp .ne (.bi .repr [.call 22 [.var 5]]) (.bi .repr [.var 6])) [.ret (.cst (.bl false))] []],
    .ret (.cst (.bl true))]⟩
def Pr : Nat → Option Def
  | 4 => some d4
  | 5 => some d5
  | 6 => some d6
  | 7 => some d7
  | 8 => some d8
  | 9 => some d9
  | 10 => some d10
  | 11 => some d11
  | 12 => some d12
  | 13 => some d13
  | 21 => some d21
  | 22 => some d22
  | 23 => some d23
  | 24 => some d24
  | _ => none
end Mp
namespace Mp
open PySem L2

/-! ### the plain side: what a small form asks -/
theorem callN_s {Pr : Nat → Option Def} {n f : Nat} {d : Def} {ds : List D} {h : MH} {Q : QV} {E : QX} (hd : Pr f = some d) (hl : ds.length = d.np)
    (q : wSs (callN Pr n) d.body (ds.map some ++ List.replicate d.ns none) h (fun _ h2 => Q .non h2) Q fun x _ h2 => E x h2) : callN Pr (n + 1) f ds h Q E := by
  rw [callN, hd]
  exact ⟨hl, q⟩
section
variable {α : Type} {Q : α → Prop} {q : QV} {h : MH} {w : QV → QX → Prop} {E : QX} {i j : Int} {a b : D} {xs ys : List D} {n : Nat}
@[simp] theorem oq_some {x : α} : OQ (some x) Q = Q x := rfl
@[simp] theorem oq_none : OQ (none : Option α) Q = False := rfl
@[simp] theorem pq_some {p : D × MH} : PQ (some p) q = q p.1 p.2 := rfl
@[simp] theorem ifO_t {K : Option Int → MH → Prop} : ifO true w K E h = K none h := rfl
@[simp] theorem ifO_f {K : Option Int → MH → Prop} : ifO false w K E h = w (fun y h2 => OQ (asInt y) fun i => K (some i) h2) E := rfl
@[simp] theorem ifC_t {K : Bool → MH → Prop} : ifC true w K h = K true h := rfl
@[simp] theorem ifC_f {K : Bool → MH → Prop} : ifC false w K h = w (fun y h2 => OQ (asBl y) fun b => K b h2) (fun _ _ => False) := rfl
@[simp] theorem om_omit : isOmit .omit = true := rfl
@[simp] theorem om_var {i : Nat} : isOmit (.var i) = false := rfl
@[simp] theorem om_cst : isOmit (.cst a) = false := rfl
@[simp] theorem om_neg {e : ME} : isOmit (.neg e) = false := rfl
@[simp] theorem om_not {e : ME} : isOmit (.not e) = false := rfl
@[simp] theorem om_bin {o : B2} {e f : ME} : isOmit (.bin o e f) = false := rfl
@[simp] theorem om_cmp {o : C2} {e f : ME} : isOmit (.cmp o e f) = false := rfl
@[simp] theorem om_and {e f : ME} : isOmit (.and e f) = false := rfl
@[simp] theorem om_or {e f : ME} : isOmit (.or e f) = false := rfl
@[simp] theorem om_call {f : Nat} {es : List ME} : isOmit (.call f es) = false := rfl
@[simp] theorem om_bi {f : BI} {es : List ME} : isOmit (.bi f es) = false := rfl
@[simp] theorem asInt_int : asInt (.int i) = some i := rfl
@[simp] theorem asBl_bl {b : Bool} : asBl (.bl b) = some b := rfl
@[simp] theorem p_add : PQ (binop .add (.int i) (.int j) h) q = q (.int (i + j)) h := rfl
@[simp] theorem p_sub : PQ (binop .sub (.int i) (.int j) h) q = q (.int (i - j)) h := rfl
theorem pq_ite {c : Prop} [Decidable c] {p : D × MH} : PQ (if c then some p else none) q = (c ∧ q p.1 p.2) := by
  by_cases hc : c <;> simp [hc, PQ]
@[simp] theorem p_mul : PQ (binop .mul (.int i) (.int j) h) q = (((-B64 < i ∧ i < B64) ∨ (-B64 < j ∧ j < B64)) ∧ q (.int (i * j)) h) := pq_ite
@[simp] theorem p_fdiv : PQ (binop .fdiv (.int i) (.int j) h) q = ((0 < j ∧ j < B30) ∧ q (.int (i / j)) h) := pq_ite
@[simp] theorem p_mod : PQ (binop .mod (.int i) (.int j) h) q = (0 < j ∧ q (.int (i % j)) h) := pq_ite
@[simp] theorem p_pow : PQ (binop .pow (.int i) (.int j) h) q = ((0 ≤ j ∧ j ≤ B20 ∧ i.natAbs < N64) ∧ q (.int (i ^ j.toNat)) h) := pq_ite
@[simp] theorem p_addT : PQ (binop .add (.tup xs) (.tup ys) h) q = (xs.length + ys.length ≤ sizeLine ∧ q (.tup (xs ++ ys)) h) := pq_ite
@[simp] theorem c_lt : cmpop .lt (.int i) (.int j) h = some (decide (i < j)) := rfl
@[simp] theorem c_le : cmpop .le (.int i) (.int j) h = some (decide (i ≤ j)) := rfl
@[simp] theorem c_gt : cmpop .gt (.int i) (.int j) h = some (decide (j < i)) := rfl
@[simp] theorem c_ge : cmpop .ge (.int i) (.int j) h = some (decide (j ≤ i)) := rfl
@[simp] theorem b_lenT : biop .len [.tup xs] h = some (.int xs.length, h) := rfl
@[simp] theorem b_tupT : biop .tupleOf [.tup xs] h = some (.tup xs, h) := rfl
@[simp] theorem b_intB {b : Bool} : biop .intOf [.bl b] h = some (.int (if b then 1 else 0), h) := rfl
@[simp] theorem b_max2 : biop .max2 [.int i, .int j] h = some (.int (if j > i then j else i), h) := rfl
@[simp] theorem b_min2 : biop .min2 [.int i, .int j] h = some (.int (if j < i then j else i), h) := rfl
@[simp] theorem ix_tup : ixop (.tup xs) (.int i) h = atI xs i := rfl
@[simp] theorem newL_q : PQ (newL h xs) q = (xs.length ≤ sizeLine ∧ q (.ref h.length) (h ++ [.lst xs])) := pq_ite
@[simp] theorem b_dict0 : biop .dict0 [] h = some (.ref h.length, h ++ [.dic []]) := rfl
theorem b_lenL (e : h[n]? = some (.lst xs)) : biop .len [.ref n] h = some (.int xs.length, h) := by
  show (match h[n]? with | some (.lst xs) => some (D.int xs.length, h) | some (.rol xs) => some (.int xs.length, h) | _ => none) = _
  rw [e]
theorem b_lenR (e : h[n]? = some (.rol xs)) : biop .len [.ref n] h = some (.int xs.length, h) := by
  show (match h[n]? with | some (.lst xs) => some (D.int xs.length, h) | some (.rol xs) => some (.int xs.length, h) | _ => none) = _
  rw [e]
theorem lst_at (e : h[n]? = some (.lst xs)) : lstAt h n = some xs := by unfold lstAt; rw [e]; rfl
theorem rol_at (e : h[n]? = some (.rol xs)) : lstAt h n = some xs := by unfold lstAt; rw [e]; rfl
theorem b_tupL (e : h[n]? = some (.lst xs)) : biop .tupleOf [.ref n] h = some (.tup xs, h) := by
  show (lstAt h n).map (fun xs => (D.tup xs, h)) = _
  rw [lst_at e]; rfl
theorem ix_ref (e : lstAt h n = some xs) : ixop (.ref n) (.int i) h = atI xs i := by
  show (lstAt h n).bind (fun xs => atI xs i) = _
  rw [e]; rfl
theorem it_ref (e : lstAt h n = some xs) : itemsOf .val [.ref n] h = some (xs, [(n, xs)]) := by
  show (lstAt h n).map (fun xs => (xs, [(n, xs)])) = _
  rw [e]; rfl
@[simp] theorem it_tup : itemsOf .val [.tup xs] h = some (xs, []) := rfl
theorem it_rng1 (h1 : 0 ≤ j) (h2 : j < B62) : itemsOf .rng1 [.int j] h = some ((List.range j.toNat).map fun (i : Nat) => D.int i, []) := if_pos ⟨by have := B62_eq; omega, h2⟩
@[simp] theorem stand_nil : Stand [] h := fun _ m => by cases m
theorem stand_one (e : lstAt h n = some xs) : Stand [(n, xs)] h := fun p m => by
  rw [List.mem_singleton] at m
  subst m
  exact e
theorem m_append (e : h[n]? = some (.lst xs)) (hz : xs.length < sizeLine) : mtop .append (.ref n) [a] h = some (.non, h.set n (.lst (xs ++ [a]))) := by
  show (match h[n]? with | some (.lst xs) => if xs.length < sizeLine then some (D.non, h.set n (.lst (xs ++ [a]))) else none | _ => none) = _
  rw [e]
  exact if_pos hz
theorem m_extend {m : Nat} (e : h[n]? = some (.lst xs)) (e2 : h[m]? = some (.lst ys)) (hz : xs.length + ys.length ≤ sizeLine) : mtop .extend (.ref n) [.ref m] h = some (.non, h.set n (.lst (xs ++ ys))) := by
  show (match h[n]?, h[m]? with | some (.lst xs), some (.lst ys) => if xs.length + ys.length ≤ sizeLine then some (D.non, h.set n (.lst (xs ++ ys))) else none | _, _ => none) = _
  rw [e, e2]
  exact if_pos hz
theorem m_pop0 {y : D} (e : h[n]? = some (.lst (xs ++ [y]))) : mtop .pop0 (.ref n) [] h = some (y, h.set n (.lst xs)) := by
  show (match h[n]? with | some (.lst xs) => (match xs[xs.length - 1]? with | some y => some (y, h.set n (.lst xs.dropLast)) | none => none) | _ => none) = _
  rw [e]
  simp
theorem recv_ref {m : MT} (e : h[n]? = some (.lst xs)) : recv m (.ref n) h = true := by
  show (lstAt h n).isSome = true
  rw [lst_at e]; rfl
theorem set_ix {k : Int} {d : D} {p : Nat} (e : h[n]? = some (.lst xs)) (hk : ixN xs.length k = some p) : setIx (.ref n) (.int k) d h = some (h.set n (.lst (xs.set p d))) := by
  show (match h[n]? with | some (.lst xs) => (ixN xs.length k).map fun j => h.set n (.lst (xs.set j d)) | _ => none) = _
  rw [e]
  simp only [hk, Option.map_some]
end

/-! ### heaps -/
section
variable {h h' h2 : MH} {n m f : Nat} {o o2 : MO}
theorem get_lt (e : h[n]? = some o) : n < h.length := (List.getElem?_eq_some_iff.mp e).1
theorem get_app (e : h[n]? = some o) : (h ++ [o2])[n]? = some o := by rw [List.getElem?_append_left (get_lt e)]; exact e
theorem get_new : (h ++ [o])[h.length]? = some o := by simp
theorem get_set (e : h[n]? = some o) : (h.set n o2)[n]? = some o2 := List.getElem?_set_self (get_lt e)
theorem get_set_ne (e : h[m]? = some o) (ne : m ≠ n) : (h.set n o2)[m]? = some o := by rw [List.getElem?_set_ne (Ne.symm ne)]; exact e
/-- all stands, but what is at f -/
structure ExF (f : Option Nat) (h h' : MH) : Prop where
  at_ : ∀ n o, some n ≠ f → h[n]? = some o → h'[n]? = some o
  len : h.length ≤ h'.length
abbrev Ex (h h' : MH) : Prop := ExF none h h'
theorem Ex.mk' (a : ∀ (n : Nat) (o : MO), h[n]? = some o → h'[n]? = some o) (l : h.length ≤ h'.length) : Ex h h' := ⟨fun n o _ => a n o, l⟩
theorem Ex.get (e : Ex h h') (q : h[n]? = some o) : h'[n]? = some o := e.at_ n o (by simp) q
theorem ExF.refl {f : Option Nat} : ExF f h h := ⟨fun _ _ _ e => e, Nat.le_refl _⟩
theorem ExF.trans {f : Option Nat} (a : ExF f h h') (b : ExF f h' h2) : ExF f h h2 := ⟨fun n o ne e => b.at_ n o ne (a.at_ n o ne e), Nat.le_trans a.len b.len⟩
theorem ExF.of {f : Option Nat} (a : Ex h h') : ExF f h h' := ⟨fun n o _ e => a.get e, a.len⟩
theorem ExF.get (e : ExF (some f) h h') (q : h[n]? = some o) (ne : n ≠ f) : h'[n]? = some o := e.at_ n o (by simpa using ne) q
theorem Ex.app : Ex h (h ++ [o]) := .mk' (fun n o e => get_app e) (by simp)
/-- a fresh list changes -/
theorem Ex.fresh (e : Ex h h') (hn : h.length ≤ n) : Ex h (h'.set n o) := .mk' (fun m u q => get_set_ne (e.get q) (Nat.ne_of_lt (Nat.lt_of_lt_of_le (get_lt q) hn))) (by simpa using e.len)
theorem ExF.fresh {f : Option Nat} (e : ExF f h h') (hn : h.length ≤ n) : ExF f h (h'.set n o) := ⟨fun m u ne q => get_set_ne (e.at_ m u ne q) (Nat.ne_of_lt (Nat.lt_of_lt_of_le (get_lt q) hn)), by simpa using e.len⟩
theorem ExF.set_f (e : ExF (some f) h h') : ExF (some f) h (h'.set f o) := ⟨fun m u ne q => get_set_ne (e.at_ m u ne q) (by simpa using ne), by simpa using e.len⟩
theorem ExF.more {f : Option Nat} (e : ExF f h h') : ExF f h (h' ++ [o]) := ⟨fun n o ne q => get_app (e.at_ n o ne q), by have := e.len; simp; omega⟩
/-- the feed -/
def Feed (h : MH) (f b : Nat) : Prop := ∃ c k r : Int, h[f]? = some (.lst [.int c, .int k, .int r]) ∧ 0 ≤ k ∧ k + b ≤ B62
theorem Feed.mono {b c : Nat} (F : Feed h f b) (l : c ≤ b) : Feed h f c := let ⟨a, k, r, e, h1, h2⟩ := F; ⟨a, k, r, e, h1, by omega⟩
theorem Feed.ex {b : Nat} (F : Feed h f b) (e : Ex h h') : Feed h' f b := let ⟨a, k, r, e1, h1, h2⟩ := F; ⟨a, k, r, e.get e1, h1, h2⟩
theorem Feed.lt {b : Nat} (F : Feed h f b) : f < h.length := let ⟨_, _, _, e, _⟩ := F; get_lt e
theorem Feed.set {b : Nat} (F : Feed h f b) (ne : n ≠ f) : Feed (h.set n o) f b := let ⟨a, k, r, e1, h1, h2⟩ := F; ⟨a, k, r, get_set_ne e1 (Ne.symm ne), h1, h2⟩
theorem Feed.app {b : Nat} (F : Feed h f b) : Feed (h ++ [o]) f b := F.ex .app
end

/-! ### loops -/
/-- a comprehension: I at (what is left, what is found, the heap) -/
theorem turns_of {S : List (Nat × List D)} {one : D → MH → (Option D → MH → Prop) → Prop} {Q : List D → MH → Prop} (I : List D → List D → MH → Prop) (st : ∀ l acc h, I l acc h → Stand S h) (fin : ∀ acc h, I [] acc h → Q acc h)
    (step : ∀ x l acc h K, I (x :: l) acc h → (∀ r h', (match r with | some y => acc.length < sizeLine ∧ I l (acc ++ [y]) h' | none => I l acc h') → K r h') → one x h K) : ∀ xs acc h, I xs acc h → turns S one xs acc h Q
  | [], acc, h, i => ⟨st _ _ _ i, fin _ _ i⟩
  | x :: xs, acc, h, i => ⟨st _ _ _ i, step x xs acc h _ i fun r h' z => by
      cases r with
      | none => exact turns_of I st fin step xs acc h' z
      | some y => exact ⟨z.1, turns_of I st fin step xs _ h' z.2⟩⟩
/-- a for -/
theorem loop_of {S : List (Nat × List D)} {one : D → En → MH → (En → MH → Prop) → Prop} {nx : En → MH → Prop} (I : List D → En → MH → Prop) (st : ∀ l en h, I l en h → Stand S h) (fin : ∀ en h, I [] en h → nx en h)
    (step : ∀ x l en h K, I (x :: l) en h → (∀ en' h', I l en' h' → K en' h') → one x en h K) : ∀ xs en h, I xs en h → loopF S one xs en h nx
  | [], en, h, i => ⟨st _ _ _ i, fin _ _ i⟩
  | x :: xs, en, h, i => ⟨st _ _ _ i, step x xs en h _ i fun en' h' z => loop_of I st fin step xs en' h' z⟩

/-- no heap is touched -/
theorem turns_pure {S : List (Nat × List D)} {one : D → MH → (Option D → MH → Prop) → Prop} {Q : List D → MH → Prop} {h : MH} (st : Stand S h) (g : D → Option D) : ∀ (xs acc : List D), (∀ x ∈ xs, ∀ K : Option D → MH → Prop, K (g x) h → one x h K) → acc.length + xs.length ≤ sizeLine → Q (acc ++ xs.filterMap g) h → turns S one xs acc h Q
  | [], acc, _, _, q => ⟨st, by simpa using q⟩
  | x :: xs, acc, step, hz, q => ⟨st, step x List.mem_cons_self _ (by
      rw [List.filterMap_cons] at q
      have hz' : acc.length + (xs.length + 1) ≤ sizeLine := hz
      cases e : g x with
      | none =>
        rw [e] at q
        exact turns_pure st g xs acc (fun y hy => step y (List.mem_cons_of_mem _ hy)) (by omega) q
      | some y =>
        rw [e] at q
        refine ⟨by omega, turns_pure st g xs (acc ++ [y]) (fun y hy => step y (List.mem_cons_of_mem _ hy)) (by rw [List.length_append, List.length_singleton]; omega) ?_⟩
        rw [List.append_assoc]
        exact q)⟩
@[simp] theorem bind_name {i : Nat} {d : D} {en : En} : bindT (.name i) d en = some (en.set i (some d)) := rfl
@[simp] theorem slots_name {i : Nat} : (TGt.name i).slots = [i] := rfl
@[simp] theorem slots_tup {is : List Nat} : (TGt.tup is).slots = is := rfl
@[simp] theorem wipe_one {i : Nat} {en : En} : wipeD en [i] = en.set i none := rfl

/-! ### rows of whole numbers -/
def rowD (r : List Int) : D := .tup (r.map .int)
def rowP (r : List Int) : PyData := .tuple (r.map .int)
def keyR (r : List Int) : List Key := r.map .inl
theorem mapM_map {α β γ : Type} {f : β → Option γ} {g : α → β} {k : α → γ} (e : ∀ a, f (g a) = some (k a)) : ∀ l : List α, (l.map g).mapM f = some (l.map k)
  | [] => rfl
  | a :: l => by
    rw [List.map_cons, List.mapM_cons, e, mapM_map e l]
    rfl
theorem pyD_int {n : Nat} {h : MH} (i : Int) : pyD (n + 1) h (.int i) = some (.int i) := rfl
theorem pyD_row {n : Nat} {h : MH} (r : List Int) : pyD (n + 2) h (rowD r) = some (rowP r) := by
  show ((r.map D.int).mapM (pyD (n + 1) h)).map PyData.tuple = _
  rw [mapM_map (k := PyData.int) fun i => pyD_int i]
  rfl
theorem pyD_rows {n : Nat} {h : MH} (rs : List (List Int)) : (rs.map rowD).mapM (pyD (n + 2) h) = some (rs.map rowP) := mapM_map (fun r => pyD_row r) rs
theorem pyD_ref {n m : Nat} {h : MH} {xs : List D} (e : lstAt h m = some xs) : pyD (n + 1) h (.ref m) = (xs.mapM (pyD n h)).map .list := by
  show (match lstAt h m with | some xs => (xs.mapM (pyD n h)).map PyData.list | none => none) = _
  rw [e]
theorem lay_ints : ∀ r : List Int, PyData.canLayAll0 (r.map .int) = true ∧ PyData.depthAll (r.map .int) = 0
  | [] => ⟨rfl, rfl⟩
  | x :: r => by
    obtain ⟨h1, h2⟩ := lay_ints r
    simp [PyData.canLayAll0, PyData.depthAll, PyData.canLay0, PyData.depth, h1, h2]
theorem lay_row (r : List Int) : (rowP r).canLay0 = true ∧ (rowP r).depth = 1 := by
  obtain ⟨h1, h2⟩ := lay_ints r
  simp [rowP, PyData.canLay0, PyData.depth, h1, h2]
theorem shaped_row (r : List Int) : SeqAt.shaped (rowP r) = true := by
  obtain ⟨h1, h2⟩ := lay_row r
  unfold SeqAt.shaped
  rw [h1, h2]
  rfl
theorem lay_rows : ∀ rs : List (List Int), PyData.canLayAll0 (rs.map rowP) = true ∧ PyData.depthAll (rs.map rowP) ≤ 1
  | [] => ⟨rfl, Nat.zero_le _⟩
  | r :: rs => by
    obtain ⟨h1, h2⟩ := lay_rows rs
    obtain ⟨h3, h4⟩ := lay_row r
    simp only [List.map_cons, PyData.canLayAll0, PyData.depthAll, h1, h3, h4]
    exact ⟨rfl, by omega⟩
theorem shaped_rowsL (rs : List (List Int)) : SeqAt.shaped (.list (rs.map rowP)) = true ∧ SeqAt.shaped (.tuple (rs.map rowP)) = true := by
  obtain ⟨h1, h2⟩ := lay_rows rs
  unfold SeqAt.shaped
  simp only [PyData.canLay0, PyData.depth, h1]
  exact ⟨by simp; omega, by simp; omega⟩
theorem eqv_ints : ∀ a b : List Int, PyData.eqvAll (a.map .int) (b.map .int) = decide (a = b)
  | [], [] => by simp [PyData.eqvAll]
  | [], _ :: _ => by simp [PyData.eqvAll]
  | _ :: _, [] => by simp [PyData.eqvAll]
  | x :: a, y :: b => by
    simp only [List.map_cons, PyData.eqvAll, PyData.eqv, eqv_ints a b]
    by_cases h : x = y <;> by_cases h2 : a = b <;> simp [h, h2]
theorem eqv_row (a b : List Int) : PyData.eqv (rowP a) (rowP b) = decide (a = b) := by
  simp only [rowP, PyData.eqv, eqv_ints]
@[simp] theorem c_eqI {i j : Int} {h : MH} : cmpop .eq (.int i) (.int j) h = some (decide (i = j)) := by
  show eqD h (.int i) (.int j) = _
  simp only [eqD, pyD, SeqAt.shaped, PyData.canLay0, PyData.depth, PyData.eqv]
  by_cases e : i = j <;> simp [e]
@[simp] theorem c_neI {i j : Int} {h : MH} : cmpop .ne (.int i) (.int j) h = some (!decide (i = j)) := by
  show (eqD h (.int i) (.int j)).map (!·) = _
  rw [show eqD h (.int i) (.int j) = some (decide (i = j)) from c_eqI (h := h)]
  rfl
theorem c_eqR {a b : List Int} {h : MH} : cmpop .eq (rowD a) (rowD b) h = some (decide (a = b)) := by
  show eqD h (rowD a) (rowD b) = _
  simp only [eqD, pyD_row, shaped_row, eqv_row, Bool.and_self, if_true]
theorem eq_str {x y : Str} {h : MH} (hx : PyData.strOk x = true) (hy : PyData.strOk y = true) : eqD h (.str x) (.str y) = some (x == y) := by
  simp only [eqD, pyD, SeqAt.shaped, PyData.canLay0, PyData.depth, hx, hy, PyData.eqv]
  simp
theorem any_row {r : List Int} : ∀ {rs : List (List Int)}, ((rs.map rowP).any fun z => PyData.eqv z (rowP r)) = decide (r ∈ rs)
  | [] => by simp
  | a :: rs => by
    rw [List.map_cons, List.any_cons, any_row (rs := rs), eqv_row]
    by_cases h : a = r
    · simp [h]
    · have : ¬ r = a := fun z => h z.symm
      simp [h, this]
theorem in_lst {r : List Int} {rs : List (List Int)} {h : MH} {m : Nat} (e : h[m]? = some (.lst (rs.map rowD))) : inX h (rowD r) (.ref m) = some (decide (r ∈ rs)) := by
  have e1 : inX h (rowD r) (.ref m) = inD h (rowD r) (.ref m) := by
    show (match h[m]? with | some (.dic kvs) => (keyD (rowD r)).map fun k => (getK kvs k).isSome | _ => inD h (rowD r) (.ref m)) = _
    rw [e]
  rw [e1]
  have e2 : pyD 65 h (.ref m) = some (.list (rs.map rowP)) := by
    rw [pyD_ref (lst_at e), pyD_rows]
    rfl
  unfold inD
  rw [pyD_row]
  simp only [e2, shaped_row, (shaped_rowsL rs).1, Bool.and_self, if_true, any_row]
theorem keyD_row (r : List Int) : keyD (rowD r) = some (keyR r) := by
  show (r.map D.int).mapM keyOf1 = _
  exact mapM_map (f := keyOf1) (g := D.int) (k := Sum.inl) (fun i => rfl) r
theorem keyR_inj {a b : List Int} (e : keyR a = keyR b) : a = b := by
  have : ∀ a b : List Int, keyR a = keyR b → a = b := by
    intro a
    induction a with
    | nil => intro b e; cases b with | nil => rfl | cons _ _ => cases e
    | cons x a ih =>
      intro b e
      cases b with
      | nil => cases e
      | cons y b =>
        have e1 : (Sum.inl x : Key) :: keyR a = Sum.inl y :: keyR b := e
        injection e1 with e1 e2
        injection e1 with e1
        rw [e1, ih b e2]
  exact this a b e
def entR (r : List Int) : List Key × D := (keyR r, .bl true)
theorem getK_rows {r : List Int} : ∀ {ms : List (List Int)}, (getK (ms.map entR) (keyR r)).isSome = decide (r ∈ ms)
  | [] => by simp [getK]
  | a :: ms => by
    show (if keyR a = keyR r then some (D.bl true) else getK (ms.map entR) (keyR r)).isSome = _
    by_cases h : a = r
    · subst h; simp
    · have h1 : ¬ keyR a = keyR r := fun z => h (keyR_inj z)
      have h2 : ¬ r = a := fun z => h z.symm
      rw [if_neg h1, getK_rows]
      simp [h2]
theorem setK_rows {r : List Int} : ∀ {ms : List (List Int)}, r ∉ ms → setK (ms.map entR) (keyR r) (.bl true) = (ms ++ [r]).map entR
  | [], _ => rfl
  | a :: ms, hn => by
    have h : ¬ keyR a = keyR r := fun z => hn (by rw [keyR_inj z]; exact List.mem_cons_self)
    show (if keyR a = keyR r then _ else entR a :: setK (ms.map entR) (keyR r) (.bl true)) = _
    rw [if_neg h, setK_rows fun z => hn (List.mem_cons_of_mem _ z)]
    rfl
theorem in_dic {r : List Int} {ms : List (List Int)} {h : MH} {m : Nat} (e : h[m]? = some (.dic (ms.map entR))) : inX h (rowD r) (.ref m) = some (decide (r ∈ ms)) := by
  show (match h[m]? with | some (.dic kvs) => (keyD (rowD r)).map fun k => (getK kvs k).isSome | _ => inD h (rowD r) (.ref m)) = _
  rw [e]
  simp only [keyD_row, Option.map_some, getK_rows]
theorem set_dic {r : List Int} {ms : List (List Int)} {h : MH} {m : Nat} (e : h[m]? = some (.dic (ms.map entR))) (hz : ms.length < sizeLine) (hn : r ∉ ms) : setIx (.ref m) (rowD r) (.bl true) h = some (h.set m (.dic ((ms ++ [r]).map entR))) := by
  show (match h[m]? with | some (.dic kvs) => (if kvs.length < sizeLine then (keyD (rowD r)).map fun k => h.set m (.dic (setK kvs k (.bl true))) else none) | _ => none) = _
  rw [e]
  simp only [List.length_map, hz, if_true, keyD_row, Option.map_some, setK_rows hn]
theorem cut_last {α : Type} (xs : List α) : (xs.drop (HT.sIx xs.length 0 none)).take (HT.sIx xs.length xs.length (some (-1)) - HT.sIx xs.length 0 none) = xs.dropLast := by
  have e1 : HT.sIx xs.length 0 none = 0 := rfl
  have e2 : HT.sIx xs.length xs.length (some (-1)) = xs.length - 1 := by
    show (if (-1 : Int) < 0 then ((-1 : Int) + (xs.length : Int)).toNat else min (-1 : Int).toNat xs.length) = _
    rw [if_pos (by decide)]
    omega
  rw [e1, e2, List.drop_zero, List.dropLast_eq_take, Nat.sub_zero]
theorem cut_tail {α : Type} (xs : List α) : (xs.drop (HT.sIx xs.length 0 (some 1))).take (HT.sIx xs.length xs.length none - HT.sIx xs.length 0 (some 1)) = xs.tail := by
  rw [show HT.sIx xs.length xs.length none = xs.length from rfl]
  have : HT.sIx xs.length 0 (some 1) = min 1 xs.length := HT.sIx_nat xs.length 0 1
  rw [this]
  cases xs with
  | nil => rfl
  | cons x r =>
    have : min 1 (x :: r).length = 1 := by simp
    rw [this]
    show List.take ((x :: r).length - 1) r = r
    simp
theorem sl_last {r : List Int} {h : MH} {q : QV} : PQ (slop (rowD r) none (some (-1)) h) q = q (rowD r.dropLast) h := by
  show q (.tup (cutD (r.map .int) none (some (-1)))) h = _
  unfold cutD
  rw [cut_last, ← List.map_dropLast]
  rfl
theorem sl_tail {r : List Int} {h : MH} {q : QV} : PQ (slop (rowD r) (some 1) none h) q = q (rowD r.tail) h := by
  show q (.tup (cutD (r.map .int) (some 1) none)) h = _
  unfold cutD
  rw [cut_tail, ← List.map_tail]
  rfl
end Mp
namespace Mp
open PySem L2
theorem mix_ok {n : Nat} {c k : Int} {h : MH} {Q : QV} {E : QX} (hk : 0 ≤ k ∧ k ≤ B62) (hq : ∀ v : Int, 0 ≤ v → Q (.int v) h) : callN Pr (n+1) 9 [.int c, .int k] h Q E := by
  refine callN_s (d := d9) rfl rfl ?_
  have b62 := B62_eq
  simp [d9, B20_eq, N64_eq, B64_eq]
  exact ⟨by omega, hq _ (Int.emod_nonneg _ (by decide))⟩
theorem take_ok {n f b : Nat} {m : Int} {h : MH} {Q : QV} {E : QX} (F : Feed h f (b + 1)) (hm : 0 < m) (hm2 : m < B30) (hq : ∀ v h', 0 ≤ v → v < m → Feed h' f b → ExF (some f) h h' → Q (.int v) h') : callN Pr (n+2) 11 [.ref f, .int m] h Q E := by
  obtain ⟨c, k, r, e, h1, h2⟩ := F
  refine callN_s (d := d11) rfl rfl ?_
  have a1 : ixop (.ref f) (.int 1) h = some (.int k) := by rw [ix_ref (lst_at e)]; rfl
  have s1 : setIx (.ref f) (.int 1) (.int (k + 1)) h = some (h.set f (.lst [.int c, .int (k + 1), .int r])) := set_ix (p := 1) e rfl
  have e1 : (h.set f (.lst [.int c, .int (k + 1), .int r]))[f]? = some (.lst [.int c, .int (k + 1), .int r]) := get_set e
  have x1 : ExF (some f) h (h.set f (.lst [.int c, .int (k + 1), .int r])) := ExF.refl.set_f
  generalize h.set f (.lst [.int c, .int (k + 1), .int r]) = g at s1 e1 x1
  have b0 : ixop (.ref f) (.int 0) g = some (.int c) := by rw [ix_ref (lst_at e1)]; rfl
  have b1 : ixop (.ref f) (.int 1) g = some (.int (k + 1)) := by rw [ix_ref (lst_at e1)]; rfl
  have b2 : ixop (.ref f) (.int 2) g = some (.int r) := by rw [ix_ref (lst_at e1)]; rfl
  have s2 : setIx (.ref f) (.int 2) (.int (r / m)) g = some (g.set f (.lst [.int c, .int (k + 1), .int (r / m)])) := set_ix (p := 2) e1 rfl
  have b30 := B30_eq
  simp [d11, a1, s1, b0, b1, b2, s2]
  split
  · exact ⟨hm, ⟨hm, hm2⟩, hq _ _ (Int.emod_nonneg _ (by omega)) (Int.emod_lt_of_pos _ hm) ⟨c, k + 1, r / m, get_set e1, by omega, by omega⟩ x1.set_f⟩
  · refine mix_ok ⟨by omega, by omega⟩ fun v hv => ?_
    simp [B30_eq]
    exact ⟨hm, hq _ _ (Int.emod_nonneg _ (by omega)) (Int.emod_lt_of_pos _ hm) ⟨c, k + 1, r, e1, by omega, by omega⟩ x1⟩
/-! ### all rows -/
def stepR (hu : Nat) (r : List Int) : List (List Int) := (List.range hu).map fun (c : Nat) => r ++ [(c : Int)]
def allR (hu : Nat) : Nat → List (List Int)
  | 0 => [[]]
  | w + 1 => (allR hu w).flatMap (stepR hu)
theorem allR_len {hu : Nat} : ∀ {w : Nat} {r : List Int}, r ∈ allR hu w → r.length = w ∧ ∀ x ∈ r, 0 ≤ x ∧ x < hu
  | 0, r, hr => by
    simp [allR] at hr
    subst hr
    simp
  | w + 1, r, hr => by
    simp [allR, stepR] at hr
    obtain ⟨a, ha, c, hc, rfl⟩ := hr
    obtain ⟨h1, h2⟩ := allR_len ha
    refine ⟨by simp [h1], fun x hx => ?_⟩
    rcases List.mem_append.mp hx with hx | hx
    · exact h2 x hx
    · simp at hx; subst hx; omega
theorem flat_len {α β : Type} {f : α → List β} {k : Nat} (hf : ∀ a, (f a).length = k) : ∀ l : List α, (l.flatMap f).length = l.length * k
  | [] => by simp
  | a :: l => by
    rw [List.flatMap_cons, List.length_append, hf, flat_len hf l, List.length_cons, Nat.add_mul, Nat.one_mul, Nat.add_comm]
theorem stepR_len (hu : Nat) (r : List Int) : (stepR hu r).length = hu := by simp [stepR]
theorem allR_many (hu : Nat) : ∀ w : Nat, (allR hu w).length = hu ^ w
  | 0 => rfl
  | w + 1 => by rw [allR, flat_len (stepR_len hu), allR_many hu w, Nat.pow_succ]
def gAdd (r : List Int) : D → Option D
  | .int c => some (rowD (r ++ [c]))
  | _ => none
theorem gAdd_all (hu : Nat) (r : List Int) : ((List.range hu).map fun (i : Nat) => D.int i).filterMap (gAdd r) = (stepR hu r).map rowD := by
  rw [List.filterMap_map, stepR, List.map_map]
  exact List.filterMap_eq_map (f := rowD ∘ fun (c : Nat) => r ++ [(c : Int)]) ▸ rfl
theorem pow_le4 {hu i : Nat} (hh : hu ≤ 4) (hi : i ≤ 3) : hu ^ i ≤ 64 := Nat.le_trans (Nat.pow_le_pow_left hh i) (Nat.pow_le_pow_right (by decide : 0 < 4) hi)
theorem all_ok {n f hu wi : Nat} {h : MH} {Q : QV} {E : QX} (hf : Pr f = some d4) (hh : hu ≤ 4) (hw : wi ≤ 3) (hq : ∀ m h', Ex h h' → h.length ≤ m → h'[m]? = some (.lst ((allR hu wi).map rowD)) → Q (.ref m) h') : callN Pr (n+1) f [.int hu, .int wi] h Q E := by
  refine callN_s (d := d4) hf rfl ?_
  have b62 := B62_eq
  have sz := PySem.sizeLine_eq
  simp [d4]
  rw [it_rng1 (by omega) (by omega)]
  simp
  refine ⟨by omega, ?_⟩
  refine loop_of (fun l en h' => ∃ i m pl lo ro, i + l.length = wi ∧ en = [some (.int hu), some (.int wi), some (.ref m), pl, lo, ro, none] ∧ h'[m]? = some (.lst ((allR hu i).map rowD)) ∧ Ex h h' ∧ h.length ≤ m) (fun _ _ _ _ => stand_nil) ?_ ?_ _ _ _ ⟨0, h.length, none, none, none, by simp, rfl, get_new, .app, Nat.le_refl _⟩
  · rintro en h' ⟨i, m, pl, lo, ro, hi, rfl, hm, hx, hl⟩
    simp at hi
    subst hi
    simp
    exact hq m h' hx hl hm
  · rintro x l en h' K ⟨i, m, pl, lo, ro, hi, rfl, hm, hx, hl⟩ hK
    simp
    rw [it_ref (lst_at (get_app hm))]
    simp
    have hi3 : i + 1 ≤ 3 := by simp at hi; omega
    refine loop_of (fun r en h2 => ∃ done rest ro2, allR hu i = done ++ rest ∧ r = rest.map rowD ∧ en = [some (.int hu), some (.int wi), some (.ref m), some x, some (.ref h'.length), ro2, none] ∧ h2[h'.length]? = some (.lst ((done.flatMap (stepR hu)).map rowD)) ∧ h2[m]? = some (.lst ((allR hu i).map rowD)) ∧ Ex h h2) (fun _ _ _ ⟨_, _, _, _, _, _, _, e, _⟩ => stand_one (lst_at e)) ?_ ?_ _ _ _ ⟨[], allR hu i, ro, rfl, rfl, rfl, get_new, get_app hm, hx.more⟩
    · rintro en h2 ⟨done, rest, ro2, e1, e2, rfl, e3, e4, e5⟩
      have : rest = [] := by simpa using e2.symm
      subst this
      simp at e1
      subst e1
      simp
      exact hK _ _ ⟨i + 1, h'.length, _, _, _, by simp at hi; omega, rfl, e3, e5, hx.len⟩
    · rintro y l2 en h2 K2 ⟨done, rest, ro2, e1, e2, rfl, e3, e4, e5⟩ hK2
      cases rest with
      | nil => cases e2
      | cons r rest =>
        obtain ⟨e2a, e2b⟩ := List.cons.inj e2
        subst e2a
        have hr := allR_len (show r ∈ allR hu i by rw [e1]; simp)
        have hlen := allR_many hu (i + 1)
        have hp := pow_le4 hh hi3
        have hdone : (done.flatMap (stepR hu)).length + (stepR hu r).length ≤ 64 := by
          rw [← hlen, allR, e1, List.flatMap_append, List.flatMap_cons, List.length_append, List.length_append] at hp
          omega
        simp
        refine ⟨recv_ref e3, ?_⟩
        rw [it_rng1 (by omega) (by omega)]
        simp
        refine turns_pure (by simp) (gAdd r) _ [] (fun z hz K3 hK3 => ?_) (by simp; omega) ?_
        · obtain ⟨c, _, rfl⟩ := List.mem_map.mp hz
          simp [rowD]
          refine ⟨by omega, by rw [hr.1]; omega, ?_⟩
          have : gAdd r (.int c) = some (.tup (r.map .int ++ [.int c])) := by simp [gAdd, rowD]
          rw [← this]
          exact hK3
        · rw [List.nil_append, gAdd_all]
          rw [List.length_map, stepR_len]
          refine ⟨by omega, ?_⟩
          have hne : h'.length ≠ h2.length := Nat.ne_of_lt (get_lt e3)
          rw [m_extend (get_app e3) get_new (by simp only [List.length_map]; omega)]
          simp
          refine hK2 _ _ ⟨done ++ [r], rest, some (rowD r), by rw [e1]; simp, e2b, rfl, ?_, get_set_ne (get_app e4) (Nat.ne_of_lt (get_lt hm)), e5.more.fresh hx.len⟩
          rw [get_set (get_app e3)]
          simp
end Mp
namespace Mp
open PySem L2
theorem atI_ints {ns : List Int} {i : Int} (h0 : 0 ≤ i) (h1 : i < ns.length) : ∃ v, atI (ns.map D.int) i = some (.int v) := by
  have hl : i.toNat < ns.length := by omega
  have e : (ns.map D.int)[i.toNat]? = some (.int ns[i.toNat]) := by rw [List.getElem?_map, List.getElem?_eq_getElem hl]; rfl
  have := atI_nat e
  rw [show ((i.toNat : Nat) : Int) = i by omega] at this
  exact ⟨_, this⟩
theorem feed_ok {n sc b : Nat} {k : Int} {ns : List Int} {h : MH} {Q : QV} {E : QX} (hs : h[sc]? = some (.rol (ns.map .int))) (hk : 0 ≤ k ∧ k < 1000) (hb : (b : Int) ≤ B62) (hq : ∀ h', Ex h h' → h'.length = h.length + 1 → Feed h' h.length b → Q (.ref h.length) h') : callN Pr (n+2) 10 [.ref sc, .int k] h Q E := by
  refine callN_s (d := d10) rfl rfl ?_
  have b62 := B62_eq
  have sz := PySem.sizeLine_eq
  have fin : ∀ c : Int, 3 ≤ sizeLine ∧ Q (.ref h.length) (h ++ [.lst [.int c, .int 0, .int ((c - 1000000000000000000) * (if 1000000000000000000 ≤ c then 1 else 0))]]) := fun c => ⟨by omega, hq _ .app (by simp) ⟨_, _, _, get_new, by omega, by omega⟩⟩
  have sm : (-B64 < 7919 ∧ 7919 < B64) := by rw [B64_eq]; decide
  have lt0 : ∀ c : Int, (-B64 < (if (1000000000000000000 : Int) ≤ c then (1 : Int) else 0) ∧ (if (1000000000000000000 : Int) ≤ c then (1 : Int) else 0) < B64) := fun c => by
    rw [B64_eq]
    split <;> decide
  simp [d10, b_lenR hs, B20_eq, N64_eq, sm]
  split
  · rename_i hlt
    obtain ⟨v, hv⟩ := atI_ints (ns := ns) hk.1 hlt
    rw [ix_ref (rol_at hs), hv]
    simp
    exact ⟨.inr (lt0 v), (fin v).1, (fin v).2⟩
  · split
    · rename_i hge hpos
      have hp : 0 < (ns.length : Int) := by omega
      refine ⟨by omega, ?_⟩
      obtain ⟨v, hv⟩ := atI_ints (ns := ns) (Int.emod_nonneg k (by omega)) (Int.emod_lt_of_pos k hp)
      rw [ix_ref (rol_at hs), hv]
      simp
      refine mix_ok ⟨hk.1, by omega⟩ fun c _ => ?_
      simp
      exact ⟨.inr (lt0 c), (fin c).1, (fin c).2⟩
    · exact ⟨.inr (lt0 _), fin _⟩
/-- a comprehension that lets rows by -/
theorem filt_of {S : List (Nat × List D)} {one : D → MH → (Option D → MH → Prop) → Prop} {Q : List D → MH → Prop} {h : MH} {R : List (List Int)} (st : Stand S h) (hz : R.length ≤ sizeLine) (step : ∀ r ∈ R, ∀ K : Option D → MH → Prop, K (some (rowD r)) h → K none h → one (rowD r) h K)
    (q : ∀ rows : List (List Int), (∀ r ∈ rows, r ∈ R) → rows.length ≤ R.length → Q (rows.map rowD) h) : turns S one (R.map rowD) [] h Q := by
  refine turns_of (fun l acc h' => h' = h ∧ ∃ rest rows : List (List Int), l = rest.map rowD ∧ acc = rows.map rowD ∧ (∀ r ∈ rest, r ∈ R) ∧ (∀ r ∈ rows, r ∈ R) ∧ rows.length + rest.length ≤ R.length) (fun l acc h' i => by rw [i.1]; exact st) ?_ ?_ _ _ _ ⟨rfl, R, [], rfl, rfl, fun _ z => z, (fun _ z => by cases z), by simp⟩
  · rintro acc h' ⟨rfl, rest, rows, e1, rfl, _, h2, h3⟩
    exact q rows h2 (by omega)
  · rintro x l acc h' K ⟨rfl, rest, rows, e1, rfl, h1, h2, h3⟩ hK
    cases rest with
    | nil => cases e1
    | cons r rest =>
      obtain ⟨rfl, rfl⟩ := List.cons.inj e1
      simp at h3
      have hr := h1 r List.mem_cons_self
      refine step r hr K (hK (some _) _ ⟨by simp; omega, rfl, rest, rows ++ [r], rfl, by simp, fun z hz => h1 z (List.mem_cons_of_mem _ hz), fun z hz => ?_, by simp; omega⟩) (hK none _ ⟨rfl, rest, rows, rfl, rfl, fun z hz => h1 z (List.mem_cons_of_mem _ hz), h2, by omega⟩)
      rcases List.mem_append.mp hz with hz | hz
      · exact h2 z hz
      · simp at hz; subst hz; exact hr
theorem row_ends {hu wi : Nat} {r : List Int} (hw : wi = 2 ∨ wi = 3) (hr : r ∈ allR hu wi) : ∃ a b c d : Int, atI (r.map D.int) 0 = some (.int a) ∧ atI (r.map D.int) 1 = some (.int b) ∧ atI (r.map D.int) (-1) = some (.int c) ∧ atI (r.map D.int) (-2) = some (.int d) := by
  have hl := (allR_len hr).1
  rcases hw with rfl | rfl
  · match r, hl with
    | [a, b], _ => exact ⟨a, b, b, a, rfl, rfl, rfl, rfl⟩
  · match r, hl with
    | [a, b, c], _ => exact ⟨a, b, c, b, rfl, rfl, rfl, rfl⟩
theorem wish_ok {n f b : Nat} {most : Int} {h : MH} {Q : QV} {E : QX} (F : Feed h f (b + 70)) (hm : 1 ≤ most ∧ most ≤ 4) (hq : ∀ (hu wi : Nat) (rows : List (List Int)) (h' : MH), 1 ≤ hu → (hu : Int) ≤ most → wi = 2 ∨ wi = 3 → (∀ r ∈ rows, r ∈ allR hu wi) → rows.length ≤ 64 → Feed h' f b → ExF (some f) h h' → Q (.tup [.int hu, .int wi, .tup (rows.map rowD)]) h') :
    callN Pr (n+3) 13 [.ref f, .int most] h Q E := by
  refine callN_s (d := d13) rfl rfl ?_
  have b62 := B62_eq
  have b30 := B30_eq
  have sz := PySem.sizeLine_eq
  simp [d13]
  refine take_ok (F.mono (by omega : (b + 67) + 1 ≤ _)) (by omega) (by omega) fun v h1 v0 v1 F1 X1 => ?_
  simp
  obtain ⟨hu, rfl⟩ : ∃ hu : Nat, v = (hu : Int) - 1 := ⟨(v + 1).toNat, by omega⟩
  have eh : (1 : Int) + ((hu : Int) - 1) = hu := by omega
  rw [eh]
  refine ⟨by omega, ?_⟩
  refine take_ok (F1.app.mono (by omega : (b + 66) + 1 ≤ _)) (by omega) (by omega) fun v h2 w0 w1 F2 X2 => ?_
  have hL : h2[h1.length]? = some (.lst [.int 2, .int 3, .int 2]) := X2.get get_new (Nat.ne_of_gt F1.lt)
  simp [ix_ref (lst_at hL)]
  obtain ⟨wi, hwi, hat⟩ : ∃ wi : Nat, (wi = 2 ∨ wi = 3) ∧ atI [D.int 2, D.int 3, D.int 2] v = some (.int wi) := by
    rcases (by omega : v = 0 ∨ v = 1 ∨ v = 2) with rfl | rfl | rfl
    · exact ⟨2, .inl rfl, rfl⟩
    · exact ⟨3, .inr rfl, rfl⟩
    · exact ⟨2, .inl rfl, rfl⟩
  rw [hat]
  simp
  have X02 : ExF (some f) h h2 := (X1.more).trans X2
  refine take_ok (F2.mono (by omega : (b + 65) + 1 ≤ _)) (by omega) (by omega) fun lv h3 l0 l1 F3 X3 => ?_
  refine all_ok (n := n + 1) rfl (by omega) (by omega) fun m h4 X4 lm e4 => ?_
  rw [it_ref (lst_at e4)]
  simp
  have F4 := F3.ex X4
  have X04 : ExF (some f) h h4 := (X02.trans X3).trans (.of X4)
  have mf : m ≠ f := Nat.ne_of_gt (Nat.lt_of_lt_of_le F3.lt lm)
  have many : (allR hu wi).length ≤ 64 := by rw [allR_many]; exact pow_le4 (by omega) (by omega)
  refine turns_of (fun l acc h' => ∃ rest rows : List (List Int), l = rest.map rowD ∧ acc = rows.map rowD ∧ (∀ r ∈ rest, r ∈ allR hu wi) ∧ (∀ r ∈ rows, r ∈ allR hu wi) ∧ rows.length + rest.length ≤ 64 ∧ Feed h' f (b + 1 + rest.length) ∧ ExF (some f) h h' ∧ h'[m]? = some (.lst ((allR hu wi).map rowD)))
    (fun _ _ _ ⟨_, _, _, _, _, _, _, _, _, e⟩ => stand_one (lst_at e)) ?_ ?_ _ _ _ ⟨allR hu wi, [], rfl, rfl, fun _ z => z, (fun _ z => by cases z), by simpa using many, F4.mono (by omega), X04, e4⟩
  · rintro acc h5 ⟨rest, rows, e1, rfl, _, r2, r3, F5, X5, e5⟩
    have e1 : rest = [] := by simpa using e1.symm
    subst e1
    simp at r3 F5
    simp
    refine ⟨by omega, ?_⟩
    refine take_ok F5.app (by omega) (by omega) fun z h6 z0 z1 F6 X6 => ?_
    have e6 : h6[h5.length]? = some (.lst (rows.map rowD)) := X6.get get_new (Nat.ne_of_gt F5.lt)
    have X06 : ExF (some f) h h6 := X5.more.trans X6
    simp
    split
    · refine all_ok (n := n + 1) rfl (by omega) (by omega) fun m7 h7 X7 lm7 e7 => ?_
      try simp
      rw [it_ref (lst_at e7)]
      simp
      refine filt_of (stand_one (lst_at e7)) (by omega) (fun r hr K k1 k2 => ?_) fun rows2 g1 g2 => ?_
      · obtain ⟨a, b, c, d, i1, i2, i3, i4⟩ := row_ends hwi hr
        have j1 : ∀ i : Int, ixop (rowD r) (.int i) h7 = atI (r.map D.int) i := fun i => rfl
        simp [j1, i1, i2, i3, i4]
        by_cases q1 : a = b <;> by_cases q2 : c = d <;> simp [q1, q2, k1, k2]
      · simp
        refine ⟨by omega, ?_⟩
        rw [b_tupL get_new]
        simp
        refine ⟨by omega, hq hu wi rows2 _ (by omega) (by omega) hwi g1 (by omega) (F6.ex X7).app ?_⟩
        exact (X06.trans (.of X7)).more
    · try simp
      rw [b_tupL e6]
      simp
      exact ⟨by omega, hq hu wi rows _ (by omega) (by omega) hwi r2 (by omega) F6 X06⟩
  · rintro x l acc h5 K ⟨rest, rows, e1, rfl, r1, r2, r3, F5, X5, e5⟩ hK
    cases rest with
    | nil => cases e1
    | cons r rest =>
      obtain ⟨rfl, rfl⟩ := List.cons.inj e1
      simp at r3
      try simp
      refine take_ok (F5.mono (by simp; omega : (b + 1 + rest.length) + 1 ≤ _)) (by omega) (by omega) fun z h6 z0 z1 F6 X6 => ?_
      have e6 := X6.get e5 mf
      have X06 := X5.trans X6
      have hr := r1 r List.mem_cons_self
      simp
      split
      · exact hK (some _) _ ⟨by simp; omega, rest, rows ++ [r], rfl, by simp, fun z hz => r1 z (List.mem_cons_of_mem _ hz), fun z hz => by
          rcases List.mem_append.mp hz with hz | hz
          · exact r2 z hz
          · simp at hz; subst hz; exact hr, by simp; omega, F6, X06, e6⟩
      · exact hK none _ ⟨rest, rows, rfl, rfl, fun z hz => r1 z (List.mem_cons_of_mem _ hz), r2, by omega, F6, X06, e6⟩
end Mp
namespace Mp
open PySem L2
/-! ### from a row to a row -/
def Stp (R : List (List Int)) (a b : List Int) : Prop := b ∈ R ∧ b.dropLast = a.tail
inductive Rch (R : List (List Int)) : List Int → List Int → Prop
  | one {a b : List Int} : Stp R a b → Rch R a b
  | more {a b c : List Int} : Rch R a b → Stp R b c → Rch R a c
theorem Rch.mem {R : List (List Int)} {a b : List Int} (r : Rch R a b) : b ∈ R := by cases r with | one h => exact h.1 | more _ h => exact h.1
/-- a set closed under the steps holds all that is met -/
theorem Rch.closed {R ms : List (List Int)} {a : List Int} (hc : ∀ x, (x = a ∨ x ∈ ms) → ∀ y, Stp R x y → y ∈ ms) {b : List Int} (r : Rch R a b) : b ∈ ms := by
  induction r with
  | one h => exact hc _ (.inl rfl) _ h
  | more _ h ih => exact hc _ (.inr ih) _ h
/-- how many rows are not met yet -/
def left_ (R ms : List (List Int)) : Nat := R.countP fun r => !decide (r ∈ ms)
theorem left_lt {R ms : List (List Int)} {y : List Int} (hy : y ∈ R) (hn : y ∉ ms) : left_ R (ms ++ [y]) + 1 ≤ left_ R ms := by
  unfold left_
  induction R with
  | nil => cases hy
  | cons r R ih =>
    rw [List.countP_cons, List.countP_cons]
    by_cases e : r = y
    · subst e
      have m : List.countP (fun r' => !decide (r' ∈ ms ++ [r])) R ≤ List.countP (fun r' => !decide (r' ∈ ms)) R := List.countP_mono_left fun z _ hz => by
        simp at hz ⊢
        exact hz.1
      simp [hn]
      simp at m
      omega
    · have hy' : y ∈ R := by
        rcases List.mem_cons.mp hy with z | z
        · exact absurd z.symm e
        · exact z
      have := ih hy'
      by_cases hr : r ∈ ms
      · simp [hr] at this ⊢; omega
      · simp [hr, e] at this ⊢; omega
def WAg (R : List (List Int)) (row : List Int) (h : MH) (m : Nat) (en : En) (h' : MH) : Prop := ∃ (md ml : Nat) (ms ln : List (List Int)) (e4 e5 : Option D), m = 2 * left_ R ms + List.length ln ∧ en = [some (.tup (R.map rowD)), some (rowD row), some (.ref md), some (.ref ml), e4, e5] ∧ h'[md]? = some (.dic (ms.map entR)) ∧ h'[ml]? = some (.lst (ln.map rowD)) ∧ Ex h h' ∧ h.length ≤ md ∧ h.length ≤ ml ∧ md ≠ ml ∧
      (∀ x ∈ ms, Rch R row x) ∧ (∀ x ∈ ln, x = row ∨ x ∈ ms) ∧ (∀ x, (x = row ∨ x ∈ ms) → x ∈ ln ∨ ∀ y, Stp R x y → y ∈ ms) ∧ ms.length + left_ R ms ≤ R.length ∧ ln.length ≤ ms.length + 1
theorem again_ok {n : Nat} {R : List (List Int)} {row : List Int} {h : MH} {Q : QV} {E : QX} (hR : R.length ≤ 100) (hq : ∀ (v : Bool) h', (v = true ↔ Rch R row row) → Ex h h' → Q (.bl v) h') : callN Pr (n+1) 21 [.tup (R.map rowD), rowD row] h Q E := by
  refine callN_s (d := d21) rfl rfl ?_
  have sz := PySem.sizeLine_eq
  simp [d21]
  refine ⟨by omega, ?_⟩
  refine ⟨WAg R row h, ⟨_, h.length, h.length + 1, [], [row], none, none, rfl, rfl, ?_, ?_, ?_, Nat.le_refl _, Nat.le_succ _, by omega, (fun _ z => by cases z), (fun x z => .inl (by simpa using z)), (fun x z => ?_), ?_, Nat.le_refl _⟩, ?_⟩
  · rw [show h ++ [MO.dic [], MO.lst [rowD row]] = (h ++ [MO.dic []]) ++ [MO.lst [rowD row]] by simp]
    exact get_app get_new
  · have := @get_new (h ++ [.dic []]) (.lst [rowD row])
    simpa using this
  · rw [show h ++ [MO.dic [], MO.lst [rowD row]] = (h ++ [MO.dic []]) ++ [MO.lst [rowD row]] by simp]
    exact ExF.more Ex.app
  · rcases z with z | z
    · exact .inl (by simp [z])
    · cases z
  · show 0 + R.countP _ ≤ _
    rw [Nat.zero_add]
    exact List.countP_le_length
  · rintro m en h' ⟨md, ml, ms, ln, e4, e5, rfl, rfl, dm, dl, X, l1, l2, ne, i1, i2, i3, i4, i5⟩
    simp [b_lenL dl]
    by_cases hln : ln = []
    · subst hln
      simp
      rw [show cmpop .inn (rowD row) (.ref md) h' = inX h' (rowD row) (.ref md) from rfl, in_dic dm]
      simp
      refine hq _ h' ?_ X
      rw [decide_eq_true_iff]
      refine ⟨fun z => i1 _ z, fun z => z.closed fun x hx y hy => ?_⟩
      rcases i3 x hx with w | w
      · cases w
      · exact w y hy
    · obtain ⟨ln2, here, rfl⟩ : ∃ l x, ln = l ++ [x] := ⟨ln.dropLast, ln.getLast hln, (List.dropLast_concat_getLast hln).symm⟩
      simp
      refine ⟨recv_ref dl, ?_⟩
      rw [m_pop0 (xs := ln2.map rowD) (y := rowD here) (by simpa using dl)]
      simp
      have hh : here = row ∨ here ∈ ms := i2 here (by simp)
      refine loop_of (fun r en h2 => ∃ done rest ms2 ln3 e6, R = done ++ rest ∧ r = rest.map rowD ∧ en = [some (.tup (R.map rowD)), some (rowD row), some (.ref md), some (.ref ml), some (rowD here), e6] ∧ h2[md]? = some (.dic (ms2.map entR)) ∧ h2[ml]? = some (.lst (ln3.map rowD)) ∧ Ex h h2 ∧
          2 * left_ R ms2 + List.length ln3 ≤ 2 * left_ R ms + ln2.length ∧ (∀ x ∈ ms2, Rch R row x) ∧ (∀ x ∈ ln3, x = row ∨ x ∈ ms2) ∧ (∀ x, (x = row ∨ x ∈ ms2) → x ∈ ln3 ∨ x = here ∨ ∀ y, Stp R x y → y ∈ ms2) ∧ ms2.length + left_ R ms2 ≤ R.length ∧ ln3.length ≤ ms2.length + 1 ∧ (here = row ∨ here ∈ ms2) ∧ ∀ y ∈ done, y.dropLast = here.tail → y ∈ ms2)
        (fun _ _ _ _ => stand_nil) ?_ ?_ _ _ _ ⟨[], R, ms, ln2, e5, rfl, rfl, rfl, get_set_ne dm ne, get_set dl, X.fresh l2, Nat.le_refl _, i1, fun x hx => i2 x (by simp [hx]), fun x hx => ?_, i4, by simp at i5; omega, hh, (fun _ z => by cases z)⟩
      · rintro en h2 ⟨done, rest, ms2, ln3, e6, r1, r2, rfl, g1, g2, X2, me, j1, j2, j3, j4, j5, jh, j6⟩
        have : rest = [] := by simpa using r2.symm
        subst this
        simp at r1
        subst r1
        refine ⟨2 * left_ R ms2 + ln3.length, by omega, md, ml, ms2, ln3, _, _, rfl, rfl, g1, g2, X2, l1, l2, ne, j1, j2, fun x hx => ?_, j4, j5⟩
        rcases j3 x hx with w | rfl | w
        · exact .inl w
        · exact .inr fun y hy => j6 y hy.1 hy.2
        · exact .inr w
      · rintro x l en h2 K ⟨done, rest, ms2, ln3, e6, r1, r2, rfl, g1, g2, X2, me, j1, j2, j3, j4, j5, jh, j6⟩ hK
        cases rest with
        | nil => cases r2
        | cons y rest =>
          obtain ⟨r2a, r2b⟩ := List.cons.inj r2
          subst r2a
          have hy : y ∈ R := by rw [r1]; simp
          simp [sl_last, sl_tail, c_eqR]
          have fin : (y.dropLast = here.tail → y ∈ ms2) → K [some (.tup (R.map rowD)), some (rowD row), some (.ref md), some (.ref ml), some (rowD here), some (rowD y)] h2 := fun hd => hK _ _ ⟨done ++ [y], rest, ms2, ln3, _, by simp [r1], r2b, rfl, g1, g2, X2, me, j1, j2, j3, j4, j5, jh, fun z hz hd2 => by
            rcases List.mem_append.mp hz with hz | hz
            · exact j6 z hz hd2
            · simp at hz; subst hz; exact hd hd2⟩
          by_cases c1 : y.dropLast = here.tail
          · simp [c1]
            rw [show cmpop .nin (rowD y) (.ref md) h2 = (inX h2 (rowD y) (.ref md)).map (!·) from rfl, in_dic g1]
            by_cases c2 : y ∈ ms2
            · simp [c2]
              exact fin fun _ => c2
            · simp [c2]
              have lt := left_lt hy c2
              rw [set_dic g1 (by omega) c2]
              simp
              have g2' := get_set_ne (o2 := .dic ((ms2 ++ [y]).map entR)) g2 (Ne.symm ne)
              refine ⟨recv_ref (by simpa using g2'), ?_⟩
              rw [m_append (by simpa using g2') (by simp; omega)]
              simp
              refine hK _ _ ⟨done ++ [y], rest, ms2 ++ [y], ln3 ++ [y], _, by simp [r1], r2b, rfl, ?_, ?_, (X2.fresh l1).fresh l2, by simp; omega, fun z hz => ?_, fun z hz => ?_, fun z hz => ?_, by simp; omega, by simp; omega, jh.imp id fun z => List.mem_append_left _ z, fun z hz hd2 => ?_⟩
              · simpa using get_set_ne (get_set (o2 := .dic ((ms2 ++ [y]).map entR)) g1) ne
              · simpa using get_set g2'
              · rcases List.mem_append.mp hz with hz | hz
                · exact j1 z hz
                · simp at hz
                  subst hz
                  rcases jh with rfl | jh
                  · exact .one ⟨hy, c1⟩
                  · exact .more (j1 here jh) ⟨hy, c1⟩
              · rcases List.mem_append.mp hz with hz | hz
                · exact (j2 z hz).imp id fun w => List.mem_append_left _ w
                · simp at hz; subst hz; exact .inr (by simp)
              · by_cases hzy : z = y
                · subst hzy; exact .inl (by simp)
                · have hz' : z = row ∨ z ∈ ms2 := hz.imp id fun w => by
                    rcases List.mem_append.mp w with w | w
                    · exact w
                    · simp at w; exact absurd w hzy
                  rcases j3 z hz' with w | w | w
                  · exact .inl (List.mem_append_left _ w)
                  · exact .inr (.inl w)
                  · exact .inr (.inr fun u hu => List.mem_append_left _ (w u hu))
              · rcases List.mem_append.mp hz with hz | hz
                · exact List.mem_append_left _ (j6 z hz hd2)
                · simp at hz; subst hz; simp
          · simp [c1]
            exact fin fun z => absurd z c1
      · rcases i3 x hx with w | w
        · rcases List.mem_append.mp w with w | w
          · exact .inl w
          · simp at w; exact .inr (.inl w)
        · exact .inr (.inr w)
end Mp
namespace Mp
open PySem L2
/-- a comprehension that filters, the heap grows at most -/
theorem filtX_of {S : List (Nat × List D)} {one : D → MH → (Option D → MH → Prop) → Prop} {Q : List D → MH → Prop} {h : MH} {R : List (List Int)} (p : List Int → Bool) (st : ∀ h', Ex h h' → Stand S h') (hz : R.length ≤ sizeLine)
    (step : ∀ r ∈ R, ∀ (h' : MH) (K : Option D → MH → Prop), Ex h h' → (∀ h2, Ex h h2 → K (if p r = true then some (rowD r) else none) h2) → one (rowD r) h' K)
    (q : ∀ h', Ex h h' → Q ((R.filter p).map rowD) h') : turns S one (R.map rowD) [] h Q := by
  refine turns_of (fun l acc h' => Ex h h' ∧ ∃ done rest : List (List Int), R = done ++ rest ∧ l = rest.map rowD ∧ acc = (done.filter p).map rowD) (fun l acc h' i => st h' i.1) ?_ ?_ _ _ _ ⟨.refl, [], R, rfl, rfl, rfl⟩
  · rintro acc h' ⟨X, done, rest, e1, e2, rfl⟩
    have : rest = [] := by simpa using e2.symm
    subst this
    simp at e1
    subst e1
    exact q h' X
  · rintro x l acc h' K ⟨X, done, rest, e1, e2, rfl⟩ hK
    cases rest with
    | nil => cases e2
    | cons r rest =>
      obtain ⟨rfl, rfl⟩ := List.cons.inj e2
      refine step r (by rw [e1]; simp) h' K X fun h2 X2 => hK _ _ ?_
      have hl : (done.filter p).length ≤ done.length := List.length_filter_le _ _
      have hd : done.length + (rest.length + 1) = R.length := by rw [e1]; simp
      cases hp : p r with
      | true =>
        simp only [if_true]
        exact ⟨by rw [List.length_map]; omega, X2, done ++ [r], rest, by simp [e1], rfl, by simp [hp]⟩
      | false =>
        simp only [Bool.false_eq_true, if_false]
        exact ⟨X2, done ++ [r], rest, by simp [e1], rfl, by simp [hp]⟩
noncomputable def agB (R : List (List Int)) (r : List Int) : Bool := @decide (Rch R r r) (Classical.propDecidable _)
theorem agB_iff {R : List (List Int)} {r : List Int} : agB R r = true ↔ Rch R r r := @decide_eq_true_iff _ (Classical.propDecidable _)
noncomputable def aliveR (R : List (List Int)) : List (List Int) := R.filter (agB R)
theorem living_ok {n : Nat} {R : List (List Int)} {a b : Int} {h : MH} {Q : QV} {E : QX} (hR : R.length ≤ 100) (hq : ∀ m h', Ex h h' → h.length ≤ m → h'[m]? = some (.lst ((aliveR R).map rowD)) → Q (.ref m) h') : callN Pr (n+2) 22 [.tup [.int a, .int b, .tup (R.map rowD)]] h Q E := by
  refine callN_s (d := d22) rfl rfl ?_
  have sz := PySem.sizeLine_eq
  have at2 : atI [D.int a, D.int b, .tup (R.map rowD)] 2 = some (.tup (R.map rowD)) := rfl
  simp [d22, at2]
  refine filtX_of (agB R) (fun _ _ => stand_nil) (by omega) (fun r hr h' K X k => ?_) fun h' X => ?_
  · refine again_ok hR fun v h2 hv X2 => ?_
    have : v = agB R r := by
      rw [Bool.eq_iff_iff, hv, agB_iff]
    subst this
    have := k h2 (X.trans X2)
    cases hp : agB R r with
    | true => simp [hp] at this ⊢; exact this
    | false => simp [hp] at this ⊢; exact this
  · have hl : (R.filter (agB R)).length ≤ R.length := List.length_filter_le _ _
    simp
    exact ⟨by omega, hq _ _ X.more X.len get_new⟩
theorem left_app {R ms : List (List Int)} (p : List Int → Bool) : left_ R (ms ++ R.filter fun y => p y && !decide (y ∈ ms)) + (R.filter fun y => p y && !decide (y ∈ ms)).length ≤ left_ R ms := by
  have key : ∀ (T : List (List Int)) (L : List (List Int)), (∀ y ∈ L, p y = true → y ∉ ms → y ∈ T) → (∀ y ∈ T, y ∉ ms → p y = true) → (L.countP fun r => !decide (r ∈ ms ++ T)) + (L.filter fun y => p y && !decide (y ∈ ms)).length ≤ L.countP fun r => !decide (r ∈ ms) := by
    intro T L
    induction L with
    | nil => intro _ _; simp
    | cons r L ih =>
      intro h1 h2
      have i := ih (fun y hy => h1 y (List.mem_cons_of_mem _ hy)) h2
      rw [List.countP_cons, List.countP_cons, List.filter_cons]
      by_cases hm : r ∈ ms
      · simp [hm] at i ⊢; exact i
      · cases hp : p r with
        | true =>
          have := h1 r List.mem_cons_self hp hm
          simp [hm, hp, this] at i ⊢; omega
        | false =>
          have : r ∉ T := fun z => by have := h2 r z hm; rw [hp] at this; cases this
          simp [hm, hp, this] at i ⊢; omega
  refine key _ R (fun y hy hp hn => by simp [hy, hp, hn]) fun y hy hn => ?_
  simp at hy
  exact hy.2.1
def WAl (R : List (List Int)) (row : List Int) (h : MH) (wd mf : Nat) (found : List D) (w : D) (m : Nat) (en : En) (h' : MH) : Prop := ∃ (mm : Nat) (ms : List (List Int)) (at_ : Nat) (ag : Bool) (e6 : Option D), m = 2 * left_ R ms + (ms.length - at_) ∧ en = [some w, some (.ref mf), some (rowD row), some (.ref mm), some (.int at_), some (.bl ag), e6, none] ∧
  h'[mm]? = some (.lst (ms.map rowD)) ∧ h'[mf]? = some (.lst found) ∧ Ex h h' ∧ h.length ≤ mm ∧ mm ≠ mf ∧ at_ ≤ ms.length ∧ row ∈ ms ∧ (∀ x ∈ ms, x = row ∨ Rch R row x) ∧ (∀ i x, i < at_ → ms[i]? = some x → ∀ y, Stp R x y → y ∈ ms) ∧ (ag = true ↔ ∃ i x, i < at_ ∧ ms[i]? = some x ∧ Stp R x row) ∧ ms.length + left_ R ms ≤ R.length + 1
theorem alive_ok {n : Nat} {R : List (List Int)} {a b : Int} {h : MH} {Q : QV} {E : QX} (hR : R.length ≤ 100) (hq : ∀ m h', Ex h h' → h.length ≤ m → h'[m]? = some (.lst ((aliveR R).map rowD)) → Q (.ref m) h') : callN Pr (n+1) 23 [.tup [.int a, .int b, .tup (R.map rowD)]] h Q E := by
  refine callN_s (d := d23) rfl rfl ?_
  have sz := PySem.sizeLine_eq
  have at2 : atI [D.int a, D.int b, .tup (R.map rowD)] 2 = some (.tup (R.map rowD)) := rfl
  simp [d23, at2]
  refine loop_of (fun l en h' => ∃ done rest e2 e3 e4 e5 e6, R = done ++ rest ∧ l = rest.map rowD ∧ en = [some (.tup [.int a, .int b, .tup (R.map rowD)]), some (.ref h.length), e2, e3, e4, e5, e6, none] ∧ h'[h.length]? = some (.lst ((done.filter (agB R)).map rowD)) ∧ Ex h h') (fun _ _ _ _ => stand_nil) ?_ ?_ _ _ _ ⟨[], R, none, none, none, none, none, rfl, rfl, rfl, get_new, .app⟩
  · rintro en h' ⟨done, rest, e2, e3, e4, e5, e6, r1, r2, rfl, g, X⟩
    have : rest = [] := by simpa using r2.symm
    subst this
    simp at r1
    subst r1
    simp
    exact hq _ _ X (Nat.le_refl _) g
  · rintro x l en h' K ⟨done, rest, e2, e3, e4, e5, e6, r1, r2, rfl, g, X⟩ hK
    cases rest with
    | nil => cases r2
    | cons row rest =>
      obtain ⟨r2a, r2b⟩ := List.cons.inj r2
      subst r2a
      have hrow : row ∈ R := by rw [r1]; simp
      simp
      refine ⟨by omega, ?_⟩
      have hf : h'.length ≠ h.length := Nat.ne_of_gt (get_lt g)
      refine ⟨WAl R row h h.length h.length ((done.filter (agB R)).map rowD) (.tup [.int a, .int b, .tup (R.map rowD)]), ⟨_, h'.length, [row], 0, false, e6, rfl, rfl, get_new, get_app g, X.more, X.len, hf, Nat.zero_le _, by simp, (fun x hx => .inl (by simpa using hx)), (fun i x hi => absurd hi (Nat.not_lt_zero _)), by simp, ?_⟩, ?_⟩
      · have : left_ R [row] ≤ R.length := List.countP_le_length
        simp
        omega
      · rintro m en h2 ⟨mm, ms, at_, ag, e6', rfl, rfl, d1, d2, X2, l1, ne, a1, i0, i1, i2, i3, i4⟩
        simp [b_lenL d1]
        by_cases hlt : at_ < ms.length
        · simp [hlt, at2]
          have hcur : ms[at_]? = some ms[at_] := List.getElem?_eq_getElem hlt
          generalize hcu : ms[at_] = cur at hcur
          have hat : atI (ms.map rowD) (at_ : Int) = some (rowD cur) := atI_nat (by rw [List.getElem?_map, hcur]; rfl)
          have hcm : cur ∈ ms := List.mem_of_getElem? hcur
          refine filtX_of (fun o => decide (o.dropLast = cur.tail)) (fun _ _ => stand_nil) (by omega) (fun r hr h3 K3 X3 k => ?_) fun h3 X3 => ?_
          · have := k h3 X3
            simp [sl_last, sl_tail, ix_ref (lst_at (X3.get d1)), hat, c_eqR]
            by_cases c : r.dropLast = cur.tail <;> simp [c] at this ⊢ <;> exact this
          · have hl : (R.filter fun o => decide (o.dropLast = cur.tail)).length ≤ R.length := List.length_filter_le _ _
            simp
            refine ⟨by omega, ?_⟩
            generalize hS : (R.filter fun o => decide (o.dropLast = cur.tail)) = So at hl
            have g3 := X3.get d1
            have g4 := X3.get d2
            have n3 : (h3 ++ [MO.lst (So.map rowD)])[h3.length]? = some (.lst (So.map rowD)) := get_new
            have X4 : Ex h (h3 ++ [MO.lst (So.map rowD)]) := (X2.trans X3).more
            have hin : cmpop .inn (rowD row) (.ref h3.length) (h3 ++ [MO.lst (So.map rowD)]) = some (decide (row ∈ So)) := in_lst n3
            have g3' := get_app (o2 := MO.lst (So.map rowD)) g3
            have g4' := get_app (o2 := MO.lst (So.map rowD)) g4
            generalize (h3 ++ [MO.lst (So.map rowD)]) = h4 at n3 X4 hin g3' g4'
            have memS : ∀ y, y ∈ So ↔ Stp R cur y := fun y => by rw [← hS]; simp [Stp]
            have go : ∀ ag2 : Bool, (ag2 = (ag || decide (row ∈ So))) → OQ (itemsOf IK.val [D.ref h3.length] h4) (fun p => turns p.2 (fun x h2_1 Qn => OQ (cmpop .nin x (.ref mm) h2_1) fun b => if b = true then Qn (some x) h2_1 else Qn none h2_1) p.1 [] h4 fun out h5 => out.length ≤ sizeLine ∧ PQ (mtop MT.extend (D.ref mm) [D.ref h5.length] (h5 ++ [MO.lst out])) fun x h1 => ∃ m2, m2 < 2 * left_ R ms + (ms.length - at_) ∧ WAl R row h h.length h.length ((done.filter (agB R)).map rowD) (.tup [.int a, .int b, .tup (R.map rowD)]) m2 [some (.tup [.int a, .int b, .tup (R.map rowD)]), some (.ref h.length), some (rowD row), some (.ref mm), some (.int (at_ + 1)), some (.bl ag2), some (.ref h3.length), none] h1) := fun ag2 hag2 => by
              rw [it_ref (lst_at n3)]
              simp
              refine filtX_of (fun o => !decide (o ∈ ms)) (fun _ X5 => stand_one (lst_at (X5.get n3))) (by omega) (fun r hr h5 K5 X5 k => ?_) fun h5 X5 => ?_
              · have := k h5 X5
                rw [show cmpop .nin (rowD r) (.ref mm) h5 = (inX h5 (rowD r) (.ref mm)).map (!·) from rfl, in_lst (X5.get g3')]
                by_cases c : r ∈ ms <;> simp [c] at this ⊢ <;> exact this
              · have hnew : So.filter (fun o => !decide (o ∈ ms)) = R.filter fun y => decide (y.dropLast = cur.tail) && !decide (y ∈ ms) := by
                  rw [← hS, List.filter_filter]
                  congr 1
                  funext z
                  exact Bool.and_comm _ _
                have lf := left_app (R := R) (ms := ms) (fun y => decide (y.dropLast = cur.tail))
                rw [← hnew] at lf
                have mN : ∀ y, y ∈ So.filter (fun o => !decide (o ∈ ms)) ↔ Stp R cur y ∧ y ∉ ms := fun y => by simp [memS]
                generalize So.filter (fun o => !decide (o ∈ ms)) = New at lf mN
                have g5 := get_app (o2 := MO.lst (New.map rowD)) (X5.get g3')
                simp
                refine ⟨by omega, ?_⟩
                rw [m_extend g5 get_new (by simp only [List.length_map]; omega)]
                simp
                refine ⟨2 * left_ R (ms ++ New) + ((ms ++ New).length - (at_ + 1)), by simp; omega, mm, ms ++ New, at_ + 1, ag2, some (.ref h3.length), rfl, rfl, ?_, ?_, (X4.trans X5).more.fresh l1, l1, ne, by simp; omega, List.mem_append_left _ i0, fun x hx => ?_, fun i x hi hx y hy => ?_, ?_, by simp; omega⟩
                · rw [get_set g5]; simp
                · exact get_set_ne (get_app (X5.get g4')) (Ne.symm ne)
                · rcases List.mem_append.mp hx with hx | hx
                  · exact i1 x hx
                  · have st := ((mN x).mp hx).1
                    rcases i1 cur hcm with rfl | rc
                    · exact .inr (.one st)
                    · exact .inr (.more rc st)
                · by_cases hi2 : i < at_
                  · rw [List.getElem?_append_left (by omega)] at hx
                    exact List.mem_append_left _ (i2 i x hi2 hx y hy)
                  · have : i = at_ := by omega
                    subst this
                    rw [List.getElem?_append_left hlt, hcur] at hx
                    cases hx
                    by_cases hm : y ∈ ms
                    · exact List.mem_append_left _ hm
                    · exact List.mem_append_right _ ((mN y).mpr ⟨hy, hm⟩)
                · rw [hag2, Bool.or_eq_true, i3, decide_eq_true_iff, memS]
                  constructor
                  · rintro (⟨i, x, hi, hx, st⟩ | st)
                    · exact ⟨i, x, by omega, by rw [List.getElem?_append_left (by omega)]; exact hx, st⟩
                    · exact ⟨at_, cur, by omega, by rw [List.getElem?_append_left hlt]; exact hcur, st⟩
                  · rintro ⟨i, x, hi, hx, st⟩
                    by_cases hi2 : i < at_
                    · rw [List.getElem?_append_left (by omega)] at hx
                      exact .inl ⟨i, x, hi2, hx, st⟩
                    · have : i = at_ := by omega
                      subst this
                      rw [List.getElem?_append_left hlt, hcur] at hx
                      cases hx
                      exact .inr st
            cases ag with
            | true =>
              simp
              refine ⟨recv_ref g3', ?_⟩
              exact go true rfl
            | false =>
              simp [hin]
              refine ⟨recv_ref g3', ?_⟩
              exact go _ (by simp)
        · simp [hlt]
          have ea : at_ = ms.length := by omega
          subst ea
          have hag : ag = agB R row := by
            rw [Bool.eq_iff_iff, i3, agB_iff]
            constructor
            · rintro ⟨i, x, hi, hx, st⟩
              rcases i1 x (List.mem_of_getElem? hx) with rfl | rc
              · exact .one st
              · exact .more rc st
            · intro rc
              have cl : ∀ x, (x = row ∨ x ∈ ms) → ∀ y, Stp R x y → y ∈ ms := fun x hx y hy => by
                have hx : x ∈ ms := hx.elim (fun e => e ▸ i0) id
                obtain ⟨i, hi⟩ := List.mem_iff_getElem?.mp hx
                exact i2 i x (List.getElem?_eq_some_iff.mp hi).1 hi y hy
              have fin : ∀ z, (z = row ∨ Rch R row z) → Stp R z row → ∃ i x, i < ms.length ∧ ms[i]? = some x ∧ Stp R x row := fun z hz st => by
                have hz : z ∈ ms := hz.elim (fun e => e ▸ i0) fun r => r.closed cl
                obtain ⟨i, hi⟩ := List.mem_iff_getElem?.mp hz
                exact ⟨i, z, (List.getElem?_eq_some_iff.mp hi).1, hi, st⟩
              cases rc with
              | one st => exact fin _ (.inl rfl) st
              | more r st => exact fin _ (.inr r) st
          subst hag
          have hl : (done.filter (agB R)).length ≤ done.length := List.length_filter_le _ _
          have hd : done.length + (rest.length + 1) = R.length := by rw [r1]; simp
          cases hp : agB R row with
          | true =>
            simp
            refine ⟨recv_ref d2, ?_⟩
            rw [m_append d2 (by simp; omega)]
            simp
            refine hK _ _ ⟨done ++ [row], rest, _, _, _, _, _, by simp [r1], r2b, rfl, ?_, X2.fresh (Nat.le_refl _)⟩
            rw [get_set d2]
            simp [hp]
          | false =>
            simp
            exact hK _ _ ⟨done ++ [row], rest, _, _, _, _, _, by simp [r1], r2b, rfl, by simpa [hp] using d2, X2⟩
end Mp
namespace Mp
open PySem L2
/-! ### what is shown -/
theorem ok_app (x y : Str) : PyData.strOk (x ++ y) = (PyData.strOk x && PyData.strOk y) := by
  show (x.cps ++ y.cps).all _ = _
  rw [Array.all_append]
  rfl
theorem ok_of (s : String) : PyData.strOk (Str.ofString s) = true := by
  rw [Str.ofString_eq_toList]
  unfold PyData.strOk
  rw [Array.all_eq_true_iff_forall_mem]
  intro c hc
  simp at hc
  obtain ⟨d, _, rfl⟩ := hc
  have := d.valid
  simp
  rcases this with h | h
  · exact Nat.lt_trans h (by decide)
  · exact h.2
mutual
def good : PyData → Bool
  | .none => true
  | .bool _ => true
  | .int i => decide (i.natAbs < 10 ^ 40)
  | .str _ => false
  | .list xs => goodAll xs
  | .tuple xs => goodAll xs
  | .dict _ => false
def goodAll : List PyData → Bool
  | [] => true
  | x :: xs => good x && goodAll xs
end
mutual
def shW : PyData → Nat
  | .none => 5
  | .bool _ => 5
  | .int _ => 41
  | .str _ => 0
  | .list xs => shWA xs + 4
  | .tuple xs => shWA xs + 4
  | .dict _ => 0
def shWA : List PyData → Nat
  | [] => 0
  | x :: xs => shW x + 2 + shWA xs
end
theorem textFrom_ok : ∀ (ts : List Str) (k : Nat) (acc : Str), PyData.strOk acc = true → (∀ t ∈ ts, PyData.strOk t = true) → PyData.strOk (PySem.textFrom k acc ts) = true
  | [], _, acc, h, _ => h
  | t :: r, k, acc, h, ht => by
    refine textFrom_ok r (k + 1) _ ?_ fun u hu => ht u (List.mem_cons_of_mem _ hu)
    rw [ok_app, ok_app, h, ht t List.mem_cons_self, ok_of]
    rfl
theorem join_ok : ∀ ts : List Str, (∀ t ∈ ts, PyData.strOk t = true) → PyData.strOk (Str.join ", " ts) = true
  | [], _ => by decide +kernel
  | [x], h => h x List.mem_cons_self
  | x :: y :: r, h => by
    have ih := join_ok (y :: r) fun t ht => h t (List.mem_cons_of_mem _ ht)
    show PyData.strOk (x ++ ", " ++ Str.join ", " (y :: r)) = true
    rw [ok_app, ok_app, h x List.mem_cons_self, ih, ok_of]
    rfl
theorem int_shown (i : Int) (h : i.natAbs < 10 ^ 40) : PyData.strOk (PyData.shown (.int i)) = true ∧ (PyData.shown (.int i)).length ≤ 41 := by
  have e : PyData.shown (.int i) = Str.ofString (toString i) := by simp only [PyData.shown]
  rw [e]
  refine ⟨ok_of _, ?_⟩
  rw [PySem.ofString_length]
  exact PySem.int_text_length_le10 (by decide) h
theorem log_lt {n : Nat} (h : n < 10 ^ 40) : n.log2 < 1920 := by
  by_cases h0 : n = 0
  · subst h0; decide
  · rw [Nat.log2_lt h0]
    exact Nat.lt_of_lt_of_le h (Nat.le_trans (by decide : 10 ^ 40 ≤ 2 ^ 140) (Nat.pow_le_pow_right (by decide) (by decide)))
theorem list_len (ts : List Str) : (PySem.listText ts).length ≤ PySem.piled ts + 2 := by
  cases ts with
  | nil => decide +kernel
  | cons t r =>
    have h := PySem.textFrom_length_pos r 1 (("[" : Str) ++ (if (0 : Nat) > 0 then ", " else "" : String) ++ t) (Nat.succ_pos 0)
    have e : ((("[" : Str) ++ (if (0 : Nat) > 0 then ", " else "" : String) ++ t)).length = 1 + t.length := by
      rw [strLen_append, strLen_append]; rfl
    have hX : (PySem.listText (t :: r)).length = (PySem.textFrom 0 "[" (t :: r)).length + 1 := by
      show (PySem.textFrom 0 "[" (t :: r) ++ "]").length = _
      rw [strLen_append]; rfl
    have hY : (PySem.textFrom 0 "[" (t :: r)).length = (PySem.textFrom 1 (("[" : Str) ++ (if (0 : Nat) > 0 then ", " else "" : String) ++ t) r).length := rfl
    rw [hX, hY, h, e, PySem.piled_cons]; omega
theorem tup_len (ts : List Str) : (PySem.tupleText ts).length ≤ PySem.piled ts + 3 := by
  unfold PySem.tupleText
  rw [strLen_append, strLen_append]
  have e1 : ((("(" : String) : Str)).length = 1 := rfl
  have e3 : (((if ts.length == 1 then ",)" else ")" : String) : Str)).length ≤ 2 := by split <;> decide
  rw [e1]
  by_cases h : ts = []
  · subst h
    have : (Str.join ", " []).length = 0 := by decide +kernel
    rw [this]
    simp [PySem.piled] at e3 ⊢
    omega
  · have := PySem.join_length_add ts h
    omega
mutual
theorem shown_all : ∀ p : PyData, good p = true → PyData.strOk p.shown = true ∧ p.shown.length ≤ shW p ∧ p.showable = true ∧ p.hasDict = false
  | .none, _ => by decide +kernel
  | .bool b, _ => by cases b <;> decide +kernel
  | .int i, h => by
    have h : i.natAbs < 10 ^ 40 := by simpa [good] using h
    obtain ⟨a, b⟩ := int_shown i h
    exact ⟨a, by simpa [shW] using b, by simpa [PyData.showable] using log_lt h, by simp [PyData.hasDict]⟩
  | .str _, h => by simp [good] at h
  | .dict _, h => by simp [good] at h
  | .list xs, h => by
    obtain ⟨a, b, c, d⟩ := shown_alls xs (by simpa [good] using h)
    refine ⟨?_, ?_, by simpa [PyData.showable] using c, by simpa [PyData.hasDict] using d⟩
    · simp only [PyData.shown]
      show PyData.strOk (PySem.textFrom 0 "[" (PyData.shownAll xs) ++ "]") = true
      rw [ok_app, textFrom_ok _ _ _ (ok_of _) a, ok_of]
      rfl
    · simp only [PyData.shown, shW]
      have := list_len (PyData.shownAll xs)
      omega
  | .tuple xs, h => by
    obtain ⟨a, b, c, d⟩ := shown_alls xs (by simpa [good] using h)
    refine ⟨?_, ?_, by simpa [PyData.showable] using c, by simpa [PyData.hasDict] using d⟩
    · simp only [PyData.shown]
      unfold PySem.tupleText
      rw [ok_app, ok_app, join_ok _ a, ok_of, ok_of]
      rfl
    · simp only [PyData.shown, shW]
      have := tup_len (PyData.shownAll xs)
      omega
theorem shown_alls : ∀ xs : List PyData, goodAll xs = true → (∀ t ∈ PyData.shownAll xs, PyData.strOk t = true) ∧ PySem.piled (PyData.shownAll xs) ≤ shWA xs ∧ PyData.showableAll xs = true ∧ PyData.hasDictAll xs = false
  | [], _ => ⟨fun t ht => by simp [PyData.shownAll] at ht, by simp [PyData.shownAll, PySem.piled, shWA], by simp [PyData.showableAll], by simp [PyData.hasDictAll]⟩
  | x :: xs, h => by
    have h : good x = true ∧ goodAll xs = true := by simpa [goodAll] using h
    obtain ⟨a1, b1, c1, d1⟩ := shown_all x h.1
    obtain ⟨a2, b2, c2, d2⟩ := shown_alls xs h.2
    refine ⟨fun t ht => ?_, ?_, by simp [PyData.showableAll, c1, c2], by simp [PyData.hasDictAll, d1, d2]⟩
    · simp only [PyData.shownAll] at ht
      rcases List.mem_cons.mp ht with rfl | ht
      · exact a1
      · exact a2 t ht
    · simp only [PyData.shownAll, shWA, PySem.piled_cons]
      omega
end
theorem repr_ok {h : MH} {x : D} {p : PyData} (e : pyD 65 h x = some p) (g : good p = true) (hd : p.depth ≤ 64) (hw : shW p ≤ sizeLine) : biop .repr [x] h = some (.str p.shown, h) ∧ PyData.strOk p.shown = true := by
  obtain ⟨a, b, c, d⟩ := shown_all p g
  refine ⟨?_, a⟩
  show (match pyD 65 h x with | some p => if p.showable && !p.hasDict && decide (p.depth ≤ 64) && decide (p.shown.length ≤ sizeLine) then some (D.str p.shown, h) else none | none => none) = _
  rw [e]
  have : p.shown.length ≤ sizeLine := Nat.le_trans b hw
  simp [c, d, hd, this]
theorem ne_same {s : Str} {h : MH} (hs : PyData.strOk s = true) : cmpop .ne (.str s) (.str s) h = some false := by
  show (eqD h (.str s) (.str s)).map (!·) = _
  rw [eq_str hs hs]
  simp
end Mp
namespace Mp
open PySem L2
def deep : Nat := 8
/-- rows that are small -/
def Small (R : List (List Int)) : Prop := R.length ≤ 100 ∧ ∀ r ∈ R, r.length ≤ 3 ∧ ∀ x ∈ r, 0 ≤ x ∧ x < 10
def IsW (d : D) : Prop := ∃ (a b : Int) (R : List (List Int)), d = .tup [.int a, .int b, .tup (R.map rowD)] ∧ Small R
theorem small_all {hu wi : Nat} {R : List (List Int)} (hh : hu ≤ 4) (hw : wi ≤ 3) (h : ∀ r ∈ R, r ∈ allR hu wi) (hl : R.length ≤ 64) : Small R :=
  ⟨by omega, fun r hr => by
    obtain ⟨h1, h2⟩ := allR_len (h r hr)
    exact ⟨by omega, fun x hx => ⟨(h2 x hx).1, by have := (h2 x hx).2; omega⟩⟩⟩
theorem good_row : ∀ r : List Int, (∀ x ∈ r, 0 ≤ x ∧ x < 10) → goodAll (r.map .int) = true ∧ shWA (r.map .int) = 43 * r.length
  | [], _ => by simp [goodAll, shWA]
  | x :: r, h => by
    obtain ⟨a, b⟩ := good_row r fun y hy => h y (List.mem_cons_of_mem _ hy)
    have := h x List.mem_cons_self
    simp [goodAll, shWA, good, shW, a, b]
    omega
theorem good_rows : ∀ R : List (List Int), (∀ r ∈ R, r.length ≤ 3 ∧ ∀ x ∈ r, 0 ≤ x ∧ x < 10) → goodAll (R.map rowP) = true ∧ shWA (R.map rowP) ≤ 135 * R.length
  | [], _ => by simp [goodAll, shWA]
  | r :: R, h => by
    obtain ⟨a, b⟩ := good_rows R fun y hy => h y (List.mem_cons_of_mem _ hy)
    obtain ⟨c, d⟩ := h r List.mem_cons_self
    obtain ⟨e, f⟩ := good_row r d
    simp only [List.map_cons, goodAll, shWA, rowP, good, shW, e, f] at a b ⊢
    refine ⟨by simp [a], ?_⟩
    simp
    omega
theorem repr_rows {h : MH} {m : Nat} {R : List (List Int)} (e : h[m]? = some (.lst (R.map rowD))) (s : Small R) : biop .repr [.ref m] h = some (.str (PyData.shown (.list (R.map rowP))), h) ∧ PyData.strOk (PyData.shown (.list (R.map rowP))) = true := by
  have sz := PySem.sizeLine_eq
  obtain ⟨a, b⟩ := good_rows R s.2
  have l := (lay_rows R).2
  refine repr_ok ?_ (by simpa [good] using a) (by simp only [PyData.depth]; omega) ?_
  · rw [pyD_ref (lst_at e), pyD_rows]
    rfl
  · have := s.1
    simp only [shW]
    omega
theorem small_alive {R : List (List Int)} (s : Small R) : Small (aliveR R) :=
  ⟨Nat.le_trans (List.length_filter_le _ _) s.1, fun r hr => s.2 r (List.mem_filter.mp hr).1⟩
theorem posts_ok {n : Nat} {h : MH} {Q : QV} {E : QX} (hq : ∀ d, IsW d → Q d h) : callN Pr (n+1) 6 [] h Q E := by
  refine callN_s (d := d6) rfl rfl ?_
  have sz := PySem.sizeLine_eq
  simp [d6]
  refine ⟨by omega, by omega, by omega, hq _ ⟨2, 3, [[0, 0, 1], [0, 1, 0], [1, 0, 0], [1, 0, 1]], rfl, by decide, by decide⟩⟩
theorem mates_ok {n : Nat} {h : MH} {Q : QV} {E : QX} (hq : ∀ d, IsW d → Q d h) : callN Pr (n+1) 7 [] h Q E := by
  refine callN_s (d := d7) rfl rfl ?_
  have sz := PySem.sizeLine_eq
  simp [d7]
  refine ⟨by omega, by omega, by omega, hq _ ⟨3, 2, [[0, 1], [1, 2], [2, 0], [2, 1]], rfl, by decide, by decide⟩⟩
theorem unlike_ok {n hu : Nat} {i : Int} {h : MH} {Q : QV} {E : QX} (hi : i = (hu : Int)) (hh : hu ≤ 4) (hq : ∀ d h', IsW d → Ex h h' → Q d h') : callN Pr (n+2) 5 [.int i] h Q E := by
  subst hi
  refine callN_s (d := d5) rfl rfl ?_
  have sz := PySem.sizeLine_eq
  simp [d5]
  refine all_ok (hu := hu) (wi := 2) rfl hh (by omega) fun m h1 X1 l1 e1 => ?_
  rw [it_ref (lst_at e1)]
  have many : (allR hu 2).length ≤ 64 := by rw [allR_many]; exact pow_le4 hh (by omega)
  simp
  refine filt_of (stand_one (lst_at e1)) (by omega) (fun r hr K k1 k2 => ?_) fun rows g1 g2 => ?_
  · obtain ⟨a, b, c, d, i1, i2, i3, i4⟩ := row_ends (.inl rfl) hr
    have j1 : ∀ i : Int, ixop (rowD r) (.int i) h1 = atI (r.map D.int) i := fun i => rfl
    simp [j1, i1, i2]
    by_cases q1 : a = b <;> simp [q1, k1, k2]
  · simp
    refine ⟨by omega, ?_⟩
    rw [b_tupL get_new]
    simp
    exact ⟨by omega, hq _ _ ⟨hu, 2, rows, rfl, small_all hh (by omega) g1 (by omega)⟩ X1.more⟩
theorem ups_ok {n hu : Nat} {i : Int} {h : MH} {Q : QV} {E : QX} (hi : i = (hu : Int)) (hh : hu ≤ 4) (hq : ∀ d h', IsW d → Ex h h' → Q d h') : callN Pr (n+2) 8 [.int i] h Q E := by
  subst hi
  refine callN_s (d := d8) rfl rfl ?_
  have sz := PySem.sizeLine_eq
  simp [d8]
  refine all_ok (hu := hu) (wi := 2) rfl hh (by omega) fun m h1 X1 l1 e1 => ?_
  rw [it_ref (lst_at e1)]
  have many : (allR hu 2).length ≤ 64 := by rw [allR_many]; exact pow_le4 hh (by omega)
  simp
  refine filt_of (stand_one (lst_at e1)) (by omega) (fun r hr K k1 k2 => ?_) fun rows g1 g2 => ?_
  · obtain ⟨a, b, c, d, i1, i2, i3, i4⟩ := row_ends (.inl rfl) hr
    have j1 : ∀ i : Int, ixop (rowD r) (.int i) h1 = atI (r.map D.int) i := fun i => rfl
    simp [j1, i1, i2]
    by_cases q1 : a < b <;> by_cases q2 : b = 0 <;> by_cases q3 : a = 0 <;> simp [q1, q2, q3, k1, k2] <;> (try split) <;> first | exact k1 | exact k2
  · simp
    refine ⟨by omega, ?_⟩
    rw [b_tupL get_new]
    simp
    exact ⟨by omega, hq _ _ ⟨hu, 2, rows, rfl, small_all hh (by omega) g1 (by omega)⟩ X1.more⟩
theorem wSs_app {Φ : Phi} {nx : En → MH → Prop} {rt : QV} {E : QE} : ∀ (a b : List MS) (en : En) (h : MH), wSs Φ (a ++ b) en h nx rt E = wSs Φ a en h (fun en1 h1 => wSs Φ b en1 h1 nx rt E) rt E
  | [], b, en, h => by simp
  | s :: a, b, en, h => by
    simp only [wSs, List.cons_append]
    congr 1
    funext en1 h1
    exact wSs_app a b en1 h1
theorem tail_ok {en : En} {h : MH} {w : Nat} {ws : List D} {e0 e1 e2 e4 e5 e6 e7 : Option D} {nx : En → MH → Prop} {E : QE} (hen : en = [e0, e1, e2, some (.ref w), e4, e5, e6, e7]) (hw : h[w]? = some (.lst ws)) (hW : ∀ d ∈ ws, IsW d) :
    wSs (callN Pr 7) (d24.body.drop 5) en h nx (fun d _ => d = .bl true) E := by
  subst hen
  have sz := PySem.sizeLine_eq
  simp [d24]
  rw [it_ref (lst_at hw)]
  simp
  refine loop_of (fun l en h' => ∃ e5 e6 e7, en = [e0, e1, e2, some (.ref w), e4, e5, e6, e7] ∧ h'[w]? = some (.lst ws) ∧ ∀ d ∈ l, IsW d) (fun _ _ _ ⟨_, _, _, _, e, _⟩ => stand_one (lst_at e)) ?_ ?_ _ _ _ ⟨e5, e6, e7, rfl, hw, hW⟩
  · rintro en h' ⟨_, _, _, rfl, _, _⟩
    simp
  · rintro x l en h1 K ⟨e5, e6, e7, rfl, g1, hl⟩ hK
    obtain ⟨a, b, R, rfl, sm⟩ := hl x List.mem_cons_self
    simp
    refine alive_ok (n := 6) sm.1 fun ma h2 X2 l2 f2 => ?_
    try simp
    refine living_ok (n := 5) sm.1 fun mb h3 X3 l3 f3 => ?_
    have hne : ma ≠ mb := Nat.ne_of_lt (Nat.lt_of_lt_of_le (get_lt f2) l3)
    have sa := small_alive sm
    obtain ⟨r1, r2⟩ := repr_rows (X3.get f2) sa
    obtain ⟨r3, _⟩ := repr_rows f3 sa
    simp [r1, r3, ne_same r2]
    refine ⟨recv_ref f3, ?_⟩
    have := sa.1
    rw [m_append f3 (by simp; omega)]
    simp
    generalize hG : h3.set mb (MO.lst (List.map rowD (aliveR R) ++ [D.tup []])) = h4
    have f4 : h4[ma]? = some (.lst ((aliveR R).map rowD)) := by rw [← hG]; exact get_set_ne (X3.get f2) hne
    have g4 : h4[w]? = some (.lst ws) := by rw [← hG]; exact get_set_ne (X3.get (X2.get g1)) (Nat.ne_of_lt (Nat.lt_of_lt_of_le (get_lt (X2.get g1)) l3))
    refine living_ok (n := 5) sm.1 fun mc h5 X5 l5 f5 => ?_
    obtain ⟨r4, r5⟩ := repr_rows (X5.get f4) sa
    obtain ⟨r6, _⟩ := repr_rows f5 sa
    simp [r4, r6, ne_same r5]
    exact hK _ _ ⟨_, _, _, rfl, X5.get g4, fun d hd => hl d (List.mem_cons_of_mem _ hd)⟩
theorem pick_len {α : Type} (xs : List α) {v : Int} (hv : 0 ≤ v) : (pickT xs (some v) none 3).length ≤ xs.length := by
  unfold pickT
  refine Nat.le_trans (List.length_filterMap_le _ _) ?_
  rw [List.length_range]
  unfold Builtin.Slice.slicePlaces Builtin.Slice.sliceAdjust
  have e1 : ¬ ((3 : Int) < 0) := by decide
  have e2 : (3 : Int) > 0 := by decide
  have e3 : ¬ (v < 0) := by omega
  simp only [e1, e2, e3, if_true, if_false]
  split
  · have : ((xs.length : Int) - min v (xs.length : Int) - 1) / 3 ≤ (xs.length : Int) - min v (xs.length : Int) - 1 := Int.ediv_le_self _ (by omega)
    omega
  · simp
theorem pick_mem {α : Type} {xs : List α} {lo hi : Option Int} {st : Int} {x : α} (h : x ∈ pickT xs lo hi st) : x ∈ xs := by
  unfold pickT at h
  obtain ⟨k, _, e⟩ := List.mem_filterMap.mp h
  exact List.mem_of_getElem? e
theorem pick_map {α β : Type} (f : α → β) (xs : List α) (lo hi : Option Int) (st : Int) : pickT (xs.map f) lo hi st = (pickT xs lo hi st).map f := by
  unfold pickT
  rw [List.length_map, List.map_filterMap]
  congr 1
  funext k
  rw [List.getElem?_map]
theorem law_ok (ns : List Int) (hl : ns.length ≤ 63) : callN Pr deep 24 [.ref 0] [.rol (ns.map .int)] (fun d _ => d = .bl true) fun _ _ => False := by
  show callN Pr (7 + 1) 24 _ _ _ _
  refine callN_s (d := d24) rfl rfl ?_
  have sz := PySem.sizeLine_eq
  have b62 := B62_eq
  have b30 := B30_eq
  have hs : ([.rol (ns.map .int)] : MH)[0]? = some (.rol (ns.map .int)) := rfl
  generalize ([.rol (ns.map .int)] : MH) = h0 at hs
  rw [← List.take_append_drop 5 d24.body, wSs_app]
  have tl := @tail_ok
  generalize d24.body.drop 5 = T at tl
  simp [d24]
  refine posts_ok (n := 6) fun w0 i0 => ?_
  refine mates_ok (n := 6) fun w1 i1 => ?_
  refine unlike_ok (n := 5) (hu := 3) rfl (by omega) fun w2 h2 i2 X2 => ?_
  refine unlike_ok (n := 5) (hu := 1) rfl (by omega) fun w3 h3 i3 X3 => ?_
  refine ups_ok (n := 5) (hu := 3) rfl (by omega) fun w4 h4 i4 X4 => ?_
  refine unlike_ok (n := 5) (hu := 2) rfl (by omega) fun w5 h5 i5 X5 => ?_
  have X05 : Ex h0 h5 := ((X2.trans X3).trans X4).trans X5
  refine ⟨by omega, ?_⟩
  have hs6 := get_app (o2 := MO.lst [w0, w1, w2, w3, w4, w5]) (X05.get hs)
  have t6 : (h5 ++ [MO.lst [w0, w1, w2, w3, w4, w5]])[h5.length]? = some (.lst [w0, w1, w2, w3, w4, w5]) := get_new
  generalize h5 ++ [MO.lst [w0, w1, w2, w3, w4, w5]] = h6 at hs6 t6
  refine feed_ok (n := 5) (b := 1000) hs6 (by omega) (by omega) fun h7 X7 L7 F7 => ?_
  refine take_ok (n := 5) (F7 : Feed h7 h6.length (999 + 1)) (by omega) (by omega) fun v h8 v0 v1 F8 X8 => ?_
  have nf : h5.length ≠ h6.length := Nat.ne_of_lt (get_lt t6)
  have t8 := X8.get (X7.get t6) nf
  have hs8 := X8.get (X7.get hs6) (Nat.ne_of_lt (get_lt hs6))
  obtain ⟨w, iw, hat⟩ : ∃ w, IsW w ∧ atI [w0, w1, w2, w3, w4, w5] v = some w := by
    rcases (by omega : v = 0 ∨ v = 1 ∨ v = 2 ∨ v = 3 ∨ v = 4 ∨ v = 5) with rfl | rfl | rfl | rfl | rfl | rfl
    · exact ⟨w0, i0, rfl⟩
    · exact ⟨w1, i1, rfl⟩
    · exact ⟨w2, i2, rfl⟩
    · exact ⟨w3, i3, rfl⟩
    · exact ⟨w4, i4, rfl⟩
    · exact ⟨w5, i5, rfl⟩
  rw [ix_ref (lst_at t8), hat]
  simp
  refine ⟨by omega, ?_⟩
  rw [it_rng1 (by omega) (by omega)]
  simp
  have f8 : h6.length < h8.length := F8.lt
  refine loop_of (fun l en h' => ∃ (i : Nat) (ws : List D) (e4 : Option D), l = ((List.range 4).drop i).map (fun (k : Nat) => D.int k) ∧ ws.length = i + 1 ∧ en = [some (.ref 0), some (.ref h5.length), some (.ref h6.length), some (.ref h8.length), e4, none, none, none] ∧ h'[h8.length]? = some (.lst ws) ∧ (∀ d ∈ ws, IsW d) ∧ h'[0]? = some (.rol (ns.map .int)) ∧ Feed h' h6.length 900) (fun _ _ _ _ => stand_nil) ?_ ?_ _ _ _ ⟨0, [w], none, rfl, rfl, rfl, get_new, (fun d hd => by simp at hd; subst hd; exact iw), get_app hs8, (F8.mono (by omega)).app⟩
  · rintro en h9 ⟨i, ws, e4, e1, e2, rfl, g9, iW, s9, F9⟩
    have hi : 4 ≤ i := by
      by_cases c : 4 ≤ i
      · exact c
      · rcases (by omega : i = 0 ∨ i = 1 ∨ i = 2 ∨ i = 3) with rfl | rfl | rfl | rfl <;> cases e1
    match ws, e2, iW, g9 with
    | [wa], e2, iW, g9 => simp at e2; omega
    | wa :: wb :: wr, e2, iW, g9 =>
      obtain ⟨a, b, R, rfl, sm⟩ := iW wb (by simp)
      have at1 : atI (wa :: D.tup [.int a, .int b, .tup (R.map rowD)] :: wr) 1 = some (D.tup [.int a, .int b, .tup (R.map rowD)]) := atI_nat (j := 1) rfl
      have t0 : atI [D.int a, .int b, .tup (R.map rowD)] 0 = some (.int a) := rfl
      have t1 : atI [D.int a, .int b, .tup (R.map rowD)] 1 = some (.int b) := rfl
      have t2 : atI [D.int a, .int b, .tup (R.map rowD)] 2 = some (.tup (R.map rowD)) := rfl
      have ixw : ∀ h', h'[h8.length]? = some (.lst (wa :: D.tup [.int a, .int b, .tup (R.map rowD)] :: wr)) → ixop (.ref h8.length) (.int 1) h' = some (D.tup [.int a, .int b, .tup (R.map rowD)]) := fun h' e => by rw [ix_ref (lst_at e), at1]
      simp [ixw _ g9, t0, t1, t2]
      by_cases c1 : a = 4
      · by_cases c2 : b = 3
        · simp [c1, c2]
          refine take_ok (n := 5) (F9.mono (by omega : 899 + 1 ≤ 900)) (by omega) (by omega) fun z h10 z0 z1 F10 X10 => ?_
          have pl := pick_len R z0
          have sp : PQ (slSop (.tup (R.map rowD)) (some z) none 3 h10) = fun q => (pickT R (some z) none 3).length ≤ sizeLine ∧ q (.tup ((pickT R (some z) none 3).map rowD)) h10 := by
            funext q
            show PQ (if (3 : Int) ≠ 0 ∧ (3 : Int) ≠ 1 ∧ (pickT (R.map rowD) (some z) none 3).length ≤ sizeLine then some (D.tup (pickT (R.map rowD) (some z) none 3), h10) else none) q = _
            rw [pq_ite, pick_map, List.length_map]
            simp
          have ne8 : h8.length ≠ h6.length := by omega
          have g10 := X10.get g9 ne8
          simp [sp]
          have := sm.1
          refine ⟨by omega, by omega, ?_⟩
          rw [set_ix (p := 1) g10 (by unfold ixN; rw [if_pos (by decide), if_pos (by simp; omega)]; rfl)]
          simp
          refine tl rfl (get_set g10) fun d hd => ?_
          simp at hd
          rcases hd with rfl | rfl | hd
          · exact iW _ (by simp)
          · exact ⟨4, 3, pickT R (some z) none 3, rfl, by omega, fun r hr => sm.2 r (pick_mem hr)⟩
          · exact iW _ (by simp [hd])
        · simp [c1, c2]
          exact tl rfl g9 iW
      · simp [c1]
        exact tl rfl g9 iW
  · rintro x l en h9 K ⟨i, ws, e4, e1, e2, rfl, g9, iW, s9, F9⟩ hK
    have hi : i < 4 := by
      by_cases c : i < 4
      · exact c
      · have : (List.range 4).drop i = [] := List.drop_eq_nil_of_le (by simp; omega)
        rw [this] at e1
        cases e1
    have ex : x = .int (i : Int) ∧ l = ((List.range 4).drop (i + 1)).map fun (k : Nat) => D.int k := by
      rcases (by omega : i = 0 ∨ i = 1 ∨ i = 2 ∨ i = 3) with rfl | rfl | rfl | rfl <;> exact ⟨(List.cons.inj e1).1, (List.cons.inj e1).2⟩
    obtain ⟨rfl, rfl⟩ := ex
    simp
    refine ⟨recv_ref g9, ?_⟩
    refine feed_ok (n := 5) (b := 900) s9 (by omega) (by omega) fun h10 X10 L10 F10 => ?_
    try simp
    refine ⟨by omega, ?_⟩
    have g10 := get_app (o2 := MO.lst [D.int 3, D.int 4]) (X10.get g9)
    have s10 := get_app (o2 := MO.lst [D.int 3, D.int 4]) (X10.get s9)
    have F10b := (F9.ex X10).app (o := MO.lst [D.int 3, D.int 4])
    have F10' := F10.app (o := MO.lst [D.int 3, D.int 4])
    have L : (h10 ++ [MO.lst [D.int 3, D.int 4]])[h10.length]? = some (.lst [D.int 3, D.int 4]) := get_new
    have lt9 := F9.lt
    have lt10 := X10.len
    generalize h10 ++ [MO.lst [D.int 3, D.int 4]] = h11 at g10 s10 F10b F10' L
    obtain ⟨mo, hmo, hat2⟩ : ∃ mo : Int, (1 ≤ mo ∧ mo ≤ 4) ∧ atI [D.int 3, D.int 4] (if i = 0 then 1 else 0) = some (.int mo) := by
      by_cases c : i = 0
      · exact ⟨4, by omega, by rw [if_pos c]; rfl⟩
      · exact ⟨3, by omega, by rw [if_neg c]; rfl⟩
    rw [ix_ref (lst_at L), hat2]
    simp
    refine wish_ok (n := 4) (F10'.mono (by omega : 800 + 70 ≤ 900)) hmo fun hu wi rows h12 q1 q2 q3 q4 q5 F12 X12 => ?_
    have n1 : h8.length ≠ h9.length := Nat.ne_of_lt (get_lt g9)
    have g12 := X12.get g10 n1
    have s12 := X12.get s10 (Nat.ne_of_lt (get_lt s9))
    have F12b : Feed h12 h6.length 900 := by
      obtain ⟨c, k, r, e, a1, a2⟩ := F10b
      exact ⟨c, k, r, X12.get e (Nat.ne_of_lt lt9), a1, a2⟩
    rw [m_append g12 (by omega)]
    simp
    refine hK _ _ ⟨i + 1, ws ++ [_], _, rfl, by simp [e2], rfl, get_set g12, fun d hd => ?_, get_set_ne s12 ?_, F12b.set (by omega)⟩
    · rcases List.mem_append.mp hd with hd | hd
      · exact iW d hd
      · simp at hd
        subst hd
        exact ⟨hu, wi, rows, rfl, small_all (by omega) (by omega) q4 q5⟩
    · have := get_lt hs6
      omega
end Mp
namespace Mp
open PySem PySem.Spec PyProof.Rows L2
def topS (i : Nat) : Stmt := PySem.Challenge.pw_seesofar_k02_rows_that_live.main.body.getD i (.Pass ⟨0, 0, 0, 0⟩)
def rows : List Row := [⟨4, "all_rows", 1, ["hues", "wide", "found", "place", "longer", "row", "choice"]⟩,
  ⟨5, "unlike", 2, ["hues", "row"]⟩,
  ⟨6, "posts", 3, []⟩,
  ⟨7, "mates", 4, []⟩,
  ⟨8, "ups", 5, ["hues", "rows", "row"]⟩,
  ⟨21, "comes_again", 6, ["rows", "row", "met", "line", "here", "other"]⟩,
  ⟨22, "living", 7, ["wish", "row"]⟩,
  ⟨9, "_law_mix", 9, ["cell", "k", "by"]⟩,
  ⟨10, "_law_feed", 10, ["script", "k", "cell"]⟩,
  ⟨11, "_law_take", 11, ["feed", "many", "found"]⟩,
  ⟨12, "_law_all_rows", 12, ["hues", "wide", "found", "place", "longer", "row", "choice"]⟩,
  ⟨13, "_law_wish", 13, ["feed", "most", "hues", "wide", "level", "rows", "row"]⟩,
  ⟨23, "_law_alive", 14, ["wish", "found", "row", "met", "at", "again", "some", "other"]⟩,
  ⟨24, "law", 15, ["script", "told", "feed", "wishes", "k", "wish", "due", "found"]⟩]
def gcs : List (Str × Int) := []
theorem rows_ok : ∀ r ∈ rows, rowB (tbOf rows gcs) Pr (topS r.i) r = true ∧ (rows.find? fun s => s.f == r.f) = some r ∧
    ∀ df, Pr r.f = some df → ∀ (kV doc pm : Value) (an : Option Addr) (cdv ct : Value) (us : List Value), us.length = (r.N.take df.np).length → bindArgs (PySem.W.fnOf r.x r.x (defArgs (topS r.i)) (defBody (topS r.i)) (defScope (topS r.i)) .none kV doc pm an cdv ct) ⟨us, []⟩ = pure ((r.N.take df.np).zip us) := by
  intro r hr
  rcases List.mem_cons.mp hr with rfl | hr
  · exact ⟨by decide +kernel, rfl, fun df hd => by cases hd; exact fun _ _ _ _ _ _ us hl => match us, hl with | [_, _], _ => rfl⟩
  rcases List.mem_cons.mp hr with rfl | hr
  · exact ⟨by decide +kernel, rfl, fun df hd => by cases hd; exact fun _ _ _ _ _ _ us hl => match us, hl with | [_], _ => rfl⟩
  rcases List.mem_cons.mp hr with rfl | hr
  · exact ⟨by decide +kernel, rfl, fun df hd => by cases hd; exact fun _ _ _ _ _ _ us hl => match us, hl with | [], _ => rfl⟩
  rcases List.mem_cons.mp hr with rfl | hr
  · exact ⟨by decide +kernel, rfl, fun df hd => by cases hd; exact fun _ _ _ _ _ _ us hl => match us, hl with | [], _ => rfl⟩
  rcases List.mem_cons.mp hr with rfl | hr
  · exact ⟨by decide +kernel, rfl, fun df hd => by cases hd; exact fun _ _ _ _ _ _ us hl => match us, hl with | [_], _ => rfl⟩
  rcases List.mem_cons.mp hr with rfl | hr
  · exact ⟨by decide +kernel, rfl, fun df hd => by cases hd; exact fun _ _ _ _ _ _ us hl => match us, hl with | [_, _], _ => rfl⟩
  rcases List.mem_cons.mp hr with rfl | hr
  · exact ⟨by decide +kernel, rfl, fun df hd => by cases hd; exact fun _ _ _ _ _ _ us hl => match us, hl with | [_], _ => rfl⟩
  rcases List.mem_cons.mp hr with rfl | hr
  · exact ⟨by decide +kernel, rfl, fun df hd => by cases hd; exact fun _ _ _ _ _ _ us hl => match us, hl with | [_, _], _ => rfl⟩
  rcases List.mem_cons.mp hr with rfl | hr
  · exact ⟨by decide +kernel, rfl, fun df hd => by cases hd; exact fun _ _ _ _ _ _ us hl => match us, hl with | [_, _], _ => rfl⟩
  rcases List.mem_cons.mp hr with rfl | hr
  · exact ⟨by decide +kernel, rfl, fun df hd => by cases hd; exact fun _ _ _ _ _ _ us hl => match us, hl with | [_, _], _ => rfl⟩
  rcases List.mem_cons.mp hr with rfl | hr
  · exact ⟨by decide +kernel, rfl, fun df hd => by cases hd; exact fun _ _ _ _ _ _ us hl => match us, hl with | [_, _], _ => rfl⟩
  rcases List.mem_cons.mp hr with rfl | hr
  · exact ⟨by decide +kernel, rfl, fun df hd => by cases hd; exact fun _ _ _ _ _ _ us hl => match us, hl with | [_, _], _ => rfl⟩
  rcases List.mem_cons.mp hr with rfl | hr
  · exact ⟨by decide +kernel, rfl, fun df hd => by cases hd; exact fun _ _ _ _ _ _ us hl => match us, hl with | [_], _ => rfl⟩
  rcases List.mem_cons.mp hr with rfl | hr
  · exact ⟨by decide +kernel, rfl, fun df hd => by cases hd; exact fun _ _ _ _ _ _ us hl => match us, hl with | [_], _ => rfl⟩
  cases hr
end Mp
open PySem PySem.W PyProof.Rows
set_option maxHeartbeats 0 in
theorem PySem.Challenge.cw_seesofar_k02_rows_that_live_holds : PySem.Challenge.rw_seesofar_k02_rows_that_live.Holds := by
  w_on; o_law; k_head; (case hw => w_witness2)
  k_fill
  refine Mp.law_mini (l := PySem.Challenge.rw_seesofar_k02_rows_that_live) (n := 63) (k := Mp.deep) (f := 24) (Pr := Mp.Pr) (rows := Mp.rows) (gcs := Mp.gcs) (top := Mp.topS) rfl (by decide) rfl ⟨rfl, by decide, by decide⟩ (fun w h Y => PySem.W.kIn_of Y) rfl ⟨_, rfl, rfl⟩ Mp.rows_ok ?F (fun ns hl => Mp.law_ok ns hl)
  case F =>
    intro w
    refine ⟨?mpL, ?mpA, ?mpN, ?mpG⟩
    case mpL => first | rfl | decide +kernel
    case mpA =>
      refine' Mp.AllAt.cons (Mp.fnAt_mk ?fa ?fl ?fc ?fk) ?_
      (case fa => k_is); (case fl => k_is); (case fc => k_is); (case fk => k_is)
      refine' Mp.AllAt.cons (Mp.fnAt_mk ?fa ?fl ?fc ?fk) ?_
      (case fa => k_is); (case fl => k_is); (case fc => k_is); (case fk => k_is)
      refine' Mp.AllAt.cons (Mp.fnAt_mk ?fa ?fl ?fc ?fk) ?_
      (case fa => k_is); (case fl => k_is); (case fc => k_is); (case fk => k_is)
      refine' Mp.AllAt.cons (Mp.fnAt_mk ?fa ?fl ?fc ?fk) ?_
      (case fa => k_is); (case fl => k_is); (case fc => k_is); (case fk => k_is)
      refine' Mp.AllAt.cons (Mp.fnAt_mk ?fa ?fl ?fc ?fk) ?_
      (case fa => k_is); (case fl => k_is); (case fc => k_is); (case fk => k_is)
      refine' Mp.AllAt.cons (Mp.fnAt_mk ?fa ?fl ?fc ?fk) ?_
      (case fa => k_is); (case fl => k_is); (case fc => k_is); (case fk => k_is)
      refine' Mp.AllAt.cons (Mp.fnAt_mk ?fa ?fl ?fc ?fk) ?_
      (case fa => k_is); (case fl => k_is); (case fc => k_is); (case fk => k_is)
      refine' Mp.AllAt.cons (Mp.fnAt_mk ?fa ?fl ?fc ?fk) ?_
      (case fa => k_is); (case fl => k_is); (case fc => k_is); (case fk => k_is)
      refine' Mp.AllAt.cons (Mp.fnAt_mk ?fa ?fl ?fc ?fk) ?_
      (case fa => k_is); (case fl => k_is); (case fc => k_is); (case fk => k_is)
      refine' Mp.AllAt.cons (Mp.fnAt_mk ?fa ?fl ?fc ?fk) ?_
      (case fa => k_is); (case fl => k_is); (case fc => k_is); (case fk => k_is)
      refine' Mp.AllAt.cons (Mp.fnAt_mk ?fa ?fl ?fc ?fk) ?_
      (case fa => k_is); (case fl => k_is); (case fc => k_is); (case fk => k_is)
      refine' Mp.AllAt.cons (Mp.fnAt_mk ?fa ?fl ?fc ?fk) ?_
      (case fa => k_is); (case fl => k_is); (case fc => k_is); (case fk => k_is)
      refine' Mp.AllAt.cons (Mp.fnAt_mk ?fa ?fl ?fc ?fk) ?_
      (case fa => k_is); (case fl => k_is); (case fc => k_is); (case fk => k_is)
      refine' Mp.AllAt.cons (Mp.fnAt_mk ?fa ?fl ?fc ?fk) ?_
      (case fa => k_is); (case fl => k_is); (case fc => k_is); (case fk => k_is)
      exact Mp.AllAt.nil
    case mpN =>
      refine' Mp.AllNo.cons ?fa ?_; (case fa => k_is)
      refine' Mp.AllNo.cons ?fa ?_; (case fa => k_is)
      refine' Mp.AllNo.cons ?fa ?_; (case fa => k_is)
      refine' Mp.AllNo.cons ?fa ?_; (case fa => k_is)
      refine' Mp.AllNo.cons ?fa ?_; (case fa => k_is)
      refine' Mp.AllNo.cons ?fa ?_; (case fa => k_is)
      refine' Mp.AllNo.cons ?fa ?_; (case fa => k_is)
      refine' Mp.AllNo.cons ?fa ?_; (case fa => k_is)
      refine' Mp.AllNo.cons ?fa ?_; (case fa => k_is)
      refine' Mp.AllNo.cons ?fa ?_; (case fa => k_is)
      refine' Mp.AllNo.cons ?fa ?_; (case fa => k_is)
      refine' Mp.AllNo.cons ?fa ?_; (case fa => k_is)
      refine' Mp.AllNo.cons ?fa ?_; (case fa => k_is)
      refine' Mp.AllNo.cons ?fa ?_; (case fa => k_is)
      refine' Mp.AllNo.cons ?fa ?_; (case fa => k_is)
      refine' Mp.AllNo.cons ?fa ?_; (case fa => k_is)
      exact Mp.AllNo.nil
    case mpG =>
      exact Mp.AllGc.nil
