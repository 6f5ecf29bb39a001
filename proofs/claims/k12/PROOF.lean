import PyProof.Rows.All
import Wide.All
import OpenK.AllK
import Wide.FinOn
import HandS.ForMost
import HandS.TupAny
import HandS.Deep
import HandS.ForExc
import HandS.CallSlots
import HandS.IsInst
import HandS.Zip
import HandS.Small
import HandS.Wide
import HandS.Conv
import HandS.Words
import HandS.Strs
import HandS.Flow
import HandS.TupMul
import HandS.Ends
import KE.KIndexOf
import KE.DataMinMax
import KE.SortData
import KE.SortCalls
import HandS.TupSets
import HandS.SetFor
import PySem.Challenge.RW_seesofar_k12_where_a_wish_breaks
set_option Elab.async false
set_option linter.all false
set_option maxRecDepth 100000
set_option maxHeartbeats 4000000
/-! Mini semantics: data trees, an own heap, a small syntax, and what a piece of it asks (predicate transformers). -/
namespace Mp
open PySem PySem.Spec PyProof.Rows L2

/-- data: trees; what may change stands behind a number -/
inductive D where
  | non | bl (b : Bool) | int (i : Int) | str (x : Str) | tup (xs : List D) | tupN (xs : List D) | ref (n : Nat) | fn (f : Nat)
  deriving Inhabited
inductive MO where
  | lst (xs : List D) | rol (xs : List D) | dic (kvs : List (List Key × D)) | ins (c : Nat) (fs : List (Nat × D))
  deriving Inhabited
abbrev MH := List MO
abbrev En := List (Option D)
structure Exn where
  c : Nat
  fs : List D
abbrev QV := D → MH → Prop
abbrev QX := Exn → MH → Prop
/-- what is wanted of an exception, with the names as they stand -/
abbrev QE := Exn → En → MH → Prop
abbrev Phi := Nat → List D → MH → QV → QX → Prop

/-- the items of a list that stands there -/
def MO.items : MO → Option (List D)
  | .lst xs => some xs
  | .rol xs => some xs
  | _ => none
def lstAt (h : MH) (n : Nat) : Option (List D) := (h[n]?).bind MO.items

/-! ### great numbers, not to be counted out -/
noncomputable def B62s : {n : Int // n = 2 ^ 62} := Classical.choice ⟨⟨2 ^ 62, rfl⟩⟩
noncomputable def B62 : Int := B62s.val
theorem B62_eq : B62 = 2 ^ 62 := B62s.property
noncomputable def B63s : {n : Int // n = 2 ^ 63} := Classical.choice ⟨⟨2 ^ 63, rfl⟩⟩
noncomputable def B63 : Int := B63s.val
theorem B63_eq : B63 = 2 ^ 63 := B63s.property
noncomputable def B64s : {n : Int // n = 2 ^ 64} := Classical.choice ⟨⟨2 ^ 64, rfl⟩⟩
noncomputable def B64 : Int := B64s.val
theorem B64_eq : B64 = 2 ^ 64 := B64s.property
noncomputable def N64s : {n : Nat // n = 2 ^ 64} := Classical.choice ⟨⟨2 ^ 64, rfl⟩⟩
noncomputable def N64 : Nat := N64s.val
theorem N64_eq : N64 = 2 ^ 64 := N64s.property
noncomputable def B30s : {n : Int // n = 1073741824} := Classical.choice ⟨⟨1073741824, rfl⟩⟩
noncomputable def B30 : Int := B30s.val
theorem B30_eq : B30 = 1073741824 := B30s.property
noncomputable def B20s : {n : Int // n = 1000000} := Classical.choice ⟨⟨1000000, rfl⟩⟩
noncomputable def B20 : Int := B20s.val
theorem B20_eq : B20 = 1000000 := B20s.property
noncomputable def N24s : {n : Nat // n = 2 ^ 24} := Classical.choice ⟨⟨2 ^ 24, rfl⟩⟩
noncomputable def N24 : Nat := N24s.val
theorem N24_eq : N24 = 2 ^ 24 := N24s.property
/-! ### as data of the library -/
def pyD : Nat → MH → D → Option PyData
  | 0, _, _ => none
  | n + 1, h, d => match d with
    | .non => some .none
    | .bl b => some (.bool b)
    | .int i => some (.int i)
    | .str x => some (.str x)
    | .tup xs => (xs.mapM (pyD n h)).map .tuple
    | .tupN xs => (xs.mapM (pyD n h)).map .tuple
    | .ref r => match lstAt h r with
      | some xs => (xs.mapM (pyD n h)).map .list
      | none => none
    | .fn _ => none
def eqD (h : MH) (x y : D) : Option Bool :=
  match pyD 65 h x, pyD 65 h y with
  | some a, some b => if SeqAt.shaped a && SeqAt.shaped b then some (PyData.eqv a b) else none
  | _, _ => none
/-- x in xs, by == -/
def inD (h : MH) (x y : D) : Option Bool :=
  match pyD 65 h x, y with
  | some a, .tup _ => match pyD 65 h y with
    | some (.tuple ds) => if SeqAt.shaped a && SeqAt.shaped (.tuple ds) then some (ds.any fun z => PyData.eqv z a) else none
    | _ => none
  | some a, .tupN _ => match pyD 65 h y with
    | some (.tuple ds) => if SeqAt.shaped a && SeqAt.shaped (.tuple ds) then some (ds.any fun z => PyData.eqv z a) else none
    | _ => none
  | some a, .ref _ => match pyD 65 h y with
    | some (.list ds) => if SeqAt.shaped a && SeqAt.shaped (.list ds) then some (ds.any fun z => PyData.eqv z a) else none
    | _ => none
  | _, _ => none
def allInts : List D → Option (List Int)
  | [] => some []
  | .int i :: r => (allInts r).map (i :: ·)
  | _ => none
def allBls : List D → Option (List Bool)
  | [] => some []
  | .bl b :: r => (allBls r).map (b :: ·)
  | _ => none

/-! ### keys -/
def keyOf1 : D → Option Key
  | .int i => some (.inl i)
  | .str x => some (.inr x)
  | _ => none
def keyD : D → Option (List Key)
  | .tup xs => xs.mapM keyOf1
  | _ => none
def getK {α : Type} (kvs : List (List Key × α)) (k : List Key) : Option α := match kvs with
  | [] => none
  | p :: r => if p.1 = k then some p.2 else getK r k
def setK {α : Type} (kvs : List (List Key × α)) (k : List Key) (v : α) : List (List Key × α) := match kvs with
  | [] => [(k, v)]
  | p :: r => if p.1 = k then (p.1, v) :: r else p :: setK r k v
/-- x in y, of dicts too -/
def inX (h : MH) (x y : D) : Option Bool := match y with
  | .ref n => match h[n]? with
    | some (.dic kvs) => (keyD x).map fun k => (getK kvs k).isSome
    | _ => inD h x y
  | _ => inD h x y
/-- the ints from a up to b -/
noncomputable def rgOk (a b : Int) : Bool := decide (-B62 ≤ a ∧ a < B62 ∧ -B62 ≤ b ∧ b < B62 ∧ (b - a).toNat ≤ N24)
def rgD (a b : Int) : List D := (List.range (b - a).toNat).map fun (i : Nat) => .int (a + i)
/-- a slice with a step -/
def pickT {α : Type} (xs : List α) (lo hi : Option Int) (st : Int) : List α :=
  (List.range (Builtin.Slice.slicePlaces (Builtin.Slice.sliceAdjust lo hi st xs.length).1 (Builtin.Slice.sliceAdjust lo hi st xs.length).2 st)).filterMap fun (k : Nat) => xs[((Builtin.Slice.sliceAdjust lo hi st xs.length).1 + (k : Int) * st).toNat]?

/-! ### operations -/
inductive B2 where
  | add | sub | mul | fdiv | mod | pow | shl | shr | band | bxor
inductive C2 where
  | eq | ne | lt | le | gt | ge | isN | notN | inn | nin
abbrev PR := Option (D × MH)
def newL (h : MH) (xs : List D) : PR := if xs.length ≤ sizeLine then some (.ref h.length, h ++ [.lst xs]) else none

noncomputable def binop (o : B2) (x y : D) (h : MH) : PR :=
  match o, x, y with
  | .add, .int i, .int j => some (.int (i + j), h)
  | .sub, .int i, .int j => some (.int (i - j), h)
  | .mul, .tup xs, .int k => if xs ≠ [] ∧ 2 ≤ k ∧ k ≤ 1000 ∧ xs.length ≤ 1000 then some (.tup (List.replicate k.toNat xs).flatten, h) else none
  | .mul, .int i, .int j => if (-B64 < i ∧ i < B64) ∨ (-B64 < j ∧ j < B64) then some (.int (i * j), h) else none
  | .fdiv, .int i, .int j => if 0 < j ∧ j.natAbs.log2 < 9000 then some (.int (i / j), h) else none
  | .mod, .int i, .int j => if 0 < j then some (.int (i % j), h) else none
  | .pow, .int i, .int j => if 0 ≤ j ∧ j ≤ B20 ∧ i.natAbs < N64 then some (.int (i ^ j.toNat), h) else none
  | .shl, .int i, .int j => if 0 ≤ j ∧ j ≤ B20 ∧ i.natAbs < N64 then some (.int (i * 2 ^ j.toNat), h) else none
  | .shr, .int i, .int j => if 0 ≤ j then some (.int (i / 2 ^ j.toNat), h) else none
  | .band, .int i, .int j => some (.int (Builtin.bitAnd i j), h)
  | .bxor, .int i, .int j => some (.int (Builtin.bitXor i j), h)
  | .add, .str a, .str b => if a.length + b.length ≤ sizeLine then some (.str (a ++ b), h) else none
  | .add, .tup a, .tup b => if a.length + b.length ≤ sizeLine then some (.tup (a ++ b), h) else none
  | .add, .ref a, .ref b => match h[a]?, h[b]? with
    | some (.lst xs), some (.lst ys) => newL h (xs ++ ys)
    | _, _ => none
  | _, _, _ => none

def cmpop (o : C2) (x y : D) (h : MH) : Option Bool :=
  match o with
  | .eq => eqD h x y
  | .ne => (eqD h x y).map (!·)
  | .inn => inX h x y
  | .nin => (inX h x y).map (!·)
  | .isN => match y, x with
    | .non, .non => some true
    | .non, _ => some false
    | _, _ => none
  | .notN => match y, x with
    | .non, .non => some false
    | .non, _ => some true
    | _, _ => none
  | .lt => match x, y with
    | .int i, .int j => some (decide (i < j))
    | .tup a, .tup b => match allInts a, allInts b with
      | some ns, some ms => some (HT.lexLt ns ms)
      | _, _ => none
    | _, _ => none
  | .le => match x, y with
    | .int i, .int j => some (decide (i ≤ j))
    | _, _ => none
  | .gt => match x, y with
    | .int i, .int j => some (decide (j < i))
    | _, _ => none
  | .ge => match x, y with
    | .int i, .int j => some (decide (j ≤ i))
    | _, _ => none

def ixop (x y : D) (h : MH) : Option D :=
  match x, y with
  | .tup xs, .int i => atI xs i
  | .tupN xs, .int i => atI xs i
  | .ref n, .int i => (lstAt h n).bind fun xs => atI xs i
  | .ref n, .tup xs => match h[n]? with
    | some (.dic kvs) => (keyD (.tup xs)).bind fun k => getK kvs k
    | _ => none
  | _, _ => none
def cutD (xs : List D) (lo hi : Option Int) : List D := (xs.drop (HT.sIx xs.length 0 lo)).take (HT.sIx xs.length xs.length hi - HT.sIx xs.length 0 lo)
def slop (x : D) (lo hi : Option Int) (h : MH) : PR :=
  match x with
  | .tup xs => some (.tup (cutD xs lo hi), h)
  | .ref n => (lstAt h n).bind fun xs => newL h (cutD xs lo hi)
  | _ => none
def slSop (x : D) (lo hi : Option Int) (st : Int) (h : MH) : PR :=
  match x with
  | .tup xs => if st ≠ 0 ∧ st ≠ 1 ∧ (pickT xs lo hi st).length ≤ sizeLine then some (.tup (pickT xs lo hi st), h) else none
  | _ => none

inductive TY where
  | int | bool | str | tuple
def isT : TY → D → Option Bool
  | _, .fn _ => none
  | .int, .int _ => some true
  | .int, .bl _ => some true
  | .bool, .bl _ => some true
  | .str, .str _ => some true
  | .tuple, .tup _ => some true
  | .tuple, .tupN _ => some true
  | _, _ => some false

def isTupNE : PyData → Bool
  | .tuple (_ :: _) => true
  | _ => false
def isPlainK : PyData → Bool
  | .none => false
  | .tuple _ => false
  | _ => true
/-- sorted of a list's items -/
def sortL (h : MH) (xs : List D) : Option (List D) := match xs.mapM (pyD 65 h) with
  | some ps => if (ps.all fun p => ps.all fun q => PySem.W.alike p q) && (ps.all isTupNE || ps.all isPlainK) && ps.all (fun p => decide (p.depth ≤ 64)) && decide (xs.length ≤ sizeLine)
      then some (((xs.zip ps).mergeSort (PySem.W.dataLe false Prod.snd)).map Prod.fst) else none
  | none => none
/-- the greatest, the least -/
def maxL : List Int → Option Int
  | [] => none
  | x :: r => some (r.foldl max x)
def minL : List Int → Option Int
  | [] => none
  | x :: r => some (r.foldl min x)
/-! each once -/
def ddup {α : Type} [DecidableEq α] : List α → List α
  | [] => []
  | a :: r => if a ∈ r then ddup r else a :: ddup r
def distN (ns : List Int) : Nat := (ddup ns).length
def rowD : D → Option (List Int)
  | .tup xs => allInts xs
  | _ => none
def okRows (rs : List (List Int)) : Bool := decide (rs.length < 64) && rs.all fun r => decide (1 ≤ r.length) && decide (r.length = (rs.headD []).length) && r.all fun x => decide (0 ≤ x) && decide (x < 1000)
def sortU (rs : List (List Int)) : List (List Int) := (ddup rs).mergeSort fun a b => decide (a ≤ b)
/-- built-ins -/
inductive BI where
  | len | all | any | sum | max1 | min1 | max2 | min2 | tupleOf | tupleN | listOf | intOf | strOf | repr | sorted | isinst (t : TY) | dict0 | listRng1 | listRng2 | tupRng1 | tupRng2 | lenSet | sortSet | tupRngD
def BI.two : BI → Bool
  | .max2 => true
  | .min2 => true
  | .listRng2 => true
  | .tupRng2 => true
  | .tupRngD => true
  | _ => false
/-- list methods -/
inductive MT where
  | append | extend | pop0 | pop1 | index | reverse | insert
noncomputable def biop (f : BI) (ds : List D) (h : MH) : PR :=
  match f, ds with
  | .len, [.tup xs] => some (.int xs.length, h)
  | .len, [.tupN xs] => some (.int xs.length, h)
  | .len, [.str x] => if x.length ≤ sizeLine then some (.int x.length, h) else none
  | .len, [.ref n] => match h[n]? with
    | some (.lst xs) => some (.int xs.length, h)
    | some (.rol xs) => some (.int xs.length, h)
    | _ => none
  | .all, [.ref n] => ((lstAt h n).bind allBls).map fun bs => (.bl (bs.all id), h)
  | .any, [.ref n] => ((lstAt h n).bind allBls).map fun bs => (.bl (bs.any id), h)
  | .sum, [.ref n] => ((lstAt h n).bind allInts).map fun bs => (.int bs.sum, h)
  | .sum, [.tup xs] => (allInts xs).map fun bs => (.int bs.sum, h)
  | .max1, [.ref n] => (((lstAt h n).bind allInts).bind maxL).map fun m => (.int m, h)
  | .max1, [.tup xs] => ((allInts xs).bind maxL).map fun m => (.int m, h)
  | .min1, [.ref n] => (((lstAt h n).bind allInts).bind minL).map fun m => (.int m, h)
  | .min1, [.tup xs] => ((allInts xs).bind minL).map fun m => (.int m, h)
  | .max2, [.int i, .int j] => some (.int (if j > i then j else i), h)
  | .min2, [.int i, .int j] => some (.int (if j < i then j else i), h)
  | .tupleOf, [.tup xs] => some (.tup xs, h)
  | .tupleN, [.ref n] => (lstAt h n).map fun xs => (.tupN xs, h)
  | .tupleOf, [.ref n] => (lstAt h n).map fun xs => (.tup xs, h)
  | .listOf, [.tup xs] => newL h xs
  | .listOf, [.tupN xs] => newL h xs
  | .listOf, [.ref n] => (lstAt h n).bind fun xs => newL h xs
  | .intOf, [.int i] => some (.int i, h)
  | .intOf, [.bl b] => some (.int (if b then 1 else 0), h)
  | .strOf, [.int i] => if i.natAbs.log2 < 1920 then some (.str (toString i), h) else none
  | .repr, [d] => match pyD 65 h d with
    | some p => if p.showable && !p.hasDict && decide (p.depth ≤ 64) && decide (p.shown.length ≤ sizeLine) then some (.str p.shown, h) else none
    | none => none
  | .sorted, [.ref n] => ((lstAt h n).bind (sortL h)).bind fun xs => newL h xs
  | .sorted, [.tup xs] => (sortL h xs).bind fun ys => newL h ys
  | .isinst t, [d] => (isT t d).map fun b => (.bl b, h)
  | .dict0, [] => some (.ref h.length, h ++ [.dic []])
  | .listRng1, [.int n] => if rgOk 0 n = true then newL h (rgD 0 n) else none
  | .listRng2, [.int a, .int b] => if rgOk a b = true then newL h (rgD a b) else none
  | .tupRng1, [.int n] => if rgOk 0 n = true then some (.tup (rgD 0 n), h) else none
  | .tupRng2, [.int a, .int b] => if rgOk a b = true then some (.tup (rgD a b), h) else none
  | .tupRngD, [.int a, .int b] => if rgOk b a = true then some (.tup ((List.range (a - b).toNat).map fun (i : Nat) => .int (a - i)), h) else none
  | .lenSet, [.ref n] => ((lstAt h n).bind allInts).bind fun ns => if ns.length ≤ 1000 then some (.int (distN ns), h) else none
  | .lenSet, [.tup xs] => (allInts xs).bind fun ns => if ns.length ≤ 1000 then some (.int (distN ns), h) else none
  | .sortSet, [.ref n] => (lstAt h n).bind fun xs => (xs.mapM rowD).bind fun rs => if okRows rs = true then newL h ((sortU rs).map fun r => .tup (r.map .int)) else none
  | _, _ => none
noncomputable def mtop (m : MT) (o : D) (ds : List D) (h : MH) : PR :=
  match m, o, ds with
  | .index, .tupN xs, [d] => match pyD 65 h (.tupN xs), pyD 65 h d with
    | some (.tuple ds), some a => if SeqAt.shaped a && SeqAt.shaped (.tuple ds) then (ds.findIdx? fun z => PyData.eqv z a).map fun j => (.int (j : Nat), h) else none
    | _, _ => none
  | .append, .ref n, [d] => match h[n]? with
    | some (.lst xs) => if xs.length < sizeLine then some (.non, h.set n (.lst (xs ++ [d]))) else none
    | _ => none
  | .extend, .ref n, [.ref m] => match h[n]?, h[m]? with
    | some (.lst xs), some (.lst ys) => if xs.length + ys.length ≤ sizeLine then some (.non, h.set n (.lst (xs ++ ys))) else none
    | _, _ => none
  | .pop0, .ref n, [] => match h[n]? with
    | some (.lst xs) => match xs[xs.length - 1]? with
      | some y => some (y, h.set n (.lst xs.dropLast))
      | none => none
    | _ => none
  | .reverse, .ref n, [] => match h[n]? with
    | some (.lst xs) => some (.non, h.set n (.lst xs.reverse))
    | _ => none
  | .pop1, .ref n, [.int i] => match h[n]? with
    | some (.lst xs) => if -B63 ≤ i ∧ i < B63 then match seqIndex? i xs.length with
      | some k => match xs[k]? with
        | some y => some (y, h.set n (.lst (xs.eraseIdx k)))
        | none => none
      | none => none else none
    | _ => none
  | .index, .ref n, [d] => match pyD 65 h (.ref n), pyD 65 h d with
    | some (.list ds), some a => if SeqAt.shaped a && SeqAt.shaped (.list ds) then (ds.findIdx? fun z => PyData.eqv z a).map fun j => (.int (j : Nat), h) else none
    | _, _ => none
  | _, _, _ => none
/-- the receiver is of the method's kind -/
def recv (m : MT) (x : D) (h : MH) : Bool := match x with
  | .tupN _ => match m with
    | .index => true
    | _ => false
  | .ref n => (lstAt h n).isSome
  | _ => false
def setIx (o i v : D) (h : MH) : Option MH :=
  match o, i with
  | .ref n, .int k => match h[n]? with
    | some (.lst xs) => (ixN xs.length k).map fun j => h.set n (.lst (xs.set j v))
    | _ => none
  | .ref n, .tup xs => match h[n]? with
    | some (.dic kvs) => if kvs.length < sizeLine then (keyD (.tup xs)).map fun k => h.set n (.dic (setK kvs k v)) else none
    | _ => none
  | _, _ => none

/-! ### what is walked -/
inductive IK where
  | val | rng1 | rng2 | zip
/-- the items, and the lists that must stand as they are meanwhile -/
noncomputable def itemsOf (k : IK) (ds : List D) (h : MH) : Option (List D × List (Nat × List D)) :=
  match k, ds with
  | .val, [.tup xs] => some (xs, [])
  | .val, [.tupN xs] => some (xs, [])
  | .val, [.ref n] => (lstAt h n).map fun xs => (xs, [(n, xs)])
  | .rng1, [.int j] => if -B62 ≤ j ∧ j < B62 then some ((List.range j.toNat).map fun (i : Nat) => .int i, []) else none
  | .rng2, [.int i, .int j] => if -B62 ≤ i ∧ i < B62 ∧ -B62 ≤ j ∧ j < B62 then some ((List.range (j - i).toNat).map fun (k : Nat) => .int (i + k), []) else none
  | .zip, [.tup xs, .tup ys] => some ((xs.zip ys).map fun p => .tup [p.1, p.2], [])
  | .zip, [.ref n, .ref m] => match lstAt h n, lstAt h m with
    | some xs, some ys => some ((xs.zip ys).map fun p => .tup [p.1, p.2], [(n, xs), (m, ys)])
    | _, _ => none
  | _, _ => none
def Stand (S : List (Nat × List D)) (h : MH) : Prop := ∀ p ∈ S, lstAt h p.1 = some p.2

inductive TGt where
  | name (i : Nat) | tup (is : List Nat)
def bindT (t : TGt) (d : D) (en : En) : Option En :=
  match t, d with
  | .name i, d => some (en.set i (some d))
  | .tup is, .tup ds => if is.length = ds.length then some ((is.zip ds).foldl (fun e p => e.set p.1 (some p.2)) en) else none
  | _, _ => none
def TGt.slots : TGt → List Nat
  | .name i => [i]
  | .tup is => is
def wipeD (en : En) (is : List Nat) : En := is.foldr (fun i e => e.set i none) en

/-! ### the small syntax -/
inductive ME where
  | omit
  | var (i : Nat) | cst (d : D)
  | tup (es : List ME) | lst (es : List ME)
  | bin (o : B2) (a b : ME) | neg (a : ME) | not (a : ME)
  | cmp (o : C2) (a b : ME) | chain (o1 o2 : C2) (a b c : ME)
  | and (a b : ME) | or (a b : ME) | ite (c a b : ME)
  | ix (a b : ME) | sl (a lo hi : ME) | slS (a lo hi : ME) (st : Int)
  | call (f : Nat) (es : List ME)
  | callv (i : Nat) (es : List ME)
  | bi (f : BI) (es : List ME)
  | mt (m : MT) (o : ME) (es : List ME)
  | comp (elt : ME) (tg : TGt) (k : IK) (its : List ME) (cond : ME)
  | pick (ks : List (Str × Int)) (a b : ME)
inductive MS where
  | expr (e : ME) | asg (i : Nat) (e : ME) | asgT (is : List Nat) (e : ME) | asgIx (o i e : ME)
  | ifs (c : ME) (a b : List MS) | for_ (tg : TGt) (k : IK) (its : List ME) (body : List MS) | while_ (c : ME) (body : List MS)
  | ret (e : ME) | pass
  | asgO (i : Nat) (a b : ME) | unr | par (i j : Nat) (a b : ME)

def PQ (r : PR) (Q : QV) : Prop := match r with
  | some p => Q p.1 p.2
  | none => False
def OQ {α : Type} (r : Option α) (Q : α → Prop) : Prop := match r with
  | some p => Q p
  | none => False
def isOmit : ME → Bool
  | .omit => true
  | _ => false
def asInt : D → Option Int
  | .int i => some i
  | _ => none
def asBl : D → Option Bool
  | .bl b => some b
  | _ => none
/-- what a small dict of texts and whole numbers tells -/
def pickS (ks : List (Str × Int)) (s : Str) : Option (Option Int) := match valV (mergeK [] (ks.map fun p => ((Sum.inr p.1 : Key), V.int p.2))) (.inr s) with
  | some (.int i) => some (some i)
  | none => some none
  | _ => none
def pickD (ks : List (Str × Int)) : D → Option (Option Int)
  | .str s => pickS ks s
  | _ => none
/-- true or not, of none and tuples -/
def truD : D → Option Bool
  | .non => some false
  | .tup xs => some (!xs.isEmpty)
  | _ => none
def asFn : D → Option Nat
  | .fn f => some f
  | _ => none
/-- a bound that may be left out; a test that may be left out -/
def ifO (om : Bool) (w : QV → QX → Prop) (K : Option Int → MH → Prop) (E : QX) (h : MH) : Prop :=
  if om = true then K none h else w (fun y h2 => OQ (asInt y) fun i => K (some i) h2) E
def ifC (om : Bool) (w : QV → QX → Prop) (K : Bool → MH → Prop) (h : MH) : Prop :=
  if om = true then K true h else w (fun y h2 => OQ (asBl y) fun b => K b h2) (fun _ _ => False)
/-- a for's turns -/
def loopF (S : List (Nat × List D)) (one : D → En → MH → (En → MH → Prop) → Prop) : List D → En → MH → (En → MH → Prop) → Prop
  | [], en, h, nx => Stand S h ∧ nx en h
  | x :: xs, en, h, nx => Stand S h ∧ one x en h fun en2 h2 => loopF S one xs en2 h2 nx
/-- a comprehension's turns -/
def turns (S : List (Nat × List D)) (one : D → MH → (Option D → MH → Prop) → Prop) : List D → List D → MH → (List D → MH → Prop) → Prop
  | [], acc, h, Q => Stand S h ∧ Q acc h
  | x :: xs, acc, h, Q => Stand S h ∧ one x h fun r h' => match r with
    | some y => acc.length < sizeLine ∧ turns S one xs (acc ++ [y]) h' Q
    | none => turns S one xs acc h' Q

section
variable (Φ : Phi)
mutual
@[simp] def wE : ME → En → MH → QV → QX → Prop
  | .omit, _, _, _, _ => False
  | .var i, en, h, Q, _ => OQ (en[i]?.join) fun d => Q d h
  | .cst d, _, h, Q, _ => Q d h
  | .tup es, en, h, Q, E => wEs es en h (fun ds h1 => ds.length ≤ sizeLine ∧ Q (.tup ds) h1) E
  | .lst es, en, h, Q, E => wEs es en h (fun ds h1 => PQ (newL h1 ds) Q) E
  | .bin o a b, en, h, Q, E => wE a en h (fun x h1 => wE b en h1 (fun y h2 => PQ (binop o x y h2) Q) E) E
  | .neg a, en, h, Q, E => wE a en h (fun x h1 => OQ (asInt x) fun i => Q (.int (-i)) h1) E
  | .not a, en, h, Q, E => wE a en h (fun x h1 => OQ (asBl x) fun b => Q (.bl (!b)) h1) E
  | .cmp o a b, en, h, Q, E => wE a en h (fun x h1 => wE b en h1 (fun y h2 => OQ (cmpop o x y h2) fun b => Q (.bl b) h2) E) E
  | .chain o1 o2 a b c, en, h, Q, E => wE a en h (fun x h1 => wE b en h1 (fun y h2 => OQ (cmpop o1 x y h2) fun k => if k = true then wE c en h2 (fun z h3 => OQ (cmpop o2 y z h3) fun b => Q (.bl b) h3) E else Q (.bl false) h2) E) E
  | .and a b, en, h, Q, E => wE a en h (fun x h1 => OQ (asBl x) fun k => if k = true then wE b en h1 Q E else Q (.bl false) h1) E
  | .or a b, en, h, Q, E => wE a en h (fun x h1 => OQ (asBl x) fun k => if k = true then Q (.bl true) h1 else wE b en h1 Q E) E
  | .ite c a b, en, h, Q, E => wE c en h (fun x h1 => OQ (asBl x) fun k => if k = true then wE a en h1 Q E else wE b en h1 Q E) E
  | .ix a b, en, h, Q, E => wE a en h (fun x h1 => wE b en h1 (fun y h2 => OQ (ixop x y h2) fun d => Q d h2) E) E
  | .sl a lo hi, en, h, Q, E => wE a en h (fun x h1 => ifO (isOmit lo) (wE lo en h1) (fun l h2 => ifO (isOmit hi) (wE hi en h2) (fun u h3 => PQ (slop x l u h3) Q) E h2) E h1) E
  | .slS a lo hi st, en, h, Q, E => wE a en h (fun x h1 => ifO (isOmit lo) (wE lo en h1) (fun l h2 => ifO (isOmit hi) (wE hi en h2) (fun u h3 => PQ (slSop x l u st h3) Q) E h2) E h1) E
  | .call f es, en, h, Q, E => wEs es en h (fun ds h1 => Φ f ds h1 Q E) E
  | .callv i es, en, h, Q, E => OQ (en[i]?.join) fun d => OQ (asFn d) fun f => wEs es en h (fun ds h1 => Φ f ds h1 Q E) E
  | .pick ks a b, en, h, Q, E => wE a en h (fun x h1 => wE b en h1 (fun y h2 => OQ (pickD ks x) fun o => Q (o.elim y .int) h2) E) E
  | .bi f es, en, h, Q, E => wEs es en h (fun ds h1 => PQ (biop f ds h1) Q) E
  | .mt m o es, en, h, Q, E => wE o en h (fun x h1 => recv m x h1 = true ∧ wEs es en h1 (fun ds h2 => PQ (mtop m x ds h2) Q) E) E
  | .comp elt tg k its cond, en, h, Q, E => wEs its en h (fun ds h1 => OQ (itemsOf k ds h1) fun p =>
      turns p.2 (fun x h2 Qn => OQ (bindT tg x (wipeD en tg.slots)) fun en2 =>
        ifC (isOmit cond) (wE cond en2 h2) (fun b h3 => if b = true then wE elt en2 h3 (fun y h4 => Qn (some y) h4) (fun _ _ => False) else Qn none h3) h2) p.1 [] h1 fun out h5 => PQ (newL h5 out) Q) E
@[simp] def wEs : List ME → En → MH → (List D → MH → Prop) → QX → Prop
  | [], _, h, Q, _ => Q [] h
  | e :: es, en, h, Q, E => wE e en h (fun x h1 => wEs es en h1 (fun xs h2 => Q (x :: xs) h2) E) E
end
mutual
@[simp] def wS : MS → En → MH → (En → MH → Prop) → QV → QE → Prop
  | .expr e, en, h, nx, _, E => wE Φ e en h (fun _ h1 => nx en h1) fun x h1 => E x en h1
  | .asg i e, en, h, nx, _, E => wE Φ e en h (fun d h1 => nx (en.set i (some d)) h1) fun x h1 => E x en h1
  | .asgT is e, en, h, nx, _, E => wE Φ e en h (fun d h1 => OQ (bindT (.tup is) d en) fun en2 => nx en2 h1) fun x h1 => E x en h1
  | .asgIx o i e, en, h, nx, _, E => wE Φ e en h (fun d h1 => wE Φ o en h1 (fun x h2 => wE Φ i en h2 (fun y h3 => OQ (setIx x y d h3) fun h4 => nx en h4) fun x h1 => E x en h1) fun x h1 => E x en h1) fun x h1 => E x en h1
  | .ifs c a b, en, h, nx, rt, E => wE Φ c en h (fun x h1 => OQ (asBl x) fun k => if k = true then wSs a en h1 nx rt E else wSs b en h1 nx rt E) fun x h1 => E x en h1
  | .for_ tg k its body, en, h, nx, rt, E => wEs Φ its en h (fun ds h1 => OQ (itemsOf k ds h1) fun p =>
      loopF p.2 (fun x en2 h2 nx2 => OQ (bindT tg x en2) fun en3 => wSs body en3 h2 nx2 rt E) p.1 en h1 nx) fun x h1 => E x en h1
  | .while_ c body, en, h, nx, rt, E => ∃ W : Nat → En → MH → Prop, (∃ m, W m en h) ∧ ∀ m en h, W m en h →
      wE Φ c en h (fun x h1 => OQ (asBl x) fun k => if k = true then wSs body en h1 (fun en2 h2 => ∃ m2, m2 < m ∧ W m2 en2 h2) rt E else nx en h1) fun x h1 => E x en h1
  | .ret e, en, h, _, rt, E => wE Φ e en h rt fun x h1 => E x en h1
  | .pass, en, h, nx, _, _ => nx en h
  | .asgO i a b, en, h, nx, _, E => wE Φ a en h (fun d h1 => OQ (truD d) fun k => if k = true then nx (en.set i (some d)) h1 else wE Φ b en h1 (fun d h2 => nx (en.set i (some d)) h2) fun x h1 => E x en h1) fun x h1 => E x en h1
  | .unr, _, _, _, _, _ => False
  | .par i j a b, en, h, nx, _, E => wEs Φ [a, b] en h (fun ds h1 => OQ (bindT (.tup [i, j]) (.tup ds) en) fun en2 => nx en2 h1) fun x h1 => E x en h1
@[simp] def wSs : List MS → En → MH → (En → MH → Prop) → QV → QE → Prop
  | [], en, h, nx, _, _ => nx en h
  | s :: ss, en, h, nx, rt, E => wS s en h (fun en1 h1 => wSs ss en1 h1 nx rt E) rt E
end
end
structure Def where
  np : Nat
  ns : Nat
  body : List MS
/-- a call to so many levels -/
def callN (Pr : Nat → Option Def) : Nat → Phi
  | 0, _, _, _, _, _ => False
  | n + 1, f, ds, h, Q, E => match Pr f with
    | some d => ds.length = d.np ∧ wSs (callN Pr n) d.body (ds.map some ++ List.replicate d.ns none) h (fun _ h2 => Q .non h2) Q fun x _ h2 => E x h2
    | none => False
end Mp
namespace Mp
open PySem PySem.Spec PyProof.Rows L2

/-! ### the own heap and the library's -/
section
variable (K : PySem.W.Frag) (fa : Nat → Option Addr)
/-- a tuple of ours -/
def TupAt (_ : PySem.W.Frag) (H : Hp) (a : Addr) (vs : List V) : Prop := H a = some (.tup vs)
/-- a tuple known to its object, which has no dict -/
def TpnAt (K : PySem.W.Frag) (H : Hp) (a : Addr) (vs : List V) : Prop := (∃ o, H a = some (.frz o (.tup vs)) ∧ o.cls = .type "tuple" ∧ o.dict = none) ∨
  ∃ (o : Obj) (its : Array Value) (n : Nat), K.lookup a = some o ∧ o.cls = .type "tuple" ∧ o.dict = none ∧ o.data = .seq its n ∧ its.size ≤ sizeLine ∧ Vals vs its.toList
theorem TpnAt.sq {H : Hp} {a : Addr} {vs : List V} (x : TpnAt K H a vs) : SqT K H a vs := by
  rcases x with ⟨o, e, _⟩ | ⟨o, its, n, h1, h2, h3, h4, h5, h6⟩
  · exact .inl (.inr ⟨o, e⟩)
  · exact .inr ⟨o, its, n, h1, h2, h4, h5, h6⟩
/-- tuples of both sorts -/
def TupH : HO → Prop
  | .tup _ => True
  | .frz _ (.tup _) => True
  | _ => False
theorem TupAt.sq {H : Hp} {a : Addr} {vs : List V} (x : TupAt K H a vs) : SqT K H a vs := .inl (.inl x)
mutual
inductive RD (ρ : List Addr) (H : Hp) : D → V → Prop
  | non : RD ρ H .non .non
  | bl (b : Bool) : RD ρ H (.bl b) (.bl b)
  | int (i : Int) : RD ρ H (.int i) (.int i)
  | str (x : Str) : RD ρ H (.str x) (.str x)
  | tup {xs : List D} {vs : List V} {a : Addr} : TupAt K H a vs → RDs ρ H xs vs → RD ρ H (.tup xs) (.ref a)
  | tupN {xs : List D} {vs : List V} {a : Addr} : TpnAt K H a vs → RDs ρ H xs vs → RD ρ H (.tupN xs) (.ref a)
  | ref {n : Nat} {a : Addr} : ρ[n]? = some a → RD ρ H (.ref n) (.ref a)
  | fn {f : Nat} {a : Addr} : fa f = some a → RD ρ H (.fn f) (.ref a)
inductive RDs (ρ : List Addr) (H : Hp) : List D → List V → Prop
  | nil : RDs ρ H [] []
  | cons {x : D} {v : V} {xs : List D} {vs : List V} : RD ρ H x v → RDs ρ H xs vs → RDs ρ H (x :: xs) (v :: vs)
end
mutual
/-- a constant of the module -/
inductive KT : D → V → Prop
  | non : KT .non .non
  | int (i : Int) : KT (.int i) (.int i)
  | str (x : Str) : KT (.str x) (.str x)
  | tup {xs : List D} {vs : List V} {a : Addr} {o : Obj} {its : Array Value} {n : Nat} : K.lookup a = some o → o.cls = .type "tuple" → o.dict = none → o.data = .seq its n → its.size ≤ sizeLine → Vals vs its.toList → KTs xs vs → KT (.tupN xs) (.ref a)
inductive KTs : List D → List V → Prop
  | nil : KTs [] []
  | cons {x : D} {v : V} {xs : List D} {vs : List V} : KT x v → KTs xs vs → KTs (x :: xs) (v :: vs)
end
def RO (ρ : List Addr) (H : Hp) (a : Addr) : MO → Prop
  | .lst xs => ∃ vs, H a = some (.lst vs) ∧ RDs K fa ρ H xs vs
  | .rol xs => ∃ o vs, H a = some (.frz o (.lst vs)) ∧ RDs K fa ρ H xs vs
  | .dic kvs => ∃ kws : List (List Key × V), H a = some (.dT kws) ∧ kws.map (·.1) = kvs.map (·.1) ∧ RDs K fa ρ H (kvs.map (·.2)) (kws.map (·.2))
  | _ => False
structure RH (ρ : List Addr) (h : MH) (H : Hp) : Prop where
  len : ρ.length = h.length
  nd : ρ.Nodup
  at_ : ∀ (n : Nat) (o : MO) (a : Addr), h[n]? = some o → ρ[n]? = some a → RO K fa ρ H a o
structure REn (ρ : List Addr) (H : Hp) (en : En) (σ : L2.St) : Prop where
  len : en.length = σ.length
  at_ : ∀ (i : Nat) (d : D), en[i]? = some (some d) → ∃ v, σ[i]? = some (some v) ∧ RD K fa ρ H d v
structure Ext (_ : PySem.W.Frag) (ρ : List Addr) (H : Hp) (ρ2 : List Addr) (H2 : Hp) : Prop where
  pre : ∃ t, ρ2 = ρ ++ t
  tpu : ∀ a u, TupH u → H a = some u → H2 a = some u
  fr : ∀ a o, H a = some o → a ∉ ρ → H2 a = some o
  new : ∀ a, a ∈ ρ2 → a ∉ ρ → H a = none
end
section
variable {K : PySem.W.Frag} {fa : Nat → Option Addr} {ρ ρ1 ρ2 : List Addr} {H H1 H2 : Hp} {h : MH} {a p : Addr} {n : Nat}

mutual
theorem KT.rd : ∀ (d : D) (v : V), KT K d v → RD K fa ρ H d v
  | .non, _, x => by cases x; exact .non
  | .int i, _, x => by cases x; exact .int i
  | .str i, _, x => by cases x; exact .str i
  | .tupN xs, _, x => by
    cases x with
    | tup h1 h2 h3 h4 h5 h6 h7 => exact .tupN (.inr ⟨_, _, _, h1, h2, h3, h4, h5, h6⟩) (KTs.rd xs _ h7)
  | .bl _, _, x => by cases x
  | .tup _, _, x => by cases x
  | .ref _, _, x => by cases x
  | .fn _, _, x => by cases x
theorem KTs.rd : ∀ (ds : List D) (vs : List V), KTs K ds vs → RDs K fa ρ H ds vs
  | [], _, x => by cases x; exact .nil
  | d :: ds, _, x => by cases x with | cons h1 h2 => exact .cons (KT.rd d _ h1) (KTs.rd ds _ h2)
end
theorem Ext.tup (e : Ext K ρ H ρ2 H2) (a : Addr) (vs : List V) (x : TupAt K H a vs) : TupAt K H2 a vs := e.tpu a _ trivial x
theorem Ext.tupN (e : Ext K ρ H ρ2 H2) (a : Addr) (vs : List V) (x : TpnAt K H a vs) : TpnAt K H2 a vs := x.imp (fun ⟨o, z, r⟩ => ⟨o, e.tpu a _ trivial z, r⟩) id
theorem Ext.refl : Ext K ρ H ρ H := ⟨⟨[], by simp⟩, fun _ _ _ x => x, fun _ _ x _ => x, fun a x y => absurd x y⟩
theorem Ext.trans (e : Ext K ρ H ρ1 H1) (f : Ext K ρ1 H1 ρ2 H2) : Ext K ρ H ρ2 H2 := by
  obtain ⟨t, rfl⟩ := e.pre
  obtain ⟨u, rfl⟩ := f.pre
  refine ⟨⟨t ++ u, by rw [List.append_assoc]⟩, fun a vs t x => f.tpu a vs t (e.tpu a vs t x), fun a o x nx => ?_, fun a x nx => ?_⟩
  · refine f.fr a o (e.fr a o x nx) fun m => ?_
    have := e.new a m nx
    rw [x] at this; cases this
  · by_cases m : a ∈ ρ ++ t
    · exact e.new a m nx
    · have q := f.new a x m
      cases r : H a with
      | none => rfl
      | some o => rw [e.fr a o r nx] at q; cases q
/-- what our data lean on is kept -/
structure Mono (K : PySem.W.Frag) (ρ : List Addr) (H : Hp) (ρ2 : List Addr) (H2 : Hp) : Prop where
  pre : ∃ t, ρ2 = ρ ++ t
  tpu : ∀ a u, TupH u → H a = some u → H2 a = some u
theorem Mono.tup (e : Mono K ρ H ρ2 H2) (a : Addr) (vs : List V) (x : TupAt K H a vs) : TupAt K H2 a vs := e.tpu a _ trivial x
theorem Mono.tupN (e : Mono K ρ H ρ2 H2) (a : Addr) (vs : List V) (x : TpnAt K H a vs) : TpnAt K H2 a vs := x.imp (fun ⟨o, z, r⟩ => ⟨o, e.tpu a _ trivial z, r⟩) id
theorem Ext.mo (e : Ext K ρ H ρ2 H2) : Mono K ρ H ρ2 H2 := ⟨e.pre, e.tpu⟩
mutual
theorem RD.mono0 (e : Mono K ρ H ρ2 H2) : ∀ (d : D) (v : V), RD K fa ρ H d v → RD K fa ρ2 H2 d v
  | .non, _, x => by cases x; exact .non
  | .bl b, _, x => by cases x; exact .bl b
  | .int i, _, x => by cases x; exact .int i
  | .str s, _, x => by cases x; exact .str s
  | .tup xs, _, x => by
    cases x with
    | tup h1 h2 => exact .tup (e.tup _ _ h1) (RDs.mono0 e xs _ h2)
  | .tupN xs, _, x => by
    cases x with
    | tupN h1 h2 => exact .tupN (e.tupN _ _ h1) (RDs.mono0 e xs _ h2)
  | .ref n, _, x => by
    cases x with
    | ref h1 =>
      obtain ⟨t, rfl⟩ := e.pre
      refine .ref ?_
      have : n < ρ.length := (List.getElem?_eq_some_iff.mp h1).1
      rw [List.getElem?_append_left this]; exact h1
  | .fn f, _, x => by cases x with | fn h1 => exact .fn h1
theorem RDs.mono0 (e : Mono K ρ H ρ2 H2) : ∀ (ds : List D) (vs : List V), RDs K fa ρ H ds vs → RDs K fa ρ2 H2 ds vs
  | [], _, x => by cases x; exact .nil
  | d :: ds, _, x => by
    cases x with
    | cons h1 h2 => exact .cons (RD.mono0 e d _ h1) (RDs.mono0 e ds _ h2)
end
theorem RD.mono (e : Ext K ρ H ρ2 H2) (d : D) (v : V) (r : RD K fa ρ H d v) : RD K fa ρ2 H2 d v := RD.mono0 e.mo d v r
theorem RDs.mono (e : Ext K ρ H ρ2 H2) (d : List D) (v : List V) (r : RDs K fa ρ H d v) : RDs K fa ρ2 H2 d v := RDs.mono0 e.mo d v r
theorem REn.mono {en : En} {σ : L2.St} (e : Ext K ρ H ρ2 H2) (r : REn K fa ρ H en σ) : REn K fa ρ2 H2 en σ :=
  ⟨r.len, fun i d x => let ⟨v, h1, h2⟩ := r.at_ i d x; ⟨v, h1, h2.mono e⟩⟩
theorem RDs.length : ∀ {ds : List D} {vs : List V}, RDs K fa ρ H ds vs → ds.length = vs.length
  | _, _, .nil => rfl
  | _, _, .cons _ t => by rw [List.length_cons, List.length_cons, RDs.length t]
theorem RDs.get : ∀ {ds : List D} {vs : List V} {i : Nat} {d : D}, RDs K fa ρ H ds vs → ds[i]? = some d → ∃ v, vs[i]? = some v ∧ RD K fa ρ H d v
  | _, _, _, _, .nil, e => by simp at e
  | _, _, 0, _, .cons r _, e => by simp at e; subst e; exact ⟨_, rfl, r⟩
  | _, _, i + 1, d, .cons _ t, e => by
    obtain ⟨u, h1, h2⟩ := RDs.get (i := i) (d := d) t (by simpa using e)
    exact ⟨u, by simpa using h1, h2⟩
theorem RDs.append : ∀ {xs ys : List D} {us ws : List V}, RDs K fa ρ H xs us → RDs K fa ρ H ys ws → RDs K fa ρ H (xs ++ ys) (us ++ ws)
  | _, _, _, _, .nil, s => s
  | _, _, _, _, .cons r t, s => .cons r (RDs.append t s)
theorem RDs.take : ∀ {xs : List D} {us : List V} (n : Nat), RDs K fa ρ H xs us → RDs K fa ρ H (xs.take n) (us.take n)
  | _, _, 0, _ => .nil
  | _, _, _ + 1, .nil => .nil
  | _, _, n + 1, .cons r t => .cons r (RDs.take n t)
theorem RDs.drop : ∀ {xs : List D} {us : List V} (n : Nat), RDs K fa ρ H xs us → RDs K fa ρ H (xs.drop n) (us.drop n)
  | _, _, 0, r => r
  | _, _, _ + 1, .nil => .nil
  | _, _, n + 1, .cons _ t => RDs.drop n t
theorem RDs.set {x : D} {v : V} (r : RD K fa ρ H x v) : ∀ {xs : List D} {us : List V} (i : Nat), RDs K fa ρ H xs us → RDs K fa ρ H (xs.set i x) (us.set i v)
  | _, _, _, .nil => .nil
  | _, _, 0, .cons _ t => .cons r t
  | _, _, i + 1, .cons q t => .cons q (RDs.set r i t)
theorem RDs.reverse {xs : List D} {us : List V} (r : RDs K fa ρ H xs us) : RDs K fa ρ H xs.reverse us.reverse := by
  induction xs generalizing us with
  | nil => cases r; exact .nil
  | cons x xs ih =>
    cases r with
    | cons r t => rw [List.reverse_cons, List.reverse_cons]; exact (ih t).append (.cons r .nil)
theorem RDs.dropLast {xs : List D} {us : List V} (r : RDs K fa ρ H xs us) : RDs K fa ρ H xs.dropLast us.dropLast := by
  rw [List.dropLast_eq_take, List.dropLast_eq_take, r.length]; exact r.take _

/-- no tuple stands there -/
def NoT (o : Option HO) : Prop := ∀ u, TupH u → o ≠ some u
theorem NoT.none : NoT none := fun _ _ z => by cases z
theorem NoT.lst {xs : List V} : NoT (some (.lst xs)) := fun _ t z => by cases z; exact t
theorem NoT.dT {xs : List (List Key × V)} : NoT (some (.dT xs)) := fun _ t z => by cases z; exact t
theorem upd_tup {o u : HO} {b : Addr} (hn : NoT (H p)) (t : TupH u) (x : H b = some u) : upd H p o b = some u := by
  have ne : b ≠ p := by
    rintro rfl
    exact hn _ t x
  rw [upd_ne ne]
  exact x
theorem TupAt.new {vs : List V} : TupAt K (upd H p (.tup vs)) p vs := upd_same
theorem RH.notin (R : RH K fa ρ h H) (hn : H p = none) : p ∉ ρ := by
  intro m
  obtain ⟨n, e⟩ := List.mem_iff_getElem?.mp m
  have hl : n < h.length := by rw [← R.len]; exact (List.getElem?_eq_some_iff.mp e).1
  have r := R.at_ n h[n] p (List.getElem?_eq_getElem hl) e
  cases q : h[n] with
  | lst xs => rw [q] at r; obtain ⟨_, z, _⟩ := r; rw [hn] at z; cases z
  | rol xs => rw [q] at r; obtain ⟨_, _, z, _⟩ := r; rw [hn] at z; cases z
  | dic _ => rw [q] at r; obtain ⟨_, z, _⟩ := r; rw [hn] at z; cases z
  | ins _ _ => rw [q] at r; exact r
/-- a new tuple -/
theorem Ext.newTup {vs : List V} (hn : H p = none) (hp : p ∉ ρ) : Ext K ρ H ρ (upd H p (.tup vs)) :=
  ⟨⟨[], by simp⟩, fun _ _ t x => upd_tup (by rw [hn]; exact .none) t x, fun b o x _ => by rw [upd_ne (ne_of_none x hn)]; exact x, fun b x y => absurd x y⟩
theorem RO.keep {o : MO} (e : Ext K ρ H ρ2 H2) (same : ∀ u, H a = some u → H2 a = some u) (r : RO K fa ρ H a o) : RO K fa ρ2 H2 a o := by
  cases o with
  | lst xs => obtain ⟨vs, e1, r1⟩ := r; exact ⟨vs, same _ e1, r1.mono e⟩
  | rol xs => obtain ⟨o, vs, e1, r1⟩ := r; exact ⟨o, vs, same _ e1, r1.mono e⟩
  | dic _ => obtain ⟨kws, e1, e2, r1⟩ := r; exact ⟨kws, same _ e1, e2, r1.mono e⟩
  | ins _ _ => exact r
theorem Ext.newTpn {o : Obj} {vs : List V} (hn : H p = none) (hp : p ∉ ρ) : Ext K ρ H ρ (upd H p (.frz o (.tup vs))) :=
  ⟨⟨[], by simp⟩, fun _ _ t x => upd_tup (by rw [hn]; exact .none) t x, fun b o x _ => by rw [upd_ne (ne_of_none x hn)]; exact x, fun b x y => absurd x y⟩
theorem RH.newTpn {o : Obj} {vs : List V} (R : RH K fa ρ h H) (hn : H p = none) : RH K fa ρ h (upd H p (.frz o (.tup vs))) :=
  ⟨R.len, R.nd, fun n o b e1 e2 => (R.at_ n o b e1 e2).keep (Ext.newTpn hn (R.notin hn)) fun u q => by rw [upd_ne (ne_of_none q hn)]; exact q⟩
theorem RH.newTup {vs : List V} (R : RH K fa ρ h H) (hn : H p = none) : RH K fa ρ h (upd H p (.tup vs)) :=
  ⟨R.len, R.nd, fun n o b e1 e2 => (R.at_ n o b e1 e2).keep (Ext.newTup hn (R.notin hn)) fun u q => by rw [upd_ne (ne_of_none q hn)]; exact q⟩
/-- a new object that is none of ours -/
theorem Ext.newU {o : HO} (hn : H p = none) : Ext K ρ H ρ (upd H p o) :=
  ⟨⟨[], by simp⟩, fun _ _ t x => upd_tup (by rw [hn]; exact .none) t x, fun b o x _ => by rw [upd_ne (ne_of_none x hn)]; exact x, fun b x y => absurd x y⟩
theorem RH.newU {o : HO} (R : RH K fa ρ h H) (hn : H p = none) : RH K fa ρ h (upd H p o) :=
  ⟨R.len, R.nd, fun n o b e1 e2 => (R.at_ n o b e1 e2).keep (Ext.newU hn) fun u q => by rw [upd_ne (ne_of_none q hn)]; exact q⟩
/-- a list that is none of ours is changed -/
theorem Mono.updU {xs : List V} {o : HO} (he : H p = some (.lst xs)) : Mono K ρ H ρ (upd H p o) := ⟨⟨[], by simp⟩, fun _ _ t x => upd_tup (by rw [he]; exact .lst) t x⟩
theorem RO.keep0 {o : MO} (e : Mono K ρ H ρ2 H2) (same : ∀ u, H a = some u → H2 a = some u) (r : RO K fa ρ H a o) : RO K fa ρ2 H2 a o := by
  cases o with
  | lst xs => obtain ⟨vs, e1, r1⟩ := r; exact ⟨vs, same _ e1, r1.mono0 e⟩
  | rol xs => obtain ⟨o, vs, e1, r1⟩ := r; exact ⟨o, vs, same _ e1, r1.mono0 e⟩
  | dic _ => obtain ⟨kws, e1, e2, r1⟩ := r; exact ⟨kws, same _ e1, e2, r1.mono0 e⟩
  | ins _ _ => exact r
theorem RH.updU {xs : List V} {o : HO} (R : RH K fa ρ h H) (he : H p = some (.lst xs)) (hp : p ∉ ρ) : RH K fa ρ h (upd H p o) :=
  ⟨R.len, R.nd, fun n o b e1 e2 => (R.at_ n o b e1 e2).keep0 (Mono.updU he) fun u q => by rw [upd_ne (show b ≠ p from fun z => hp (by rw [← z]; exact List.mem_of_getElem? e2))]; exact q⟩
theorem Ext.updU {xs : List V} {o : HO} (e : Ext K ρ H ρ2 H2) (hn : H p = none) (he : H2 p = some (.lst xs)) : Ext K ρ H ρ2 (upd H2 p o) :=
  ⟨e.pre, fun a vs t x => upd_tup (by rw [he]; exact .lst) t (e.tpu a vs t x), fun b o x nb => by rw [upd_ne (ne_of_none x hn)]; exact e.fr b o x nb, e.new⟩
/-- it becomes ours -/
theorem RH.adopt {ds : List D} {vs : List V} (R : RH K fa ρ h H) (he : H p = some (.lst vs)) (hp : p ∉ ρ) (r : RDs K fa ρ H ds vs) : RH K fa (ρ ++ [p]) (h ++ [.lst ds]) H := by
  have e : Mono K ρ H (ρ ++ [p]) H := ⟨⟨[p], rfl⟩, fun _ _ _ x => x⟩
  refine ⟨by simp [R.len], ?_, fun n o b e1 e2 => ?_⟩
  · rw [List.nodup_append]
    refine ⟨R.nd, by simp, fun a ha b hb => ?_⟩
    have : b = p := by simpa using hb
    subst this
    rintro rfl
    exact hp ha
  · by_cases hl : n < h.length
    · rw [List.getElem?_append_left hl] at e1
      rw [List.getElem?_append_left (by rw [R.len]; exact hl)] at e2
      exact (R.at_ n o b e1 e2).keep0 e fun u q => q
    · have hn' : n = h.length := by
        have := (List.getElem?_eq_some_iff.mp e1).1
        simp at this; omega
      subst hn'
      simp at e1
      rw [← R.len] at e2
      simp at e2
      subst e1; subst e2
      exact ⟨vs, he, r.mono0 e⟩
theorem Ext.adopt (e : Ext K ρ H ρ2 H2) (hn : H p = none) : Ext K ρ H (ρ2 ++ [p]) H2 := by
  obtain ⟨t, rfl⟩ := e.pre
  refine ⟨⟨t ++ [p], by rw [List.append_assoc]⟩, e.tpu, e.fr, fun a ha na => ?_⟩
  rcases List.mem_append.mp ha with z | z
  · exact e.new a z na
  · have : a = p := by simpa using z
    rw [this]; exact hn
/-- a new list of ours -/
theorem Ext.newLst {o : HO} (hn : H p = none) : Ext K ρ H (ρ ++ [p]) (upd H p o) :=
  ⟨⟨[p], rfl⟩, fun _ _ t x => upd_tup (by rw [hn]; exact .none) t x, fun b o x _ => by rw [upd_ne (ne_of_none x hn)]; exact x, fun b x y => by
    rcases List.mem_append.mp x with z | z
    · exact absurd z y
    · have : b = p := by simpa using z
      rw [this]; exact hn⟩
theorem RH.newO {d : MO} {u : HO} (R : RH K fa ρ h H) (hn : H p = none) (r : RO K fa (ρ ++ [p]) (upd H p u) p d) : RH K fa (ρ ++ [p]) (h ++ [d]) (upd H p u) := by
  have e := Ext.newLst (K := K) (ρ := ρ) (o := u) hn
  refine ⟨by simp [R.len], ?_, fun n o b e1 e2 => ?_⟩
  · rw [List.nodup_append]
    refine ⟨R.nd, by simp, fun a ha b hb => ?_⟩
    have : b = p := by simpa using hb
    subst this
    rintro rfl
    exact R.notin hn ha
  · by_cases hl : n < h.length
    · rw [List.getElem?_append_left hl] at e1
      rw [List.getElem?_append_left (by rw [R.len]; exact hl)] at e2
      exact (R.at_ n o b e1 e2).keep e fun u q => by rw [upd_ne (ne_of_none q hn)]; exact q
    · have hn' : n = h.length := by
        have := (List.getElem?_eq_some_iff.mp e1).1
        simp at this; omega
      subst hn'
      simp at e1
      rw [← R.len] at e2
      simp at e2
      subst e1; subst e2
      exact r
theorem RH.newLst {ds : List D} {vs : List V} (R : RH K fa ρ h H) (hn : H p = none) (r : RDs K fa ρ H ds vs) : RH K fa (ρ ++ [p]) (h ++ [.lst ds]) (upd H p (.lst vs)) :=
  R.newO hn ⟨vs, upd_same, r.mono (Ext.newLst hn)⟩
/-- an object of ours is changed -/
theorem Ext.setO {o : HO} (hp : p ∈ ρ) (he : NoT (H p)) : Ext K ρ H ρ (upd H p o) :=
  ⟨⟨[], by simp⟩, fun _ _ t x => upd_tup he t x, fun b o x nb => by rw [upd_ne (show b ≠ p from fun z => nb (by rw [z]; exact hp))]; exact x, fun b x y => absurd x y⟩
theorem Ext.setLst {xs : List V} {o : HO} (hp : p ∈ ρ) (he : H p = some (.lst xs)) : Ext K ρ H ρ (upd H p o) := Ext.setO hp (by rw [he]; exact .lst)
theorem RO.noT {o : MO} (r : RO K fa ρ H a o) : NoT (H a) := by
  intro vs t q
  cases o with
  | lst xs => obtain ⟨ws, e, _⟩ := r; rw [e] at q; cases q; exact t
  | rol xs => obtain ⟨ob, ws, e, _⟩ := r; rw [e] at q; cases q; exact t
  | dic _ => obtain ⟨ws, e, _⟩ := r; rw [e] at q; cases q; exact t
  | ins _ _ => exact r
theorem RH.setO {d d2 : MO} {u : HO} (R : RH K fa ρ h H) (hh : h[n]? = some d) (ha : ρ[n]? = some p) (r : RO K fa ρ (upd H p u) p d2) : RH K fa ρ (h.set n d2) (upd H p u) := by
  have he := (R.at_ n _ p hh ha).noT
  have e := Ext.setO (K := K) (o := u) (List.mem_of_getElem? ha) he
  have hl : n < h.length := (List.getElem?_eq_some_iff.mp hh).1
  refine ⟨by simp [R.len], R.nd, fun m o b e1 e2 => ?_⟩
  by_cases hm : m = n
  · subst hm
    rw [List.getElem?_set_self hl] at e1
    cases e1
    rw [ha] at e2; cases e2
    exact r
  · rw [List.getElem?_set_ne (Ne.symm hm)] at e1
    have ne : b ≠ p := by
      rintro rfl
      obtain ⟨i1, q1⟩ := List.getElem?_eq_some_iff.mp e2
      obtain ⟨i2, q2⟩ := List.getElem?_eq_some_iff.mp ha
      exact hm ((List.getElem_inj R.nd).mp (q1.trans q2.symm))
    exact (R.at_ m o b e1 e2).keep e fun u q => by rw [upd_ne ne]; exact q
theorem RH.setLst {ds ds2 : List D} {vs : List V} (R : RH K fa ρ h H) (hh : h[n]? = some (.lst ds)) (ha : ρ[n]? = some p) (r : RDs K fa ρ H ds2 vs) : RH K fa ρ (h.set n (.lst ds2)) (upd H p (.lst vs)) := by
  obtain ⟨ws, he, _⟩ := R.at_ n _ p hh ha
  exact R.setO hh ha ⟨vs, upd_same, r.mono (Ext.setLst (List.mem_of_getElem? ha) he)⟩
/-- a list of ours is read -/
theorem RH.lst {xs : List D} (R : RH K fa ρ h H) (e : lstAt h n = some xs) (ha : ρ[n]? = some a) : ∃ vs, SqL K H a vs ∧ RDs K fa ρ H xs vs := by
  unfold lstAt at e
  cases q : h[n]? with
  | none => rw [q] at e; cases e
  | some o =>
    rw [q] at e
    have r := R.at_ n o a q ha
    cases o with
    | lst ys =>
      obtain ⟨vs, e1, r1⟩ := r
      have : ys = xs := by simpa [MO.items] using e
      subst this
      exact ⟨vs, .inl (.inl e1), r1⟩
    | rol ys =>
      obtain ⟨o, vs, e1, r1⟩ := r
      have : ys = xs := by simpa [MO.items] using e
      subst this
      exact ⟨vs, .inl (.inr ⟨o, e1⟩), r1⟩
    | dic _ => cases e
    | ins _ _ => exact r.elim

/-! ### as the library's data -/
theorem mapM_some {α β : Type} {f : α → Option β} : ∀ {xs : List α} {ys : List β}, xs.mapM f = some ys → xs = [] ∧ ys = [] ∨ ∃ x r y s, xs = x :: r ∧ ys = y :: s ∧ f x = some y ∧ r.mapM f = some s
  | [], ys, e => by simp at e; exact .inl ⟨rfl, e⟩
  | x :: r, ys, e => by
    rw [List.mapM_cons] at e
    cases q : f x with
    | none => rw [q] at e; cases e
    | some y =>
      rw [q] at e
      cases q2 : r.mapM f with
      | none => rw [q2] at e; cases e
      | some s =>
        rw [q2] at e
        have : y :: s = ys := Option.some.inj e
        exact .inr ⟨x, r, y, s, rfl, this.symm, q, q2⟩
theorem RDs.dp_of {m : Nat} (ih : ∀ (d : D) (v : V) (p : PyData), RD K fa ρ H d v → pyD m h d = some p → Dp K H v p) : ∀ (ds : List D) (vs : List V) (ps : List PyData), RDs K fa ρ H ds vs → ds.mapM (pyD m h) = some ps → DpAll K H vs ps
  | [], _, ps, x, e => by
    cases x
    rcases mapM_some e with ⟨_, rfl⟩ | ⟨_, _, _, _, z, _⟩
    · exact .nil
    · cases z
  | d :: ds, _, ps, x, e => by
    rcases mapM_some e with ⟨z, _⟩ | ⟨d', r, y, s, z, rfl, e1, e2⟩
    · cases z
    · cases z
      cases x with
      | cons h1 h2 => exact .cons (ih _ _ _ h1 e1) (RDs.dp_of ih ds _ s h2 e2)
theorem RD.dp (R : RH K fa ρ h H) : ∀ (m : Nat) (d : D) (v : V) (p : PyData), RD K fa ρ H d v → pyD m h d = some p → Dp K H v p
  | 0, _, _, _, _, e => by cases e
  | m + 1, d, v, p, x, e => by
    unfold pyD at e
    cases x with
    | non => cases e; exact .non
    | bl b => cases e; exact .bl b
    | int i => cases e; exact .int i
    | str s => cases e; exact .str s
    | tup h1 h2 =>
      simp only [Option.map_eq_some_iff] at e
      obtain ⟨ps, e1, rfl⟩ := e
      exact .tup h1.sq (RDs.dp_of (RD.dp R m) _ _ ps h2 e1)
    | tupN h1 h2 =>
      simp only [Option.map_eq_some_iff] at e
      obtain ⟨ps, e1, rfl⟩ := e
      exact .tup h1.sq (RDs.dp_of (RD.dp R m) _ _ ps h2 e1)
    | @ref n a h1 =>
      simp only at e
      cases q : lstAt h n with
      | none => rw [q] at e; cases e
      | some xs =>
        rw [q] at e
        simp only [Option.map_eq_some_iff] at e
        obtain ⟨ps, e1, rfl⟩ := e
        obtain ⟨vs, s1, s2⟩ := R.lst q h1
        exact .lst s1 (RDs.dp_of (RD.dp R m) _ _ ps s2 e1)
    | fn h1 => cases e
end
end Mp
namespace Mp
open PySem PySem.Spec PyProof.Rows L2

/-! ### readings -/
section
variable (K : PySem.W.Frag) (fa : Nat → Option Addr)
abbrev WE := En → MH → QV → QX → Prop
abbrev WL := En → MH → (List D → MH → Prop) → QX → Prop
/-- what follows a value -/
def Then (ρ : List Addr) (H : Hp) (Q0 : QV) (Q : VK) : Prop := ∀ d h2 v ρ2 H2, Ext K ρ H ρ2 H2 → RH K fa ρ2 h2 H2 → RD K fa ρ2 H2 d v → Q0 d h2 → Q v H2
/-- an exception of ours as it lies: its class, its own dict -/
def RX (xa : Nat → Option (Value × List Str)) (ρ : List Addr) (H : Hp) (x : Exn) (cls : Value) (d : Option Addr) : Prop := ∃ names, xa x.c = some (cls, names) ∧
  ((x.fs = [] ∧ d = none) ∨ ∃ a vs, d = some a ∧ H a = some (.xd (names.zip vs)) ∧ names.length = vs.length ∧ RDs K fa ρ H x.fs vs)
variable (xa : Nat → Option (Value × List Str))
def ThenX (ρ : List Addr) (H : Hp) (E0 : QX) (Wx : Value → Option Addr → Hp → Prop) : Prop := ∀ x h2 cls d ρ2 H2, Ext K ρ H ρ2 H2 → RH K fa ρ2 h2 H2 → RX K fa xa ρ2 H2 x cls d → E0 x h2 → Wx cls d H2
def RE (W : WX) (φ : WE) : TE := fun σ H Q => ∃ ρ en h Q0 E0, RH K fa ρ h H ∧ REn K fa ρ H en σ ∧ φ en h Q0 E0 ∧ Then K fa ρ H Q0 Q ∧ ThenX K fa xa ρ H E0 (fun c d H2 => W c d σ H2)
def RA (W : WX) (φ : WL) : TA := fun σ H Q => ∃ ρ en h Q0 E0, RH K fa ρ h H ∧ REn K fa ρ H en σ ∧ φ en h Q0 E0 ∧
  (∀ ds h2 vs ρ2 H2, Ext K ρ H ρ2 H2 → RH K fa ρ2 h2 H2 → RDs K fa ρ2 H2 ds vs → Q0 ds h2 → Q vs H2) ∧ ThenX K fa xa ρ H E0 (fun c d H2 => W c d σ H2)
end
theorem _root_.L2.PE.wk {X : Cx} {e : Expr} {t t2 : TE} (p : PE X e t) (c : ∀ σ H Q, t2 σ H Q → t σ H Q) : PE X e t2 := ⟨fun pins s σ H Q I q => p.run pins s σ H Q I (c _ _ _ q)⟩
theorem _root_.L2.PT.wk {X : Cx} {e : Expr} {t t2 : TT} (p : PT X e t) (c : ∀ σ H Q, t2 σ H Q → t σ H Q) : PT X e t2 := ⟨fun pins s σ H Q I q => p.run pins s σ H Q I (c _ _ _ q)⟩
theorem _root_.L2.PA.wk {X : Cx} {e : List Expr} {t t2 : TA} (p : PA X e t) (c : ∀ σ H Q, t2 σ H Q → t σ H Q) : PA X e t2 := ⟨fun pos pins s σ H Q I q => p.run pos pins s σ H Q I (c _ _ _ q)⟩
theorem _root_.L2.PS.wk {X : Cx} {e : Stmt} {t t2 : TS} (p : PS X e t) (c : ∀ D σ H, t2 D σ H → t D σ H) : PS X e t2 := ⟨fun pins s σ H D I q => p.run pins s σ H D I (c _ _ _ q)⟩
theorem _root_.L2.PSs.wk {X : Cx} {e : List Stmt} {t t2 : TS} (p : PSs X e t) (c : ∀ D σ H, t2 D σ H → t D σ H) : PSs X e t2 := ⟨fun pins s σ H D I q => p.run pins s σ H D I (c _ _ _ q)⟩

section
variable (K : PySem.W.Frag) (fa : Nat → Option Addr)
def G2 (r : R2) (f : D → D → MH → PR) : Prop := ∀ ρ h H x y v u Q Q0, RH K fa ρ h H → RD K fa ρ H x v → RD K fa ρ H y u → PQ (f x y h) Q0 → Then K fa ρ H Q0 Q → r v u H Q
def G1 (r : V → Hp → VK → Prop) (f : D → MH → PR) : Prop := ∀ ρ h H x v Q Q0, RH K fa ρ h H → RD K fa ρ H x v → PQ (f x h) Q0 → Then K fa ρ H Q0 Q → r v H Q
def GL (r : List V → Hp → VK → Prop) (f : List D → MH → PR) : Prop := ∀ ρ h H xs vs Q Q0, RH K fa ρ h H → RDs K fa ρ H xs vs → PQ (f xs h) Q0 → Then K fa ρ H Q0 Q → r vs H Q
/-- a comparison: the heap stays -/
def GC (r : R2) (f : D → D → MH → Option Bool) : Prop := ∀ ρ h H x y v u Q (Q0 : Bool → Prop), RH K fa ρ h H → RD K fa ρ H x v → RD K fa ρ H y u → OQ (f x y h) Q0 → (∀ b, Q0 b → Q (.bl b) H) → r v u H Q
end

section
variable {K : PySem.W.Frag} {fa : Nat → Option Addr} {ρ : List Addr} {h : MH} {H : Hp} {Q : VK} {Q0 : QV}
theorem Then.ext {ρ1 : List Addr} {H1 : Hp} (e : Ext K ρ H ρ1 H1) (k : Then K fa ρ H Q0 Q) : Then K fa ρ1 H1 Q0 Q := fun d h2 v ρ2 H2 f => k d h2 v ρ2 H2 (e.trans f)
theorem ThenX.ext {xa : Nat → Option (Value × List Str)} {E0 : QX} {Wx : Value → Option Addr → Hp → Prop} {ρ1 : List Addr} {H1 : Hp} (e : Ext K ρ H ρ1 H1) (k : ThenX K fa xa ρ H E0 Wx) : ThenX K fa xa ρ1 H1 E0 Wx :=
  fun x h2 c d ρ2 H2 f => k x h2 c d ρ2 H2 (e.trans f)
theorem Then.here (k : Then K fa ρ H Q0 Q) (R : RH K fa ρ h H) {d : D} {v : V} (r : RD K fa ρ H d v) (q : Q0 d h) : Q v H := k d h v ρ H .refl R r q
/-- a new list is told -/
theorem Then.lst (k : Then K fa ρ H Q0 Q) (R : RH K fa ρ h H) {xs : List D} {vs : List V} (r : RDs K fa ρ H xs vs) (q : PQ (newL h xs) Q0) : vs.length ≤ sizeLine ∧ ∀ p, H p = none → Q (.ref p) (upd H p (.lst vs)) := by
  unfold newL at q
  by_cases hz : xs.length ≤ sizeLine
  · rw [if_pos hz] at q
    refine ⟨by rw [← r.length]; exact hz, fun p hp => ?_⟩
    refine k _ _ _ (ρ ++ [p]) _ (Ext.newLst hp) (R.newLst hp r) (.ref ?_) q
    rw [← R.len]
    simp
  · rw [if_neg hz] at q
    exact False.elim q
/-- a new tuple is told -/
theorem Then.tup (k : Then K fa ρ H Q0 Q) (R : RH K fa ρ h H) {xs : List D} {vs : List V} (r : RDs K fa ρ H xs vs) (q : Q0 (.tup xs) h) : ∀ p, H p = none → Q (.ref p) (upd H p (.tup vs)) := fun p hp =>
  k _ _ _ ρ _ (Ext.newTup hp (R.notin hp)) (R.newTup hp) (.tup (TupAt.new) (r.mono (Ext.newTup hp (R.notin hp)))) q

theorem Then.tpn (k : Then K fa ρ H Q0 Q) (R : RH K fa ρ h H) {xs : List D} {vs : List V} (r : RDs K fa ρ H xs vs) (q : Q0 (.tupN xs) h) : ∀ (p : Addr) (o : Obj), H p = none → o.cls = .type "tuple" → o.dict = none → Q (.ref p) (upd H p (.frz o (.tup vs))) := fun p o hp hc hd =>
  k _ _ _ ρ _ (Ext.newTpn hp (R.notin hp)) (R.newTpn hp) (.tupN (.inl ⟨o, upd_same, hc, hd⟩) (r.mono (Ext.newTpn hp (R.notin hp)))) q

/-! ### operators -/
def rAddS : R2 := fun x y H Q => ∃ i j, x = .str i ∧ y = .str j ∧ i.length + j.length ≤ sizeLine ∧ Q (.str (i ++ j)) H
def rAddX (K : PySem.W.Frag) : R2 := fun x y H Q => (rI0 fun i j => .int (i + j)) x y H Q ∨ rAddS x y H Q ∨ rCatA K x y H Q ∨ rCat x y H Q
theorem op_addX {X : Cx} : OpR X (binaryOp .Add) (rAddX X.K) := op_add.or (op_add_str.or (op_catA.or op_cat))
theorem g_add : G2 K fa (rAddX K) (binop .add) := by
  intro ρ h H x y v u Q Q0 R rx ry hp k
  cases rx with
  | int i =>
    cases ry with
    | int j => exact .inl ⟨i, j, rfl, rfl, k.here R (.int _) hp⟩
    | _ => exact False.elim hp
  | str a =>
    cases ry with
    | str b =>
      have hp : PQ (if a.length + b.length ≤ sizeLine then some (D.str (a ++ b), h) else none) Q0 := hp
      by_cases hz : a.length + b.length ≤ sizeLine
      · rw [if_pos hz] at hp
        exact .inr (.inl ⟨a, b, rfl, rfl, hz, k.here R (.str _) hp⟩)
      · rw [if_neg hz] at hp
        exact False.elim hp
    | _ => exact False.elim hp
  | @tup xs us a s1 r1 =>
    cases ry with
    | @tup ys ws b s2 r2 =>
      have hp : PQ (if xs.length + ys.length ≤ sizeLine then some (D.tup (xs ++ ys), h) else none) Q0 := hp
      by_cases hz : xs.length + ys.length ≤ sizeLine
      · rw [if_pos hz] at hp
        have hp : Q0 (D.tup (xs ++ ys)) h := hp
        refine .inr (.inr (.inl ⟨a, b, us, ws, rfl, rfl, s1.sq, s2.sq, by rw [← r1.length, ← r2.length]; exact hz, fun e => ?_, fun _ e => ?_, fun _ _ => k.tup R (r1.append r2) hp⟩))
        · subst e
          cases r1
          exact k.here R (.tup s2 r2) hp
        · subst e
          cases r2
          rw [List.append_nil] at hp
          exact k.here R (.tup s1 r1) hp
      · rw [if_neg hz] at hp
        exact False.elim hp
    | _ => exact False.elim hp
  | tupN _ _ => exact False.elim hp
  | @ref n a ra =>
    cases ry with
    | @ref m b rb =>
      have hp : PQ (match h[n]?, h[m]? with | some (.lst xs), some (.lst ys) => newL h (xs ++ ys) | _, _ => none) Q0 := hp
      split at hp
      · rename_i xs ys e1 e2
        obtain ⟨us, z1, q1⟩ := R.at_ n _ a e1 ra
        obtain ⟨ws, z2, q2⟩ := R.at_ m _ b e2 rb
        obtain ⟨hz, kk⟩ := k.lst R (q1.append q2) hp
        exact .inr (.inr (.inr ⟨a, b, us, ws, rfl, rfl, z1, z2, by rw [List.length_append] at hz; exact hz, kk⟩))
      · exact False.elim hp
    | _ => exact False.elim hp
  | non => exact False.elim hp
  | bl b => exact False.elim hp
  | fn f => exact False.elim hp

/-- two ints in, an int out -/
theorem g_int {o : B2} {C : Int → Int → Prop} {g : Int → Int → Int} (hi : ∀ i j h Q0, PQ (binop o (.int i) (.int j) h) Q0 → C i j ∧ Q0 (.int (g i j)) h)
    (hn : ∀ x y h Q0, (∀ i j, ¬ (x = .int i ∧ y = .int j)) → PQ (binop o x y h) Q0 → False) : G2 K fa (rI C fun i j => .int (g i j)) (binop o) := by
  intro ρ h H x y v u Q Q0 R rx ry hp k
  have nx : ∀ {P : Prop}, (∀ i j, ¬ (x = .int i ∧ y = .int j)) → P := fun z => (hn x y h Q0 z hp).elim
  cases rx with
  | int i =>
    cases ry with
    | int j => obtain ⟨c, q⟩ := hi i j h Q0 hp; exact ⟨i, j, rfl, rfl, c, k.here R (.int _) q⟩
    | _ => exact nx fun i j z => nomatch z.2
  | _ => exact nx fun i j z => nomatch z.1
theorem ite_PQ {c : Prop} [Decidable c] {r : D × MH} {Q0 : QV} (h : PQ (if c then some r else none) Q0) : c ∧ Q0 r.1 r.2 := by
  by_cases hc : c
  · rw [if_pos hc] at h; exact ⟨hc, h⟩
  · rw [if_neg hc] at h; exact False.elim h
theorem g_sub : G2 K fa (rI (fun _ _ => True) fun i j => .int (i - j)) (binop .sub) := g_int (fun i j h Q0 q => ⟨trivial, q⟩) fun x y h Q0 n q => by
  cases x <;> cases y <;> first | exact q | exact n _ _ ⟨rfl, rfl⟩
def rMulX (K : PySem.W.Frag) : R2 := fun x y H Q => (rI CMul fun i j => .int (i * j)) x y H Q ∨ rRepT K x y H Q
theorem op_mulX {X : Cx} : OpR X (binaryOp .Mult) (rMulX X.K) := op_mul.or op_repT
theorem RDs.many {ρ : List Addr} {H : Hp} {xs : List D} {vs : List V} (r : RDs K fa ρ H xs vs) : ∀ n : Nat, RDs K fa ρ H (List.replicate n xs).flatten (List.replicate n vs).flatten
  | 0 => .nil
  | n + 1 => by
    rw [List.replicate_succ, List.replicate_succ, List.flatten_cons, List.flatten_cons]
    exact r.append (r.many n)
theorem g_mul : G2 K fa (rMulX K) (binop .mul) := by
  intro ρ h H x y v u Q Q0 R rx ry hp k
  cases rx with
  | int i =>
    cases ry with
    | int j =>
      have z := ite_PQ (show PQ (if (-B64 < i ∧ i < B64) ∨ (-B64 < j ∧ j < B64) then some (D.int (i * j), h) else none) Q0 from hp)
      exact .inl ⟨i, j, rfl, rfl, show (-(2 ^ 64) < i ∧ i < 2 ^ 64) ∨ (-(2 ^ 64) < j ∧ j < 2 ^ 64) by rw [← B64_eq]; exact z.1, k.here R (.int _) z.2⟩
    | _ => exact False.elim hp
  | @tup xs us a s1 r1 =>
    cases ry with
    | int n =>
      obtain ⟨⟨c1, c2, c3, c4⟩, q⟩ := ite_PQ (show PQ (if xs ≠ [] ∧ 2 ≤ n ∧ n ≤ 1000 ∧ xs.length ≤ 1000 then some (D.tup (List.replicate n.toNat xs).flatten, h) else none) Q0 from hp)
      refine .inr ⟨a, n, us, rfl, rfl, s1.sq, fun e => c1 ?_, c2, c3, by rw [← r1.length]; exact c4, k.tup R (r1.many _) q⟩
      have := r1.length
      rw [e] at this
      exact List.eq_nil_of_length_eq_zero (by simpa using this)
    | _ => exact False.elim hp
  | _ => exact False.elim hp
theorem g_fdiv : G2 K fa (rI CDivW fun i j => .int (i / j)) (binop .fdiv) := g_int (fun i j h Q0 q => ite_PQ q) fun x y h Q0 n q => by
  cases x <;> cases y <;> first | exact q | exact n _ _ ⟨rfl, rfl⟩
theorem g_mod : G2 K fa (rI (fun _ j => 0 < j) fun i j => .int (i % j)) (binop .mod) := g_int (fun i j h Q0 q => ite_PQ q) fun x y h Q0 n q => by
  cases x <;> cases y <;> first | exact q | exact n _ _ ⟨rfl, rfl⟩
theorem g_pow : G2 K fa (rI CPow fun i j => .int (i ^ j.toNat)) (binop .pow) := g_int (fun i j h Q0 q => have z := ite_PQ q; ⟨show 0 ≤ j ∧ j ≤ 1000000 ∧ i.natAbs < 2 ^ 64 by rw [← B20_eq, ← N64_eq]; exact z.1, z.2⟩) fun x y h Q0 n q => by
  cases x <;> cases y <;> first | exact q | exact n _ _ ⟨rfl, rfl⟩
theorem g_shl : G2 K fa (rI CPow fun i j => .int (i * 2 ^ j.toNat)) (binop .shl) := g_int (fun i j h Q0 q => have z := ite_PQ q; ⟨show 0 ≤ j ∧ j ≤ 1000000 ∧ i.natAbs < 2 ^ 64 by rw [← B20_eq, ← N64_eq]; exact z.1, z.2⟩) fun x y h Q0 n q => by
  cases x <;> cases y <;> first | exact q | exact n _ _ ⟨rfl, rfl⟩
theorem g_shr : G2 K fa (rI (fun _ j => 0 ≤ j) fun i j => .int (i / 2 ^ j.toNat)) (binop .shr) := g_int (fun i j h Q0 q => ite_PQ q) fun x y h Q0 n q => by
  cases x <;> cases y <;> first | exact q | exact n _ _ ⟨rfl, rfl⟩
theorem g_band : G2 K fa (rI (fun _ _ => True) fun i j => .int (Builtin.bitAnd i j)) (binop .band) := g_int (fun i j h Q0 q => ⟨trivial, q⟩) fun x y h Q0 n q => by
  cases x <;> cases y <;> first | exact q | exact n _ _ ⟨rfl, rfl⟩
theorem g_bxor : G2 K fa (rI (fun _ _ => True) fun i j => .int (Builtin.bitXor i j)) (binop .bxor) := g_int (fun i j h Q0 q => ⟨trivial, q⟩) fun x y h Q0 n q => by
  cases x <;> cases y <;> first | exact q | exact n _ _ ⟨rfl, rfl⟩
theorem rI_of {X : Cx} {f : Value → Value → Sem Value} {g : Int → Int → V} (p : OpR X f (rI0 g)) : OpR X f (rI (fun _ _ => True) g) := fun pins s σ H x y v u Q I rx ry q =>
  p pins s σ H x y v u Q I rx ry (let ⟨i, j, a, b, _, c⟩ := q; ⟨i, j, a, b, c⟩)
/-- the operators together -/
def opOf : B2 → Operator
  | .add => .Add | .sub => .Sub | .mul => .Mult | .fdiv => .FloorDiv | .mod => .Mod | .pow => .Pow | .shl => .LShift | .shr => .RShift | .band => .BitAnd | .bxor => .BitXor
theorem op_all {X : Cx} (o : B2) : ∃ r, OpR X (binaryOp (opOf o)) r ∧ G2 X.K fa r (binop o) := by
  cases o with
  | add => exact ⟨_, op_addX, g_add⟩
  | sub => exact ⟨_, rI_of op_sub, g_sub⟩
  | mul => exact ⟨_, op_mulX, g_mul⟩
  | fdiv => exact ⟨_, op_fdivW, g_fdiv⟩
  | mod => exact ⟨_, op_mod, g_mod⟩
  | pow => exact ⟨_, op_pow, g_pow⟩
  | shl => exact ⟨_, op_shl, g_shl⟩
  | shr => exact ⟨_, op_shr, g_shr⟩
  | band => exact ⟨_, rI_of op_and, g_band⟩
  | bxor => exact ⟨_, rI_of op_xor, g_bxor⟩

/-! ### comparisons -/
theorem OQ_some {α : Type} {o : Option α} {Q : α → Prop} (h : OQ o Q) : ∃ a, o = some a ∧ Q a := by
  cases o with
  | none => exact False.elim h
  | some a => exact ⟨a, rfl, h⟩
theorem eqD_some {x y : D} {b : Bool} (e : eqD h x y = some b) : ∃ p q, pyD 65 h x = some p ∧ pyD 65 h y = some q ∧ SeqAt.shaped p = true ∧ SeqAt.shaped q = true ∧ b = PyData.eqv p q := by
  unfold eqD at e
  split at e
  · rename_i p q e1 e2
    split at e
    · rename_i c
      rw [Bool.and_eq_true] at c
      exact ⟨p, q, e1, e2, c.1, c.2, (Option.some.inj e).symm⟩
    · cases e
  · cases e
theorem g_eq : GC K fa (rEqD K) (cmpop .eq) := by
  intro ρ h H x y v u Q Q0 R rx ry hp k
  obtain ⟨b, e, q⟩ := OQ_some hp
  obtain ⟨p1, p2, e1, e2, s1, s2, rfl⟩ := eqD_some (show eqD h x y = some b from e)
  exact ⟨p1, p2, rx.dp R _ _ _ _ e1, ry.dp R _ _ _ _ e2, s1, s2, k _ q⟩
theorem g_ne : GC K fa (rNeD K) (cmpop .ne) := by
  intro ρ h H x y v u Q Q0 R rx ry hp k
  obtain ⟨b, e, q⟩ := OQ_some hp
  have e : (eqD h x y).map (!·) = some b := e
  obtain ⟨c, e3, rfl⟩ := Option.map_eq_some_iff.mp e
  obtain ⟨p1, p2, e1, e2, s1, s2, rfl⟩ := eqD_some e3
  exact ⟨p1, p2, rx.dp R _ _ _ _ e1, ry.dp R _ _ _ _ e2, s1, s2, k _ q⟩
def rIs (neg : Bool) : R2 := fun x y H Q => y = .non ∧ Q (.bl (if neg then !decide (x = .non) else decide (x = .non))) H
theorem RD.non_iff {d : D} {v : V} (r : RD K fa ρ H d v) : (v = .non) ↔ d = .non := by
  cases r <;> simp
theorem g_is : GC K fa (fun x y H Q => y = .non ∧ Q (.bl (decide (x = .non))) H) (cmpop .isN) := by
  intro ρ h H x y v u Q Q0 R rx ry hp k
  obtain ⟨b, e, q⟩ := OQ_some hp
  cases y with
  | non =>
    cases ry
    refine ⟨rfl, ?_⟩
    cases rx <;> (cases e; exact k _ q)
  | _ => cases x <;> cases e
theorem g_isn : GC K fa (fun x y H Q => y = .non ∧ Q (.bl (!decide (x = .non))) H) (cmpop .notN) := by
  intro ρ h H x y v u Q Q0 R rx ry hp k
  obtain ⟨b, e, q⟩ := OQ_some hp
  cases y with
  | non =>
    cases ry
    refine ⟨rfl, ?_⟩
    cases rx <;> (cases e; exact k _ q)
  | _ => cases x <;> cases e
theorem RDs.ints : ∀ {ds : List D} {vs : List V} {ns : List Int}, RDs K fa ρ H ds vs → allInts ds = some ns → vs = ns.map V.int
  | [], _, _, .nil, e => by cases e; rfl
  | d :: ds, _, ns, .cons r t, e => by
    cases r with
    | int i =>
      have e : (allInts ds).map (i :: ·) = some ns := e
      obtain ⟨ms, e1, rfl⟩ := Option.map_eq_some_iff.mp e
      rw [RDs.ints t e1]; rfl
    | _ => cases e
theorem RDs.bls : ∀ {ds : List D} {vs : List V} {ns : List Bool}, RDs K fa ρ H ds vs → allBls ds = some ns → vs = ns.map V.bl
  | [], _, _, .nil, e => by cases e; rfl
  | d :: ds, _, ns, .cons r t, e => by
    cases r with
    | bl i =>
      have e : (allBls ds).map (i :: ·) = some ns := e
      obtain ⟨ms, e1, rfl⟩ := Option.map_eq_some_iff.mp e
      rw [RDs.bls t e1]; rfl
    | _ => cases e
def rLtX (K : PySem.W.Frag) : R2 := fun x y H Q => (rI0 fun i j => .bl (decide (i < j))) x y H Q ∨ rLtT K x y H Q
theorem g_lt : GC K fa (rLtX K) (cmpop .lt) := by
  intro ρ h H x y v u Q Q0 R rx ry hp k
  obtain ⟨b, e, q⟩ := OQ_some hp
  cases rx with
  | int i =>
    cases ry with
    | int j => cases e; exact .inl ⟨i, j, rfl, rfl, k _ q⟩
    | _ => cases e
  | @tup xs us a s1 r1 =>
    cases ry with
    | @tup ys ws b' s2 r2 =>
      have e : (match allInts xs, allInts ys with | some ns, some ms => some (HT.lexLt ns ms) | _, _ => none) = some b := e
      split at e
      · rename_i ns ms e1 e2
        cases e
        have z1 := r1.ints e1
        have z2 := r2.ints e2
        subst z1 z2
        exact .inr ⟨a, b', ns, ms, rfl, rfl, s1.sq, s2.sq, k _ q⟩
      · cases e
    | _ => cases e
  | _ => cases y <;> cases e
theorem g_cmpI {o : C2} {p : Int → Int → Bool} (hi : ∀ i j h, cmpop o (.int i) (.int j) h = some (p i j)) (hn : ∀ x y h, (∀ i j, ¬ (x = .int i ∧ y = .int j)) → cmpop o x y h = none) : GC K fa (rI0 fun i j => .bl (p i j)) (cmpop o) := by
  intro ρ h H x y v u Q Q0 R rx ry hp k
  obtain ⟨b, e, q⟩ := OQ_some hp
  have nx : ∀ {P : Prop}, (∀ i j, ¬ (x = .int i ∧ y = .int j)) → P := fun z => by rw [hn x y h z] at e; cases e
  cases rx with
  | int i =>
    cases ry with
    | int j => rw [hi] at e; cases e; exact ⟨i, j, rfl, rfl, k _ q⟩
    | _ => exact nx fun i j z => nomatch z.2
  | _ => exact nx fun i j z => nomatch z.1
theorem g_le : GC K fa (rI0 fun i j => .bl (decide (i ≤ j))) (cmpop .le) := g_cmpI (fun _ _ _ => rfl) fun x y h n => by
  cases x <;> cases y <;> first | rfl | exact absurd ⟨rfl, rfl⟩ (n _ _)
theorem g_gt : GC K fa (rI0 fun i j => .bl (decide (j < i))) (cmpop .gt) := g_cmpI (fun _ _ _ => rfl) fun x y h n => by
  cases x <;> cases y <;> first | rfl | exact absurd ⟨rfl, rfl⟩ (n _ _)
theorem g_ge : GC K fa (rI0 fun i j => .bl (decide (j ≤ i))) (cmpop .ge) := g_cmpI (fun _ _ _ => rfl) fun x y h n => by
  cases x <;> cases y <;> first | rfl | exact absurd ⟨rfl, rfl⟩ (n _ _)

/-- in a list, a tuple -/
def rInX (K : PySem.W.Frag) : R2 := fun x y H Q => ∃ d ds, Dp K H x d ∧ ((Dp K H y (.list ds) ∧ SeqAt.shaped (.list ds) = true) ∨ (Dp K H y (.tuple ds) ∧ SeqAt.shaped (.tuple ds) = true)) ∧ SeqAt.shaped d = true ∧ Q (.bl (ds.any fun z => PyData.eqv z d)) H
def rNiX (K : PySem.W.Frag) : R2 := fun x y H Q => ∃ d ds, Dp K H x d ∧ ((Dp K H y (.list ds) ∧ SeqAt.shaped (.list ds) = true) ∨ (Dp K H y (.tuple ds) ∧ SeqAt.shaped (.tuple ds) = true)) ∧ SeqAt.shaped d = true ∧ Q (.bl (!ds.any fun z => PyData.eqv z d)) H
theorem room_in {X : Cx} {d : PyData} (n : Nat) (s : SeqAt.shaped d = true) (hu : X.A.units + 65 < cLine) : X.A.units + 1 + min n d.depth < cLine := by
  have h1 := SeqAt.depth_of_shaped s
  have h2 : min n d.depth ≤ d.depth := Nat.min_le_right _ _
  omega
theorem op_inX {X : Cx} (hu : X.A.units + 65 < cLine) : OpR X (compareOp .In) (rInX X.K) := by
  intro pins s σ H x y v u Q I rx ry h
  obtain ⟨d, ds, hd, he | he, sd, q⟩ := h
  · exact op_inD hu pins s σ H x y v u Q I rx ry ⟨d, ds, hd, he.1, sd, he.2, q⟩
  · obtain ⟨as, r1⟩ := Dp.reads I d x v hd rx
    obtain ⟨bs, r2⟩ := Dp.reads I (.tuple ds) y u he.1 ry
    exact SeqAt.in_tuple_reads r2 r1 (SeqAt.canLay_of_shaped he.2) (SeqAt.canLay_of_shaped sd) (room_in _ sd hu) ⟨.bl _, H, I, rfl, q⟩
theorem op_niX {X : Cx} (hu : X.A.units + 65 < cLine) : OpR X (compareOp .NotIn) (rNiX X.K) := by
  intro pins s σ H x y v u Q I rx ry h
  obtain ⟨d, ds, hd, he | he, sd, q⟩ := h
  · exact op_notInD hu pins s σ H x y v u Q I rx ry ⟨d, ds, hd, he.1, sd, he.2, q⟩
  · obtain ⟨as, r1⟩ := Dp.reads I d x v hd rx
    obtain ⟨bs, r2⟩ := Dp.reads I (.tuple ds) y u he.1 ry
    exact SeqAt.notIn_tuple_reads r2 r1 (SeqAt.canLay_of_shaped he.2) (SeqAt.canLay_of_shaped sd) (room_in _ sd hu) ⟨.bl _, H, I, rfl, q⟩
theorem inD_some {x y : D} {b : Bool} (e : inD h x y = some b) : ∃ d ds p, pyD 65 h x = some d ∧ pyD 65 h y = some p ∧ (p = .list ds ∨ p = .tuple ds) ∧ SeqAt.shaped d = true ∧ SeqAt.shaped p = true ∧ b = ds.any fun z => PyData.eqv z d := by
  unfold inD at e
  split at e
  · rename_i a _ e1
    split at e
    · rename_i ds e2
      split at e
      · rename_i c
        rw [Bool.and_eq_true] at c
        exact ⟨a, ds, _, e1, e2, .inr rfl, c.1, c.2, (Option.some.inj e).symm⟩
      · cases e
    · cases e
  · rename_i a _ e1
    split at e
    · rename_i ds e2
      split at e
      · rename_i c
        rw [Bool.and_eq_true] at c
        exact ⟨a, ds, _, e1, e2, .inr rfl, c.1, c.2, (Option.some.inj e).symm⟩
      · cases e
    · cases e
  · rename_i a _ e1
    split at e
    · rename_i ds e2
      split at e
      · rename_i c
        rw [Bool.and_eq_true] at c
        exact ⟨a, ds, _, e1, e2, .inl rfl, c.1, c.2, (Option.some.inj e).symm⟩
      · cases e
    · cases e
  · cases e
/-! ### dicts whose keys are tuples -/
theorem keys_of : ∀ {xs : List D} {vs : List V} {k : List Key}, RDs K fa ρ H xs vs → xs.mapM keyOf1 = some k → vs = k.map kV
  | [], _, k, r, e => by
    cases r
    have : k = [] := by simpa using e.symm
    subst this
    rfl
  | x :: xs, _, k, r, e => by
    cases r with
    | cons r1 r2 =>
      rw [List.mapM_cons] at e
      cases q : keyOf1 x with
      | none => rw [q] at e; cases e
      | some y =>
        rw [q] at e
        cases q2 : xs.mapM keyOf1 with
        | none => rw [q2] at e; cases e
        | some ys =>
          rw [q2] at e
          have : k = y :: ys := (Option.some.inj e).symm
          subst this
          rw [keys_of r2 q2]
          cases r1 with
          | int i => cases q; rfl
          | str i => cases q; rfl
          | _ => cases q
theorem key_of {x : D} {v : V} {k : List Key} (r : RD K fa ρ H x v) (e : keyD x = some k) : ∃ b, v = .ref b ∧ H b = some (.tup (k.map kV)) := by
  cases r with
  | @tup xs vs a s1 r1 =>
    have := keys_of r1 (show xs.mapM keyOf1 = some k from e)
    subst this
    exact ⟨a, rfl, s1⟩
  | _ => cases e
theorem val_rel : ∀ {kvs : List (List Key × D)} {kws : List (List Key × V)} (k : List Key), kws.map (·.1) = kvs.map (·.1) → RDs K fa ρ H (kvs.map (·.2)) (kws.map (·.2)) →
    (getK kvs k = none ∧ valV kws k = none) ∨ ∃ d v, getK kvs k = some d ∧ valV kws k = some v ∧ RD K fa ρ H d v
  | [], [], k, _, _ => .inl ⟨rfl, rfl⟩
  | [], _ :: _, k, e, _ => by cases e
  | _ :: _, [], k, e, _ => by cases e
  | p :: kvs, q :: kws, k, e, r => by
    obtain ⟨e1, e2⟩ := List.cons.inj e
    cases r with
    | cons r1 r2 =>
      by_cases h : p.1 = k
      · refine .inr ⟨p.2, q.2, ?_, valV_pos (e1.trans h), r1⟩
        unfold getK
        rw [if_pos h]
      · have h' : ¬ q.1 = k := fun z => h (e1.symm.trans z)
        rw [valV_neg h']
        have : getK (p :: kvs) k = getK kvs k := by
          show (if p.1 = k then _ else _) = _
          rw [if_neg h]
        rw [this]
        exact val_rel k e2 r2
theorem val_dec {kvs : List (List Key × D)} {kws : List (List Key × V)} (k : List Key) (e : kws.map (·.1) = kvs.map (·.1)) (r : RDs K fa ρ H (kvs.map (·.2)) (kws.map (·.2))) : (valV kws k).isSome = (getK kvs k).isSome := by
  rcases val_rel k e r with ⟨a, b⟩ | ⟨d, v, a, b, _⟩ <;> rw [a, b] <;> rfl
theorem any_keys {kws : List (List Key × V)} {k : List Key} : (kws.any fun kv => decide (kv.1 = k)) = true ↔ k ∈ kws.map (·.1) := by
  rw [List.any_eq_true, List.mem_map]
  exact ⟨fun ⟨x, h1, h2⟩ => ⟨x, h1, of_decide_eq_true h2⟩, fun ⟨x, h1, h2⟩ => ⟨x, h1, decide_eq_true h2⟩⟩
theorem put_pos : ∀ {kvs : List (List Key × D)} {kws : List (List Key × V)} {k : List Key} {d : D} {v : V}, kws.map (·.1) = kvs.map (·.1) → RDs K fa ρ H (kvs.map (·.2)) (kws.map (·.2)) → (kws.map (·.1)).Nodup → RD K fa ρ H d v → k ∈ kws.map (·.1) →
    (kws.map fun kv => if kv.1 = k then (kv.1, v) else kv).map (·.1) = (setK kvs k d).map (·.1) ∧ RDs K fa ρ H ((setK kvs k d).map (·.2)) ((kws.map fun kv => if kv.1 = k then (kv.1, v) else kv).map (·.2))
  | [], [], k, d, v, _, _, _, rd, hk => by cases hk
  | [], _ :: _, k, _, _, e, _, _, _, _ => by cases e
  | _ :: _, [], k, _, _, e, _, _, _, _ => by cases e
  | p :: kvs, q :: kws, k, d, v, e, r, nd, rd, hk => by
    obtain ⟨e1, e2⟩ := List.cons.inj e
    have e1 : q.1 = p.1 := e1
    cases r with
    | cons r1 r2 =>
      have nd : (q.1 :: kws.map (·.1)).Nodup := nd
      obtain ⟨n1, n2⟩ := List.nodup_cons.mp nd
      by_cases h : p.1 = k
      · have h' : q.1 = k := e1.trans h
        have hs : setK (p :: kvs) k d = (p.1, d) :: kvs := by
          show (if p.1 = k then _ else _) = _
          rw [if_pos h]
        have rest : (kws.map fun kv => if kv.1 = k then (kv.1, v) else kv) = kws := by
          refine (List.map_congr_left fun z hz => ?_).trans (List.map_id' kws)
          rw [if_neg fun e3 => n1 (by rw [h', ← e3]; exact List.mem_map_of_mem hz)]
        rw [hs, List.map_cons, rest, if_pos h']
        exact ⟨by simp [e1, e2], .cons rd r2⟩
      · have h' : ¬ q.1 = k := fun z => h (e1.symm.trans z)
        have hs : setK (p :: kvs) k d = p :: setK kvs k d := by
          show (if p.1 = k then _ else _) = _
          rw [if_neg h]
        have hk' : k ∈ kws.map (·.1) := by
          rcases List.mem_cons.mp (show k ∈ q.1 :: kws.map (·.1) from hk) with z | z
          · exact absurd z.symm h'
          · exact z
        obtain ⟨i1, i2⟩ := put_pos (d := d) (v := v) e2 r2 n2 rd hk'
        rw [hs, List.map_cons, if_neg h']
        refine ⟨?_, .cons r1 i2⟩
        rw [List.map_cons, List.map_cons, i1, e1]
theorem put_neg : ∀ {kvs : List (List Key × D)} {kws : List (List Key × V)} {k : List Key} {d : D} {v : V}, kws.map (·.1) = kvs.map (·.1) → RDs K fa ρ H (kvs.map (·.2)) (kws.map (·.2)) → RD K fa ρ H d v → k ∉ kws.map (·.1) →
    (kws ++ [(k, v)]).map (·.1) = (setK kvs k d).map (·.1) ∧ RDs K fa ρ H ((setK kvs k d).map (·.2)) ((kws ++ [(k, v)]).map (·.2))
  | [], [], k, d, v, _, _, rd, hk => ⟨rfl, .cons rd .nil⟩
  | [], _ :: _, k, _, _, e, _, _, _ => by cases e
  | _ :: _, [], k, _, _, e, _, _, _ => by cases e
  | p :: kvs, q :: kws, k, d, v, e, r, rd, hk => by
    obtain ⟨e1, e2⟩ := List.cons.inj e
    have e1 : q.1 = p.1 := e1
    cases r with
    | cons r1 r2 =>
      have h : ¬ p.1 = k := fun z => hk (by show k ∈ q.1 :: kws.map (·.1); rw [e1, z]; exact List.mem_cons_self)
      have hs : setK (p :: kvs) k d = p :: setK kvs k d := by
        show (if p.1 = k then _ else _) = _
        rw [if_neg h]
      obtain ⟨i1, i2⟩ := put_neg (d := d) (v := v) e2 r2 rd fun z => hk (List.mem_cons_of_mem _ z)
      rw [hs]
      refine ⟨?_, .cons r1 i2⟩
      show q.1 :: (kws ++ [(k, v)]).map (·.1) = p.1 :: (setK kvs k d).map (·.1)
      rw [i1, e1]
def rInDc : R2 := fun x y H Q => ∃ a o, y = .ref a ∧ DGet H a x o ∧ Q (.bl o.isSome) H
def rNiDc : R2 := fun x y H Q => ∃ a o, y = .ref a ∧ DGet H a x o ∧ Q (.bl (!o.isSome)) H
theorem op_inDc {X : Cx} (hu : X.A.units + 1 < cLine) : OpR X (compareOp .In) rInDc := by
  intro pins s σ H x y v u Q I rx ry h
  obtain ⟨a, o, rfl, g, q⟩ := h
  cases (show u = Value.ref a from ry)
  exact d_in hu I g rx fun s' I' => ⟨.bl o.isSome, H, I', rfl, q⟩
theorem op_niDc {X : Cx} (hu : X.A.units + 1 < cLine) : OpR X (compareOp .NotIn) rNiDc := by
  intro pins s σ H x y v u Q I rx ry h
  obtain ⟨a, o, rfl, g, q⟩ := h
  cases (show u = Value.ref a from ry)
  exact d_notIn hu I g rx fun s' I' => ⟨.bl (!o.isSome), H, I', rfl, q⟩
theorem inX_cases {x y : D} {b : Bool} (e : inX h x y = some b) : inD h x y = some b ∨ ∃ n kvs k, y = .ref n ∧ h[n]? = some (.dic kvs) ∧ keyD x = some k ∧ b = (getK kvs k).isSome := by
  unfold inX at e
  split at e
  · rename_i n
    split at e
    · rename_i kvs e1
      obtain ⟨k, e2, rfl⟩ := Option.map_eq_some_iff.mp e
      exact .inr ⟨n, kvs, k, rfl, e1, e2, rfl⟩
    · exact .inl e
  · exact .inl e
theorem dget_of {x : D} {v : V} {n : Nat} {a : Addr} {kvs : List (List Key × D)} {k : List Key} (R : RH K fa ρ h H) (r : RD K fa ρ H x v) (ra : ρ[n]? = some a) (e1 : h[n]? = some (.dic kvs)) (e2 : keyD x = some k) :
    ∃ kws b, v = .ref b ∧ H a = some (.dT kws) ∧ H b = some (.tup (k.map kV)) ∧ kws.map (·.1) = kvs.map (·.1) ∧ RDs K fa ρ H (kvs.map (·.2)) (kws.map (·.2)) ∧ DGet H a v (valV kws k) := by
  obtain ⟨b, rfl, eb⟩ := key_of r e2
  obtain ⟨kws, h1, h2, h3⟩ := R.at_ n _ a e1 ra
  exact ⟨kws, b, rfl, h1, eb, h2, h3, .t h1 eb⟩
theorem g_in : GC K fa (fun x y H Q => rInX K x y H Q ∨ rInDc x y H Q) (cmpop .inn) := by
  intro ρ h H x y v u Q Q0 R rx ry hp k
  obtain ⟨b, e, q⟩ := OQ_some hp
  rcases inX_cases (show inX h x y = some b from e) with e | ⟨n, kvs, kk, rfl, e1, e2, rfl⟩
  · obtain ⟨d, ds, p, e1, e2, z, s1, s2, rfl⟩ := inD_some e
    refine .inl ⟨d, ds, rx.dp R _ _ _ _ e1, ?_, s1, k _ q⟩
    rcases z with rfl | rfl
    · exact .inl ⟨ry.dp R _ _ _ _ e2, s2⟩
    · exact .inr ⟨ry.dp R _ _ _ _ e2, s2⟩
  · cases ry with
    | @ref n a ra =>
      obtain ⟨kws, b, _, _, _, h2, h3, g⟩ := dget_of R rx ra e1 e2
      exact .inr ⟨a, _, rfl, g, by rw [val_dec kk h2 h3]; exact k _ q⟩
theorem g_nin : GC K fa (fun x y H Q => rNiX K x y H Q ∨ rNiDc x y H Q) (cmpop .nin) := by
  intro ρ h H x y v u Q Q0 R rx ry hp k
  obtain ⟨b, e, q⟩ := OQ_some hp
  have e : (inX h x y).map (!·) = some b := e
  obtain ⟨c, e3, rfl⟩ := Option.map_eq_some_iff.mp e
  rcases inX_cases e3 with e | ⟨n, kvs, kk, rfl, e1, e2, rfl⟩
  · obtain ⟨d, ds, p, e1, e2, z, s1, s2, rfl⟩ := inD_some e
    refine .inl ⟨d, ds, rx.dp R _ _ _ _ e1, ?_, s1, k _ q⟩
    rcases z with rfl | rfl
    · exact .inl ⟨ry.dp R _ _ _ _ e2, s2⟩
    · exact .inr ⟨ry.dp R _ _ _ _ e2, s2⟩
  · cases ry with
    | @ref n a ra =>
      obtain ⟨kws, b, _, _, _, h2, h3, g⟩ := dget_of R rx ra e1 e2
      exact .inr ⟨a, _, rfl, g, by rw [val_dec kk h2 h3]; exact k _ q⟩
def cmpOf : C2 → CmpOp
  | .eq => .Eq | .ne => .NotEq | .lt => .Lt | .le => .LtE | .gt => .Gt | .ge => .GtE | .isN => .Is | .notN => .IsNot | .inn => .In | .nin => .NotIn
theorem cmp_all {X : Cx} (hu : X.A.units + 66 < cLine) (o : C2) : ∃ r, OpR X (compareOp (cmpOf o)) r ∧ GC X.K fa r (cmpop o) := by
  cases o with
  | eq => exact ⟨_, op_eqD (by omega), g_eq⟩
  | ne => exact ⟨_, op_neD (by omega), g_ne⟩
  | lt => exact ⟨_, op_lt.or (op_ltT (by omega)), g_lt⟩
  | le => exact ⟨_, op_le, g_le⟩
  | gt => exact ⟨_, op_gt, g_gt⟩
  | ge => exact ⟨_, op_ge, g_ge⟩
  | isN => exact ⟨_, op_isN, g_is⟩
  | notN => exact ⟨_, op_notN, g_isn⟩
  | inn => exact ⟨_, (op_inX (by omega)).or (op_inDc (by omega)), g_in⟩
  | nin => exact ⟨_, (op_niX (by omega)).or (op_niDc (by omega)), g_nin⟩

/-! ### places, slices -/
theorem RDs.atI {xs : List D} {vs : List V} {i : Int} {d : D} (r : RDs K fa ρ H xs vs) (e : L2.atI xs i = some d) : ∃ v, L2.atI vs i = some v ∧ RD K fa ρ H d v := by
  unfold L2.atI at e ⊢
  rw [← r.length]
  cases q : ixN xs.length i with
  | none => rw [q] at e; cases e
  | some j =>
    rw [q] at e
    exact r.get e
def rIxDc : R2 := fun x y H Q => ∃ a v, x = .ref a ∧ DGet H a y (some v) ∧ Q v H
theorem ix_dc {X : Cx} (hu : X.A.units + 1 < cLine) : IxR X rIxDc := by
  intro value slice pins s σ H x y v u Q I rx ry h hs
  obtain ⟨a, r, rfl, g, q⟩ := h
  obtain rfl : v = Value.ref a := rx
  exact tail_any (dict_typeIs I g) PySem.F.slot_dict_getitem.lookup (d_getItem hu I g ry fun w' s' I' rw' => ⟨r, H, I', rw', q⟩) hs
def rIxX (K : PySem.W.Frag) : R2 := fun x y H Q => rIxL K x y H Q ∨ rIxT K x y H Q ∨ rIxDc x y H Q
theorem g_ix {x y : D} {v u : V} {Q1 : D → Prop} (R : RH K fa ρ h H) (rx : RD K fa ρ H x v) (ry : RD K fa ρ H y u) (hp : OQ (ixop x y h) Q1) (k : ∀ d w, RD K fa ρ H d w → Q1 d → Q w H) : rIxX K v u H Q := by
  obtain ⟨d, e, q⟩ := OQ_some hp
  cases rx with
  | @tup xs us a s1 r1 =>
    cases ry with
    | int i =>
      obtain ⟨w, e2, rw_⟩ := r1.atI (show L2.atI xs i = some d from e)
      exact .inr (.inl ⟨a, us, i, w, rfl, rfl, s1.sq, e2, k d w rw_ q⟩)
    | _ => cases e
  | @tupN xs us a s1 r1 =>
    cases ry with
    | int i =>
      obtain ⟨w, e2, rw_⟩ := r1.atI (show L2.atI xs i = some d from e)
      exact .inr (.inl ⟨a, us, i, w, rfl, rfl, s1.sq, e2, k d w rw_ q⟩)
    | _ => cases e
  | @ref n a ra =>
    cases ry with
    | int i =>
      have e : ((lstAt h n).bind fun xs => L2.atI xs i) = some d := e
      obtain ⟨xs, e1, e2⟩ := Option.bind_eq_some_iff.mp e
      obtain ⟨us, s1, r1⟩ := R.lst e1 ra
      obtain ⟨w, e3, rw_⟩ := r1.atI e2
      exact .inl ⟨a, us, i, w, rfl, rfl, s1, e3, k d w rw_ q⟩
    | tup t1 t2 =>
      have e : (match h[n]? with | some (.dic kvs) => (keyD (.tup _)).bind fun k => getK kvs k | _ => none) = some d := e
      split at e
      · rename_i kvs e1
        obtain ⟨kk, e2, e3⟩ := Option.bind_eq_some_iff.mp e
        obtain ⟨kws, b, ev, _, _, h2, h3, g⟩ := dget_of R (RD.tup t1 t2) ra e1 e2
        rcases val_rel kk h2 h3 with ⟨z, _⟩ | ⟨d2, v2, z1, z2, rd⟩
        · rw [z] at e3; cases e3
        · rw [z1] at e3
          cases e3
          rw [z2] at g
          exact .inr (.inr ⟨a, v2, rfl, g, k _ _ rd q⟩)
      · cases e
    | _ => cases e
  | _ => cases y <;> cases e
theorem RDs.cut {xs : List D} {vs : List V} (r : RDs K fa ρ H xs vs) (lo hi : Option Int) : RDs K fa ρ H (cutD xs lo hi) (cutV vs lo hi) := by
  unfold cutD cutV
  rw [r.length]
  exact (r.drop _).take _
theorem cutD_whole {xs : List D} {lo hi : Option Int} (h1 : HT.sIx xs.length 0 lo = 0) (h2 : HT.sIx xs.length xs.length hi = xs.length) : cutD xs lo hi = xs := by
  unfold cutD
  rw [h1, h2]
  simp
def rSlX (K : PySem.W.Frag) : V → Option Int → Option Int → Hp → VK → Prop := fun x lo hi H Q => rSlL K x lo hi H Q ∨ rSlA K x lo hi H Q
theorem g_sl {x : D} {v : V} {lo hi : Option Int} (R : RH K fa ρ h H) (rx : RD K fa ρ H x v) (hp : PQ (slop x lo hi h) Q0) (k : Then K fa ρ H Q0 Q) : rSlX K v lo hi H Q := by
  cases rx with
  | @tup xs us a s1 r1 =>
    have hp : Q0 (.tup (cutD xs lo hi)) h := hp
    refine .inr ⟨a, us, rfl, s1.sq, fun z => ?_, fun _ => k.tup R (r1.cut lo hi) hp⟩
    rw [← r1.length] at z
    rw [cutD_whole z.1 z.2] at hp
    exact k.here R (.tup s1 r1) hp
  | @ref n a ra =>
    have hp : PQ ((lstAt h n).bind fun xs => newL h (cutD xs lo hi)) Q0 := hp
    cases e : lstAt h n with
    | none => rw [e] at hp; exact False.elim hp
    | some xs =>
      rw [e] at hp
      obtain ⟨us, s1, r1⟩ := R.lst e ra
      exact .inl ⟨a, us, rfl, s1, (k.lst R (r1.cut lo hi) hp).2⟩
  | _ => exact False.elim hp

/-! ### built-ins -/
def tyOf : TY → String
  | .int => "int" | .bool => "bool" | .str => "str" | .tuple => "tuple"
theorem RD.tyx {d : D} {v : V} {t : TY} {b : Bool} (R : RH K fa ρ h H) (r : RD K fa ρ H d v) (e : isT t d = some b) : ∃ ty, TyX K H v ty ∧ PySem.W.kitOne K ty (.type (tyOf t)) = some b := by
  cases r with
  | non => exact ⟨_, .base .non, by cases t <;> (cases e; exact kit_ty (by decide +kernel))⟩
  | bl x => exact ⟨_, .base (.bl x), by cases t <;> (cases e; exact kit_ty (by decide +kernel))⟩
  | int i => exact ⟨_, .base (.int i), by cases t <;> (cases e; exact kit_ty (by decide +kernel))⟩
  | str i => exact ⟨_, .base (.str i), by cases t <;> (cases e; exact kit_ty (by decide +kernel))⟩
  | @tup xs vs a s1 r1 =>
    have fin : PySem.W.kitOne K (.type "tuple") (.type (tyOf t)) = some b := by cases t <;> (cases e; exact kit_ty (by decide +kernel))
    exact ⟨_, .base (.tup s1), fin⟩
  | @ref n a ra =>
    have hl : n < h.length := by rw [← R.len]; exact (List.getElem?_eq_some_iff.mp ra).1
    have ro := R.at_ n h[n] a (List.getElem?_eq_getElem hl) ra
    have fin : PySem.W.kitOne K (.type "list") (.type (tyOf t)) = some b := by cases t <;> (cases e; exact kit_ty (by decide +kernel))
    cases q : h[n] with
    | lst xs => rw [q] at ro; obtain ⟨vs, e1, _⟩ := ro; exact ⟨_, .base (.lst e1), fin⟩
    | rol xs => rw [q] at ro; obtain ⟨o, vs, e1, _⟩ := ro; exact ⟨_, .base (.frz e1), fin⟩
    | dic _ => rw [q] at ro; obtain ⟨kws, e1, _⟩ := ro; exact ⟨_, .base (.dT e1), (by cases t <;> (cases e; exact kit_ty (by decide +kernel)))⟩
    | ins _ _ => rw [q] at ro; exact ro.elim
  | fn _ => cases e
  | tupN s1 r1 =>
    have fin : PySem.W.kitOne K (.type "tuple") (.type (tyOf t)) = some b := by cases t <;> (cases e; exact kit_ty (by decide +kernel))
    rcases s1 with ⟨o, s1, _⟩ | ⟨o, its, n, s1, s2, _⟩
    · exact ⟨_, .fTuple s1, fin⟩
    · exact ⟨_, .kTuple s1 s2, fin⟩
end
end Mp
namespace Mp
open PySem PySem.Spec PyProof.Rows L2

/-- an expression by its small form: as a value, as a test, as a part of a test's chain -/
structure SE (X : Cx) (fa : Nat → Option Addr) (xa : Nat → Option (Value × List Str)) (W : WX) (e : Expr) (φ : WE) : Prop where
  pe : PE X e (RE X.K fa xa W φ)
  pt : PT X e (tB (RE X.K fa xa W φ))
  pw : ∀ op vs pos, e = .BoolOp op vs pos → PW X e (tB (RE X.K fa xa W φ))
  ns : ∀ es env, starEach (e :: es) env = (false, eval e env) :: starEach es env
structure SA (X : Cx) (fa : Nat → Option Addr) (xa : Nat → Option (Value × List Str)) (W : WX) (es : List Expr) (φ : WL) : Prop where
  pa : PA X es (RA X.K fa xa W φ)
  pl : ∀ pos env, (backTo pos (starEach es env)).any (·.1) = false

section
variable {X : Cx} {fa : Nat → Option Addr} {xa : Nat → Option (Value × List Str)} {W : WX} {e a b c : Expr} {es : List Expr} {φ φa φb φc : WE} {pos : Pos}

/-- from the value alone, where the test is the value's truth -/
theorem SE.of (p : PE X e (RE X.K fa xa W φ)) (ns : ∀ es env, starEach (e :: es) env = (false, eval e env) :: starEach es env) (nb : ∀ op vs pos, e ≠ .BoolOp op vs pos)
    (he : ∀ whole, isTrue e X.env whole = (do let v ← whole; standAt e.pos; holding [v] (truthy v))) : SE X fa xa W e φ :=
  ⟨p, pt_val p he, fun op vs ps z => absurd z (nb op vs ps), ns⟩

theorem RE.one {σ : L2.St} {H : Hp} {Q : VK} {f : En → D → MH → QV → QX → Prop} {Rk : V → Hp → Prop}
    (w : RE X.K fa xa W (fun en h Q E => φa en h (fun x h1 => f en x h1 Q E) E) σ H Q)
    (fin : ∀ ρ en h H x v Q0 E0, RH X.K fa ρ h H → REn X.K fa ρ H en σ → RD X.K fa ρ H x v → f en x h Q0 E0 → Then X.K fa ρ H Q0 Q → ThenX X.K fa xa ρ H E0 (fun c d H2 => W c d σ H2) → Rk v H) : RE X.K fa xa W φa σ H Rk := by
  obtain ⟨ρ, en, h, Q0, E0, R, N, q, k, kx⟩ := w
  exact ⟨ρ, en, h, _, E0, R, N, q, fun d h2 v ρ2 H2 e R2 r q2 => fin ρ2 en h2 H2 d v Q0 E0 R2 (N.mono e) r q2 (k.ext e) (kx.ext e), kx⟩
theorem RE.two {σ : L2.St} {H : Hp} {Q : VK} {f : D → D → MH → QV → QX → Prop} {Rk : V → V → Hp → Prop}
    (w : RE X.K fa xa W (fun en h Q E => φa en h (fun x h1 => φb en h1 (fun y h2 => f x y h2 Q E) E) E) σ H Q)
    (fin : ∀ ρ en h H x y v u Q0 E0, RH X.K fa ρ h H → REn X.K fa ρ H en σ → RD X.K fa ρ H x v → RD X.K fa ρ H y u → f x y h Q0 E0 → Then X.K fa ρ H Q0 Q → ThenX X.K fa xa ρ H E0 (fun c d H2 => W c d σ H2) → Rk v u H) :
    RE X.K fa xa W φa σ H fun v H1 => RE X.K fa xa W φb σ H1 fun u H2 => Rk v u H2 := by
  obtain ⟨ρ, en, h, Q0, E0, R, N, q, k, kx⟩ := w
  refine ⟨ρ, en, h, _, E0, R, N, q, fun d h2 v ρ2 H2 e R2 r q2 => ?_, kx⟩
  refine ⟨ρ2, en, h2, _, E0, R2, N.mono e, q2, fun d3 h3 u ρ3 H3 e3 R3 r3 q3 => ?_, kx.ext e⟩
  exact fin ρ3 en h3 H3 d d3 v u Q0 E0 R3 (N.mono (e.trans e3)) (r.mono e3) r3 q3 (k.ext (e.trans e3)) (kx.ext (e.trans e3))
/-- where the own heap stays as it is -/
theorem RE.zero {σ : L2.St} {H : Hp} {Q : VK} (w : RE X.K fa xa W φ σ H Q) {P : Prop} (fin : ∀ ρ en h Q0 E0, RH X.K fa ρ h H → REn X.K fa ρ H en σ → φ en h Q0 E0 → Then X.K fa ρ H Q0 Q → P) : P := by
  obtain ⟨ρ, en, h, Q0, E0, R, N, q, k, kx⟩ := w
  exact fin ρ en h Q0 E0 R N q k

/-! ### names, constants -/
theorem se_var {i : Nat} {x : Str} (hN : X.N[i]? = some x) (hv : Vis X.env.scope x) (hd : (x == ("__debug__" : Str)) = false) (hcd : (x == ("__classdict__" : Str)) = false) :
    SE X fa xa W (.Name x pos) fun en h Q _ => OQ (en[i]?.join) fun d => Q d h := by
  refine .of ((pe_var hN hv hd hcd).wk fun σ H Q w => w.zero fun ρ en h Q0 E0 R N q k => ?_) (fun _ _ => rfl) (fun _ _ _ z => nomatch z) fun _ => rfl
  obtain ⟨d, e, q⟩ := OQ_some q
  have e : en[i]? = some (some d) := by
    cases z : en[i]? with
    | none => rw [z] at e; cases e
    | some o => rw [z] at e; cases o with
      | none => cases e
      | some d' => cases e; rfl
  obtain ⟨v, e2, r⟩ := N.at_ i d e
  exact ⟨v, e2, k.here R r q⟩
theorem se_con0 {d : D} {v : V} {x : Str} (p : PE X (.Name x pos) (tC v)) (r : ∀ ρ H, RD X.K fa ρ H d v) : SE X fa xa W (.Name x pos) fun _ h Q _ => Q d h :=
  .of (p.wk fun σ H Q w => w.zero fun ρ en h Q0 E0 R N q k => k.here R (r ρ H) q) (fun _ _ => rfl) (fun _ _ _ z => nomatch z) fun _ => rfl
theorem se_con {d : D} {v : V} {cst : Const} {j : Nat} (p : PE X (.Constant cst j pos) (tC v)) (r : ∀ ρ H, RD X.K fa ρ H d v) : SE X fa xa W (.Constant cst j pos) fun _ h Q _ => Q d h :=
  .of (p.wk fun σ H Q w => w.zero fun ρ en h Q0 E0 R N q k => k.here R (r ρ H) q) (fun _ _ => rfl) (fun _ _ _ z => nomatch z) fun _ => rfl

/-! ### operators -/
theorem se_bin (ha : SE X fa xa W a φa) (hb : SE X fa xa W b φb) (o : B2) : SE X fa xa W (.BinOp a (opOf o) b pos) fun en h Q E => φa en h (fun x h1 => φb en h1 (fun y h2 => PQ (binop o x y h2) Q) E) E := by
  obtain ⟨r, h1, h2⟩ := op_all (X := X) (fa := fa) o
  refine .of ((pe_op h1 ha.pe hb.pe).wk fun σ H Q w => ?_) (fun _ _ => rfl) (fun _ _ _ z => nomatch z) fun _ => rfl
  exact w.two fun ρ en h H x y v u Q0 E0 R N rx ry q k _ => h2 ρ h H x y v u Q Q0 R rx ry q k
theorem se_neg (ha : SE X fa xa W a φa) : SE X fa xa W (.UnaryOp .USub a pos) fun en h Q E => φa en h (fun x h1 => OQ (asInt x) fun i => Q (.int (-i)) h1) E := by
  refine .of ((pe_un un_neg ha.pe).wk fun σ H Q w => ?_) (fun _ _ => rfl) (fun _ _ _ z => nomatch z) fun _ => rfl
  refine w.one (f := fun _ x h1 Q _ => OQ (asInt x) fun i => Q (.int (-i)) h1) fun ρ en h H x v Q0 E0 R N rx q k _ => ?_
  obtain ⟨i, e, q⟩ := OQ_some q
  cases rx with
  | int j => cases e; exact ⟨i, rfl, k.here R (.int _) q⟩
  | _ => cases e
theorem RD.bl_of {ρ : List Addr} {H : Hp} {x : D} {v : V} {k : Bool} (r : RD X.K fa ρ H x v) (e : asBl x = some k) : x = .bl k ∧ v = .bl k := by
  cases r with
  | bl b => cases e; exact ⟨rfl, rfl⟩
  | _ => cases e
theorem se_not (ha : SE X fa xa W a φa) : SE X fa xa W (.UnaryOp .Not a pos) fun en h Q E => φa en h (fun x h1 => OQ (asBl x) fun b => Q (.bl (!b)) h1) E := by
  refine ⟨(pe_not ha.pe).wk fun σ H Q w => ?_, (pt_not ha.pt).wk fun σ H Q w => ?_, (fun _ _ _ z => nomatch z), fun _ _ => rfl⟩
  · refine w.one (f := fun _ x h1 Q _ => OQ (asBl x) fun i => Q (.bl (!i)) h1) fun ρ en h H x v Q0 E0 R N rx q k _ => ?_
    obtain ⟨i, e, q⟩ := OQ_some q
    obtain ⟨rfl, rfl⟩ := rx.bl_of e
    exact ⟨i, rfl, k.here R (.bl _) q⟩
  · refine RE.one (f := fun _ x h1 Q _ => OQ (asBl x) fun i => Q (.bl (!i)) h1) w fun ρ en h H x v Q0 E0 R N rx q k _ => ?_
    obtain ⟨i, e, q⟩ := OQ_some q
    obtain ⟨rfl, rfl⟩ := rx.bl_of e
    obtain ⟨c, e2, q2⟩ := k.here R (.bl _) q
    cases e2
    exact ⟨i, rfl, q2⟩
theorem nomark2 (b : Expr) (op : CmpOp) (h : ∀ es k p, b ≠ .Set es k p) : behindInMarks op b = false := by
  cases b <;> first | rfl | exact absurd rfl (h _ _ _)
theorem se_cmp (hu : X.A.units + 66 < cLine) (ha : SE X fa xa W a φa) (hb : SE X fa xa W b φb) (o : C2) (hm : ∀ es k p, b ≠ .Set es k p) :
    SE X fa xa W (.Compare a [cmpOf o] [b] pos) fun en h Q E => φa en h (fun x h1 => φb en h1 (fun y h2 => OQ (cmpop o x y h2) fun b => Q (.bl b) h2) E) E := by
  obtain ⟨r, h1, h2⟩ := cmp_all (X := X) (fa := fa) hu o
  have core : ∀ σ H Q, RE X.K fa xa W (fun en h Q E => φa en h (fun x h1 => φb en h1 (fun y h2 => OQ (cmpop o x y h2) fun b => Q (.bl b) h2) E) E) σ H Q → tOp r (RE X.K fa xa W φa) (RE X.K fa xa W φb) σ H Q := fun σ H Q w =>
    w.two (f := fun x y h2 Q _ => OQ (cmpop o x y h2) fun b => Q (.bl b) h2) fun ρ en h H x y v u Q0 E0 R N rx ry q k _ => h2 ρ h H x y v u Q _ R rx ry q fun b q => k.here R (.bl b) q
  exact ⟨(pe_cmpR h1 ha.pe hb.pe (nomark2 _ _ hm)).wk core, (pt_cmpR h1 ha.pe hb.pe (nomark2 _ _ hm)).wk fun σ H Q w => core σ H _ w, (fun _ _ _ z => nomatch z), fun _ _ => rfl⟩
theorem lastMarks2 (b c : Expr) (o p : CmpOp) (h : ∀ es k q, c ≠ .Set es k q) : lastMarks [o, p] [b, c] = false := by
  show behindInMarks p c = false
  exact nomark2 c p h
theorem se_chain (hu : X.A.units + 66 < cLine) (ha : SE X fa xa W a φa) (hb : SE X fa xa W b φb) (hc : SE X fa xa W c φc) (o p : C2) (hm : ∀ es k q, c ≠ .Set es k q) :
    SE X fa xa W (.Compare a [cmpOf o, cmpOf p] [b, c] pos) fun en h Q E => φa en h (fun x h1 => φb en h1 (fun y h2 => OQ (cmpop o x y h2) fun k => if k = true then φc en h2 (fun z h3 => OQ (cmpop p y z h3) fun b => Q (.bl b) h3) E else Q (.bl false) h2) E) E := by
  obtain ⟨r, h1, h2⟩ := cmp_all (X := X) (fa := fa) hu o
  obtain ⟨r', h1', h2'⟩ := cmp_all (X := X) (fa := fa) hu p
  have core : ∀ σ H Q, RE X.K fa xa W (fun en h Q E => φa en h (fun x h1 => φb en h1 (fun y h2 => OQ (cmpop o x y h2) fun k => if k = true then φc en h2 (fun z h3 => OQ (cmpop p y z h3) fun b => Q (.bl b) h3) E else Q (.bl false) h2) E) E) σ H Q →
      tChain r r' (RE X.K fa xa W φa) (RE X.K fa xa W φb) (RE X.K fa xa W φc) σ H Q := fun σ H Q w => by
    obtain ⟨ρ, en, h, Q0, E0, R, N, q, k, kx⟩ := w
    refine ⟨ρ, en, h, _, E0, R, N, q, fun x g2 v ρ2 H2 e R2 rx q2 => ?_, kx⟩
    refine ⟨ρ2, en, g2, _, E0, R2, N.mono e, q2, fun y h3 u ρ3 H3 e3 R3 ry q3 => ?_, kx.ext e⟩
    refine h2 ρ3 h3 H3 x y v u _ _ R3 (rx.mono e3) ry q3 fun kk q4 => ⟨kk, rfl, ?_⟩
    have e4 := e.trans e3
    cases kk with
    | true =>
      rw [if_pos rfl] at q4 ⊢
      refine ⟨ρ3, en, h3, _, E0, R3, N.mono e4, q4, fun z h5 t ρ5 H5 e5 R5 rz q5 => ?_, kx.ext e4⟩
      exact h2' ρ5 h5 H5 y z u t Q _ R5 (ry.mono e5) rz q5 fun b q6 => (k.ext (e4.trans e5)).here R5 (.bl b) q6
    | false =>
      rw [if_neg Bool.false_ne_true] at q4 ⊢
      exact (k.ext e4).here R3 (.bl _) q4
  exact ⟨(pe_chain h1 h1' ha.pe hb.pe hc.pe (lastMarks2 _ _ _ _ hm)).wk core, (pt_chain h1 h1' ha.pe hb.pe hc.pe (lastMarks2 _ _ _ _ hm)).wk fun σ H Q w => core σ H _ w, (fun _ _ _ z => nomatch z), fun _ _ => rfl⟩

/-! ### and, or, a if c else b -/
def wAnd (φa φb : WE) : WE := fun en h Q E => φa en h (fun x h1 => OQ (asBl x) fun k => if k = true then φb en h1 Q E else Q (.bl false) h1) E
def wOr (φa φb : WE) : WE := fun en h Q E => φa en h (fun x h1 => OQ (asBl x) fun k => if k = true then Q (.bl true) h1 else φb en h1 Q E) E
def wIte (φc φa φb : WE) : WE := fun en h Q E => φc en h (fun x h1 => OQ (asBl x) fun k => if k = true then φa en h1 Q E else φb en h1 Q E) E
theorem se_one (ha : SE X fa xa W a φa) (op : BoolOp) : SE X fa xa W (.BoolOp op [a] pos) φa := by
  have pw : PW X (.BoolOp op [a] pos) (tB (RE X.K fa xa W φa)) := by
    cases op with
    | And => exact pw_and1 ha.pt
    | Or => exact pw_or1 ha.pt
  exact ⟨pe_one ha.pe, pw.pt, fun _ _ _ _ => pw, fun _ _ => rfl⟩
theorem _root_.L2.PW.wk {t t2 : TT} (p : PW X e t) (c : ∀ σ H Q, t2 σ H Q → t σ H Q) : PW X e t2 := ⟨fun w pins s σ H Q I q => p.run w pins s σ H Q I (c _ _ _ q)⟩
theorem RE.and {σ : L2.St} {H : Hp} {Q : VK} {R1 : VK} (w : RE X.K fa xa W (wAnd φa φb) σ H Q) (ht : ∀ H1, RE X.K fa xa W φb σ H1 Q → R1 (.bl true) H1) (hf : ∀ H1, Q (.bl false) H1 → R1 (.bl false) H1) : RE X.K fa xa W φa σ H R1 := by
  refine RE.one (f := fun en x h1 Q E => OQ (asBl x) fun k => if k = true then φb en h1 Q E else Q (.bl false) h1) w fun ρ en h H x v Q0 E0 R N rx q k kx => ?_
  obtain ⟨i, e, q⟩ := OQ_some q
  obtain ⟨rfl, rfl⟩ := rx.bl_of e
  cases i with
  | true => exact ht H ⟨ρ, en, h, Q0, E0, R, N, q, k, kx⟩
  | false => exact hf H (k.here R (.bl false) q)
theorem RE.or {σ : L2.St} {H : Hp} {Q : VK} {R1 : VK} (w : RE X.K fa xa W (wOr φa φb) σ H Q) (ht : ∀ H1, Q (.bl true) H1 → R1 (.bl true) H1) (hf : ∀ H1, RE X.K fa xa W φb σ H1 Q → R1 (.bl false) H1) : RE X.K fa xa W φa σ H R1 := by
  refine RE.one (f := fun en x h1 Q E => OQ (asBl x) fun k => if k = true then Q (.bl true) h1 else φb en h1 Q E) w fun ρ en h H x v Q0 E0 R N rx q k kx => ?_
  obtain ⟨i, e, q⟩ := OQ_some q
  obtain ⟨rfl, rfl⟩ := rx.bl_of e
  cases i with
  | true => exact ht H (k.here R (.bl true) q)
  | false => exact hf H ⟨ρ, en, h, Q0, E0, R, N, q, k, kx⟩
theorem RE.ite {σ : L2.St} {H : Hp} {Q : VK} {R1 : VK} (w : RE X.K fa xa W (wIte φc φa φb) σ H Q) (ht : ∀ H1, RE X.K fa xa W φa σ H1 Q → R1 (.bl true) H1) (hf : ∀ H1, RE X.K fa xa W φb σ H1 Q → R1 (.bl false) H1) : RE X.K fa xa W φc σ H R1 := by
  refine RE.one (f := fun en x h1 Q E => OQ (asBl x) fun k => if k = true then φa en h1 Q E else φb en h1 Q E) w fun ρ en h H x v Q0 E0 R N rx q k kx => ?_
  obtain ⟨i, e, q⟩ := OQ_some q
  obtain ⟨rfl, rfl⟩ := rx.bl_of e
  cases i with
  | true => exact ht H ⟨ρ, en, h, Q0, E0, R, N, q, k, kx⟩
  | false => exact hf H ⟨ρ, en, h, Q0, E0, R, N, q, k, kx⟩
theorem se_and (ha : SE X fa xa W a φa) (hb : SE X fa xa W (.BoolOp .And (b :: es) pos) φb) : SE X fa xa W (.BoolOp .And (a :: b :: es) pos) (wAnd φa φb) := by
  have pw : PW X (.BoolOp .And (a :: b :: es) pos) (tB (RE X.K fa xa W (wAnd φa φb))) := PW.wk (pw_and ha.pt (hb.pw _ _ _ rfl)) fun σ H Q w =>
    RE.and (R1 := fun x H1 => ∃ c, x = .bl c ∧ if c = true then tB (RE X.K fa xa W φb) σ H1 Q else Q false H1) w (fun H1 q => ⟨true, rfl, q⟩) fun H1 ⟨c, e, q⟩ => ⟨false, rfl, by cases e; exact q⟩
  exact ⟨(pe_and ha.pe hb.pe).wk fun σ H Q w => RE.and w (fun H1 q => ⟨true, rfl, q⟩) fun H1 q => ⟨false, rfl, q⟩, pw.pt, fun _ _ _ _ => pw, fun _ _ => rfl⟩
theorem se_or (ha : SE X fa xa W a φa) (hb : SE X fa xa W (.BoolOp .Or (b :: es) pos) φb) : SE X fa xa W (.BoolOp .Or (a :: b :: es) pos) (wOr φa φb) := by
  have pw : PW X (.BoolOp .Or (a :: b :: es) pos) (tB (RE X.K fa xa W (wOr φa φb))) := PW.wk (pw_or ha.pt (hb.pw _ _ _ rfl)) fun σ H Q w =>
    RE.or (R1 := fun x H1 => ∃ c, x = .bl c ∧ if c = true then Q true H1 else tB (RE X.K fa xa W φb) σ H1 Q) w (fun H1 ⟨c, e, q⟩ => ⟨true, rfl, by cases e; exact q⟩) fun H1 q => ⟨false, rfl, q⟩
  exact ⟨(pe_or ha.pe hb.pe).wk fun σ H Q w => RE.or w (fun H1 q => ⟨true, rfl, q⟩) fun H1 q => ⟨false, rfl, q⟩, pw.pt, fun _ _ _ _ => pw, fun _ _ => rfl⟩
theorem se_ite (hc : SE X fa xa W c φc) (ha : SE X fa xa W a φa) (hb : SE X fa xa W b φb) : SE X fa xa W (.IfExp c a b pos) (wIte φc φa φb) := by
  refine ⟨(pe_ifExp hc.pt ha.pe hb.pe).wk fun σ H Q w => RE.ite (R1 := fun x H1 => ∃ c, x = .bl c ∧ if c = true then RE X.K fa xa W φa σ H1 Q else RE X.K fa xa W φb σ H1 Q) w (fun H1 q => ⟨true, rfl, q⟩) fun H1 q => ⟨false, rfl, q⟩, ⟨fun pins s σ H Q I w => ?_⟩, (fun _ _ _ z => nomatch z), fun _ _ => rfl⟩
  refine isTrue_IfExp (thn (hc.pt.run pins s σ H (fun k H1 => if k = true then tB (RE X.K fa xa W φa) σ H1 Q else tB (RE X.K fa xa W φb) σ H1 Q) I
    (RE.ite (R1 := fun x H1 => ∃ c, x = .bl c ∧ if c = true then tB (RE X.K fa xa W φa) σ H1 Q else tB (RE X.K fa xa W φb) σ H1 Q) w (fun H1 q => ⟨true, rfl, q⟩) fun H1 q => ⟨false, rfl, q⟩)) fun k s1 ⟨H1, I1, q1⟩ => ?_)
  cases k with
  | true => exact ha.pt.run pins s1 σ H1 Q I1 q1
  | false => exact hb.pt.run pins s1 σ H1 Q I1 q1
end
end Mp
/-! sum(t), sorted(t) of a tuple t -/
namespace MpTup
open PySem PySem.Spec PySem.Calls PyProof.Rows PySem.W
section
variable {prog : Program} {w : World} {A : Around} {E : Value → Shared → Prop} {s : Shared}
theorem sum_tup {t : Addr} {its : List Value} {ns : List Int} {Q : Value → Shared → Prop} (hh : A.handled = none) (ht : s.heap.IsTuple t its.toArray) (hi : IntsAre its ns)
    (h : ∀ h' tk t', (∀ b o, s.heap.get? b = some o → h'.get? b = some o) → Q (.int ns.sum t') { s with heap := h', toks := tk }) : wpAny (model prog w) A (call (.builtin "sum") [.ref t]) Q E s := by
  obtain ⟨xs, e⟩ := hi.allInts.items
  have hn : numsOf (intItems xs).toList = ns := by rw [← e]; exact hi.numsOf
  rw [nums_intItems] at hn
  rw [e] at ht
  have hlt : t < s.heap.objs.size := by obtain ⟨_, q, _⟩ := ht; exact Heap.lt_size q
  refine call_sum_walkG (wpAny_pyIter_tuple ht ⟨_, _, _, _, _, _, numAt xs, rfl, Walks.tuple (A := A.in1) hh _ t (Nat.ne_of_lt hlt) (intItems xs), ⟨⟨_, Heap.get?_push_size _ rfl, rfl, rfl⟩, ht.push _⟩, fun b hb => ?_, fun _ _ => intItems_at, fun h' tk t' hk => ?_⟩)
  · show b < (s.heap.push _).objs.size
    rw [Heap.size_push]
    rcases List.mem_cons.mp hb with rfl | hb
    · exact Nat.lt_succ_self _
    · rcases List.mem_cons.mp hb with rfl | hb
      · exact Nat.lt_succ_of_lt hlt
      · cases hb
  · have := h h' tk t' fun b o q => hk b o (fun hm => absurd (Heap.lt_size q) ((List.mem_singleton.mp hm) ▸ Nat.lt_irrefl _)) (Heap.get?_push_of_some _ q)
    have sz : (intItems xs).size = xs.size := by simp [intItems]
    rw [sz, preSum_eq, List.take_of_length_le (by simp), hn]
    exact this
theorem mm_tup {nm : String} {t : Addr} {its : List Value} {ns : List Int} {Q : Value → Shared → Prop} (hnm : nm = "max" ∨ nm = "min") (hh : A.handled = none) (ht : s.heap.IsTuple t its.toArray) (hi : IntsAre its ns) (hne : 0 < ns.length)
    (h : ∀ h' tk M t', (∀ b o, s.heap.get? b = some o → h'.get? b = some o) → M ∈ ns → (∀ a, a ∈ ns → if nm = "max" then a ≤ M else M ≤ a) → Q (.int M t') { s with heap := h', toks := tk }) : wpAny (model prog w) A (call (.builtin nm) [.ref t]) Q E s := by
  obtain ⟨xs, e⟩ := hi.allInts.items
  have hn : numsOf (intItems xs).toList = ns := by rw [← e]; exact hi.numsOf
  rw [nums_intItems] at hn
  subst hn
  rw [e] at ht
  have hsz : 0 < xs.size := by simpa using hne
  have hlt : t < s.heap.objs.size := by obtain ⟨_, q, _⟩ := ht; exact Heap.lt_size q
  have fp : ∀ b ∈ [s.heap.objs.size, t], b < (s.heap.push { cls := .type "tuple_iterator", data := .fields #[.ref t, .int 0 0] }).objs.size := fun b hb => by
    rw [Heap.size_push]
    rcases List.mem_cons.mp hb with rfl | hb
    · exact Nat.lt_succ_self _
    · rcases List.mem_cons.mp hb with rfl | hb
      · exact Nat.lt_succ_of_lt hlt
      · cases hb
  have old : ∀ (h' : Heap), (∀ b o, b ∉ [s.heap.objs.size] → (s.heap.push { cls := .type "tuple_iterator", data := .fields #[.ref t, .int 0 0] }).get? b = some o → h'.get? b = some o) → ∀ b o, s.heap.get? b = some o → h'.get? b = some o := fun h' hk b o q =>
    hk b o (fun hm => absurd (Heap.lt_size q) ((List.mem_singleton.mp hm) ▸ Nat.lt_irrefl _)) (Heap.get?_push_of_some _ q)
  rcases hnm with rfl | rfl
  · refine call_max_walk (wpAny_pyIter_tuple ht ⟨_, _, _, _, _, _, _, rfl, Walks.tuple (A := A.in1) hh _ t (Nat.ne_of_lt hlt) (intItems xs), ⟨⟨_, Heap.get?_push_size _ rfl, rfl, rfl⟩, ht.push _⟩, fp, by simpa [intItems] using hsz, CmpOf.ints_gt (numAt xs) (fun _ _ => intItems_at), fun v h' tk hP hk => ?_⟩)
    have hP : (intItems xs)[argBest (fun i j => decide (numAt xs i > numAt xs j)) (xs.size - 1)]? = some v := by simpa [intItems] using hP
    obtain ⟨t', rfl⟩ := intItems_at hP
    obtain ⟨h1, h2⟩ := argBest_gt (numAt xs) (xs.size - 1)
    refine h h' tk _ t' (old h' hk) ?_ fun a ha => ?_
    · rw [numAt_eq]; exact PySem.getD_mem (by rw [List.length_map, Array.length_toList]; omega)
    · rw [if_pos rfl]
      obtain ⟨j, hj, rfl⟩ := mem_getD ha
      rw [List.length_map, Array.length_toList] at hj
      rw [← numAt_eq]; exact h2 j (by omega)
  · refine call_min_walk (wpAny_pyIter_tuple ht ⟨_, _, _, _, _, _, _, rfl, Walks.tuple (A := A.in1) hh _ t (Nat.ne_of_lt hlt) (intItems xs), ⟨⟨_, Heap.get?_push_size _ rfl, rfl, rfl⟩, ht.push _⟩, fp, by simpa [intItems] using hsz, CmpOf.ints_lt (numAt xs) (fun _ _ => intItems_at), fun v h' tk hP hk => ?_⟩)
    have hP : (intItems xs)[argBest (fun i j => decide (numAt xs i < numAt xs j)) (xs.size - 1)]? = some v := by simpa [intItems] using hP
    obtain ⟨t', rfl⟩ := intItems_at hP
    obtain ⟨h1, h2⟩ := argBest_lt (numAt xs) (xs.size - 1)
    refine h h' tk _ t' (old h' hk) ?_ fun a ha => ?_
    · rw [numAt_eq]; exact PySem.getD_mem (by rw [List.length_map, Array.length_toList]; omega)
    · rw [if_neg (by decide)]
      obtain ⟨j, hj, rfl⟩ := mem_getD ha
      rw [List.length_map, Array.length_toList] at hj
      rw [← numAt_eq]; exact h2 j (by omega)
theorem collect_tup {l : Addr} {vs : List Value} {Q : List Value → Shared → Prop} (hl : s.heap.IsTuple l vs.toArray)
    (h : Q vs { s with heap := (s.heap.push (seqObj "list" #[] 0)).update s.heap.objs.size (Obj.mapSeq (· ++ vs.toArray)) }) (hsz : vs.length ≤ sizeLine) :
    wpAny (model prog w) A (collect (.ref l)) Q E s := by
  obtain ⟨o, ho, hc, n, hd⟩ := id hl
  unfold collect
  refine wpAny_bind (wpAny_runValue (codeAny_builtin entry_proto_collect' ?_))
  show wpAny _ _ (do again (.builtin "list.__iadd__" ⟨[← newList [], .ref l], []⟩)) _ _ s
  refine wpAny_bind (wpAny_newList (wpAny_pure ⟨Code.quiet_builtin _ (by decide +kernel), codeAny_builtin entry_list_iadd' ?_⟩))
  show wpAny _ _ (Builtin.List.listExtendWith (.ref s.heap.objs.size) (.ref l) (.ref s.heap.objs.size)) _ _ { s with heap := s.heap.push (seqObj "list" #[] 0) }
  unfold Builtin.List.listExtendWith
  have ho' : (s.heap.push (seqObj "list" #[] 0)).get? l = some o := Heap.get?_push_of_some _ ho
  refine wpAny_bind (wpAny_typeOf (T := "tuple") ⟨o, ho', hc⟩ ?_)
  have ht : (Value.type "tuple" == Value.type "tuple") = true := by rfl
  rw [if_pos (by rw [ht]; simp)]
  refine wpAny_bind (listItems_at ho' hd ?_)
  refine wpAny_bind (listItems_at (xs := #[]) (n := 0) (Heap.get?_push_size _ rfl) rfl ?_)
  rw [if_neg (by simp)]
  refine wpAny_bind (listUpdate_at (xs := #[]) (n := 0) (Heap.get?_push_size _ rfl) rfl ?_ (Nat.zero_le _) (by show (#[] ++ vs.toArray).size ≤ sizeLine + 1; simp only [Array.size_append, List.size_toArray, List.length_nil]; omega))
  refine wpAny_pure ?_
  show wpAny (model prog w) A (do
      let o ← load s.heap.objs.size
      match o.data with
      | .seq xs _ => pure xs.toList
      | _ => unsupported "internal:collect") Q E { s with heap := (s.heap.push (seqObj "list" #[] 0)).update s.heap.objs.size (Obj.mapSeq (· ++ vs.toArray)) }
  refine wpAny_bind (wpAny_load (get?_update_seq (Heap.get?_push_size _ rfl) _) ?_)
  show wpAny _ _ (pure ((#[] : Array Value) ++ vs.toArray).toList) Q E _
  rw [show ((#[] : Array Value) ++ vs.toArray).toList = vs by simp]
  exact wpAny_pure h
theorem sorted_tup {l : Addr} {vs : List Value} {β : Type} {bs : List β} {enc : β → PyData} {R : Value → β → Prop} {Q : Value → Shared → Prop} (hl : s.heap.IsTuple l vs.toArray) (e : EachIs R vs bs) (er : EachIs (fun v b => ∃ as, Reads s.heap v (enc b) as) vs bs) (hal : AllAlike (bs.map enc)) (hk : Sortable (bs.map enc)) (hL : bs.length ≤ sizeLine)
    (hu : ∀ b, b ∈ bs → A.units + 2 + (enc b).depth < cLine) (h : ∀ out, out.length = bs.length → EachIs R out (bs.mergeSort (dataLe false enc)) → Q (.ref (s.heap.objs.size + 1)) { s with heap := sortedAll s.heap vs (List.toArray out) }) :
    wpAny (model prog w) A (call (.builtin "sorted") [.ref l]) Q E s := by
  have er' : EachIs (fun v b => ∃ as, Reads (sortingHeap (copyHeap s.heap vs) (s.heap.objs.size + 1) vs) v (enc b) as) vs bs := er.mono fun _ _ ⟨as, r⟩ => ⟨as, PyProof.Rows.Reads.keeps (fun _ _ => sorting_copy_old) r⟩
  have hv : vs.length ≤ sizeLine := by rw [e.length]; exact hL
  have S := SortsAt.data (prog := prog) (w := w) (A := A.in1.in1) (s := { s with heap := sortingHeap (copyHeap s.heap vs) (s.heap.objs.size + 1) vs }) (each_map (R := fun v d => ∃ as, Reads (sortingHeap (copyHeap s.heap vs) (s.heap.objs.size + 1) vs) v d as) enc er') hal hk (bound_map hu)
  refine call_function_entry_kw kind_sorted plain_sorted entry_sorted (args_sorted1 _) ?_
  unfold Builtin.«sorted»
  refine wpAny_bind (m := checkCount "sorted" 1 1 _) (wpAny_pure ?_)
  refine wpAny_bind (collect_tup hl ?_ hv)
  refine wpAny_bind (wpAny_newList ?_ hv)
  have hsz : ((s.heap.push (seqObj "list" #[] 0)).update s.heap.objs.size (Obj.mapSeq (· ++ vs.toArray))).objs.size = s.heap.objs.size + 1 := by
    rw [Heap.size_update, size_push']
  show wpAny _ _ _ _ _ { s with heap := copyHeap s.heap vs }
  rw [hsz]
  refine wpAny_bind (wpAny_holding (wpAny_call_entry_kw slot_list_sort ⟨_, copyHeap_at s.heap vs, rfl⟩ entry_list_sort ?body (args_list_sort _)))
  case body =>
    show wpAny (model prog w) A.in1.in1 (Builtin.«list.sort» ⟨[.ref (s.heap.objs.size + 1)], []⟩) _ _ _
    refine list_sort_vals (s := { s with heap := copyHeap s.heap vs }) (copyHeap_at s.heap vs) S hv ?_
    exact ⟨_, rfl, wpAny_pure ⟨_, rfl, h _ (by rw [sortVals_length false rfl]; exact e.length) (sortVals_data false e er' hal)⟩⟩
end
end MpTup
namespace Mp
open PySem PySem.Spec PyProof.Rows L2

section
variable {X : Cx} {fa : Nat → Option Addr} {xa : Nat → Option (Value × List Str)} {W : WX} {e a b c : Expr} {es : List Expr} {φ φa φb φc : WE} {ψ ψa : WL} {pos : Pos}

/-! ### argument lists -/
theorem RA.use {σ : L2.St} {H : Hp} {Q : VK} {f : En → List D → MH → QV → QX → Prop} {Rk : List V → Hp → Prop}
    (w : RE X.K fa xa W (fun en h Q E => ψ en h (fun ds h1 => f en ds h1 Q E) E) σ H Q)
    (fin : ∀ ρ en h H ds vs Q0 E0, RH X.K fa ρ h H → REn X.K fa ρ H en σ → RDs X.K fa ρ H ds vs → f en ds h Q0 E0 → Then X.K fa ρ H Q0 Q → ThenX X.K fa xa ρ H E0 (fun c d H2 => W c d σ H2) → Rk vs H) : RA X.K fa xa W ψ σ H Rk := by
  obtain ⟨ρ, en, h, Q0, E0, R, N, q, k, kx⟩ := w
  exact ⟨ρ, en, h, _, E0, R, N, q, fun ds h2 vs ρ2 H2 e R2 r q2 => fin ρ2 en h2 H2 ds vs Q0 E0 R2 (N.mono e) r q2 (k.ext e) (kx.ext e), kx⟩
theorem sa_nil : SA X fa xa W [] fun _ h Q _ => Q [] h :=
  ⟨pa_nil.wk fun σ H Q ⟨ρ, en, h, Q0, E0, R, N, q, k, kx⟩ => k _ _ _ ρ H .refl R .nil q, fun _ _ => rfl⟩
theorem sa_cons (ha : SE X fa xa W e φ) (hr : SA X fa xa W es ψ) : SA X fa xa W (e :: es) fun en h Q E => φ en h (fun x h1 => ψ en h1 (fun xs h2 => Q (x :: xs) h2) E) E := by
  refine ⟨(pa_cons ha.pe hr.pa (ha.ns _ _)).wk fun σ H Q ⟨ρ, en, h, Q0, E0, R, N, q, k, kx⟩ => ?_, fun pos env => ?_⟩
  · refine ⟨ρ, en, h, _, E0, R, N, q, fun d h2 v ρ2 H2 e1 R2 r q2 => ?_, kx⟩
    refine ⟨ρ2, en, h2, _, E0, R2, N.mono e1, q2, fun ds h3 vs ρ3 H3 e3 R3 rs q3 => ?_, kx.ext e1⟩
    exact k _ _ _ ρ3 H3 (e1.trans e3) R3 (.cons (r.mono e3) rs) q3
  · rw [ha.ns]
    show (false || (backTo pos (starEach es env)).any (·.1)) = false
    rw [hr.pl]; rfl

/-! ### displays -/
theorem se_tup {j : Nat} (hs : SA X fa xa W es ψ) : SE X fa xa W (.Tuple es j pos) fun en h Q E => ψ en h (fun ds h1 => ds.length ≤ sizeLine ∧ Q (.tup ds) h1) E := by
  refine .of ((pe_tup hs.pa).wk fun σ H Q w => ?_) (fun _ _ => rfl) (fun _ _ _ z => nomatch z) fun _ => rfl
  exact RA.use (f := fun _ ds h1 Q _ => ds.length ≤ sizeLine ∧ Q (.tup ds) h1) w fun ρ en h H ds vs Q0 E0 R N r q k kx => ⟨by rw [← r.length]; exact q.1, k.tup R r q.2⟩
theorem se_lst (hs : SA X fa xa W es ψ) : SE X fa xa W (.List es pos) fun en h Q E => ψ en h (fun ds h1 => PQ (newL h1 ds) Q) E := by
  refine .of ((pe_lst hs.pa).wk fun σ H Q w => ?_) (fun _ _ => rfl) (fun _ _ _ z => nomatch z) fun _ => rfl
  exact RA.use (f := fun _ ds h1 Q _ => PQ (newL h1 ds) Q) w fun ρ en h H ds vs Q0 E0 R N r q k kx => k.lst R r q

/-! ### places, slices -/
theorem plainIx_of (h : ∀ l u s p, b ≠ .Slice l u s p) : PlainIx b := fun o i => by
  cases b <;> first | rfl | exact absurd rfl (h _ _ _ _)
theorem se_ix (hu : X.A.units + 1 < cLine) (ha : SE X fa xa W a φa) (hb : SE X fa xa W b φb) (hs : ∀ l u s p, b ≠ .Slice l u s p) : SE X fa xa W (.Subscript a b pos) fun en h Q E => φa en h (fun x h1 => φb en h1 (fun y h2 => OQ (ixop x y h2) fun d => Q d h2) E) E := by
  refine .of ((pe_ix (ix_list.or (ix_tup.or (ix_dc hu))) ha.pe hb.pe (plainIx_of hs)).wk fun σ H Q w => ?_) (fun _ _ => rfl) (fun _ _ _ z => nomatch z) fun _ => rfl
  exact w.two (f := fun x y h2 Q _ => OQ (ixop x y h2) fun d => Q d h2) fun ρ en h H x y v u Q0 E0 R N rx ry q k _ => g_ix R rx ry q fun d w r q2 => k.here R r q2
/-- a bound -/
structure SP_ (X : Cx) (fa : Nat → Option Addr) (xa : Nat → Option (Value × List Str)) (W : WX) (o : Option Expr) (om : Bool) (φ : WE) : Prop where
  no : om = true → o = none
  yes : om = false → ∃ e, o = some e ∧ SE X fa xa W e φ
/-- a bound's reading, continued -/
def rO (K : PySem.W.Frag) (fa : Nat → Option Addr) (xa : Nat → Option (Value × List Str)) (W : WX) (om : Bool) (φ : WE) : TO := fun σ H Q => ∃ ρ en h Kc E0, RH K fa ρ h H ∧ REn K fa ρ H en σ ∧ ifO om (φ en h) Kc E0 h ∧
  (∀ o h2 ρ2 H2, Ext K ρ H ρ2 H2 → RH K fa ρ2 h2 H2 → Kc o h2 → Q o H2) ∧ ThenX K fa xa ρ H E0 (fun c d H2 => W c d σ H2)
theorem _root_.L2.PO.wk {o : Option Expr} {t t2 : TO} (p : PO X o t) (c : ∀ σ H Q, t2 σ H Q → t σ H Q) : PO X o t2 := ⟨fun pins s σ H Q I q => p.run pins s σ H Q I (c _ _ _ q)⟩
theorem po_all {o : Option Expr} {om : Bool} (s : SP_ X fa xa W o om φ) : PO X o (rO X.K fa xa W om φ) := by
  cases om with
  | true =>
    rw [s.no rfl]
    exact po_none.wk fun σ H Q ⟨ρ, en, h, Kc, E0, R, N, q, k, kx⟩ => k none h ρ H .refl R q
  | false =>
    obtain ⟨e, rfl, he⟩ := s.yes rfl
    refine (po_some he.pe).wk fun σ H Q ⟨ρ, en, h, Kc, E0, R, N, q, k, kx⟩ => ?_
    refine ⟨ρ, en, h, _, E0, R, N, q, fun d h2 v ρ2 H2 e1 R2 r q2 => ?_, kx⟩
    obtain ⟨i, e2, q2⟩ := OQ_some q2
    cases r with
    | int j => cases e2; exact ⟨i, rfl, k _ _ ρ2 H2 e1 R2 q2⟩
    | _ => cases e2
theorem se_sl {lo hi : Option Expr} {ol oh : Bool} {φl φh : WE} {p2 : Pos} (ha : SE X fa xa W a φa) (hl : SP_ X fa xa W lo ol φl) (hh : SP_ X fa xa W hi oh φh) :
    SE X fa xa W (.Subscript a (.Slice lo hi none p2) pos) fun en h Q E => φa en h (fun x h1 => ifO ol (φl en h1) (fun l h2 => ifO oh (φh en h2) (fun u h3 => PQ (slop x l u h3) Q) E h2) E h1) E := by
  refine .of ((pe_slice (r := rSlX X.K) (sl_list.or sl_tupA) ha.pe (po_all hl) (po_all hh)).wk fun σ H Q ⟨ρ, en, h, Q0, E0, R, N, q, k, kx⟩ => ?_) (fun _ _ => rfl) (fun _ _ _ z => nomatch z) fun _ => rfl
  refine ⟨ρ, en, h, _, E0, R, N, q, fun x h1 v ρ1 H1 e1 R1 rx q1 => ?_, kx⟩
  refine ⟨ρ1, en, h1, _, E0, R1, N.mono e1, q1, fun l h2 ρ2 H2 e2 R2 q2 => ?_, kx.ext e1⟩
  refine ⟨ρ2, en, h2, _, E0, R2, N.mono (e1.trans e2), q2, fun u h3 ρ3 H3 e3 R3 q3 => ?_, kx.ext (e1.trans e2)⟩
  exact g_sl R3 (rx.mono (e2.trans e3)) q3 (k.ext ((e1.trans e2).trans e3))

/-! ### built-ins -/
theorem g_len : GL X.K fa (fun xs H Q => ∃ x n, xs = [x] ∧ LenV X.K x H n ∧ Q (.int n) H) (biop .len) := by
  intro ρ h H xs vs Q Q0 R r q k
  cases r with
  | nil => exact False.elim q
  | cons r1 r2 =>
    cases r2 with
    | cons _ _ => (cases r1 <;> exact False.elim q)
    | nil =>
      cases r1 with
      | @tup ys us a s1 q1 => exact ⟨_, us.length, rfl, .inr ⟨us, s1.sq, rfl⟩, by rw [← q1.length]; exact k.here R (.int _) q⟩
      | @tupN ys us a s1 q1 => exact ⟨_, us.length, rfl, .inr ⟨us, s1.sq, rfl⟩, by rw [← q1.length]; exact k.here R (.int _) q⟩
      | str x =>
        obtain ⟨hz, q⟩ := ite_PQ q
        exact ⟨_, x.length, rfl, ⟨hz, rfl⟩, k.here R (.int _) q⟩
      | @ref n a ra =>
        have q : PQ (match h[n]? with | some (.lst xs) => some (.int xs.length, h) | some (.rol xs) => some (.int xs.length, h) | _ => none) Q0 := q
        split at q
        · rename_i ys e1
          obtain ⟨us, s1, q1⟩ := R.lst (show lstAt h n = some ys by unfold lstAt; rw [e1]; rfl) ra
          exact ⟨_, us.length, rfl, .inl ⟨us, s1, rfl⟩, by rw [← q1.length]; exact k.here R (.int _) q⟩
        · rename_i ys e1
          obtain ⟨us, s1, q1⟩ := R.lst (show lstAt h n = some ys by unfold lstAt; rw [e1]; rfl) ra
          exact ⟨_, us.length, rfl, .inl ⟨us, s1, rfl⟩, by rw [← q1.length]; exact k.here R (.int _) q⟩
        · exact False.elim q
      | _ => exact False.elim q

/-- one argument -/
theorem GL.one {r : List V → Hp → VK → Prop} {f : BI} (h1 : ∀ ρ h H x v Q Q0, RH X.K fa ρ h H → RD X.K fa ρ H x v → PQ (biop f [x] h) Q0 → Then X.K fa ρ H Q0 Q → r [v] H Q) (h0 : ∀ h, biop f [] h = none) (h2 : ∀ x y z h, biop f (x :: y :: z) h = none) : GL X.K fa r (biop f) := by
  intro ρ h H xs vs Q Q0 R rr q k
  cases rr with
  | nil => rw [h0] at q; exact False.elim q
  | cons r1 r2 =>
    cases r2 with
    | cons _ _ => rw [h2] at q; exact False.elim q
    | nil => exact h1 ρ h H _ _ Q Q0 R r1 q k
theorem bi2 {f : BI} (n : f.two = false) : ∀ x y z h, biop f (x :: y :: z) h = none := fun x y z h => by
  cases f <;> first | (cases x <;> rfl) | exact absurd n (by decide)
theorem bi0 {f : BI} (n : f ≠ .dict0) : ∀ h, biop f [] h = none := fun h => by
  cases f <;> first | rfl | exact absurd rfl n
/-- a list of ours behind an Option -/
theorem bind_lst {ρ : List Addr} {h : MH} {H : Hp} {n : Nat} {a : Addr} {α : Type} {g : List D → Option α} {Q : α → Prop} (R : RH X.K fa ρ h H) (ra : ρ[n]? = some a) (q : OQ ((lstAt h n).bind g) Q) :
    ∃ xs vs, lstAt h n = some xs ∧ SqL X.K H a vs ∧ RDs X.K fa ρ H xs vs ∧ OQ (g xs) Q := by
  cases e : lstAt h n with
  | none => rw [e] at q; exact False.elim q
  | some xs =>
    rw [e] at q
    obtain ⟨vs, s1, r1⟩ := R.lst e ra
    exact ⟨xs, vs, rfl, s1, r1, q⟩
theorem PQ_OQ {r : PR} {Q : QV} : PQ r Q = OQ r (fun p => Q p.1 p.2) := by cases r <;> rfl
theorem g_all : GL X.K fa (rAll X.K) (biop .all) := GL.one (fun ρ h H x v Q Q0 R r q k => by
  cases r with
  | @ref n a ra =>
    have q : PQ (((lstAt h n).bind allBls).map fun bs => (D.bl (bs.all id), h)) Q0 := q
    rw [PQ_OQ, Option.map_eq_bind, Option.bind_assoc] at q
    obtain ⟨xs, vs, e, s1, r1, q⟩ := bind_lst R ra q
    cases e2 : allBls xs with
    | none => rw [e2] at q; exact False.elim q
    | some bs =>
      rw [e2] at q
      have z := r1.bls e2
      subst z
      exact ⟨a, bs, rfl, s1, k.here R (.bl _) q⟩
  | _ => exact False.elim q) (bi0 (by intro z; cases z)) (bi2 rfl)
theorem g_any : GL X.K fa (rAny X.K) (biop .any) := GL.one (fun ρ h H x v Q Q0 R r q k => by
  cases r with
  | @ref n a ra =>
    have q : PQ (((lstAt h n).bind allBls).map fun bs => (D.bl (bs.any id), h)) Q0 := q
    rw [PQ_OQ, Option.map_eq_bind, Option.bind_assoc] at q
    obtain ⟨xs, vs, e, s1, r1, q⟩ := bind_lst R ra q
    cases e2 : allBls xs with
    | none => rw [e2] at q; exact False.elim q
    | some bs =>
      rw [e2] at q
      have z := r1.bls e2
      subst z
      exact ⟨a, bs, rfl, s1, k.here R (.bl _) q⟩
  | _ => exact False.elim q) (bi0 (by intro z; cases z)) (bi2 rfl)
def rSumT (K : PySem.W.Frag) : List V → Hp → VK → Prop := fun vs H Q => ∃ (a : Addr) (ns : List Int), vs = [V.ref a] ∧ SqT K H a (ns.map V.int) ∧ Q (.int ns.sum) H
theorem cr_sumT (hc : X.calm = true) : CallR X (.builtin "sum") (rSumT X.K) := by
  intro pins s σ H xs us Q I r ⟨a, ns, e, hs, q⟩
  subst e
  obtain ⟨its, rv, hl, _⟩ := I.tuple hs
  rw [Vals.ref1 r]
  exact MpTup.sum_tup (I.ok.hd hc) hl rv.ints fun h' tk t' hk => ⟨.int _, H, I.kept hk, ⟨_, rfl⟩, q⟩
theorem g_sum : GL X.K fa (fun vs H Q => rSum X.K vs H Q ∨ rSumT X.K vs H Q) (biop .sum) := GL.one (fun ρ h H x v Q Q0 R r q k => by
  cases r with
  | @ref n a ra =>
    have q : PQ (((lstAt h n).bind allInts).map fun bs => (D.int bs.sum, h)) Q0 := q
    rw [PQ_OQ, Option.map_eq_bind, Option.bind_assoc] at q
    obtain ⟨xs, vs, e, s1, r1, q⟩ := bind_lst R ra q
    cases e2 : allInts xs with
    | none => rw [e2] at q; exact False.elim q
    | some bs =>
      rw [e2] at q
      have z := r1.ints e2
      subst z
      exact .inl ⟨a, bs, rfl, s1, k.here R (.int _) q⟩
  | @tup xs vs a s1 r1 =>
    have q : PQ ((allInts xs).map fun bs => (D.int bs.sum, h)) Q0 := q
    cases e2 : allInts xs with
    | none => rw [e2] at q; exact False.elim q
    | some bs =>
      rw [e2] at q
      have z := r1.ints e2
      subst z
      exact .inr ⟨a, bs, rfl, s1.sq, k.here R (.int _) q⟩
  | _ => exact False.elim q) (bi0 (by intro z; cases z)) (bi2 rfl)
theorem maxL_is {ns : List Int} {m : Int} (h1 : m ∈ ns) (h2 : ∀ y, y ∈ ns → y ≤ m) : maxL ns = some m := by
  have key : ∀ (l : List Int) (x : Int), x ≤ l.foldl max x ∧ (∀ y ∈ l, y ≤ l.foldl max x) ∧ (l.foldl max x = x ∨ l.foldl max x ∈ l) := by
    intro l
    induction l with
    | nil => intro x; simp
    | cons a l ih =>
      intro x
      obtain ⟨k1, k2, k3⟩ := ih (max x a)
      refine ⟨by simp only [List.foldl_cons]; omega, fun y hy => ?_, ?_⟩
      · simp only [List.foldl_cons]
        rcases List.mem_cons.mp hy with rfl | hy
        · omega
        · exact k2 y hy
      · simp only [List.foldl_cons, List.mem_cons]
        rcases k3 with k3 | k3
        · rcases Int.le_total x a with c | c
          · right; left; omega
          · left; omega
        · exact .inr (.inr k3)
  cases ns with
  | nil => cases h1
  | cons x r =>
    obtain ⟨k1, k2, k3⟩ := key r x
    show some (r.foldl max x) = some m
    congr 1
    have a1 : r.foldl max x ≤ m := by
      rcases k3 with k3 | k3
      · rw [k3]; exact h2 x List.mem_cons_self
      · exact h2 _ (List.mem_cons_of_mem _ k3)
    have a2 : m ≤ r.foldl max x := by
      rcases List.mem_cons.mp h1 with rfl | z
      · exact k1
      · exact k2 m z
    omega
theorem minL_is {ns : List Int} {m : Int} (h1 : m ∈ ns) (h2 : ∀ y, y ∈ ns → m ≤ y) : minL ns = some m := by
  have key : ∀ (l : List Int) (x : Int), l.foldl min x ≤ x ∧ (∀ y ∈ l, l.foldl min x ≤ y) ∧ (l.foldl min x = x ∨ l.foldl min x ∈ l) := by
    intro l
    induction l with
    | nil => intro x; simp
    | cons a l ih =>
      intro x
      obtain ⟨k1, k2, k3⟩ := ih (min x a)
      refine ⟨by simp only [List.foldl_cons]; omega, fun y hy => ?_, ?_⟩
      · simp only [List.foldl_cons]
        rcases List.mem_cons.mp hy with rfl | hy
        · omega
        · exact k2 y hy
      · simp only [List.foldl_cons, List.mem_cons]
        rcases k3 with k3 | k3
        · rcases Int.le_total x a with c | c
          · left; omega
          · right; left; omega
        · exact .inr (.inr k3)
  cases ns with
  | nil => cases h1
  | cons x r =>
    obtain ⟨k1, k2, k3⟩ := key r x
    show some (r.foldl min x) = some m
    congr 1
    have a1 : m ≤ r.foldl min x := by
      rcases k3 with k3 | k3
      · rw [k3]; exact h2 x List.mem_cons_self
      · exact h2 _ (List.mem_cons_of_mem _ k3)
    have a2 : r.foldl min x ≤ m := by
      rcases List.mem_cons.mp h1 with rfl | z
      · exact k1
      · exact k2 m z
    omega
def rMaxT (K : PySem.W.Frag) : List V → Hp → VK → Prop := fun vs H Q => ∃ (a : Addr) (ns : List Int), vs = [V.ref a] ∧ SqT K H a (ns.map V.int) ∧ 0 < ns.length ∧ ∀ m, m ∈ ns → (∀ y, y ∈ ns → y ≤ m) → Q (.int m) H
def rMinT (K : PySem.W.Frag) : List V → Hp → VK → Prop := fun vs H Q => ∃ (a : Addr) (ns : List Int), vs = [V.ref a] ∧ SqT K H a (ns.map V.int) ∧ 0 < ns.length ∧ ∀ m, m ∈ ns → (∀ y, y ∈ ns → m ≤ y) → Q (.int m) H
theorem cr_maxT (hc : X.calm = true) : CallR X (.builtin "max") (rMaxT X.K) := by
  intro pins s σ H vs us Q I r ⟨a, ns, e, hs, hne, q⟩
  subst e
  obtain ⟨its, rv, pl, _⟩ := I.tuple hs
  rw [Vals.ref1 r]
  exact MpTup.mm_tup (.inl rfl) (I.ok.hd hc) pl rv.ints hne fun h' tk m t' hk h1 h2 => ⟨.int _, H, I.kept hk, ⟨_, rfl⟩, q m h1 fun y hy => by simpa using h2 y hy⟩
theorem cr_minT (hc : X.calm = true) : CallR X (.builtin "min") (rMinT X.K) := by
  intro pins s σ H vs us Q I r ⟨a, ns, e, hs, hne, q⟩
  subst e
  obtain ⟨its, rv, pl, _⟩ := I.tuple hs
  rw [Vals.ref1 r]
  exact MpTup.mm_tup (.inr rfl) (I.ok.hd hc) pl rv.ints hne fun h' tk m t' hk h1 h2 => ⟨.int _, H, I.kept hk, ⟨_, rfl⟩, q m h1 fun y hy => by simpa using h2 y hy⟩
theorem g_max1 : GL X.K fa (fun vs H Q => rMax X.K vs H Q ∨ rMaxT X.K vs H Q) (biop .max1) := GL.one (fun ρ h H x v Q Q0 R r q k => by
  cases r with
  | @ref n a ra =>
    have q : PQ ((((lstAt h n).bind allInts).bind maxL).map fun m => (D.int m, h)) Q0 := q
    rw [PQ_OQ, Option.map_eq_bind, Option.bind_assoc, Option.bind_assoc] at q
    obtain ⟨xs, vs, e, s1, r1, q⟩ := bind_lst R ra q
    cases e2 : allInts xs with
    | none => rw [e2] at q; exact False.elim q
    | some bs =>
      rw [e2] at q
      have z := r1.ints e2
      subst z
      refine .inl ⟨a, bs, rfl, s1, ?_, fun m h1 h2 => ?_⟩
      · cases bs with
        | nil => exact False.elim q
        | cons _ _ => exact Nat.succ_pos _
      · have q : OQ ((maxL bs).bind fun m => some (D.int m, h)) fun p => Q0 p.1 p.2 := q
        rw [maxL_is h1 h2] at q
        exact k.here R (.int _) q
  | @tup xs vs a s1 r1 =>
    have q : PQ (((allInts xs).bind maxL).map fun m => (D.int m, h)) Q0 := q
    cases e2 : allInts xs with
    | none => rw [e2] at q; exact False.elim q
    | some bs =>
      rw [e2] at q
      have z := r1.ints e2
      subst z
      refine .inr ⟨a, bs, rfl, s1.sq, ?_, fun m h1 h2 => ?_⟩
      · cases bs with
        | nil => exact False.elim q
        | cons _ _ => exact Nat.succ_pos _
      · have q : PQ ((maxL bs).map fun m => (D.int m, h)) Q0 := q
        rw [maxL_is h1 h2] at q
        exact k.here R (.int _) q
  | _ => exact False.elim q) (bi0 (by intro z; cases z)) (bi2 rfl)
theorem g_min1 : GL X.K fa (fun vs H Q => rMin X.K vs H Q ∨ rMinT X.K vs H Q) (biop .min1) := GL.one (fun ρ h H x v Q Q0 R r q k => by
  cases r with
  | @ref n a ra =>
    have q : PQ ((((lstAt h n).bind allInts).bind minL).map fun m => (D.int m, h)) Q0 := q
    rw [PQ_OQ, Option.map_eq_bind, Option.bind_assoc, Option.bind_assoc] at q
    obtain ⟨xs, vs, e, s1, r1, q⟩ := bind_lst R ra q
    cases e2 : allInts xs with
    | none => rw [e2] at q; exact False.elim q
    | some bs =>
      rw [e2] at q
      have z := r1.ints e2
      subst z
      refine .inl ⟨a, bs, rfl, s1, ?_, fun m h1 h2 => ?_⟩
      · cases bs with
        | nil => exact False.elim q
        | cons _ _ => exact Nat.succ_pos _
      · have q : OQ ((minL bs).bind fun m => some (D.int m, h)) fun p => Q0 p.1 p.2 := q
        rw [minL_is h1 h2] at q
        exact k.here R (.int _) q
  | @tup xs vs a s1 r1 =>
    have q : PQ (((allInts xs).bind minL).map fun m => (D.int m, h)) Q0 := q
    cases e2 : allInts xs with
    | none => rw [e2] at q; exact False.elim q
    | some bs =>
      rw [e2] at q
      have z := r1.ints e2
      subst z
      refine .inr ⟨a, bs, rfl, s1.sq, ?_, fun m h1 h2 => ?_⟩
      · cases bs with
        | nil => exact False.elim q
        | cons _ _ => exact Nat.succ_pos _
      · have q : PQ ((minL bs).map fun m => (D.int m, h)) Q0 := q
        rw [minL_is h1 h2] at q
        exact k.here R (.int _) q
  | _ => exact False.elim q) (bi0 (by intro z; cases z)) (bi2 rfl)
theorem g_max2 : GL X.K fa (fun xs H Q => ∃ i j, xs = [.int i, .int j] ∧ Q (.int (if j > i then j else i)) H) (biop .max2) := by
  intro ρ h H xs vs Q Q0 R r q k
  cases r with
  | nil => exact False.elim q
  | cons r1 r2 =>
    cases r2 with
    | nil => (cases r1 <;> exact False.elim q)
    | cons r3 r4 =>
      cases r4 with
      | cons _ _ => (cases r1 <;> cases r3 <;> exact False.elim q)
      | nil =>
        cases r1 with
        | int i =>
          cases r3 with
          | int j => exact ⟨i, j, rfl, k.here R (.int _) q⟩
          | _ => exact False.elim q
        | _ => (cases r3 <;> exact False.elim q)
theorem g_min2 : GL X.K fa (fun xs H Q => ∃ i j, xs = [.int i, .int j] ∧ Q (.int (if j < i then j else i)) H) (biop .min2) := by
  intro ρ h H xs vs Q Q0 R r q k
  cases r with
  | nil => exact False.elim q
  | cons r1 r2 =>
    cases r2 with
    | nil => (cases r1 <;> exact False.elim q)
    | cons r3 r4 =>
      cases r4 with
      | cons _ _ => (cases r1 <;> cases r3 <;> exact False.elim q)
      | nil =>
        cases r1 with
        | int i =>
          cases r3 with
          | int j => exact ⟨i, j, rfl, k.here R (.int _) q⟩
          | _ => exact False.elim q
        | _ => (cases r3 <;> exact False.elim q)
theorem g_tupleOf : GL X.K fa (fun xs H Q => ∃ p ys, xs = [.ref p] ∧ ((SqL X.K H p ys ∧ ∀ l, H l = none → Q (.ref l) (upd H l (.tup ys))) ∨ (SqT X.K H p ys ∧ Q (.ref p) H))) (biop .tupleOf) := GL.one (fun ρ h H x v Q Q0 R r q k => by
  cases r with
  | @tup xs vs a s1 r1 => exact ⟨a, vs, rfl, .inr ⟨s1.sq, k.here R (.tup s1 r1) q⟩⟩
  | @ref n a ra =>
    have q : PQ ((lstAt h n).map fun xs => (D.tup xs, h)) Q0 := q
    rw [PQ_OQ, Option.map_eq_bind] at q
    obtain ⟨xs, vs, e, s1, r1, q⟩ := bind_lst R ra q
    exact ⟨a, vs, rfl, .inl ⟨s1, k.tup R r1 q⟩⟩
  | _ => exact False.elim q) (bi0 (by intro z; cases z)) (bi2 rfl)
/-- tuple(l): the new tuple is known to its object -/
def rTpn (K : PySem.W.Frag) : List V → Hp → VK → Prop := fun xs H Q => ∃ p ys, xs = [.ref p] ∧ SqL K H p ys ∧ ∀ (l : Addr) (o : Obj), H l = none → o.cls = .type "tuple" → o.dict = none → Q (.ref l) (upd H l (.frz o (.tup ys)))
theorem call_tpn : CallR X (.type "tuple") (rTpn X.K) := by
  intro pins s σ H xs us Q I r h
  obtain ⟨p, ys, rfl, hq, q⟩ := h
  obtain ⟨u, rfl, rx⟩ := vals1 r
  cases rx
  obtain ⟨its, rv, pl, hz⟩ := I.list hq
  have hlen := rv.length
  refine call_tuple_list pl.isList (fun h' kp => ?_) (by simp only [List.size_toArray]; omega)
  have I1 : Inv X pins σ H { s with heap := h' } := I.kept (t' := s.toks) kp
  have hn := I1.hok.fresh (Nat.le_refl h'.objs.size)
  let o : Obj := { cls := .type "tuple", data := .seq its.toArray }
  have I2 : Inv X pins σ (upd H h'.objs.size (.frz o (.tup ys))) { s with heap := h'.push o } :=
    I1.laid (t' := s.toks) (fun b o e => Heap.get?_push_of_some _ e) (Nat.le_refl _) (show ObjOk X.prog X.w _ _ _ (.frz o (.tup ys)) from ⟨Heap.get?_push_size _ rfl, hz, its, rv, IsTup.new _ _⟩)
  exact ⟨.ref h'.objs.size, _, I2, rfl, q _ o hn rfl rfl⟩
theorem g_tpn : GL X.K fa (rTpn X.K) (biop .tupleN) := GL.one (fun ρ h H x v Q Q0 R r q k => by
  cases r with
  | @ref n a ra =>
    have q : PQ ((lstAt h n).map fun xs => (D.tupN xs, h)) Q0 := q
    rw [PQ_OQ, Option.map_eq_bind] at q
    obtain ⟨xs, vs, e, s1, r1, q⟩ := bind_lst R ra q
    exact ⟨a, vs, rfl, s1, k.tpn R r1 q⟩
  | _ => exact False.elim q) (bi0 (by intro z; cases z)) (bi2 rfl)
theorem g_listOf : GL X.K fa (fun xs H Q => ∃ p ys, xs = [.ref p] ∧ (SqL X.K H p ys ∨ SqT X.K H p ys) ∧ ∀ l, H l = none → Q (.ref l) (upd H l (.lst ys))) (biop .listOf) := GL.one (fun ρ h H x v Q Q0 R r q k => by
  cases r with
  | @tup xs vs a s1 r1 => exact ⟨a, vs, rfl, .inr s1.sq, (k.lst R r1 q).2⟩
  | @tupN xs vs a s1 r1 => exact ⟨a, vs, rfl, .inr s1.sq, (k.lst R r1 q).2⟩
  | @ref n a ra =>
    have q : PQ ((lstAt h n).bind fun xs => newL h xs) Q0 := q
    rw [PQ_OQ] at q
    obtain ⟨xs, vs, e, s1, r1, q⟩ := bind_lst R ra q
    rw [← PQ_OQ] at q
    exact ⟨a, vs, rfl, .inl s1, (k.lst R r1 q).2⟩
  | _ => exact False.elim q) (bi0 (by intro z; cases z)) (bi2 rfl)
theorem g_intOf : GL X.K fa (fun xs H Q => (∃ i, xs = [.int i] ∧ Q (.int i) H) ∨ ∃ k, xs = [.bl k] ∧ Q (.int (if k then 1 else 0)) H) (biop .intOf) := GL.one (fun ρ h H x v Q Q0 R r q k => by
  cases r with
  | int i => exact .inl ⟨i, rfl, k.here R (.int _) q⟩
  | bl i => exact .inr ⟨i, rfl, k.here R (.int _) q⟩
  | _ => exact False.elim q) (bi0 (by intro z; cases z)) (bi2 rfl)
theorem g_strOf : GL X.K fa (fun xs H Q => ∃ i, xs = [.int i] ∧ i.natAbs.log2 < 1920 ∧ Q (.str (toString i)) H) (biop .strOf) := GL.one (fun ρ h H x v Q Q0 R r q k => by
  cases r with
  | int i =>
    obtain ⟨hz, q⟩ := ite_PQ (show PQ (if i.natAbs.log2 < 1920 then some (D.str (toString i), h) else none) Q0 from q)
    exact ⟨i, rfl, hz, k.here R (.str _) q⟩
  | _ => exact False.elim q) (bi0 (by intro z; cases z)) (bi2 rfl)

/-! ### repr -/
def rRepr (K : PySem.W.Frag) : List V → Hp → VK → Prop := fun xs H Q => ∃ x d, xs = [x] ∧ Dp K H x d ∧ d.showable = true ∧ d.hasDict = false ∧ d.depth ≤ 64 ∧ d.shown.length ≤ sizeLine ∧ Q (.str d.shown) H
theorem call_reprD (hg : X.A.guards = some []) (hu : X.A.units + 66 < cLine) : CallR X (.builtin "repr") (rRepr X.K) := by
  intro pins s σ H xs us Q I r h
  obtain ⟨x, d, rfl, hd, h1, h2, h3, h4, q⟩ := h
  obtain ⟨u, rfl, ru⟩ := vals1 r
  have go : EP X pins σ Q (.str d.shown s.toks) { s with toks := s.toks + 1 } := ⟨.str d.shown, H, I.tok _, ⟨_, rfl⟩, q⟩
  cases hd with
  | non => cases ru; exact PySem.P.repr_of_none go
  | bl b => cases ru; exact PySem.P.repr_of_bool (by cases b <;> exact go)
  | int i =>
    obtain ⟨t, rfl⟩ := ru
    exact PySem.P.repr_of_int (of_decide_eq_true h1) go
  | str y =>
    obtain ⟨t, rfl⟩ := ru
    exact PySem.P.repr_of_str go h4
  | lst s1 s2 =>
    have hd2 : Dp X.K H (.ref _) (.list _) := .lst s1 s2
    obtain ⟨as, rd⟩ := Dp.reads I _ _ u hd2 ru
    cases ru
    exact repr_of_reads' rd h1 (noDict h2) hg (by omega) (fun _ _ e => e) (fun h' t tk hk => ⟨.str _, H, I.kept hk, ⟨_, rfl⟩, q⟩) h4
  | tup s1 s2 =>
    have hd2 : Dp X.K H (.ref _) (.tuple _) := .tup s1 s2
    obtain ⟨as, rd⟩ := Dp.reads I _ _ u hd2 ru
    cases ru
    exact repr_of_reads' rd h1 (noDict h2) hg (by omega) (fun _ _ e => e) (fun h' t tk hk => ⟨.str _, H, I.kept hk, ⟨_, rfl⟩, q⟩) h4
where noDict {d : PyData} {as : List Addr} (h : d.hasDict = false) : d.hasDict = true → sysModules ∉ as := fun z => by rw [h] at z; cases z
theorem g_repr : GL X.K fa (rRepr X.K) (biop .repr) := GL.one (fun ρ h H x v Q Q0 R r q k => by
  have q : PQ (match pyD 65 h x with | some p => if p.showable && !p.hasDict && decide (p.depth ≤ 64) && decide (p.shown.length ≤ sizeLine) then some (D.str p.shown, h) else none | none => none) Q0 := q
  split at q
  · rename_i p e
    obtain ⟨c, q⟩ := ite_PQ q
    simp only [Bool.and_eq_true, decide_eq_true_eq, Bool.not_eq_true'] at c
    exact ⟨v, p, rfl, r.dp R _ _ _ _ e, c.1.1.1, c.1.1.2, c.1.2, c.2, k.here R (.str _) q⟩
  · exact False.elim q) (bi0 (by intro z; cases z)) (bi2 rfl)

/-! ### sorted -/
def rSortD (K : PySem.W.Frag) : List V → Hp → VK → Prop := fun vs H Q => ∃ (a : Addr) (ws : List V) (ps : List PyData), vs = [.ref a] ∧ SqL K H a ws ∧ DpAll K H ws ps ∧ (∀ p ∈ ps, ∀ q ∈ ps, PySem.W.alike p q = true) ∧ PySem.W.Sortable ps ∧ (∀ p ∈ ps, p.depth ≤ 64) ∧ ws.length ≤ sizeLine ∧
  ∀ l, H l = none → Q (.ref l) (upd H l (.lst (((ws.zip ps).mergeSort (PySem.W.dataLe false Prod.snd)).map Prod.fst)))
theorem DpAll.length {H : Hp} : ∀ {vs : List V} {ps : List PyData}, DpAll X.K H vs ps → vs.length = ps.length
  | _, _, .nil => rfl
  | _, _, .cons _ t => by rw [List.length_cons, List.length_cons, DpAll.length t]
theorem each_sort {pins : List (Addr × Obj)} {s : Shared} {σ : L2.St} {H : Hp} (I : Inv X pins σ H s) : ∀ {vs : List V} {ps : List PyData} {us : List Value}, DpAll X.K H vs ps → Vals vs us →
    PySem.W.EachIs (fun (u : Value) (b : V × PyData) => RelV b.1 u) us (vs.zip ps) ∧ PySem.W.EachIs (fun u (b : V × PyData) => ∃ as, Reads s.heap u b.2 as) us (vs.zip ps)
  | _, _, _, .nil, .nil => ⟨.nil, .nil⟩
  | _, _, _, .cons d1 d2, .cons r1 r2 => by
    obtain ⟨a, b⟩ := each_sort I d2 r2
    exact ⟨.cons r1 a, .cons (Dp.reads I _ _ _ d1 r1) b⟩
theorem zip_snd : ∀ {vs : List V} {ps : List PyData}, vs.length = ps.length → (vs.zip ps).map Prod.snd = ps
  | [], [], _ => rfl
  | _ :: vs, _ :: ps, h => by
    show _ :: (vs.zip ps).map Prod.snd = _
    rw [zip_snd (by simpa using h)]
theorem vals_each : ∀ {us : List Value} {bs : List (V × PyData)}, PySem.W.EachIs (fun (u : Value) (b : V × PyData) => RelV b.1 u) us bs → Vals (bs.map Prod.fst) us
  | _, _, .nil => .nil
  | _, _, .cons r t => .cons r (vals_each t)
theorem call_sortD (hu : X.A.units + 68 < cLine) : CallR X (.builtin "sorted") (rSortD X.K) := by
  intro pins s σ H vs us Q I r h
  obtain ⟨a, ws, ps, rfl, hs, hd, hal, hk, hdep, hz, q⟩ := h
  obtain ⟨u, rfl, ru⟩ := vals1 r
  cases ru
  obtain ⟨its, rv, pl, _⟩ := I.list hs
  obtain ⟨e1, e2⟩ := each_sort I hd rv
  have hl := DpAll.length hd
  have hsnd := zip_snd hl
  refine PySem.W.sorted_data (enc := Prod.snd) pl.isList e1 e2 (by rw [hsnd]; exact hal) (by rw [hsnd]; exact hk) (by rw [List.length_zip, ← hl, Nat.min_self]; exact hz) (fun b hb => ?_) fun out ho eo => ?_
  · have : b.2 ∈ ps := by rw [← hsnd]; exact List.mem_map_of_mem hb
    have := hdep _ this
    omega
  · obtain ⟨ep, he⟩ := sortedAll_at s.heap its out.toArray
    refine ⟨.ref _, _, I.laid (t' := s.toks) (o := .lst _) (fun _ _ => sortedAll_old) (Nat.le_succ _) ⟨?_, out, ep, vals_each eo, he⟩, rfl, q _ (I.hok.fresh (Nat.le_succ _))⟩
    rw [List.length_map, List.length_mergeSort, List.length_zip, ← hl, Nat.min_self]
    exact hz
theorem RDs.dpAll {ρ : List Addr} {h : MH} {H : Hp} (R : RH X.K fa ρ h H) {ds : List D} {vs : List V} {ps : List PyData} (r : RDs X.K fa ρ H ds vs) (e : ds.mapM (pyD 65 h) = some ps) : DpAll X.K H vs ps :=
  RDs.dp_of (RD.dp R 65) ds vs ps r e

theorem RDs.of_mem {ρ : List Addr} {H : Hp} {α : Type} {f : α → D} {g : α → V} : ∀ {l : List α}, (∀ t ∈ l, RD X.K fa ρ H (f t) (g t)) → RDs X.K fa ρ H (l.map f) (l.map g)
  | [], _ => .nil
  | t :: l, h => .cons (h t List.mem_cons_self) (RDs.of_mem fun u hu => h u (List.mem_cons_of_mem _ hu))
theorem RDs.triples {ρ : List Addr} {H : Hp} : ∀ {xs : List D} {ws : List V} {ps : List PyData}, RDs X.K fa ρ H xs ws → ws.length = ps.length →
    (xs.zip (ws.zip ps)).map (fun t => (t.1, t.2.2)) = xs.zip ps ∧ (xs.zip (ws.zip ps)).map (fun t => t.2) = ws.zip ps ∧ ∀ t ∈ xs.zip (ws.zip ps), RD X.K fa ρ H t.1 t.2.1
  | _, _, ps, .nil, e => ⟨rfl, (by cases ps with | nil => rfl | cons _ _ => cases e), fun t ht => (by cases ht)⟩
  | x :: xs, w :: ws, p :: ps, .cons r t, e => by
    obtain ⟨a, b, c⟩ := RDs.triples t (show ws.length = ps.length by simpa using e)
    refine ⟨?_, ?_, fun t ht => ?_⟩
    · show (x, p) :: (xs.zip (ws.zip ps)).map (fun t => (t.1, t.2.2)) = (x, p) :: xs.zip ps
      rw [a]
    · show (w, p) :: (xs.zip (ws.zip ps)).map (fun t => t.2) = (w, p) :: ws.zip ps
      rw [b]
    · rcases List.mem_cons.mp ht with rfl | ht
      · exact r
      · exact c t ht
  | _ :: _, _ :: _, [], .cons _ _, e => by cases e
theorem RDs.sorted {ρ : List Addr} {H : Hp} {xs : List D} {ws : List V} {ps : List PyData} (r : RDs X.K fa ρ H xs ws) (e : ws.length = ps.length) :
    RDs X.K fa ρ H (((xs.zip ps).mergeSort (PySem.W.dataLe false Prod.snd)).map Prod.fst) (((ws.zip ps).mergeSort (PySem.W.dataLe false Prod.snd)).map Prod.fst) := by
  obtain ⟨a, b, c⟩ := r.triples e
  have ea : (xs.zip ps).mergeSort (PySem.W.dataLe false Prod.snd) = ((xs.zip (ws.zip ps)).mergeSort (PySem.W.dataLe false fun t => t.2.2)).map (fun t => (t.1, t.2.2)) := by
    exact (congrArg (fun l => List.mergeSort l (PySem.W.dataLe false Prod.snd)) a.symm).trans (List.map_mergeSort (f := fun t : D × V × PyData => (t.1, t.2.2)) (r := PySem.W.dataLe false fun t => t.2.2) fun _ _ _ _ => rfl).symm
  have eb : (ws.zip ps).mergeSort (PySem.W.dataLe false Prod.snd) = ((xs.zip (ws.zip ps)).mergeSort (PySem.W.dataLe false fun t => t.2.2)).map (fun t => t.2) := by
    exact (congrArg (fun l => List.mergeSort l (PySem.W.dataLe false Prod.snd)) b.symm).trans (List.map_mergeSort (f := fun t : D × V × PyData => t.2) (r := PySem.W.dataLe false fun t => t.2.2) fun _ _ _ _ => rfl).symm
  rw [ea, eb, List.map_map, List.map_map]
  exact RDs.of_mem fun t ht => c t (List.mem_mergeSort.mp ht)
theorem sortable_of {ps : List PyData} (h : (ps.all isTupNE || ps.all isPlainK) = true) : PySem.W.Sortable ps := by
  rcases Bool.or_eq_true_iff.mp h with z | z
  · refine .inl fun d hd => ?_
    have q := List.all_eq_true.mp z d hd
    cases d with
    | tuple xs => cases xs with
      | nil => cases q
      | cons x r => exact ⟨x, r, rfl⟩
    | _ => cases q
  · refine .inr fun d hd => ?_
    have q := List.all_eq_true.mp z d hd
    cases d with
    | none => cases q
    | tuple _ => cases q
    | _ => exact ⟨(by intro z; cases z), (by intro xs z; cases z)⟩
def rSortDT (K : PySem.W.Frag) : List V → Hp → VK → Prop := fun vs H Q => ∃ (a : Addr) (ws : List V) (ps : List PyData), vs = [.ref a] ∧ SqT K H a ws ∧ DpAll K H ws ps ∧ (∀ p ∈ ps, ∀ q ∈ ps, PySem.W.alike p q = true) ∧ PySem.W.Sortable ps ∧ (∀ p ∈ ps, p.depth ≤ 64) ∧ ws.length ≤ sizeLine ∧
  ∀ l, H l = none → Q (.ref l) (upd H l (.lst (((ws.zip ps).mergeSort (PySem.W.dataLe false Prod.snd)).map Prod.fst)))
theorem call_sortDT (hu : X.A.units + 68 < cLine) : CallR X (.builtin "sorted") (rSortDT X.K) := by
  intro pins s σ H vs us Q I r ⟨a, ws, ps, e, hs, hd, hal, hk, hdep, hz, q⟩
  subst e
  obtain ⟨u, eu, ru⟩ := vals1 r
  subst eu
  cases ru
  obtain ⟨its, rv, pl, _⟩ := I.tuple hs
  obtain ⟨e1, e2⟩ := each_sort I hd rv
  have hl := DpAll.length hd
  have hsnd := zip_snd hl
  refine MpTup.sorted_tup (enc := Prod.snd) pl e1 e2 (by rw [hsnd]; exact hal) (by rw [hsnd]; exact hk) (by rw [List.length_zip, ← hl, Nat.min_self]; exact hz) (fun b hb => ?_) fun out ho eo => ?_
  · have hb2 : b.2 ∈ ps := by rw [← hsnd]; exact List.mem_map_of_mem hb
    have := hdep _ hb2
    omega
  · obtain ⟨ep, he⟩ := sortedAll_at s.heap its out.toArray
    refine ⟨.ref _, _, I.laid (t' := s.toks) (o := .lst _) (fun _ _ => sortedAll_old) (Nat.le_succ _) ⟨?_, out, ep, vals_each eo, he⟩, rfl, q _ (I.hok.fresh (Nat.le_succ _))⟩
    rw [List.length_map, List.length_mergeSort, List.length_zip, ← hl, Nat.min_self]
    exact hz
theorem sort_parts {ρ : List Addr} {h : MH} {H : Hp} {xs : List D} {ws : List V} {Q : VK} {Q0 : QV} (R : RH X.K fa ρ h H) (r1 : RDs X.K fa ρ H xs ws) (k : Then X.K fa ρ H Q0 Q) (q : OQ ((sortL h xs).bind fun ys => newL h ys) fun p => Q0 p.1 p.2) :
    ∃ ps, DpAll X.K H ws ps ∧ (∀ p ∈ ps, ∀ q ∈ ps, PySem.W.alike p q = true) ∧ PySem.W.Sortable ps ∧ (∀ p ∈ ps, p.depth ≤ 64) ∧ ws.length ≤ sizeLine ∧ ∀ l, H l = none → Q (.ref l) (upd H l (.lst (((ws.zip ps).mergeSort (PySem.W.dataLe false Prod.snd)).map Prod.fst))) := by
  rw [← PQ_OQ] at q
  unfold sortL at q
  cases e2 : xs.mapM (pyD 65 h) with
  | none => rw [e2] at q; exact False.elim q
  | some ps =>
    rw [e2] at q
    simp only at q
    have hd := r1.dpAll R e2
    have hl := DpAll.length hd
    split at q
    · rename_i c
      simp only [Bool.and_eq_true] at c
      obtain ⟨⟨⟨c1, c2⟩, c3⟩, c4⟩ := c
      exact ⟨ps, hd, fun p hp q hq => List.all_eq_true.mp (List.all_eq_true.mp c1 p hp) q hq, sortable_of c2, fun p hp => of_decide_eq_true (List.all_eq_true.mp c3 p hp), by rw [← r1.length]; exact of_decide_eq_true c4, (k.lst R (r1.sorted hl) q).2⟩
    · exact False.elim q
theorem g_sorted : GL X.K fa (fun vs H Q => rSortD X.K vs H Q ∨ rSortDT X.K vs H Q) (biop .sorted) := GL.one (fun ρ h H x v Q Q0 R r q k => by
  cases r with
  | @ref n a ra =>
    have q : PQ (((lstAt h n).bind (sortL h)).bind fun xs => newL h xs) Q0 := q
    rw [PQ_OQ, Option.bind_assoc] at q
    obtain ⟨xs, ws, e, s1, r1, q⟩ := bind_lst R ra q
    obtain ⟨ps, p1, p2, p3, p4, p5, p6⟩ := sort_parts R r1 k q
    exact .inl ⟨a, ws, ps, rfl, s1, p1, p2, p3, p4, p5, p6⟩
  | @tup xs ws a s1 r1 =>
    have q : PQ ((sortL h xs).bind fun ys => newL h ys) Q0 := q
    rw [PQ_OQ] at q
    obtain ⟨ps, p1, p2, p3, p4, p5, p6⟩ := sort_parts R r1 k q
    exact .inr ⟨a, ws, ps, rfl, s1.sq, p1, p2, p3, p4, p5, p6⟩
  | _ => exact False.elim q) (bi0 (by intro z; cases z)) (bi2 rfl)

/-! ### together -/
inductive BV where
  | fn (x : Str) (id : String) | ty (x : Str) (id : String)
def biName : BI → Option BV
  | .len => some (.fn "len" "len") | .all => some (.fn "all" "all") | .any => some (.fn "any" "any") | .sum => some (.fn "sum" "sum")
  | .max1 => some (.fn "max" "max") | .min1 => some (.fn "min" "min") | .max2 => some (.fn "max" "max") | .min2 => some (.fn "min" "min") | .repr => some (.fn "repr" "repr") | .sorted => some (.fn "sorted" "sorted")
  | .tupleOf => some (.ty "tuple" "tuple") | .tupleN => some (.ty "tuple" "tuple") | .listOf => some (.ty "list" "list") | .intOf => some (.ty "int" "int") | .strOf => some (.ty "str" "str")
  | _ => none
/-- the names of the built-ins that may be asked, none of them the module's own -/
def BNames : List Str := ["len", "all", "any", "sum", "max", "min", "repr", "sorted", "tuple", "list", "int", "str", "isinstance", "range", "zip", "bool", "set"]
theorem se_biF {x : Str} {id : String} {f : BI} {p : Pos} {r : List V → Hp → VK → Prop} (hc : CallR X (.builtin id) r) (hgl : GL X.K fa r (biop f)) (hg : Gl X x) (hm : X.mg x = none) (hv : bootBuiltins x = some (.builtin id)) (hn : x ≠ "__name__") (hdb : (x == ("__debug__" : Str)) = false)
    (he : starEach (e :: es) X.env = (false, eval e X.env) :: starEach es X.env) (hpl : (backTo pos (starEach es X.env)).any (·.1) = false) (hs : SA X fa xa W (e :: es) ψ) :
    SE X fa xa W (.Call (.Name x p) (e :: es) [] pos) fun en h Q E => ψ en h (fun ds h1 => PQ (biop f ds h1) Q) E := by
  refine .of ((pe_callB hc hg hm hv hs.pa hn hdb he hpl).wk fun σ H Q w => ?_) (fun _ _ => rfl) (fun _ _ _ z => nomatch z) fun _ => rfl
  exact RA.use (f := fun _ ds h1 Q _ => PQ (biop f ds h1) Q) w fun ρ en h H ds vs Q0 E0 R N r q k kx => hgl ρ h H ds vs Q Q0 R r q k
theorem se_biT {x : Str} {id : String} {f : BI} {p : Pos} {r : List V → Hp → VK → Prop} (hc : CallR X (.type id) r) (hgl : GL X.K fa r (biop f)) (hg : Gl X x) (hm : X.mg x = none) (hv : bootBuiltins x = some (.type id)) (hn : x ≠ "__name__") (hdb : (x == ("__debug__" : Str)) = false)
    (he : starEach (e :: es) X.env = (false, eval e X.env) :: starEach es X.env) (hpl : (backTo pos (starEach es X.env)).any (·.1) = false) (hs : SA X fa xa W (e :: es) ψ) :
    SE X fa xa W (.Call (.Name x p) (e :: es) [] pos) fun en h Q E => ψ en h (fun ds h1 => PQ (biop f ds h1) Q) E := by
  refine .of ((pe_callTy hc hg hm hv hs.pa hn hdb he hpl).wk fun σ H Q w => ?_) (fun _ _ => rfl) (fun _ _ _ z => nomatch z) fun _ => rfl
  exact RA.use (f := fun _ ds h1 Q _ => PQ (biop f ds h1) Q) w fun ρ en h H ds vs Q0 E0 R N r q k kx => hgl ρ h H ds vs Q Q0 R r q k
def bvStr : BV → Str
  | .fn x _ => x
  | .ty x _ => x
theorem se_bi {f : BI} {p : Pos} {bv : BV} (hf : biName f = some bv) (hcalm : X.calm = true) (hgd : X.A.guards = some []) (hu : X.A.units + 68 < cLine) (hg : Gl X (bvStr bv)) (hm : X.mg (bvStr bv) = none)
    (he : starEach (e :: es) X.env = (false, eval e X.env) :: starEach es X.env) (hpl : (backTo pos (starEach es X.env)).any (·.1) = false) (hs : SA X fa xa W (e :: es) ψ) :
    SE X fa xa W (.Call (.Name (bvStr bv) p) (e :: es) [] pos) fun en h Q E => ψ en h (fun ds h1 => PQ (biop f ds h1) Q) E := by
  cases f with
  | len => cases hf; exact se_biF call_len g_len hg hm (by decide +kernel) (by decide +kernel) (by decide +kernel) he hpl hs
  | all => cases hf; exact se_biF (cr_all hcalm) g_all hg hm (by decide +kernel) (by decide +kernel) (by decide +kernel) he hpl hs
  | any => cases hf; exact se_biF (cr_any hcalm) g_any hg hm (by decide +kernel) (by decide +kernel) (by decide +kernel) he hpl hs
  | sum => cases hf; exact se_biF ((cr_sum hcalm).or (cr_sumT hcalm)) g_sum hg hm (by decide +kernel) (by decide +kernel) (by decide +kernel) he hpl hs
  | max1 => cases hf; exact se_biF ((cr_max hcalm).or (cr_maxT hcalm)) g_max1 hg hm (by decide +kernel) (by decide +kernel) (by decide +kernel) he hpl hs
  | min1 => cases hf; exact se_biF ((cr_min hcalm).or (cr_minT hcalm)) g_min1 hg hm (by decide +kernel) (by decide +kernel) (by decide +kernel) he hpl hs
  | max2 => cases hf; exact se_biF (call_max2 hcalm) g_max2 hg hm (by decide +kernel) (by decide +kernel) (by decide +kernel) he hpl hs
  | min2 => cases hf; exact se_biF (call_min2 hcalm) g_min2 hg hm (by decide +kernel) (by decide +kernel) (by decide +kernel) he hpl hs
  | repr => cases hf; exact se_biF (call_reprD hgd (by omega)) g_repr hg hm (by decide +kernel) (by decide +kernel) (by decide +kernel) he hpl hs
  | sorted => cases hf; exact se_biF ((call_sortD hu).or (call_sortDT hu)) g_sorted hg hm (by decide +kernel) (by decide +kernel) (by decide +kernel) he hpl hs
  | tupleOf => cases hf; exact se_biT call_tuple_of g_tupleOf hg hm (by decide +kernel) (by decide +kernel) (by decide +kernel) he hpl hs
  | tupleN => cases hf; exact se_biT call_tpn g_tpn hg hm (by decide +kernel) (by decide +kernel) (by decide +kernel) he hpl hs
  | listOf => cases hf; exact se_biT call_list_of g_listOf hg hm (by decide +kernel) (by decide +kernel) (by decide +kernel) he hpl hs
  | intOf => cases hf; exact se_biT call_int1 g_intOf hg hm (by decide +kernel) (by decide +kernel) (by decide +kernel) he hpl hs
  | strOf => cases hf; exact se_biT call_str_int g_strOf hg hm (by decide +kernel) (by decide +kernel) (by decide +kernel) he hpl hs
  | _ => cases hf
end
end Mp
namespace Mp
open PySem PySem.Spec PyProof.Rows L2

/-- a def's promise where no repr runs around it -/
structure FnG (P : Program) (w : World) (K : PySem.W.Frag) (mg : Str → Option Value) (base : Heap) (k : Nat) (f : Addr) (fd : FuncData) (ps : List Str) (sp : Sp) : Prop where
  run : ∀ (A : Around) (outer : List Env) (s : Shared) (H : Hp) (args : Args) (us : List Value) (vs : List V) (Q : VK) (E : XK), A.guards = some [] → Room k A → Env0 P w K mg base A outer s H → BindsTo s fd args (ps.zip us) → Vals vs us → sp vs H Q E →
    codeAny (model P w) A (.call (.ref f) args) (CR (L2.CX P w) outer P w H s Q E) s
/-- what a call asks, by the small semantics -/
def spG (K : PySem.W.Frag) (fa : Nat → Option Addr) (xa : Nat → Option (Value × List Str)) (Φ : Phi) (f : Nat) : Sp := fun vs H Q E => ∃ ρ h ds Q0 E0, RH K fa ρ h H ∧ RDs K fa ρ H ds vs ∧ Φ f ds h Q0 E0 ∧ Then K fa ρ H Q0 Q ∧ ThenX K fa xa ρ H E0 E
structure CallOk (X : Cx) (fa : Nat → Option Addr) (xa : Nat → Option (Value × List Str)) (Φ : Phi) (f : Nat) (x : Str) : Prop where
  ex : ∃ (k : Nat) (a : Addr) (fd : FuncData) (ps : List Str), X.mg x = some (.ref a) ∧ fa f = some a ∧ PySem.W.keepIn X.K (.ref a) = true ∧ Binds X.K fd ps [] ∧ FnG X.prog X.w X.K X.mg X.base k a fd ps (spG X.K fa xa Φ f) ∧ Room k X.A ∧
    ∀ ds h Q E, Φ f ds h Q E → ds.length = ps.length

section
variable {X : Cx} {fa : Nat → Option Addr} {xa : Nat → Option (Value × List Str)} {W : WX} {e : Expr} {es : List Expr} {ψ : WL} {pos p : Pos} {Φ : Phi} {f : Nat} {x : Str}
theorem call_run {pins : List (Addr × Obj)} {σ : L2.St} {H : Hp} {s : Shared} {Q : VK} {us : List Value} {vs : List V} {k : Nat} {a : Addr} {fd : FuncData} {ps : List Str} {sp : Sp} (hg : X.A.guards = some []) (F : FnG X.prog X.w X.K X.mg X.base k a fd ps sp) (hr : Room k X.A) (hb : Binds X.K fd ps [])
    (tk : Takes X W) (I : Inv X pins σ H s) (r : Vals vs us) (hl : vs.length = ps.length) (h : sp vs H Q (fun c d H2 => W c d σ H2)) : wpAny (model X.prog X.w) X.A (call (.ref a) us) (EP X pins σ Q) X.xe s := by
  have hlu : (us ++ []).length = ps.length := by rw [List.append_nil, ← r.length, hl]
  have hbt := hb s us I.kIn hlu
  rw [List.append_nil] at hbt
  refine wpAny_call (codeAny_mono (F.run X.A X.stack s H ⟨us, []⟩ us vs Q _ hg hr I.env0 hbt r h) fun res s2 hq => ?_)
  cases res with
  | error er => exact tk er s2 (XE.of_call I (fun _ _ _ z => z) hq)
  | ok fl =>
    cases fl with
    | ret u => exact I.after hq
    | next => exact hq.elim
    | brk => exact hq.elim
    | cont => exact hq.elim
theorem se_call (hgd : X.A.guards = some []) (hg : Gl X x) (hdb : (x == ("__debug__" : Str)) = false) (C : CallOk X fa xa Φ f x) (tk : Takes X W) (hs : SA X fa xa W (e :: es) ψ)
    (h1 : starEach (e :: es) X.env = (false, eval e X.env) :: starEach es X.env) (h2 : (backTo pos (starEach es X.env)).any (·.1) = false) :
    SE X fa xa W (.Call (.Name x p) (e :: es) [] pos) fun en h Q E => ψ en h (fun ds h1 => Φ f ds h1 Q E) E := by
  obtain ⟨k, a, fd, ps, hm, hfa, hk, hb, F, hr, hlen⟩ := C.ex
  refine .of ⟨fun pins s σ H Q I w => ?_⟩ (fun _ _ => rfl) (fun _ _ _ z => nomatch z) fun _ => rfl
  have w2 : RA X.K fa xa W ψ σ H fun vs H1 => vs.length = ps.length ∧ spG X.K fa xa Φ f vs H1 Q (fun c d H2 => W c d σ H2) :=
    RA.use (f := fun _ ds h1 Q E => Φ f ds h1 Q E) w fun ρ en h H ds vs Q0 E0 R N r q kq kx => ⟨by rw [← r.length]; exact hlen _ _ _ _ q, ρ, h, ds, Q0, E0, R, r, q, kq, kx⟩
  refine wpAny_Call_Name_kw (ld_glob I hg hm ?_ hdb)
  refine PySem.W.callWith_K (h₀ := X.base) I.ok.mod.kin hk (thn (hs.pa.run pos pins s σ H _ I w2) fun us s1 ⟨vs, H1, I1, r1, hl, q⟩ => ⟨I1.kIn, ?_⟩) h1 h2
  exact call_run hgd F hr hb tk I1 r1 hl q
/-- a call of a name's function -/
theorem se_callv {i : Nat} (hgd : X.A.guards = some []) (hN : X.N[i]? = some x) (hv : Vis X.env.scope x) (hdb : (x == ("__debug__" : Str)) = false) (hcd : (x == ("__classdict__" : Str)) = false) (C : ∀ f a, fa f = some a → ∃ y, CallOk X fa xa Φ f y) (tk : Takes X W) (hs : SA X fa xa W (e :: es) ψ)
    (h1 : starEach (e :: es) X.env = (false, eval e X.env) :: starEach es X.env) (h2 : (backTo pos (starEach es X.env)).any (·.1) = false) :
    SE X fa xa W (.Call (.Name x p) (e :: es) [] pos) fun en h Q E => OQ (en[i]?.join) fun d => OQ (asFn d) fun f => ψ en h (fun ds h1 => Φ f ds h1 Q E) E := by
  refine .of ⟨fun pins s σ H Q I w => ?_⟩ (fun _ _ => rfl) (fun _ _ _ z => nomatch z) fun _ => rfl
  obtain ⟨ρ, en, h, Q0, E0, R, N, q, kq, kx⟩ := w
  obtain ⟨d, e0, q⟩ := OQ_some q
  obtain ⟨f, e1, q⟩ := OQ_some q
  have e2 : en[i]? = some (some d) := by
    cases z : en[i]? with
    | none => rw [z] at e0; cases e0
    | some o => rw [z] at e0; cases o <;> cases e0; rfl
  obtain ⟨v, e3, rv⟩ := N.at_ i d e2
  cases d with
  | fn g =>
    cases e1
    cases rv with
    | @fn _ a0 hfa0 =>
      obtain ⟨y, Cy⟩ := C f a0 hfa0
      obtain ⟨k, a, fd, ps, hm, hfa, hk, hb, F, hr, hlen⟩ := Cy.ex
      rw [hfa0] at hfa
      cases hfa
      have w2 : RA X.K fa xa W ψ σ H fun vs H1 => vs.length = ps.length ∧ spG X.K fa xa Φ f vs H1 Q (fun c d H2 => W c d σ H2) :=
        RA.use (f := fun _ ds h1 Q E => Φ f ds h1 Q E) (⟨ρ, en, h, Q0, E0, R, N, q, kq, kx⟩ : RE X.K fa xa W (fun en h Q E => ψ en h (fun ds h1 => Φ f ds h1 Q E) E) σ H Q) fun ρ en h H ds vs Q0 E0 R N r q kq kx => ⟨by rw [← r.length]; exact hlen _ _ _ _ q, ρ, h, ds, Q0, E0, R, r, q, kq, kx⟩
      refine wpAny_Call_Name_kw (thn ((pe_var (pos := p) hN hv hdb hcd).run pins s σ H (fun x H1 => x = .ref a0 ∧ H1 = H) I ⟨_, e3, rfl, rfl⟩) fun u s0 ⟨x0, H0, I0, r0, ex, eH⟩ => ?_)
      subst ex eH
      obtain rfl : u = Value.ref a0 := r0
      refine PySem.W.callWith_K (h₀ := X.base) I0.ok.mod.kin hk (thn (hs.pa.run pos pins s0 σ _ _ I0 w2) fun us s1 ⟨vs, H1, I1, r1, hl, q⟩ => ⟨I1.kIn, ?_⟩) h1 h2
      exact call_run hgd F hr hb tk I1 r1 hl q
  | _ => cases e1
theorem se_call0 (hgd : X.A.guards = some []) (hg : Gl X x) (hdb : (x == ("__debug__" : Str)) = false) (C : CallOk X fa xa Φ f x) (tk : Takes X W) :
    SE X fa xa W (.Call (.Name x p) [] [] pos) fun en h Q E => Φ f [] h Q E := by
  obtain ⟨k, a, fd, ps, hm, hfa, hk, hb, F, hr, hlen⟩ := C.ex
  refine .of ⟨fun pins s σ H Q I ⟨ρ, en, h, Q0, E0, R, N, q, kq, kx⟩ => ?_⟩ (fun _ _ => rfl) (fun _ _ _ z => nomatch z) fun _ => rfl
  refine wpAny_Call_Name_kw (ld_glob I hg hm ?_ hdb)
  exact PySem.W.callWith_K0 I.kIn hk (call_run hgd F hr hb tk I .nil (hlen _ _ _ _ q) ⟨ρ, h, [], Q0, E0, R, .nil, q, kq, kx⟩)

/-! ### isinstance -/
theorem se_isi {t : TY} {p2 : Pos} {φ : WE} (hg : Gl X "isinstance") (hm : X.mg "isinstance" = none) (hg2 : Gl X (Str.ofString (tyOf t))) (hm2 : X.mg (Str.ofString (tyOf t)) = none) (ha : SE X fa xa W e φ) :
    SE X fa xa W (.Call (.Name "isinstance" p) [e, .Name (Str.ofString (tyOf t)) p2] [] pos) fun en h Q E => φ en h (fun x h1 => PQ (biop (.isinst t) [x] h1) Q) E := by
  have pt : PE X (.Name (Str.ofString (tyOf t)) p2) (tC (.ty (tyOf t))) := by
    cases t with
    | int => exact pe_bltn (u := .type "int") hg2 hm2 (by decide +kernel) rfl (by decide +kernel) (by decide +kernel)
    | bool => exact pe_bltn (u := .type "bool") hg2 hm2 (by decide +kernel) rfl (by decide +kernel) (by decide +kernel)
    | str => exact pe_bltn (u := .type "str") hg2 hm2 (by decide +kernel) rfl (by decide +kernel) (by decide +kernel)
    | tuple => exact pe_bltn (u := .type "tuple") hg2 hm2 (by decide +kernel) rfl (by decide +kernel) (by decide +kernel)
  refine .of ((pe_callB call_isi hg hm (by decide +kernel) (pa_cons ha.pe (pa_cons pt pa_nil) (ha.ns _ _)) (by decide +kernel) (by decide +kernel) (ha.ns _ _)).wk fun σ H Q w => ?_) (fun _ _ => rfl) (fun _ _ _ z => nomatch z) fun _ => rfl
  refine RE.one (f := fun _ x h1 Q _ => PQ (biop (.isinst t) [x] h1) Q) w fun ρ en h H x v Q0 E0 R N r q k kx => ?_
  have q : PQ ((isT t x).map fun b => (D.bl b, h)) Q0 := q
  rw [PQ_OQ] at q
  obtain ⟨⟨d, h2⟩, e1, q⟩ := OQ_some q
  obtain ⟨b, e2, e3⟩ := Option.map_eq_some_iff.mp e1
  cases e3
  obtain ⟨ty, t1, t2⟩ := r.tyx R e2
  exact ⟨v, .ty (tyOf t), ty, .type (tyOf t), b, rfl, .ty _, t1, t2, k.here R (.bl b) q⟩
end
end Mp
namespace Mp
open PySem PySem.Spec PyProof.Rows L2

/-- an iterator that yields our items, while ours grow -/
structure ItOk (K : PySem.W.Frag) (fa : Nat → Option Addr) (J : It) (S : List (Nat × List D)) (xs : List D) (ρ0 : List Addr) (H0 : Hp) : Prop where
  stop : ∀ (i : Nat) ρ h H, Ext K ρ0 H0 ρ H → RH K fa ρ h H → Stand S h → xs.length ≤ i → J.stop i H
  go : ∀ (i : Nat) ρ h H, Ext K ρ0 H0 ρ H → RH K fa ρ h H → Stand S h → i < xs.length → J.go i H
  yld : ∀ (i : Nat) ρ h H x v H2, Ext K ρ0 H0 ρ H → RH K fa ρ h H → Stand S h → xs[i]? = some x → J.yld i H v H2 → Ext K ρ H ρ H2 ∧ RH K fa ρ h H2 ∧ RD K fa ρ H2 x v
def RI (K : PySem.W.Frag) (fa : Nat → Option Addr) (xa : Nat → Option (Value × List Str)) (W : WX) (k : IK) (ψ : WL) : TI := fun σ H R => ∃ (ρ : List Addr) (en : En) (h : MH) (Kc : List D × List (Nat × List D) → MH → Prop) (E0 : QX), RH K fa ρ h H ∧ REn K fa ρ H en σ ∧ ψ en h (fun ds h1 => OQ (itemsOf k ds h1) fun p => Kc p h1) E0 ∧
  (∀ (p : List D × List (Nat × List D)) J h1 ρ1 H1, Ext K ρ H ρ1 H1 → RH K fa ρ1 h1 H1 → ItOk K fa J p.2 p.1 ρ1 H1 → Kc p h1 → R J H1) ∧ ThenX K fa xa ρ H E0 (fun c d H2 => W c d σ H2)
theorem _root_.L2.PI.wk {X : Cx} {tg e : Expr} {t t2 : TI} (p : PI X tg e t) (c : ∀ σ H Q, t2 σ H Q → t σ H Q) : PI X tg e t2 := ⟨fun pins s σ H Q I q => p.run pins s σ H Q I (c _ _ _ q)⟩

section
variable {X : Cx} {fa : Nat → Option Addr} {xa : Nat → Option (Value × List Str)} {W : WX} {e a b tg : Expr} {es : List Expr} {φ φa φb : WE} {ψ : WL} {pos p : Pos} {ρ0 : List Addr} {H0 : Hp}

theorem ItOk.list {n : Nat} {xs : List D} {ad : Addr} (hn : ρ0[n]? = some ad) : ItOk X.K fa (Itl X.K ad) [(n, xs)] xs ρ0 H0 where
  stop := fun i ρ h H e R S hi => by
    obtain ⟨t, rfl⟩ := e.pre
    obtain ⟨vs, s1, r1⟩ := R.lst (S _ List.mem_cons_self) (by rw [List.getElem?_append_left (List.getElem?_eq_some_iff.mp hn).1]; exact hn)
    exact ⟨vs, s1, by rw [← r1.length]; exact hi⟩
  go := fun i ρ h H e R S hi => by
    obtain ⟨t, rfl⟩ := e.pre
    obtain ⟨vs, s1, r1⟩ := R.lst (S _ List.mem_cons_self) (by rw [List.getElem?_append_left (List.getElem?_eq_some_iff.mp hn).1]; exact hn)
    obtain ⟨v, e1, _⟩ := r1.get (List.getElem?_eq_getElem hi)
    exact ⟨vs, v, s1, e1⟩
  yld := fun i ρ h H x v H2 e R S hi y => by
    obtain ⟨t, rfl⟩ := e.pre
    obtain ⟨vs, s1, r1⟩ := R.lst (S _ List.mem_cons_self) (by rw [List.getElem?_append_left (List.getElem?_eq_some_iff.mp hn).1]; exact hn)
    obtain ⟨rfl, y⟩ := y
    obtain ⟨w, e1, r⟩ := r1.get hi
    have := y vs s1
    rw [e1] at this; cases this
    exact ⟨.refl, R, r⟩
theorem ItOk.tup {xs : List D} {vs : List V} {ad : Addr} (hs : TupAt X.K H0 ad vs) (hr : RDs X.K fa ρ0 H0 xs vs) : ItOk X.K fa (Itt X.K ad) [] xs ρ0 H0 where
  stop := fun i ρ h H e R S hi => ⟨vs, (e.tup _ _ hs).sq, by rw [← hr.length]; exact hi⟩
  go := fun i ρ h H e R S hi => by
    obtain ⟨v, e1, _⟩ := hr.get (List.getElem?_eq_getElem hi)
    exact ⟨vs, v, (e.tup _ _ hs).sq, e1⟩
  yld := fun i ρ h H x v H2 e R S hi y => by
    obtain ⟨rfl, y⟩ := y
    obtain ⟨w, e1, r⟩ := hr.get hi
    have := y vs (e.tup _ _ hs).sq
    rw [e1] at this; cases this
    exact ⟨.refl, R, r.mono e⟩
theorem ItOk.tupN {xs : List D} {vs : List V} {ad : Addr} (hs : TpnAt X.K H0 ad vs) (hr : RDs X.K fa ρ0 H0 xs vs) : ItOk X.K fa (Itt X.K ad) [] xs ρ0 H0 where
  stop := fun i ρ h H e R S hi => ⟨vs, (e.tupN _ _ hs).sq, by rw [← hr.length]; exact hi⟩
  go := fun i ρ h H e R S hi => by
    obtain ⟨v, e1, _⟩ := hr.get (List.getElem?_eq_getElem hi)
    exact ⟨vs, v, (e.tupN _ _ hs).sq, e1⟩
  yld := fun i ρ h H x v H2 e R S hi y => by
    obtain ⟨rfl, y⟩ := y
    obtain ⟨w, e1, r⟩ := hr.get hi
    have := y vs (e.tupN _ _ hs).sq
    rw [e1] at this; cases this
    exact ⟨.refl, R, r.mono e⟩
theorem ItOk.rng {lo : Int} {n : Nat} : ItOk X.K fa (Itr lo n) [] ((List.range n).map fun (i : Nat) => D.int (lo + i)) ρ0 H0 where
  stop := fun i ρ h H e R S hi => by
    rw [List.length_map, List.length_range] at hi
    exact hi
  go := fun i ρ h H e R S hi => by
    rw [List.length_map, List.length_range] at hi
    exact hi
  yld := fun i ρ h H x v H2 e R S hi y => by
    obtain ⟨rfl, rfl⟩ := y
    rw [List.getElem?_map] at hi
    have hl : i < n := by
      by_cases hl : i < n
      · exact hl
      · rw [List.getElem?_eq_none (by simpa using hl)] at hi; cases hi
    rw [List.getElem?_range hl] at hi
    cases hi
    exact ⟨.refl, R, .int _⟩
/-- a list or a tuple, whichever comes -/
theorem si_val (ha : SE X fa xa W e φ) : PI X tg e (RI X.K fa xa W .val fun en h Q E => φ en h (fun x h1 => Q [x] h1) E) := by
  refine ⟨fun pins s σ H R I w => ?_⟩
  obtain ⟨ρ, en, h, Kc, E0, RR, N, q, k, kx⟩ := w
  have w2 : RE X.K fa xa W φ σ H fun v H1 => (∃ ad, v = .ref ad ∧ (∃ us, SqL X.K H1 ad us) ∧ R (Itl X.K ad) H1) ∨ ∃ ad, v = .ref ad ∧ (∃ us, SqT X.K H1 ad us) ∧ R (Itt X.K ad) H1 := by
    refine ⟨ρ, en, h, _, E0, RR, N, q, fun d h2 v ρ2 H2 e1 R2 r q2 => ?_, kx⟩
    obtain ⟨pp, e2, q3⟩ := OQ_some q2
    cases r with
    | @tup xs us ad s1 r1 => cases e2; exact .inr ⟨ad, rfl, ⟨us, s1.sq⟩, k _ _ h2 ρ2 H2 e1 R2 (.tup s1 r1) q3⟩
    | @tupN xs us ad s1 r1 => cases e2; exact .inr ⟨ad, rfl, ⟨us, s1.sq⟩, k _ _ h2 ρ2 H2 e1 R2 (.tupN s1 r1) q3⟩
    | @ref n ad ra =>
      obtain ⟨xs, e3, e4⟩ := Option.map_eq_some_iff.mp (show (lstAt h2 n).map (fun xs => (xs, [(n, xs)])) = some pp from e2)
      cases e4
      obtain ⟨us, s1, r1⟩ := R2.lst e3 ra
      exact .inl ⟨ad, rfl, ⟨us, s1⟩, k _ _ h2 ρ2 H2 e1 R2 (.list ra) q3⟩
    | _ => cases e2
  refine thn (ha.pe.run pins s σ H _ I w2) fun v s1 ⟨x, H1, I1, r1, q1⟩ => ?_
  rcases q1 with ⟨ad, rfl, ⟨xs, hq⟩, q⟩ | ⟨ad, rfl, ⟨xs, hq⟩, q⟩
  · cases r1
    obtain ⟨its, rv, pl, hz⟩ := I1.list hq
    refine wpAny_pyIter_list pl.isList ?_
    refine ⟨s1.heap.objs.size, [s1.heap.objs.size], _, _, H1, rfl, I1.kept (t' := s1.toks) fun b o e => Heap.get?_push_of_some _ e, turn_list ad _, ⟨_, Heap.get?_push_size _ rfl, rfl, rfl⟩, fun b hb => ?_, q⟩
    have e : b = s1.heap.objs.size := by simpa using hb
    subst e
    exact I1.fpOk (Nat.le_refl _) (I1.hok.fresh (Nat.le_refl _))
  · cases r1
    obtain ⟨its, rv, pl, hz⟩ := I1.tuple hq
    refine wpAny_pyIter_tuple (show s1.heap.IsTuple ad its.toArray from pl) ?_
    refine ⟨s1.heap.objs.size, [s1.heap.objs.size], _, _, H1, rfl, I1.kept (t' := s1.toks) fun b o e => Heap.get?_push_of_some _ e, turn_tuple ad _, ⟨_, Heap.get?_push_size _ rfl, rfl, rfl⟩, fun b hb => ?_, q⟩
    have e : b = s1.heap.objs.size := by simpa using hb
    subst e
    exact I1.fpOk (Nat.le_refl _) (I1.hok.fresh (Nat.le_refl _))
theorem si_rng1 (hg : Gl X "range") (hm : X.mg "range" = none) (hs : SA X fa xa W [a] ψ) (hst : starEach [a] X.env = [(false, eval a X.env)]) : PI X tg (.Call (.Name "range" p) [a] [] pos) (RI X.K fa xa W .rng1 ψ) := by
  refine (pi_range1 hg hm hs.pa hst).wk fun σ H R ⟨ρ, en, h, Kc, E0, RR, N, q, k, kx⟩ => ?_
  refine ⟨ρ, en, h, _, E0, RR, N, q, fun ds h2 vs ρ2 H2 e1 R2 r q2 => ?_, kx⟩
  obtain ⟨pp, e2, q3⟩ := OQ_some q2
  cases r with
  | nil => cases e2
  | cons r1 r2 =>
    cases r2 with
    | cons _ _ => (cases r1 <;> cases e2)
    | nil =>
      cases r1 with
      | int j =>
        have e2 : (if -B62 ≤ j ∧ j < B62 then some ((List.range j.toNat).map fun (i : Nat) => D.int i, ([] : List (Nat × List D))) else none) = some pp := e2
        by_cases hb : -B62 ≤ j ∧ j < B62
        · rw [if_pos hb] at e2
          cases e2
          rw [B62_eq] at hb
          refine ⟨j, rfl, hb.1, hb.2, k _ _ h2 ρ2 H2 e1 R2 ?_ q3⟩
          have z := ItOk.rng (X := X) (fa := fa) (lo := 0) (n := j.toNat) (ρ0 := ρ2) (H0 := H2)
          simp only [Int.zero_add] at z
          exact z
        · rw [if_neg hb] at e2; cases e2
      | _ => cases e2
theorem si_rng2 (hg : Gl X "range") (hm : X.mg "range" = none) (hs : SA X fa xa W [a, b] ψ) (hst : starEach [a, b] X.env = [(false, eval a X.env), (false, eval b X.env)]) (hst2 : starEach [b] X.env = [(false, eval b X.env)]) :
    PI X tg (.Call (.Name "range" p) [a, b] [] pos) (RI X.K fa xa W .rng2 ψ) := by
  refine (pi_range2 hg hm hs.pa hst hst2).wk fun σ H R ⟨ρ, en, h, Kc, E0, RR, N, q, k, kx⟩ => ?_
  refine ⟨ρ, en, h, _, E0, RR, N, q, fun ds h2 vs ρ2 H2 e1 R2 r q2 => ?_, kx⟩
  obtain ⟨pp, e2, q3⟩ := OQ_some q2
  cases r with
  | nil => cases e2
  | cons r1 r2 =>
    cases r2 with
    | nil => (cases r1 <;> cases e2)
    | cons r3 r4 =>
      cases r4 with
      | cons _ _ => (cases r1 <;> cases r3 <;> cases e2)
      | nil =>
        cases r1 with
        | int i =>
          cases r3 with
          | int j =>
            have e2 : (if -B62 ≤ i ∧ i < B62 ∧ -B62 ≤ j ∧ j < B62 then some ((List.range (j - i).toNat).map fun (k : Nat) => D.int (i + k), ([] : List (Nat × List D))) else none) = some pp := e2
            by_cases hb : -B62 ≤ i ∧ i < B62 ∧ -B62 ≤ j ∧ j < B62
            · rw [if_pos hb] at e2
              cases e2
              rw [B62_eq] at hb
              exact ⟨i, j, rfl, hb, k _ _ h2 ρ2 H2 e1 R2 .rng q3⟩
            · rw [if_neg hb] at e2; cases e2
          | _ => cases e2
        | _ => (cases r3 <;> cases e2)
theorem zip_get {xs ys : List D} {i : Nat} {x : D} (h : ((xs.zip ys).map fun q => D.tup [q.1, q.2])[i]? = some x) : ∃ u w, xs[i]? = some u ∧ ys[i]? = some w ∧ x = .tup [u, w] := by
  rw [List.getElem?_map] at h
  obtain ⟨⟨u, w⟩, h1, rfl⟩ := Option.map_eq_some_iff.mp h
  obtain ⟨h2, h3⟩ := List.getElem?_zip_eq_some.mp h1
  exact ⟨u, w, h2, h3, rfl⟩
theorem pair_new {ρ : List Addr} {h : MH} {H : Hp} {T : Addr} {u w : D} {x y : V} (R : RH X.K fa ρ h H) (hn : H T = none) (ru : RD X.K fa ρ H u x) (rw_ : RD X.K fa ρ H w y) :
    Ext X.K ρ H ρ (upd H T (.tup [x, y])) ∧ RH X.K fa ρ h (upd H T (.tup [x, y])) ∧ RD X.K fa ρ (upd H T (.tup [x, y])) (.tup [u, w]) (.ref T) :=
  have e := Ext.newTup (K := X.K) (vs := [x, y]) hn (R.notin hn)
  ⟨e, R.newTup hn, .tup TupAt.new (.cons (ru.mono e) (.cons (rw_.mono e) .nil))⟩
theorem ItOk.zipT {xs ys : List D} {vs us : List V} {ad bd : Addr} (hs : TupAt X.K H0 ad vs) (hr : RDs X.K fa ρ0 H0 xs vs) (hs2 : TupAt X.K H0 bd us) (hr2 : RDs X.K fa ρ0 H0 ys us) : ItOk X.K fa (RZ.ItzT X.K ad bd) [] ((xs.zip ys).map fun q => .tup [q.1, q.2]) ρ0 H0 where
  stop := fun i ρ h H e R S hi => by
    rw [List.length_map, List.length_zip, hr.length, hr2.length] at hi
    exact ⟨vs, us, (e.tup _ _ hs).sq, (e.tup _ _ hs2).sq, by omega⟩
  go := fun i ρ h H e R S hi => by
    obtain ⟨u, w, h1, h2, _⟩ := zip_get (List.getElem?_eq_getElem hi)
    obtain ⟨x, e1, _⟩ := hr.get h1
    obtain ⟨y, e2, _⟩ := hr2.get h2
    exact ⟨vs, us, x, y, (e.tup _ _ hs).sq, (e.tup _ _ hs2).sq, e1, e2⟩
  yld := fun i ρ h H x v H2 e R S hi y => by
    obtain ⟨u, w, h1, h2, rfl⟩ := zip_get hi
    obtain ⟨x', e1, r1⟩ := hr.get h1
    obtain ⟨y', e2, r2⟩ := hr2.get h2
    obtain ⟨T, xv, yv, rfl, hn, rfl, f1, f2⟩ := y
    have z1 := f1 _ (e.tup _ _ hs).sq
    have z2 := f2 _ (e.tup _ _ hs2).sq
    rw [e1] at z1; rw [e2] at z2
    cases z1; cases z2
    exact pair_new R hn (r1.mono e) (r2.mono e)
theorem ItOk.zipL {xs ys : List D} {n m : Nat} {ad bd : Addr} (hn : ρ0[n]? = some ad) (hm : ρ0[m]? = some bd) : ItOk X.K fa (Itz X.K ad bd) [(n, xs), (m, ys)] ((xs.zip ys).map fun q => .tup [q.1, q.2]) ρ0 H0 := by
  have get : ∀ ρ h H, Ext X.K ρ0 H0 ρ H → RH X.K fa ρ h H → Stand [(n, xs), (m, ys)] h → (∃ vs, SqL X.K H ad vs ∧ RDs X.K fa ρ H xs vs) ∧ ∃ us, SqL X.K H bd us ∧ RDs X.K fa ρ H ys us := fun ρ h H e R S => by
    obtain ⟨t, rfl⟩ := e.pre
    exact ⟨R.lst (S _ List.mem_cons_self) (by rw [List.getElem?_append_left (List.getElem?_eq_some_iff.mp hn).1]; exact hn),
      R.lst (S _ (List.mem_cons_of_mem _ List.mem_cons_self)) (by rw [List.getElem?_append_left (List.getElem?_eq_some_iff.mp hm).1]; exact hm)⟩
  refine ⟨fun i ρ h H e R S hi => ?_, fun i ρ h H e R S hi => ?_, fun i ρ h H x v H2 e R S hi y => ?_⟩
  · obtain ⟨⟨vs, hs, hr⟩, us, hs2, hr2⟩ := get ρ h H e R S
    rw [List.length_map, List.length_zip, hr.length, hr2.length] at hi
    exact ⟨vs, us, hs, hs2, by omega⟩
  · obtain ⟨⟨vs, hs, hr⟩, us, hs2, hr2⟩ := get ρ h H e R S
    obtain ⟨u, w, h1, h2, _⟩ := zip_get (List.getElem?_eq_getElem hi)
    obtain ⟨x, e1, _⟩ := hr.get h1
    obtain ⟨y, e2, _⟩ := hr2.get h2
    exact ⟨vs, us, x, y, hs, hs2, e1, e2⟩
  · obtain ⟨⟨vs, hs, hr⟩, us, hs2, hr2⟩ := get ρ h H e R S
    obtain ⟨u, w, h1, h2, rfl⟩ := zip_get hi
    obtain ⟨x', e1, r1⟩ := hr.get h1
    obtain ⟨y', e2, r2⟩ := hr2.get h2
    obtain ⟨T, xv, yv, rfl, hn, rfl, f1, f2⟩ := y
    have z1 := f1 _ hs
    have z2 := f2 _ hs2
    rw [e1] at z1; rw [e2] at z2
    cases z1; cases z2
    exact pair_new R hn r1 r2
theorem si_zip {elts : List Expr} {kk : Nat} {tpos : Pos} (hg : Gl X "zip") (hm : X.mg "zip" = none) (hs : SA X fa xa W [a, b] ψ) (hst : starEach [a, b] X.env = (false, eval a X.env) :: starEach [b] X.env) (hpl : (backTo pos (starEach [b] X.env)).any (·.1) = false) :
    PI X (.Tuple elts kk tpos) (.Call (.Name "zip" p) [a, b] [] pos) (RI X.K fa xa W .zip ψ) := by
  refine (RZ.pi_zipA hg hm hs.pa hst hpl).wk fun σ H R ⟨ρ, en, h, Kc, E0, RR, N, q, k, kx⟩ => ?_
  refine ⟨ρ, en, h, _, E0, RR, N, q, fun ds h2 vs ρ2 H2 e1 R2 r q2 => ?_, kx⟩
  obtain ⟨pp, e2, q3⟩ := OQ_some q2
  cases r with
  | nil => cases e2
  | cons r1 r2 =>
    cases r2 with
    | nil => (cases r1 <;> cases e2)
    | cons r3 r4 =>
      cases r4 with
      | cons _ _ => (cases r1 <;> cases r3 <;> cases e2)
      | nil =>
        cases r1 with
        | @tup xs us ad s1 q1 =>
          cases r3 with
          | @tup ys ws bd s2 t2 => cases e2; exact ⟨ad, bd, us, ws, rfl, .inr ⟨s1.sq, s2.sq, k _ _ h2 ρ2 H2 e1 R2 (.zipT s1 q1 s2 t2) q3⟩⟩
          | _ => cases e2
        | @ref n ad ra =>
          cases r3 with
          | @ref m bd rb =>
            have e2 : (match lstAt h2 n, lstAt h2 m with | some xs, some ys => some ((xs.zip ys).map fun p => D.tup [p.1, p.2], [(n, xs), (m, ys)]) | _, _ => none) = some pp := e2
            split at e2
            · rename_i xs ys z1 z2
              cases e2
              obtain ⟨us, s1, t1⟩ := R2.lst z1 ra
              obtain ⟨ws, s2, t2⟩ := R2.lst z2 rb
              exact ⟨ad, bd, us, ws, rfl, .inl ⟨s1, s2, k _ _ h2 ρ2 H2 e1 R2 (.zipL ra rb) q3⟩⟩
            · cases e2
          | _ => cases e2
        | _ => (cases r3 <;> cases e2)
end
end Mp
namespace Mp
open PySem PySem.Spec PyProof.Rows L2

/-! ### targets -/
structure SG (X : Cx) (fa : Nat → Option Addr) (tg : Expr) (t : TGt) (g : TG) : Prop where
  pg : PG X tg g
  ok : ∀ ρ h H en (σ : L2.St) d v en2 (Q : L2.St → Hp → Prop), RH X.K fa ρ h H → REn X.K fa ρ H en σ → RD X.K fa ρ H d v → bindT t d en = some en2 →
    (∀ σ2 : L2.St, REn X.K fa ρ H en2 σ2 → (∀ i, i ∉ t.slots → σ2[i]? = σ[i]?) → σ2.length = σ.length → Q σ2 H) → g v σ H Q
structure SGs (X : Cx) (fa : Nat → Option Addr) (es : List Expr) (is : List Nat) (g : TGs) : Prop where
  pg : PGs X es g
  ok : ∀ ρ H ds vs en (σ : L2.St) (Q : L2.St → Hp → Prop), REn X.K fa ρ H en σ → RDs X.K fa ρ H ds vs → is.length = ds.length →
    (∀ σ2 : L2.St, REn X.K fa ρ H ((is.zip ds).foldl (fun e p => e.set p.1 (some p.2)) en) σ2 → (∀ i, i ∉ is → σ2[i]? = σ[i]?) → σ2.length = σ.length → Q σ2 H) → g vs σ H Q
  ln : ∀ env, (assignEach es env).length = is.length ∧ (assignEach es env).findIdx? (·.1) = none
section
variable {X : Cx} {fa : Nat → Option Addr} {xa : Nat → Option (Value × List Str)} {W : WX} {e a b tg iter : Expr} {es : List Expr} {φ φa φb : WE} {ψ : WL} {pos p : Pos} {K : PySem.W.Frag}

theorem REn.set {ρ : List Addr} {H : Hp} {en : En} {σ : L2.St} {d : D} {v : V} (N : REn K fa ρ H en σ) (r : RD K fa ρ H d v) (i : Nat) : REn K fa ρ H (en.set i (some d)) (σ.set i (some v)) := by
  refine ⟨by simp [N.len], fun j d2 e => ?_⟩
  by_cases hj : i = j
  · subst hj
    by_cases hl : i < en.length
    · rw [List.getElem?_set_self hl] at e
      cases e
      exact ⟨v, List.getElem?_set_self (by rw [← N.len]; exact hl), r⟩
    · rw [List.getElem?_eq_none (by simpa using hl)] at e; cases e
  · rw [List.getElem?_set_ne hj] at e
    obtain ⟨w, e1, r1⟩ := N.at_ j d2 e
    exact ⟨w, by rw [List.getElem?_set_ne hj]; exact e1, r1⟩
theorem REn.wipe {ρ : List Addr} {H : Hp} {en : En} {σ : L2.St} (N : REn K fa ρ H en σ) : ∀ is : List Nat, REn K fa ρ H (wipeD en is) (L2.wipe σ is)
  | [] => N
  | i :: is => by
    have ih := REn.wipe N is
    show REn K fa ρ H ((wipeD en is).set i none) ((L2.wipe σ is).set i none)
    refine ⟨by simp [ih.len], fun j d2 e => ?_⟩
    by_cases hj : i = j
    · subst hj
      by_cases hl : i < (wipeD en is).length
      · rw [List.getElem?_set_self hl] at e; cases e
      · rw [List.getElem?_eq_none (by simpa using hl)] at e; cases e
    · rw [List.getElem?_set_ne hj] at e
      obtain ⟨w, e1, r1⟩ := ih.at_ j d2 e
      exact ⟨w, by rw [List.getElem?_set_ne hj]; exact e1, r1⟩
theorem sg_name {i : Nat} {x : Str} (hN : X.N.Nodup) (hi : X.N[i]? = some x) (hx : Loc X.env.scope x) (hf : X.fn x = true ∨ X.env.scope.names.lookup x = some .local) : SG X fa (.Name x pos) (.name i) (gName i) :=
  ⟨pg_name hN hi hx hf, fun ρ h H en σ d v en2 Q R N r e q => by
    cases e
    exact q _ (N.set r i) (fun j hj => List.getElem?_set_ne fun z => hj (by rw [z]; exact List.mem_cons_self)) (by simp)⟩
theorem sgs_nil : SGs X fa [] [] gNil :=
  ⟨pgs_nil, fun ρ H ds vs en σ Q N r hl q => by
    cases ds with
    | cons _ _ => cases hl
    | nil => cases r; exact ⟨rfl, q σ N (fun _ _ => rfl) rfl⟩, fun env => ⟨rfl, rfl⟩⟩
theorem sgs_cons {i : Nat} {is : List Nat} {x : Str} {g : TGs} (hN : X.N.Nodup) (hi : X.N[i]? = some x) (hx : Loc X.env.scope x) (hf : X.fn x = true ∨ X.env.scope.names.lookup x = some .local) (S : SGs X fa es is g) :
    SGs X fa (.Name x pos :: es) (i :: is) (gCons (gName i) g) :=
  ⟨pgs_cons (pg_name hN hi hx hf) S.pg, fun ρ H ds vs en σ Q N r hl q => by
    cases r with
    | nil => cases hl
    | @cons d v ds vs r1 r2 =>
      refine ⟨v, vs, rfl, S.ok ρ H ds vs (en.set i (some d)) (σ.set i (some v)) Q (N.set r1 i) r2 (by simpa using hl) fun σ2 N2 f l => ?_⟩
      refine q σ2 N2 (fun j hj => ?_) (by rw [l]; simp)
      rw [f j fun z => hj (List.mem_cons_of_mem _ z)]
      exact List.getElem?_set_ne fun z => hj (by rw [z]; exact List.mem_cons_self), fun env => by
    obtain ⟨h1, h2⟩ := S.ln env
    refine ⟨by show (assignEach es env).length + 1 = _; rw [h1]; rfl, ?_⟩
    show (((false, assign (.Name x pos) env) :: assignEach es env).findIdx? (·.1)) = none
    rw [List.findIdx?_cons]
    simp [h2]⟩
theorem sg_tup {is : List Nat} {k : Nat} {g : TGs} (hc : X.calm = true) (S : SGs X fa es is g) : SG X fa (.Tuple es k pos) (.tup is) (gTup X.K is.length g) :=
  ⟨pg_tup hc S.pg (S.ln _).1 (S.ln _).2, fun ρ h H en σ d v en2 Q R N r e q => by
    cases r with
    | @tup ds vs ad s1 r1 =>
      have e : (if is.length = ds.length then some ((is.zip ds).foldl (fun e p => e.set p.1 (some p.2)) en) else none) = some en2 := e
      by_cases hl : is.length = ds.length
      · rw [if_pos hl] at e
        cases e
        exact ⟨ad, vs, rfl, s1.sq, by rw [← r1.length, hl], S.ok ρ H ds vs en σ Q N r1 hl q⟩
      · rw [if_neg hl] at e; cases e
    | _ => cases e⟩

/-! ### comprehensions -/
def ifsE (om : Bool) (φ : WE) : En → MH → (Bool → MH → Prop) → Prop := fun en h Kc => ifC om (φ en h) Kc h
def wComp (ψ : WL) (k : IK) (t : TGt) (om : Bool) (φc φe : WE) : WE := fun en h Q E => ψ en h (fun ds h1 => OQ (itemsOf k ds h1) fun p =>
  turns p.2 (fun x h2 Qn => OQ (bindT t x (wipeD en t.slots)) fun en2 => ifsE om φc en2 h2 fun b h3 => if b = true then φe en2 h3 (fun y h4 => Qn (some y) h4) (fun _ _ => False) else Qn none h3) p.1 [] h1 fun out h5 => PQ (newL h5 out) Q) E
abbrev W0 : WX := fun _ _ _ _ => False
/-- a comprehension's tests -/
def tIfs (K : PySem.W.Frag) (fa : Nat → Option Addr) (xa : Nat → Option (Value × List Str)) (om : Bool) (φc : WE) : TT := if om = true then tYes else tB (RE K fa xa W0 φc)
theorem wipe_set {σ : L2.St} : ∀ {vs : List Nat} {σ2 : L2.St}, (∀ i, i ∉ vs → σ2[i]? = σ[i]?) → σ2.length = σ.length → L2.wipe σ2 vs = L2.wipe σ vs := by
  intro vs σ2 f l
  apply List.ext_getElem?
  intro j
  by_cases hj : j ∈ vs
  · have none_ : ∀ (τ : L2.St) (ws : List Nat), j ∈ ws → (L2.wipe τ ws)[j]? = if j < τ.length then some none else none := by
      intro τ ws
      induction ws with
      | nil => intro h; cases h
      | cons w ws ih =>
        intro h
        show ((L2.wipe τ ws).set w none)[j]? = _
        by_cases hw : w = j
        · subst hw
          by_cases hl : w < τ.length
          · rw [List.getElem?_set_self (by rw [wipe_length]; exact hl), if_pos hl]
          · rw [List.getElem?_eq_none (by rw [List.length_set, wipe_length]; omega), if_neg hl]
        · rw [List.getElem?_set_ne hw]
          exact ih ((List.mem_cons.mp h).resolve_left fun z => hw z.symm)
    rw [none_ σ2 vs hj, none_ σ vs hj, l]
  · have keep : ∀ (τ : L2.St) (ws : List Nat), j ∉ ws → (L2.wipe τ ws)[j]? = τ[j]? := by
      intro τ ws
      induction ws with
      | nil => intro _; rfl
      | cons w ws ih =>
        intro h
        show ((L2.wipe τ ws).set w none)[j]? = _
        rw [List.getElem?_set_ne fun z => h (by rw [z]; exact List.mem_cons_self)]
        exact ih fun z => h (List.mem_cons_of_mem _ z)
    rw [keep σ2 vs hj, keep σ vs hj, f j hj]
theorem wipe_twice {σ : L2.St} {vs : List Nat} : L2.wipe (L2.wipe σ vs) vs = L2.wipe σ vs := by
  apply List.ext_getElem?
  intro j
  have keep : ∀ (τ : L2.St) (ws : List Nat), j ∉ ws → (L2.wipe τ ws)[j]? = τ[j]? := by
    intro τ ws
    induction ws with
    | nil => intro _; rfl
    | cons w ws ih =>
      intro h
      show ((L2.wipe τ ws).set w none)[j]? = _
      rw [List.getElem?_set_ne fun z => h (by rw [z]; exact List.mem_cons_self)]
      exact ih fun z => h (List.mem_cons_of_mem _ z)
  have none_ : ∀ (τ : L2.St) (ws : List Nat), j ∈ ws → (L2.wipe τ ws)[j]? = if j < τ.length then some none else none := by
    intro τ ws
    induction ws with
    | nil => intro h; cases h
    | cons w ws ih =>
      intro h
      show ((L2.wipe τ ws).set w none)[j]? = _
      by_cases hw : w = j
      · subst hw
        by_cases hl : w < τ.length
        · rw [List.getElem?_set_self (by rw [wipe_length]; exact hl), if_pos hl]
        · rw [List.getElem?_eq_none (by rw [List.length_set, wipe_length]; omega), if_neg hl]
      · rw [List.getElem?_set_ne hw]
        exact ih ((List.mem_cons.mp h).resolve_left fun z => hw z.symm)
  by_cases hj : j ∈ vs
  · rw [none_ _ vs hj, none_ _ vs hj, wipe_length]
  · rw [keep _ vs hj]
/-- the comprehension's reading, of ours -/
theorem lc_read {k : IK} {t : TGt} {g : TG} {om : Bool} {φc φe : WE} {own : List Nat} (ho : own = t.slots) (G : ∀ ρ h H en (σ : L2.St) d v en2 (Q : L2.St → Hp → Prop), RH X.K fa ρ h H → REn X.K fa ρ H en σ → RD X.K fa ρ H d v → bindT t d en = some en2 →
      (∀ σ2 : L2.St, REn X.K fa ρ H en2 σ2 → (∀ i, i ∉ t.slots → σ2[i]? = σ[i]?) → σ2.length = σ.length → Q σ2 H) → g v σ H Q) {σ : L2.St} {H : Hp} {Q : VK}
    (w : RE X.K fa xa W (wComp ψ k t om φc φe) σ H Q) : tLc (RI X.K fa xa W k ψ) g (tIfs X.K fa xa om φc) (RE X.K fa xa W0 φe) own σ H Q := by
  subst ho
  obtain ⟨ρ, en, h, Q0, E0, R, N, q, kq, kx⟩ := w
  refine ⟨ρ, en, h, fun p h1 => turns p.2 (fun x h2 Qn => OQ (bindT t x (wipeD en t.slots)) fun en2 => ifsE om φc en2 h2 fun b h3 => if b = true then φe en2 h3 (fun y h4 => Qn (some y) h4) (fun _ _ => False) else Qn none h3) p.1 [] h1 fun out h5 => PQ (newL h5 out) Q0,
    E0, R, N, q, fun pp J h1 ρ1 H1 e1 R1 hJ qp Dd hD => ?_, kx⟩
  obtain ⟨xs, S⟩ := pp
  have hJ : ItOk X.K fa J S xs ρ1 H1 := hJ
  generalize hone : (fun (x : D) (h2 : MH) (Qn : Option D → MH → Prop) => OQ (bindT t x (wipeD en t.slots)) fun en2 => ifsE om φc en2 h2 fun b h3 => if b = true then φe en2 h3 (fun y h4 => Qn (some y) h4) (fun _ _ => False) else Qn none h3) = one at qp
  refine ⟨fun i m H => ∃ (ρ2 : List Addr) (h2 : MH) (acc : List D) (avs : List V), H Dd = some (.lst avs) ∧ Dd ∉ ρ2 ∧ Ext X.K ρ1 H1 ρ2 H ∧ RH X.K fa ρ2 h2 H ∧ RDs X.K fa ρ2 H acc avs ∧ m = xs.length - i ∧ i ≤ xs.length ∧
    turns S one (xs.drop i) acc h2 fun out h5 => PQ (newL h5 out) Q0, ?_, ?_⟩
  · exact ⟨_, ρ1, h1, [], [], upd_same, R1.notin hD, Ext.newU hD, R1.newU hD, .nil, rfl, Nat.zero_le _, qp⟩
  · rintro i m H ⟨ρ2, h2, acc, avs, hDd, nD, e2, R2, ra, rfl, hi, qt⟩
    by_cases hlt : i < xs.length
    · rw [List.drop_eq_getElem_cons hlt] at qt
      obtain ⟨st, qt⟩ := qt
      refine .inr ⟨hJ.go i ρ2 h2 H e2 R2 st hlt, fun H' => ∃ (ρ2 : List Addr) (h2 : MH) (acc : List D) (avs : List V), H' Dd = some (.lst avs) ∧ Dd ∉ ρ2 ∧ Ext X.K ρ1 H1 ρ2 H' ∧ RH X.K fa ρ2 h2 H' ∧ RDs X.K fa ρ2 H' acc avs ∧ turns S one (xs.drop (i + 1)) acc h2 fun out h5 => PQ (newL h5 out) Q0,
        fun H' ⟨ρ3, h3, acc3, avs3, a1, a2, a3, a4, a5, a6⟩ => ⟨xs.length - (i + 1), by omega, ρ3, h3, acc3, avs3, a1, a2, a3, a4, a5, rfl, hlt, a6⟩, fun v H' y => ?_⟩
      obtain ⟨e3, R3, rv⟩ := hJ.yld i ρ2 h2 H xs[i] v H' e2 R2 st (List.getElem?_eq_getElem hlt) y
      rw [← hone] at qt
      obtain ⟨en2, hb, qt⟩ := OQ_some qt
      have N3 : REn X.K fa ρ2 H' (wipeD en t.slots) (L2.wipe σ t.slots) := REn.wipe (N.mono ((e1.trans e2).trans e3)) _
      refine G ρ2 h2 H' _ _ _ v en2 _ R3 N3 rv hb fun σ2 N4 f4 l4 => ⟨by rw [wipe_set f4 l4, wipe_twice], ?_⟩
      have hDd3 := e3.fr _ _ hDd nD
      have fin : ∀ b ρ5 h5 H5, Ext X.K ρ2 H' ρ5 H5 → RH X.K fa ρ5 h5 H5 → (if b = true then φe en2 h5 (fun y h4 => acc.length < sizeLine ∧ turns S one (xs.drop (i + 1)) (acc ++ [y]) h4 fun out h5 => PQ (newL h5 out) Q0) (fun _ _ => False) else turns S one (xs.drop (i + 1)) acc h5 fun out h5 => PQ (newL h5 out) Q0) →
          (if b = true then RE X.K fa xa W0 φe σ2 H5 fun y H4 => ∃ acc, H4 Dd = some (.lst acc) ∧ acc.length < sizeLine ∧ ∃ (ρ2 : List Addr) (h2 : MH) (acc2 : List D) (avs : List V), (upd H4 Dd (.lst (acc ++ [y]))) Dd = some (.lst avs) ∧ Dd ∉ ρ2 ∧ Ext X.K ρ1 H1 ρ2 (upd H4 Dd (.lst (acc ++ [y]))) ∧ RH X.K fa ρ2 h2 (upd H4 Dd (.lst (acc ++ [y]))) ∧ RDs X.K fa ρ2 (upd H4 Dd (.lst (acc ++ [y]))) acc2 avs ∧ turns S one (xs.drop (i + 1)) acc2 h2 fun out h5 => PQ (newL h5 out) Q0
            else ∃ (ρ2 : List Addr) (h2 : MH) (acc : List D) (avs : List V), H5 Dd = some (.lst avs) ∧ Dd ∉ ρ2 ∧ Ext X.K ρ1 H1 ρ2 H5 ∧ RH X.K fa ρ2 h2 H5 ∧ RDs X.K fa ρ2 H5 acc avs ∧ turns S one (xs.drop (i + 1)) acc h2 fun out h5 => PQ (newL h5 out) Q0) := fun b ρ5 h5 H5 e5 R5 q5 => by
        have nD5 : Dd ∉ ρ5 := fun z => by
          have := e5.new Dd z nD
          rw [hDd3] at this; cases this
        have hDd5 := e5.fr _ _ hDd3 nD
        cases b with
        | true =>
          rw [if_pos rfl] at q5 ⊢
          refine ⟨ρ5, en2, h5, _, _, R5, N4.mono e5, q5, fun yd h6 yv ρ6 H6 e6 R6 ry q6 => ?_, fun _ _ _ _ _ _ _ _ _ z => z⟩
          have nD6 : Dd ∉ ρ6 := fun z => by
            have := e6.new Dd z nD5
            rw [hDd5] at this; cases this
          have hDd6 := e6.fr _ _ hDd5 nD5
          have mo : Mono X.K ρ6 H6 ρ6 (upd H6 Dd (.lst (avs ++ [yv]))) := Mono.updU hDd6
          have ra6 : RDs X.K fa ρ6 H6 acc avs := RDs.mono0 ((e3.trans e5).trans e6).mo _ _ ra
          refine ⟨avs, hDd6, by rw [← ra.length]; exact q6.1, ρ6, h6, acc ++ [yd], avs ++ [yv], upd_same, nD6, Ext.updU ((e2.trans e3).trans (e5.trans e6)) hD hDd6, R6.updU hDd6 nD6, ?_, q6.2⟩
          exact RDs.mono0 mo _ _ (ra6.append (.cons ry .nil))
        | false =>
          rw [if_neg Bool.false_ne_true] at q5 ⊢
          exact ⟨ρ5, h5, acc, avs, hDd5, nD5, (e2.trans e3).trans e5, R5, RDs.mono0 (e3.trans e5).mo _ _ ra, q5⟩
      have qt : ifC om (φc en2 h2) (fun b h3 => if b = true then φe en2 h3 (fun y h4 => acc.length < sizeLine ∧ turns S one (xs.drop (i + 1)) (acc ++ [y]) h4 fun out h5 => PQ (newL h5 out) Q0) (fun _ _ => False) else turns S one (xs.drop (i + 1)) acc h3 fun out h5 => PQ (newL h5 out) Q0) h2 := by
        rw [hone] at qt
        exact qt
      unfold tIfs
      cases om with
      | true => exact fin true ρ2 h2 H' .refl R3 qt
      | false =>
        refine ⟨ρ2, en2, h2, _, _, R3, N4, qt, fun bd h5 bv ρ5 H5 e5 R5 rb q5 => ?_, fun _ _ _ _ _ _ _ _ _ z => z⟩
        obtain ⟨b, eb, q5⟩ := OQ_some q5
        obtain ⟨rfl, rfl⟩ := rb.bl_of eb
        exact ⟨b, rfl, fin b ρ5 h5 H5 e5 R5 q5⟩
    · have hx : xs.drop i = [] := List.drop_eq_nil_of_le (by omega)
      rw [hx] at qt
      obtain ⟨st, qt⟩ := qt
      refine .inl ⟨hJ.stop i ρ2 h2 H e2 R2 st (by omega), ?_⟩
      unfold newL at qt
      by_cases hz : acc.length ≤ sizeLine
      · rw [if_pos hz] at qt
        refine kq _ _ (.ref Dd) (ρ2 ++ [Dd]) H (e1.trans (e2.adopt hD)) (R2.adopt hDd nD ra) (.ref ?_) qt
        rw [← R2.len]
        simp
      · rw [if_neg hz] at qt
        exact False.elim qt
end
end Mp
namespace Mp
open PySem PySem.Spec PyProof.Rows L2

abbrev WSm := En → MH → (En → MH → Prop) → QV → QE → Prop
def NX (K : PySem.W.Frag) (fa : Nat → Option Addr) (ρ : List Addr) (H : Hp) (nx : En → MH → Prop) (Dn : L2.St → Hp → Prop) : Prop := ∀ en2 h2 σ2 ρ2 H2, Ext K ρ H ρ2 H2 → RH K fa ρ2 h2 H2 → REn K fa ρ2 H2 en2 σ2 → nx en2 h2 → Dn σ2 H2
def ThenE (K : PySem.W.Frag) (fa : Nat → Option Addr) (xa : Nat → Option (Value × List Str)) (ρ : List Addr) (H : Hp) (E0 : QE) (W : WX) : Prop := ∀ x en2 h2 cls d σ2 ρ2 H2, Ext K ρ H ρ2 H2 → RH K fa ρ2 h2 H2 → REn K fa ρ2 H2 en2 σ2 → RX K fa xa ρ2 H2 x cls d → E0 x en2 h2 → W cls d σ2 H2
def RS (K : PySem.W.Frag) (fa : Nat → Option Addr) (xa : Nat → Option (Value × List Str)) (W : WX) (φ : WSm) : TS := fun D σ H => ∃ ρ en h nx rt E0, RH K fa ρ h H ∧ REn K fa ρ H en σ ∧ φ en h nx rt E0 ∧ NX K fa ρ H nx D.nx ∧ Then K fa ρ H rt D.rt ∧ ThenE K fa xa ρ H E0 W
section
variable {K : PySem.W.Frag} {fa : Nat → Option Addr} {xa : Nat → Option (Value × List Str)} {ρ ρ1 : List Addr} {H H1 : Hp} {W : WX}
theorem NX.ext {nx : En → MH → Prop} {Dn : L2.St → Hp → Prop} (e : Ext K ρ H ρ1 H1) (k : NX K fa ρ H nx Dn) : NX K fa ρ1 H1 nx Dn := fun en2 h2 σ2 ρ2 H2 f => k en2 h2 σ2 ρ2 H2 (e.trans f)
theorem ThenE.ext {E0 : QE} (e : Ext K ρ H ρ1 H1) (k : ThenE K fa xa ρ H E0 W) : ThenE K fa xa ρ1 H1 E0 W := fun x en2 h2 c d σ2 ρ2 H2 f => k x en2 h2 c d σ2 ρ2 H2 (e.trans f)
/-- while an expression runs -/
theorem ThenE.at {E0 : QE} {en : En} {σ : L2.St} (N : REn K fa ρ H en σ) (k : ThenE K fa xa ρ H E0 W) : ThenX K fa xa ρ H (fun x h => E0 x en h) (fun c d H2 => W c d σ H2) := fun x h2 c d ρ2 H2 e R r q => k x en h2 c d σ ρ2 H2 e R (N.mono e) r q
end
structure SS (X : Cx) (fa : Nat → Option Addr) (xa : Nat → Option (Value × List Str)) (W : WX) (s : Stmt) (φ : WSm) : Prop where
  ps : PS X s (RS X.K fa xa W φ)
structure SSs (X : Cx) (fa : Nat → Option Addr) (xa : Nat → Option (Value × List Str)) (W : WX) (ss : List Stmt) (φ : WSm) : Prop where
  ps : PSs X ss (RS X.K fa xa W φ)
/-- a statement's expression: its value, then what follows -/
theorem RS.expr {K : PySem.W.Frag} {fa : Nat → Option Addr} {xa : Nat → Option (Value × List Str)} {W : WX} {φ : WE} {f : En → D → MH → (En → MH → Prop) → QV → QE → Prop} {Dd : Ends} {σ : L2.St} {H : Hp} {Rk : V → Hp → Prop}
    (w : RS K fa xa W (fun en h nx rt E => φ en h (fun x h1 => f en x h1 nx rt E) fun x h1 => E x en h1) Dd σ H)
    (fin : ∀ ρ en h H x v nx rt E0, RH K fa ρ h H → REn K fa ρ H en σ → RD K fa ρ H x v → f en x h nx rt E0 → NX K fa ρ H nx Dd.nx → Then K fa ρ H rt Dd.rt → ThenE K fa xa ρ H E0 W → Rk v H) : RE K fa xa W φ σ H Rk := by
  obtain ⟨ρ, en, h, nx, rt, E0, R, N, q, k1, k2, k3⟩ := w
  exact ⟨ρ, en, h, _, _, R, N, q, fun d h2 v ρ2 H2 e R2 r q2 => fin ρ2 en h2 H2 d v nx rt E0 R2 (N.mono e) r q2 (k1.ext e) (k2.ext e) (k3.ext e), k3.at N⟩
section
variable {X : Cx} {fa : Nat → Option Addr} {xa : Nat → Option (Value × List Str)} {W : WX} {e a b c tg iter elt : Expr} {es : List Expr} {φ φa φb φc φe : WE} {ψ : WL} {pos p : Pos} {s : Stmt} {ss bb : List Stmt} {χ χa χb : WSm}

/-! ### a comprehension as a value, as a name's value -/
structure CompOk (X : Cx) (fa : Nat → Option Addr) (xa : Nat → Option (Value × List Str)) (W : WX) (elt tg iter : Expr) (ifs : List Expr) (scope : Scope) (ψ : WL) (k : IK) (t : TGt) (om : Bool) (φc φe : WE) (own : List (Str × Nat)) (g : TG) : Prop where
  hc : X.calm = true
  hN : X.N.Nodup
  hi : PI X tg iter (RI X.K fa xa W k ψ)
  ok : BlkOk X.N X.env.scope scope own
  ow : own.map (·.2) = t.slots
  hg : ∀ (s : Shared) (H : Hp) (C : Addr) (cl : List (Str × Addr)) (fp : List Addr), SG (X.blk s H scope (compEnvC scope cl C X.env) fp) fa tg t g
  ht : ∀ (s : Shared) (H : Hp) (C : Addr) (cl : List (Str × Addr)) (fp : List Addr), PTs (X.blk s H scope (compEnvC scope cl C X.env) fp) ifs (tIfs X.K fa xa om φc)
  he : ∀ (s : Shared) (H : Hp) (C : Addr) (cl : List (Str × Addr)) (fp : List Addr), PE (X.blk s H scope (compEnvC scope cl C X.env) fp) elt (RE X.K fa xa W0 φe)
  hs : ∀ x, foldedSetIterable iter X.env x = pure x
theorem lc_all {ifs : List Expr} {scope : Scope} {k : IK} {t : TGt} {om : Bool} {own : List (Str × Nat)} {g : TG} (C : CompOk X fa xa W elt tg iter ifs scope ψ k t om φc φe own g) {σ : L2.St} {H : Hp} {Q : VK} (s0 : Shared)
    (w : RE X.K fa xa W (wComp ψ k t om φc φe) σ H Q) : tLc (RI X.K fa xa W k ψ) g (tIfs X.K fa xa om φc) (RE X.K fa xa W0 φe) (own.map (·.2)) σ H Q :=
  lc_read C.ow (fun ρ h H en σ d v en2 Q R N r e q => (C.hg s0 H 0 [] []).ok ρ h H en σ d v en2 Q R N r e q) w
theorem se_comp {ifs : List Expr} {scope : Scope} {k : IK} {t : TGt} {om : Bool} {own : List (Str × Nat)} {g : TG} (C : CompOk X fa xa W elt tg iter ifs scope ψ k t om φc φe own g) :
    SE X fa xa W (.ListComp elt [⟨tg, iter, ifs, 0⟩] scope pos) (wComp ψ k t om φc φe) := by
  refine .of ⟨fun pins s σ H Q I w => ?_⟩ (fun _ _ => rfl) (fun _ _ _ z => nomatch z) fun _ => rfl
  exact (pe_lc C.hc C.hN C.hi C.ok (fun s H Cc cl fp => (C.hg s H Cc cl fp).pg) C.ht C.he C.hs).run pins s σ H Q I (lc_all C s w)

/-! ### statements -/
theorem sss_nil : SSs X fa xa W [] fun en h nx _ _ => nx en h :=
  ⟨pss_nil.wk fun D σ H ⟨ρ, en, h, nx, rt, E0, R, N, q, k1, k2, k3⟩ => k1 en h σ ρ H .refl R N q⟩
theorem sss_cons (h1 : SS X fa xa W s χ) (h2 : SSs X fa xa W ss χa) : SSs X fa xa W (s :: ss) fun en h nx rt E => χ en h (fun en1 h1 => χa en1 h1 nx rt E) rt E :=
  ⟨(pss_cons h1.ps h2.ps).wk fun D σ H ⟨ρ, en, h, nx, rt, E0, R, N, q, k1, k2, k3⟩ =>
    ⟨ρ, en, h, _, rt, E0, R, N, q, fun en2 h2 σ2 ρ2 H2 e R2 N2 q2 => ⟨ρ2, en2, h2, nx, rt, E0, R2, N2, q2, k1.ext e, k2.ext e, k3.ext e⟩, k2, k3⟩⟩
theorem ss_pass : SS X fa xa W (.Pass pos) fun en h nx _ _ => nx en h :=
  ⟨ps_pass.wk fun D σ H ⟨ρ, en, h, nx, rt, E0, R, N, q, k1, k2, k3⟩ => k1 en h σ ρ H .refl R N q⟩
/-- no comprehension -/
def NoComp (e : Expr) : Prop := (∀ a b c d, e ≠ .ListComp a b c d) ∧ (∀ a b c d, e ≠ .SetComp a b c d) ∧ ∀ a b c d f, e ≠ .DictComp a b c d f
theorem sw_no {e : Expr} (h : NoComp e) (t : Option Expr) (l : Nat) (env : Env) : swapsWith e t l env = pure false := by
  obtain ⟨h1, h2, h3⟩ := h
  cases e <;> first | rfl | exact absurd rfl (h1 _ _ _ _) | exact absurd rfl (h2 _ _ _ _) | exact absurd rfl (h3 _ _ _ _ _)
theorem ss_expr (ha : SE X fa xa W a φ) (h : NoComp a) : SS X fa xa W (.Expr a pos) fun en h nx _ E => φ en h (fun _ h1 => nx en h1) fun x h1 => E x en h1 :=
  ⟨(ps_expr ha.pe (sw_no h _ _ _)).wk fun D σ H w => RS.expr (f := fun en _ h1 nx _ _ => nx en h1) w fun ρ en h H x v nx rt E0 R N r q k1 k2 k3 => k1 en h σ ρ H .refl R N q⟩
theorem ss_asg {i : Nat} {x : Str} {pos2 : Pos} (hN : X.N.Nodup) (hi : X.N[i]? = some x) (hx : Loc X.env.scope x) (hf : X.fn x = true) (ha : SE X fa xa W a φ) (hs : swapsWith a (some (.Name x pos2)) pos.line X.env = pure false) :
    SS X fa xa W (.Assign [.Name x pos2] a pos) fun en h nx _ E => φ en h (fun d h1 => nx (en.set i (some d)) h1) fun x h1 => E x en h1 :=
  ⟨(ps_set hN hi hx ha.pe hs (.inl hf)).wk fun D σ H w => RS.expr (f := fun en d h1 nx _ _ => nx (en.set i (some d)) h1) w fun ρ en h H x v nx rt E0 R N r q k1 k2 k3 => k1 _ h _ ρ H .refl R (N.set r i) q⟩
theorem ss_asgE {i : Nat} {x : Str} {pos2 : Pos} (hN : X.N.Nodup) (hi : X.N[i]? = some x) (hx : Loc X.env.scope x) (hf : X.fn x = true) (ha : PE X a (RE X.K fa xa W φ)) (hs : swapsWith a (some (.Name x pos2)) pos.line X.env = pure false) :
    SS X fa xa W (.Assign [.Name x pos2] a pos) fun en h nx _ E => φ en h (fun d h1 => nx (en.set i (some d)) h1) fun x h1 => E x en h1 :=
  ⟨(ps_set hN hi hx ha hs (.inl hf)).wk fun D σ H w => RS.expr (f := fun en d h1 nx _ _ => nx (en.set i (some d)) h1) w fun ρ en h H x v nx rt E0 R N r q k1 k2 k3 => k1 _ h _ ρ H .refl R (N.set r i) q⟩
/-- a or b, by truth -/
def wOrT (φa φb : WE) : WE := fun en h Q E => φa en h (fun d h1 => OQ (truD d) fun k => if k = true then Q d h1 else φb en h1 Q E) E
theorem tru_of {ρ : List Addr} {H : Hp} {d : D} {v : V} {c : Bool} (r : RD X.K fa ρ H d v) (e : truD d = some c) : TruV X.K v H c := by
  cases r with
  | non => cases e; rfl
  | @tup xs vs ad s1 r1 =>
    cases e
    refine .inr (.inl ⟨vs, s1.sq, ?_⟩)
    have := r1.length
    cases xs <;> cases vs <;> simp_all
  | _ => cases e
theorem pe_orD {es : List Expr} (ha : PE X a (RE X.K fa xa W φa)) (hb : PE X (.BoolOp .Or (b :: es) pos) (RE X.K fa xa W φb)) : PE X (.BoolOp .Or (a :: b :: es) pos) (RE X.K fa xa W (wOrT φa φb)) := by
  refine (pe_orT ha hb).wk fun σ H Q w => ?_
  obtain ⟨ρ, en, h, Q0, E0, R, N, q, k, kx⟩ := w
  refine ⟨ρ, en, h, _, E0, R, N, q, fun d h2 v ρ2 H2 e1 R2 r q2 => ?_, kx⟩
  obtain ⟨c, e2, q3⟩ := OQ_some q2
  refine ⟨c, tru_of r e2, ?_⟩
  cases c with
  | true => exact k d h2 v ρ2 H2 e1 R2 r q3
  | false => exact ⟨ρ2, en, h2, Q0, E0, R2, N.mono e1, q3, k.ext e1, kx.ext e1⟩
/-- two names at once -/
def parB (sc : Scope) (x y : Str) (px py : Pos) (u v : Expr) : Bool := decide (sc.kind = .function) && (sc.names.lookup x == some .local) && (sc.names.lookup y == some .local) && (py.line == px.line) && decide (x ≠ y) &&
  !(match u with | .Starred .. => true | _ => false) && !(match v with | .Starred .. => true | _ => false) && !foldedForSure 8 u && !constantsAlone 8 u
theorem par_stores {env : Env} {x y : Str} {px py pt : Pos} {kt k2 : Nat} {pt2 : Pos} {u v : Expr} (h : parB env.scope x y px py u v = true) : swappedStores [.Tuple [.Name x px, .Name y py] kt pt] (.Tuple [u, v] k2 pt2) env = pure (some [x, y]) := by
  unfold parB at h
  simp only [Bool.and_eq_true, decide_eq_true_eq, Bool.not_eq_true'] at h
  obtain ⟨⟨⟨⟨⟨⟨⟨⟨h1, h2⟩, h3⟩, h4⟩, h5⟩, h6⟩, h7⟩, h8⟩, h9⟩ := h
  have bk : env.blockKind = .function := by unfold Env.blockKind; rw [h1]; rfl
  have ne : (y == x) = false := beq_eq_false_iff_ne.mpr fun e => h5 e.symm
  have k1 : (env.kindOf x == some .local) = true := h2
  have k3 : (env.kindOf y == some .local) = true := h3
  have l1 : ((Expr.Name x px).pos.line) = px.line := rfl
  have e2 : ([x, y].eraseDups).length = 2 := by simp [List.eraseDups_cons, ne]
  have p1 : env.kindOf x = some .local := eq_of_beq k1
  have p3 : env.kindOf y = some .local := eq_of_beq k3
  have p4 : py.line = px.line := eq_of_beq h4
  unfold swappedStores
  simp [bk, h8, h9, Expr.pos]
  refine (if_neg ?_).trans ?_
  · rintro (z | z)
    · cases u <;> first | exact Bool.false_ne_true z | exact Bool.false_ne_true h6.symm
    · cases v <;> first | exact Bool.false_ne_true z | exact Bool.false_ne_true h7.symm
  · simp [List.filterMap_cons, p1, p3, p4, List.eraseDups_cons, ne]
theorem ss_par {i j : Nat} {x y : Str} {px py pt : Pos} {kt k2 : Nat} {pt2 : Pos} {u v : Expr} {ψ : WL} (hc : X.calm = true) (hN : X.N.Nodup) (hi : X.N[i]? = some x) (hj : X.N[j]? = some y) (h : parB X.env.scope x y px py u v = true) (hs : SA X fa xa W [u, v] ψ) :
    SS X fa xa W (.Assign [.Tuple [.Name x px, .Name y py] kt pt] (.Tuple [u, v] k2 pt2) pos) fun en h nx _ E => ψ en h (fun ds h1 => OQ (bindT (.tup [i, j]) (.tup ds) en) fun en2 => nx en2 h1) fun x h1 => E x en h1 := by
  have h0 := h
  unfold parB at h
  simp only [Bool.and_eq_true, decide_eq_true_eq, Bool.not_eq_true'] at h
  obtain ⟨⟨⟨⟨⟨⟨⟨⟨h1, h2⟩, h3⟩, h4⟩, h5⟩, h6⟩, h7⟩, h8⟩, h9⟩ := h
  have hij : i ≠ j := fun e => h5 (by rw [e, hj] at hi; exact (Option.some.inj hi).symm)
  refine ⟨(ps_par hc hN hi hj hij (eq_of_beq h2) (eq_of_beq h3) hs.pa (par_stores h0)).wk fun D σ H w => ?_⟩
  obtain ⟨ρ, en, h, nx, rt, E0, R, N, q, k1, k2, k3⟩ := w
  refine ⟨ρ, en, h, _, _, R, N, q, fun ds h2 vs ρ2 H2 e R2 r q2 => ?_, k3.at N⟩
  obtain ⟨en2, e2, q3⟩ := OQ_some q2
  match ds, vs, r, e2 with
  | [d1, d2], _, .cons (v := v1) r1 (.cons (v := v2) r2 .nil), e2 =>
    cases e2
    exact ⟨v1, v2, rfl, k1 _ h2 _ ρ2 H2 e R2 (((N.mono e).set r1 i).set r2 j) q3⟩
  | [], _, _, e2 => cases e2
  | [_], _, _, e2 => cases e2
  | _ :: _ :: _ :: _, _, _, e2 => cases e2
/-- what is not reached -/
theorem ss_unr {s : Stmt} : SS X fa xa W s fun _ _ _ _ _ => False :=
  ⟨⟨fun pins s σ H D I ⟨ρ, en, h, nx, rt, E0, R, N, q, _⟩ => q.elim⟩⟩
theorem ss_asgC {i : Nat} {x : Str} {pos2 : Pos} {ifs : List Expr} {scope : Scope} {k : IK} {t : TGt} {om : Bool} {own : List (Str × Nat)} {g : TG} (C : CompOk X fa xa W elt tg iter ifs scope ψ k t om φc φe own g)
    (hi : X.N[i]? = some x) (hy : X.env.scope.names.lookup x = some .local) (hsw : swapsWith (.ListComp elt [⟨tg, iter, ifs, 0⟩] scope p) (some (.Name x pos2)) pos.line X.env = pure true) :
    SS X fa xa W (.Assign [.Name x pos2] (.ListComp elt [⟨tg, iter, ifs, 0⟩] scope p) pos) fun en h nx _ E => wComp ψ k t om φc φe en h (fun d h1 => nx (en.set i (some d)) h1) fun x h1 => E x en h1 := by
  refine ⟨⟨fun pins s σ H D I w => ?_⟩⟩
  refine (ps_setLc C.hc C.hN hi hy hsw C.hi C.ok (fun s H Cc cl fp => (C.hg s H Cc cl fp).pg) C.ht C.he C.hs).run pins s σ H D I ?_
  exact lc_all C s (RS.expr (f := fun en d h1 nx _ _ => nx (en.set i (some d)) h1) w fun ρ en h H x v nx rt E0 R N r q k1 k2 k3 => k1 _ h _ ρ H .refl R (N.set r i) q)
theorem sw_sub {e o i : Expr} {ps : Pos} (l : Nat) (env : Env) : swapsWithSole [.Subscript o i ps] e l env = pure false := by
  cases e <;> rfl
theorem sw_tup {e : Expr} {es : List Expr} {k : Nat} {ps : Pos} (l : Nat) (env : Env) : swapsWithSole [.Tuple es k ps] e l env = pure false := by
  cases e <;> rfl
theorem ss_asgT {is : List Nat} {k : Nat} {ts : List Expr} {g : TGs} {pos2 : Pos} (hc : X.calm = true) (S : SGs X fa ts is g) (ha : SE X fa xa W a φ) (hn : ∀ es k q, a ≠ .Tuple es k q) :
    SS X fa xa W (.Assign [.Tuple ts k pos2] a pos) fun en h nx _ E => φ en h (fun d h1 => OQ (bindT (.tup is) d en) fun en2 => nx en2 h1) fun x h1 => E x en h1 := by
  have T := sg_tup (k := k) (pos := pos2) hc S
  refine ⟨(ps_asg ha.pe T.pg (sw_tup _ _) (by cases a <;> first | rfl | exact absurd rfl (hn _ _ _)) rfl).wk fun D σ H w => ?_⟩
  refine RS.expr (f := fun en d h1 nx _ _ => OQ (bindT (.tup is) d en) fun en2 => nx en2 h1) w fun ρ en h H x v nx rt E0 R N r q k1 k2 k3 => ?_
  obtain ⟨en2, e1, q⟩ := OQ_some q
  exact T.ok ρ h H en σ x v en2 _ R N r e1 fun σ2 N2 _ _ => k1 en2 h σ2 ρ H .refl R N2 q
theorem pset_or {r1 r2 : TSet} (a : PSet X r1) (b : PSet X r2) : PSet X (fun o i v H Q => r1 o i v H Q ∨ r2 o i v H Q) := fun pins s σ H o i v ov iv u Q I r1 r2 r3 h =>
  h.elim (a pins s σ H o i v ov iv u Q I r1 r2 r3) (b pins s σ H o i v ov iv u Q I r1 r2 r3)
theorem paired_keys {R : List Key × V → List Key × Addr × Value → Prop} {kws : List (List Key × V)} {xs : List (List Key × Addr × Value)} (rel : Paired R kws xs) (hR : ∀ p q, R p q → p.1 = q.1) : kws.map (·.1) = xs.map (·.1) := by
  induction rel with
  | nil => rfl
  | cons r _ ih => rw [List.map_cons, List.map_cons, ih, hR _ _ r]
theorem key_nodup {pins : List (Addr × Obj)} {s : Shared} {σ : L2.St} {H : Hp} {a : Addr} {kws : List (List Key × V)} (I : Inv X pins σ H s) (e : H a = some (.dT kws)) : (kws.map (·.1)).Nodup := by
  obtain ⟨_, _, xs, rel, o, es, ep, _, _, _, _, nd⟩ := I.hok a _ e
  rw [paired_keys rel fun _ _ r => r.1]
  exact nd
/-- a dict's place is stored; its keys are apart -/
def rSetN : TSet := fun o i v H Q => ∃ a kws k b, o = .ref a ∧ i = .ref b ∧ H a = some (.dT kws) ∧ H b = some (.tup (k.map kV)) ∧ kws.length < sizeLine ∧ ((kws.map (·.1)).Nodup → Q (upd H a (.dT (putK kws k v))))
theorem set_dictN (hu : X.A.units + 1 < cLine) : PSet X rSetN := by
  intro pins s σ H o i v ov iv u Q I ro ri rv h
  obtain ⟨a, kws, k, b, rfl, rfl, h1, h2, h3, q⟩ := h
  exact set_dict hu pins s σ H _ _ v ov iv u Q I ro ri rv ⟨a, _, rfl, .t h1 h2 h3, q (key_nodup I h1)⟩
theorem ss_asgIx (hu : X.A.units + 1 < cLine) (ha : SE X fa xa W a φa) (hb : SE X fa xa W b φb) (hc : SE X fa xa W c φc) {pos2 : Pos} (hasg : ∀ v, assign (.Subscript b c pos2) X.env v = (do
      let ov ← holding [v] (eval b X.env)
      let iv ← holding [v, ov] (eval c X.env)
      standAt pos2
      holding [v, ov, iv] (setItem ov iv v)
      release [v, ov, iv] [])) :
    SS X fa xa W (.Assign [.Subscript b c pos2] a pos) fun en h nx _ E => φa en h (fun d h1 => φb en h1 (fun x h2 => φc en h2 (fun y h3 => OQ (setIx x y d h3) fun h4 => nx en h4) fun x h1 => E x en h1) fun x h1 => E x en h1) fun x h1 => E x en h1 := by
  refine ⟨(ps_asg ha.pe (pg_sub hb.pe hc.pe (pset_or set_list (set_dictN hu)) hasg) (sw_sub _ _) rfl rfl).wk fun D σ H ⟨ρ, en, h, nx, rt, E0, R, N, q, k1, k2, k3⟩ => ?_⟩
  refine ⟨ρ, en, h, _, _, R, N, q, fun d h1 v ρ1 H1 e1 R1 r1 q1 => ?_, k3.at N⟩
  refine ⟨ρ1, en, h1, _, _, R1, N.mono e1, q1, fun x h2 ov ρ2 H2 e2 R2 r2 q2 => ?_, (k3.ext e1).at (N.mono e1)⟩
  have e2_ := e2
  have e12 := e1.trans e2
  refine ⟨ρ2, en, h2, _, _, R2, N.mono e12, q2, fun y h3 iv ρ3 H3 e3 R3 r3 q3 => ?_, (k3.ext e12).at (N.mono e12)⟩
  obtain ⟨h4, e4, q4⟩ := OQ_some q3
  have rx := r2.mono e3
  cases rx with
  | @ref n ad ra =>
    cases r3 with
    | int i =>
      have e4 : (match h3[n]? with | some (.lst xs) => (ixN xs.length i).map fun j => h3.set n (.lst (xs.set j d)) | _ => none) = some h4 := e4
      split at e4
      · rename_i xs z
        obtain ⟨j, ej, rfl⟩ := Option.map_eq_some_iff.mp e4
        obtain ⟨us, hu, ru⟩ := R3.at_ n _ ad z ra
        refine .inl ⟨ad, us, i, j, rfl, rfl, hu, by rw [← ru.length]; exact ej, ?_⟩
        have rd : RD X.K fa ρ3 H3 d v := r1.mono (e2.trans e3)
        have x1 := Ext.setLst (K := X.K) (o := .lst (us.set j v)) (List.mem_of_getElem? ra) hu
        exact k1 en _ σ ρ3 _ ((e12.trans e3).trans x1) (R3.setLst z ra (RDs.set rd j ru)) (N.mono ((e12.trans e3).trans x1)) q4
      · cases e4
    | tup t1 t2 =>
      have e4 : (match h3[n]? with | some (.dic kvs) => if kvs.length < sizeLine then (keyD (.tup _)).map fun k => h3.set n (.dic (setK kvs k d)) else none | _ => none) = some h4 := e4
      split at e4
      · rename_i kvs z
        by_cases hz : kvs.length < sizeLine
        · rw [if_pos hz] at e4
          obtain ⟨kk, e2, rfl⟩ := Option.map_eq_some_iff.mp e4
          obtain ⟨kws, b, ev, h1, h2, h3', h4', g⟩ := dget_of R3 (RD.tup t1 t2) ra z e2
          cases ev
          have rd : RD X.K fa ρ3 H3 d v := r1.mono (e2_.trans e3)
          refine .inr ⟨ad, kws, kk, _, rfl, rfl, h1, h2, ?_, fun nd => ?_⟩
          · have := congrArg List.length h3'
            simp only [List.length_map] at this
            rw [this]
            exact hz
          · have x1 := Ext.setO (K := X.K) (H := H3) (o := .dT (putK kws kk v)) (List.mem_of_getElem? ra) (by rw [h1]; exact .dT)
            have pk : (putK kws kk v).map (·.1) = (setK kvs kk d).map (·.1) ∧ RDs X.K fa ρ3 H3 ((setK kvs kk d).map (·.2)) ((putK kws kk v).map (·.2)) := by
              unfold putK
              split
              · rename_i c
                exact put_pos h3' h4' nd rd (any_keys.mp c)
              · rename_i c
                exact put_neg h3' h4' rd fun z => c (any_keys.mpr z)
            exact k1 en _ σ ρ3 _ ((e12.trans e3).trans x1) (R3.setO (d2 := .dic (setK kvs kk d)) z ra ⟨_, upd_same, pk.1, pk.2.mono x1⟩) (N.mono ((e12.trans e3).trans x1)) q4
        · rw [if_neg hz] at e4; cases e4
      · cases e4
    | _ => cases e4
  | _ => (cases y <;> cases e4)
theorem ss_ret (ha : SE X fa xa W a φ) : SS X fa xa W (.Return (some a) pos) fun en h _ rt E => φ en h rt fun x h1 => E x en h1 :=
  ⟨(ps_ret ha.pe).wk fun D σ H ⟨ρ, en, h, nx, rt, E0, R, N, q, k1, k2, k3⟩ => ⟨ρ, en, h, rt, _, R, N, q, k2, k3.at N⟩⟩
theorem ss_if (hc : SE X fa xa W c φ) (ha : SSs X fa xa W ss χa) (hb : SSs X fa xa W bb χb) : SS X fa xa W (.If c ss bb pos) fun en h nx rt E => φ en h (fun x h1 => OQ (asBl x) fun k => if k = true then χa en h1 nx rt E else χb en h1 nx rt E) fun x h1 => E x en h1 := by
  refine ⟨(ps_if hc.pt ha.ps hb.ps).wk fun D σ H w => ?_⟩
  refine RS.expr (f := fun en x h1 nx rt E => OQ (asBl x) fun k => if k = true then χa en h1 nx rt E else χb en h1 nx rt E) w fun ρ en h H x v nx rt E0 R N r q k1 k2 k3 => ?_
  obtain ⟨k, e1, q⟩ := OQ_some q
  obtain ⟨rfl, rfl⟩ := r.bl_of e1
  refine ⟨k, rfl, ?_⟩
  cases k with
  | true => exact ⟨ρ, en, h, nx, rt, E0, R, N, q, k1, k2, k3⟩
  | false => exact ⟨ρ, en, h, nx, rt, E0, R, N, q, k1, k2, k3⟩
theorem ss_while (hp : PassesOwn (model X.prog X.w) X.A X.env X.xe) (hc : SE X fa xa W c φ) (hb : SSs X fa xa W ss χ) : SS X fa xa W (.While c ss [] pos) fun en h nx rt E => ∃ Wm : Nat → En → MH → Prop, (∃ m, Wm m en h) ∧ ∀ m en h, Wm m en h →
    φ en h (fun x h1 => OQ (asBl x) fun k => if k = true then χ en h1 (fun en2 h2 => ∃ m2, m2 < m ∧ Wm m2 en2 h2) rt E else nx en h1) fun x h1 => E x en h1 := by
  refine ⟨(ps_while hp hc.pt hb.ps).wk fun D σ H ⟨ρ, en, h, nx, rt, E0, R, N, ⟨Wm, ⟨m0, w0⟩, turn⟩, k1, k2, k3⟩ => ?_⟩
  refine ⟨fun m σ2 H2 => ∃ ρ2 en2 h2, Ext X.K ρ H ρ2 H2 ∧ RH X.K fa ρ2 h2 H2 ∧ REn X.K fa ρ2 H2 en2 σ2 ∧ Wm m en2 h2, ⟨m0, ρ, en, h, .refl, R, N, w0⟩, fun m σ2 H2 ⟨ρ2, en2, h2, e2, R2, N2, w2⟩ => ?_⟩
  refine ⟨ρ2, en2, h2, _, _, R2, N2, turn m en2 h2 w2, fun x h3 v ρ3 H3 e3 R3 r3 q3 => ?_, (k3.ext e2).at N2⟩
  obtain ⟨k, e1, q⟩ := OQ_some q3
  obtain ⟨rfl, rfl⟩ := r3.bl_of e1
  refine ⟨k, rfl, ?_⟩
  cases k with
  | true =>
    rw [if_pos rfl] at q ⊢
    refine ⟨fun σ4 H4 => ∃ m4, m4 < m ∧ ∃ ρ2 en2 h2, Ext X.K ρ H ρ2 H4 ∧ RH X.K fa ρ2 h2 H4 ∧ REn X.K fa ρ2 H4 en2 σ4 ∧ Wm m4 en2 h2, fun σ4 H4 z => z, ρ3, en2, h3, _, rt, E0, R3, N2.mono e3, q, fun en5 h5 σ5 ρ5 H5 e5 R5 N5 ⟨m5, l5, w5⟩ => ?_, k2.ext (e2.trans e3), k3.ext (e2.trans e3)⟩
    exact ⟨m5, l5, ρ5, en5, h5, (e2.trans e3).trans e5, R5, N5, w5⟩
  | false =>
    rw [if_neg Bool.false_ne_true] at q ⊢
    exact k1 en2 h3 σ2 ρ3 H3 (e2.trans e3) R3 (N2.mono e3) q
theorem ss_for {k : IK} {t : TGt} {g : TG} (hp : PassesOwn (model X.prog X.w) X.A X.env X.xe) (hc : X.calm = true) (hi : PI X tg iter (RI X.K fa xa W k ψ)) (hg : SG X fa tg t g) (hb : SSs X fa xa W ss χ) (hs : ∀ x, foldedSetIterable iter X.env x = pure x) :
    SS X fa xa W (.For tg iter ss [] pos) fun en h nx rt E => ψ en h (fun ds h1 => OQ (itemsOf k ds h1) fun p => loopF p.2 (fun x en2 h2 nx2 => OQ (bindT t x en2) fun en3 => χ en3 h2 nx2 rt E) p.1 en h1 nx) fun x h1 => E x en h1 := by
  refine ⟨(ps_for hp hc hi hg.pg hb.ps hs).wk fun Dd σ H ⟨ρ, en, h, nx, rt, E0, R, N, q, k1, k2, k3⟩ => ?_⟩
  refine ⟨ρ, en, h, fun p h1 => loopF p.2 (fun x en2 h2 nx2 => OQ (bindT t x en2) fun en3 => χ en3 h2 nx2 rt E0) p.1 en h1 nx, _, R, N, q, fun pp J h1 ρ1 H1 e1 R1 hJ qp => ?_, k3.at N⟩
  obtain ⟨xs, S⟩ := pp
  have hJ : ItOk X.K fa J S xs ρ1 H1 := hJ
  generalize hone : (fun (x : D) (en2 : En) (h2 : MH) (nx2 : En → MH → Prop) => OQ (bindT t x en2) fun en3 => χ en3 h2 nx2 rt E0) = one at qp
  refine ⟨fun i m σ2 H2 => ∃ ρ2 en2 h2, Ext X.K ρ1 H1 ρ2 H2 ∧ RH X.K fa ρ2 h2 H2 ∧ REn X.K fa ρ2 H2 en2 σ2 ∧ m = xs.length - i ∧ i ≤ xs.length ∧ loopF S one (xs.drop i) en2 h2 nx, ⟨_, ρ1, en, h1, .refl, R1, N.mono e1, rfl, Nat.zero_le _, qp⟩, ?_⟩
  rintro i m σ2 H2 ⟨ρ2, en2, h2, e2, R2, N2, rfl, hi2, ql⟩
  by_cases hlt : i < xs.length
  · rw [List.drop_eq_getElem_cons hlt] at ql
    obtain ⟨st, ql⟩ := ql
    refine .inr ⟨hJ.go i ρ2 h2 H2 e2 R2 st hlt, fun σ3 H3 => ∃ ρ2 en2 h2, Ext X.K ρ1 H1 ρ2 H3 ∧ RH X.K fa ρ2 h2 H3 ∧ REn X.K fa ρ2 H3 en2 σ3 ∧ loopF S one (xs.drop (i + 1)) en2 h2 nx,
      fun σ3 H3 ⟨ρ3, en3, h3, a1, a2, a3, a4⟩ => ⟨xs.length - (i + 1), by omega, ρ3, en3, h3, a1, a2, a3, rfl, hlt, a4⟩, fun v H3 y => ?_⟩
    obtain ⟨e3, R3, rv⟩ := hJ.yld i ρ2 h2 H2 xs[i] v H3 e2 R2 st (List.getElem?_eq_getElem hlt) y
    rw [← hone] at ql
    obtain ⟨en3, hb3, ql⟩ := OQ_some ql
    refine hg.ok ρ2 h2 H3 en2 σ2 _ v en3 _ R3 (N2.mono e3) rv hb3 fun σ4 N4 _ _ => ?_
    have e123 := (e1.trans e2).trans e3
    refine ⟨ρ2, en3, h2, _, rt, E0, R3, N4, ql, fun en5 h5 σ5 ρ5 H5 e5 R5 N5 q5 => ?_, k2.ext e123, k3.ext e123⟩
    rw [hone] at q5
    exact ⟨ρ5, en5, h5, (e2.trans e3).trans e5, R5, N5, q5⟩
  · have hx : xs.drop i = [] := List.drop_eq_nil_of_le (by omega)
    rw [hx] at ql
    obtain ⟨st, ql⟩ := ql
    exact .inl ⟨hJ.stop i ρ2 h2 H2 e2 R2 st (by omega), k1 en2 h2 σ2 ρ2 H2 (e1.trans e2) R2 N2 ql⟩
end
end Mp
namespace Mp
open PySem PySem.Spec PyProof.Rows L2

section
variable {X : Cx} {fa : Nat → Option Addr} {xa : Nat → Option (Value × List Str)} {W : WX} {e o : Expr} {es : List Expr} {φ : WE} {ψ : WL} {apos cpos : Pos}
def GM (K : PySem.W.Frag) (fa : Nat → Option Addr) (r : V → List V → Hp → VK → Prop) (m : MT) : Prop := ∀ ρ h H x v ds vs Q Q0, RH K fa ρ h H → RD K fa ρ H x v → RDs K fa ρ H ds vs → PQ (mtop m x ds h) Q0 → Then K fa ρ H Q0 Q → r v vs H Q
theorem Then.set {K : PySem.W.Frag} {ρ : List Addr} {h : MH} {H : Hp} {Q : VK} {Q0 : QV} {n : Nat} {a : Addr} {ds ds2 : List D} {us vs : List V} {d : D} {v : V} (k : Then K fa ρ H Q0 Q) (R : RH K fa ρ h H) (hh : h[n]? = some (.lst ds)) (ra : ρ[n]? = some a) (hu : H a = some (.lst us)) (r : RDs K fa ρ H ds2 vs)
    (rd : RD K fa ρ H d v) (q : Q0 d (h.set n (.lst ds2))) : Q v (upd H a (.lst vs)) :=
  have x1 := Ext.setLst (K := K) (o := .lst vs) (List.mem_of_getElem? ra) hu
  k _ _ _ ρ _ x1 (R.setLst hh ra r) (rd.mono x1) q
theorem gm_append : GM X.K fa rAppend .append := by
  intro ρ h H x v ds vs Q Q0 R r rs q k
  cases r with
  | @ref n a ra =>
    cases rs with
    | nil => exact False.elim q
    | cons r1 r2 =>
      cases r2 with
      | cons _ _ => exact False.elim q
      | @nil =>
        rename_i d w
        have q : PQ (match h[n]? with | some (.lst xs) => if xs.length < sizeLine then some (D.non, h.set n (.lst (xs ++ [d]))) else none | _ => none) Q0 := q
        split at q
        · rename_i xs z
          obtain ⟨hz, q⟩ := ite_PQ q
          obtain ⟨us, hu, ru⟩ := R.at_ n _ a z ra
          exact ⟨a, us, w, rfl, rfl, hu, by rw [← ru.length]; exact hz, k.set R z ra hu (ru.append (.cons r1 .nil)) .non q⟩
        · exact False.elim q
  | _ => (cases rs <;> exact False.elim q)
theorem gm_extend : GM X.K fa rExtend .extend := by
  intro ρ h H x v ds vs Q Q0 R r rs q k
  cases r with
  | @ref n a ra =>
    cases rs with
    | nil => exact False.elim q
    | cons r1 r2 =>
      cases r2 with
      | cons _ _ => (cases r1 <;> exact False.elim q)
      | nil =>
        cases r1 with
        | @ref m b rb =>
          have q : PQ (match h[n]?, h[m]? with | some (.lst xs), some (.lst ys) => if xs.length + ys.length ≤ sizeLine then some (D.non, h.set n (.lst (xs ++ ys))) else none | _, _ => none) Q0 := q
          split at q
          · rename_i xs ys z1 z2
            obtain ⟨hz, q⟩ := ite_PQ q
            obtain ⟨us, hu, ru⟩ := R.at_ n _ a z1 ra
            obtain ⟨ws, hw, rw_⟩ := R.at_ m _ b z2 rb
            exact ⟨a, b, us, ws, rfl, rfl, hu, hw, by rw [← ru.length, ← rw_.length]; exact hz, k.set R z1 ra hu (ru.append rw_) .non q⟩
          · exact False.elim q
        | _ => exact False.elim q
  | _ => (cases rs <;> exact False.elim q)
theorem RDs.last {K : PySem.W.Frag} {ρ : List Addr} {H : Hp} {xs : List D} {us : List V} {y : D} (r : RDs K fa ρ H xs us) (e : xs[xs.length - 1]? = some y) : ∃ w, us[us.length - 1]? = some w ∧ RD K fa ρ H y w := by
  rw [← r.length]
  exact r.get e
theorem gm_pop0 : GM X.K fa rPop .pop0 := by
  intro ρ h H x v ds vs Q Q0 R r rs q k
  cases r with
  | @ref n a ra =>
    cases rs with
    | cons _ _ => exact False.elim q
    | nil =>
      have q : PQ (match h[n]? with | some (.lst xs) => (match xs[xs.length - 1]? with | some y => some (y, h.set n (.lst xs.dropLast)) | none => none) | _ => none) Q0 := q
      split at q
      · rename_i xs z
        split at q
        · rename_i y e
          obtain ⟨us, hu, ru⟩ := R.at_ n _ a z ra
          obtain ⟨w, e2, r2⟩ := ru.last e
          exact ⟨a, us, w, rfl, rfl, hu, e2, k.set R z ra hu ru.dropLast r2 q⟩
        · exact False.elim q
      · exact False.elim q
  | _ => (cases rs <;> exact False.elim q)
theorem gm_reverse : GM X.K fa rReverse .reverse := by
  intro ρ h H x v ds vs Q Q0 R r rs q k
  cases r with
  | @ref n a ra =>
    cases rs with
    | cons _ _ => exact False.elim q
    | nil =>
      have q : PQ (match h[n]? with | some (.lst xs) => some (D.non, h.set n (.lst xs.reverse)) | _ => none) Q0 := q
      split at q
      · rename_i xs z
        obtain ⟨us, hu, ru⟩ := R.at_ n _ a z ra
        exact ⟨a, us, rfl, rfl, hu, k.set R z ra hu ru.reverse .non q⟩
      · exact False.elim q
  | _ => (cases rs <;> exact False.elim q)

theorem RDs.eraseIdx {K : PySem.W.Frag} {ρ : List Addr} {H : Hp} {xs : List D} {us : List V} (r : RDs K fa ρ H xs us) (k : Nat) : RDs K fa ρ H (xs.eraseIdx k) (us.eraseIdx k) := by
  rw [List.eraseIdx_eq_take_drop_succ, List.eraseIdx_eq_take_drop_succ]
  exact (r.take k).append (r.drop (k + 1))
theorem gm_pop1 : GM X.K fa rPopAt .pop1 := by
  intro ρ h H x v ds vs Q Q0 R r rs q k
  cases r with
  | @ref n a ra =>
    cases rs with
    | nil => exact False.elim q
    | cons r1 r2 =>
      cases r2 with
      | cons _ _ => (cases r1 <;> exact False.elim q)
      | nil =>
        cases r1 with
        | int i =>
          have q : PQ (match h[n]? with | some (.lst xs) => (if -B63 ≤ i ∧ i < B63 then (match seqIndex? i xs.length with | some j => (match xs[j]? with | some y => some (y, h.set n (.lst (xs.eraseIdx j))) | none => none) | none => none) else none) | _ => none) Q0 := q
          split at q
          · rename_i xs z
            by_cases hz : -B63 ≤ i ∧ i < B63
            · rw [if_pos hz] at q
              rw [B63_eq] at hz
              split at q
              · rename_i j e1
                split at q
                · rename_i y e2
                  obtain ⟨us, hu, ru⟩ := R.at_ n _ a z ra
                  obtain ⟨w, e3, rw_⟩ := ru.get e2
                  exact ⟨a, us, i, j, w, rfl, rfl, hu, hz.1, hz.2, by rw [← ru.length]; exact e1, e3, k.set R z ra hu (ru.eraseIdx j) rw_ q⟩
                · exact False.elim q
              · exact False.elim q
            · rw [if_neg hz] at q; exact False.elim q
          · exact False.elim q
        | _ => exact False.elim q
  | _ => (cases rs <;> exact False.elim q)
theorem gm_index : ∀ (ρ : List Addr) (h : MH) (H : Hp) (n : Nat) (v : V) (ds : List D) (vs : List V) (Q : VK) (Q0 : QV), RH X.K fa ρ h H → RD X.K fa ρ H (.ref n) v → RDs X.K fa ρ H ds vs → PQ (mtop .index (.ref n) ds h) Q0 → Then X.K fa ρ H Q0 Q → rIndexD X.K v vs H Q := by
  intro ρ h H n v ds vs Q Q0 R r rs q k
  cases r with
  | @ref _ a ra =>
    cases rs with
    | nil => exact False.elim q
    | cons r1 r2 =>
      cases r2 with
      | cons _ _ => exact False.elim q
      | @nil =>
        rename_i d w
        have q : PQ (match pyD 65 h (.ref n), pyD 65 h d with | some (.list ds), some a => (if SeqAt.shaped a && SeqAt.shaped (.list ds) then (ds.findIdx? fun z => PyData.eqv z a).map fun j => (D.int (j : Nat), h) else none) | _, _ => none) Q0 := q
        split at q
        · rename_i ps p e1 e2
          by_cases hc : (SeqAt.shaped p && SeqAt.shaped (.list ps)) = true
          · rw [if_pos hc] at q
            rw [Bool.and_eq_true] at hc
            cases e3 : ps.findIdx? fun z => PyData.eqv z p with
            | none => rw [e3] at q; exact False.elim q
            | some j =>
              rw [e3] at q
              have q : Q0 (.int (j : Nat)) h := q
              obtain ⟨hj, e4, e5⟩ := List.findIdx?_eq_some_iff_getElem.mp e3
              refine ⟨a, w, p, ps, j, ps[j], rfl, rfl, (RD.ref ra).dp R _ _ _ _ e1, r1.dp R _ _ _ _ e2, hc.2, hc.1, List.getElem?_eq_getElem hj, e4, fun m z' hm hz' => ?_, k.here R (.int _) q⟩
              obtain ⟨hm2, rfl⟩ := List.getElem?_eq_some_iff.mp hz'
              simpa using e5 m hm
          · rw [if_neg hc] at q; exact False.elim q
        · exact False.elim q

/-- t.index(x) of a tuple that has no dict -/
def rIndexT (K : PySem.W.Frag) : V → List V → Hp → VK → Prop := fun x xs H Q => ∃ (a : Addr) (y : V) (d : PyData) (ds : List PyData) (j : Nat) (z : PyData), x = V.ref a ∧ xs = [y] ∧ Dp K H (V.ref a) (.tuple ds) ∧ Dp K H y d ∧
  SeqAt.shaped (.tuple ds) = true ∧ SeqAt.shaped d = true ∧ ds[j]? = some z ∧ PyData.eqv z d = true ∧ (∀ (m : Nat) (z' : PyData), m < j → ds[m]? = some z' → PyData.eqv z' d = false) ∧ Q (.int (j : Nat)) H
theorem mt_indexT (hu : X.A.units + 65 < cLine) : MtR X "tuple.index" (rIndexT X.K) := by
  intro pins s σ H x xs v us Q I rx rxs h
  obtain ⟨a, y, d, ds, j, z, rfl, rfl, hl, hy, sl, sd, hz, hzj, hno, q⟩ := h
  cases rx
  obtain ⟨uy, rfl, ry⟩ := vals1 rxs
  obtain ⟨bs, r1⟩ := Dp.reads I d y uy hy ry
  have hxs : PyData.canLayAll0 ds = true := SeqAt.canLay_of_shaped sl
  have hroom : X.A.units + 1 + min (PyData.depthAll ds) d.depth < cLine := by
    have := SeqAt.depth_of_shaped sd
    omega
  cases hl with
  | tup hs ha =>
    obtain ⟨its, rv, ⟨⟨cls, dd, data, sls⟩, ho, hc, n, hdt⟩, hlen⟩ := I.tuple hs
    simp only at hc hdt
    subst hc hdt
    obtain ⟨as, h4⟩ := Dp.readsAll I ds _ its ha rv
    have hn : its.length = ds.length := SeqAt.ReadsAll.length ds its as h4
    have hmap : its.map (SeqAt.readOf s.heap) = ds := SeqAt.readsAll_map ds its as hxs h4
    have hj : j < its.toArray.size := by
      have := (List.getElem?_eq_some_iff.mp hz).1
      rw [List.size_toArray]; omega
    have at_ : ∀ (m : Nat) (hm : m < its.toArray.size), ds[m]? = some (SeqAt.readOf s.heap its.toArray[m]) := fun m hm => by
      have hml : m < its.length := by simpa using hm
      rw [← hmap, List.getElem?_map, List.getElem?_eq_getElem hml]
      simp
    refine call_meets PySem.F.slot_tuple_index ⟨_, ho, rfl⟩ PySem.F.entry_tuple_index (PySem.F.args_tuple_index_2 _ _)
      (_root_.TI.tuple_indexAt a its.toArray n dd sls uy (fun u => PyData.eqv (SeqAt.readOf s.heap u) d) j hj ?_ ?_) ⟨ho, SeqAt.items_eqAt (vs := its.toArray) (show ReadsAll s.heap its.toArray.toList ds as from h4) r1 hxs (SeqAt.canLay_of_shaped sd) hroom, ⟨.int (j : Nat), H, I.tok _, ⟨_, rfl⟩, q⟩⟩
    · have e := at_ j hj
      rw [hz] at e
      rw [← Option.some.inj e]
      exact hzj
    · intro m hm hmj
      exact hno m _ hmj (at_ m hm)
theorem gm_indexT {ρ : List Addr} {h : MH} {H : Hp} {xs : List D} {v : V} {ds : List D} {vs : List V} {Q : VK} {Q0 : QV} (R : RH X.K fa ρ h H) (r : RD X.K fa ρ H (.tupN xs) v) (rs : RDs X.K fa ρ H ds vs) (q : PQ (mtop .index (.tupN xs) ds h) Q0) (k : Then X.K fa ρ H Q0 Q) : rIndexT X.K v vs H Q := by
  cases rs with
  | nil => exact False.elim q
  | cons r1 r2 =>
    cases r2 with
    | cons _ _ => exact False.elim q
    | @nil =>
      rename_i d w
      have q : PQ (match pyD 65 h (.tupN xs), pyD 65 h d with | some (.tuple ds), some a => (if SeqAt.shaped a && SeqAt.shaped (.tuple ds) then (ds.findIdx? fun z => PyData.eqv z a).map fun j => (D.int (j : Nat), h) else none) | _, _ => none) Q0 := q
      split at q
      · rename_i ps p e1 e2
        by_cases c : (SeqAt.shaped p && SeqAt.shaped (.tuple ps)) = true
        case neg => rw [if_neg c] at q; exact False.elim q
        rw [if_pos c] at q
        rw [Bool.and_eq_true] at c
        cases e3 : ps.findIdx? fun z => PyData.eqv z p with
        | none => rw [e3] at q; exact False.elim q
        | some j =>
          rw [e3] at q
          have q : Q0 (.int (j : Nat)) h := q
          obtain ⟨hj, e4, e5⟩ := List.findIdx?_eq_some_iff_getElem.mp e3
          have rd := r.dp R _ _ _ _ e1
          cases r with
          | @tupN _ _ a s1 s2 =>
            refine ⟨a, w, p, ps, j, ps[j], rfl, rfl, rd, r1.dp R _ _ _ _ e2, c.2, c.1, List.getElem?_eq_getElem hj, e4, fun m z' hm hz' => ?_, k.here R (.int _) q⟩
            obtain ⟨hm2, rfl⟩ := List.getElem?_eq_some_iff.mp hz'
            simpa using e5 m hm
      · exact False.elim q
/-- a tuple whose object is known and has no dict -/
def tyN (K : PySem.W.Frag) (x : V) (H : Hp) : Prop := ∃ p vs, x = .ref p ∧ TpnAt K H p vs
/-- o.m(..) of a list, or of such a tuple -/
def tBMN (K : PySem.W.Frag) (r rN : V → List V → Hp → VK → Prop) (to : TE) (t : TA) : TE := fun σ H Q => to σ H fun x H1 => (tyV K "list" x H1 ∧ t σ H1 fun xs H2 => r x xs H2 Q) ∨ (tyN K x H1 ∧ t σ H1 fun xs H2 => rN x xs H2 Q)
theorem pe_bmN {name : Str} {id idN : String} {r rN : V → List V → Hp → VK → Prop} {to : TE} {t : TA} (slot : Slot "list" name id) (hty : typeOf (.builtin id) = pure (.type "method_descriptor")) (hm : MtR X id r)
    (slotN : Slot "tuple" name idN) (htyN : typeOf (.builtin idN) = pure (.type "method_descriptor")) (hmN : MtR X idN rN) (ho : PE X o to) (ha : PA X (e :: es) t)
    (hbase : attributeBase o name X.env (eval o X.env) = eval o X.env)
    (hfew : ((backTo cpos (starEach (e :: es) X.env)).all (fun x => !x.1) && (backToKw cpos (keywordEach [] X.env)).all (fun x => x.1.isSome)
      && decide ((e :: es).length + ([] : List Keyword).length + (if ([] : List Keyword).isEmpty then 0 else 1) < 30)) = true)
    (hline : (apos.endLine == cpos.line) = true) (hs : starEach (e :: es) X.env = (false, eval e X.env) :: starEach es X.env) (hplain : (backTo cpos (starEach es X.env)).any (·.1) = false) :
    PE X (.Call (.Attribute o name apos) (e :: es) [] cpos) (tBMN X.K r rN to t) := by
  refine ⟨fun pins s σ H Q I h => ?_⟩
  have hA0 := ha.run
  refine wpAny_Call_method_late hbase hfew hline rfl (thn (ho.run pins s σ H _ I h) fun v s1 ⟨x, H1, I1, r1, q1⟩ => ?_)
  have go : ∀ (id : String) (r : V → List V → Hp → VK → Prop), MtR X id r → t σ H1 (fun xs H2 => r x xs H2 Q) → wpAny (model X.prog X.w) X.A (callWith cpos (.builtin id) [v] (backTo cpos (starEach (e :: es) X.env)) (backToKw cpos (keywordEach [] X.env))) (EP X pins σ Q) X.xe s1 := fun id r hm q => by
    have hA := hA0 cpos pins s1 σ H1 _ I1 q
    rw [hs] at hA ⊢
    refine Calls.callWith_builtin (by show (false || (backTo cpos (starEach es X.env)).any (·.1)) = false; rw [hplain]; rfl) (Calls.evalArgs_plain ?_)
    exact thn hA fun us s2 ⟨vs, H2, I2, r2, q2⟩ => hm pins s2 σ H2 x vs v us Q I2 r1 r2 q2
  rcases q1 with ⟨ty, q1⟩ | ⟨ty, q1⟩
  · obtain ⟨h1, h2⟩ := tyV_is I1 r1 ty
    exact ⟨"list", id, PySem.F.plainAttrs_list, slot, hty, h1, h2, go id r hm q1⟩
  · obtain ⟨p, vs, rfl, ep⟩ := ty
    cases r1
    obtain ⟨ob, eo, hc, hd⟩ : ∃ ob, s1.heap.get? p = some ob ∧ ob.cls = .type "tuple" ∧ ob.dict = none := by
      rcases ep with ⟨ob, ep, hc, hd⟩ | ⟨ob, its, n, ep, hc, hd, _⟩
      · obtain ⟨eo, _⟩ := (show ObjOk X.prog X.w H1 s1.heap p (.frz ob (.tup vs)) from I1.hok p _ ep)
        exact ⟨ob, eo, hc, hd⟩
      · exact ⟨ob, I1.kIn p ob ep, hc, hd⟩
    exact ⟨"tuple", idN, PySem.F.plainAttrs_tuple, slotN, htyN, ⟨ob, eo, hc⟩, fun a ea => by cases ea; exact ⟨ob, eo, hd⟩, go idN rN hmN q1⟩

/-- what a method's receiver must not be: a call without arguments (super()) -/
def NoCall0 (o : Expr) : Prop := ∀ x p q, o ≠ .Call (.Name x p) [] [] q
theorem attr_no {nm : Str} {env : Env} {w : Sem Value} (h : NoCall0 o) : attributeBase o nm env w = w := by
  cases o with
  | Call f as ks q =>
    cases f with
    | Name x p =>
      cases as with
      | nil =>
        cases ks with
        | nil => exact absurd rfl (h _ _ _)
        | cons _ _ => rfl
      | cons _ _ => rfl
    | _ => rfl
  | _ => rfl
theorem recv_N {ρ : List Addr} {h : MH} {H : Hp} {x : D} {v : V} (R : RH X.K fa ρ h H) (r : RD X.K fa ρ H x v) (e : recv .index x h = true) : (tyV X.K "list" v H ∧ ∃ n, x = .ref n) ∨ (tyN X.K v H ∧ ∃ xs, x = .tupN xs) := by
  cases r with
  | @ref n a ra =>
    have e : (lstAt h n).isSome = true := e
    obtain ⟨xs, z⟩ := Option.isSome_iff_exists.mp e
    obtain ⟨us, s1, _⟩ := R.lst z ra
    exact .inl ⟨.inl ⟨rfl, us, s1⟩, n, rfl⟩
  | @tupN xs vs a s1 r1 =>
    exact .inr ⟨⟨a, vs, rfl, s1⟩, xs, rfl⟩
  | _ => cases e
theorem recv_ty {ρ : List Addr} {h : MH} {H : Hp} {m : MT} {x : D} {v : V} (R : RH X.K fa ρ h H) (r : RD X.K fa ρ H x v) (hm : m ≠ .index) (e : recv m x h = true) : tyV X.K "list" v H := by
  cases r with
  | tupN _ _ => cases m <;> first | (exact absurd rfl hm) | cases e
  | @ref n a ra =>
    have e : (lstAt h n).isSome = true := e
    obtain ⟨xs, z⟩ := Option.isSome_iff_exists.mp e
    obtain ⟨us, s1, _⟩ := R.lst z ra
    exact .inl ⟨rfl, us, s1⟩
  | _ => cases e
theorem few_of {es : List Expr} {env : Env} (h : (backTo cpos (starEach es env)).any (·.1) = false) (hl : es.length < 20) : ((backTo cpos (starEach es env)).all (fun x => !x.1) && (backToKw cpos (keywordEach [] env)).all (fun x => x.1.isSome) && decide (es.length + ([] : List Keyword).length + (if ([] : List Keyword).isEmpty then 0 else 1) < 30)) = true := by
  have h1 : (backTo cpos (starEach es env)).all (fun x => !x.1) = true := by
    rw [List.all_eq_not_any_not]
    simp only [Bool.not_not]
    rw [h]
    rfl
  rw [h1, Bool.true_and, Bool.and_eq_true]
  exact ⟨rfl, by simp; omega⟩
theorem se_mt1 {m : MT} {name : Str} {id : String} {r : V → List V → Hp → VK → Prop} (slot : Slot "list" name id) (hty : typeOf (.builtin id) = pure (.type "method_descriptor")) (hm : MtR X id r) (g : GM X.K fa r m) (hmi : m ≠ .index) (ho : SE X fa xa W o φ) (hs : SA X fa xa W (e :: es) ψ) (hn : NoCall0 o)
    (hline : (apos.endLine == cpos.line) = true) (hl : (e :: es).length < 20) (h1 : starEach (e :: es) X.env = (false, eval e X.env) :: starEach es X.env) (h2 : (backTo cpos (starEach es X.env)).any (·.1) = false) :
    SE X fa xa W (.Call (.Attribute o name apos) (e :: es) [] cpos) fun en h Q E => φ en h (fun x h1 => recv m x h1 = true ∧ ψ en h1 (fun ds h2 => PQ (mtop m x ds h2) Q) E) E := by
  refine .of ((pe_bm PySem.F.plainAttrs_list slot hty hm ho.pe hs.pa (attr_no hn) (few_of (hs.pl _ _) hl) hline h1 h2).wk fun σ H Q w => ?_) (fun _ _ => rfl) (fun _ _ _ z => nomatch z) fun _ => rfl
  obtain ⟨ρ, en, h, Q0, E0, R, N, q, k, kx⟩ := w
  refine ⟨ρ, en, h, _, E0, R, N, q, fun x h3 v ρ3 H3 e3 R3 r3 q3 => ⟨recv_ty R3 r3 hmi q3.1, ?_⟩, kx⟩
  refine ⟨ρ3, en, h3, _, E0, R3, N.mono e3, q3.2, fun ds h4 vs ρ4 H4 e4 R4 r4 q4 => ?_, kx.ext e3⟩
  exact g ρ4 h4 H4 x v ds vs Q Q0 R4 (r3.mono e4) r4 q4 (k.ext (e3.trans e4))
theorem se_mtI (hun : X.A.units + 65 < cLine) (ho : SE X fa xa W o φ) (hs : SA X fa xa W (e :: es) ψ) (hn : NoCall0 o)
    (hline : (apos.endLine == cpos.line) = true) (hl : (e :: es).length < 20) (h1 : starEach (e :: es) X.env = (false, eval e X.env) :: starEach es X.env) (h2 : (backTo cpos (starEach es X.env)).any (·.1) = false) :
    SE X fa xa W (.Call (.Attribute o "index" apos) (e :: es) [] cpos) fun en h Q E => φ en h (fun x h1 => recv .index x h1 = true ∧ ψ en h1 (fun ds h2 => PQ (mtop .index x ds h2) Q) E) E := by
  refine .of ((pe_bmN PySem.F.slot_list_index PySem.F.type_list_index (mt_indexD hun) PySem.F.slot_tuple_index PySem.F.type_tuple_index (mt_indexT hun) ho.pe hs.pa (attr_no hn) (few_of (hs.pl _ _) hl) hline h1 h2).wk fun σ H Q w => ?_) (fun _ _ => rfl) (fun _ _ _ z => nomatch z) fun _ => rfl
  obtain ⟨ρ, en, h, Q0, E0, R, N, q, k, kx⟩ := w
  refine ⟨ρ, en, h, _, E0, R, N, q, fun x h3 v ρ3 H3 e3 R3 r3 q3 => ?_, kx⟩
  rcases recv_N R3 r3 q3.1 with ⟨z, n, rfl⟩ | ⟨z, xs, rfl⟩
  · exact .inl ⟨z, ρ3, en, h3, _, E0, R3, N.mono e3, q3.2, fun ds h4 vs ρ4 H4 e4 R4 r4 q4 => gm_index ρ4 h4 H4 _ v ds vs Q Q0 R4 (r3.mono e4) r4 q4 (k.ext (e3.trans e4)), kx.ext e3⟩
  · exact .inr ⟨z, ρ3, en, h3, _, E0, R3, N.mono e3, q3.2, fun ds h4 vs ρ4 H4 e4 R4 r4 q4 => gm_indexT R4 (r3.mono e4) r4 q4 (k.ext (e3.trans e4)), kx.ext e3⟩
/-- {..}.get(a, b) -/
theorem se_pick {ks : List (Str × Int)} {keys : List (Option Expr)} {vals : List Expr} {trs : List (TE × TE)} {f : Expr} {φb : WE} {p : Pos} (hu : X.A.units + 1 < cLine) (P : PPs X p keys vals trs) (htr : ∀ (σ : L2.St) (H : Hp) (Q : List (V × V) → Hp → Prop), Q (ks.map fun q => (V.str q.1, V.int q.2)) H → tPairs trs σ H Q)
    (hall : keys.all (·.isSome) = true) (hl : keys.length = vals.length) (h0 : keys ≠ []) (h15 : keys.length ≤ 15) (hk : ks.length ≤ 15) (ha : SE X fa xa W e φ) (hb : SE X fa xa W f φb) (hline : (apos.endLine == cpos.line) = true) :
    SE X fa xa W (.Call (.Attribute (.Dict keys vals p) "get" apos) [e, f] [] cpos) fun en h Q E => φ en h (fun x h1 => φb en h1 (fun y h2 => OQ (pickD ks x) fun o => Q (o.elim y .int) h2) E) E := by
  have tr : backTo cpos (starEach [e, f] X.env) = [(false, eval e X.env), (false, eval f X.env)] := by
    rw [ha.ns, hb.ns]; rfl
  have few : ((backTo cpos (starEach [e, f] X.env)).all (fun x => !x.1) && (backToKw cpos (keywordEach [] X.env)).all (fun x => x.1.isSome) && decide (([e, f] : List Expr).length + ([] : List Keyword).length + (if ([] : List Keyword).isEmpty then 0 else 1) < 30)) = true := by
    rw [tr]; rfl
  refine .of ((pe_dget2 hu (pe_disp P hall hl h0 h15) ha.pe hb.pe ⟨attr_no (fun _ _ _ z => nomatch z), few, hline, tr⟩).wk fun σ H Q w => ?_) (fun _ _ => rfl) (fun _ _ _ z => nomatch z) fun _ => rfl
  obtain ⟨ρ, en, h, Q0, E0, R, N, q, k, kx⟩ := w
  intro pp hp
  have hnp := R.notin hp
  refine htr _ _ _ ⟨upd_same, ks.map (fun q => ((Sum.inr q.1 : Key), V.int q.2)), by rw [List.map_map]; rfl, by rw [List.length_map]; exact hk, pp, rfl, .inl ⟨_, .inl upd_same⟩, ?_⟩
  rw [upd_upd]
  generalize hM : mergeK [] (ks.map fun q => ((Sum.inr q.1 : Key), V.int q.2)) = M
  have e1 : Ext X.K ρ H ρ (upd H pp (.dK M)) := Ext.newU hp
  refine ⟨ρ, en, h, _, E0, R.newU hp, N.mono e1, q, fun x h2 v ρ2 H2 e2 R2 rx q2 => ?_, kx.ext e1⟩
  refine ⟨ρ2, en, h2, _, E0, R2, (N.mono e1).mono e2, q2, fun y h3 u ρ3 H3 e3 R3 ry q3 => ?_, (kx.ext e1).ext e2⟩
  obtain ⟨o, eo, q4⟩ := OQ_some q3
  have np2 : pp ∉ ρ2 := fun m => by
    have := e2.new pp m hnp
    rw [upd_same] at this
    cases this
  have at3 : H3 pp = some (.dK M) := e3.fr pp _ (e2.fr pp _ upd_same hnp) np2
  have k3 := ((k.ext e1).ext e2).ext e3
  cases rx with
  | str s =>
    have eo : (match valV (mergeK [] (ks.map fun p => ((Sum.inr p.1 : Key), V.int p.2))) (.inr s) with | some (.int i) => some (some i) | none => some none | _ => none) = some o := eo
    rw [hM] at eo
    refine ⟨valV M (.inr s), .inl ⟨M, .inr s, .inl at3, rfl, rfl⟩, ?_⟩
    split at eo
    · rename_i i z
      cases eo
      rw [z]
      exact k3.here R3 (.int i) q4
    · rename_i z
      cases eo
      rw [z]
      exact k3.here R3 ry q4
    · cases eo
  | _ => cases eo
theorem se_mt0 {m : MT} {name : Str} {id : String} {r : V → List V → Hp → VK → Prop} (slot : Slot "list" name id) (hty : typeOf (.builtin id) = pure (.type "method_descriptor")) (hm : MtR X id r) (g : GM X.K fa r m) (hmi : m ≠ .index) (ho : SE X fa xa W o φ) (hn : NoCall0 o)
    (hline : (apos.endLine == cpos.line) = true) :
    SE X fa xa W (.Call (.Attribute o name apos) [] [] cpos) fun en h Q E => φ en h (fun x h1 => recv m x h1 = true ∧ PQ (mtop m x [] h1) Q) E := by
  refine .of ((pe_bm0 PySem.F.plainAttrs_list slot hty hm ho.pe (attr_no hn) hline).wk fun σ H Q w => ?_) (fun _ _ => rfl) (fun _ _ _ z => nomatch z) fun _ => rfl
  refine RE.one (f := fun _ x h1 Q _ => recv m x h1 = true ∧ PQ (mtop m x [] h1) Q) w fun ρ en h H x v Q0 E0 R N r q k kx => ⟨recv_ty R r hmi q.1, ?_⟩
  exact g ρ h H x v [] [] Q Q0 R r .nil q.2 k
def mtName : MT → Option Str
  | .append => some "append"
  | .extend => some "extend"
  | .pop0 => some "pop"
  | .reverse => some "reverse"
  | .pop1 => some "pop"
  | .index => some "index"
  | _ => none
theorem se_mt {m : MT} {name : Str} (hun : X.A.units + 65 < cLine) (hnm : mtName m = some name) (ho : SE X fa xa W o φ) (hs : SA X fa xa W es ψ) (hn : NoCall0 o) (hline : (apos.endLine == cpos.line) = true) (hl : es.length < 20)
    (h1 : ∀ e r, es = e :: r → starEach (e :: r) X.env = (false, eval e X.env) :: starEach r X.env ∧ (backTo cpos (starEach r X.env)).any (·.1) = false) (h0 : es = [] → ψ = fun _ h Q _ => Q [] h) (hpop : (m = .pop0 ∨ m = .reverse) ↔ es = []) :
    SE X fa xa W (.Call (.Attribute o name apos) es [] cpos) fun en h Q E => φ en h (fun x h1 => recv m x h1 = true ∧ ψ en h1 (fun ds h2 => PQ (mtop m x ds h2) Q) E) E := by
  cases es with
  | nil =>
    have hp := hpop.mpr rfl
    have z := h0 rfl
    subst z
    rcases hp with rfl | rfl
    · cases hnm; exact se_mt0 PySem.F.slot_list_pop PySem.F.type_list_pop mt_pop gm_pop0 (fun z => nomatch z) ho hn hline
    · cases hnm; exact se_mt0 PySem.F.slot_list_reverse PySem.F.type_list_reverse mt_reverse gm_reverse (fun z => nomatch z) ho hn hline
  | cons e r =>
    obtain ⟨a1, a2⟩ := h1 e r rfl
    have hp : ¬ (m = .pop0 ∨ m = .reverse) := fun z => nomatch hpop.mp z
    cases m with
    | append => cases hnm; exact se_mt1 PySem.F.slot_list_append PySem.F.type_list_append mt_append gm_append (fun z => nomatch z) ho hs hn hline hl a1 a2
    | extend => cases hnm; exact se_mt1 PySem.F.slot_list_extend PySem.F.type_list_extend mt_extend gm_extend (fun z => nomatch z) ho hs hn hline hl a1 a2
    | pop1 => cases hnm; exact se_mt1 PySem.F.slot_list_pop PySem.F.type_list_pop mt_popAt gm_pop1 (fun z => nomatch z) ho hs hn hline hl a1 a2
    | index => cases hnm; exact se_mtI hun ho hs hn hline hl a1 a2
    | pop0 => exact absurd (.inl rfl) hp
    | reverse => exact absurd (.inr rfl) hp
    | _ => cases hnm
end
end Mp
namespace Mp
open PySem PySem.Spec PyProof.Rows L2

/-! ### tuples, slices with a step -/
section
variable {prog : Program} {w : World} {A : Around} {E : Value → Shared → Prop} {s : Shared}
theorem sliceApplied_step {sl : Addr} {vl vu vs : Value} {lo hi : Option Int} {st : Int} {n : Nat} {Q : Int × Int × Nat → Shared → Prop} (hs : s.heap.IsSliceOf sl vl vu vs) (pl : IsPart vl lo) (pu : IsPart vu hi) (ps : IsPart vs (some st)) (h0 : st ≠ 0)
    (h : Q ((Builtin.Slice.sliceAdjust lo hi st (n : Int)).1, st, Builtin.Slice.slicePlaces (Builtin.Slice.sliceAdjust lo hi st (n : Int)).1 (Builtin.Slice.sliceAdjust lo hi st (n : Int)).2 st) s) :
    wpAny (model prog w) A (Builtin.Slice.sliceApplied (.ref sl) (pure (n : Int))) Q E s := by
  obtain ⟨os, hos, hcs, hds⟩ := id hs
  unfold Builtin.Slice.sliceApplied Builtin.Slice.sliceFields
  refine wpAny_bind (wpAny_bind (wpAny_field hos hds (x := vl) rfl (wpAny_bind (wpAny_field hos hds (x := vu) rfl (wpAny_bind (wpAny_field hos hds (x := vs) rfl (wpAny_pure ?_)))))))
  refine wpAny_bind (HT.slicePart_ ps ?_)
  show wpAny _ _ (if (st == 0) = true then _ else _) _ _ s
  rw [if_neg (by simpa using h0)]
  refine wpAny_bind (HT.slicePart_ pl (wpAny_bind (HT.slicePart_ pu (wpAny_bind (wpAny_pure ?_)))))
  exact wpAny_pure h
theorem getItem_tuple_step {t sl : Addr} {items : Array Value} {vl vu vs : Value} {lo hi : Option Int} {st : Int} {Q : Value → Shared → Prop} (ht : IsTup s.heap t items) (hs : s.heap.IsSliceOf sl vl vu vs) (pl : IsPart vl lo) (pu : IsPart vu hi) (ps : IsPart vs (some st))
    (h0 : st ≠ 0) (h1 : st ≠ 1) (h : Q (.ref s.heap.objs.size) { s with heap := s.heap.push { cls := .type "tuple", data := .seq (pickT items.toList lo hi st).toArray } }) (hsz : (pickT items.toList lo hi st).length ≤ sizeLine) :
    wpAny (model prog w) A (getItem (.ref t) (.ref sl)) Q E s := by
  have htake : sizeOk (.seq (pickT items.toList lo hi st).toArray) := by
    show (pickT items.toList lo hi st).toArray.size ≤ sizeLine
    rw [List.size_toArray]
    exact hsz
  obtain ⟨os, hos, hcs, hds⟩ := id hs
  have hTs : s.TypeIs (.ref sl) "slice" := ⟨os, hos, hcs⟩
  unfold getItem
  try with_reducible refine wpAny_holding ?_
  first | refine wpAny_bind (wpAny_pure ?_) | skip
  refine wpAny_bind (wpAny_sequenceKey ht.typeIs (by decide) ?_)
  refine wpAny_bind (wpAny_callSpecial?_slot (name := Str.ofString "__getitem__") ht.typeIs PyProof.Rows.slot_tuple_getitem
    (wpAny_call_entry PyProof.Rows.slot_tuple_getitem ht.typeIs entry_tuple_getitem ?_ (args_tuple_getitem _ _)))
  show wpAny _ _ (Builtin.Tuple.tupleItemsOf (.ref t) >>= _) _ _ s
  refine wpAny_bind (tupleItemsOf_ ht ?_)
  refine wpAny_bind (wpAny_typeOf hTs ?_)
  rw [if_pos (by decide)]
  refine wpAny_bind (sliceApplied_step hs pl pu ps h0 ?_)
  have hno : ¬ (((Builtin.Slice.sliceAdjust lo hi st (items.size : Int)).1 == 0 && st == 1 && Builtin.Slice.slicePlaces (Builtin.Slice.sliceAdjust lo hi st (items.size : Int)).1 (Builtin.Slice.sliceAdjust lo hi st (items.size : Int)).2 st == items.size) = true) := by
    intro q
    rw [Bool.and_eq_true, Bool.and_eq_true] at q
    exact h1 (eq_of_beq q.1.2)
  show wpAny _ _ (if ((Builtin.Slice.sliceAdjust lo hi st (items.size : Int)).1 == 0 && st == 1 && Builtin.Slice.slicePlaces (Builtin.Slice.sliceAdjust lo hi st (items.size : Int)).1 (Builtin.Slice.sliceAdjust lo hi st (items.size : Int)).2 st == items.size) = true then _ else _) _ _ s
  rw [if_neg hno]
  have e : ((List.range (Builtin.Slice.slicePlaces (Builtin.Slice.sliceAdjust lo hi st (items.size : Int)).1 (Builtin.Slice.sliceAdjust lo hi st (items.size : Int)).2 st)).filterMap fun (k : Nat) => items[((Builtin.Slice.sliceAdjust lo hi st (items.size : Int)).1 + (k : Int) * st).toNat]?).toArray = (pickT items.toList lo hi st).toArray := by
    unfold pickT
    rw [Array.length_toList]
    simp only [Array.getElem?_toList]
  rw [e]
  first
    | exact wpAny_bind (m := Builtin.Tuple.tupleExact _) (wpAny_newObj_type (wpAny_pure ⟨_, rfl, wpAny_pure h⟩) htake)
    | exact wpAny_bind (m := Builtin.Tuple.tupleExact _) (wpAny_newObj_type (wpAny_bind (wpAny_pure (wpAny_pure ⟨_, rfl, wpAny_pure h⟩))) htake)
    | exact wpAny_bind (wpAny_bind (m := Builtin.Tuple.tupleExact _) (wpAny_newObj_type (wpAny_pure (wpAny_pure ⟨_, rfl, wpAny_pure h⟩)) htake))
    | exact wpAny_bind (wpAny_bind (m := Builtin.Tuple.tupleExact _) (wpAny_newObj_type (wpAny_pure ⟨_, rfl, wpAny_pure h⟩) htake))
end
theorem vals_fm {vs : List V} {us : List Value} (r : Vals vs us) (f : Nat → Nat) : ∀ l : List Nat, Vals (l.filterMap fun k => vs[f k]?) (l.filterMap fun k => us[f k]?)
  | [] => .nil
  | k :: l => by
    rw [List.filterMap_cons, List.filterMap_cons]
    cases e : vs[f k]? with
    | none =>
      have : us[f k]? = none := by
        rw [List.getElem?_eq_none_iff] at e ⊢
        rw [← r.length]; exact e
      rw [this]
      exact vals_fm r f l
    | some x =>
      obtain ⟨u, hu, ru⟩ := r.get e
      rw [hu]
      exact .cons ru (vals_fm r f l)
theorem vals_pick {vs : List V} {us : List Value} (r : Vals vs us) (lo hi : Option Int) (st : Int) : Vals (pickT vs lo hi st) (pickT us lo hi st) := by
  unfold pickT
  rw [r.length]
  exact vals_fm r _ _
section
variable {K : PySem.W.Frag} {fa : Nat → Option Addr} {ρ : List Addr} {H : Hp}
theorem rds_fm {ds : List D} {vs : List V} (r : RDs K fa ρ H ds vs) (f : Nat → Nat) : ∀ l : List Nat, RDs K fa ρ H (l.filterMap fun k => ds[f k]?) (l.filterMap fun k => vs[f k]?)
  | [] => .nil
  | k :: l => by
    rw [List.filterMap_cons, List.filterMap_cons]
    cases e : ds[f k]? with
    | none =>
      have : vs[f k]? = none := by
        rw [List.getElem?_eq_none_iff] at e ⊢
        rw [← r.length]; exact e
      rw [this]
      exact rds_fm r f l
    | some x =>
      obtain ⟨u, hu, ru⟩ := r.get e
      rw [hu]
      exact .cons ru (rds_fm r f l)
theorem rds_pick {ds : List D} {vs : List V} (r : RDs K fa ρ H ds vs) (lo hi : Option Int) (st : Int) : RDs K fa ρ H (pickT ds lo hi st) (pickT vs lo hi st) := by
  unfold pickT
  rw [r.length]
  exact rds_fm r _ _
end
section
variable {X : Cx} {fa : Nat → Option Addr} {xa : Nat → Option (Value × List Str)} {W : WX} {e a b : Expr} {es : List Expr} {φ φa φb : WE} {ψ : WL} {pos p p2 p3 : Pos}
/-- t[lo:hi:st] -/
def tStep (K : PySem.W.Frag) (te : TE) (tl th : TO) (st : Int) : TE := fun σ H Q => te σ H fun x H1 => tl σ H1 fun lo H2 => th σ H2 fun hi H3 => ∃ ad xs, x = .ref ad ∧ SqT K H3 ad xs ∧ (pickT xs lo hi st).length ≤ sizeLine ∧ ∀ p, H3 p = none → Q (.ref p) (upd H3 p (.tup (pickT xs lo hi st)))
theorem pe_step {lo hi : Option Expr} {se : Expr} {tl th : TO} {te : TE} {st : Int} (hst : PO X (some se) (tPart (tC (.int st)))) (h0 : st ≠ 0) (h1 : st ≠ 1) (he : PE X e te) (hl : PO X lo tl) (hh : PO X hi th) :
    PE X (.Subscript e (.Slice lo hi (some se) p3) pos) (tStep X.K te tl th st) := by
  refine ⟨fun pins s σ H Q I h => ?_⟩
  refine Subscript_ (thn (he.run pins s σ H _ I h) fun v s1 ⟨x, H1, I1, r1, q1⟩ => ?_)
  refine wpAny_Slice (thn (hl.run pins s1 σ H1 _ I1 q1) fun vl s2 ⟨l, H2, I2, pl, q2⟩ => ?_)
  refine thn (hh.run pins s2 σ H2 _ I2 q2) fun vu s3 ⟨u, H3, I3, pu, q3⟩ => ?_
  obtain ⟨ad, xs, ex, hx, hz, q⟩ := q3
  subst ex
  cases r1
  refine thn (hst.run pins s3 σ H3 (fun o H4 => o = some st ∧ H4 = H3) I3 ⟨st, rfl, rfl, rfl⟩) fun vs s4 ⟨o, H4, I4, ps, eo, e4⟩ => ?_
  subst eo e4
  have I5 : Inv X pins σ H4 { s4 with heap := s4.heap.push { cls := .type "slice", data := .fields #[vl, vu, vs] } } := I4.kept (t' := s4.toks) fun b ob q => Heap.get?_push_of_some _ q
  obtain ⟨its, r, ht, hzz⟩ := I5.tuple hx
  show wpAny (model X.prog X.w) X.A (subscriptTail e (.Slice lo hi (some se) p3) (.ref ad) (.ref s4.heap.objs.size)) (EP X pins σ Q) X.xe { s4 with heap := s4.heap.push { cls := .type "slice", data := .fields #[vl, vu, vs] } }
  have rp := vals_pick r l u st
  refine tail_any (ops := [.ref ad, .ref s4.heap.objs.size]) ht.typeIs (PyProof.Rows.slot_tuple_getitem.lookup) ?_ (by with_unfolding_all rfl)
  refine getItem_tuple_step ht (Heap.IsSliceOf.new _ vl vu vs) pl pu ps h0 h1 ?_ (by rw [← rp.length]; exact hz)
  refine ⟨.ref _, _, I5.laid (t' := s4.toks) (o := .tup (pickT xs l u st)) (fun b ob q => Heap.get?_push_of_some _ q) (Nat.le_refl _) ⟨hz, _, rp, IsTup.new _ _⟩, rfl, q _ (I5.hok.fresh (Nat.le_refl _))⟩
theorem se_slS {lo hi : Option Expr} {ol oh : Bool} {φl φh : WE} {se : Expr} {st : Int} (hst : PO X (some se) (tPart (tC (.int st)))) (ha : SE X fa xa W a φa) (hl : SP_ X fa xa W lo ol φl) (hh : SP_ X fa xa W hi oh φh) (h01 : st ≠ 0 ∧ st ≠ 1) :
    SE X fa xa W (.Subscript a (.Slice lo hi (some se) p2) pos) fun en h Q E => φa en h (fun x h1 => ifO ol (φl en h1) (fun l h2 => ifO oh (φh en h2) (fun u h3 => PQ (slSop x l u st h3) Q) E h2) E h1) E := by
  refine .of ((pe_step hst h01.1 h01.2 ha.pe (po_all hl) (po_all hh)).wk fun σ H Q ⟨ρ, en, h, Q0, E0, R, N, q, k, kx⟩ => ?_) (fun _ _ => rfl) (fun _ _ _ z => nomatch z) fun _ => rfl
  refine ⟨ρ, en, h, _, E0, R, N, q, fun x h1 v ρ1 H1 e1 R1 rx q1 => ?_, kx⟩
  refine ⟨ρ1, en, h1, _, E0, R1, N.mono e1, q1, fun l h2 ρ2 H2 e2 R2 q2 => ?_, kx.ext e1⟩
  refine ⟨ρ2, en, h2, _, E0, R2, N.mono (e1.trans e2), q2, fun u h3 ρ3 H3 e3 R3 q3 => ?_, kx.ext (e1.trans e2)⟩
  have rx3 := rx.mono (e2.trans e3)
  have k3 := k.ext ((e1.trans e2).trans e3)
  cases rx3 with
  | @tup xs us ad s1 r1 =>
    obtain ⟨c, q3⟩ := ite_PQ (show PQ (if st ≠ 0 ∧ st ≠ 1 ∧ (pickT xs l u st).length ≤ sizeLine then some (D.tup (pickT xs l u st), h3) else none) Q0 from q3)
    have rp := rds_pick r1 l u st
    exact ⟨ad, us, rfl, s1.sq, by rw [← rp.length]; exact c.2.2, k3.tup R3 rp q3⟩
  | _ => exact False.elim q3
/-- the step: a number written -/
def stepB (st : Int) : Expr → Bool
  | .Constant (.int k) _ _ => st == k
  | .UnaryOp .USub (.Constant (.int k) _ _) _ => st == -k
  | _ => false
theorem po_step {st : Int} {se : Expr} (h : stepB st se = true) : PO X (some se) (tPart (tC (.int st))) := by
  unfold stepB at h
  split at h
  · rw [eq_of_beq h]; exact po_some pe_int
  · rw [eq_of_beq h]
    exact (po_some (pe_un un_neg pe_int)).wk fun σ H Q q => by
      obtain ⟨i, e, q⟩ := q
      cases e
      exact ⟨_, rfl, _, rfl, q⟩
  · cases h

/-! ### {}, list(range(..)) -/
theorem se_dict0 : SE X fa xa W (.Dict [] [] pos) fun en h Q E => PQ (biop .dict0 [] h) Q := by
  refine .of (pe_dnewT.wk fun σ H Q ⟨ρ, en, h, Q0, E0, R, N, q, k, kx⟩ => ?_) (fun _ _ => rfl) (fun _ _ _ z => nomatch z) fun _ => rfl
  intro p hp
  have q : Q0 (.ref h.length) (h ++ [.dic []]) := q
  refine k _ _ _ (ρ ++ [p]) _ (Ext.newLst hp) (R.newO (d := .dic []) hp ⟨[], upd_same, rfl, .nil⟩) (.ref ?_) q
  rw [← R.len]
  simp
theorem rgOk_of {a b : Int} (h : rgOk a b = true) : RgOk a b := by
  simp only [rgOk, decide_eq_true_eq, B62_eq, N24_eq] at h
  exact h
theorem rgD_len (a b : Int) : (rgD a b).length = (rgV a b).length := by unfold rgD rgV; simp
theorem rg_rel {K : PySem.W.Frag} {ρ : List Addr} {H : Hp} (a b : Int) : RDs K fa ρ H (rgD a b) (rgV a b) := by
  unfold rgD rgV
  induction List.range (b - a).toNat with
  | nil => exact .nil
  | cons x r ih => exact .cons (.int _) ih
theorem RA.one1 {σ : L2.St} {H : Hp} {φ : WE} {f : D → MH → QV → QX → Prop} {Q : VK} {Rk : V → Hp → Prop} (w : RE X.K fa xa W (fun en h Q E => φ en h (fun x h1 => f x h1 Q E) E) σ H Q)
    (c : ∀ ρ en h H x v Q0 E0, RH X.K fa ρ h H → REn X.K fa ρ H en σ → RD X.K fa ρ H x v → f x h Q0 E0 → Then X.K fa ρ H Q0 Q → Rk v H) : RE X.K fa xa W φ σ H Rk :=
  RE.one (f := fun _ x h1 Q E => f x h1 Q E) w fun ρ en h H x v Q0 E0 R N r q k kx => c ρ en h H x v Q0 E0 R N r q k
theorem ite_PQ2 {c : Prop} [Decidable c] {r : PR} {Q : QV} (h : PQ (if c then r else none) Q) : c ∧ PQ r Q := by
  by_cases hc : c
  · rw [if_pos hc] at h; exact ⟨hc, h⟩
  · rw [if_neg hc] at h; exact False.elim h
/-- list(range(a)), list(range(a, b)), tuple(..) -/
theorem g_lr (f : BI) (hf : f = .listRng1 ∨ f = .listRng2) {ρ : List Addr} {h : MH} {H : Hp} {a b : Int} {Q : VK} {Q0 : QV} (R : RH X.K fa ρ h H) (k : Then X.K fa ρ H Q0 Q) (q : PQ (if rgOk a b = true then newL h (rgD a b) else none) Q0) :
    RgOk a b ∧ ∀ q, H q = none → Q (.ref q) (upd H q (.lst (rgV a b))) := by
  obtain ⟨c, q⟩ := ite_PQ2 q
  exact ⟨rgOk_of c, (k.lst R (rg_rel a b) q).2⟩
theorem g_tr {ρ : List Addr} {h : MH} {H : Hp} {a b : Int} {Q : VK} {Q0 : QV} (R : RH X.K fa ρ h H) (k : Then X.K fa ρ H Q0 Q) (q : PQ (if rgOk a b = true then some (D.tup (rgD a b), h) else none) Q0) :
    RgOk a b ∧ ∀ q, H q = none → Q (.ref q) (upd H q (.tup (rgV a b))) := by
  obtain ⟨c, q⟩ := ite_PQ2 q
  exact ⟨rgOk_of c, k.tup R (rg_rel a b) q⟩
theorem rg1_read {σ : L2.St} {H : Hp} {Q : VK} {f : BI} {Rk : Int → Int → Hp → Prop} (w : RE X.K fa xa W (fun en h Q E => φ en h (fun x h1 => PQ (biop f [x] h1) Q) E) σ H Q)
    (hno : ∀ x h, (∀ n, x ≠ .int n) → biop f [x] h = none) (c : ∀ ρ h H n Q0, RH X.K fa ρ h H → PQ (biop f [.int n] h) Q0 → Then X.K fa ρ H Q0 Q → Rk 0 n H) : tRg1 (RE X.K fa xa W φ) σ H Rk := by
  refine RE.one (f := fun _ x h1 Q _ => PQ (biop f [x] h1) Q) w fun ρ en h H x v Q0 E0 R N r q k kx => ?_
  cases r with
  | int n => exact ⟨n, rfl, c ρ h H n Q0 R q k⟩
  | _ => (rw [hno _ _ (by intro n z; cases z)] at q; exact False.elim q)
theorem rg2_read {σ : L2.St} {H : Hp} {Q : VK} {f : BI} {Rk : Int → Int → Hp → Prop} (w : RE X.K fa xa W (fun en h Q E => φa en h (fun x h1 => φb en h1 (fun y h2 => PQ (biop f [x, y] h2) Q) E) E) σ H Q)
    (hno : ∀ x y h, (∀ n m, ¬ (x = .int n ∧ y = .int m)) → biop f [x, y] h = none) (c : ∀ ρ h H n m Q0, RH X.K fa ρ h H → PQ (biop f [.int n, .int m] h) Q0 → Then X.K fa ρ H Q0 Q → Rk n m H) : tRg2 (RE X.K fa xa W φa) (RE X.K fa xa W φb) σ H Rk := by
  obtain ⟨ρ, en, h, Q0, E0, R, N, q, k, kx⟩ := w
  refine ⟨ρ, en, h, _, E0, R, N, q, fun x h1 v ρ1 H1 e1 R1 r1 q1 => ?_, kx⟩
  refine ⟨ρ1, en, h1, _, E0, R1, N.mono e1, q1, fun y h2 u ρ2 H2 e2 R2 r2 q2 => ?_, kx.ext e1⟩
  have r1' := r1.mono e2
  cases r1' with
  | int n =>
    cases r2 with
    | int m => exact ⟨n, m, rfl, rfl, c ρ2 h2 H2 n m Q0 R2 q2 (k.ext (e1.trans e2))⟩
    | _ => (rw [hno _ _ _ (by intro n m z; cases z.2)] at q2; exact False.elim q2)
  | _ => (rw [hno _ _ _ (by intro n m z; cases z.1)] at q2; exact False.elim q2)
theorem se_lr1 (hc : X.calm = true) (hg : Gl X "list") (hm : X.mg "list" = none) (hg2 : Gl X "range") (hm2 : X.mg "range" = none) (ha : SE X fa xa W a φ) :
    SE X fa xa W (.Call (.Name "list" p) [.Call (.Name "range" p2) [a] [] p3] [] pos) fun en h Q E => φ en h (fun x h1 => PQ (biop .listRng1 [x] h1) Q) E := by
  refine .of ((pe_listRg hc hg hm (prg_1 hg2 hm2 ha.pe (ha.ns _ _)) rfl).wk fun σ H Q w => ?_) (fun _ _ => rfl) (fun _ _ _ z => nomatch z) fun _ => rfl
  exact rg1_read w (fun x h n => by cases x <;> first | rfl | exact absurd rfl (n _)) fun ρ h H n Q0 R q k => g_lr .listRng1 (.inl rfl) R k q
theorem se_tr1 (hc : X.calm = true) (hg : Gl X "tuple") (hm : X.mg "tuple" = none) (hg2 : Gl X "range") (hm2 : X.mg "range" = none) (ha : SE X fa xa W a φ) :
    SE X fa xa W (.Call (.Name "tuple" p) [.Call (.Name "range" p2) [a] [] p3] [] pos) fun en h Q E => φ en h (fun x h1 => PQ (biop .tupRng1 [x] h1) Q) E := by
  refine .of ((pe_tupRg hc hg hm (prg_1 hg2 hm2 ha.pe (ha.ns _ _)) rfl).wk fun σ H Q w => ?_) (fun _ _ => rfl) (fun _ _ _ z => nomatch z) fun _ => rfl
  exact rg1_read w (fun x h n => by cases x <;> first | rfl | exact absurd rfl (n _)) fun ρ h H n Q0 R q k => g_tr R k q
theorem se_lr2 (hc : X.calm = true) (hg : Gl X "list") (hm : X.mg "list" = none) (hg2 : Gl X "range") (hm2 : X.mg "range" = none) (ha : SE X fa xa W a φa) (hb : SE X fa xa W b φb) :
    SE X fa xa W (.Call (.Name "list" p) [.Call (.Name "range" p2) [a, b] [] p3] [] pos) fun en h Q E => φa en h (fun x h1 => φb en h1 (fun y h2 => PQ (biop .listRng2 [x, y] h2) Q) E) E := by
  refine .of ((pe_listRg hc hg hm (prg_2 hg2 hm2 ha.pe hb.pe (ha.ns _ _) (hb.ns _ _) ?_) rfl).wk fun σ H Q w => ?_) (fun _ _ => rfl) (fun _ _ _ z => nomatch z) fun _ => rfl
  · rw [hb.ns]; rfl
  · exact rg2_read w (fun x y h n => by cases x <;> cases y <;> first | rfl | exact absurd ⟨rfl, rfl⟩ (n _ _)) fun ρ h H n m Q0 R q k => g_lr .listRng1 (.inl rfl) R k q
theorem se_tr2 (hc : X.calm = true) (hg : Gl X "tuple") (hm : X.mg "tuple" = none) (hg2 : Gl X "range") (hm2 : X.mg "range" = none) (ha : SE X fa xa W a φa) (hb : SE X fa xa W b φb) :
    SE X fa xa W (.Call (.Name "tuple" p) [.Call (.Name "range" p2) [a, b] [] p3] [] pos) fun en h Q E => φa en h (fun x h1 => φb en h1 (fun y h2 => PQ (biop .tupRng2 [x, y] h2) Q) E) E := by
  refine .of ((pe_tupRg hc hg hm (prg_2 hg2 hm2 ha.pe hb.pe (ha.ns _ _) (hb.ns _ _) ?_) rfl).wk fun σ H Q w => ?_) (fun _ _ => rfl) (fun _ _ _ z => nomatch z) fun _ => rfl
  · rw [hb.ns]; rfl
  · exact rg2_read w (fun x y h n => by cases x <;> cases y <;> first | rfl | exact absurd ⟨rfl, rfl⟩ (n _ _)) fun ρ h H n m Q0 R q k => g_tr R k q
end
end Mp
namespace Mp
open PySem PySem.Spec PyProof.Rows L2
/-! ### each once -/
section
variable {α : Type} [DecidableEq α]
theorem mem_ddup : ∀ {l : List α} {x : α}, x ∈ ddup l ↔ x ∈ l
  | [], _ => Iff.rfl
  | a :: r, x => by
    unfold ddup
    split
    · rename_i h
      rw [mem_ddup, List.mem_cons]
      exact ⟨.inr, fun z => z.elim (fun e => by rw [e]; exact h) id⟩
    · rw [List.mem_cons, List.mem_cons, mem_ddup]
theorem nodup_ddup : ∀ l : List α, (ddup l).Nodup
  | [] => List.nodup_nil
  | a :: r => by
    unfold ddup
    split
    · exact nodup_ddup r
    · rename_i h
      exact List.nodup_cons.mpr ⟨fun z => h (mem_ddup.mp z), nodup_ddup r⟩
theorem ddup_id : ∀ {l : List α}, l.Nodup → ddup l = l
  | [], _ => rfl
  | a :: r, h => by
    obtain ⟨h1, h2⟩ := List.nodup_cons.mp h
    unfold ddup
    rw [if_neg h1, ddup_id h2]
theorem ddup_len : ∀ l : List α, (ddup l).length ≤ l.length
  | [] => Nat.le_refl _
  | a :: r => by
    unfold ddup
    have := ddup_len r
    split
    · simp; omega
    · simp; omega
theorem ddup_lt : ∀ {l : List α}, ¬ l.Nodup → (ddup l).length < l.length
  | [], h => absurd List.nodup_nil h
  | a :: r, h => by
    unfold ddup
    have := ddup_len r
    split
    · simp; omega
    · rename_i z
      have := ddup_lt (l := r) fun n => h (List.nodup_cons.mpr ⟨z, n⟩)
      simp; omega
theorem perm_same : ∀ {l m : List α}, l.Nodup → m.Nodup → (∀ x, x ∈ l ↔ x ∈ m) → l.Perm m
  | [], m, _, _, h => by
    have : m = [] := List.eq_nil_iff_forall_not_mem.mpr fun x hx => List.not_mem_nil ((h x).mpr hx)
    rw [this]
  | a :: l, m, nl, nm, h => by
    obtain ⟨n1, n2⟩ := List.nodup_cons.mp nl
    have ha : a ∈ m := (h a).mp List.mem_cons_self
    refine .trans (.cons a (perm_same n2 (nm.erase a) fun x => ?_)) (List.perm_cons_erase ha).symm
    rw [nm.mem_erase_iff]
    constructor
    · exact fun hx => ⟨fun e => n1 (by rw [← e]; exact hx), (h x).mp (List.mem_cons_of_mem _ hx)⟩
    · rintro ⟨h1, h2⟩
      exact (List.mem_cons.mp ((h x).mpr h2)).resolve_left h1
end
theorem dist_of {ns m : List Int} (nd : m.Nodup) (h : ∀ k, k ∈ m ↔ k ∈ ns) : m.length = distN ns :=
  (perm_same nd (nodup_ddup ns) fun x => (h x).trans mem_ddup.symm).length_eq
/-! ### a set, how many it has -/
def SzO (a : Addr) (n : Nat) : HO := .ext fun h => ∃ o es ep t, h.get? a = some o ∧ o.ExactSet ∧ o.data = .set es ep t ∧ t.fits es.size = true ∧ es.size = n
section
variable {X : Cx} {fa : Nat → Option Addr} {xa : Nat → Option (Value × List Str)} {W : WX}
theorem sz_ok {w : World} {P : Program} {H : Hp} {h : Heap} {a : Addr} {n : Nat} (R : ∃ o es ep t, h.get? a = some o ∧ o.ExactSet ∧ o.data = .set es ep t ∧ t.fits es.size = true ∧ es.size = n) : ObjOk P w H h a (SzO a n) := by
  have ⟨o, _, _, _, ho, _⟩ := R
  exact ⟨R, ⟨o, ho⟩, fun h1 h2 ⟨o1, es, ep, t, e1, r⟩ k => ⟨o1, es, ep, t, k o1 e1, r⟩⟩
def rSetI (K : PySem.W.Frag) : List V → Hp → VK → Prop := fun xs H Q => ∃ (l : Addr) (ns : List Int), xs = [.ref l] ∧ (SqL K H l (ns.map V.int) ∨ SqT K H l (ns.map V.int)) ∧ ns.length ≤ 1000 ∧ ∀ a, H a = none → Q (.ref a) (upd H a (SzO a (distN ns)))
theorem first_nodup (f : Nat → Int) : ∀ n, (PyProof.Rows.firstMet f n).Nodup ∧ ∀ k, k ∈ PyProof.Rows.firstMet f n ↔ ∃ j, j < n ∧ f j = k
  | 0 => ⟨List.nodup_nil, fun k => ⟨fun h => absurd h List.not_mem_nil, fun ⟨j, hj, _⟩ => absurd hj (Nat.not_lt_zero j)⟩⟩
  | n + 1 => by
    obtain ⟨i1, i2⟩ := first_nodup f n
    rw [PyProof.Rows.firstMet_succ]
    have up : ∀ k, (∃ j, j < n + 1 ∧ f j = k) ↔ (∃ j, j < n ∧ f j = k) ∨ f n = k := fun k => by
      constructor
      · rintro ⟨j, hj, e⟩
        by_cases c : j < n
        · exact .inl ⟨j, c, e⟩
        · have : j = n := by omega
          exact .inr (by rw [← this]; exact e)
      · rintro (⟨j, hj, e⟩ | e)
        · exact ⟨j, by omega, e⟩
        · exact ⟨n, by omega, e⟩
    unfold PyProof.Rows.step_dedup
    split
    · rename_i h
      obtain ⟨y, hy, ey⟩ := List.any_eq_true.mp h
      have ey : y = f n := eq_of_beq ey
      refine ⟨i1, fun k => ?_⟩
      rw [up, i2]
      exact ⟨.inl, fun z => z.elim id fun e => by rw [← e, ← ey]; exact (i2 y).mp hy⟩
    · rename_i h
      have hn : f n ∉ PyProof.Rows.firstMet f n := fun z => h (List.any_eq_true.mpr ⟨_, z, beq_self_eq_true _⟩)
      refine ⟨List.nodup_append.mpr ⟨i1, by simp, fun x hx y hy => ?_⟩, fun k => ?_⟩
      · have : y = f n := by simpa using hy
        rw [this]
        rintro rfl
        exact hn hx
      · rw [up, List.mem_append, i2]
        constructor
        · rintro (z | z)
          · exact .inl z
          · exact .inr (List.mem_singleton.mp z).symm
        · rintro (z | z)
          · exact .inl z
          · exact .inr (by simpa using z.symm)
theorem ints_are : ∀ {ns : List Int} {us : List Value}, Vals (ns.map V.int) us → PyProof.Rows.IntsAre us ns
  | [], _, .nil => .nil
  | _ :: _, _, .cons ⟨k, e⟩ t => by
    subst e
    exact .cons _ k (ints_are t)
theorem cr_setI (hc : X.calm = true) : CallR X (.type "set") (rSetI X.K) := by
  intro pins s σ H xs us Q I r ⟨l, ns, e, hs, hz, q⟩
  subst e
  rw [Vals.ref1 r]
  have hn : H s.heap.objs.size = none := I.hok.fresh (Nat.le_refl _)
  rcases hs with hs | hs
  · obtain ⟨its, rv, pl, _⟩ := I.list hs
    have hsz : its.toArray.size = ns.length := by rw [List.size_toArray, ← rv.length, List.length_map]
    refine call_set_list (I.ok.hd hc) pl.isList (ints_are (ns := ns) (by simpa using rv)) (by rw [hsz]; unfold scanBound; omega) fun h' tk hS hk => ?_
    obtain ⟨o, es, ep, t, ho, hex, hd, _, _, _, hf, hc2⟩ := hS
    have k : ∀ b ob, s.heap.get? b = some ob → h'.get? b = some ob := fun b ob e => hk b ob (Heap.lt_size e) e
    obtain ⟨f1, f2⟩ := first_nodup (fun i => ns.getD i 0) ns.length
    have hd2 : (PyProof.Rows.firstMet (fun i => ns.getD i 0) its.toArray.size).length = distN ns := by
      rw [hsz]
      refine dist_of f1 fun x => ?_
      rw [f2]
      constructor
      · rintro ⟨j, hj, e⟩
        rw [List.getD_eq_getElem?_getD, List.getElem?_eq_getElem hj] at e
        rw [← e]
        exact List.getElem_mem hj
      · intro hx
        obtain ⟨j, hj, e⟩ := List.getElem_of_mem hx
        exact ⟨j, hj, by rw [List.getD_eq_getElem?_getD, List.getElem?_eq_getElem hj]; exact e⟩
    exact ⟨.ref s.heap.objs.size, upd H s.heap.objs.size (SzO s.heap.objs.size (distN ns)), I.laid (t' := tk) k (Nat.le_refl _) (sz_ok ⟨o, es, ep, t, ho, hex, hd, hf, hc2.trans hd2⟩), rfl, q _ hn⟩
  · obtain ⟨its, rv, pl, _⟩ := I.tuple hs
    have hsz : its.toArray.size = ns.length := by rw [List.size_toArray, ← rv.length, List.length_map]
    have pl2 : s.heap.IsTuple l its.toArray := pl
    refine call_set_tupI ns (I.ok.hd hc) pl2 (ints_are (ns := ns) (by simpa using rv)) (by unfold scanBound; omega) fun h' tk c R hc2 k => ?_
    obtain ⟨o, es, ep, t, ho, hex, hd, _, nd, hm, _, hf, hc3, _⟩ := R
    have hd2 : es.size = distN ns := by
      have := dist_of (ns := ns) nd fun x => (hm x).symm.trans (by simp)
      rw [← this, List.length_map, Array.length_toList]
    exact ⟨.ref s.heap.objs.size, upd H s.heap.objs.size (SzO s.heap.objs.size (distN ns)), I.laid (t' := tk) k (Nat.le_refl _) (sz_ok ⟨o, es, ep, t, ho, hex, hd, hf, hd2⟩), rfl, q _ hn⟩
def rLenSz : List V → Hp → VK → Prop := fun xs H Q => ∃ (a : Addr) (n : Nat), xs = [.ref a] ∧ H a = some (SzO a n) ∧ n ≤ 1000 ∧ Q (.int n) H
theorem cr_lenSz : CallR X (.builtin "len") rLenSz := by
  intro pins s σ H xs us Q I r ⟨a, n, e, ha, hn, q⟩
  subst e
  rw [Vals.ref1 r]
  obtain ⟨o, es, ep, t, ho, hex, hd, hf, hs⟩ := (I.hok a _ ha).1
  exact call_len_set ho hex hd hf (by rw [hs]; omega) ⟨.int n, H, I.tok _, ⟨_, by rw [hs]⟩, q⟩
/-! ### a built-in of a built-in -/
theorem se_nest {a : Expr} {φ : WE} {x1 x2 : Str} {id1 id2 : String} {f : BI} {p p2 q pos : Pos} {r1 r2 : List V → Hp → VK → Prop} (c1 : CallR X (.builtin id1) r1) (c2 : CallR X (.type id2) r2)
    (gl : ∀ ρ h H x v Q Q0, RH X.K fa ρ h H → RD X.K fa ρ H x v → PQ (biop f [x] h) Q0 → Then X.K fa ρ H Q0 Q → r2 [v] H fun y H2 => r1 [y] H2 Q)
    (hg : Gl X x1) (hm : X.mg x1 = none) (hv : bootBuiltins x1 = some (.builtin id1)) (hn : x1 ≠ "__name__") (hdb : (x1 == ("__debug__" : Str)) = false)
    (hg2 : Gl X x2) (hm2 : X.mg x2 = none) (hv2 : bootBuiltins x2 = some (.type id2)) (hn2 : x2 ≠ "__name__") (hdb2 : (x2 == ("__debug__" : Str)) = false) (ha : SE X fa xa W a φ) :
    SE X fa xa W (.Call (.Name x1 p) [.Call (.Name x2 p2) [a] [] q] [] pos) fun en h Q E => φ en h (fun x h1 => PQ (biop f [x] h1) Q) E := by
  refine .of ((pe_callB c1 hg hm hv (pa_cons (pe_callTy c2 hg2 hm2 hv2 (pa_cons ha.pe pa_nil (ha.ns _ _)) hn2 hdb2 (ha.ns _ _) rfl) pa_nil) hn hdb rfl rfl).wk fun σ H Q w => ?_) (fun _ _ => rfl) (fun _ _ _ z => nomatch z) fun _ => rfl
  exact RE.one (f := fun _ x h1 Q _ => PQ (biop f [x] h1) Q) w fun ρ en h H x v Q0 E0 R N r q k kx => gl ρ h H x v Q Q0 R r q k
theorem gl_lenSet {ρ : List Addr} {h : MH} {H : Hp} {x : D} {v : V} {Q : VK} {Q0 : QV} (R : RH X.K fa ρ h H) (r : RD X.K fa ρ H x v) (q : PQ (biop .lenSet [x] h) Q0) (k : Then X.K fa ρ H Q0 Q) : rSetI X.K [v] H fun y H2 => rLenSz [y] H2 Q := by
  have fin : ∀ ns : List Int, PQ (if ns.length ≤ 1000 then some (D.int (distN ns), h) else none) Q0 → ns.length ≤ 1000 ∧ ∀ a, H a = none → rLenSz [V.ref a] (upd H a (SzO a (distN ns))) Q := fun ns q => by
    obtain ⟨c, q⟩ := ite_PQ2 q
    have hd : distN ns ≤ ns.length := ddup_len ns
    exact ⟨c, fun a ha => ⟨a, _, rfl, upd_same, by omega, (k.ext (Ext.newU ha)).here (R.newU ha) (.int _) q⟩⟩
  cases r with
  | @ref n a ra =>
    have q : PQ (((lstAt h n).bind allInts).bind fun ns => if ns.length ≤ 1000 then some (D.int (distN ns), h) else none) Q0 := q
    rw [PQ_OQ, Option.bind_assoc] at q
    obtain ⟨xs, vs, e, s1, r1, q⟩ := bind_lst R ra q
    cases e2 : allInts xs with
    | none => rw [e2] at q; exact False.elim q
    | some ns =>
      rw [e2] at q
      have z := r1.ints e2
      subst z
      obtain ⟨c, f⟩ := fin ns (by rw [PQ_OQ]; exact q)
      exact ⟨a, ns, rfl, .inl s1, c, f⟩
  | @tup xs vs a s1 r1 =>
    have q : PQ ((allInts xs).bind fun ns => if ns.length ≤ 1000 then some (D.int (distN ns), h) else none) Q0 := q
    cases e2 : allInts xs with
    | none => rw [e2] at q; exact False.elim q
    | some ns =>
      rw [e2] at q
      have z := r1.ints e2
      subst z
      obtain ⟨c, f⟩ := fin ns q
      exact ⟨a, ns, rfl, .inr s1.sq, c, f⟩
  | _ => exact False.elim q
/-! ### rows of whole numbers, each once, rising -/
theorem code_lex {B : Int} : ∀ {a b : List Int}, a.length = b.length → TS.Bd B a → TS.Bd B b → a < b → TS.code B a < TS.code B b
  | [], [], _, _, _, h => absurd h (List.lt_irrefl _)
  | x :: a, y :: b, hl, ha, hb, h => by
    have l2 : a.length = b.length := by simpa using hl
    have a2 := ha.tail
    have b2 := hb.tail
    rcases List.cons_lt_cons_iff.mp h with h1 | ⟨e, h2⟩
    · exact TS.code_lt l2 a2 b2 h1
    · subst e
      exact (TS.code_same l2).mpr (code_lex l2 a2 b2 h2)
theorem code_le {B : Int} {a b : List Int} (hl : a.length = b.length) (ha : TS.Bd B a) (hb : TS.Bd B b) (h : TS.code B a ≤ TS.code B b) : a ≤ b := by
  refine List.not_lt.mp fun z => ?_
  have := code_lex hl.symm hb ha z
  omega
theorem sortU_sorted (rs : List (List Int)) : (sortU rs).Pairwise (· ≤ ·) := by
  have := List.pairwise_mergeSort (le := fun a b : List Int => decide (a ≤ b)) (fun a b c h1 h2 => by simp at *; exact List.le_trans h1 h2) (fun a b => by simp; exact List.le_total a b) (ddup rs)
  exact this.imp fun h => by simpa using h
theorem sortU_perm (rs : List (List Int)) : (sortU rs).Perm (ddup rs) := List.mergeSort_perm _ _
theorem mem_sortU {rs : List (List Int)} {r : List Int} : r ∈ sortU rs ↔ r ∈ rs := (sortU_perm rs).mem_iff.trans mem_ddup
theorem sortU_is {rs ls : List (List Int)} (nd : ls.Nodup) (hs : ls.Pairwise (· ≤ ·)) (hm : ∀ x, x ∈ ls ↔ x ∈ rs) : ls = sortU rs :=
  List.Perm.eq_of_pairwise (le := (· ≤ ·)) (fun x y _ _ h1 h2 => List.le_antisymm h1 h2) hs (sortU_sorted rs) ((perm_same nd (nodup_ddup rs) fun x => (hm x).trans mem_ddup.symm).trans (sortU_perm rs).symm)
theorem rows_rel {ρ : List Addr} {H : Hp} : ∀ {xs : List D} {vs : List V} {rs : List (List Int)}, RDs X.K fa ρ H xs vs → xs.mapM rowD = some rs → ∃ ks : List (Addr × List Int), vs = ks.map (fun p => V.ref p.1) ∧ ks.map (·.2) = rs ∧ ∀ p ∈ ks, TupAt X.K H p.1 (p.2.map V.int)
  | [], _, rs, .nil, h => by
    have : rs = [] := by simpa using h.symm
    subst this
    exact ⟨[], rfl, rfl, fun p hp => absurd hp List.not_mem_nil⟩
  | x :: xs, _, rs, .cons (v := v) (vs := vs) r t, h => by
    rw [List.mapM_cons] at h
    cases e1 : rowD x with
    | none => rw [e1] at h; cases h
    | some z =>
      rw [e1] at h
      cases e2 : xs.mapM rowD with
      | none => rw [e2] at h; cases h
      | some zs =>
        rw [e2] at h
        cases h
        obtain ⟨ks, rfl, e3, e4⟩ := rows_rel t e2
        cases r with
        | @tup ys us a s1 r1 =>
          have e := r1.ints (show allInts ys = some z from e1)
          subst e
          refine ⟨(a, z) :: ks, rfl, by rw [List.map_cons, e3], fun p hp => ?_⟩
          rcases List.mem_cons.mp hp with rfl | hp
          · exact s1
          · exact e4 p hp
        | _ => cases e1
theorem ints_rel {ρ : List Addr} {H : Hp} : ∀ ns : List Int, RDs X.K fa ρ H (ns.map .int) (ns.map V.int)
  | [] => .nil
  | _ :: ns => .cons (.int _) (ints_rel ns)
theorem back_rel {ρ : List Addr} {H : Hp} : ∀ ks : List (Addr × List Int), (∀ p ∈ ks, TupAt X.K H p.1 (p.2.map V.int)) → RDs X.K fa ρ H (ks.map fun p => D.tup (p.2.map .int)) (ks.map fun p => V.ref p.1)
  | [], _ => .nil
  | p :: ks, h => .cons (.tup (h p List.mem_cons_self) (ints_rel _)) (back_rel ks fun q hq => h q (List.mem_cons_of_mem _ hq))
theorem okRows_of {rs : List (List Int)} (h : okRows rs = true) : rs.length < 64 ∧ ∃ d, 1 ≤ d ∧ ∀ r ∈ rs, r.length = d ∧ TS.Bd 1000 r := by
  unfold okRows at h
  obtain ⟨h1, h2⟩ := Bool.and_eq_true_iff.mp h
  refine ⟨of_decide_eq_true h1, ?_⟩
  have h2 := List.all_eq_true.mp h2
  cases rs with
  | nil => exact ⟨1, Nat.le_refl _, fun r hr => absurd hr List.not_mem_nil⟩
  | cons a rs =>
    have ha := h2 a List.mem_cons_self
    simp only [Bool.and_eq_true, decide_eq_true_eq, List.all_eq_true] at ha
    refine ⟨a.length, ha.1.1, fun r hr => ?_⟩
    have hr := h2 r hr
    simp only [Bool.and_eq_true, decide_eq_true_eq, List.all_eq_true] at hr
    exact ⟨hr.1.2, fun m hm => hr.2 m hm⟩
theorem gl_sortSet {ρ : List Addr} {h : MH} {H : Hp} {x : D} {v : V} {Q : VK} {Q0 : QV} (R : RH X.K fa ρ h H) (r : RD X.K fa ρ H x v) (q : PQ (biop .sortSet [x] h) Q0) (k : Then X.K fa ρ H Q0 Q) : rSetOfT X.K X.prog X.w [v] H fun y H2 => rSortedT X.K X.prog X.w [y] H2 Q := by
  cases r with
  | @ref n a ra =>
    have q : PQ ((lstAt h n).bind fun xs => (xs.mapM rowD).bind fun rs => if okRows rs = true then newL h ((sortU rs).map fun r => D.tup (r.map .int)) else none) Q0 := q
    rw [PQ_OQ] at q
    obtain ⟨xs, vs, e, s1, r1, q⟩ := bind_lst R ra q
    cases e2 : xs.mapM rowD with
    | none => rw [e2] at q; exact False.elim q
    | some rs =>
      rw [e2] at q
      obtain ⟨ks, e3, e4, e5⟩ := rows_rel r1 e2
      subst e3 e4
      obtain ⟨c, q⟩ := ite_PQ2 (show PQ (if okRows (ks.map (·.2)) = true then newL h ((sortU (ks.map (·.2))).map fun r => D.tup (r.map .int)) else none) Q0 by rw [PQ_OQ]; exact q)
      obtain ⟨c1, d, c2, c3⟩ := okRows_of c
      rw [List.length_map] at c1
      refine ⟨a, ks, rfl, s1, fun p hp => (e5 p hp).sq, c1, fun b L hb h1 h2 => ?_⟩
      have mo := Ext.newU (K := X.K) (ρ := ρ) (o := SetTO X.prog X.w b L) hb
      have R2 := R.newU (o := SetTO X.prog X.w b L) hb
      have e6 : ∀ p ∈ L, TupAt X.K (upd H b (SetTO X.prog X.w b L)) p.1 (p.2.map V.int) := fun p hp => mo.tup _ _ (e5 p (h1 p hp))
      refine ⟨b, L, d, 1000, rfl, upd_same, fun p hp => (e6 p hp).sq, c2, fun p hp => c3 _ (List.mem_map_of_mem (h1 p hp)), fun L' p pm nd hl pw hp => ?_⟩
      have me : ∀ z, z ∈ L'.map (·.2) ↔ z ∈ ks.map (·.2) := fun z => by
        rw [List.mem_map, List.mem_map]
        constructor
        · rintro ⟨y, hy, rfl⟩
          exact ⟨y, h1 y (pm.mem_iff.mp hy), rfl⟩
        · rintro ⟨y, hy, rfl⟩
          obtain ⟨z, hz, e⟩ := List.mem_map.mp (h2 y hy)
          exact ⟨z, pm.mem_iff.mpr hz, e⟩
      have bd : ∀ y ∈ L', y.2.length = d ∧ TS.Bd 1000 y.2 := fun y hy => c3 _ (List.mem_map_of_mem (h1 y (pm.mem_iff.mp hy)))
      have ps : (L'.map (·.2)).Pairwise (· ≤ ·) := by
        rw [List.pairwise_map]
        refine List.Pairwise.imp_of_mem ?_ pw
        intro y z hy hz hyz
        obtain ⟨b1, b2⟩ := bd y hy
        obtain ⟨b3, b4⟩ := bd z hz
        exact code_le (by rw [b1, b3]) b2 b4 hyz
      have es := sortU_is nd ps me
      rw [← es, List.map_map] at q
      exact ((k.ext mo).lst R2 (back_rel L' fun y hy => e6 y (pm.mem_iff.mp hy)) q).2 p hp
  | _ => exact False.elim q
/-! ### tuple(range(a, b, -1)) -/
def RgO (p : Addr) (a b c : Int) : HO := .ext fun h => ∃ t u v, IsRange h p a b c t u v
def rRg3 : List V → Hp → VK → Prop := fun xs H Q => ∃ a b c : Int, xs = [.int a, .int b, .int c] ∧ c = -1 ∧ RgOk b a ∧ ∀ p, H p = none → Q (.ref p) (upd H p (RgO p a b c))
theorem cr_rg3 : CallR X (.type "range") rRg3 := by
  intro pins s σ H xs us Q I r ⟨a, b, c, e, hc, ⟨o1, o2, o3, o4, o5⟩, q⟩
  subst e hc
  obtain ⟨u1, u2, u3, rfl, ⟨t, e1⟩, ⟨u, e2⟩, ⟨v, e3⟩⟩ : ∃ u1 u2 u3, us = [u1, u2, u3] ∧ RelV (.int a) u1 ∧ RelV (.int b) u2 ∧ RelV (.int (-1)) u3 := by
    cases r with
    | cons x1 r =>
      cases r with
      | cons x2 r =>
        cases r with
        | cons x3 r =>
          cases r
          exact ⟨_, _, _, rfl, x1, x2, x3⟩
  subst e1 e2 e3
  refine call_range_3 (by decide) ⟨.ref s.heap.objs.size, upd H s.heap.objs.size (RgO s.heap.objs.size a b (-1)), I.laid (t' := s.toks) (fun b ob e => Heap.get?_push_of_some _ e) (Nat.le_refl _) ?_, rfl, q _ (I.hok.fresh (Nat.le_refl _))⟩ (.inl ?_)
  · exact ⟨⟨t, u, v, Heap.get?_push_size _ rfl⟩, ⟨_, Heap.get?_push_size _ rfl⟩, fun h1 h2 ⟨t1, u1, v1, e1⟩ k => ⟨t1, u1, v1, k _ e1⟩⟩
  · exact PyProof.noPylong_small (by omega)
theorem size_down (a b : Int) : Builtin.Range.rangeSize a b (-1) = ((a - b).toNat : Nat) := by
  unfold Builtin.Range.rangeSize
  rw [if_neg (by decide), show -(-1 : Int) = 1 from rfl, Int.ediv_one]
  split <;> omega
def rTupRg : List V → Hp → VK → Prop := fun xs H Q => ∃ (r : Addr) (a b : Int), xs = [.ref r] ∧ H r = some (RgO r a b (-1)) ∧ RgOk b a ∧ ∀ p, H p = none → Q (.ref p) (upd H p (.tup ((List.range (a - b).toNat).map fun (i : Nat) => V.int (a - i))))
theorem cr_tupRg3 (hc : X.calm = true) : CallR X (.type "tuple") rTupRg := by
  intro pins s σ H xs us Q I r ⟨rr, a, b, e, hr, ok, q⟩
  subst e
  rw [Vals.ref1 r]
  obtain ⟨t, u, v, hir⟩ := (I.hok rr _ hr).1
  have ok2 := ok
  obtain ⟨b1, b2, b3, b4, b5⟩ := ok
  have sm : Builtin.Range.small a b (-1) = true := by
    unfold Builtin.Range.small
    rw [size_down]
    simp only [Builtin.Range.rangeFitsLong, Bool.and_eq_true, Bool.or_eq_true, decide_eq_true_eq, beq_iff_eq, show ¬ ((-1 : Int) > 0) by decide, if_false]
    have e63 : (2 : Int) ^ 63 = 9223372036854775808 := by decide
    rw [e63]
    refine ⟨⟨⟨⟨⟨by omega, by omega⟩, by omega, by omega⟩, by omega, by omega⟩, by omega, by omega⟩, .inr ⟨by omega, by omega⟩⟩
  refine call_tuple_range (n := (a - b).toNat) (I.ok.hd hc) hir sm (size_down a b) b5 fun h' tk acc hk hi => ?_
  have J : L2.Inv X pins σ H { s with heap := h', toks := tk } := I.kept hk
  have le : acc.toList.length = (a - b).toNat := by rw [Array.length_toList]; exact hi.1
  have rv : Vals ((List.range (a - b).toNat).map fun (i : Nat) => V.int (a - i)) acc.toList := by
    rw [← le]
    refine vals_of_get acc.toList (fun i => V.int (a - (i : Nat))) fun j w e => ?_
    rw [Array.getElem?_toList] at e
    obtain ⟨t2, e2⟩ := hi.2 j w e
    refine ⟨t2, ?_⟩
    rw [e2]
    congr 1
    omega
  exact ⟨.ref h'.objs.size, upd H h'.objs.size (.tup ((List.range (a - b).toNat).map fun (i : Nat) => V.int (a - i))), J.laid (t' := tk) (fun c o e => Heap.get?_push_of_some _ e) (Nat.le_refl _)
    (show ObjOk X.prog X.w _ _ _ (.tup _) from ⟨by rw [List.length_map, List.length_range, sizeLine_eq]; omega, acc.toList, rv, by rw [Array.toArray_toList]; exact IsTup.new _ _⟩), rfl, q _ (J.hok.fresh (Nat.le_refl _))⟩
theorem se_lenSet {a : Expr} {φ : WE} {p p2 q pos : Pos} (hc : X.calm = true) (hg : Gl X "len") (hm : X.mg "len" = none) (hg2 : Gl X "set") (hm2 : X.mg "set" = none) (ha : SE X fa xa W a φ) :
    SE X fa xa W (.Call (.Name "len" p) [.Call (.Name "set" p2) [a] [] q] [] pos) fun en h Q E => φ en h (fun x h1 => PQ (biop .lenSet [x] h1) Q) E :=
  se_nest cr_lenSz (cr_setI hc) (fun ρ h H x v Q Q0 R r q k => gl_lenSet R r q k) hg hm (by decide +kernel) (by decide +kernel) (by decide +kernel) hg2 hm2 (by decide +kernel) (by decide +kernel) (by decide +kernel) ha
theorem se_sortSet {a : Expr} {φ : WE} {p p2 q pos : Pos} (hc : X.calm = true) (hu : X.A.units + 64 < cLine) (hg : Gl X "sorted") (hm : X.mg "sorted" = none) (hg2 : Gl X "set") (hm2 : X.mg "set" = none) (ha : SE X fa xa W a φ) :
    SE X fa xa W (.Call (.Name "sorted" p) [.Call (.Name "set" p2) [a] [] q] [] pos) fun en h Q E => φ en h (fun x h1 => PQ (biop .sortSet [x] h1) Q) E :=
  se_nest (cr_sortedT hc) (cr_setOfT hc hu) (fun ρ h H x v Q Q0 R r q k => gl_sortSet R r q k) hg hm (by decide +kernel) (by decide +kernel) (by decide +kernel) hg2 hm2 (by decide +kernel) (by decide +kernel) (by decide +kernel) ha
theorem down_rel {ρ : List Addr} {H : Hp} (a : Int) : ∀ l : List Nat, RDs X.K fa ρ H (l.map fun (i : Nat) => D.int (a - i)) (l.map fun (i : Nat) => V.int (a - i))
  | [] => .nil
  | _ :: l => .cons (.int _) (down_rel a l)
theorem se_tupRngD {a b : Expr} {φa φb : WE} {p p2 q pos pu pk : Pos} {kk : Nat} (hc : X.calm = true) (hg : Gl X "tuple") (hm : X.mg "tuple" = none) (hg2 : Gl X "range") (hm2 : X.mg "range" = none) (ha : SE X fa xa W a φa) (hb : SE X fa xa W b φb) :
    SE X fa xa W (.Call (.Name "tuple" p) [.Call (.Name "range" p2) [a, b, .UnaryOp .USub (.Constant (.int 1) kk pk) pu] [] q] [] pos) fun en h Q E => φa en h (fun x h1 => φb en h1 (fun y h2 => PQ (biop .tupRngD [x, y] h2) Q) E) E := by
  have pc : PE X (.UnaryOp .USub (.Constant (.int 1) kk pk) pu) (tC (.int (-1))) := (pe_un un_neg pe_int).wk fun σ H Q q => ⟨1, rfl, q⟩
  refine .of ((pe_callTy (cr_tupRg3 hc) hg hm (by decide +kernel) (pa_cons (pe_callTy cr_rg3 hg2 hm2 (by decide +kernel) (pa_cons ha.pe (pa_cons hb.pe (pa_cons pc pa_nil rfl) (hb.ns _ _)) (ha.ns _ _)) (by decide +kernel) (by decide +kernel) (ha.ns _ _) (by rw [hb.ns]; rfl)) pa_nil rfl) (by decide +kernel) (by decide +kernel) rfl rfl).wk fun σ H Q w => ?_) (fun _ _ => rfl) (fun _ _ _ z => nomatch z) fun _ => rfl
  obtain ⟨ρ, en, h, Q0, E0, R, N, q, k, kx⟩ := w
  refine ⟨ρ, en, h, _, E0, R, N, q, fun x h1 v ρ1 H1 e1 R1 r1 q1 => ?_, kx⟩
  refine ⟨ρ1, en, h1, _, E0, R1, N.mono e1, q1, fun y h2 u ρ2 H2 e2 R2 r2 q2 => ?_, kx.ext e1⟩
  have r1' := r1.mono e2
  cases r1' with
  | int n =>
    cases r2 with
    | int m =>
      obtain ⟨c, q3⟩ := ite_PQ2 (show PQ (if rgOk m n = true then some (D.tup ((List.range (n - m).toNat).map fun (i : Nat) => .int (n - i)), h2) else none) Q0 from q2)
      refine ⟨n, m, -1, rfl, rfl, rgOk_of c, fun p hp => ⟨p, n, m, rfl, upd_same, rgOk_of c, ?_⟩⟩
      exact (k.ext ((e1.trans e2).trans (Ext.newU hp))).tup (R2.newU hp) (down_rel n _) q3
    | _ => exact False.elim q2
  | _ => cases y <;> exact False.elim q2
end
end Mp
namespace Mp
open PySem PySem.Spec PyProof.Rows L2

mutual
/-- constants alike -/
def eqC : D → D → Bool
  | .non, .non => true
  | .int i, .int j => decide (i = j)
  | .str x, .str y => decide (x = y)
  | .tupN xs, .tupN ys => eqCs xs ys
  | _, _ => false
def eqCs : List D → List D → Bool
  | [], [] => true
  | x :: xs, y :: ys => eqC x y && eqCs xs ys
  | _, _ => false
end
mutual
theorem eqC_eq : ∀ (x y : D), eqC x y = true → x = y
  | .non, y, h => by cases y <;> first | rfl | (simp [eqC] at h)
  | .int i, y, h => by cases y <;> simp [eqC] at h; rw [h]
  | .str i, y, h => by cases y <;> simp [eqC] at h; rw [h]
  | .tupN xs, y, h => by
    cases y with
    | tupN ys => rw [eqCs_eq xs ys (by simpa [eqC] using h)]
    | _ => simp [eqC] at h
  | .bl _, y, h => by simp [eqC] at h
  | .tup _, y, h => by simp [eqC] at h
  | .ref _, y, h => by simp [eqC] at h
  | .fn _, y, h => by simp [eqC] at h
theorem eqCs_eq : ∀ (x y : List D), eqCs x y = true → x = y
  | [], y, h => by cases y <;> first | rfl | (simp [eqCs] at h)
  | x :: xs, y, h => by
    cases y with
    | nil => simp [eqCs] at h
    | cons y ys =>
      have h : eqC x y = true ∧ eqCs xs ys = true := by simpa [eqCs] using h
      rw [eqC_eq x y h.1, eqCs_eq xs ys h.2]
end
/-- the module's names: functions by number, whole numbers -/
structure Tb where
  fn : Nat → Option Str
  gc : Str → Option Int
  gt : Str → Option D
instance : CoeFun Tb fun _ => Nat → Option Str := ⟨Tb.fn⟩
/-! ### is a small form that of a text -/
def visB (sc : Scope) (x : Str) : Bool := match sc.names.lookup x with
  | some .local => true
  | some .cell => true
  | some .free => true
  | _ => false
def locB (sc : Scope) (x : Str) : Bool := match sc.names.lookup x with
  | some .local => true
  | some .cell => true
  | _ => false
def glB (sc : Scope) (x : Str) : Bool := match sc.names.lookup x with
  | some .globalImplicit => true
  | _ => false
def cstB : D → Const → Bool
  | .non, .none => true
  | .bl a, .bool b => a == b
  | .int a, .int b => a == b
  | .str a, .str b => decide (a = b)
  | _, _ => false
def plainName (x : Str) : Bool := !(x == ("__debug__" : Str)) && !(x == ("__classdict__" : Str))
def call0B : Expr → Bool
  | .Call (.Name _ _) [] [] _ => true
  | _ => false
def sliceB : Expr → Bool
  | .Slice .. => true
  | _ => false
def opB : B2 → Operator → Bool
  | o, p => decide (opOf o = p)
def cmpB : C2 → CmpOp → Bool
  | o, p => decide (cmpOf o = p)
/-- isinstance's two arguments -/
def isiB : List Expr → Option (Expr × Str)
  | [y, .Name ty _] => some (y, ty)
  | _ => none
theorem isiB_of {xs : List Expr} {q : Expr × Str} (h : isiB xs = some q) : ∃ p, xs = [q.1, .Name q.2 p] := by
  unfold isiB at h
  split at h
  · cases h; exact ⟨_, rfl⟩
  · cases h
def isDict0 : BI → Bool
  | .dict0 => true
  | _ => false
def hd1 : List Expr → Option Expr
  | [c] => some c
  | _ => none
theorem hd1_of {xs : List Expr} {c : Expr} (h : hd1 xs = some c) : xs = [c] := by
  unfold hd1 at h
  split at h
  · cases h; rfl
  · cases h
/-- whether a method has no arguments -/
def argB (m : MT) (b : Bool) : Bool := match m with
  | .pop0 => b
  | .reverse => b
  | _ => !b
theorem argB_iff {m : MT} {xs : List Expr} (h : argB m xs.isEmpty = true) : (m = .pop0 ∨ m = .reverse) ↔ xs = [] := by
  cases m with
  | pop0 => exact ⟨fun _ => List.isEmpty_iff.mp h, fun _ => .inl rfl⟩
  | reverse => exact ⟨fun _ => List.isEmpty_iff.mp h, fun _ => .inr rfl⟩
  | _ => exact ⟨(fun z => by rcases z with z | z <;> cases z), (fun z => by subst z; cases h)⟩
/-- a target's names with their places -/
def tgB (N : List Str) (ok : Str → Bool) : List Nat → List Expr → Bool
  | [], [] => true
  | i :: is, .Name x _ :: es => decide (N[i]? = some x) && ok x && tgB N ok is es
  | _, _ => false
def tgtB (N : List Str) (ok : Str → Bool) : TGt → Expr → Bool
  | .name i, .Name x _ => decide (N[i]? = some x) && ok x
  | .tup is, .Tuple es _ _ => tgB N ok is es
  | _, _ => false
def ownOf (N : List Str) (is : List Nat) : List (Str × Nat) := is.map fun i => (N.getD i default, i)
def call1B (nm : Str) (sc : Scope) : Expr → Option Expr
  | .Call (.Name x _) [a] [] _ => if decide (x = nm) && glB sc x then some a else none
  | _ => none
def call2B (nm : Str) (sc : Scope) : Expr → Option (Expr × Expr)
  | .Call (.Name x _) [a, b] [] _ => if decide (x = nm) && glB sc x then some (a, b) else none
  | _ => none
def call3D (sc : Scope) : Expr → Option (Expr × Expr)
  | .Call (.Name x _) [a, b, .UnaryOp .USub (.Constant (.int k) _ _) _] [] _ => if decide (x = ("range" : Str)) && glB sc x && decide (k = 1) then some (a, b) else none
  | _ => none
def tupB : Expr → Bool
  | .Tuple .. => true
  | _ => false
/-- what a for walks: which kind, the parts -/
def iterB (k : IK) (it : Expr) (tg : Expr) (sc : Scope) : Option (List Expr) := match k with
  | .val => some [it]
  | .rng1 => (call1B "range" sc it).map fun a => [a]
  | .rng2 => (call2B "range" sc it).map fun p => [p.1, p.2]
  | .zip => if tupB tg then (call2B "zip" sc it).map fun p => [p.1, p.2] else none
theorem call1_of {nm : Str} {sc : Scope} {it a : Expr} (h : call1B nm sc it = some a) : ∃ p pos, it = .Call (.Name nm p) [a] [] pos ∧ glB sc nm = true := by
  unfold call1B at h
  split at h
  · split at h
    · rename_i c
      simp only [Bool.and_eq_true, decide_eq_true_eq] at c
      obtain ⟨rfl, c⟩ := c
      cases h
      exact ⟨_, _, rfl, c⟩
    · cases h
  · cases h
theorem call2_of {nm : Str} {sc : Scope} {it a b : Expr} (h : call2B nm sc it = some (a, b)) : ∃ p pos, it = .Call (.Name nm p) [a, b] [] pos ∧ glB sc nm = true := by
  unfold call2B at h
  split at h
  · split at h
    · rename_i c
      simp only [Bool.and_eq_true, decide_eq_true_eq] at c
      obtain ⟨rfl, c⟩ := c
      cases h
      exact ⟨_, _, rfl, c⟩
    · cases h
  · cases h
theorem call3_of {sc : Scope} {it a b : Expr} (h : call3D sc it = some (a, b)) : ∃ p pos kk pk pu, it = .Call (.Name "range" p) [a, b, .UnaryOp .USub (.Constant (.int 1) kk pk) pu] [] pos ∧ glB sc "range" = true := by
  unfold call3D at h
  split at h
  · split at h
    · rename_i c
      simp only [Bool.and_eq_true, decide_eq_true_eq] at c
      obtain ⟨⟨rfl, c⟩, rfl⟩ := c
      cases h
      exact ⟨_, _, _, _, _, rfl, c⟩
    · cases h
  · cases h
/-- a small dict's text -/
def dictB : List (Str × Int) → List (Option Expr) → List Expr → Bool
  | [], [], [] => true
  | q :: qs, some (.Constant c _ _) :: ks, .Constant c2 _ _ :: vs => cstB (.str q.1) c && cstB (.int q.2) c2 && dictB qs ks vs
  | _, _, _ => false
section
variable (fnm : Tb) (N : List Str)
mutual
def chkE : Scope → ME → Expr → Bool
  | sc, .var i, .Name x _ => decide (N[i]? = some x) && visB sc x && plainName x
  | _, .cst d, .Constant c _ _ => cstB d c
  | sc, .cst d, .Name x _ => glB sc x && plainName x && (match d with
    | .int i => decide (fnm.gc x = some i)
    | .fn f => decide (fnm f = some x)
    | .tupN xs => (match fnm.gt x with | some e => eqC (.tupN xs) e | none => false)
    | _ => false)
  | sc, .tup es, .Tuple xs _ _ => chkEs sc es xs
  | sc, .lst es, .List xs _ => chkEs sc es xs
  | sc, .bin o a b, .BinOp x p y _ => opB o p && chkE sc a x && chkE sc b y
  | sc, .neg a, .UnaryOp .USub x _ => chkE sc a x
  | sc, .not a, .UnaryOp .Not x _ => chkE sc a x
  | sc, .cmp o a b, .Compare x [p] [y] _ => cmpB o p && chkE sc a x && chkE sc b y
  | sc, .chain o1 o2 a b c, .Compare x [p, q] [y, z] _ => cmpB o1 p && cmpB o2 q && chkE sc a x && chkE sc b y && chkE sc c z
  | sc, .and a b, .BoolOp .And (x :: y :: r) pos => chkE sc a x && (match r with
    | [] => chkE sc b y
    | z :: t => chkE sc b (.BoolOp .And (y :: z :: t) pos))
  | sc, .or a b, .BoolOp .Or (x :: y :: r) pos => chkE sc a x && (match r with
    | [] => chkE sc b y
    | z :: t => chkE sc b (.BoolOp .Or (y :: z :: t) pos))
  | sc, .ite c a b, .IfExp z x y _ => chkE sc c z && chkE sc a x && chkE sc b y
  | sc, .ix a b, .Subscript x y _ => !sliceB y && chkE sc a x && chkE sc b y
  | sc, .sl a lo hi, .Subscript x (.Slice l u none _) _ => chkE sc a x && (match l with
    | none => isOmit lo
    | some e => !isOmit lo && chkE sc lo e) && (match u with
    | none => isOmit hi
    | some e => !isOmit hi && chkE sc hi e)
  | sc, .slS a lo hi st, .Subscript x (.Slice l u (some se) _) _ => stepB st se && decide (st ≠ 0 ∧ st ≠ 1) && chkE sc a x && (match l with
    | none => isOmit lo
    | some e => !isOmit lo && chkE sc lo e) && (match u with
    | none => isOmit hi
    | some e => !isOmit hi && chkE sc hi e)
  | _, .bi f es, .Dict ks vs _ => isDict0 f && es.isEmpty && ks.isEmpty && vs.isEmpty
  | sc, .call f es, .Call (.Name x _) xs [] _ => decide (fnm f = some x) && glB sc x && plainName x && chkEs sc es xs
  | sc, .pick ks a b, .Call (.Attribute (.Dict keys vals _) nm apos) [x, y] [] cpos => decide (nm = "get") && dictB ks keys vals && (apos.endLine == cpos.line) && decide (0 < ks.length) && decide (ks.length ≤ 15) && chkE sc a x && chkE sc b y
  | sc, .callv i es, .Call (.Name x _) xs [] _ => decide (N[i]? = some x) && visB sc x && plainName x && !xs.isEmpty && chkEs sc es xs
  | sc, .bi f es, .Call (.Name x _) xs [] _ => glB sc x && (match f with
    | .isinst t => (match isiB xs with
      | some q => decide (x = ("isinstance" : Str)) && decide (q.2 = Str.ofString (tyOf t)) && glB sc q.2 && chkEs sc es [q.1]
      | none => false)
    | .listRng1 => decide (x = ("list" : Str)) && (match (hd1 xs).bind (call1B "range" sc) with
      | some a => chkEs sc es [a]
      | none => false)
    | .tupRng1 => decide (x = ("tuple" : Str)) && (match (hd1 xs).bind (call1B "range" sc) with
      | some a => chkEs sc es [a]
      | none => false)
    | .listRng2 => decide (x = ("list" : Str)) && (match (hd1 xs).bind (call2B "range" sc) with
      | some q => chkEs sc es [q.1, q.2]
      | none => false)
    | .tupRng2 => decide (x = ("tuple" : Str)) && (match (hd1 xs).bind (call2B "range" sc) with
      | some q => chkEs sc es [q.1, q.2]
      | none => false)
    | .lenSet => decide (x = ("len" : Str)) && (match (hd1 xs).bind (call1B "set" sc) with
      | some a => chkEs sc es [a]
      | none => false)
    | .sortSet => decide (x = ("sorted" : Str)) && (match (hd1 xs).bind (call1B "set" sc) with
      | some a => chkEs sc es [a]
      | none => false)
    | .tupRngD => decide (x = ("tuple" : Str)) && (match (hd1 xs).bind (call3D sc) with
      | some q => chkEs sc es [q.1, q.2]
      | none => false)
    | f => (match biName f with
      | some bv => decide (x = bvStr bv) && decide (0 < xs.length) && chkEs sc es xs
      | none => false))
  | sc, .mt m o es, .Call (.Attribute y nm apos) xs [] cpos => decide (mtName m = some nm) && !call0B y && (apos.endLine == cpos.line) && decide (xs.length < 20) && argB m xs.isEmpty && chkE sc o y && chkEs sc es xs
  | sc, .comp elt tg k its cond, .ListComp e [⟨t, it, ifs, ia⟩] scope _ => decide (ia = 0) && blkC N sc scope (ownOf N tg.slots) && tgtB N (locB scope) tg t && (match iterB k it t sc with
    | some ps => chkEs sc its ps
    | none => false) && chkE (relS scope sc) elt e && (match ifs with
    | [] => isOmit cond
    | [c] => !isOmit cond && chkE (relS scope sc) cond c
    | _ => false)
  | _, _, _ => false
def chkEs : Scope → List ME → List Expr → Bool
  | _, [], [] => true
  | sc, e :: es, x :: xs => chkE sc e x && chkEs sc es xs
  | _, _, _ => false
end
/-- does the comprehension's name lie on its line (then the store is done within) -/
def swapB (sc : Scope) (x : Str) (pos2 : Pos) (e : Expr) : Bool := match e with
  | .ListComp _ _ s p => (match sc.names.lookup x with | some .local => true | _ => false) && (pos2.line == p.line) && !(s.names.any fun (n, k) => n == x && (k == .local || k == .cell))
  | _ => false
mutual
def chkS : Scope → MS → Stmt → Bool
  | sc, .expr e, .Expr x _ => (match x with | .ListComp .. => false | _ => true) && chkE fnm N sc e x
  | sc, .asg i e, .Assign [.Name x _] y _ => decide (N[i]? = some x) && locB sc x && chkE fnm N sc e y
  | sc, .asgT is e, .Assign [.Tuple ts _ _] y _ => tgB N (locB sc) is ts && (match y with | .Tuple .. => false | _ => true) && chkE fnm N sc e y
  | sc, .asgIx o i e, .Assign [.Subscript b c _] y _ => chkE fnm N sc o b && chkE fnm N sc i c && !sliceB c && chkE fnm N sc e y
  | sc, .ifs c a b, .If x ya yb _ => chkE fnm N sc c x && chkSs sc a ya && chkSs sc b yb
  | sc, .for_ tg k its body, .For t it b [] _ => tgtB N (locB sc) tg t && (match iterB k it t sc with
    | some ps => chkEs fnm N sc its ps
    | none => false) && chkSs sc body b
  | sc, .while_ c body, .While x b [] _ => chkE fnm N sc c x && chkSs sc body b
  | sc, .ret e, .Return (some x) _ => chkE fnm N sc e x
  | _, .pass, .Pass _ => true
  | sc, .asgO i a b, .Assign [.Name x _] (.BoolOp .Or [y, z] _) _ => decide (N[i]? = some x) && locB sc x && chkE fnm N sc a y && chkE fnm N sc b z
  | sc, .par i j a b, .Assign [.Tuple [.Name x px, .Name y py] _ _] (.Tuple [u, v] _ _) _ => parB sc x y px py u v && decide (N[i]? = some x) && decide (N[j]? = some y) && chkEs fnm N sc [a, b] [u, v]
  | _, .unr, _ => true
  | _, _, _ => false
def chkSs : Scope → List MS → List Stmt → Bool
  | _, [], [] => true
  | sc, s :: ss, x :: xs => chkS sc s x && chkSs sc ss xs
  | _, _, _ => false
end
end
end Mp
namespace Mp
open PySem PySem.Spec PyProof.Rows L2

structure GX (X : Cx) (fa : Nat → Option Addr) (xa : Nat → Option (Value × List Str)) (fnm : Tb) (N : List Str) (Φ : Phi) (sc : Scope) (W : WX) : Prop where
  N : X.N = N
  nd : X.N.Nodup
  calm : X.calm = true
  sc : X.env.scope = sc
  gd : X.A.guards = some []
  un : X.A.units + 68 < cLine
  bn : ∀ x ∈ BNames, X.mg x = none
  calls : ∀ f x, fnm f = some x → CallOk X fa xa Φ f x
  tk : Takes X W
  gc : ∀ x i, fnm.gc x = some i → ∃ t, X.mg x = some (.int i t)
  hfa : ∀ f a, fa f = some a → ∃ y, fnm f = some y
  gt : ∀ x d, fnm.gt x = some d → ∃ a, X.mg x = some (.ref a) ∧ KT X.K d (.ref a)
section
variable {X : Cx} {fa : Nat → Option Addr} {xa : Nat → Option (Value × List Str)} {fnm : Tb} {N : List Str} {Φ : Phi} {sc : Scope} {W : WX}
theorem GX.vis (G : GX X fa xa fnm N Φ sc W) {x : Str} (h : visB sc x = true) : Vis X.env.scope x := by
  rw [G.sc]
  unfold visB at h
  unfold Vis
  split at h
  · exact .inl (by assumption)
  · exact .inr (.inl (by assumption))
  · exact .inr (.inr (by assumption))
  · cases h
theorem GX.loc (G : GX X fa xa fnm N Φ sc W) {x : Str} (h : locB sc x = true) : L2.Loc X.env.scope x := by
  rw [G.sc]
  unfold locB at h
  unfold L2.Loc
  split at h
  · exact .inl (by assumption)
  · exact .inr (by assumption)
  · cases h
theorem GX.gl (G : GX X fa xa fnm N Φ sc W) {x : Str} (h : glB sc x = true) : Gl X x := by
  unfold Gl Env.kindOf
  rw [G.sc]
  unfold glB at h
  split at h
  · assumption
  · cases h
theorem GX.blk (G : GX X fa xa fnm N Φ sc W) (s : Shared) (H : Hp) (scope : Scope) (cl : List (Str × Addr)) (C : Addr) (fp : List Addr) : GX (X.blk s H scope (compEnvC scope cl C X.env) fp) fa xa fnm N Φ (relS scope sc) W0 :=
  ⟨G.N, G.nd, G.calm, by rw [← G.sc]; rfl, G.gd, G.un, G.bn, fun f x e => ⟨(G.calls f x e).ex⟩, fun u s' ⟨_, _, _, _, _, _, _, _, _, _, _, _, _, _, _, _, z⟩ => z.elim, G.gc, G.hfa, G.gt⟩
theorem plain_of {x : Str} (h : plainName x = true) : (x == ("__debug__" : Str)) = false ∧ (x == ("__classdict__" : Str)) = false := by
  unfold plainName at h
  simpa using h
theorem call0_of {e : Expr} (h : call0B e = false) : NoCall0 e := fun x p q z => by
  subst z
  cases h
theorem slice_of {e : Expr} (h : sliceB e = false) : ∀ l u s p, e ≠ .Slice l u s p := fun l u s p z => by
  subst z
  cases h
theorem chk_set {m : ME} {es : List Expr} {k : Nat} {q : Pos} (h : chkE fnm N sc m (.Set es k q) = true) : False := by
  cases m <;> exact absurd (show false = true from h) Bool.false_ne_true
theorem no_set {m : ME} {e : Expr} (h : chkE fnm N sc m e = true) : ∀ es k q, e ≠ .Set es k q := fun es k q z => by
  subst z
  exact chk_set h
theorem no_slice {m : ME} {e : Expr} (h : chkE fnm N sc m e = true) : ∀ l u s p, e ≠ .Slice l u s p := fun l u s p z => by
  subst z
  cases m <;> exact absurd (show false = true from h) Bool.false_ne_true
/-- all parts plain: the stars -/
theorem SA.tail {e : Expr} {es : List Expr} {ψ : WL} (S : SA X fa xa W (e :: es) ψ) (h : ∀ env, starEach (e :: es) env = (false, eval e env) :: starEach es env) (pos : Pos) (env : Env) : (backTo pos (starEach es env)).any (·.1) = false := by
  have := S.pl pos env
  rw [h] at this
  exact (Bool.or_eq_false_iff.mp (show (false || (backTo pos (starEach es env)).any (·.1)) = false from this)).2
theorem own_snd (is : List Nat) : (ownOf N is).map (·.2) = is := by
  unfold ownOf
  rw [List.map_map]
  exact List.map_id'' (fun _ => rfl) is
theorem tg_ok {is : List Nat} : ∀ {is : List Nat} {es : List Expr} {ok : Str → Bool}, tgB N ok is es = true → X.N = N → X.N.Nodup → (∀ x, ok x = true → L2.Loc X.env.scope x ∧ (X.fn x = true ∨ X.env.scope.names.lookup x = some .local)) → ∃ g, SGs X fa es is g
  | [], [], _, _, _, _, _ => ⟨_, sgs_nil⟩
  | [], _ :: _, _, h, _, _, _ => nomatch h
  | _ :: _, [], _, h, _, _, _ => nomatch h
  | i :: is, e :: es, ok, h, hN, nd, hok => by
    cases e with
    | Name x p =>
      simp only [tgB, Bool.and_eq_true, decide_eq_true_eq] at h
      obtain ⟨⟨h1, h2⟩, h3⟩ := h
      obtain ⟨g, S⟩ := tg_ok (is := []) h3 hN nd hok
      obtain ⟨l, f⟩ := hok x h2
      exact ⟨_, sgs_cons nd (by rw [hN]; exact h1) l f S⟩
    | _ => exact absurd (show false = true from h) Bool.false_ne_true
theorem tgt_ok {t : TGt} {e : Expr} {ok : Str → Bool} (h : tgtB N ok t e = true) (hN : X.N = N) (nd : X.N.Nodup) (hc : X.calm = true) (hok : ∀ x, ok x = true → L2.Loc X.env.scope x ∧ (X.fn x = true ∨ X.env.scope.names.lookup x = some .local)) : ∃ g, SG X fa e t g := by
  cases t with
  | name i =>
    cases e with
    | Name x p =>
      simp only [tgtB, Bool.and_eq_true, decide_eq_true_eq] at h
      obtain ⟨l, f⟩ := hok x h.2
      exact ⟨_, sg_name nd (by rw [hN]; exact h.1) l f⟩
    | _ => exact absurd (show false = true from h) Bool.false_ne_true
  | tup is =>
    cases e with
    | Tuple es k p =>
      obtain ⟨g, S⟩ := tg_ok (is := []) (show tgB N ok is es = true from h) hN nd hok
      exact ⟨_, sg_tup hc S⟩
    | _ => exact absurd (show false = true from h) Bool.false_ne_true

/-- parts in a row, and the one alone -/
structure SA2 (X : Cx) (fa : Nat → Option Addr) (xa : Nat → Option (Value × List Str)) (W : WX) (Φ : Phi) (ms : List ME) (es : List Expr) : Prop where
  sa : SA X fa xa W es (wEs Φ ms)
  one : ∀ m e, ms = [m] → es = [e] → SE X fa xa W e (wE Φ m)
  st : ∀ e r, es = e :: r → ∀ env, starEach (e :: r) env = (false, eval e env) :: starEach r env
  len : ms.length = es.length
  two : ∀ a b, es = [a, b] → ∀ env, starEach [a, b] env = [(false, eval a env), (false, eval b env)] ∧ starEach [b] env = [(false, eval b env)]
theorem iter_ok (G : GX X fa xa fnm N Φ sc W) {k : IK} {it tg : Expr} {its : List ME} {ps : List Expr} (h : iterB k it tg sc = some ps) (S : SA2 X fa xa W Φ its ps) : PI X tg it (RI X.K fa xa W k (wEs Φ its)) := by
  cases k with
  | val =>
    cases h
    have hl := S.len
    match its, hl with
    | [m], _ =>
      have z := si_val (tg := tg) (S.one m it rfl rfl)
      have e : (wEs Φ [m] : WL) = fun en h Q E => wE Φ m en h (fun x h1 => Q [x] h1) E := by
        funext en h Q E
        rw [wEs]
        simp only [wEs]
      rw [e]
      exact z
  | rng1 =>
    obtain ⟨a, h1, rfl⟩ := Option.map_eq_some_iff.mp (show (call1B "range" sc it).map (fun a => [a]) = some ps from h)
    obtain ⟨p, pos, rfl, c⟩ := call1_of h1
    exact si_rng1 (G.gl c) (G.bn _ (by decide +kernel)) S.sa (by rw [S.st _ _ rfl]; rfl)
  | rng2 =>
    obtain ⟨⟨a, b⟩, h1, rfl⟩ := Option.map_eq_some_iff.mp (show (call2B "range" sc it).map (fun p => [p.1, p.2]) = some ps from h)
    obtain ⟨p, pos, rfl, c⟩ := call2_of h1
    exact si_rng2 (G.gl c) (G.bn _ (by decide +kernel)) S.sa (S.two _ _ rfl _).1 (S.two _ _ rfl _).2
  | zip =>
    have h : (if tupB tg then (call2B "zip" sc it).map (fun p => [p.1, p.2]) else none) = some ps := h
    split at h
    · rename_i ht
      obtain ⟨⟨a, b⟩, h1, rfl⟩ := Option.map_eq_some_iff.mp h
      obtain ⟨p, pos, rfl, c⟩ := call2_of h1
      cases tg with
      | Tuple es kk tp => exact si_zip (G.gl c) (G.bn _ (by decide +kernel)) S.sa (S.st _ _ rfl _) (S.sa.tail (S.st _ _ rfl) _ _)
      | _ => cases ht
    · cases h
theorem iter_fold (G : GX X fa xa fnm N Φ sc W) {k : IK} {it tg : Expr} {ps : List Expr} {its : List ME} (h : iterB k it tg sc = some ps) (hc : chkEs fnm N sc its ps = true) : ∀ x, foldedSetIterable it X.env x = pure x := by
  intro x
  cases it with
  | Set es kk q =>
    exfalso
    cases k with
    | val =>
      cases h
      cases its with
      | nil => exact absurd (show false = true from hc) Bool.false_ne_true
      | cons m ms =>
        have hc : (chkE fnm N sc m (.Set es kk q) && chkEs fnm N sc ms []) = true := hc
        exact chk_set (Bool.and_eq_true_iff.mp hc).1
    | rng1 => cases h
    | rng2 => cases h
    | zip =>
      have h : (if tupB tg then (call2B "zip" sc (.Set es kk q)).map (fun p => [p.1, p.2]) else none) = some ps := h
      split at h <;> cases h
  | _ => rfl
end
end Mp
namespace Mp
open PySem PySem.Spec PyProof.Rows L2

section
variable {fa : Nat → Option Addr} {xa : Nat → Option (Value × List Str)} {fnm : Tb} {N : List Str} {Φ : Phi}
theorem and2 {a b : Bool} (h : (a && b) = true) : a = true ∧ b = true := Bool.and_eq_true_iff.mp h
theorem opB_of {o : B2} {p : Operator} (h : opB o p = true) : p = opOf o := (of_decide_eq_true h).symm
theorem cmpB_of {o : C2} {p : CmpOp} (h : cmpB o p = true) : p = cmpOf o := (of_decide_eq_true h).symm
theorem rd_cst {X : Cx} {d : D} {c : Const} {j : Nat} {pos : Pos} (h : cstB d c = true) : ∃ v, PE X (.Constant c j pos) (tC v) ∧ ∀ ρ H, RD X.K fa ρ H d v := by
  cases d with
  | non => cases c <;> first | exact ⟨_, pe_non, fun _ _ => .non⟩ | cases h
  | bl b =>
    cases c with
    | bool b2 =>
      have e : b = b2 := eq_of_beq h
      subst e
      exact ⟨_, pe_bl, fun _ _ => .bl _⟩
    | _ => cases h
  | int i =>
    cases c with
    | int b2 =>
      have e : i = b2 := eq_of_beq h
      subst e
      exact ⟨_, pe_int, fun _ _ => .int _⟩
    | _ => cases h
  | str s =>
    cases c with
    | str b2 =>
      have e : s = b2 := of_decide_eq_true h
      subst e
      exact ⟨_, pe_str, fun _ _ => .str _⟩
    | _ => cases h
  | _ => cases c <;> cases h
theorem blk_ok {sc scope : Scope} {X : Cx} {W : WX} (G : GX X fa xa fnm N Φ sc W) {t : TGt} (h : blkC N sc scope (ownOf N t.slots) = true) : BlkOk X.N X.env.scope scope (ownOf N t.slots) := by
  rw [G.N, G.sc]
  exact blkOk_by h
theorem loc_blk {sc scope : Scope} {X : Cx} {W : WX} (G : GX X fa xa fnm N Φ sc W) (s : Shared) (H : Hp) (C : Addr) (cl : List (Str × Addr)) (fp : List Addr) {x : Str} (h : locB scope x = true) :
    L2.Loc (X.blk s H scope (compEnvC scope cl C X.env) fp).env.scope x ∧ ((X.blk s H scope (compEnvC scope cl C X.env) fp).fn x = true ∨ (X.blk s H scope (compEnvC scope cl C X.env) fp).env.scope.names.lookup x = some .local) := by
  unfold locB at h
  split at h
  · rename_i e
    have k : (relS scope X.env.scope).names.lookup x = some .local := lookup_relS_keep (by decide) e
    exact ⟨.inl k, .inr k⟩
  · rename_i e
    have k : (relS scope X.env.scope).names.lookup x = some .cell := lookup_relS_keep (by decide) e
    refine ⟨.inr k, .inl ?_⟩
    show (scope.names.lookup x == some NameKind.cell) = true
    rw [e]
    rfl
  · cases h
theorem tgs_blk {sc scope : Scope} {X : Cx} {W : WX} (G : GX X fa xa fnm N Φ sc W) : ∀ {is : List Nat} {es : List Expr}, tgB N (locB scope) is es = true → ∃ g, ∀ (s : Shared) (H : Hp) (C : Addr) (cl : List (Str × Addr)) (fp : List Addr), SGs (X.blk s H scope (compEnvC scope cl C X.env) fp) fa es is g
  | [], [], _ => ⟨_, fun _ _ _ _ _ => sgs_nil⟩
  | [], _ :: _, h => nomatch h
  | _ :: _, [], h => nomatch h
  | i :: is, e :: es, h => by
    cases e with
    | Name x p =>
      simp only [tgB, Bool.and_eq_true, decide_eq_true_eq] at h
      obtain ⟨⟨h1, h2⟩, h3⟩ := h
      obtain ⟨g, S⟩ := tgs_blk G h3
      refine ⟨gCons (gName i) g, fun s H C cl fp => ?_⟩
      obtain ⟨l, f⟩ := loc_blk G s H C cl fp h2
      exact sgs_cons G.nd (by show X.N[i]? = some x; rw [G.N]; exact h1) l f (S s H C cl fp)
    | _ => exact absurd (show false = true from h) Bool.false_ne_true
theorem tgt_blk {sc scope : Scope} {X : Cx} {W : WX} (G : GX X fa xa fnm N Φ sc W) {tg : TGt} {t : Expr} (h : tgtB N (locB scope) tg t = true) : ∃ g, ∀ (s : Shared) (H : Hp) (C : Addr) (cl : List (Str × Addr)) (fp : List Addr), SG (X.blk s H scope (compEnvC scope cl C X.env) fp) fa t tg g := by
  cases tg with
  | name i =>
    cases t with
    | Name x p =>
      simp only [tgtB, Bool.and_eq_true, decide_eq_true_eq] at h
      refine ⟨gName i, fun s H C cl fp => ?_⟩
      obtain ⟨l, f⟩ := loc_blk G s H C cl fp h.2
      exact sg_name G.nd (by show X.N[i]? = some x; rw [G.N]; exact h.1) l f
    | _ => exact absurd (show false = true from h) Bool.false_ne_true
  | tup is =>
    cases t with
    | Tuple es k p =>
      obtain ⟨g, S⟩ := tgs_blk G (show tgB N (locB scope) is es = true from h)
      exact ⟨gTup X.K is.length g, fun s H C cl fp => sg_tup (X := X.blk s H scope (compEnvC scope cl C X.env) fp) G.calm (S s H C cl fp)⟩
    | _ => exact absurd (show false = true from h) Bool.false_ne_true
theorem cmpOk {elt : ME} {tg : TGt} {k : IK} {its : List ME} {cond : ME} {X : Cx} {sc : Scope} {W : WX} {el t it : Expr} {ifs : List Expr} {scope : Scope} (G : GX X fa xa fnm N Φ sc W) (h2 : blkC N sc scope (ownOf N tg.slots) = true) (h3 : tgtB N (locB scope) tg t = true)
    (h4 : (match iterB k it t sc with | some ps => chkEs fnm N sc its ps | none => false) = true) (h5 : chkE fnm N (relS scope sc) elt el = true) (h6 : (match ifs with | [] => isOmit cond | [c] => !isOmit cond && chkE fnm N (relS scope sc) cond c | _ => false) = true)
    (hS : ∀ ps, chkEs fnm N sc its ps = true → SA2 X fa xa W Φ its ps) (hE : ∀ (Y : Cx) (sc2 : Scope), GX Y fa xa fnm N Φ sc2 W0 → chkE fnm N sc2 elt el = true → SE Y fa xa W0 el (wE Φ elt))
    (hC : ∀ (Y : Cx) (sc2 : Scope) (c : Expr), GX Y fa xa fnm N Φ sc2 W0 → chkE fnm N sc2 cond c = true → SE Y fa xa W0 c (wE Φ cond)) :
    ∃ g, CompOk X fa xa W el t it ifs scope (wEs Φ its) k tg (isOmit cond) (wE Φ cond) (wE Φ elt) (ownOf N tg.slots) g := by
  cases hi : iterB k it t sc with
  | none => rw [hi] at h4; cases h4
  | some ps =>
    rw [hi] at h4
    obtain ⟨g, hg⟩ := tgt_blk G h3
    refine ⟨g, G.calm, G.nd, iter_ok G hi (hS ps h4), blk_ok G h2, own_snd _, hg, fun s H C cl fp => ?_, fun s H C cl fp => (hE _ _ (G.blk s H scope cl C fp) h5).pe, iter_fold G hi h4⟩
    unfold tIfs
    match ifs, h6 with
    | [], h6 =>
      rw [if_pos (show isOmit cond = true from h6)]
      exact pts_nil
    | [c], h6 =>
      obtain ⟨h7, h8⟩ := and2 (show (!isOmit cond && chkE fnm N (relS scope sc) cond c) = true from h6)
      rw [if_neg (by simpa using h7)]
      exact pts_one (hC _ _ c (G.blk s H scope cl C fp) h8).pt
theorem dict_parts {X : Cx} {p : Pos} : ∀ (ks : List (Str × Int)) (keys : List (Option Expr)) (vals : List Expr), dictB ks keys vals = true →
    ∃ trs, PPs X p keys vals trs ∧ (∀ (σ : L2.St) (H : Hp) (Q : List (V × V) → Hp → Prop), Q (ks.map fun q => (V.str q.1, V.int q.2)) H → tPairs trs σ H Q) ∧ keys.all (·.isSome) = true ∧ keys.length = vals.length ∧ keys.length = ks.length
  | [], [], [], _ => ⟨[], pps_nil, fun _ _ _ q => q, rfl, rfl, rfl⟩
  | q :: qs, some (.Constant c i p1) :: ks, .Constant c2 j p2 :: vs, h => by
    obtain ⟨h12, h3⟩ := and2 (show (cstB (.str q.1) c && cstB (.int q.2) c2 && dictB qs ks vs) = true from h)
    obtain ⟨h1, h2⟩ := and2 h12
    obtain ⟨trs, P, t, d1, d2, d3⟩ := dict_parts qs ks vs h3
    obtain ⟨v, pv, rv⟩ := rd_cst (X := X) (fa := fun _ => none) (j := i) (pos := p1) h1
    obtain ⟨w, pw, rw_⟩ := rd_cst (X := X) (fa := fun _ => none) (j := j) (pos := p2) h2
    have ev : v = .str q.1 := by have := rv [] (fun _ => none); cases this; rfl
    have ew : w = .int q.2 := by have := rw_ [] (fun _ => none); cases this; rfl
    subst ev ew
    exact ⟨(tC (.str q.1), tC (.int q.2)) :: trs, pps_cons pv pw P, fun σ H Q z => t σ H _ z, by simpa using d1, by simp [d2], by simp [d3]⟩
mutual
theorem sndE : ∀ (m : ME) {X : Cx} {sc : Scope} {W : WX} (e : Expr), GX X fa xa fnm N Φ sc W → chkE fnm N sc m e = true → SE X fa xa W e (wE Φ m)
  | .omit, X, sc, W, e, G, h => by exact absurd (show false = true from h) Bool.false_ne_true
  | .var i, X, sc, W, e, G, h => by
    cases e with
    | Name x p =>
      obtain ⟨h12, h3⟩ := and2 (show (decide (N[i]? = some x) && visB sc x && plainName x) = true from h)
      obtain ⟨h1, h2⟩ := and2 h12
      have e : (wE Φ (.var i) : WE) = fun en h Q _ => OQ (en[i]?.join) fun d => Q d h := by funext en h Q E; rw [wE]
      rw [e]
      exact se_var (by rw [G.N]; exact of_decide_eq_true h1) (G.vis h2) (plain_of h3).1 (plain_of h3).2
    | _ => exact absurd (show false = true from h) Bool.false_ne_true
  | .cst d, X, sc, W, e, G, h => by
    cases e with
    | Constant c j p =>
      obtain ⟨v, pe, r⟩ := rd_cst (X := X) (fa := fa) (j := j) (pos := p) (show cstB d c = true from h)
      have e : (wE Φ (.cst d) : WE) = fun _ h Q _ => Q d h := by funext en h Q E; rw [wE]
      rw [e]
      exact se_con pe r
    | Name x p =>
      obtain ⟨h12, h3⟩ := and2 (show (glB sc x && plainName x && (match (generalizing := false) d with | .int i => decide (fnm.gc x = some i) | .fn f => decide (fnm f = some x) | .tupN xs => (match (generalizing := false) fnm.gt x with | some e => eqC (.tupN xs) e | none => false) | _ => false)) = true from h)
      obtain ⟨h1, h2⟩ := and2 h12
      have e : (wE Φ (.cst d) : WE) = fun _ h Q _ => Q d h := by funext en h Q E; rw [wE]
      rw [e]
      cases d with
      | int i =>
        obtain ⟨t, hm⟩ := G.gc x i (of_decide_eq_true h3)
        exact se_con0 (pe_glob (v := .int i) (G.gl h1) hm ⟨t, rfl⟩ (plain_of h2).1) fun _ _ => .int i
      | fn f =>
        have C := G.calls f x (of_decide_eq_true h3)
        obtain ⟨k, ad, fd, ps, hm, hfa, _⟩ := C.ex
        exact se_con0 (pe_glob (v := .ref ad) (G.gl h1) hm rfl (plain_of h2).1) fun _ _ => .fn hfa
      | tupN xs =>
        have h3 : (match (generalizing := false) fnm.gt x with | some e => eqC (.tupN xs) e | none => false) = true := h3
        cases e2 : fnm.gt x with
        | none => rw [e2] at h3; cases h3
        | some e =>
          rw [e2] at h3
          have := eqC_eq _ _ h3
          subst this
          obtain ⟨ad, hm, kt⟩ := G.gt x _ e2
          exact se_con0 (pe_glob (v := .ref ad) (G.gl h1) hm rfl (plain_of h2).1) fun _ _ => KT.rd _ _ kt
      | _ => cases h3
    | _ => exact absurd (show false = true from h) Bool.false_ne_true
  | .tup es, X, sc, W, e, G, h => by
    cases e with
    | Tuple xs j p =>
      have S := sndEs es xs G (show chkEs fnm N sc es xs = true from h)
      have e : (wE Φ (.tup es) : WE) = fun en h Q E => wEs Φ es en h (fun ds h1 => ds.length ≤ sizeLine ∧ Q (.tup ds) h1) E := by funext en h Q E; rw [wE]
      rw [e]
      exact se_tup S.sa
    | _ => exact absurd (show false = true from h) Bool.false_ne_true
  | .lst es, X, sc, W, e, G, h => by
    cases e with
    | List xs p =>
      have S := sndEs es xs G (show chkEs fnm N sc es xs = true from h)
      have e : (wE Φ (.lst es) : WE) = fun en h Q E => wEs Φ es en h (fun ds h1 => PQ (newL h1 ds) Q) E := by funext en h Q E; rw [wE]
      rw [e]
      exact se_lst S.sa
    | _ => exact absurd (show false = true from h) Bool.false_ne_true
  | .bin o a b, X, sc, W, e, G, h => by
    cases e with
    | BinOp x p y ps =>
      obtain ⟨h12, h3⟩ := and2 (show (opB o p && chkE fnm N sc a x && chkE fnm N sc b y) = true from h)
      obtain ⟨h1, h2⟩ := and2 h12
      have e1 := opB_of h1
      subst e1
      have e : (wE Φ (.bin o a b) : WE) = fun en h Q E => wE Φ a en h (fun x h1 => wE Φ b en h1 (fun y h2 => PQ (binop o x y h2) Q) E) E := by funext en h Q E; rw [wE]
      rw [e]
      exact se_bin (sndE a x G h2) (sndE b y G h3) o
    | _ => exact absurd (show false = true from h) Bool.false_ne_true
  | .neg a, X, sc, W, e, G, h => by
    cases e with
    | UnaryOp p x ps =>
      cases p with
      | USub =>
        have e : (wE Φ (.neg a) : WE) = fun en h Q E => wE Φ a en h (fun x h1 => OQ (asInt x) fun i => Q (.int (-i)) h1) E := by funext en h Q E; rw [wE]
        rw [e]
        exact se_neg (sndE a x G h)
      | _ => exact absurd (show false = true from h) Bool.false_ne_true
    | _ => exact absurd (show false = true from h) Bool.false_ne_true
  | .not a, X, sc, W, e, G, h => by
    cases e with
    | UnaryOp p x ps =>
      cases p with
      | Not =>
        have e : (wE Φ (.not a) : WE) = fun en h Q E => wE Φ a en h (fun x h1 => OQ (asBl x) fun b => Q (.bl (!b)) h1) E := by funext en h Q E; rw [wE]
        rw [e]
        exact se_not (sndE a x G h)
      | _ => exact absurd (show false = true from h) Bool.false_ne_true
    | _ => exact absurd (show false = true from h) Bool.false_ne_true
  | .cmp o a b, X, sc, W, e, G, h => by
    cases e with
    | Compare x ps ys pos =>
      match ps, ys, h with
      | [p], [y], h =>
        obtain ⟨h12, h3⟩ := and2 (show (cmpB o p && chkE fnm N sc a x && chkE fnm N sc b y) = true from h)
        obtain ⟨h1, h2⟩ := and2 h12
        have e1 := cmpB_of h1
        subst e1
        have e : (wE Φ (.cmp o a b) : WE) = fun en h Q E => wE Φ a en h (fun x h1 => wE Φ b en h1 (fun y h2 => OQ (cmpop o x y h2) fun b => Q (.bl b) h2) E) E := by funext en h Q E; rw [wE]
        rw [e]
        exact se_cmp (by have := G.un; omega) (sndE a x G h2) (sndE b y G h3) o (no_set h3)
    | _ => exact absurd (show false = true from h) Bool.false_ne_true
  | .chain o1 o2 a b c, X, sc, W, e, G, h => by
    cases e with
    | Compare x ps ys pos =>
      match ps, ys, h with
      | [p, q], [y, z], h =>
        obtain ⟨h1234, h5⟩ := and2 (show (cmpB o1 p && cmpB o2 q && chkE fnm N sc a x && chkE fnm N sc b y && chkE fnm N sc c z) = true from h)
        obtain ⟨h123, h4⟩ := and2 h1234
        obtain ⟨h12, h3⟩ := and2 h123
        obtain ⟨h1, h2⟩ := and2 h12
        have e1 := cmpB_of h1
        have e2 := cmpB_of h2
        subst e1 e2
        have e : (wE Φ (.chain o1 o2 a b c) : WE) = fun en h Q E => wE Φ a en h (fun x h1 => wE Φ b en h1 (fun y h2 => OQ (cmpop o1 x y h2) fun k => if k = true then wE Φ c en h2 (fun z h3 => OQ (cmpop o2 y z h3) fun b => Q (.bl b) h3) E else Q (.bl false) h2) E) E := by funext en h Q E; rw [wE]
        rw [e]
        exact se_chain (by have := G.un; omega) (sndE a x G h3) (sndE b y G h4) (sndE c z G h5) o1 o2 (no_set h5)
    | _ => exact absurd (show false = true from h) Bool.false_ne_true
  | .and a b, X, sc, W, e, G, h => by
    have e0 : (wE Φ (.and a b) : WE) = wAnd (wE Φ a) (wE Φ b) := by funext en h Q E; rw [wE]; rfl
    rw [e0]
    cases e with
    | BoolOp op vs pos =>
      cases op with
      | And =>
        match vs, h with
        | [x, y], h =>
          obtain ⟨h1, h2⟩ := and2 (show (chkE fnm N sc a x && chkE fnm N sc b y) = true from h)
          exact se_and (sndE a x G h1) (se_one (sndE b y G h2) .And)
        | x :: y :: z :: t, h =>
          obtain ⟨h1, h2⟩ := and2 (show (chkE fnm N sc a x && chkE fnm N sc b (.BoolOp .And (y :: z :: t) pos)) = true from h)
          exact se_and (sndE a x G h1) (sndE b _ G h2)
      | Or => exact absurd (show false = true from h) Bool.false_ne_true
    | _ => exact absurd (show false = true from h) Bool.false_ne_true
  | .or a b, X, sc, W, e, G, h => by
    have e0 : (wE Φ (.or a b) : WE) = wOr (wE Φ a) (wE Φ b) := by funext en h Q E; rw [wE]; rfl
    rw [e0]
    cases e with
    | BoolOp op vs pos =>
      cases op with
      | Or =>
        match vs, h with
        | [x, y], h =>
          obtain ⟨h1, h2⟩ := and2 (show (chkE fnm N sc a x && chkE fnm N sc b y) = true from h)
          exact se_or (sndE a x G h1) (se_one (sndE b y G h2) .Or)
        | x :: y :: z :: t, h =>
          obtain ⟨h1, h2⟩ := and2 (show (chkE fnm N sc a x && chkE fnm N sc b (.BoolOp .Or (y :: z :: t) pos)) = true from h)
          exact se_or (sndE a x G h1) (sndE b _ G h2)
      | And => exact absurd (show false = true from h) Bool.false_ne_true
    | _ => exact absurd (show false = true from h) Bool.false_ne_true
  | .ite c a b, X, sc, W, e, G, h => by
    cases e with
    | IfExp z x y p =>
      obtain ⟨h12, h3⟩ := and2 (show (chkE fnm N sc c z && chkE fnm N sc a x && chkE fnm N sc b y) = true from h)
      obtain ⟨h1, h2⟩ := and2 h12
      have e : (wE Φ (.ite c a b) : WE) = wIte (wE Φ c) (wE Φ a) (wE Φ b) := by funext en h Q E; rw [wE]; rfl
      rw [e]
      exact se_ite (sndE c z G h1) (sndE a x G h2) (sndE b y G h3)
    | _ => exact absurd (show false = true from h) Bool.false_ne_true
  | .ix a b, X, sc, W, e, G, h => by
    have e0 : (wE Φ (.ix a b) : WE) = fun en h Q E => wE Φ a en h (fun x h1 => wE Φ b en h1 (fun y h2 => OQ (ixop x y h2) fun d => Q d h2) E) E := by funext en h Q E; rw [wE]
    rw [e0]
    cases e with
    | Subscript x y p =>
      obtain ⟨h12, h3⟩ := and2 (show (!sliceB y && chkE fnm N sc a x && chkE fnm N sc b y) = true from h)
      obtain ⟨h1, h2⟩ := and2 h12
      exact se_ix (by have := G.un; omega) (sndE a x G h2) (sndE b y G h3) (no_slice h3)
    | _ => exact absurd (show false = true from h) Bool.false_ne_true
  | .sl a lo hi, X, sc, W, e, G, h => by
    have e0 : (wE Φ (.sl a lo hi) : WE) = fun en h Q E => wE Φ a en h (fun x h1 => ifO (isOmit lo) (wE Φ lo en h1) (fun l h2 => ifO (isOmit hi) (wE Φ hi en h2) (fun u h3 => PQ (slop x l u h3) Q) E h2) E h1) E := by funext en h Q E; rw [wE]
    rw [e0]
    cases e with
    | Subscript x y p =>
      cases y with
      | Slice l u s p2 =>
        cases s with
        | some _ => exact absurd (show false = true from h) Bool.false_ne_true
        | none =>
          obtain ⟨h12, h3⟩ := and2 (show (chkE fnm N sc a x && (match (generalizing := false) l with | none => isOmit lo | some e => !isOmit lo && chkE fnm N sc lo e) && (match (generalizing := false) u with | none => isOmit hi | some e => !isOmit hi && chkE fnm N sc hi e)) = true from h)
          obtain ⟨h1, h2⟩ := and2 h12
          refine se_sl (sndE a x G h1) ⟨fun o => ?_, fun o => ?_⟩ ⟨fun o => ?_, fun o => ?_⟩
          · cases l with
            | none => rfl
            | some e => simp only [o] at h2; cases h2
          · cases l with
            | none => simp only at h2; rw [o] at h2; cases h2
            | some e => exact ⟨e, rfl, sndE lo e G (and2 h2).2⟩
          · cases u with
            | none => rfl
            | some e => simp only [o] at h3; cases h3
          · cases u with
            | none => simp only at h3; rw [o] at h3; cases h3
            | some e => exact ⟨e, rfl, sndE hi e G (and2 h3).2⟩
      | _ => exact absurd (show false = true from h) Bool.false_ne_true
    | _ => exact absurd (show false = true from h) Bool.false_ne_true
  | .slS a lo hi st, X, sc, W, e, G, h => by
    have e0 : (wE Φ (.slS a lo hi st) : WE) = fun en h Q E => wE Φ a en h (fun x h1 => ifO (isOmit lo) (wE Φ lo en h1) (fun l h2 => ifO (isOmit hi) (wE Φ hi en h2) (fun u h3 => PQ (slSop x l u st h3) Q) E h2) E h1) E := by funext en h Q E; rw [wE]
    rw [e0]
    cases e with
    | Subscript x y p =>
      cases y with
      | Slice l u s p2 =>
        cases s with
        | none => exact absurd (show false = true from h) Bool.false_ne_true
        | some se =>
          obtain ⟨h14, h5⟩ := and2 (show (stepB st se && decide (st ≠ 0 ∧ st ≠ 1) && chkE fnm N sc a x && (match (generalizing := false) l with | none => isOmit lo | some e => !isOmit lo && chkE fnm N sc lo e) && (match (generalizing := false) u with | none => isOmit hi | some e => !isOmit hi && chkE fnm N sc hi e)) = true from h)
          obtain ⟨h13, h4⟩ := and2 h14
          obtain ⟨h12, h3⟩ := and2 h13
          obtain ⟨h1, h2⟩ := and2 h12
          refine se_slS (po_step h1) (sndE a x G h3) ⟨fun o => ?_, fun o => ?_⟩ ⟨fun o => ?_, fun o => ?_⟩ (of_decide_eq_true h2)
          · cases l with
            | none => rfl
            | some e => simp only [o] at h4; cases h4
          · cases l with
            | none => simp only at h4; rw [o] at h4; cases h4
            | some e => exact ⟨e, rfl, sndE lo e G (and2 h4).2⟩
          · cases u with
            | none => rfl
            | some e => simp only [o] at h5; cases h5
          · cases u with
            | none => simp only at h5; rw [o] at h5; cases h5
            | some e => exact ⟨e, rfl, sndE hi e G (and2 h5).2⟩
      | _ => exact absurd (show false = true from h) Bool.false_ne_true
    | _ => exact absurd (show false = true from h) Bool.false_ne_true
  | .call f es, X, sc, W, e, G, h => by
    have e0 : (wE Φ (.call f es) : WE) = fun en h Q E => wEs Φ es en h (fun ds h1 => Φ f ds h1 Q E) E := by funext en h Q E; rw [wE]
    rw [e0]
    cases e with
    | Call fx xs ks pos =>
      cases fx with
      | Name x p =>
        cases ks with
        | cons _ _ => exact absurd (show false = true from h) Bool.false_ne_true
        | nil =>
          obtain ⟨h123, h4⟩ := and2 (show (decide (fnm f = some x) && glB sc x && plainName x && chkEs fnm N sc es xs) = true from h)
          obtain ⟨h12, h3⟩ := and2 h123
          obtain ⟨h1, h2⟩ := and2 h12
          have S := sndEs es xs G h4
          have C := G.calls f x (of_decide_eq_true h1)
          cases xs with
          | nil =>
            have hl := S.len
            have z : es = [] := List.eq_nil_of_length_eq_zero hl
            subst z
            have e1 : (fun (en : En) (h : MH) (Q : QV) (E : QX) => wEs Φ [] en h (fun ds h1 => Φ f ds h1 Q E) E) = fun en h Q E => Φ f [] h Q E := by funext en h Q E; rw [wEs]
            rw [e1]
            exact se_call0 G.gd (G.gl h2) (plain_of h3).1 C G.tk
          | cons y r => exact se_call G.gd (G.gl h2) (plain_of h3).1 C G.tk S.sa (S.st _ _ rfl _) (S.sa.tail (S.st _ _ rfl) _ _)
      | _ => exact absurd (show false = true from h) Bool.false_ne_true
    | _ => exact absurd (show false = true from h) Bool.false_ne_true
  | .pick ks a b, X, sc, W, e, G, h => by
    have e0 : (wE Φ (.pick ks a b) : WE) = fun en h Q E => wE Φ a en h (fun x h1 => wE Φ b en h1 (fun y h2 => OQ (pickD ks x) fun o => Q (o.elim y .int) h2) E) E := by funext en h Q E; rw [wE]
    rw [e0]
    cases e with
    | Call fx xs kws cpos =>
      cases fx with
      | Attribute o nm apos =>
        cases o with
        | Dict keys vals p =>
          match xs, kws, h with
          | [x, y], [], h =>
            obtain ⟨h16, h7⟩ := and2 (show (decide (nm = "get") && dictB ks keys vals && (apos.endLine == cpos.line) && decide (0 < ks.length) && decide (ks.length ≤ 15) && chkE fnm N sc a x && chkE fnm N sc b y) = true from h)
            obtain ⟨h15, h6⟩ := and2 h16
            obtain ⟨h14, h5⟩ := and2 h15
            obtain ⟨h13, h4⟩ := and2 h14
            obtain ⟨h12, h3⟩ := and2 h13
            obtain ⟨h1, h2⟩ := and2 h12
            have := of_decide_eq_true h1
            subst this
            obtain ⟨trs, P, htr, d1, d2, d3⟩ := dict_parts (X := X) (p := p) ks keys vals h2
            have hk := of_decide_eq_true h5
            have h0 := of_decide_eq_true h4
            exact se_pick (by have := G.un; omega) P htr d1 d2 (by intro z; subst z; rw [← d3] at h0; exact absurd h0 (by decide)) (by rw [d3]; exact hk) hk (sndE a x G h6) (sndE b y G h7) h3
        | _ => exact absurd (show false = true from h) Bool.false_ne_true
      | _ => exact absurd (show false = true from h) Bool.false_ne_true
    | _ => exact absurd (show false = true from h) Bool.false_ne_true
  | .callv i es, X, sc, W, e, G, h => by
    have e0 : (wE Φ (.callv i es) : WE) = fun en h Q E => OQ (en[i]?.join) fun d => OQ (asFn d) fun f => wEs Φ es en h (fun ds h1 => Φ f ds h1 Q E) E := by funext en h Q E; rw [wE]
    rw [e0]
    cases e with
    | Call fx xs ks pos =>
      cases fx with
      | Name x p =>
        cases ks with
        | cons _ _ => exact absurd (show false = true from h) Bool.false_ne_true
        | nil =>
          obtain ⟨h1234, h5⟩ := and2 (show (decide (N[i]? = some x) && visB sc x && plainName x && !xs.isEmpty && chkEs fnm N sc es xs) = true from h)
          obtain ⟨h123, h4⟩ := and2 h1234
          obtain ⟨h12, h3⟩ := and2 h123
          obtain ⟨h1, h2⟩ := and2 h12
          have S := sndEs es xs G h5
          cases xs with
          | nil => cases h4
          | cons y r => exact se_callv G.gd (by rw [G.N]; exact of_decide_eq_true h1) (G.vis h2) (plain_of h3).1 (plain_of h3).2 (fun f a hf => (G.hfa f a hf).imp fun y hy => G.calls f y hy) G.tk S.sa (S.st _ _ rfl _) (S.sa.tail (S.st _ _ rfl) _ _)
      | _ => exact absurd (show false = true from h) Bool.false_ne_true
    | _ => exact absurd (show false = true from h) Bool.false_ne_true
  | .bi f es, X, sc, W, e, G, h => by
    have e0 : (wE Φ (.bi f es) : WE) = fun en h Q E => wEs Φ es en h (fun ds h1 => PQ (biop f ds h1) Q) E := by funext en h Q E; rw [wE]
    rw [e0]
    cases e with
    | Dict ks vs p =>
      obtain ⟨h123, h4⟩ := and2 (show (isDict0 f && es.isEmpty && ks.isEmpty && vs.isEmpty) = true from h)
      obtain ⟨h12, h3⟩ := and2 h123
      obtain ⟨h1, h2⟩ := and2 h12
      have z2 := List.isEmpty_iff.mp h2
      have z3 := List.isEmpty_iff.mp h3
      have z4 := List.isEmpty_iff.mp h4
      subst z2 z3 z4
      have z1 : f = .dict0 := by cases f <;> first | rfl | cases h1
      subst z1
      have e1 : (fun (en : En) (h : MH) (Q : QV) (E : QX) => wEs Φ [] en h (fun ds h1 => PQ (biop .dict0 ds h1) Q) E) = fun en h Q E => PQ (biop .dict0 [] h) Q := by funext en h Q E; rw [wEs]
      rw [e1]
      exact se_dict0
    | Call fx xs ks pos =>
      cases fx with
      | Name x p =>
        cases ks with
        | cons _ _ => exact absurd (show false = true from h) Bool.false_ne_true
        | nil =>
          by_cases hf : ∃ t, f = .isinst t
          · obtain ⟨t, rfl⟩ := hf
            obtain ⟨h1, h2⟩ := and2 (show (glB sc x && (match isiB xs with | some q => decide (x = ("isinstance" : Str)) && decide (q.2 = Str.ofString (tyOf t)) && glB sc q.2 && chkEs fnm N sc es [q.1] | none => false)) = true from h)
            cases hq : isiB xs with
            | none => rw [hq] at h2; cases h2
            | some q =>
              rw [hq] at h2
              obtain ⟨h345, h6⟩ := and2 h2
              obtain ⟨h34, h5⟩ := and2 h345
              obtain ⟨h3, h4⟩ := and2 h34
              obtain ⟨p2, e2⟩ := isiB_of hq
              subst e2
              have ex := of_decide_eq_true h3
              subst ex
              have et := of_decide_eq_true h4
              have S := sndEs es [q.1] G h6
              have hl := S.len
              match es, S, hl with
              | [m], S, _ =>
                have e1 : (fun (en : En) (h : MH) (Q : QV) (E : QX) => wEs Φ [m] en h (fun ds h1 => PQ (biop (.isinst t) ds h1) Q) E) = fun en h Q E => wE Φ m en h (fun x h1 => PQ (biop (.isinst t) [x] h1) Q) E := by
                  funext en h Q E
                  rw [wEs]
                  simp only [wEs]
                rw [e1, et]
                rw [et] at h5
                exact se_isi (G.gl h1) (G.bn _ (by decide +kernel)) (G.gl h5) (G.bn _ (by cases t <;> decide +kernel)) (S.one m q.1 rfl rfl)
          · by_cases hr : f = .listRng1 ∨ f = .tupRng1 ∨ f = .listRng2 ∨ f = .tupRng2
            · have one : ∀ {m : ME} {q : Expr}, (fun (en : En) (h : MH) (Q : QV) (E : QX) => wEs Φ [m] en h (fun ds h1 => PQ (biop f ds h1) Q) E) = fun en h Q E => wE Φ m en h (fun x h1 => PQ (biop f [x] h1) Q) E := fun {m q} => by
                funext en h Q E
                rw [wEs]
                simp only [wEs]
              have two : ∀ {m m2 : ME} {q : Expr}, (fun (en : En) (h : MH) (Q : QV) (E : QX) => wEs Φ [m, m2] en h (fun ds h1 => PQ (biop f ds h1) Q) E) = fun en h Q E => wE Φ m en h (fun x h1 => wE Φ m2 en h1 (fun y h2 => PQ (biop f [x, y] h2) Q) E) E := fun {m m2 q} => by
                funext en h Q E
                rw [wEs]
                simp only [wEs]
              rcases hr with rfl | rfl | rfl | rfl
              · obtain ⟨h1, h2⟩ := and2 (show (glB sc x && (decide (x = ("list" : Str)) && (match (hd1 xs).bind (call1B "range" sc) with | some a => chkEs fnm N sc es [a] | none => false))) = true from h)
                obtain ⟨h3, h4⟩ := and2 h2
                have ex := of_decide_eq_true h3
                subst ex
                split at h4
                · rename_i a hq
                  obtain ⟨c, hc, hc2⟩ := Option.bind_eq_some_iff.mp hq
                  have := hd1_of hc
                  subst this
                  obtain ⟨p2, pos2, rfl, g⟩ := call1_of hc2
                  have S := sndEs es [a] G h4
                  have hl := S.len
                  match es, S, hl with
                  | [m], S, _ =>
                    rw [one (q := a)]
                    exact se_lr1 G.calm (G.gl h1) (G.bn _ (by decide +kernel)) (G.gl g) (G.bn _ (by decide +kernel)) (S.one m a rfl rfl)
                · cases h4
              · obtain ⟨h1, h2⟩ := and2 (show (glB sc x && (decide (x = ("tuple" : Str)) && (match (hd1 xs).bind (call1B "range" sc) with | some a => chkEs fnm N sc es [a] | none => false))) = true from h)
                obtain ⟨h3, h4⟩ := and2 h2
                have ex := of_decide_eq_true h3
                subst ex
                split at h4
                · rename_i a hq
                  obtain ⟨c, hc, hc2⟩ := Option.bind_eq_some_iff.mp hq
                  have := hd1_of hc
                  subst this
                  obtain ⟨p2, pos2, rfl, g⟩ := call1_of hc2
                  have S := sndEs es [a] G h4
                  have hl := S.len
                  match es, S, hl with
                  | [m], S, _ =>
                    rw [one (q := a)]
                    exact se_tr1 G.calm (G.gl h1) (G.bn _ (by decide +kernel)) (G.gl g) (G.bn _ (by decide +kernel)) (S.one m a rfl rfl)
                · cases h4
              · obtain ⟨h1, h2⟩ := and2 (show (glB sc x && (decide (x = ("list" : Str)) && (match (hd1 xs).bind (call2B "range" sc) with | some q => chkEs fnm N sc es [q.1, q.2] | none => false))) = true from h)
                obtain ⟨h3, h4⟩ := and2 h2
                have ex := of_decide_eq_true h3
                subst ex
                split at h4
                · rename_i a hq
                  obtain ⟨c, hc, hc2⟩ := Option.bind_eq_some_iff.mp hq
                  have := hd1_of hc
                  subst this
                  obtain ⟨p2, pos2, rfl, g⟩ := call2_of hc2
                  have S := sndEs es [a.1, a.2] G h4
                  have hl := S.len
                  match es, h4, S, hl with
                  | [m, m2], h4, S, _ =>
                    obtain ⟨i1, i2⟩ := and2 (show (chkE fnm N sc m a.1 && (chkE fnm N sc m2 a.2 && true)) = true from h4)
                    rw [two (q := a.1)]
                    exact se_lr2 G.calm (G.gl h1) (G.bn _ (by decide +kernel)) (G.gl g) (G.bn _ (by decide +kernel)) (sndE m a.1 G i1) (sndE m2 a.2 G (and2 i2).1)
                · cases h4
              · obtain ⟨h1, h2⟩ := and2 (show (glB sc x && (decide (x = ("tuple" : Str)) && (match (hd1 xs).bind (call2B "range" sc) with | some q => chkEs fnm N sc es [q.1, q.2] | none => false))) = true from h)
                obtain ⟨h3, h4⟩ := and2 h2
                have ex := of_decide_eq_true h3
                subst ex
                split at h4
                · rename_i a hq
                  obtain ⟨c, hc, hc2⟩ := Option.bind_eq_some_iff.mp hq
                  have := hd1_of hc
                  subst this
                  obtain ⟨p2, pos2, rfl, g⟩ := call2_of hc2
                  have S := sndEs es [a.1, a.2] G h4
                  have hl := S.len
                  match es, h4, S, hl with
                  | [m, m2], h4, S, _ =>
                    obtain ⟨i1, i2⟩ := and2 (show (chkE fnm N sc m a.1 && (chkE fnm N sc m2 a.2 && true)) = true from h4)
                    rw [two (q := a.1)]
                    exact se_tr2 G.calm (G.gl h1) (G.bn _ (by decide +kernel)) (G.gl g) (G.bn _ (by decide +kernel)) (sndE m a.1 G i1) (sndE m2 a.2 G (and2 i2).1)
                · cases h4
            by_cases hs : f = .lenSet ∨ f = .sortSet ∨ f = .tupRngD
            · have one : ∀ {m : ME} {q : Expr}, (fun (en : En) (h : MH) (Q : QV) (E : QX) => wEs Φ [m] en h (fun ds h1 => PQ (biop f ds h1) Q) E) = fun en h Q E => wE Φ m en h (fun x h1 => PQ (biop f [x] h1) Q) E := fun {m q} => by
                funext en h Q E
                rw [wEs]
                simp only [wEs]
              have two : ∀ {m m2 : ME} {q : Expr}, (fun (en : En) (h : MH) (Q : QV) (E : QX) => wEs Φ [m, m2] en h (fun ds h1 => PQ (biop f ds h1) Q) E) = fun en h Q E => wE Φ m en h (fun x h1 => wE Φ m2 en h1 (fun y h2 => PQ (biop f [x, y] h2) Q) E) E := fun {m m2 q} => by
                funext en h Q E
                rw [wEs]
                simp only [wEs]
              rcases hs with rfl | rfl | rfl
              · obtain ⟨h1, h2⟩ := and2 (show (glB sc x && (decide (x = ("len" : Str)) && (match (hd1 xs).bind (call1B "set" sc) with | some a => chkEs fnm N sc es [a] | none => false))) = true from h)
                obtain ⟨h3, h4⟩ := and2 h2
                have ex := of_decide_eq_true h3
                subst ex
                split at h4
                · rename_i a hq
                  obtain ⟨c, hc, hc2⟩ := Option.bind_eq_some_iff.mp hq
                  have := hd1_of hc
                  subst this
                  obtain ⟨p2, pos2, rfl, g⟩ := call1_of hc2
                  have S := sndEs es [a] G h4
                  have hl := S.len
                  match es, S, hl with
                  | [m], S, _ =>
                    rw [one (q := a)]
                    exact se_lenSet G.calm (G.gl h1) (G.bn _ (by decide +kernel)) (G.gl g) (G.bn _ (by decide +kernel)) (S.one m a rfl rfl)
                · cases h4
              · obtain ⟨h1, h2⟩ := and2 (show (glB sc x && (decide (x = ("sorted" : Str)) && (match (hd1 xs).bind (call1B "set" sc) with | some a => chkEs fnm N sc es [a] | none => false))) = true from h)
                obtain ⟨h3, h4⟩ := and2 h2
                have ex := of_decide_eq_true h3
                subst ex
                split at h4
                · rename_i a hq
                  obtain ⟨c, hc, hc2⟩ := Option.bind_eq_some_iff.mp hq
                  have := hd1_of hc
                  subst this
                  obtain ⟨p2, pos2, rfl, g⟩ := call1_of hc2
                  have S := sndEs es [a] G h4
                  have hl := S.len
                  match es, S, hl with
                  | [m], S, _ =>
                    rw [one (q := a)]
                    exact se_sortSet G.calm (by have := G.un; omega) (G.gl h1) (G.bn _ (by decide +kernel)) (G.gl g) (G.bn _ (by decide +kernel)) (S.one m a rfl rfl)
                · cases h4
              · obtain ⟨h1, h2⟩ := and2 (show (glB sc x && (decide (x = ("tuple" : Str)) && (match (hd1 xs).bind (call3D sc) with | some q => chkEs fnm N sc es [q.1, q.2] | none => false))) = true from h)
                obtain ⟨h3, h4⟩ := and2 h2
                have ex := of_decide_eq_true h3
                subst ex
                split at h4
                · rename_i a hq
                  obtain ⟨c, hc, hc2⟩ := Option.bind_eq_some_iff.mp hq
                  have := hd1_of hc
                  subst this
                  obtain ⟨p2, pos2, kk, pk, pu, rfl, g⟩ := call3_of hc2
                  have S := sndEs es [a.1, a.2] G h4
                  have hl := S.len
                  match es, h4, S, hl with
                  | [m, m2], h4, S, _ =>
                    obtain ⟨i1, i2⟩ := and2 (show (chkE fnm N sc m a.1 && (chkE fnm N sc m2 a.2 && true)) = true from h4)
                    rw [two (q := a.1)]
                    exact se_tupRngD G.calm (G.gl h1) (G.bn _ (by decide +kernel)) (G.gl g) (G.bn _ (by decide +kernel)) (sndE m a.1 G i1) (sndE m2 a.2 G (and2 i2).1)
                · cases h4
            have h : (glB sc x && (match biName f with | some bv => decide (x = bvStr bv) && decide (0 < xs.length) && chkEs fnm N sc es xs | none => false)) = true := by
              cases f <;> first | exact h | exact absurd ⟨_, rfl⟩ hf | exact absurd (.inl rfl) hr | exact absurd (.inr (.inl rfl)) hr | exact absurd (.inr (.inr (.inl rfl))) hr | exact absurd (.inr (.inr (.inr rfl))) hr | exact absurd (.inl rfl) hs | exact absurd (.inr (.inl rfl)) hs | exact absurd (.inr (.inr rfl)) hs
            obtain ⟨h1, h2⟩ := and2 h
            cases hb : biName f with
            | none => rw [hb] at h2; cases h2
            | some bv =>
              rw [hb] at h2
              obtain ⟨h34, h5⟩ := and2 h2
              obtain ⟨h3, h4⟩ := and2 h34
              have ex := of_decide_eq_true h3
              subst ex
              have S := sndEs es xs G h5
              cases xs with
              | nil => exact absurd (of_decide_eq_true h4) (Nat.lt_irrefl _)
              | cons y r =>
                refine se_bi hb G.calm G.gd G.un (G.gl h1) (G.bn _ ?_) (S.st _ _ rfl _) (S.sa.tail (S.st _ _ rfl) _ _) S.sa
                cases f <;> first | (cases hb; decide +kernel) | cases hb
      | _ => exact absurd (show false = true from h) Bool.false_ne_true
    | _ => exact absurd (show false = true from h) Bool.false_ne_true
  | .mt m o es, X, sc, W, e, G, h => by
    have e0 : (wE Φ (.mt m o es) : WE) = fun en h Q E => wE Φ o en h (fun x h1 => recv m x h1 = true ∧ wEs Φ es en h1 (fun ds h2 => PQ (mtop m x ds h2) Q) E) E := by funext en h Q E; rw [wE]
    rw [e0]
    cases e with
    | Call fx xs ks cpos =>
      cases fx with
      | Attribute y nm apos =>
        cases ks with
        | cons _ _ => exact absurd (show false = true from h) Bool.false_ne_true
        | nil =>
          obtain ⟨h16, h7⟩ := and2 (show (decide (mtName m = some nm) && !call0B y && (apos.endLine == cpos.line) && decide (xs.length < 20) && argB m xs.isEmpty && chkE fnm N sc o y && chkEs fnm N sc es xs) = true from h)
          obtain ⟨h15, h6⟩ := and2 h16
          obtain ⟨h14, h5⟩ := and2 h15
          obtain ⟨h13, h4⟩ := and2 h14
          obtain ⟨h12, h3⟩ := and2 h13
          obtain ⟨h1, h2⟩ := and2 h12
          have S := sndEs es xs G h7
          refine se_mt (by have := G.un; omega) (of_decide_eq_true h1) (sndE o y G h6) S.sa (call0_of (by simpa using h2)) h3 (of_decide_eq_true h4) (fun e r z => ?_) (fun z => ?_) (argB_iff h5)
          · subst z
            exact ⟨S.st _ _ rfl _, S.sa.tail (S.st _ _ rfl) _ _⟩
          · subst z
            have z : es = [] := List.eq_nil_of_length_eq_zero S.len
            subst z
            funext en h Q E
            rw [wEs]
      | _ => exact absurd (show false = true from h) Bool.false_ne_true
    | _ => exact absurd (show false = true from h) Bool.false_ne_true
  | .comp elt tg k its cond, X, sc, W, e, G, h => by
    have e0 : (wE Φ (.comp elt tg k its cond) : WE) = wComp (wEs Φ its) k tg (isOmit cond) (wE Φ cond) (wE Φ elt) := by funext en h Q E; rw [wE]; rfl
    rw [e0]
    cases e with
    | ListComp el gs scope p =>
      match gs, h with
      | [⟨t, it, ifs, ia⟩], h =>
        obtain ⟨h15, h6⟩ := and2 (show (decide (ia = 0) && blkC N sc scope (ownOf N tg.slots) && tgtB N (locB scope) tg t && (match (generalizing := false) iterB k it t sc with | some ps => chkEs fnm N sc its ps | none => false) && chkE fnm N (relS scope sc) elt el && (match (generalizing := false) ifs with | [] => isOmit cond | [c] => !isOmit cond && chkE fnm N (relS scope sc) cond c | _ => false)) = true from h)
        obtain ⟨h14, h5⟩ := and2 h15
        obtain ⟨h13, h4⟩ := and2 h14
        obtain ⟨h12, h3⟩ := and2 h13
        obtain ⟨h1, h2⟩ := and2 h12
        have ei := of_decide_eq_true h1
        subst ei
        obtain ⟨g, C⟩ := cmpOk (elt := elt) (its := its) (cond := cond) G h2 h3 h4 h5 h6 (fun ps hh => sndEs its ps G hh) (fun Y sc2 G2 hh => sndE elt el G2 hh) fun Y sc2 c G2 hh => sndE cond c G2 hh
        exact se_comp C
    | _ => exact absurd (show false = true from h) Bool.false_ne_true
theorem sndEs : ∀ (ms : List ME) {X : Cx} {sc : Scope} {W : WX} (es : List Expr), GX X fa xa fnm N Φ sc W → chkEs fnm N sc ms es = true → SA2 X fa xa W Φ ms es
  | [], X, sc, W, es, G, h => by
    cases es with
    | cons _ _ => exact absurd (show false = true from h) Bool.false_ne_true
    | nil =>
      have e : (wEs Φ [] : WL) = fun _ h Q _ => Q [] h := by funext en h Q E; rw [wEs]
      exact ⟨by rw [e]; exact sa_nil, (fun m e z => nomatch z), (fun e r z => nomatch z), rfl, (fun a b z => nomatch z)⟩
  | m :: ms, X, sc, W, es, G, h => by
    cases es with
    | nil => exact absurd (show false = true from h) Bool.false_ne_true
    | cons x xs =>
      obtain ⟨h1, h2⟩ := and2 (show (chkE fnm N sc m x && chkEs fnm N sc ms xs) = true from h)
      have A := sndE m x G h1
      have S := sndEs ms xs G h2
      have e : (wEs Φ (m :: ms) : WL) = fun en h Q E => wE Φ m en h (fun x h1 => wEs Φ ms en h1 (fun xs h2 => Q (x :: xs) h2) E) E := by funext en h Q E; rw [wEs]
      refine ⟨by rw [e]; exact sa_cons A S.sa, fun m' e' z1 z2 => ?_, fun e' r z env => ?_, by simp [S.len], fun a b z env => ?_⟩
      · cases z1; cases z2; exact A
      · cases z; exact A.ns _ _
      · cases z
        have q := S.st b [] rfl env
        exact ⟨by rw [A.ns, q]; rfl, by rw [q]; rfl⟩
end
end
end Mp
namespace Mp
open PySem PySem.Spec PyProof.Rows L2

structure GS (X : Cx) (fa : Nat → Option Addr) (xa : Nat → Option (Value × List Str)) (fnm : Tb) (N : List Str) (Φ : Phi) (sc : Scope) (W : WX) : Prop where
  g : GX X fa xa fnm N Φ sc W
  fn : ∀ x, X.fn x = true
  pw : PassesOwn (model X.prog X.w) X.A X.env X.xe
section
variable {fa : Nat → Option Addr} {xa : Nat → Option (Value × List Str)} {fnm : Tb} {N : List Str} {Φ : Phi} {X : Cx} {sc : Scope} {W : WX}
theorem no_setc {m : ME} {e : Expr} (h : chkE fnm N sc m e = true) : (∀ a b c d, e ≠ .SetComp a b c d) ∧ ∀ a b c d f, e ≠ .DictComp a b c d f := by
  refine ⟨fun a b c d z => ?_, fun a b c d f z => ?_⟩
  · subst z
    cases m <;> exact absurd (show false = true from h) Bool.false_ne_true
  · subst z
    cases m <;> exact absurd (show false = true from h) Bool.false_ne_true
theorem comp_of {m : ME} {el : Expr} {gs : List Comprehension} {scope : Scope} {p : Pos} (h : chkE fnm N sc m (.ListComp el gs scope p) = true) : ∃ elt tg k its cond t it ifs, m = .comp elt tg k its cond ∧ gs = [⟨t, it, ifs, 0⟩] := by
  cases m with
  | comp elt tg k its cond =>
    match gs, h with
    | [⟨t, it, ifs, ia⟩], h =>
      have h : (decide (ia = 0) && blkC N sc scope (ownOf N tg.slots) && tgtB N (locB scope) tg t && (match (generalizing := false) iterB k it t sc with | some ps => chkEs fnm N sc its ps | none => false) && chkE fnm N (relS scope sc) elt el && (match (generalizing := false) ifs with | [] => isOmit cond | [c] => !isOmit cond && chkE fnm N (relS scope sc) cond c | _ => false)) = true := h
      have ei := of_decide_eq_true (and2 (and2 (and2 (and2 (and2 h).1).1).1).1).1
      subst ei
      exact ⟨elt, tg, k, its, cond, t, it, ifs, rfl, rfl⟩
  | _ => exact absurd (show false = true from h) Bool.false_ne_true
theorem comp_parts (G : GX X fa xa fnm N Φ sc W) {elt : ME} {tg : TGt} {k : IK} {its : List ME} {cond : ME} {el t it : Expr} {ifs : List Expr} {scope : Scope} {p : Pos} (h : chkE fnm N sc (.comp elt tg k its cond) (.ListComp el [⟨t, it, ifs, 0⟩] scope p) = true) :
    ∃ g, CompOk X fa xa W el t it ifs scope (wEs Φ its) k tg (isOmit cond) (wE Φ cond) (wE Φ elt) (ownOf N tg.slots) g := by
  have h : (decide ((0 : Int) = 0) && blkC N sc scope (ownOf N tg.slots) && tgtB N (locB scope) tg t && (match (generalizing := false) iterB k it t sc with | some ps => chkEs fnm N sc its ps | none => false) && chkE fnm N (relS scope sc) elt el && (match (generalizing := false) ifs with | [] => isOmit cond | [c] => !isOmit cond && chkE fnm N (relS scope sc) cond c | _ => false)) = true := h
  obtain ⟨h15, h6⟩ := and2 h
  obtain ⟨h14, h5⟩ := and2 h15
  obtain ⟨h13, h4⟩ := and2 h14
  obtain ⟨h12, h3⟩ := and2 h13
  obtain ⟨h1, h2⟩ := and2 h12
  exact cmpOk (elt := elt) (its := its) (cond := cond) G h2 h3 h4 h5 h6 (fun ps hh => sndEs its ps G hh) (fun Y sc2 G2 hh => sndE elt el G2 hh) fun Y sc2 c G2 hh => sndE cond c G2 hh
theorem ss_asg_all (G : GS X fa xa fnm N Φ sc W) {i : Nat} {x : Str} {m : ME} {y : Expr} {pos2 pos : Pos} (hi : N[i]? = some x) (hx : locB sc x = true) (h : chkE fnm N sc m y = true) :
    SS X fa xa W (.Assign [.Name x pos2] y pos) fun en h nx _ E => wE Φ m en h (fun d h1 => nx (en.set i (some d)) h1) fun x h1 => E x en h1 := by
  have A := sndE m y G.g h
  have hi : X.N[i]? = some x := by rw [G.g.N]; exact hi
  by_cases hc : ∃ a b c d, y = .ListComp a b c d
  · obtain ⟨el, gs, scope, p, rfl⟩ := hc
    obtain ⟨elt, tg, k, its, cond, t, it, ifs, rfl, rfl⟩ := comp_of h
    have hsw : swapsWith (.ListComp el [⟨t, it, ifs, 0⟩] scope p) (some (.Name x pos2)) pos.line X.env = pure (X.env.blockKind == .function && X.env.kindOf x == some .local && pos2.line == p.line && !(scope.names.any fun (n, k) => n == x && (k == .local || k == .cell))) := rfl
    cases hb : (X.env.blockKind == .function && X.env.kindOf x == some .local && pos2.line == p.line && !(scope.names.any fun (n, k) => n == x && (k == .local || k == .cell))) with
    | false =>
      rw [hb] at hsw
      exact ss_asg G.g.nd hi (G.g.loc hx) (G.fn x) A hsw
    | true =>
      rw [hb] at hsw
      obtain ⟨g, C⟩ := comp_parts G.g h
      have kl : X.env.kindOf x = some .local := eq_of_beq (and2 (and2 (and2 hb).1).1).2
      have e0 : (wE Φ (.comp elt tg k its cond) : WE) = wComp (wEs Φ its) k tg (isOmit cond) (wE Φ cond) (wE Φ elt) := by funext en h Q E; rw [wE]; rfl
      rw [e0]
      exact ss_asgC C hi kl hsw
  · have nc : NoComp y := ⟨fun a b c d z => hc ⟨a, b, c, d, z⟩, (no_setc h).1, (no_setc h).2⟩
    exact ss_asg G.g.nd hi (G.g.loc hx) (G.fn x) A (sw_no nc _ _ _)
theorem asg_sub {b c : Expr} {p : Pos} {env : Env} (h : sliceB c = false) (v : Value) : assign (.Subscript b c p) env v = (do
      let ov ← holding [v] (eval b env)
      let iv ← holding [v, ov] (eval c env)
      standAt p
      holding [v, ov, iv] (setItem ov iv v)
      release [v, ov, iv] []) := by
  cases c <;> first | rfl | cases h
mutual
theorem sndS : ∀ (m : MS) {X : Cx} (s : Stmt), GS X fa xa fnm N Φ sc W → chkS fnm N sc m s = true → SS X fa xa W s (wS Φ m)
  | .expr e, X, s, G, h => by
    cases s with
    | Expr x p =>
      obtain ⟨h1, h2⟩ := and2 (show ((match (generalizing := false) x with | .ListComp .. => false | _ => true) && chkE fnm N sc e x) = true from h)
      have e0 : (wS Φ (.expr e) : WSm) = fun en h nx _ E => wE Φ e en h (fun _ h1 => nx en h1) fun x h1 => E x en h1 := by funext en h nx rt E; rw [wS]
      rw [e0]
      exact ss_expr (sndE e x G.g h2) ⟨(fun a b c d z => by subst z; cases h1), (no_setc h2).1, (no_setc h2).2⟩
    | _ => exact absurd (show false = true from h) Bool.false_ne_true
  | .asg i e, X, s, G, h => by
    cases s with
    | Assign ts y p =>
      match ts, h with
      | [.Name x p2], h =>
        obtain ⟨h12, h3⟩ := and2 (show (decide (N[i]? = some x) && locB sc x && chkE fnm N sc e y) = true from h)
        obtain ⟨h1, h2⟩ := and2 h12
        have e0 : (wS Φ (.asg i e) : WSm) = fun en h nx _ E => wE Φ e en h (fun d h1 => nx (en.set i (some d)) h1) fun x h1 => E x en h1 := by funext en h nx rt E; rw [wS]
        rw [e0]
        exact ss_asg_all G (of_decide_eq_true h1) h2 h3
    | _ => exact absurd (show false = true from h) Bool.false_ne_true
  | .unr, X, s, G, h => by
    have e0 : (wS Φ .unr : WSm) = fun _ _ _ _ _ => False := by funext en h nx rt E; rw [wS]
    rw [e0]
    exact ss_unr
  | .par i j a b, X, s, G, h => by
    cases s with
    | Assign ts y p =>
      match ts, y, h with
      | [.Tuple [.Name x px, .Name z py] kt pt], .Tuple [u, v] k2 pt2, h =>
        obtain ⟨h13, h4⟩ := and2 (show (parB sc x z px py u v && decide (N[i]? = some x) && decide (N[j]? = some z) && chkEs fnm N sc [a, b] [u, v]) = true from h)
        obtain ⟨h12, h3⟩ := and2 h13
        obtain ⟨h1, h2⟩ := and2 h12
        have e0 : (wS Φ (.par i j a b) : WSm) = fun en h nx _ E => wEs Φ [a, b] en h (fun ds h1 => OQ (bindT (.tup [i, j]) (.tup ds) en) fun en2 => nx en2 h1) fun x h1 => E x en h1 := by funext en h nx rt E; rw [wS]
        rw [e0]
        exact ss_par G.g.calm G.g.nd (by rw [G.g.N]; exact of_decide_eq_true h2) (by rw [G.g.N]; exact of_decide_eq_true h3) (by rw [G.g.sc]; exact h1) (sndEs [a, b] [u, v] G.g h4).sa
    | _ => exact absurd (show false = true from h) Bool.false_ne_true
  | .asgO i a b, X, s, G, h => by
    cases s with
    | Assign ts y p =>
      match ts, y, h with
      | [.Name x p2], .BoolOp .Or [y, z] p3, h =>
        obtain ⟨h13, h4⟩ := and2 (show (decide (N[i]? = some x) && locB sc x && chkE fnm N sc a y && chkE fnm N sc b z) = true from h)
        obtain ⟨h12, h3⟩ := and2 h13
        obtain ⟨h1, h2⟩ := and2 h12
        have e0 : (wS Φ (.asgO i a b) : WSm) = fun en h nx _ E => wOrT (wE Φ a) (wE Φ b) en h (fun d h1 => nx (en.set i (some d)) h1) fun x h1 => E x en h1 := by funext en h nx rt E; rw [wS]; rfl
        rw [e0]
        have hi : X.N[i]? = some x := by rw [G.g.N]; exact of_decide_eq_true h1
        exact ss_asgE G.g.nd hi (G.g.loc h2) (G.fn x) (pe_orD (sndE a y G.g h3).pe (se_one (sndE b z G.g h4) .Or).pe) (sw_no ⟨(by intro _ _ _ _ z; cases z), (by intro _ _ _ _ z; cases z), (by intro _ _ _ _ _ z; cases z)⟩ _ _ _)
    | _ => exact absurd (show false = true from h) Bool.false_ne_true
  | .asgT is e, X, s, G, h => by
    cases s with
    | Assign ts y p =>
      match ts, h with
      | [.Tuple es k p2], h =>
        obtain ⟨h12, h3⟩ := and2 (show (tgB N (locB sc) is es && (match (generalizing := false) y with | .Tuple .. => false | _ => true) && chkE fnm N sc e y) = true from h)
        obtain ⟨h1, h2⟩ := and2 h12
        have e0 : (wS Φ (.asgT is e) : WSm) = fun en h nx _ E => wE Φ e en h (fun d h1 => OQ (bindT (.tup is) d en) fun en2 => nx en2 h1) fun x h1 => E x en h1 := by funext en h nx rt E; rw [wS]
        rw [e0]
        obtain ⟨g, S⟩ := tg_ok (fa := fa) (is := []) h1 G.g.N G.g.nd fun x hx => ⟨G.g.loc hx, .inl (G.fn x)⟩
        exact ss_asgT G.g.calm S (sndE e y G.g h3) fun a b c z => by subst z; cases h2
    | _ => exact absurd (show false = true from h) Bool.false_ne_true
  | .asgIx o i e, X, s, G, h => by
    cases s with
    | Assign ts y p =>
      match ts, h with
      | [.Subscript b c p2], h =>
        obtain ⟨h123, h4⟩ := and2 (show (chkE fnm N sc o b && chkE fnm N sc i c && !sliceB c && chkE fnm N sc e y) = true from h)
        obtain ⟨h12, h3⟩ := and2 h123
        obtain ⟨h1, h2⟩ := and2 h12
        have e0 : (wS Φ (.asgIx o i e) : WSm) = fun en h nx _ E => wE Φ e en h (fun d h1 => wE Φ o en h1 (fun x h2 => wE Φ i en h2 (fun y h3 => OQ (setIx x y d h3) fun h4 => nx en h4) fun x h1 => E x en h1) fun x h1 => E x en h1) fun x h1 => E x en h1 := by funext en h nx rt E; rw [wS]
        rw [e0]
        exact ss_asgIx (by have := G.g.un; omega) (sndE e y G.g h4) (sndE o b G.g h1) (sndE i c G.g h2) (asg_sub (by simpa using h3))
    | _ => exact absurd (show false = true from h) Bool.false_ne_true
  | .ifs c a b, X, s, G, h => by
    cases s with
    | If x ya yb p =>
      obtain ⟨h12, h3⟩ := and2 (show (chkE fnm N sc c x && chkSs fnm N sc a ya && chkSs fnm N sc b yb) = true from h)
      obtain ⟨h1, h2⟩ := and2 h12
      have e0 : (wS Φ (.ifs c a b) : WSm) = fun en h nx rt E => wE Φ c en h (fun x h1 => OQ (asBl x) fun k => if k = true then wSs Φ a en h1 nx rt E else wSs Φ b en h1 nx rt E) fun x h1 => E x en h1 := by funext en h nx rt E; rw [wS]
      rw [e0]
      exact ss_if (sndE c x G.g h1) (sndSs a ya G h2) (sndSs b yb G h3)
    | _ => exact absurd (show false = true from h) Bool.false_ne_true
  | .for_ tg k its body, X, s, G, h => by
    cases s with
    | For t it b oe p =>
      cases oe with
      | cons _ _ => exact absurd (show false = true from h) Bool.false_ne_true
      | nil =>
        obtain ⟨h12, h3⟩ := and2 (show (tgtB N (locB sc) tg t && (match (generalizing := false) iterB k it t sc with | some ps => chkEs fnm N sc its ps | none => false) && chkSs fnm N sc body b) = true from h)
        obtain ⟨h1, h2⟩ := and2 h12
        have e0 : (wS Φ (.for_ tg k its body) : WSm) = fun en h nx rt E => wEs Φ its en h (fun ds h1 => OQ (itemsOf k ds h1) fun p =>
            loopF p.2 (fun x en2 h2 nx2 => OQ (bindT tg x en2) fun en3 => wSs Φ body en3 h2 nx2 rt E) p.1 en h1 nx) fun x h1 => E x en h1 := by funext en h nx rt E; rw [wS]
        rw [e0]
        cases hi : iterB k it t sc with
        | none => rw [hi] at h2; cases h2
        | some ps =>
          rw [hi] at h2
          obtain ⟨g, S⟩ := tgt_ok (fa := fa) h1 G.g.N G.g.nd G.g.calm fun x hx => ⟨G.g.loc hx, .inl (G.fn x)⟩
          exact ss_for G.pw G.g.calm (iter_ok G.g hi (sndEs its ps G.g h2)) S (sndSs body b G h3) (iter_fold G.g hi h2)
    | _ => exact absurd (show false = true from h) Bool.false_ne_true
  | .while_ c body, X, s, G, h => by
    cases s with
    | While x b oe p =>
      cases oe with
      | cons _ _ => exact absurd (show false = true from h) Bool.false_ne_true
      | nil =>
        obtain ⟨h1, h2⟩ := and2 (show (chkE fnm N sc c x && chkSs fnm N sc body b) = true from h)
        have e0 : (wS Φ (.while_ c body) : WSm) = fun en h nx rt E => ∃ W : Nat → En → MH → Prop, (∃ m, W m en h) ∧ ∀ m en h, W m en h →
            wE Φ c en h (fun x h1 => OQ (asBl x) fun k => if k = true then wSs Φ body en h1 (fun en2 h2 => ∃ m2, m2 < m ∧ W m2 en2 h2) rt E else nx en h1) fun x h1 => E x en h1 := by funext en h nx rt E; rw [wS]
        rw [e0]
        exact ss_while G.pw (sndE c x G.g h1) (sndSs body b G h2)
    | _ => exact absurd (show false = true from h) Bool.false_ne_true
  | .ret e, X, s, G, h => by
    cases s with
    | Return o p =>
      cases o with
      | none => exact absurd (show false = true from h) Bool.false_ne_true
      | some x =>
        have e0 : (wS Φ (.ret e) : WSm) = fun en h _ rt E => wE Φ e en h rt fun x h1 => E x en h1 := by funext en h nx rt E; rw [wS]
        rw [e0]
        exact ss_ret (sndE e x G.g h)
    | _ => exact absurd (show false = true from h) Bool.false_ne_true
  | .pass, X, s, G, h => by
    cases s with
    | Pass p =>
      have e0 : (wS Φ .pass : WSm) = fun en h nx _ _ => nx en h := by funext en h nx rt E; rw [wS]
      rw [e0]
      exact ss_pass
    | _ => exact absurd (show false = true from h) Bool.false_ne_true
theorem sndSs : ∀ (ms : List MS) {X : Cx} (ss : List Stmt), GS X fa xa fnm N Φ sc W → chkSs fnm N sc ms ss = true → SSs X fa xa W ss (wSs Φ ms)
  | [], X, ss, G, h => by
    cases ss with
    | cons _ _ => exact absurd (show false = true from h) Bool.false_ne_true
    | nil =>
      have e0 : (wSs Φ [] : WSm) = fun en h nx _ _ => nx en h := by funext en h nx rt E; rw [wSs]
      rw [e0]
      exact sss_nil
  | m :: ms, X, ss, G, h => by
    cases ss with
    | nil => exact absurd (show false = true from h) Bool.false_ne_true
    | cons s ss =>
      obtain ⟨h1, h2⟩ := and2 (show (chkS fnm N sc m s && chkSs fnm N sc ms ss) = true from h)
      have e0 : (wSs Φ (m :: ms) : WSm) = fun en h nx rt E => wS Φ m en h (fun en1 h1 => wSs Φ ms en1 h1 nx rt E) rt E := by funext en h nx rt E; rw [wSs]
      rw [e0]
      exact sss_cons (sndS m s G h1) (sndSs ms ss G h2)
end
end
end Mp
namespace Mp
open PySem PySem.Spec PyProof.Rows L2

/-- a def by its body, no repr around it -/
theorem fnG_of {P : Program} {w : World} {K : PySem.W.Frag} {mg : Str → Option Value} {base : Heap} {k : Nat} {f : Addr} {name qual : Str} {params : Arguments} {body : List Stmt} {scope : Scope} {dV kV doc pm cdv ct oc : Value} {an od : Option Addr}
    {osl : Array (Option Value)} {N ps : List Str} {sp : Sp} (lk : K.lookup f = some ⟨oc, od, .func (PySem.W.fnOf name qual params body scope dV kV doc pm an cdv ct), osl⟩) (hcd : PySem.W.codeIn K cdv qual = true) (S : FnScope N ps scope)
    (len : ∀ vs H Q E, sp vs H Q E → vs.length = ps.length)
    (hbody : ∀ (A : Around) (outer : List Env) (s : Shared) (H : Hp) (vs : List V) (Q : VK) (E : XK), A.guards = some [] → Room k (A.deeper (envOfC qual scope s.heap.objs.size f cdv)) → sp vs H Q E →
      ∃ t, PSs (cxOf (L2.CX P w) P w K mg base N qual scope f cdv A outer s H E) body t ∧ t { nx := fun _ H' => Q .non H', rt := Q } (L2.start N vs) H) :
    FnG P w K mg base (k + 1) f (PySem.W.fnOf name qual params body scope dV kV doc pm an cdv ct) ps sp := by
  refine ⟨fun A outer s H args us vs Q E hgd hr e0 hb r hsp => ?_⟩
  have hl := len _ _ _ _ hsp
  have KX : K.In s.heap := e0.mod.kin.keeps fun b o e => (e0.bs b o e).1
  have lim : s.heap.NoLimit := e0.mod.nolimit.keeps fun b o e => (e0.bs b o e).1
  have hkind : ∀ y ∈ ps.zip us, scope.names.lookup y.1 = some .local ∨ (scope.names.lookup y.1 = some .cell ∧ ((cellsFrom (s.heap.objs.size + 1) scope.names []).lookup y.1).isSome = true) := fun ⟨n, v⟩ hy => by
    rcases S.par n (List.of_mem_zip hy).1 with q | q
    · exact .inl q
    · exact .inr ⟨q, PySem.W.cellsFrom_some _ _ _ (.inl q)⟩
  refine codeAny_call_function hr.depth (KX _ _ lk) rfl S.co S.gen rfl (PySem.W.codeRec_of KX hcd) (hb _ _ _ _ ?_)
  refine wpAny_newFunctionEnv_cells S.kind hkind fun env he s1 x => ?_
  subst he
  refine ⟨lim.keeps x.toInCall.keep, codeAny_func ?_⟩
  obtain ⟨t, ht, hq⟩ := hbody A outer s H vs Q E hgd (hr.deeper _) hsp
  have I : Inv (cxOf (L2.CX P w) P w K mg base N qual scope f cdv A outer s H E) [] (L2.start N vs) H s1 := inv_start S hr.hd e0 hl r x
  refine wpAny_mono (ht.run [] s1 (L2.start N vs) H _ I hq) (fun fl s' hs => ?_) fun e s' hs => hs
  have fin : ∀ {σ' : L2.St} {H' : Hp} {v : V} {u : Value}, Inv (cxOf (L2.CX P w) P w K mg base N qual scope f cdv A outer s H E) [] σ' H' s' → RelV v u → Q v H' → CE outer P w H s Q u s' :=
    fun {σ' H' v u} J rv q => ⟨v, H', J.os, J.bare, J.base, J.hok, rv, q⟩
  cases fl with
  | ret u =>
    obtain ⟨v, σ', H', J, rv, q⟩ := hs
    exact fin J rv q
  | next =>
    obtain ⟨σ', H', J, q⟩ := hs
    exact fin (v := V.non) (u := Value.none) J rfl q
  | brk =>
    obtain ⟨_, _, _, q⟩ := hs
    exact False.elim q
  | cont =>
    obtain ⟨_, _, _, q⟩ := hs
    exact False.elim q

/-- what a function of the table is in the text -/
structure FnIs (K : PySem.W.Frag) (mg : Str → Option Value) (fnm : Tb) (fa : Nat → Option Addr) (f : Nat) (d : Def) : Prop where
  ex : ∃ (x : Str) (a : Addr) (fd : FuncData) (st : Stmt) (N ps : List Str), fnm f = some x ∧ fa f = some a ∧ mg x = some (.ref a) ∧ PySem.W.keepIn K (.ref a) = true ∧ L2.Fun K x x st a fd ∧ Binds K fd ps [] ∧ FnScope N ps (defScope st) ∧
    N.length = d.np + d.ns ∧ ps.length = d.np ∧ chkSs fnm N (defScope st) d.body (defBody st) = true

section
variable {P : Program} {w : World} {K : PySem.W.Frag} {mg : Str → Option Value} {base : Heap} {fa : Nat → Option Addr} {xa : Nat → Option (Value × List Str)} {fnm : Tb} {Pr : Nat → Option Def}
theorem ren_start {ρ : List Addr} {H : Hp} {ds : List D} {vs : List V} {N : List Str} {m : Nat} (r : RDs K fa ρ H ds vs) (hm : N.length = ds.length + m) : REn K fa ρ H (ds.map some ++ List.replicate m none) (L2.start N vs) := by
  have hl := r.length
  refine ⟨?_, fun i d e => ?_⟩
  · unfold L2.start
    simp only [List.length_append, List.length_map, List.length_replicate]
    omega
  · by_cases hi : i < ds.length
    · rw [List.getElem?_append_left (by simpa using hi), List.getElem?_map] at e
      cases e2 : ds[i]? with
      | none => rw [e2] at e; cases e
      | some d2 =>
        rw [e2] at e
        cases e
        obtain ⟨v, h1, h2⟩ := r.get e2
        refine ⟨v, ?_, h2⟩
        unfold L2.start
        rw [List.getElem?_append_left (by simpa using (by omega : i < vs.length)), List.getElem?_map, h1]
        rfl
    · rw [List.getElem?_append_right (by simpa using hi), List.getElem?_replicate] at e
      split at e <;> cases e
/-- every function of the table keeps what its small form asks, to every depth -/
theorem all_fns (hall : ∀ f x, fnm f = some x → ∃ d, Pr f = some d ∧ FnIs K mg fnm fa f d) (hbn : ∀ x ∈ BNames, mg x = none) (hgc : ∀ x i, fnm.gc x = some i → ∃ t, mg x = some (.int i t)) (hfa : ∀ f a, fa f = some a → ∃ y, fnm f = some y) (hgt : ∀ x d, fnm.gt x = some d → ∃ a, mg x = some (.ref a) ∧ KT K d (.ref a)) : ∀ (n f : Nat) (y : Str), fnm f = some y →
    ∃ (d : Def) (x : Str) (a : Addr) (fd : FuncData) (ps : List Str), Pr f = some d ∧ fnm f = some x ∧ fa f = some a ∧ mg x = some (.ref a) ∧ PySem.W.keepIn K (.ref a) = true ∧ Binds K fd ps [] ∧ ps.length = d.np ∧ FnG P w K mg base n a fd ps (spG K fa xa (callN Pr n) f)
  | 0, f, y, hy0 => by
    obtain ⟨d, hd, hF⟩ := hall f y hy0
    obtain ⟨x, a, fd, st, N, ps, h1, h2, h3, h4, h5, h6, h7, h8, h9, h10⟩ := hF.ex
    exact ⟨d, x, a, fd, ps, hd, h1, h2, h3, h4, h6, h9, ⟨fun A outer s H args us vs Q E _ _ _ _ _ ⟨_, _, _, _, _, _, _, z, _⟩ => False.elim z⟩⟩
  | n + 1, f, y, hy0 => by
    obtain ⟨d, hd, hF⟩ := hall f y hy0
    obtain ⟨x, a, fd, st, N, ps, h1, h2, h3, h4, h5, h6, h7, h8, h9, h10⟩ := hF.ex
    refine ⟨d, x, a, fd, ps, hd, h1, h2, h3, h4, h6, h9, ?_⟩
    obtain ⟨oc, od, kV, doc, pm, an, cdv, ct, osl, rfl, lk, hcd⟩ := h5.ex
    have open_ : ∀ {ds : List D} {h : MH} {Q : QV} {E : QX}, callN Pr (n + 1) f ds h Q E → ds.length = d.np ∧ wSs (callN Pr n) d.body (ds.map some ++ List.replicate d.ns none) h (fun _ h2 => Q .non h2) Q fun x _ h2 => E x h2 := fun {ds h Q E} z => by
      rw [callN, hd] at z
      exact z
    refine fnG_of lk hcd h7 (fun vs H Q E ⟨ρ, h, ds, Q0, E0, R, r, q, _⟩ => ?_) fun A outer s H vs Q E hgd hr ⟨ρ, h, ds, Q0, E0, R, r, q, kq, kx⟩ => ?_
    · rw [← r.length, (open_ q).1, h9]
    · obtain ⟨hl, q⟩ := open_ q
      have G : GS (cxOf (L2.CX P w) P w K mg base N x (defScope st) a cdv A outer s H E) fa xa fnm N (callN Pr n) (defScope st) (fun cls d _ H => E cls d H) := by
        refine ⟨⟨rfl, h7.nd, rfl, rfl, ?_, ?_, hbn, fun g y hy => ?_, takes_of rfl rfl rfl rfl, hgc, hfa, hgt⟩, fun _ => rfl, passes_of rfl⟩
        · show (A.deeper _).guards = _
          exact hgd
        · show (A.deeper _).units + 68 < cLine
          have := hr.un
          omega
        · obtain ⟨d2, x2, a2, fd2, ps2, hd2, i1, i2, i3, i4, i5, i6, i7⟩ := all_fns hall hbn hgc hfa hgt n g y hy
          rw [hy] at i1
          cases i1
          refine ⟨n, a2, fd2, ps2, i3, i2, i4, i5, i7, hr, fun ds h Q E z => ?_⟩
          rw [i6]
          cases n with
          | zero => exact False.elim z
          | succ n =>
            rw [callN, hd2] at z
            exact z.1
      refine ⟨_, (sndSs d.body (defBody st) G h10).ps, ρ, _, h, _, _, _, R, ren_start r (by rw [h8, hl]), q, fun en2 h2 σ2 ρ2 H2 e R2 N2 q2 => kq .non h2 .non ρ2 H2 e R2 .non q2, kq, fun x en2 h2 cls d σ2 ρ2 H2 e R2 N2 rx q2 => kx x h2 cls d ρ2 H2 e R2 rx q2⟩
end
end Mp
namespace Mp
open PySem PySem.Spec PyProof.Rows L2

/-- the top has written no list -/
def noL (K : PySem.W.Frag) : Bool := K.all fun p => match p.2.cls with
  | .type t => !(t == "list")
  | _ => true
theorem mem_look {K : List (Addr × Obj)} {a : Addr} {o : Obj} : K.lookup a = some o → (a, o) ∈ K := by
  induction K with
  | nil => intro e; cases e
  | cons p r ih =>
    intro e
    obtain ⟨b, u⟩ := p
    rw [List.lookup_cons] at e
    split at e
    · rename_i c
      have c := eq_of_beq c
      cases e
      rw [c]
      exact List.mem_cons_self
    · exact List.mem_cons_of_mem _ (ih e)
theorem noL_of {K : PySem.W.Frag} (h : noL K = true) {a : Addr} {o : Obj} (e : K.lookup a = some o) : o.cls ≠ .type "list" := by
  intro z
  have := List.all_eq_true.mp h (a, o) (mem_look e)
  simp only [z] at this
  simp at this
/-- the law's promise at the heap behind the top, no repr around it -/
theorem law_callG {P : Program} {w : World} {K : PySem.W.Frag} {mg mb : Str → Option Value} {k : Nat} {fa a : Addr} {sp : Sp} {s₁ : Shared} {vs : List Value} {ns : List Int}
    (KX : K.In s₁.heap) (hns : s₁.heap.Ns mainGlobals mg) (hb : s₁.heap.Ns builtinsNs mb) (hbb : ∀ x : Str, x ≠ "__name__" → mb x = bootBuiltins x) (hlim : s₁.heap.NoLimit) (hg : s₁.gens = #[])
    (ha : s₁.heap.get? a = some { cls := .type "list", data := .seq vs.toArray }) (hi : IntsAre vs ns) (hl : ns.length ≤ sizeLine) (hr : Room k callerA) (hK : noL K = true)
    (F : ∀ base : Heap, K.In base → base.Ns mainGlobals mg → ∃ fd x, Binds K fd [x] [] ∧ FnG P w K mg base k fa fd [x] sp)
    (hsp : ∀ H : Hp, (∀ b, b ≠ a → H b = none) → (∃ o, H a = some (.frz o (.lst (ns.map V.int)))) → sp [.ref a] H (fun v _ => v = .bl true) fun _ _ _ => False) :
    codeAny (model P w) callerA (.call (.ref fa) ⟨[.ref a], []⟩) (fun r s' => r = .ok (.ret (.bool true)) ∧ OldK s₁.heap s'.heap ∧ s'.os = s₁.os ∧ AllBare s'.gens) s₁ := by
  have rv := vals_ints hi
  have lenV := hi.length
  have hk : K.lookup a = none := by
    cases e : K.lookup a with
    | none => rfl
    | some o =>
      have e2 := KX a o e
      rw [ha] at e2
      cases e2
      exact absurd rfl (noL_of hK e)
  have core : ∀ H : Hp, (∀ b, b ≠ a → H b = none) → H a = some (.frz { cls := .type "list", data := .seq vs.toArray } (.lst (ns.map V.int))) → HOk P w H s₁.heap →
      codeAny (model P w) callerA (.call (.ref fa) ⟨[.ref a], []⟩) (fun r s' => r = .ok (.ret (.bool true)) ∧ OldK s₁.heap s'.heap ∧ s'.os = s₁.os ∧ AllBare s'.gens) s₁ := by
    intro H hO hS hok
    have hA : ∀ b, H b ≠ none → b = a := fun b h => by
      by_cases e : b = a
      · exact e
      · exact absurd (hO b e) h
    have base_of : ∀ {b : Addr} {o : Obj}, s₁.heap.get? b = some o → H b = none → (hidT s₁.heap H).get? b = some o := fun e n => hidT_get e n
    have noA : ∀ {b : Addr} {o : Obj} {es : Array DictEntry} {ep : Nat}, s₁.heap.get? b = some o → o.data = .dict es ep → H b = none := fun {b o es ep} e d => by
      cases q : H b with
      | none => rfl
      | some u =>
        have e' : b = a := hA b (by rw [q]; simp)
        subst e'
        rw [ha] at e; cases e
        have d' : Data.seq vs.toArray _ = Data.dict es ep := d
        cases d'
    have nsK : ∀ {b : Addr} {m : Str → Option Value}, s₁.heap.Ns b m → (hidT s₁.heap H).Ns b m := fun {b m} ⟨o, es, ep, e, d, r⟩ => ⟨o, es, ep, base_of e (noA e d), d, r⟩
    have hKb : K.In (hidT s₁.heap H) := fun b o e => base_of (KX b o e) (by
      cases q : H b with
      | none => rfl
      | some u =>
        have e' : b = a := hA b (by rw [q]; simp)
        subst e'
        rw [hk] at e; cases e)
    have hM : Mod K mg (hidT s₁.heap H) := ⟨hKb, nsK hns, ⟨mb, nsK hb, hbb⟩, let ⟨mc, h1, h2⟩ := hlim; ⟨mc, nsK h1, h2⟩⟩
    have e0 : Env0 P w K mg (hidT s₁.heap H) callerA [] s₁ H := ⟨rfl, hM, fun b o e => of_hidT e, Nat.le_of_eq (hidT_size _ _), trivial, fun b hb => absurd (show b ∈ ([] : List Addr) from hb) (by simp), hok, .of_eq hg⟩
    obtain ⟨fd, x, hbind, hF⟩ := F _ hKb (nsK hns)
    refine codeAny_mono (hF.run callerA [] s₁ H ⟨[.ref a], []⟩ [.ref a] [.ref a] _ _ rfl hr e0 (hbind s₁ [.ref a] KX rfl) (.cons rfl .nil) (hsp H hO ⟨_, hS⟩)) fun r s' h => ?_
    cases r with
    | error e =>
      obtain ⟨_, _, _, _, _, _, _, _, _, _, _, _, z⟩ := h
      exact z.elim
    | ok fl =>
      cases fl with
      | next => exact False.elim h
      | brk => exact False.elim h
      | cont => exact False.elim h
      | ret u =>
        obtain ⟨v, H', os, bare, un, hok', r', q⟩ := h
        have q' : v = .bl true := q
        subst q'
        obtain rfl : u = Value.bool true := r'
        refine ⟨rfl, OldK.of_keep fun b o e => ?_, os, bare⟩
        cases q : H b with
        | none => exact un.keep b o e q (by intro z; exact absurd (show b ∈ ([] : List Addr) from z) (by simp)) (by simp)
        | some u =>
          have eb := hA b (by rw [q]; simp)
          subst eb
          have z2 := un.frzs b _ _ hS
          obtain ⟨e1, _⟩ := hok b _ hS
          obtain ⟨e2, _⟩ := hok' b _ z2
          rw [e] at e1; cases e1
          exact e2
  refine core (fun b => if b = a then some (.frz { cls := .type "list", data := .seq vs.toArray } (.lst (ns.map V.int))) else none) (fun b hb => if_neg hb) (if_pos rfl) fun b u z => ?_
  by_cases hb : b = a
  · have z' := (if_pos hb).symm.trans z
    cases z'
    subst hb
    exact ⟨ha, by rw [List.length_map]; exact hl, vs, _, rv, ha⟩
  · have z' := (if_neg hb).symm.trans z
    cases z'
theorem rds_ints {K : PySem.W.Frag} {fa : Nat → Option Addr} {ρ : List Addr} {H : Hp} : ∀ ns : List Int, RDs K fa ρ H (ns.map D.int) (ns.map V.int)
  | [] => .nil
  | n :: r => .cons (.int n) (rds_ints r)
/-- the goal that k_head leaves, from the small form's promise -/
theorem walk_mini {l : PySem.W.OpenLaw} {n k f : Nat} {q : Program} {loose : List Str} {XP : (Str → Option Value) → Heap → Prop} {YP : World → Heap → Prop} {d : DefRec} {K : Params → PySem.W.Frag} {Pr : Nat → Option Def}
    (hn : l.most = some n) (hn2 : n ≤ sizeLine) (hdf : d.params.defaults = []) (hr : Room k callerA)
    (hY : ∀ (w : World) (h : Heap), YP w h → (K w.params).In h)
    (F : ∀ (w : World) (mg : Str → Option Value) (fa : Addr) (h : Heap), (K w.params).In h → h.Ns mainGlobals mg → mg d.name = some (.ref fa) →
      noL (K w.params) = true ∧ ∃ faT : Nat → Option Addr, 
        ∀ base : Heap, (K w.params).In base → base.Ns mainGlobals mg → ∃ fd x, Binds (K w.params) fd [x] [] ∧ FnG l.prog w (K w.params) mg base k fa fd [x] (spG (K w.params) faT (fun _ => none) (callN Pr k) f))
    (hsp : ∀ ns : List Int, ns.length ≤ n → callN Pr k f [.ref 0] [.rol (ns.map .int)] (fun d _ => d = .bl true) fun _ _ => False) :
    PySem.W.WalkO q loose XP YP l.row.toRowW d [] (fun f vs => PySem.call f vs) := by
  refine Att.attach_call hn hdf fun w s₀ s₁ mg mb fa o pm cd doc a vs ns G Y ho hd hcd hmg hobj hints hlen hg => ?_
  have KX := hY w _ Y
  obtain ⟨hK, faT, hF⟩ := F w mg fa _ KX G.T.g hmg
  refine law_callG KX G.T.g G.T.b G.T.builtins G.T.nolimit hg hobj hints (Nat.le_trans hlen hn2) hr hK hF fun H hO ⟨ob, hS⟩ => ?_
  have R : RH (K w.params) faT [a] [.rol (ns.map .int)] H := by
    refine ⟨rfl, by simp, fun m o b e1 e2 => ?_⟩
    cases m with
    | zero =>
      have e1 : some (MO.rol (ns.map .int)) = some o := e1
      have e2 : some a = some b := e2
      cases e1; cases e2
      exact ⟨ob, _, hS, rds_ints ns⟩
    | succ m => simp at e1
  refine ⟨[a], _, [.ref 0], _, _, R, .cons (.ref rfl) .nil, hsp ns hlen, fun d h2 v ρ2 H2 e R2 r z => ?_, fun x h2 c d ρ2 H2 e R2 r z => z.elim⟩
  subst z
  cases r
  rfl
/-! ### the defs as the top has written them -/
structure FnAt (K : PySem.W.Frag) (x : Str) (st : Stmt) (a : Addr) : Prop where
  ns : PySem.W.nsIn K mainGlobals x = some (some (.ref a))
  fn : ∃ fd, L2.Fun K x x st a fd
theorem fnAt_mk {K : PySem.W.Frag} {x : Str} {st : Stmt} {f : Addr} {oc kV doc pm cdv ct : Value} {od an : Option Addr} {osl : Array (Option Value)} (a : PySem.W.nsIn K mainGlobals x = some (some (.ref f)))
    (l : K.lookup f = some ⟨oc, od, .func (PySem.W.fnOf x x (defArgs st) (defBody st) (defScope st) .none kV doc pm an cdv ct), osl⟩) (c : PySem.W.codeIn K cdv x = true) (k : PySem.W.keepIn K (.ref f) = true) : ∃ a, FnAt K x st a :=
  ⟨f, a, _, fun_mk l c k⟩
/-- a def of a law's text: its number, its name, its place, its names, its small form -/
structure Row where
  f : Nat
  x : Str
  i : Nat
  N : List Str
def argsOf (n : Nat) : Prop := True
/-- what is looked at, once -/
def rowB (fnm : Tb) (Pr : Nat → Option Def) (st : Stmt) (r : Row) : Bool := match Pr r.f with
  | some d => decide ((defScope st).kind = .function) && !(defScope st).isCoroutine && !(defScope st).isGenerator && decide r.N.Nodup && decide ((r.N.take d.np).length = d.np) && (r.N.take d.np).all (fun x => decide ((defScope st).names.lookup x = some .local) || decide ((defScope st).names.lookup x = some .cell)) &&
      (defScope st).names.all (fun y => !decide (y.2 = .free)) && decide (r.N.length = d.np + d.ns) && decide (fnm r.f = some r.x) && chkSs fnm r.N (defScope st) d.body (defBody st)
  | none => false
theorem fnIs_of {K : PySem.W.Frag} {mg : Str → Option Value} {h : Heap} {fnm : Tb} {fa : Nat → Option Addr} {Pr : Nat → Option Def} {st : Stmt} {r : Row} {a : Addr} (X : K.In h) (G : h.Ns mainGlobals mg) (A : FnAt K r.x st a) (ha : fa r.f = some a) (hc : rowB fnm Pr st r = true)
    (hb : ∀ d, Pr r.f = some d → ∀ (kV doc pm : Value) (an : Option Addr) (cdv ct : Value) (us : List Value), us.length = (r.N.take d.np).length → bindArgs (PySem.W.fnOf r.x r.x (defArgs st) (defBody st) (defScope st) .none kV doc pm an cdv ct) ⟨us, []⟩ = pure ((r.N.take d.np).zip us)) :
    ∃ d, Pr r.f = some d ∧ FnIs K mg fnm fa r.f d := by
  unfold rowB at hc
  cases hd : Pr r.f with
  | none => rw [hd] at hc; cases hc
  | some d =>
    rw [hd] at hc
    simp only [Bool.and_eq_true, Bool.not_eq_true', decide_eq_true_eq, List.all_eq_true, Bool.or_eq_true, decide_eq_false_iff_not] at hc
    obtain ⟨⟨⟨⟨⟨⟨⟨⟨⟨h1, h2⟩, h3⟩, h4⟩, h5⟩, h6⟩, h7⟩, h8⟩, h9⟩, h10⟩ := hc
    obtain ⟨fd, F⟩ := A.fn
    exact ⟨d, rfl, ⟨r.x, a, fd, st, r.N, r.N.take d.np, h9, ha, PySem.W.mg_of X G A.ns, F.kp, F, F.binds (hb d hd), ⟨h1, h2, h3, h4, by rw [h5], h6, h7⟩, h8, h5, h10⟩⟩
inductive AllAt (K : PySem.W.Frag) (top : Nat → Stmt) : List Row → Prop
  | nil : AllAt K top []
  | cons {r : Row} {t : List Row} : (∃ a, FnAt K r.x (top r.i) a) → AllAt K top t → AllAt K top (r :: t)
inductive AllNo (K : PySem.W.Frag) : List Str → Prop
  | nil : AllNo K []
  | cons {x : Str} {t : List Str} : PySem.W.nsIn K mainGlobals x = some none → AllNo K t → AllNo K (x :: t)
inductive AllGc (K : PySem.W.Frag) : List (Str × Int) → Prop
  | nil : AllGc K []
  | cons {x : Str} {i : Int} {t : List (Str × Int)} {u : Tok} : PySem.W.nsIn K mainGlobals x = some (some (.int i u)) → AllGc K t → AllGc K ((x, i) :: t)
inductive AllGt (K : PySem.W.Frag) : List (Str × D) → Prop
  | nil : AllGt K []
  | cons {x : Str} {d : D} {a : Addr} {t : List (Str × D)} : PySem.W.nsIn K mainGlobals x = some (some (.ref a)) → KT K d (.ref a) → AllGt K t → AllGt K ((x, d) :: t)
theorem AllGt.get {K : PySem.W.Frag} : ∀ {l : List (Str × D)}, AllGt K l → ∀ p ∈ l, ∃ a, PySem.W.nsIn K mainGlobals p.1 = some (some (.ref a)) ∧ KT K p.2 (.ref a)
  | _, .cons h k t, r, m => by
    rcases List.mem_cons.mp m with rfl | m
    · exact ⟨_, h, k⟩
    · exact t.get r m
theorem AllAt.get {K : PySem.W.Frag} {top : Nat → Stmt} : ∀ {l : List Row}, AllAt K top l → ∀ r ∈ l, ∃ a, FnAt K r.x (top r.i) a
  | _, .cons h t, r, m => by
    rcases List.mem_cons.mp m with rfl | m
    · exact h
    · exact t.get r m
theorem AllNo.get {K : PySem.W.Frag} : ∀ {l : List Str}, AllNo K l → ∀ x ∈ l, PySem.W.nsIn K mainGlobals x = some none
  | _, .cons h t, r, m => by
    rcases List.mem_cons.mp m with rfl | m
    · exact h
    · exact t.get r m
theorem AllGc.get {K : PySem.W.Frag} : ∀ {l : List (Str × Int)}, AllGc K l → ∀ p ∈ l, ∃ u, PySem.W.nsIn K mainGlobals p.1 = some (some (.int p.2 u))
  | _, .cons h t, r, m => by
    rcases List.mem_cons.mp m with rfl | m
    · exact ⟨_, h⟩
    · exact t.get r m
/-- the names' table of a law -/
def tbOf (rows : List Row) (gcs : List (Str × Int)) (gts : List (Str × D)) : Tb := ⟨fun f => (rows.find? fun r => r.f == f).map (·.x), fun x => gcs.lookup x, fun x => gts.lookup x⟩
theorem mem_lookS {α : Type} {l : List (Str × α)} {x : Str} {i : α} : l.lookup x = some i → (x, i) ∈ l := by
  induction l with
  | nil => intro e; cases e
  | cons p r ih =>
    intro e
    obtain ⟨b, u⟩ := p
    rw [List.lookup_cons] at e
    split at e
    · rename_i c
      have c := eq_of_beq c
      cases e
      rw [c]
      exact List.mem_cons_self
    · exact List.mem_cons_of_mem _ (ih e)
/-- THE END: a law by its rows -/
theorem law_mini {l : PySem.W.OpenLaw} {n k f : Nat} {q : Program} {loose : List Str} {XP : (Str → Option Value) → Heap → Prop} {YP : World → Heap → Prop} {d : DefRec} {K : Params → PySem.W.Frag} {Pr : Nat → Option Def} {rows : List Row} {gcs : List (Str × Int)} {gts : List (Str × D)} {top : Nat → Stmt}
    (hn : l.most = some n) (hn2 : n ≤ sizeLine) (hdf : d.params.defaults = []) (hr : Room k callerA)
    (hY : ∀ (w : World) (h : Heap), YP w h → (K w.params).In h)
    (hf : tbOf rows gcs gts f = some d.name) (hp : ∃ df, Pr f = some df ∧ df.np = 1)
    (hrow : ∀ r ∈ rows, rowB (tbOf rows gcs gts) Pr (top r.i) r = true ∧ (rows.find? fun s => s.f == r.f) = some r ∧
      ∀ df, Pr r.f = some df → ∀ (kV doc pm : Value) (an : Option Addr) (cdv ct : Value) (us : List Value), us.length = (r.N.take df.np).length → bindArgs (PySem.W.fnOf r.x r.x (defArgs (top r.i)) (defBody (top r.i)) (defScope (top r.i)) .none kV doc pm an cdv ct) ⟨us, []⟩ = pure ((r.N.take df.np).zip us))
    (F : ∀ w : World, noL (K w.params) = true ∧ AllAt (K w.params) top rows ∧ AllNo (K w.params) BNames ∧ AllGc (K w.params) gcs ∧ AllGt (K w.params) gts)
    (hsp : ∀ ns : List Int, ns.length ≤ n → callN Pr k f [.ref 0] [.rol (ns.map .int)] (fun d _ => d = .bl true) fun _ _ => False) :
    PySem.W.WalkO q loose XP YP l.row.toRowW d [] (fun f vs => PySem.call f vs) := by
  refine walk_mini hn hn2 hdf hr hY (fun w mg fa h KX G hmg => ?_) hsp
  obtain ⟨hL, hA, hN, hG, hT⟩ := F w
  refine ⟨hL, ?_⟩
  have pick : ∀ r ∈ rows, ∃ a, FnAt (K w.params) r.x (top r.i) a := hA.get
  let faT : Nat → Option Addr := fun g => match rows.find? fun s => s.f == g with
    | some r => match PySem.W.nsIn (K w.params) mainGlobals r.x with
      | some (some (.ref a)) => some a
      | _ => none
    | none => none
  refine ⟨faT, fun base KB GB => ?_⟩
  have hall : ∀ g y, (tbOf rows gcs gts) g = some y → ∃ df, Pr g = some df ∧ FnIs (K w.params) mg (tbOf rows gcs gts) faT g df := fun g y hy => by
    obtain ⟨r, hr1, rfl⟩ := Option.map_eq_some_iff.mp hy
    have hm := List.mem_of_find?_eq_some hr1
    have hg : r.f = g := by simpa using List.find?_some hr1
    subst hg
    obtain ⟨a, A⟩ := pick r hm
    obtain ⟨c1, c2, c3⟩ := hrow r hm
    refine fnIs_of KX G A ?_ c1 c3
    show (match rows.find? fun s => s.f == r.f with | some r => (match PySem.W.nsIn (K w.params) mainGlobals r.x with | some (some (.ref a)) => some a | _ => none) | none => none) = some a
    rw [c2]
    simp only [A.ns]
  obtain ⟨df, e3, e4⟩ := hp
  obtain ⟨df2, x2, a2, fd, ps, i1, i2, i3, i4, i5, i6, i7, i8⟩ := all_fns (P := l.prog) (w := w) (base := base) (xa := fun _ => none) hall (fun y hy => PySem.W.mg_none_of KX G (hN.get y hy)) (fun y i hy => by
    obtain ⟨u, hu⟩ := hG.get _ (mem_lookS hy)
    exact ⟨u, PySem.W.mg_of KX G hu⟩) (fun g a ha => by
    have ha : (match rows.find? fun s => s.f == g with | some r => (match PySem.W.nsIn (K w.params) mainGlobals r.x with | some (some (.ref a)) => some a | _ => none) | none => none) = some a := ha
    cases z : rows.find? fun s => s.f == g with
    | none => rw [z] at ha; cases ha
    | some r => exact ⟨r.x, by show (rows.find? fun r => r.f == g).map (·.x) = _; rw [z]; rfl⟩) (fun y d hy => by
    obtain ⟨a, ha, kt⟩ := hT.get _ (mem_lookS hy)
    exact ⟨a, PySem.W.mg_of KX G ha, kt⟩) k f d.name hf
  rw [hf] at i2
  cases i2
  rw [hmg] at i4
  cases i4
  rw [e3] at i1
  cases i1
  rw [e4] at i7
  match ps, i7, i6, i8 with
  | [y], _, i6, i8 => exact ⟨fd, y, i6, i8⟩
end Mp
/-! Values only: lists are values; what several hold at once and change stands in a cell. -/
namespace Mp
open PySem PySem.Spec PyProof.Rows L2

inductive Tg where
  | own | shr | bor | rol
  deriving DecidableEq
inductive VD where
  | non | bl (b : Bool) | int (i : Int) | str (x : Str) | tup (xs : List VD) | tupN (xs : List VD) | lst (t : Tg) (xs : List VD) | dic (t : Tg) (ks : List (List Key)) (vs : List VD) | cel (n : Nat) | fn (f : Nat)
  deriving Inhabited
structure XV where
  c : Nat
  fs : List VD
inductive Rs (α : Type) where
  | ok (a : α) | ex (x : XV)
abbrev CS := List (List VD)
abbrev VEn := List (Option VD)
abbrev M (α : Type) := Option (Rs α × CS)
abbrev VPhi := Nat → List VD → CS → M VD
def bM {α β : Type} (m : M α) (f : α → CS → M β) : M β := match m with
  | none => none
  | some (.ok a, cs) => f a cs
  | some (.ex x, cs) => some (.ex x, cs)
/-- what holds of an answer -/
def W {α : Type} (m : M α) (Q : α → CS → Prop) (E : XV → CS → Prop) : Prop := match m with
  | none => False
  | some (.ok a, cs) => Q a cs
  | some (.ex x, cs) => E x cs
def oM {α : Type} (o : Option α) (cs : CS) : M α := match o with
  | some a => some (.ok a, cs)
  | none => none

/-! ### kinds of values -/
/-- as another name has it -/
def VD.see : VD → VD
  | .lst .own xs => .lst .bor xs
  | .dic .own ks vs => .dic .bor ks vs
  | d => d
/-- let go: from now on it stays as it is -/
def VD.esc : VD → Option VD
  | .lst .own xs => some (.lst .shr xs)
  | .lst .bor _ => none
  | .dic .own ks vs => some (.dic .shr ks vs)
  | .dic .bor _ _ => none
  | d => some d
/-- may be kept by a name -/
def VD.keep : VD → Option VD
  | .lst .bor _ => none
  | .dic .bor _ _ => none
  | d => some d
def escs : List VD → Option (List VD)
  | [] => some []
  | v :: r => match v.esc, escs r with
    | some w, some s => some (w :: s)
    | _, _ => none
mutual
def vOfD : D → Option VD
  | .non => some .non
  | .bl b => some (.bl b)
  | .int i => some (.int i)
  | .str x => some (.str x)
  | .fn f => some (.fn f)
  | .tupN xs => (vOfDs xs).map .tupN
  | _ => none
def vOfDs : List D → Option (List VD)
  | [] => some []
  | d :: r => (vOfD d).bind fun v => (vOfDs r).map (v :: ·)
end

def pyV : Nat → VD → Option PyData
  | 0, _ => none
  | n + 1, d => match d with
    | .non => some .none
    | .bl b => some (.bool b)
    | .int i => some (.int i)
    | .str x => some (.str x)
    | .tup xs => (xs.mapM (pyV n)).map .tuple
    | .tupN xs => (xs.mapM (pyV n)).map .tuple
    | .lst _ xs => (xs.mapM (pyV n)).map .list
    | _ => none
def eqV (x y : VD) : Option Bool := match pyV 65 x, pyV 65 y with
  | some a, some b => if SeqAt.shaped a && SeqAt.shaped b then some (PyData.eqv a b) else none
  | _, _ => none
def inV0 (x y : VD) : Option Bool := match pyV 65 x, pyV 65 y with
  | some a, some (.tuple ds) => if SeqAt.shaped a && SeqAt.shaped (.tuple ds) then some (ds.any fun z => PyData.eqv z a) else none
  | some a, some (.list ds) => if SeqAt.shaped a && SeqAt.shaped (.list ds) then some (ds.any fun z => PyData.eqv z a) else none
  | _, _ => none
def vkey1 : VD → Option Key
  | .int i => some (.inl i)
  | .str x => some (.inr x)
  | _ => none
def vkey : VD → Option (List Key)
  | .tup xs => xs.mapM vkey1
  | _ => none
def inV (x y : VD) : Option Bool := match y with
  | .dic _ ks vs => (vkey x).map fun k => (getK (ks.zip vs) k).isSome
  | _ => inV0 x y
def vInts : List VD → Option (List Int)
  | [] => some []
  | .int i :: r => (vInts r).map (i :: ·)
  | _ => none
def vRow : VD → Option (List Int)
  | .tup xs => vInts xs
  | _ => none
def vBls : List VD → Option (List Bool)
  | [] => some []
  | .bl b :: r => (vBls r).map (b :: ·)
  | _ => none
/-- the items of a list, of a cell too -/
def vItems (cs : CS) : VD → Option (List VD)
  | .lst _ xs => some xs
  | .cel n => cs[n]?
  | _ => none
def vNew (xs : List VD) : Option VD := if xs.length ≤ sizeLine then some (.lst .own xs) else none

noncomputable def vbin (o : B2) (x y : VD) : Option VD :=
  match o, x, y with
  | .add, .int i, .int j => some (.int (i + j))
  | .sub, .int i, .int j => some (.int (i - j))
  | .mul, .tup xs, .int k => if xs ≠ [] ∧ 2 ≤ k ∧ k ≤ 1000 ∧ xs.length ≤ 1000 then some (.tup (List.replicate k.toNat xs).flatten) else none
  | .mul, .int i, .int j => if (-B64 < i ∧ i < B64) ∨ (-B64 < j ∧ j < B64) then some (.int (i * j)) else none
  | .fdiv, .int i, .int j => if 0 < j ∧ j.natAbs.log2 < 9000 then some (.int (i / j)) else none
  | .mod, .int i, .int j => if 0 < j then some (.int (i % j)) else none
  | .pow, .int i, .int j => if 0 ≤ j ∧ j ≤ B20 ∧ i.natAbs < N64 then some (.int (i ^ j.toNat)) else none
  | .shl, .int i, .int j => if 0 ≤ j ∧ j ≤ B20 ∧ i.natAbs < N64 then some (.int (i * 2 ^ j.toNat)) else none
  | .shr, .int i, .int j => if 0 ≤ j then some (.int (i / 2 ^ j.toNat)) else none
  | .band, .int i, .int j => some (.int (Builtin.bitAnd i j))
  | .bxor, .int i, .int j => some (.int (Builtin.bitXor i j))
  | .add, .str a, .str b => if a.length + b.length ≤ sizeLine then some (.str (a ++ b)) else none
  | .add, .tup a, .tup b => if a.length + b.length ≤ sizeLine then some (.tup (a ++ b)) else none
  | .add, .lst t a, .lst u b => if t ≠ .rol ∧ u ≠ .rol then vNew (a ++ b) else none
  | _, _, _ => none
def vcmp (o : C2) (x y : VD) : Option Bool :=
  match o with
  | .eq => eqV x y
  | .ne => (eqV x y).map (!·)
  | .inn => inV x y
  | .nin => (inV x y).map (!·)
  | .isN => match y, x with
    | .non, .non => some true
    | .non, _ => some false
    | _, _ => none
  | .notN => match y, x with
    | .non, .non => some false
    | .non, _ => some true
    | _, _ => none
  | .lt => match x, y with
    | .int i, .int j => some (decide (i < j))
    | .tup a, .tup b => match vInts a, vInts b with
      | some ns, some ms => some (HT.lexLt ns ms)
      | _, _ => none
    | _, _ => none
  | .le => match x, y with
    | .int i, .int j => some (decide (i ≤ j))
    | _, _ => none
  | .gt => match x, y with
    | .int i, .int j => some (decide (j < i))
    | _, _ => none
  | .ge => match x, y with
    | .int i, .int j => some (decide (j ≤ i))
    | _, _ => none
def vix (cs : CS) (x y : VD) : Option VD :=
  match x, y with
  | .tup xs, .int i => atI xs i
  | .tupN xs, .int i => atI xs i
  | .lst _ xs, .int i => atI xs i
  | .cel n, .int i => (cs[n]?).bind fun xs => atI xs i
  | .dic _ ks vs, .tup xs => (vkey (.tup xs)).bind fun k => getK (ks.zip vs) k
  | _, _ => none
def cutV {α : Type} (xs : List α) (lo hi : Option Int) : List α := (xs.drop (HT.sIx xs.length 0 lo)).take (HT.sIx xs.length xs.length hi - HT.sIx xs.length 0 lo)
def vsl (cs : CS) (x : VD) (lo hi : Option Int) : Option VD :=
  match x with
  | .tup xs => some (.tup (cutV xs lo hi))
  | .lst _ xs => vNew (cutV xs lo hi)
  | .cel n => (cs[n]?).bind fun xs => vNew (cutV xs lo hi)
  | _ => none
def vslS (x : VD) (lo hi : Option Int) (st : Int) : Option VD :=
  match x with
  | .tup xs => if st ≠ 0 ∧ st ≠ 1 ∧ (pickT xs lo hi st).length ≤ sizeLine then some (.tup (pickT xs lo hi st)) else none
  | _ => none
def vIsT : TY → VD → Option Bool
  | _, .fn _ => none
  | .int, .int _ => some true
  | .int, .bl _ => some true
  | .bool, .bl _ => some true
  | .str, .str _ => some true
  | .tuple, .tup _ => some true
  | .tuple, .tupN _ => some true
  | _, _ => some false
def vSort (xs : List VD) : Option (List VD) := match xs.mapM (pyV 65) with
  | some ps => if (ps.all fun p => ps.all fun q => PySem.W.alike p q) && (ps.all isTupNE || ps.all isPlainK) && ps.all (fun p => decide (p.depth ≤ 64)) && decide (xs.length ≤ sizeLine)
      then some (((xs.zip ps).mergeSort (PySem.W.dataLe false Prod.snd)).map Prod.fst) else none
  | none => none
def vRng (a b : Int) : List VD := (List.range (b - a).toNat).map fun (i : Nat) => .int (a + i)
noncomputable def vbi (cs : CS) (f : BI) (ds : List VD) : Option VD :=
  match f, ds with
  | .len, [.tup xs] => some (.int xs.length)
  | .len, [.tupN xs] => some (.int xs.length)
  | .len, [.str x] => if x.length ≤ sizeLine then some (.int x.length) else none
  | .len, [.lst _ xs] => some (.int xs.length)
  | .len, [.cel n] => (cs[n]?).map fun xs => .int xs.length
  | .all, [.lst _ xs] => (vBls xs).map fun bs => .bl (bs.all id)
  | .any, [.lst _ xs] => (vBls xs).map fun bs => .bl (bs.any id)
  | .sum, [.lst _ xs] => (vInts xs).map fun bs => .int bs.sum
  | .sum, [.tup xs] => (vInts xs).map fun bs => .int bs.sum
  | .max1, [.lst _ xs] => ((vInts xs).bind maxL).map .int
  | .max1, [.tup xs] => ((vInts xs).bind maxL).map .int
  | .min1, [.lst _ xs] => ((vInts xs).bind minL).map .int
  | .min1, [.tup xs] => ((vInts xs).bind minL).map .int
  | .max2, [.int i, .int j] => some (.int (if j > i then j else i))
  | .min2, [.int i, .int j] => some (.int (if j < i then j else i))
  | .tupleOf, [.tup xs] => some (.tup xs)
  | .tupleN, [.lst _ xs] => some (.tupN xs)
  | .tupleN, [.cel n] => (cs[n]?).map fun xs => .tupN xs
  | .tupleOf, [.lst _ xs] => some (.tup xs)
  | .tupleOf, [.cel n] => (cs[n]?).map fun xs => .tup xs
  | .listOf, [.tup xs] => vNew xs
  | .listOf, [.tupN xs] => vNew xs
  | .listOf, [.lst _ xs] => vNew xs
  | .intOf, [.int i] => some (.int i)
  | .intOf, [.bl b] => some (.int (if b then 1 else 0))
  | .strOf, [.int i] => if i.natAbs.log2 < 1920 then some (.str (toString i)) else none
  | .repr, [d] => match pyV 65 d with
    | some p => if p.showable && !p.hasDict && decide (p.depth ≤ 64) && decide (p.shown.length ≤ sizeLine) then some (.str p.shown) else none
    | none => none
  | .sorted, [.lst _ xs] => (vSort xs).bind vNew
  | .sorted, [.tup xs] => (vSort xs).bind vNew
  | .isinst t, [d] => (vIsT t d).map fun b => .bl b
  | .dict0, [] => some (.dic .own [] [])
  | .listRng1, [.int n] => if rgOk 0 n = true then vNew (vRng 0 n) else none
  | .listRng2, [.int a, .int b] => if rgOk a b = true then vNew (vRng a b) else none
  | .tupRng1, [.int n] => if rgOk 0 n = true then some (.tup (vRng 0 n)) else none
  | .tupRng2, [.int a, .int b] => if rgOk a b = true then some (.tup (vRng a b)) else none
  | .tupRngD, [.int a, .int b] => if rgOk b a = true then some (.tup ((List.range (a - b).toNat).map fun (i : Nat) => .int (a - i))) else none
  | .lenSet, [.lst _ xs] => (vInts xs).bind fun ns => if ns.length ≤ 1000 then some (.int (distN ns)) else none
  | .lenSet, [.tup xs] => (vInts xs).bind fun ns => if ns.length ≤ 1000 then some (.int (distN ns)) else none
  | .sortSet, [.lst _ xs] => (xs.mapM vRow).bind fun rs => if okRows rs = true then vNew ((sortU rs).map fun r => .tup (r.map .int)) else none
  | _, _ => none
/-- a list changes: what it tells, its new items -/
noncomputable def vmut (m : MT) (xs : List VD) (ds : List VD) : Option (VD × List VD) :=
  match m, ds with
  | .append, [d] => match d.esc with
    | some e => if xs.length < sizeLine then some (.non, xs ++ [e]) else none
    | none => none
  | .extend, [.lst t ys] => if t ≠ .rol ∧ xs.length + ys.length ≤ sizeLine then some (.non, xs ++ ys) else none
  | .pop0, [] => match xs[xs.length - 1]? with
    | some y => some (y, xs.dropLast)
    | none => none
  | .reverse, [] => some (.non, xs.reverse)
  | .pop1, [.int i] => if -B63 ≤ i ∧ i < B63 then match seqIndex? i xs.length with
      | some k => match xs[k]? with
        | some y => some (y, xs.eraseIdx k)
        | none => none
      | none => none else none
  | _, _ => none
/-- a method that changes nothing -/
def vask (m : MT) (x : VD) (ds : List VD) : Option VD :=
  match m, x, ds with
  | .index, .lst _ xs, [d] => match pyV 65 (.lst .shr xs), pyV 65 d with
    | some (.list ds), some a => if SeqAt.shaped a && SeqAt.shaped (.list ds) then (ds.findIdx? fun z => PyData.eqv z a).map fun j => .int (j : Nat) else none
    | _, _ => none
  | .index, .tupN xs, [d] => match pyV 65 (.tupN xs), pyV 65 d with
    | some (.tuple ds), some a => if SeqAt.shaped a && SeqAt.shaped (.tuple ds) then (ds.findIdx? fun z => PyData.eqv z a).map fun j => .int (j : Nat) else none
    | _, _ => none
  | _, _, _ => none
noncomputable def vmt (cs : CS) (m : MT) (x : VD) (ds : List VD) : Option (VD × CS) :=
  match x with
  | .cel n => match cs[n]? with
    | some xs => (vmut m xs ds).map fun p => (p.1, cs.set n p.2)
    | none => none
  | .lst t xs => (vask m (.lst t xs) ds).map fun d => (d, cs)
  | .tupN xs => (vask m (.tupN xs) ds).map fun d => (d, cs)
  | _ => none
def vrecv (m : MT) (cs : CS) : VD → Option Unit
  | .lst _ _ => some ()
  | .tupN _ => match m with
    | .index => some ()
    | _ => none
  | .cel n => (cs[n]?).map fun _ => ()
  | _ => none
/-- a place of a cell is stored -/
def vset (cs : CS) (o i v : VD) : Option CS :=
  match o, i, v.esc with
  | .cel n, .int k, some w => match cs[n]? with
    | some xs => (ixN xs.length k).map fun j => cs.set n (xs.set j w)
    | none => none
  | _, _, _ => none
/-- a place of a name's own list or dict -/
def vput (o i v : VD) : Option VD :=
  match o, i, v.esc with
  | .lst .own xs, .int k, some w => (ixN xs.length k).map fun j => .lst .own (xs.set j w)
  | .dic .own ks vs, .tup xs, some w => if ks.length < sizeLine then (vkey (.tup xs)).map fun k => .dic .own ((setK (ks.zip vs) k w).map (·.1)) ((setK (ks.zip vs) k w).map (·.2)) else none
  | _, _, _ => none
noncomputable def vWalk (k : IK) (ds : List VD) : Option (List VD) :=
  match k, ds with
  | .val, [.tup xs] => some xs
  | .val, [.tupN xs] => some xs
  | .val, [.lst _ xs] => some xs
  | .rng1, [.int j] => if -B62 ≤ j ∧ j < B62 then some ((List.range j.toNat).map fun (i : Nat) => .int i) else none
  | .rng2, [.int i, .int j] => if -B62 ≤ i ∧ i < B62 ∧ -B62 ≤ j ∧ j < B62 then some ((List.range (j - i).toNat).map fun (k : Nat) => .int (i + k)) else none
  | .zip, [.tup xs, .tup ys] => some ((xs.zip ys).map fun p => .tup [p.1, p.2])
  | .zip, [.lst _ xs, .lst _ ys] => some ((xs.zip ys).map fun p => .tup [p.1, p.2])
  | _, _ => none
def bindV (t : TGt) (d : VD) (en : VEn) : Option VEn :=
  match t, d with
  | .name i, d => some (en.set i (some d))
  | .tup is, .tup ds => if is.length = ds.length then some ((is.zip ds).foldl (fun e p => e.set p.1 (some p.2)) en) else none
  | _, _ => none
def wipeV (en : VEn) (is : List Nat) : VEn := is.foldr (fun i e => e.set i none) en
def vInt : VD → Option Int
  | .int i => some i
  | _ => none
def vFn : VD → Option Nat
  | .fn f => some f
  | _ => none
def vPick (ks : List (Str × Int)) : VD → Option (Option Int)
  | .str s => pickS ks s
  | _ => none
def vTru : VD → Option Bool
  | .non => some false
  | .tup xs => some (!xs.isEmpty)
  | _ => none
def vBl : VD → Option Bool
  | .bl b => some b
  | _ => none
def optM (om : Bool) (w : CS → M VD) (cs : CS) : M (Option Int) := if om = true then some (.ok none, cs) else bM (w cs) fun y cs => oM ((vInt y).map some) cs
def tstM (om : Bool) (w : CS → M VD) (cs : CS) : M Bool := if om = true then some (.ok true, cs) else bM (w cs) fun y cs => oM (vBl y) cs
/-- nothing is raised within -/
def noX {α : Type} : M α → M α
  | some (.ok a, cs) => some (.ok a, cs)
  | _ => none
/-- a comprehension's turns -/
def turnV (one : VD → CS → M (Option VD)) : List VD → List VD → CS → M (List VD)
  | [], acc, cs => some (.ok acc, cs)
  | x :: xs, acc, cs => bM (one x cs) fun r cs => match r with
    | some y => if acc.length < sizeLine then turnV one xs (acc ++ [y]) cs else none
    | none => turnV one xs acc cs

section
variable (Φ : VPhi)
mutual
@[simp] noncomputable def vE : ME → VEn → CS → M VD
  | .omit, _, _ => none
  | .var i, en, cs => oM ((en[i]?.join).map VD.see) cs
  | .cst d, _, cs => oM (vOfD d) cs
  | .tup es, en, cs => bM (vEs es en cs) fun ds cs => oM ((escs ds).bind fun vs => if vs.length ≤ sizeLine then some (.tup vs) else none) cs
  | .lst es, en, cs => bM (vEs es en cs) fun ds cs => oM ((escs ds).bind vNew) cs
  | .bin o a b, en, cs => bM (vE a en cs) fun x cs => bM (vE b en cs) fun y cs => oM (vbin o x y) cs
  | .neg a, en, cs => bM (vE a en cs) fun x cs => oM ((vInt x).map fun i => .int (-i)) cs
  | .not a, en, cs => bM (vE a en cs) fun x cs => oM ((vBl x).map fun b => .bl (!b)) cs
  | .cmp o a b, en, cs => bM (vE a en cs) fun x cs => bM (vE b en cs) fun y cs => oM ((vcmp o x y).map .bl) cs
  | .chain o1 o2 a b c, en, cs => bM (vE a en cs) fun x cs => bM (vE b en cs) fun y cs => bM (oM (vcmp o1 x y) cs) fun k cs => if k = true then bM (vE c en cs) fun z cs => oM ((vcmp o2 y z).map .bl) cs else some (.ok (.bl false), cs)
  | .and a b, en, cs => bM (vE a en cs) fun x cs => bM (oM (vBl x) cs) fun k cs => if k = true then vE b en cs else some (.ok (.bl false), cs)
  | .or a b, en, cs => bM (vE a en cs) fun x cs => bM (oM (vBl x) cs) fun k cs => if k = true then some (.ok (.bl true), cs) else vE b en cs
  | .ite c a b, en, cs => bM (vE c en cs) fun x cs => bM (oM (vBl x) cs) fun k cs => if k = true then vE a en cs else vE b en cs
  | .ix a b, en, cs => bM (vE a en cs) fun x cs => bM (vE b en cs) fun y cs => oM (vix cs x y) cs
  | .sl a lo hi, en, cs => bM (vE a en cs) fun x cs => bM (optM (isOmit lo) (vE lo en) cs) fun l cs => bM (optM (isOmit hi) (vE hi en) cs) fun u cs => oM (vsl cs x l u) cs
  | .slS a lo hi st, en, cs => bM (vE a en cs) fun x cs => bM (optM (isOmit lo) (vE lo en) cs) fun l cs => bM (optM (isOmit hi) (vE hi en) cs) fun u cs => oM (vslS x l u st) cs
  | .call f es, en, cs => bM (vEs es en cs) fun ds cs => bM (oM (escs ds) cs) fun vs cs => Φ f vs cs
  | .callv i es, en, cs => bM (oM ((en[i]?.join).bind vFn) cs) fun f cs => bM (vEs es en cs) fun ds cs => bM (oM (escs ds) cs) fun vs cs => Φ f vs cs
  | .pick ks a b, en, cs => bM (vE a en cs) fun x cs => bM (vE b en cs) fun y cs => oM ((vPick ks x).map fun o => o.elim y .int) cs
  | .bi f es, en, cs => bM (vEs es en cs) fun ds cs => oM (vbi cs f ds) cs
  | .mt m o es, en, cs => bM (vE o en cs) fun x cs => bM (oM (vrecv m cs x) cs) fun _ cs => bM (vEs es en cs) fun ds cs => match vmt cs m x ds with
      | some p => some (.ok p.1, p.2)
      | none => none
  | .comp elt tg k its cond, en, cs => bM (vEs its en cs) fun ds cs => bM (oM (vWalk k ds) cs) fun xs cs =>
      bM (noX (turnV (fun x cs => bM (oM (bindV tg x (wipeV en tg.slots)) cs) fun en2 cs =>
        bM (tstM (isOmit cond) (vE cond en2) cs) fun b cs => if b = true then bM (vE elt en2 cs) fun y cs => oM (y.esc.map some) cs else some (.ok none, cs)) xs [] cs)) fun out cs => oM (vNew out) cs
@[simp] noncomputable def vEs : List ME → VEn → CS → M (List VD)
  | [], _, cs => some (.ok [], cs)
  | e :: es, en, cs => bM (vE e en cs) fun x cs => bM (vEs es en cs) fun xs cs => some (.ok (x :: xs), cs)
end
end
/-! ### statements -/
inductive VT where
  | expr (e : ME) | exprM (m : MT) (i : Nat) (es : List ME) | asg (i : Nat) (e : ME) | asgV (i j : Nat) | asgC (i : Nat) (e : ME) | asgP (t : TGt) (m : MT) (j : Nat) (es : List ME)
  | asgT (is : List Nat) (e : ME) | asgIx (o i e : ME) | put (i : Nat) (ie e : ME)
  | ifs (c : ME) (a b : List VT) | for_ (tg : TGt) (k : IK) (its : List ME) (body : List VT) | while_ (c : ME) (body : List VT)
  | ret (e : ME) | retV (i : Nat) | retC (e : ME) | pass | frz (i : Nat)
  | asgO (i : Nat) (a b : ME) | unr | par (i j : Nat) (a b : ME)
mutual
def VT.er : VT → List MS
  | .expr e => [.expr e]
  | .exprM m i es => [.expr (.mt m (.var i) es)]
  | .asg i e => [.asg i e]
  | .asgV i j => [.asg i (.var j)]
  | .asgC i e => [.asg i e]
  | .asgP (.name i) m j es => [.asg i (.mt m (.var j) es)]
  | .asgP (.tup is) m j es => [.asgT is (.mt m (.var j) es)]
  | .asgT is e => [.asgT is e]
  | .asgIx o i e => [.asgIx o i e]
  | .put i ie e => [.asgIx (.var i) ie e]
  | .ifs c a b => [.ifs c (ersV a) (ersV b)]
  | .for_ tg k its body => [.for_ tg k its (ersV body)]
  | .while_ c body => [.while_ c (ersV body)]
  | .ret e => [.ret e]
  | .retV i => [.ret (.var i)]
  | .retC e => [.ret e]
  | .pass => [.pass]
  | .asgO i a b => [.asgO i a b]
  | .unr => [.unr]
  | .par i j a b => [.par i j a b]
  | .frz _ => []
def ersV : List VT → List MS
  | [] => []
  | s :: ss => s.er ++ ersV ss
end
inductive SR where
  | nx (en : VEn) | rt (v : VD) | ex (x : XV) (en : VEn)
abbrev SM := Option (SR × CS)
def sM {α : Type} (m : M α) (en : VEn) (f : α → CS → SM) : SM := match m with
  | none => none
  | some (.ok a, cs) => f a cs
  | some (.ex x, cs) => some (.ex x en, cs)
def oS {α : Type} (o : Option α) (f : α → SM) : SM := match o with
  | some a => f a
  | none => none
/-- a block's next statement -/
def thS (m : SM) (f : VEn → CS → SM) : SM := match m with
  | some (.nx en, cs) => f en cs
  | r => r
def WS (m : SM) (nx : VEn → CS → Prop) (rt : VD → CS → Prop) (E : XV → VEn → CS → Prop) : Prop := match m with
  | none => False
  | some (.nx en, cs) => nx en cs
  | some (.rt v, cs) => rt v cs
  | some (.ex x en, cs) => E x en cs
def ownL : Option VD → Option (List VD)
  | some (.lst .own xs) => some xs
  | _ => none
def forV (one : VD → VEn → CS → SM) : List VD → VEn → CS → SM
  | [], en, cs => some (.nx en, cs)
  | x :: xs, en, cs => thS (one x en cs) (forV one xs)
def whileV (c : VEn → CS → M VD) (body : VEn → CS → SM) : Nat → VEn → CS → SM
  | 0, _, _ => none
  | k + 1, en, cs => sM (c en cs) en fun x cs => oS (vBl x) fun b => if b = true then thS (body en cs) (whileV c body k) else some (.nx en, cs)
def newC (cs : CS) : VD → Option (VD × CS)
  | .lst .own xs => some (.cel cs.length, cs ++ [xs])
  | _ => none
section
variable (Φ : VPhi)
mutual
@[simp] noncomputable def vS : VT → VEn → CS → SM
  | .expr e, en, cs => sM (vE Φ e en cs) en fun _ cs => some (.nx en, cs)
  | .exprM m i es, en, cs => oS (ownL (en[i]?.join)) fun xs => sM (vEs Φ es en cs) en fun ds cs => oS (vmut m xs ds) fun p => some (.nx (en.set i (some (.lst .own p.2))), cs)
  | .asg i e, en, cs => sM (vE Φ e en cs) en fun v cs => oS v.keep fun w => some (.nx (en.set i (some w)), cs)
  | .asgV i j, en, cs => oS (en[j]?.join) fun v => some (.nx ((en.set j none).set i (some v)), cs)
  | .asgC i e, en, cs => sM (vE Φ e en cs) en fun v cs => oS (newC cs v) fun p => some (.nx (en.set i (some p.1)), p.2)
  | .asgP t m j es, en, cs => oS (ownL (en[j]?.join)) fun xs => sM (vEs Φ es en cs) en fun ds cs => oS (vmut m xs ds) fun p => oS (bindV t p.1 (en.set j (some (.lst .own p.2)))) fun en2 => some (.nx en2, cs)
  | .asgT is e, en, cs => sM (vE Φ e en cs) en fun v cs => oS (bindV (.tup is) v en) fun en2 => some (.nx en2, cs)
  | .asgIx o i e, en, cs => sM (vE Φ e en cs) en fun v cs => sM (vE Φ o en cs) en fun x cs => sM (vE Φ i en cs) en fun y cs => oS (vset cs x y v) fun cs2 => some (.nx en, cs2)
  | .put i ie e, en, cs => sM (vE Φ e en cs) en fun v cs => oS (en[i]?.join) fun x => sM (vE Φ ie en cs) en fun y cs => oS (vput x y v) fun x2 => some (.nx (en.set i (some x2)), cs)
  | .ifs c a b, en, cs => sM (vE Φ c en cs) en fun x cs => oS (vBl x) fun k => if k = true then vSs a en cs else vSs b en cs
  | .for_ tg k its body, en, cs => sM (vEs Φ its en cs) en fun ds cs => oS (escs ds) fun ws => oS (vWalk k ws) fun xs => forV (fun x en2 cs => oS (bindV tg x en2) fun en3 => vSs body en3 cs) xs en cs
  | .while_ c body, en, cs => whileV (vE Φ c) (vSs body) N24 en cs
  | .ret e, en, cs => sM (vE Φ e en cs) en fun v cs => oS v.keep fun w => some (.rt w, cs)
  | .retV i, en, cs => oS (en[i]?.join) fun v => some (.rt v, cs)
  | .retC e, en, cs => sM (vE Φ e en cs) en fun v cs => oS (newC cs v) fun p => some (.rt p.1, p.2)
  | .pass, en, cs => some (.nx en, cs)
  | .asgO i a b, en, cs => sM (vE Φ a en cs) en fun v cs => oS (vTru v) fun k => if k = true then (oS v.keep fun w => some (.nx (en.set i (some w)), cs)) else sM (vE Φ b en cs) en fun v cs => oS v.keep fun w => some (.nx (en.set i (some w)), cs)
  | .unr, _, _ => none
  | .par i j a b, en, cs => sM (vEs Φ [a, b] en cs) en fun ds cs => oS (escs ds) fun ws => oS (bindV (.tup [i, j]) (.tup ws) en) fun en2 => some (.nx en2, cs)
  | .frz i, en, cs => oS (en[i]?.join) fun v => oS v.esc fun w => some (.nx (en.set i (some w)), cs)
@[simp] noncomputable def vSs : List VT → VEn → CS → SM
  | [], en, cs => some (.nx en, cs)
  | s :: ss, en, cs => thS (vS s en cs) (vSs ss)
end
end
structure VDef where
  np : Nat
  ns : Nat
  body : List VT
def VDef.er (d : VDef) : Def := ⟨d.np, d.ns, ersV d.body⟩
def endM : SM → M VD
  | none => none
  | some (.nx _, cs) => some (.ok .non, cs)
  | some (.rt v, cs) => some (.ok v, cs)
  | some (.ex x _, cs) => some (.ex x, cs)
noncomputable def callV (Pr : Nat → Option VDef) : Nat → VPhi
  | 0, _, _, _ => none
  | n + 1, f, vs, cs => match Pr f with
    | some d => if vs.length = d.np then endM (vSs (callV Pr n) d.body (vs.map some ++ List.replicate d.ns none) cs) else none
    | none => none
end Mp
namespace Mp
open PySem PySem.Spec PyProof.Rows L2

mutual
/-- a value that stays, in the heap -/
inductive VC (F : Nat → Prop) (κ : List Nat) (h : MH) : VD → D → Prop
  | non : VC F κ h .non .non
  | bl (b : Bool) : VC F κ h (.bl b) (.bl b)
  | int (i : Int) : VC F κ h (.int i) (.int i)
  | str (x : Str) : VC F κ h (.str x) (.str x)
  | fn (f : Nat) : VC F κ h (.fn f) (.fn f)
  | tup {xs : List VD} {ds : List D} : VCs F κ h xs ds → VC F κ h (.tup xs) (.tup ds)
  | tupN {xs : List VD} {ds : List D} : VCs F κ h xs ds → VC F κ h (.tupN xs) (.tupN ds)
  | lst {xs : List VD} {ds : List D} {n : Nat} : F n → h[n]? = some (.lst ds) → VCs F κ h xs ds → VC F κ h (.lst .shr xs) (.ref n)
  | rol {xs : List VD} {ds : List D} {n : Nat} : F n → h[n]? = some (.rol ds) → VCs F κ h xs ds → VC F κ h (.lst .rol xs) (.ref n)
  | dic {ks : List (List Key)} {vs : List VD} {kvs : List (List Key × D)} {n : Nat} : F n → h[n]? = some (.dic kvs) → kvs.map (·.1) = ks → VCs F κ h vs (kvs.map (·.2)) → VC F κ h (.dic .shr ks vs) (.ref n)
  | cel {j n : Nat} : κ[j]? = some n → VC F κ h (.cel j) (.ref n)
inductive VCs (F : Nat → Prop) (κ : List Nat) (h : MH) : List VD → List D → Prop
  | nil : VCs F κ h [] []
  | cons {v : VD} {d : D} {vs : List VD} {ds : List D} : VC F κ h v d → VCs F κ h vs ds → VCs F κ h (v :: vs) (d :: ds)
end
/-- a value that stays, or one that nobody else has -/
inductive VTp (F : Nat → Prop) (κ : List Nat) (h : MH) : VD → D → Prop
  | c {v : VD} {d : D} : VC F κ h v d → VTp F κ h v d
  | lst {t : Tg} {xs : List VD} {ds : List D} {n : Nat} : t = .own ∨ t = .bor → ¬ F n → n ∉ κ → h[n]? = some (.lst ds) → VCs F κ h xs ds → VTp F κ h (.lst t xs) (.ref n)
  | dic {t : Tg} {ks : List (List Key)} {vs : List VD} {kvs : List (List Key × D)} {n : Nat} : t = .own ∨ t = .bor → ¬ F n → n ∉ κ → h[n]? = some (.dic kvs) → kvs.map (·.1) = ks → VCs F κ h vs (kvs.map (·.2)) → VTp F κ h (.dic t ks vs) (.ref n)
def VD.own : VD → Bool
  | .lst .own _ => true
  | .dic .own _ _ => true
  | _ => false
/-- an own one is new: it lies behind L -/
def New (L : Nat) (v : VD) (d : D) : Prop := v.own = true → ∃ n, d = .ref n ∧ L ≤ n
structure GH (F : Nat → Prop) (κ : List Nat) (h : MH) (cs : CS) : Prop where
  len : κ.length = cs.length
  nd : κ.Nodup
  df : ∀ n ∈ κ, ¬ F n
  fl : ∀ n, F n → n < h.length
  at_ : ∀ (j : Nat) (c : List VD) (n : Nat), cs[j]? = some c → κ[j]? = some n → ∃ ds, h[n]? = some (.lst ds) ∧ VCs F κ h c ds
structure Xt (L : Nat) (F : Nat → Prop) (κ : List Nat) (h : MH) (F2 : Nat → Prop) (κ2 : List Nat) (h2 : MH) : Prop where
  fs : ∀ n, F n → F2 n
  fn : ∀ n, F2 n → F n ∨ L ≤ n
  kp : ∃ t, κ2 = κ ++ t ∧ ∀ n ∈ t, L ≤ n
  ln : h.length ≤ h2.length
  lo : ∀ n, n < L → n ∉ κ → h2[n]? = h[n]?
  ff : ∀ n, F n → h2[n]? = h[n]?
section
variable {F F1 F2 : Nat → Prop} {κ κ1 κ2 : List Nat} {h h1 h2 : MH} {cs cs1 cs2 : CS} {L L2 : Nat}
theorem Xt.refl : Xt L F κ h F κ h := ⟨fun _ x => x, fun _ x => .inl x, ⟨[], by simp⟩, Nat.le_refl _, fun _ _ _ => rfl, fun _ _ => rfl⟩
theorem Xt.trans (a : Xt L F κ h F1 κ1 h1) (b : Xt L F1 κ1 h1 F2 κ2 h2) : Xt L F κ h F2 κ2 h2 := by
  obtain ⟨t, rfl, ht⟩ := a.kp
  obtain ⟨u, rfl, hu⟩ := b.kp
  refine ⟨fun n x => b.fs n (a.fs n x), fun n x => ?_, ⟨t ++ u, by rw [List.append_assoc], fun n m => ?_⟩, Nat.le_trans a.ln b.ln, fun n l nk => ?_, fun n x => ?_⟩
  · rcases b.fn n x with y | y
    · exact a.fn n y
    · exact .inr y
  · rcases List.mem_append.mp m with m | m
    · exact ht n m
    · exact hu n m
  · rw [b.lo n l, a.lo n l nk]
    intro m
    rcases List.mem_append.mp m with m | m
    · exact nk m
    · exact absurd (ht n m) (by omega)
  · rw [b.ff n (a.fs n x), a.ff n x]
theorem Xt.low (a : Xt L F κ h F1 κ1 h1) (hl : L2 ≤ L) : Xt L2 F κ h F1 κ1 h1 := by
  obtain ⟨t, rfl, ht⟩ := a.kp
  exact ⟨a.fs, fun n x => (a.fn n x).imp id fun y => Nat.le_trans hl y, ⟨t, rfl, fun n m => Nat.le_trans hl (ht n m)⟩, a.ln, fun n l nk => a.lo n (Nat.lt_of_lt_of_le l hl) nk, a.ff⟩
mutual
theorem VC.mono (x : Xt L F κ h F2 κ2 h2) : ∀ (v : VD) (d : D), VC F κ h v d → VC F2 κ2 h2 v d
  | .non, _, r => by cases r; exact .non
  | .bl b, _, r => by cases r; exact .bl b
  | .int i, _, r => by cases r; exact .int i
  | .str s, _, r => by cases r; exact .str s
  | .fn s, _, r => by cases r; exact .fn s
  | .tup xs, _, r => by cases r with | tup r => exact .tup (VCs.mono x xs _ r)
  | .tupN xs, _, r => by cases r with | tupN r => exact .tupN (VCs.mono x xs _ r)
  | .lst t xs, _, r => by
    cases r with
    | lst f e r => exact .lst (x.fs _ f) (by rw [x.ff _ f]; exact e) (VCs.mono x xs _ r)
    | rol f e r => exact .rol (x.fs _ f) (by rw [x.ff _ f]; exact e) (VCs.mono x xs _ r)
  | .dic t ks vs, _, r => by
    cases r with
    | dic f e k r => exact .dic (x.fs _ f) (by rw [x.ff _ f]; exact e) k (VCs.mono x vs _ r)
  | .cel j, _, r => by
    cases r with
    | cel e =>
      obtain ⟨t, rfl, _⟩ := x.kp
      exact .cel (by rw [List.getElem?_append_left (List.getElem?_eq_some_iff.mp e).1]; exact e)
theorem VCs.mono (x : Xt L F κ h F2 κ2 h2) : ∀ (v : List VD) (d : List D), VCs F κ h v d → VCs F2 κ2 h2 v d
  | [], _, r => by cases r; exact .nil
  | v :: vs, _, r => by cases r with | cons r s => exact .cons (VC.mono x v _ r) (VCs.mono x vs _ s)
end
theorem VC.up {v : VD} {d : D} (r : VC F κ h v d) (x : Xt L F κ h F2 κ2 h2) : VC F2 κ2 h2 v d := VC.mono x v d r
theorem VCs.up {v : List VD} {d : List D} (r : VCs F κ h v d) (x : Xt L F κ h F2 κ2 h2) : VCs F2 κ2 h2 v d := VCs.mono x v d r
theorem h_lt {n : Nat} {o : MO} (e : h[n]? = some o) : n < h.length := (List.getElem?_eq_some_iff.mp e).1
/-- one that nobody else has, behind what is new -/
theorem VTp.up {v : VD} {d : D} (r : VTp F κ h v d) (x : Xt h.length F κ h F2 κ2 h2) : VTp F2 κ2 h2 v d := by
  have out : ∀ n, n < h.length → ¬ F n → ¬ F2 n := fun n l nf f2 => by
    rcases x.fn n f2 with y | y
    · exact nf y
    · omega
  have outk : ∀ n, n < h.length → n ∉ κ → n ∉ κ2 := fun n l nk m => by
    obtain ⟨t, rfl, ht⟩ := x.kp
    rcases List.mem_append.mp m with m | m
    · exact nk m
    · exact absurd (ht n m) (by omega)
  cases r with
  | c r => exact .c (r.up x)
  | lst t nf nk e r => exact .lst t (out _ (h_lt e) nf) (outk _ (h_lt e) nk) (by rw [x.lo _ (h_lt e) nk]; exact e) (r.up x)
  | dic t nf nk e k r => exact .dic t (out _ (h_lt e) nf) (outk _ (h_lt e) nk) (by rw [x.lo _ (h_lt e) nk]; exact e) k (r.up x)
/-- tops -/
inductive VTs (F : Nat → Prop) (κ : List Nat) (h : MH) : List VD → List D → Prop
  | nil : VTs F κ h [] []
  | cons {v : VD} {d : D} {vs : List VD} {ds : List D} : VTp F κ h v d → VTs F κ h vs ds → VTs F κ h (v :: vs) (d :: ds)
inductive News (L : Nat) : List VD → List D → Prop
  | nil : News L [] []
  | cons {v : VD} {d : D} {vs : List VD} {ds : List D} : New L v d → News L vs ds → News L (v :: vs) (d :: ds)
theorem VTs.up : ∀ {v : List VD} {d : List D}, VTs F κ h v d → Xt h.length F κ h F2 κ2 h2 → VTs F2 κ2 h2 v d
  | _, _, .nil, _ => .nil
  | _, _, .cons a b, x => .cons (a.up x) (VTs.up b x)
theorem New.low {v : VD} {d : D} (a : New L v d) (hl : L2 ≤ L) : New L2 v d := fun e => let ⟨n, e1, l⟩ := a e; ⟨n, e1, Nat.le_trans hl l⟩
theorem News.low : ∀ {v : List VD} {d : List D}, News L v d → L2 ≤ L → News L2 v d
  | _, _, .nil, _ => .nil
  | _, _, .cons a b, x => .cons (a.low x) (News.low b x)
theorem New.of {v : VD} {d : D} (e : v.own = false) : New L v d := fun z => by rw [e] at z; cases z
theorem VC.new {v : VD} {d : D} (r : VC F κ h v d) : New L v d := by
  cases r <;> exact .of rfl
theorem VCs.length : ∀ {vs : List VD} {ds : List D}, VCs F κ h vs ds → vs.length = ds.length
  | _, _, .nil => rfl
  | _, _, .cons _ t => by rw [List.length_cons, List.length_cons, VCs.length t]
theorem VTs.length : ∀ {vs : List VD} {ds : List D}, VTs F κ h vs ds → vs.length = ds.length
  | _, _, .nil => rfl
  | _, _, .cons _ t => by rw [List.length_cons, List.length_cons, VTs.length t]
theorem VCs.get : ∀ {vs : List VD} {ds : List D} {i : Nat} {v : VD}, VCs F κ h vs ds → vs[i]? = some v → ∃ d, ds[i]? = some d ∧ VC F κ h v d
  | _, _, _, _, .nil, e => by simp at e
  | _, _, 0, _, .cons r _, e => by simp at e; subst e; exact ⟨_, rfl, r⟩
  | _, _, i + 1, d, .cons _ t, e => by
    obtain ⟨u, h1, h2⟩ := VCs.get (i := i) (v := d) t (by simpa using e)
    exact ⟨u, by simpa using h1, h2⟩
theorem VCs.app : ∀ {xs ys : List VD} {us ws : List D}, VCs F κ h xs us → VCs F κ h ys ws → VCs F κ h (xs ++ ys) (us ++ ws)
  | _, _, _, _, .nil, s => s
  | _, _, _, _, .cons r t, s => .cons r (VCs.app t s)
theorem VCs.take : ∀ {xs : List VD} {us : List D} (n : Nat), VCs F κ h xs us → VCs F κ h (xs.take n) (us.take n)
  | _, _, 0, _ => .nil
  | _, _, _ + 1, .nil => .nil
  | _, _, n + 1, .cons r t => .cons r (VCs.take n t)
theorem VCs.drop : ∀ {xs : List VD} {us : List D} (n : Nat), VCs F κ h xs us → VCs F κ h (xs.drop n) (us.drop n)
  | _, _, 0, r => r
  | _, _, _ + 1, .nil => .nil
  | _, _, n + 1, .cons _ t => VCs.drop n t
theorem VCs.set {v : VD} {d : D} (r : VC F κ h v d) : ∀ {xs : List VD} {us : List D} (i : Nat), VCs F κ h xs us → VCs F κ h (xs.set i v) (us.set i d)
  | _, _, _, .nil => .nil
  | _, _, 0, .cons _ t => .cons r t
  | _, _, i + 1, .cons q t => .cons q (VCs.set r i t)
theorem VCs.erase : ∀ {xs : List VD} {us : List D} (i : Nat), VCs F κ h xs us → VCs F κ h (xs.eraseIdx i) (us.eraseIdx i)
  | _, _, _, .nil => .nil
  | _, _, 0, .cons _ t => t
  | _, _, i + 1, .cons q t => .cons q (VCs.erase i t)
theorem VCs.rev {xs : List VD} {us : List D} (r : VCs F κ h xs us) : VCs F κ h xs.reverse us.reverse := by
  induction xs generalizing us with
  | nil => cases r; exact .nil
  | cons x xs ih =>
    cases r with
    | cons r t => rw [List.reverse_cons, List.reverse_cons]; exact (ih t).app (.cons r .nil)
theorem VCs.dropLast {xs : List VD} {us : List D} (r : VCs F κ h xs us) : VCs F κ h xs.dropLast us.dropLast := by
  rw [List.dropLast_eq_take, List.dropLast_eq_take, r.length]; exact r.take _
theorem VCs.cut {xs : List VD} {us : List D} (r : VCs F κ h xs us) (lo hi : Option Int) : VCs F κ h (cutV xs lo hi) (cutD us lo hi) := by
  unfold cutV cutD
  rw [r.length]
  exact (r.drop _).take _
theorem VCs.picks {xs : List VD} {us : List D} (r : VCs F κ h xs us) (f : Nat → Nat) : ∀ l : List Nat, VCs F κ h (l.filterMap fun k => xs[f k]?) (l.filterMap fun k => us[f k]?)
  | [] => .nil
  | k :: l => by
    rw [List.filterMap_cons, List.filterMap_cons]
    cases e : xs[f k]? with
    | none =>
      have : us[f k]? = none := by
        rw [List.getElem?_eq_none_iff] at e ⊢
        rw [← r.length]; exact e
      rw [this]
      exact VCs.picks r f l
    | some v =>
      obtain ⟨d, e1, r1⟩ := r.get e
      rw [e1]
      exact .cons r1 (VCs.picks r f l)
theorem VCs.pick {xs : List VD} {us : List D} (r : VCs F κ h xs us) (lo hi : Option Int) (st : Int) : VCs F κ h (pickT xs lo hi st) (pickT us lo hi st) := by
  unfold pickT
  rw [r.length]
  exact r.picks _ _
theorem VCs.zip : ∀ {xs ys : List VD} {us ws : List D}, VCs F κ h xs us → VCs F κ h ys ws → VCs F κ h ((xs.zip ys).map fun p => .tup [p.1, p.2]) ((us.zip ws).map fun p => .tup [p.1, p.2])
  | _, _, _, _, .nil, _ => .nil
  | _, _, _, _, .cons _ _, .nil => .nil
  | _, _, _, _, .cons r t, .cons r2 t2 => .cons (.tup (.cons r (.cons r2 .nil))) (VCs.zip t t2)
theorem VCs.tops : ∀ {vs : List VD} {ds : List D}, VCs F κ h vs ds → VTs F κ h vs ds
  | _, _, .nil => .nil
  | _, _, .cons a b => .cons (.c a) (VCs.tops b)
theorem VCs.ints : ∀ {xs : List VD} {us : List D} {ns : List Int}, VCs F κ h xs us → vInts xs = some ns → allInts us = some ns
  | _, _, _, .nil, e => e
  | v :: vs, _, ns, .cons r t, e => by
    cases r with
    | int i =>
      obtain ⟨ms, e1, rfl⟩ := Option.map_eq_some_iff.mp (show (vInts vs).map (i :: ·) = some ns from e)
      show (allInts _).map (i :: ·) = _
      rw [VCs.ints t e1]
      rfl
    | _ => cases e
theorem VCs.rows : ∀ {xs : List VD} {us : List D} {rs : List (List Int)}, VCs F κ h xs us → xs.mapM vRow = some rs → us.mapM rowD = some rs
  | _, _, _, .nil, e => e
  | v :: vs, _, rs, .cons (d := d) (ds := ds) r t, e => by
    rw [List.mapM_cons] at e ⊢
    cases e1 : vRow v with
    | none => rw [e1] at e; cases e
    | some z =>
      rw [e1] at e
      cases e2 : vs.mapM vRow with
      | none => rw [e2] at e; cases e
      | some zs =>
        rw [e2] at e
        cases r with
        | tup q =>
          have e3 : rowD (.tup _) = some z := q.ints (show vInts _ = some z from e1)
          rw [e3, VCs.rows t e2]
          exact e
        | _ => cases e1
theorem ints_rel2 : ∀ ns : List Int, VCs F κ h (ns.map .int) (ns.map .int)
  | [] => .nil
  | _ :: ns => .cons (.int _) (ints_rel2 ns)
theorem rows_rel2 : ∀ rs : List (List Int), VCs F κ h (rs.map fun r => VD.tup (r.map .int)) (rs.map fun r => D.tup (r.map .int))
  | [] => .nil
  | r :: rs => .cons (.tup (ints_rel2 r)) (rows_rel2 rs)
theorem down_rel2 (a : Int) : ∀ l : List Nat, VCs F κ h (l.map fun (i : Nat) => VD.int (a - i)) (l.map fun (i : Nat) => D.int (a - i))
  | [] => .nil
  | _ :: l => .cons (.int _) (down_rel2 a l)
theorem VCs.app' : ∀ {xs ys : List VD} {us ws : List D}, VCs F κ h xs us → VCs F κ h ys ws → VCs F κ h (xs ++ ys) (us ++ ws)
  | _, _, _, _, .nil, b => b
  | _, _, _, _, .cons r t, b => .cons r (VCs.app' t b)
theorem VCs.many {xs : List VD} {us : List D} (r : VCs F κ h xs us) : ∀ n : Nat, VCs F κ h (List.replicate n xs).flatten (List.replicate n us).flatten
  | 0 => .nil
  | n + 1 => by
    rw [List.replicate_succ, List.replicate_succ, List.flatten_cons, List.flatten_cons]
    exact r.app' (r.many n)
theorem VCs.bls : ∀ {xs : List VD} {us : List D} {ns : List Bool}, VCs F κ h xs us → vBls xs = some ns → allBls us = some ns
  | _, _, _, .nil, e => e
  | v :: vs, _, ns, .cons r t, e => by
    cases r with
    | bl i =>
      obtain ⟨ms, e1, rfl⟩ := Option.map_eq_some_iff.mp (show (vBls vs).map (i :: ·) = some ns from e)
      show (allBls _).map (i :: ·) = _
      rw [VCs.bls t e1]
      rfl
    | _ => cases e
theorem lstAt_l {n : Nat} {ds : List D} (e : h[n]? = some (.lst ds)) : lstAt h n = some ds := by unfold lstAt; rw [e]; rfl
theorem lstAt_r {n : Nat} {ds : List D} (e : h[n]? = some (.rol ds)) : lstAt h n = some ds := by unfold lstAt; rw [e]; rfl
/-- any list is read -/
theorem VTp.items {t : Tg} {xs : List VD} {d : D} (r : VTp F κ h (.lst t xs) d) : ∃ n ds, d = .ref n ∧ lstAt h n = some ds ∧ VCs F κ h xs ds ∧ (t ≠ .rol → h[n]? = some (.lst ds)) := by
  cases r with
  | c r =>
    cases r with
    | lst f e r => exact ⟨_, _, rfl, lstAt_l e, r, fun _ => e⟩
    | rol f e r => exact ⟨_, _, rfl, lstAt_r e, r, fun z => absurd rfl z⟩
  | lst t nf nk e r => exact ⟨_, _, rfl, lstAt_l e, r, fun _ => e⟩
theorem VTp.dict {t : Tg} {ks : List (List Key)} {vs : List VD} {d : D} (r : VTp F κ h (.dic t ks vs) d) : ∃ n kvs, d = .ref n ∧ h[n]? = some (.dic kvs) ∧ kvs.map (·.1) = ks ∧ VCs F κ h vs (kvs.map (·.2)) := by
  cases r with
  | c r =>
    cases r with
    | dic f e k r => exact ⟨_, _, rfl, e, k, r⟩
  | dic t nf nk e k r => exact ⟨_, _, rfl, e, k, r⟩
theorem VTp.cell {j : Nat} {d : D} (r : VTp F κ h (.cel j) d) : ∃ n, d = .ref n ∧ κ[j]? = some n := by
  cases r with
  | c r =>
    cases r with
    | cel e => exact ⟨_, rfl, e⟩
theorem VTp.tup_ {xs : List VD} {d : D} (r : VTp F κ h (.tup xs) d) : ∃ ds, d = .tup ds ∧ VCs F κ h xs ds := by
  cases r with
  | c r =>
    cases r with
    | tup e => exact ⟨_, rfl, e⟩
theorem VTp.tupN_ {xs : List VD} {d : D} (r : VTp F κ h (.tupN xs) d) : ∃ ds, d = .tupN ds ∧ VCs F κ h xs ds := by
  cases r with
  | c r =>
    cases r with
    | tupN e => exact ⟨_, rfl, e⟩
theorem VTp.int_ {i : Int} {d : D} (r : VTp F κ h (.int i) d) : d = .int i := by
  cases r with | c r => cases r; rfl
theorem VTp.bl_ {i : Bool} {d : D} (r : VTp F κ h (.bl i) d) : d = .bl i := by
  cases r with | c r => cases r; rfl
theorem VTp.str_ {i : Str} {d : D} (r : VTp F κ h (.str i) d) : d = .str i := by
  cases r with | c r => cases r; rfl
theorem VTp.non_ {d : D} (r : VTp F κ h .non d) : d = .non := by
  cases r with | c r => cases r; rfl
mutual
theorem VC.py : ∀ (v : VD) (n : Nat) (d : D) (p : PyData), VC F κ h v d → pyV n v = some p → pyD n h d = some p
  | v, 0, _, _, _, e => by cases e
  | .non, _ + 1, _, _, r, e => by cases r; exact e
  | .bl _, _ + 1, _, _, r, e => by cases r; exact e
  | .int _, _ + 1, _, _, r, e => by cases r; exact e
  | .str _, _ + 1, _, _, r, e => by cases r; exact e
  | .fn _, _ + 1, _, _, r, e => by cases e
  | .cel _, _ + 1, _, _, r, e => by cases e
  | .dic _ _ _, _ + 1, _, _, r, e => by cases e
  | .tup xs, n + 1, _, p, r, e => by
    cases r with
    | tup r =>
      obtain ⟨ps, e1, rfl⟩ := Option.map_eq_some_iff.mp (show (xs.mapM (pyV n)).map PyData.tuple = some p from e)
      show (List.mapM (pyD n h) _).map PyData.tuple = _
      rw [VCs.py xs n _ ps r e1]
      rfl
  | .tupN xs, n + 1, _, p, r, e => by
    cases r with
    | tupN r =>
      obtain ⟨ps, e1, rfl⟩ := Option.map_eq_some_iff.mp (show (xs.mapM (pyV n)).map PyData.tuple = some p from e)
      show (List.mapM (pyD n h) _).map PyData.tuple = _
      rw [VCs.py xs n _ ps r e1]
      rfl
  | .lst t xs, n + 1, _, p, r, e => by
    obtain ⟨ps, e1, rfl⟩ := Option.map_eq_some_iff.mp (show (xs.mapM (pyV n)).map PyData.list = some p from e)
    cases r with
    | lst f e0 r =>
      show (match lstAt h _ with | some xs => (List.mapM (pyD n h) xs).map PyData.list | none => none) = _
      rw [lstAt_l e0]
      show (List.mapM (pyD n h) _).map PyData.list = _
      rw [VCs.py xs n _ ps r e1]
      rfl
    | rol f e0 r =>
      show (match lstAt h _ with | some xs => (List.mapM (pyD n h) xs).map PyData.list | none => none) = _
      rw [lstAt_r e0]
      show (List.mapM (pyD n h) _).map PyData.list = _
      rw [VCs.py xs n _ ps r e1]
      rfl
theorem VCs.py : ∀ (vs : List VD) (n : Nat) (ds : List D) (ps : List PyData), VCs F κ h vs ds → vs.mapM (pyV n) = some ps → ds.mapM (pyD n h) = some ps
  | [], n, _, ps, r, e => by cases r; exact e
  | v :: vs, n, _, ps, r, e => by
    cases r with
    | cons r s =>
      rw [List.mapM_cons] at e ⊢
      cases e1 : pyV n v with
      | none => rw [e1] at e; cases e
      | some q =>
        rw [e1] at e
        cases e2 : vs.mapM (pyV n) with
        | none => rw [e2] at e; cases e
        | some qs =>
          rw [e2] at e
          rw [VC.py v n _ q r e1, VCs.py vs n _ qs s e2]
          exact e
end
theorem VTp.py {v : VD} {n : Nat} {d : D} {p : PyData} (r : VTp F κ h v d) (e : pyV n v = some p) : pyD n h d = some p := by
  cases n with
  | zero => cases e
  | succ n =>
    cases r with
    | c r => exact VC.py v _ d p r e
    | @lst t xs ds m ht nf nk e0 r =>
      obtain ⟨ps, e1, rfl⟩ := Option.map_eq_some_iff.mp (show (xs.mapM (pyV n)).map PyData.list = some p from e)
      show (match lstAt h m with | some xs => (List.mapM (pyD n h) xs).map PyData.list | none => none) = _
      rw [lstAt_l e0]
      show (List.mapM (pyD n h) _).map PyData.list = _
      rw [VCs.py xs n _ ps r e1]
      rfl
    | dic => cases e
end
end Mp
namespace Mp
open PySem PySem.Spec PyProof.Rows L2
/-- what follows a value -/
def Cn (L : Nat) (F : Nat → Prop) (κ : List Nat) (h : MH) (cs2 : CS) (v : VD) (Q : QV) : Prop := ∀ F2 κ2 h2 d, Xt L F κ h F2 κ2 h2 → GH F2 κ2 h2 cs2 → VTp F2 κ2 h2 v d → New L v d → Q d h2
section
variable {F F1 F2 : Nat → Prop} {κ κ1 κ2 : List Nat} {h h1 h2 : MH} {cs cs1 cs2 : CS} {L L2 : Nat} {v x y : VD} {d dx dy : D} {xs : List VD} {ds : List D} {Q : QV}
theorem Cn.here (k : Cn L F κ h cs v Q) (G : GH F κ h cs) (r : VC F κ h v d) : Q d h := k F κ h d .refl G (.c r) r.new
theorem GH.app {o : MO} (G : GH F κ h cs) : GH F κ (h ++ [o]) cs := by
  refine ⟨G.len, G.nd, G.df, fun n f => by have := G.fl n f; simp; omega, fun j c n e1 e2 => ?_⟩
  obtain ⟨ds, e, r⟩ := G.at_ j c n e1 e2
  have x : Xt 0 F κ h F κ (h ++ [o]) := ⟨fun _ x => x, fun _ x => .inl x, ⟨[], by simp⟩, by simp, fun n l => by omega, fun n f => List.getElem?_append_left (G.fl n f)⟩
  exact ⟨ds, by rw [List.getElem?_append_left (h_lt e)]; exact e, r.up x⟩
theorem Xt.app {o : MO} (G : GH F κ h cs) : Xt h.length F κ h F κ (h ++ [o]) :=
  ⟨fun _ x => x, fun _ x => .inl x, ⟨[], by simp⟩, by simp, fun n l _ => List.getElem?_append_left l, fun n f => List.getElem?_append_left (G.fl n f)⟩
theorem GH.knot (G : GH F κ h cs) : h.length ∉ κ := fun m => by
  obtain ⟨j, hj⟩ := List.mem_iff_getElem?.mp m
  have hl : j < cs.length := by rw [← G.len]; exact (List.getElem?_eq_some_iff.mp hj).1
  obtain ⟨ds, e, _⟩ := G.at_ j cs[j] h.length (List.getElem?_eq_getElem hl) hj
  have := h_lt e
  omega
theorem GH.fnot (G : GH F κ h cs) : ¬ F h.length := fun m => by have := G.fl _ m; omega
theorem Cn.lst (k : Cn h.length F κ h cs v Q) (G : GH F κ h cs) (r : VCs F κ h xs ds) (e : vNew xs = some v) : PQ (newL h ds) Q := by
  unfold vNew at e
  split at e
  · rename_i hz
    cases e
    unfold newL
    rw [if_pos (by rw [← r.length]; exact hz)]
    refine k F κ _ (.ref h.length) (Xt.app G) G.app ?_ fun _ => ⟨_, rfl, Nat.le_refl _⟩
    exact .lst (.inl rfl) G.fnot G.knot (by simp) (r.up (Xt.app (o := .lst ds) G))
  · cases e
theorem Cn.dic0 (k : Cn h.length F κ h cs (.dic .own [] []) Q) (G : GH F κ h cs) : Q (.ref h.length) (h ++ [.dic []]) :=
  k F κ _ (.ref h.length) (Xt.app G) G.app (.dic (kvs := []) (.inl rfl) G.fnot G.knot (by simp) rfl .nil) fun _ => ⟨_, rfl, Nat.le_refl _⟩
theorem vbin_ok {o : B2} (e : vbin o x y = some v) (G : GH F κ h cs) (rx : VTp F κ h x dx) (ry : VTp F κ h y dy) (k : Cn h.length F κ h cs v Q) : PQ (binop o dx dy h) Q := by
  cases x with
  | int i =>
    cases y with
    | int j =>
      cases rx.int_; cases ry.int_
      cases o with
      | add => cases e; exact k.here G (.int _)
      | sub => cases e; exact k.here G (.int _)
      | band => cases e; exact k.here G (.int _)
      | bxor => cases e; exact k.here G (.int _)
      | mul =>
        simp only [vbin] at e
        split at e
        · rename_i c; cases e; simp only [binop, if_pos c]; exact k.here G (.int _)
        · cases e
      | fdiv =>
        simp only [vbin] at e
        split at e
        · rename_i c; cases e; simp only [binop, if_pos c]; exact k.here G (.int _)
        · cases e
      | mod =>
        simp only [vbin] at e
        split at e
        · rename_i c; cases e; simp only [binop, if_pos c]; exact k.here G (.int _)
        · cases e
      | pow =>
        simp only [vbin] at e
        split at e
        · rename_i c; cases e; simp only [binop, if_pos c]; exact k.here G (.int _)
        · cases e
      | shl =>
        simp only [vbin] at e
        split at e
        · rename_i c; cases e; simp only [binop, if_pos c]; exact k.here G (.int _)
        · cases e
      | shr =>
        simp only [vbin] at e
        split at e
        · rename_i c; cases e; simp only [binop, if_pos c]; exact k.here G (.int _)
        · cases e
    | _ => cases o <;> cases e
  | str i =>
    cases y with
    | str j =>
      cases rx.str_; cases ry.str_
      cases o with
      | add =>
        simp only [vbin] at e
        split at e
        · rename_i c; cases e; simp only [binop, if_pos c]; exact k.here G (.str _)
        · cases e
      | _ => cases e
    | _ => cases o <;> cases e
  | tup i =>
    cases y with
    | tup j =>
      obtain ⟨ds, rfl, r1⟩ := rx.tup_
      obtain ⟨es, rfl, r2⟩ := ry.tup_
      cases o with
      | add =>
        simp only [vbin] at e
        split at e
        · rename_i c; cases e; simp only [binop, if_pos (show ds.length + es.length ≤ sizeLine by rw [← r1.length, ← r2.length]; exact c)]; exact k.here G (.tup (r1.app r2))
        · cases e
      | _ => cases e
    | int n =>
      cases ry.int_
      obtain ⟨ds, rfl, r1⟩ := rx.tup_
      cases o with
      | mul =>
        have e : (if i ≠ [] ∧ 2 ≤ n ∧ n ≤ 1000 ∧ i.length ≤ 1000 then some (VD.tup (List.replicate n.toNat i).flatten) else none) = some v := e
        split at e
        · rename_i c
          cases e
          show PQ (if ds ≠ [] ∧ 2 ≤ n ∧ n ≤ 1000 ∧ ds.length ≤ 1000 then some (D.tup (List.replicate n.toNat ds).flatten, h) else none) Q
          have hl := r1.length
          rw [if_pos ⟨fun z => c.1 (by rw [z] at hl; exact List.eq_nil_of_length_eq_zero (by simpa using hl)), c.2.1, c.2.2.1, by rw [← hl]; exact c.2.2.2⟩]
          exact k.here G (.tup (r1.many _))
        · cases e
      | _ => cases e
    | _ => cases o <;> cases e
  | lst t i =>
    cases y with
    | lst u j =>
      obtain ⟨n, ds, rfl, _, r1, q1⟩ := rx.items
      obtain ⟨m, es, rfl, _, r2, q2⟩ := ry.items
      cases o with
      | add =>
        simp only [vbin] at e
        split at e
        · rename_i c
          simp only [binop, q1 c.1, q2 c.2]
          exact k.lst G (r1.app r2) e
        · cases e
      | _ => cases e
    | _ => cases o <;> cases e
  | _ => cases o <;> cases e
theorem VC.key1 : ∀ {v : VD} {d : D} {k : Key}, VC F κ h v d → vkey1 v = some k → keyOf1 d = some k := by
  intro v d k r e
  cases r <;> first | exact e | cases e
theorem VCs.key1 : ∀ {v : List VD} {d : List D} {k : List Key}, VCs F κ h v d → v.mapM vkey1 = some k → d.mapM keyOf1 = some k := by
  intro v
  induction v with
  | nil => intro d k r e; cases r; exact e
  | cons v vs ih =>
    intro d k r e
    cases r with
    | cons r s =>
      rw [List.mapM_cons] at e ⊢
      cases e1 : vkey1 v with
      | none => rw [e1] at e; cases e
      | some q =>
        rw [e1] at e
        cases e2 : vs.mapM vkey1 with
        | none => rw [e2] at e; cases e
        | some qs =>
          rw [e2] at e
          rw [r.key1 e1, ih s e2]
          exact e
theorem VTp.key {k : List Key} (r : VTp F κ h v d) (e : vkey v = some k) : keyD d = some k := by
  cases v with
  | tup xs =>
    obtain ⟨ds, rfl, q⟩ := r.tup_
    exact q.key1 e
  | _ => cases e
theorem getK_rel {k : List Key} : ∀ {kvs : List (List Key × D)} {vs : List VD}, VCs F κ h vs (kvs.map (·.2)) → (∀ v, getK ((kvs.map (·.1)).zip vs) k = some v → ∃ d, getK kvs k = some d ∧ VC F κ h v d) ∧ (getK kvs k).isSome = (getK ((kvs.map (·.1)).zip vs) k).isSome
  | [], vs, r => by
    cases vs with
    | nil => exact ⟨(fun v e => by cases e), rfl⟩
    | cons _ _ => cases r
  | p :: kvs, vs, r => by
    cases r with
    | @cons v d vs ds r s =>
      obtain ⟨i1, i2⟩ := getK_rel (k := k) s
      by_cases c : p.1 = k
      · refine ⟨fun w e => ?_, ?_⟩
        · have e : (if p.1 = k then some v else getK ((kvs.map (·.1)).zip vs) k) = some w := e
          rw [if_pos c] at e
          cases e
          exact ⟨p.2, if_pos c, r⟩
        · show (if p.1 = k then some p.2 else getK kvs k).isSome = (if p.1 = k then some v else getK ((kvs.map (·.1)).zip vs) k).isSome
          rw [if_pos c, if_pos c]; rfl
      · refine ⟨fun w e => ?_, ?_⟩
        · have e : (if p.1 = k then some v else getK ((kvs.map (·.1)).zip vs) k) = some w := e
          rw [if_neg c] at e
          obtain ⟨d2, e2, r2⟩ := i1 w e
          exact ⟨d2, by show (if p.1 = k then some p.2 else getK kvs k) = _; rw [if_neg c]; exact e2, r2⟩
        · show (if p.1 = k then some p.2 else getK kvs k).isSome = (if p.1 = k then some v else getK ((kvs.map (·.1)).zip vs) k).isSome
          rw [if_neg c, if_neg c]; exact i2
theorem setK_rel {k : List Key} {w : VD} {e : D} (rw_ : VC F κ h w e) : ∀ {kvs : List (List Key × D)} {vs : List VD}, VCs F κ h vs (kvs.map (·.2)) → (setK kvs k e).map (·.1) = (setK ((kvs.map (·.1)).zip vs) k w).map (·.1) ∧ VCs F κ h ((setK ((kvs.map (·.1)).zip vs) k w).map (·.2)) ((setK kvs k e).map (·.2))
  | [], vs, r => by
    cases vs with
    | nil => exact ⟨rfl, .cons rw_ .nil⟩
    | cons _ _ => cases r
  | p :: kvs, vs, r => by
    cases r with
    | @cons v d vs ds r s =>
      obtain ⟨i1, i2⟩ := setK_rel rw_ s
      by_cases c : p.1 = k
      · have e1 : setK (p :: kvs) k e = (p.1, e) :: kvs := if_pos c
        have e2 : setK (((p :: kvs).map (·.1)).zip (v :: vs)) k w = (p.1, w) :: ((kvs.map (·.1)).zip vs) := if_pos c
        rw [e1, e2]
        have l : vs.length = (kvs.map (·.1)).length := by rw [s.length, List.length_map, List.length_map]
        simp only [List.map_cons]
        rw [List.map_fst_zip (by omega), List.map_snd_zip (by omega)]
        exact ⟨rfl, .cons rw_ s⟩
      · have e1 : setK (p :: kvs) k e = p :: setK kvs k e := if_neg c
        have e2 : setK (((p :: kvs).map (·.1)).zip (v :: vs)) k w = (p.1, v) :: setK ((kvs.map (·.1)).zip vs) k w := if_neg c
        rw [e1, e2]
        simp only [List.map_cons]
        exact ⟨by rw [i1], .cons r i2⟩
theorem eqV_ok {b : Bool} (e : eqV x y = some b) (rx : VTp F κ h x dx) (ry : VTp F κ h y dy) : eqD h dx dy = some b := by
  unfold eqV at e
  cases e1 : pyV 65 x with
  | none => rw [e1] at e; cases e
  | some a =>
    cases e2 : pyV 65 y with
    | none => rw [e1, e2] at e; cases e
    | some c =>
      rw [e1, e2] at e
      unfold eqD
      rw [rx.py e1, ry.py e2]
      exact e
theorem inV_ok {b : Bool} (e : inV x y = some b) (rx : VTp F κ h x dx) (ry : VTp F κ h y dy) : inX h dx dy = some b := by
  have main : inV0 x y = some b → inD h dx dy = some b := by
    intro e
    unfold inV0 at e
    cases e1 : pyV 65 x with
    | none => rw [e1] at e; cases e
    | some a =>
      rw [e1] at e
      cases y with
      | tup ys =>
        obtain ⟨ds, rfl, r⟩ := ry.tup_
        cases e2 : pyV 65 (.tup ys) with
        | none => rw [e2] at e; cases e
        | some c =>
          rw [e2] at e
          obtain ⟨ps, _, rfl⟩ := Option.map_eq_some_iff.mp (show (ys.mapM (pyV 64)).map PyData.tuple = some c from e2)
          unfold inD
          rw [rx.py e1]
          show (match pyD 65 h (.tup ds) with | some (.tuple ds) => (if SeqAt.shaped a && SeqAt.shaped (.tuple ds) then some (ds.any fun z => PyData.eqv z a) else none) | _ => none) = _
          rw [ry.py e2]
          exact e
      | tupN ys =>
        obtain ⟨ds, rfl, r⟩ := ry.tupN_
        cases e2 : pyV 65 (.tupN ys) with
        | none => rw [e2] at e; cases e
        | some c =>
          rw [e2] at e
          obtain ⟨ps, _, rfl⟩ := Option.map_eq_some_iff.mp (show (ys.mapM (pyV 64)).map PyData.tuple = some c from e2)
          unfold inD
          rw [rx.py e1]
          show (match pyD 65 h (.tupN ds) with | some (.tuple ds) => (if SeqAt.shaped a && SeqAt.shaped (.tuple ds) then some (ds.any fun z => PyData.eqv z a) else none) | _ => none) = _
          rw [ry.py e2]
          exact e
      | lst t ys =>
        obtain ⟨n, ds, rfl, l, r, _⟩ := ry.items
        cases e2 : pyV 65 (.lst t ys) with
        | none => rw [e2] at e; cases e
        | some c =>
          rw [e2] at e
          obtain ⟨ps, _, rfl⟩ := Option.map_eq_some_iff.mp (show (ys.mapM (pyV 64)).map PyData.list = some c from e2)
          unfold inD
          rw [rx.py e1]
          show (match pyD 65 h (.ref n) with | some (.list ds) => (if SeqAt.shaped a && SeqAt.shaped (.list ds) then some (ds.any fun z => PyData.eqv z a) else none) | _ => none) = _
          rw [ry.py e2]
          exact e
      | non => cases e
      | bl => cases e
      | int => cases e
      | str => cases e
      | dic => cases e
      | cel => cases e
      | fn => cases e
  cases y with
  | dic t ks vs =>
    obtain ⟨n, kvs, rfl, e0, rfl, r⟩ := ry.dict
    obtain ⟨k, ek, eb⟩ := Option.map_eq_some_iff.mp (show (vkey x).map (fun k => (getK ((kvs.map (·.1)).zip vs) k).isSome) = some b from e)
    show (match h[n]? with | some (.dic kvs) => (keyD dx).map fun k => (getK kvs k).isSome | _ => inD h dx (.ref n)) = _
    rw [e0]
    show (keyD dx).map (fun k => (getK kvs k).isSome) = _
    rw [rx.key ek, ← eb]
    exact congrArg some (getK_rel r).2
  | lst t ys =>
    obtain ⟨n, ds, rfl, l, r, q⟩ := ry.items
    have := main e
    show (match h[n]? with | some (.dic kvs) => (keyD dx).map fun k => (getK kvs k).isSome | _ => inD h dx (.ref n)) = _
    unfold lstAt at l
    split
    · rename_i kvs z
      rw [z] at l; cases l
    · exact this
  | tup ys =>
    obtain ⟨ds, rfl, r⟩ := ry.tup_
    exact main e
  | tupN ys =>
    obtain ⟨ds, rfl, r⟩ := ry.tupN_
    exact main e
  | non => exact nomatch (show (none : Option Bool) = some b by unfold inV inV0 at e; revert e; cases pyV 65 x <;> exact id)
  | bl => exact nomatch (show (none : Option Bool) = some b by unfold inV inV0 at e; revert e; cases pyV 65 x <;> exact id)
  | int => exact nomatch (show (none : Option Bool) = some b by unfold inV inV0 at e; revert e; cases pyV 65 x <;> exact id)
  | str => exact nomatch (show (none : Option Bool) = some b by unfold inV inV0 at e; revert e; cases pyV 65 x <;> exact id)
  | cel => exact nomatch (show (none : Option Bool) = some b by unfold inV inV0 at e; revert e; cases pyV 65 x <;> exact id)
  | fn => exact nomatch (show (none : Option Bool) = some b by unfold inV inV0 at e; revert e; cases pyV 65 x <;> exact id)
theorem VTp.notnon (r : VTp F κ h x dx) (hx : x ≠ .non) : dx ≠ .non := by
  rintro rfl
  cases r with
  | c r => cases r; exact hx rfl
theorem vcmp_ok {o : C2} {b : Bool} (e : vcmp o x y = some b) (rx : VTp F κ h x dx) (ry : VTp F κ h y dy) : cmpop o dx dy h = some b := by
  cases o with
  | eq => exact eqV_ok e rx ry
  | ne =>
    obtain ⟨c, e1, e2⟩ := Option.map_eq_some_iff.mp (show (eqV x y).map (!·) = some b from e)
    show (eqD h dx dy).map (!·) = _
    rw [eqV_ok e1 rx ry, ← e2]; rfl
  | inn => exact inV_ok e rx ry
  | nin =>
    obtain ⟨c, e1, e2⟩ := Option.map_eq_some_iff.mp (show (inV x y).map (!·) = some b from e)
    show (inX h dx dy).map (!·) = _
    rw [inV_ok e1 rx ry, ← e2]; rfl
  | isN =>
    cases y with
    | non =>
      cases ry.non_
      cases x with
      | non => cases rx.non_; exact e
      | _ =>
        have := rx.notnon (by intro z; cases z)
        cases dx with
        | non => exact absurd rfl this
        | _ => exact e
    | _ => cases e
  | notN =>
    cases y with
    | non =>
      cases ry.non_
      cases x with
      | non => cases rx.non_; exact e
      | _ =>
        have := rx.notnon (by intro z; cases z)
        cases dx with
        | non => exact absurd rfl this
        | _ => exact e
    | _ => cases e
  | lt =>
    cases x with
    | int i =>
      cases y with
      | int j => cases rx.int_; cases ry.int_; exact e
      | _ => cases e
    | tup xs =>
      cases y with
      | tup ys =>
        obtain ⟨ds, rfl, r1⟩ := rx.tup_
        obtain ⟨es, rfl, r2⟩ := ry.tup_
        have e : (match vInts xs, vInts ys with | some ns, some ms => some (HT.lexLt ns ms) | _, _ => none) = some b := e
        cases e1 : vInts xs with
        | none => rw [e1] at e; cases e
        | some ns =>
          cases e2 : vInts ys with
          | none => rw [e1, e2] at e; cases e
          | some ms =>
            rw [e1, e2] at e
            show (match allInts ds, allInts es with | some ns, some ms => some (HT.lexLt ns ms) | _, _ => none) = some b
            rw [r1.ints e1, r2.ints e2]
            exact e
      | _ => cases e
    | _ => cases y <;> cases e
  | le =>
    cases x with
    | int i =>
      cases y with
      | int j => cases rx.int_; cases ry.int_; exact e
      | _ => cases e
    | _ => cases y <;> cases e
  | gt =>
    cases x with
    | int i =>
      cases y with
      | int j => cases rx.int_; cases ry.int_; exact e
      | _ => cases e
    | _ => cases y <;> cases e
  | ge =>
    cases x with
    | int i =>
      cases y with
      | int j => cases rx.int_; cases ry.int_; exact e
      | _ => cases e
    | _ => cases y <;> cases e
end
end Mp
namespace Mp
open PySem PySem.Spec PyProof.Rows L2
section
variable {F F1 F2 : Nat → Prop} {κ κ1 κ2 : List Nat} {h h1 h2 : MH} {cs cs1 cs2 : CS} {L L2 : Nat} {v x y : VD} {d dx dy : D} {xs vs ws : List VD} {ds : List D} {Q : QV}
/-! ### letting go -/
def OwnRef : List VD → List D → Nat → Prop
  | v :: vs, d :: ds, n => (v.own = true ∧ d = .ref n) ∨ OwnRef vs ds n
  | _, _, _ => False
theorem GH.more (G : GH F κ h cs) (x : Xt L F κ h F2 κ h) (df : ∀ n ∈ κ, ¬ F2 n) (fl : ∀ n, F2 n → n < h.length) : GH F2 κ h cs :=
  ⟨G.len, G.nd, df, fl, fun j c n e1 e2 => let ⟨ds, e, r⟩ := G.at_ j c n e1 e2; ⟨ds, e, r.up x⟩⟩
theorem VTp.own_ref (r : VTp F κ h v d) (o : v.own = true) : ∃ n, d = .ref n ∧ ¬ F n ∧ n ∉ κ ∧ n < h.length := by
  cases r with
  | c r => cases r <;> cases o
  | lst t nf nk e r => exact ⟨_, rfl, nf, nk, h_lt e⟩
  | dic t nf nk e k r => exact ⟨_, rfl, nf, nk, h_lt e⟩
theorem VTp.esc_ {w : VD} (r : VTp F κ h v d) (e : v.esc = some w) (o : ∀ n, v.own = true → d = .ref n → F2 n) (x : Xt L F κ h F2 κ h) : VC F2 κ h w d := by
  cases v with
  | lst t xs =>
    cases t with
    | own =>
      cases e
      cases r with
      | c r => cases r
      | lst t nf nk e r => exact .lst (o _ rfl rfl) e (r.up x)
    | bor => cases e
    | shr =>
      cases e
      cases r with
      | c r => exact r.up x
      | lst t nf nk e r => rcases t with t | t <;> cases t
    | rol =>
      cases e
      cases r with
      | c r => exact r.up x
      | lst t nf nk e r => rcases t with t | t <;> cases t
  | dic t ks vs =>
    cases t with
    | own =>
      cases e
      cases r with
      | c r => cases r
      | dic t nf nk e k r => exact .dic (o _ rfl rfl) e k (r.up x)
    | bor => cases e
    | shr =>
      cases e
      cases r with
      | c r => exact r.up x
      | dic t nf nk e r => rcases t with t | t <;> cases t
    | rol =>
      cases e
      cases r with
      | c r => exact r.up x
      | dic t nf nk e r => rcases t with t | t <;> cases t
  | _ => cases e; cases r with | c r => exact r.up x
theorem escs_ok0 (x : Xt L F κ h F2 κ h) : ∀ {vs : List VD} {ds : List D} {ws : List VD}, escs vs = some ws → VTs F κ h vs ds → (∀ n, OwnRef vs ds n → F2 n) → VCs F2 κ h ws ds
  | [], _, _, e, r, _ => by cases e; cases r; exact .nil
  | v :: vs, _, ws, e, r, o => by
    cases r with
    | @cons _ d _ ds r s =>
      unfold escs at e
      cases e1 : v.esc with
      | none => rw [e1] at e; cases e
      | some w =>
        cases e2 : escs vs with
        | none => rw [e1, e2] at e; cases e
        | some us =>
          rw [e1, e2] at e
          cases e
          exact .cons (r.esc_ e1 (fun n p q => o n (.inl ⟨p, q⟩)) x) (escs_ok0 x e2 s fun n q => o n (.inr q))
theorem ownRef_of : ∀ {vs : List VD} {ds : List D} {n : Nat}, VTs F κ h vs ds → News L vs ds → OwnRef vs ds n → ¬ F n ∧ n ∉ κ ∧ n < h.length ∧ L ≤ n
  | v :: vs, d :: ds, n, r, w, o => by
    cases r with
    | cons r s =>
      cases w with
      | cons w z =>
        rcases o with ⟨o1, o2⟩ | o
        · obtain ⟨m, e1, l⟩ := w o1
          obtain ⟨k, e2, a, b, c⟩ := r.own_ref o1
          subst o2
          cases e1; cases e2
          exact ⟨a, b, c, l⟩
        · exact ownRef_of s z o
  | [], [], _, _, _, o => o.elim
  | [], _ :: _, _, _, _, o => o.elim
  | _ :: _, [], _, _, _, o => o.elim
theorem escs_ok (e : escs vs = some ws) (r : VTs F κ h vs ds) (n : News L vs ds) (G : GH F κ h cs) : ∃ F2, Xt L F κ h F2 κ h ∧ GH F2 κ h cs ∧ VCs F2 κ h ws ds := by
  have x : Xt L F κ h (fun m => F m ∨ OwnRef vs ds m) κ h := ⟨fun _ f => .inl f, fun m f => f.imp id fun o => (ownRef_of r n o).2.2.2, ⟨[], by simp⟩, Nat.le_refl _, fun _ _ _ => rfl, fun _ _ => rfl⟩
  refine ⟨_, x, G.more x (fun m hm f => ?_) (fun m f => ?_), escs_ok0 x e r fun m o => .inr o⟩
  · rcases f with f | o
    · exact G.df m hm f
    · exact (ownRef_of r n o).2.1 hm
  · rcases f with f | o
    · exact G.fl m f
    · exact (ownRef_of r n o).2.2.1
theorem esc_ok {w : VD} (e : v.esc = some w) (r : VTp F κ h v d) (n : New L v d) (G : GH F κ h cs) : ∃ F2, Xt L F κ h F2 κ h ∧ GH F2 κ h cs ∧ VC F2 κ h w d := by
  obtain ⟨F2, x, G2, r2⟩ := escs_ok (vs := [v]) (ws := [w]) (ds := [d]) (by unfold escs; rw [e]; rfl) (.cons r .nil) (.cons n .nil) G
  cases r2 with
  | cons r _ => exact ⟨F2, x, G2, r⟩
theorem esc_ok2 {w : VD} (e : v.esc = some w) (r : VTp F κ h v d) (n : New L v d) (G : GH F κ h cs) : ∃ F2, Xt L F κ h F2 κ h ∧ GH F2 κ h cs ∧ VC F2 κ h w d ∧ ∀ m, F2 m → F m ∨ (v.own = true ∧ d = .ref m) := by
  have hx : ∀ m, OwnRef [v] [d] m → v.own = true ∧ d = .ref m := fun m o => o.resolve_right id
  have r1 : VTs F κ h [v] [d] := .cons r .nil
  have n1 : News L [v] [d] := .cons n .nil
  have x : Xt L F κ h (fun m => F m ∨ OwnRef [v] [d] m) κ h := ⟨fun _ f => .inl f, fun m f => f.imp id fun o => (ownRef_of r1 n1 o).2.2.2, ⟨[], by simp⟩, Nat.le_refl _, fun _ _ _ => rfl, fun _ _ => rfl⟩
  refine ⟨_, x, G.more x (fun m hm f => ?_) (fun m f => ?_), r.esc_ e (fun m a b => .inr (.inl ⟨a, b⟩)) x, fun m f => f.imp id (hx m)⟩
  · rcases f with f | o
    · exact G.df m hm f
    · exact (ownRef_of r1 n1 o).2.1 hm
  · rcases f with f | o
    · exact G.fl m f
    · exact (ownRef_of r1 n1 o).2.2.1
/-! ### places -/
theorem VCs.at {i : Int} (r : VCs F κ h xs ds) (e : atI xs i = some v) : ∃ d, atI ds i = some d ∧ VC F κ h v d := by
  unfold atI at e ⊢
  obtain ⟨k, e1, e2⟩ := Option.bind_eq_some_iff.mp e
  obtain ⟨d, e3, r3⟩ := r.get e2
  exact ⟨d, by rw [← r.length, e1]; exact e3, r3⟩
theorem GH.cell {j n : Nat} (G : GH F κ h cs) (e : κ[j]? = some n) {c : List VD} (ec : cs[j]? = some c) : ∃ ds, h[n]? = some (.lst ds) ∧ VCs F κ h c ds := G.at_ j c n ec e
theorem vix_ok (e : vix cs x y = some v) (G : GH F κ h cs) (rx : VTp F κ h x dx) (ry : VTp F κ h y dy) : ∃ d, ixop dx dy h = some d ∧ VC F κ h v d := by
  cases x with
  | tup xs =>
    obtain ⟨ds, rfl, r⟩ := rx.tup_
    cases y with
    | int i => cases ry.int_; exact r.at e
    | _ => cases e
  | tupN xs =>
    obtain ⟨ds, rfl, r⟩ := rx.tupN_
    cases y with
    | int i => cases ry.int_; exact r.at e
    | _ => cases e
  | lst t xs =>
    obtain ⟨n, ds, rfl, l, r, _⟩ := rx.items
    cases y with
    | int i =>
      cases ry.int_
      obtain ⟨d, e1, r1⟩ := r.at (show atI xs i = some v from e)
      refine ⟨d, ?_, r1⟩
      show (lstAt h n).bind (fun xs => atI xs i) = _
      rw [l]
      exact e1
    | _ => cases e
  | cel j =>
    obtain ⟨n, rfl, ej⟩ := rx.cell
    cases y with
    | int i =>
      cases ry.int_
      obtain ⟨xs, e1, e2⟩ := Option.bind_eq_some_iff.mp (show (cs[j]?).bind (fun xs => atI xs i) = some v from e)
      obtain ⟨ds, eh, r⟩ := G.cell ej e1
      obtain ⟨d, e3, r1⟩ := r.at e2
      refine ⟨d, ?_, r1⟩
      show (lstAt h n).bind (fun xs => atI xs i) = _
      rw [lstAt_l eh]
      exact e3
    | _ => cases e
  | dic t ks vs =>
    obtain ⟨n, kvs, rfl, e0, rfl, r⟩ := rx.dict
    cases y with
    | tup ys =>
      obtain ⟨k, e1, e2⟩ := Option.bind_eq_some_iff.mp (show (vkey (.tup ys)).bind (fun k => getK ((kvs.map (·.1)).zip vs) k) = some v from e)
      obtain ⟨d, e3, r3⟩ := (getK_rel r).1 v e2
      have hk := ry.key e1
      obtain ⟨es, rfl, _⟩ := ry.tup_
      refine ⟨d, ?_, r3⟩
      show (match h[n]? with | some (.dic kvs) => (keyD (.tup es)).bind fun k => getK kvs k | _ => none) = _
      rw [e0]
      show (keyD (.tup es)).bind (fun k => getK kvs k) = _
      rw [hk]
      exact e3
    | _ => cases e
  | _ => cases e
theorem vsl_ok {lo hi : Option Int} (e : vsl cs x lo hi = some v) (G : GH F κ h cs) (rx : VTp F κ h x dx) (k : Cn h.length F κ h cs v Q) : PQ (slop dx lo hi h) Q := by
  cases x with
  | tup xs =>
    obtain ⟨ds, rfl, r⟩ := rx.tup_
    cases e
    exact k.here G (.tup (r.cut lo hi))
  | lst t xs =>
    obtain ⟨n, ds, rfl, l, r, _⟩ := rx.items
    show PQ ((lstAt h n).bind fun xs => newL h (cutD xs lo hi)) Q
    rw [l]
    exact k.lst G (r.cut lo hi) e
  | cel j =>
    obtain ⟨n, rfl, ej⟩ := rx.cell
    obtain ⟨xs, e1, e2⟩ := Option.bind_eq_some_iff.mp (show (cs[j]?).bind (fun xs => vNew (cutV xs lo hi)) = some v from e)
    obtain ⟨ds, eh, r⟩ := G.cell ej e1
    show PQ ((lstAt h n).bind fun xs => newL h (cutD xs lo hi)) Q
    rw [lstAt_l eh]
    exact k.lst G (r.cut lo hi) e2
  | _ => cases e
theorem vslS_ok {lo hi : Option Int} {st : Int} (e : vslS x lo hi st = some v) (G : GH F κ h cs) (rx : VTp F κ h x dx) (k : Cn h.length F κ h cs v Q) : PQ (slSop dx lo hi st h) Q := by
  cases x with
  | tup xs =>
    obtain ⟨ds, rfl, r⟩ := rx.tup_
    simp only [vslS] at e
    split at e
    · rename_i c
      cases e
      simp only [slSop]
      rw [if_pos (by rw [← (r.pick lo hi st).length]; exact c)]
      exact k.here G (.tup (r.pick lo hi st))
    · cases e
  | _ => cases e
theorem isT_ok {t : TY} {b : Bool} (e : vIsT t x = some b) (rx : VTp F κ h x dx) : isT t dx = some b := by
  cases rx with
  | c r => cases r <;> cases t <;> exact e
  | lst _ _ _ _ _ => cases t <;> exact e
  | dic _ _ _ _ _ _ => cases t <;> exact e
/-- sorted alike -/
theorem vSort_ok {ys : List VD} (r : VCs F κ h xs ds) (e : vSort xs = some ys) : ∃ es, sortL h ds = some es ∧ VCs F κ h ys es := by
  unfold vSort at e
  cases e1 : xs.mapM (pyV 65) with
  | none => rw [e1] at e; cases e
  | some ps =>
    rw [e1] at e
    simp only at e
    split at e
    · rename_i c
      cases e
      unfold sortL
      rw [VCs.py xs _ _ ps r e1]
      simp only
      rw [if_pos (by rw [← r.length]; exact c)]
      refine ⟨_, rfl, ?_⟩
      have lp : ps.length = xs.length := by
        have : ∀ (l : List VD) (q : List PyData), l.mapM (pyV 65) = some q → q.length = l.length := by
          intro l
          induction l with
          | nil => intro q h; cases h; rfl
          | cons v l ih =>
            intro q h
            rw [List.mapM_cons] at h
            cases a : pyV 65 v with
            | none => rw [a] at h; cases h
            | some u =>
              rw [a] at h
              cases b : l.mapM (pyV 65) with
              | none => rw [b] at h; cases h
              | some us => rw [b] at h; cases h; simp [ih us b]
        exact this xs ps e1
      let T := xs.zip (ds.zip ps)
      have z1 : xs.zip ps = T.map fun t => (t.1, t.2.2) := by
        show xs.zip ps = (xs.zip (ds.zip ps)).map fun t => (t.1, t.2.2)
        rw [show (fun t : VD × D × PyData => (t.1, t.2.2)) = Prod.map id Prod.snd from rfl, ← List.zip_map_right, List.map_snd_zip (by rw [lp, r.length]; omega)]
      have z2 : ds.zip ps = T.map fun t => t.2 := by
        show ds.zip ps = (xs.zip (ds.zip ps)).map Prod.snd
        rw [List.map_snd_zip (by rw [List.length_zip, lp, r.length]; omega)]
      have m1 : (xs.zip ps).mergeSort (PySem.W.dataLe false Prod.snd) = (T.mergeSort (PySem.W.dataLe false fun t => t.2.2)).map fun t => (t.1, t.2.2) := by
        rw [z1]
        exact (List.map_mergeSort (f := fun t : VD × D × PyData => (t.1, t.2.2)) fun _ _ _ _ => rfl).symm
      have m2 : (ds.zip ps).mergeSort (PySem.W.dataLe false Prod.snd) = (T.mergeSort (PySem.W.dataLe false fun t => t.2.2)).map fun t => t.2 := by
        rw [z2]
        exact (List.map_mergeSort (f := fun t : VD × D × PyData => t.2) fun _ _ _ _ => rfl).symm
      rw [m1, m2, List.map_map, List.map_map]
      have all : ∀ t ∈ T, VC F κ h t.1 t.2.1 := by
        have : ∀ (a : List VD) (b : List D) (c : List PyData), VCs F κ h a b → ∀ t ∈ a.zip (b.zip c), VC F κ h t.1 t.2.1 := by
          intro a
          induction a with
          | nil => intro b c _ t m; cases m
          | cons v a ih =>
            intro b c r t m
            cases r with
            | cons r s =>
              cases c with
              | nil => cases m
              | cons p c =>
                rcases List.mem_cons.mp m with rfl | m
                · exact r
                · exact ih _ c s t m
        exact this xs ds ps r
      have fin : ∀ l : List (VD × D × PyData), (∀ t ∈ l, VC F κ h t.1 t.2.1) → VCs F κ h (l.map (Prod.fst ∘ fun t => (t.1, t.2.2))) (l.map (Prod.fst ∘ fun t => t.2)) := by
        intro l
        induction l with
        | nil => intro _; exact .nil
        | cons t l ih => intro a; exact .cons (a t List.mem_cons_self) (ih fun u m => a u (List.mem_cons_of_mem _ m))
      exact fin _ fun t m => all t ((List.mergeSort_perm _ _).subset m)
    · cases e
theorem vRng_ok (a b : Int) : VCs F κ h (vRng a b) (rgD a b) := by
  unfold vRng rgD
  generalize List.range (b - a).toNat = l
  induction l with
  | nil => exact .nil
  | cons i l ih => exact .cons (.int _) ih
end
end Mp
namespace Mp
open PySem PySem.Spec PyProof.Rows L2
section
variable {F F1 F2 : Nat → Prop} {κ κ1 κ2 : List Nat} {h h1 h2 : MH} {cs cs1 cs2 : CS} {L L2 : Nat} {v x y : VD} {d dx dy : D} {xs vs ws : List VD} {ds es : List D} {Q : QV}
theorem vbi1 {f : BI} (e : vbi cs f [x] = some v) (G : GH F κ h cs) (r : VTp F κ h x d) (k : Cn h.length F κ h cs v Q) : PQ (biop f [d] h) Q := by
  cases f with
  | len =>
    cases x with
    | tup xs => obtain ⟨ds, rfl, r'⟩ := r.tup_; cases e; rw [r'.length] at k; exact k.here G (.int _)
    | tupN xs => obtain ⟨ds, rfl, r'⟩ := r.tupN_; cases e; rw [r'.length] at k; exact k.here G (.int _)
    | str s =>
      cases r.str_
      have e : (if s.length ≤ sizeLine then some (VD.int s.length) else none) = some v := e
      by_cases c : s.length ≤ sizeLine
      · rw [if_pos c] at e; cases e
        show PQ (if s.length ≤ sizeLine then some (D.int s.length, h) else none) Q
        rw [if_pos c]; exact k.here G (.int _)
      · rw [if_neg c] at e; cases e
    | lst t xs =>
      obtain ⟨n, ds, rfl, l, r, q⟩ := r.items
      cases e
      rw [r.length] at k
      unfold lstAt at l
      cases z : h[n]? with
      | none => rw [z] at l; cases l
      | some o =>
        rw [z] at l
        cases o with
        | lst zs =>
          have l : some zs = some ds := l
          cases l
          show PQ (match h[n]? with | some (.lst xs) => some (D.int xs.length, h) | some (.rol xs) => some (.int xs.length, h) | _ => none) Q
          rw [z]; exact k.here G (.int _)
        | rol zs =>
          have l : some zs = some ds := l
          cases l
          show PQ (match h[n]? with | some (.lst xs) => some (D.int xs.length, h) | some (.rol xs) => some (.int xs.length, h) | _ => none) Q
          rw [z]; exact k.here G (.int _)
        | dic _ => cases l
        | ins _ _ => cases l
    | cel j =>
      obtain ⟨n, rfl, ej⟩ := r.cell
      obtain ⟨xs, e1, rfl⟩ := Option.map_eq_some_iff.mp (show (cs[j]?).map (fun xs => VD.int xs.length) = some v from e)
      obtain ⟨ds, eh, r⟩ := G.cell ej e1
      rw [r.length] at k
      show PQ (match h[n]? with | some (.lst xs) => some (D.int xs.length, h) | some (.rol xs) => some (.int xs.length, h) | _ => none) Q
      rw [eh]; exact k.here G (.int _)
    | _ => cases e
  | all =>
    cases x with
    | lst t xs =>
      obtain ⟨n, ds, rfl, l, r, q⟩ := r.items
      obtain ⟨bs, e1, rfl⟩ := Option.map_eq_some_iff.mp (show (vBls xs).map (fun bs => VD.bl (bs.all id)) = some v from e)
      show PQ (((lstAt h n).bind allBls).map fun bs => (D.bl (bs.all id), h)) Q
      rw [l]
      show PQ ((allBls ds).map fun bs => (D.bl (bs.all id), h)) Q
      rw [r.bls e1]
      exact k.here G (.bl _)
    | _ => cases e
  | any =>
    cases x with
    | lst t xs =>
      obtain ⟨n, ds, rfl, l, r, q⟩ := r.items
      obtain ⟨bs, e1, rfl⟩ := Option.map_eq_some_iff.mp (show (vBls xs).map (fun bs => VD.bl (bs.any id)) = some v from e)
      show PQ (((lstAt h n).bind allBls).map fun bs => (D.bl (bs.any id), h)) Q
      rw [l]
      show PQ ((allBls ds).map fun bs => (D.bl (bs.any id), h)) Q
      rw [r.bls e1]
      exact k.here G (.bl _)
    | _ => cases e
  | sum =>
    cases x with
    | lst t xs =>
      obtain ⟨n, ds, rfl, l, r, q⟩ := r.items
      obtain ⟨bs, e1, rfl⟩ := Option.map_eq_some_iff.mp (show (vInts xs).map (fun bs => VD.int bs.sum) = some v from e)
      show PQ (((lstAt h n).bind allInts).map fun bs => (D.int bs.sum, h)) Q
      rw [l]
      show PQ ((allInts ds).map fun bs => (D.int bs.sum, h)) Q
      rw [r.ints e1]
      exact k.here G (.int _)
    | tup xs =>
      obtain ⟨ds, rfl, r'⟩ := r.tup_
      have r := r'
      obtain ⟨bs, e1, rfl⟩ := Option.map_eq_some_iff.mp (show (vInts xs).map (fun bs => VD.int bs.sum) = some v from e)
      show PQ ((allInts ds).map fun bs => (D.int bs.sum, h)) Q
      rw [r.ints e1]
      exact k.here G (.int _)
    | _ => cases e
  | max1 =>
    cases x with
    | lst t xs =>
      obtain ⟨n, ds, rfl, l, r, q⟩ := r.items
      obtain ⟨m, e1, rfl⟩ := Option.map_eq_some_iff.mp (show ((vInts xs).bind maxL).map VD.int = some v from e)
      obtain ⟨bs, e2, e3⟩ := Option.bind_eq_some_iff.mp e1
      show PQ ((((lstAt h n).bind allInts).bind maxL).map fun m => (D.int m, h)) Q
      rw [l]
      show PQ (((allInts ds).bind maxL).map fun m => (D.int m, h)) Q
      rw [r.ints e2]
      show PQ ((maxL bs).map fun m => (D.int m, h)) Q
      rw [e3]
      exact k.here G (.int _)
    | tup xs =>
      obtain ⟨ds, rfl, r'⟩ := r.tup_
      have r := r'
      obtain ⟨m, e1, rfl⟩ := Option.map_eq_some_iff.mp (show ((vInts xs).bind maxL).map VD.int = some v from e)
      obtain ⟨bs, e2, e3⟩ := Option.bind_eq_some_iff.mp e1
      show PQ (((allInts ds).bind maxL).map fun m => (D.int m, h)) Q
      rw [r.ints e2]
      show PQ ((maxL bs).map fun m => (D.int m, h)) Q
      rw [e3]
      exact k.here G (.int _)
    | _ => cases e
  | min1 =>
    cases x with
    | lst t xs =>
      obtain ⟨n, ds, rfl, l, r, q⟩ := r.items
      obtain ⟨m, e1, rfl⟩ := Option.map_eq_some_iff.mp (show ((vInts xs).bind minL).map VD.int = some v from e)
      obtain ⟨bs, e2, e3⟩ := Option.bind_eq_some_iff.mp e1
      show PQ ((((lstAt h n).bind allInts).bind minL).map fun m => (D.int m, h)) Q
      rw [l]
      show PQ (((allInts ds).bind minL).map fun m => (D.int m, h)) Q
      rw [r.ints e2]
      show PQ ((minL bs).map fun m => (D.int m, h)) Q
      rw [e3]
      exact k.here G (.int _)
    | tup xs =>
      obtain ⟨ds, rfl, r'⟩ := r.tup_
      have r := r'
      obtain ⟨m, e1, rfl⟩ := Option.map_eq_some_iff.mp (show ((vInts xs).bind minL).map VD.int = some v from e)
      obtain ⟨bs, e2, e3⟩ := Option.bind_eq_some_iff.mp e1
      show PQ (((allInts ds).bind minL).map fun m => (D.int m, h)) Q
      rw [r.ints e2]
      show PQ ((minL bs).map fun m => (D.int m, h)) Q
      rw [e3]
      exact k.here G (.int _)
    | _ => cases e
  | tupleOf =>
    cases x with
    | tup xs => obtain ⟨ds, rfl, r'⟩ := r.tup_; cases e; exact k.here G (.tup r')
    | lst t xs =>
      obtain ⟨n, ds, rfl, l, r, q⟩ := r.items
      cases e
      show PQ ((lstAt h n).map fun xs => (D.tup xs, h)) Q
      rw [l]; exact k.here G (.tup r)
    | cel j =>
      obtain ⟨n, rfl, ej⟩ := r.cell
      obtain ⟨xs, e1, rfl⟩ := Option.map_eq_some_iff.mp (show (cs[j]?).map (fun xs => VD.tup xs) = some v from e)
      obtain ⟨ds, eh, r⟩ := G.cell ej e1
      show PQ ((lstAt h n).map fun xs => (D.tup xs, h)) Q
      rw [lstAt_l eh]; exact k.here G (.tup r)
    | _ => cases e
  | tupleN =>
    cases x with
    | lst t xs =>
      obtain ⟨n, ds, rfl, l, r, q⟩ := r.items
      cases e
      show PQ ((lstAt h n).map fun xs => (D.tupN xs, h)) Q
      rw [l]; exact k.here G (.tupN r)
    | cel j =>
      obtain ⟨n, rfl, ej⟩ := r.cell
      obtain ⟨xs, e1, rfl⟩ := Option.map_eq_some_iff.mp (show (cs[j]?).map (fun xs => VD.tupN xs) = some v from e)
      obtain ⟨ds, eh, r⟩ := G.cell ej e1
      show PQ ((lstAt h n).map fun xs => (D.tupN xs, h)) Q
      rw [lstAt_l eh]; exact k.here G (.tupN r)
    | _ => cases e
  | listOf =>
    cases x with
    | tupN xs => obtain ⟨ds, rfl, r'⟩ := r.tupN_; exact k.lst G r' e
    | tup xs => obtain ⟨ds, rfl, r'⟩ := r.tup_; exact k.lst G r' e
    | lst t xs =>
      obtain ⟨n, ds, rfl, l, r, q⟩ := r.items
      show PQ ((lstAt h n).bind fun xs => newL h xs) Q
      rw [l]; exact k.lst G r e
    | _ => cases e
  | intOf =>
    cases x with
    | int i => cases r.int_; cases e; exact k.here G (.int _)
    | bl i => cases r.bl_; cases e; exact k.here G (.int _)
    | _ => cases e
  | strOf =>
    cases x with
    | int i =>
      cases r.int_
      have e : (if i.natAbs.log2 < 1920 then some (VD.str (toString i)) else none) = some v := e
      by_cases c : i.natAbs.log2 < 1920
      · rw [if_pos c] at e; cases e
        show PQ (if i.natAbs.log2 < 1920 then some (D.str (toString i), h) else none) Q
        rw [if_pos c]; exact k.here G (.str _)
      · rw [if_neg c] at e; cases e
    | _ => cases e
  | repr =>
    have e : (match pyV 65 x with | some p => (if p.showable && !p.hasDict && decide (p.depth ≤ 64) && decide (p.shown.length ≤ sizeLine) then some (VD.str p.shown) else none) | none => none) = some v := by
      cases x <;> exact e
    cases e1 : pyV 65 x with
    | none => rw [e1] at e; cases e
    | some p =>
      rw [e1] at e
      simp only at e
      have main : PQ (match pyD 65 h d with | some p => (if p.showable && !p.hasDict && decide (p.depth ≤ 64) && decide (p.shown.length ≤ sizeLine) then some (D.str p.shown, h) else none) | none => none) Q := by
        rw [r.py e1]
        simp only
        split at e
        · rename_i c; cases e; rw [if_pos c]; exact k.here G (.str _)
        · cases e
      cases d <;> exact main
  | sorted =>
    cases x with
    | lst t xs =>
      obtain ⟨n, ds, rfl, l, r, q⟩ := r.items
      obtain ⟨ys, e1, e2⟩ := Option.bind_eq_some_iff.mp (show (vSort xs).bind vNew = some v from e)
      obtain ⟨es, e3, r3⟩ := vSort_ok r e1
      show PQ (((lstAt h n).bind (sortL h)).bind fun xs => newL h xs) Q
      rw [l]
      show PQ ((sortL h ds).bind fun xs => newL h xs) Q
      rw [e3]
      exact k.lst G r3 e2
    | tup xs =>
      obtain ⟨ds, rfl, r'⟩ := r.tup_
      have r := r'
      obtain ⟨ys, e1, e2⟩ := Option.bind_eq_some_iff.mp (show (vSort xs).bind vNew = some v from e)
      obtain ⟨es, e3, r3⟩ := vSort_ok r e1
      show PQ ((sortL h ds).bind fun xs => newL h xs) Q
      rw [e3]
      exact k.lst G r3 e2
    | _ => cases e
  | isinst t =>
    have e : (vIsT t x).map (fun b => VD.bl b) = some v := by cases x <;> exact e
    obtain ⟨b, e1, rfl⟩ := Option.map_eq_some_iff.mp e
    have main : PQ ((isT t d).map fun b => (D.bl b, h)) Q := by rw [isT_ok e1 r]; exact k.here G (.bl _)
    cases d <;> exact main
  | listRng1 =>
    cases x with
    | int i =>
      cases r.int_
      have e : (if rgOk 0 i = true then vNew (vRng 0 i) else none) = some v := e
      by_cases c : rgOk 0 i = true
      · rw [if_pos c] at e
        show PQ (if rgOk 0 i = true then newL h (rgD 0 i) else none) Q
        rw [if_pos c]; exact k.lst G (vRng_ok _ _) e
      · rw [if_neg c] at e; cases e
    | _ => cases e
  | tupRng1 =>
    cases x with
    | int i =>
      cases r.int_
      have e : (if rgOk 0 i = true then some (VD.tup (vRng 0 i)) else none) = some v := e
      by_cases c : rgOk 0 i = true
      · rw [if_pos c] at e; cases e
        show PQ (if rgOk 0 i = true then some (D.tup (rgD 0 i), h) else none) Q
        rw [if_pos c]; exact k.here G (.tup (vRng_ok _ _))
      · rw [if_neg c] at e; cases e
    | _ => cases e
  | max2 => cases x <;> cases e
  | min2 => cases x <;> cases e
  | dict0 => cases x <;> cases e
  | listRng2 => cases x <;> cases e
  | tupRng2 => cases x <;> cases e
  | tupRngD => cases x <;> cases e
  | lenSet =>
    cases x with
    | lst t xs =>
      obtain ⟨n, ds, rfl, l, r, q⟩ := r.items
      obtain ⟨ns, e1, e2⟩ := Option.bind_eq_some_iff.mp (show ((vInts xs).bind fun ns => if ns.length ≤ 1000 then some (VD.int (distN ns)) else none) = some v from e)
      show PQ (((lstAt h n).bind allInts).bind fun ns => if ns.length ≤ 1000 then some (D.int (distN ns), h) else none) Q
      rw [l]
      show PQ ((allInts ds).bind fun ns => if ns.length ≤ 1000 then some (D.int (distN ns), h) else none) Q
      rw [r.ints e1]
      show PQ (if ns.length ≤ 1000 then some (D.int (distN ns), h) else none) Q
      by_cases c : ns.length ≤ 1000
      · rw [if_pos c] at e2 ⊢
        cases e2
        exact k.here G (.int _)
      · rw [if_neg c] at e2; cases e2
    | tup xs =>
      obtain ⟨ds, rfl, r'⟩ := r.tup_
      obtain ⟨ns, e1, e2⟩ := Option.bind_eq_some_iff.mp (show ((vInts xs).bind fun ns => if ns.length ≤ 1000 then some (VD.int (distN ns)) else none) = some v from e)
      show PQ ((allInts ds).bind fun ns => if ns.length ≤ 1000 then some (D.int (distN ns), h) else none) Q
      rw [r'.ints e1]
      show PQ (if ns.length ≤ 1000 then some (D.int (distN ns), h) else none) Q
      by_cases c : ns.length ≤ 1000
      · rw [if_pos c] at e2 ⊢
        cases e2
        exact k.here G (.int _)
      · rw [if_neg c] at e2; cases e2
    | _ => cases e
  | sortSet =>
    cases x with
    | lst t xs =>
      obtain ⟨n, ds, rfl, l, r, q⟩ := r.items
      obtain ⟨rs, e1, e2⟩ := Option.bind_eq_some_iff.mp (show ((xs.mapM vRow).bind fun rs => if okRows rs = true then vNew ((sortU rs).map fun r => VD.tup (r.map .int)) else none) = some v from e)
      show PQ ((lstAt h n).bind fun xs => (xs.mapM rowD).bind fun rs => if okRows rs = true then newL h ((sortU rs).map fun r => D.tup (r.map .int)) else none) Q
      rw [l]
      show PQ ((ds.mapM rowD).bind fun rs => if okRows rs = true then newL h ((sortU rs).map fun r => D.tup (r.map .int)) else none) Q
      rw [r.rows e1]
      show PQ (if okRows rs = true then newL h ((sortU rs).map fun r => D.tup (r.map .int)) else none) Q
      by_cases c : okRows rs = true
      · rw [if_pos c] at e2 ⊢
        exact k.lst G (rows_rel2 _) e2
      · rw [if_neg c] at e2; cases e2
    | _ => cases e
theorem vbi2 {f : BI} (e : vbi cs f [x, y] = some v) (G : GH F κ h cs) (r : VTp F κ h x dx) (s : VTp F κ h y dy) (k : Cn h.length F κ h cs v Q) : PQ (biop f [dx, dy] h) Q := by
  cases x with
  | int i =>
    cases y with
    | int j =>
      cases r.int_; cases s.int_
      cases f with
      | max2 => cases e; exact k.here G (.int _)
      | min2 => cases e; exact k.here G (.int _)
      | listRng2 =>
        have e : (if rgOk i j = true then vNew (vRng i j) else none) = some v := e
        by_cases c : rgOk i j = true
        · rw [if_pos c] at e
          show PQ (if rgOk i j = true then newL h (rgD i j) else none) Q
          rw [if_pos c]; exact k.lst G (vRng_ok _ _) e
        · rw [if_neg c] at e; cases e
      | tupRng2 =>
        have e : (if rgOk i j = true then some (VD.tup (vRng i j)) else none) = some v := e
        by_cases c : rgOk i j = true
        · rw [if_pos c] at e; cases e
          show PQ (if rgOk i j = true then some (D.tup (rgD i j), h) else none) Q
          rw [if_pos c]; exact k.here G (.tup (vRng_ok _ _))
        · rw [if_neg c] at e; cases e
      | tupRngD =>
        have e : (if rgOk j i = true then some (VD.tup ((List.range (i - j).toNat).map fun (k : Nat) => .int (i - k))) else none) = some v := e
        by_cases c : rgOk j i = true
        · rw [if_pos c] at e; cases e
          show PQ (if rgOk j i = true then some (D.tup ((List.range (i - j).toNat).map fun (k : Nat) => .int (i - k)), h) else none) Q
          rw [if_pos c]; exact k.here G (.tup (down_rel2 _ _))
        · rw [if_neg c] at e; cases e
      | _ => cases e
    | _ => cases f <;> cases e
  | _ => cases f <;> cases y <;> cases e
theorem vbi_ok {f : BI} (e : vbi cs f xs = some v) (G : GH F κ h cs) (r : VTs F κ h xs ds) (k : Cn h.length F κ h cs v Q) : PQ (biop f ds h) Q := by
  cases r with
  | nil =>
    cases f with
    | dict0 => cases e; exact k.dic0 G
    | _ => cases e
  | @cons x1 _ _ _ r1 r =>
    cases r with
    | nil => exact vbi1 e G r1 k
    | @cons x2 _ _ _ r2 r =>
      cases r with
      | nil => exact vbi2 e G r1 r2 k
      | cons r3 r =>
        exfalso
        cases f <;> cases x1 <;> cases x2 <;> cases e
end
end Mp
namespace Mp
open PySem PySem.Spec PyProof.Rows L2
section
variable {F F1 F2 : Nat → Prop} {κ κ1 κ2 : List Nat} {h h1 h2 : MH} {cs cs1 cs2 : CS} {L L2 : Nat} {v x y : VD} {d dx dy : D} {xs vs ws : List VD} {ds es : List D} {Q : QV} {n j : Nat}
/-! ### a list changes -/
theorem vmut_ok {m : MT} {u : VD} {xs2 : List VD} (e : vmut m xs ws = some (u, xs2)) (hn : h[n]? = some (.lst ds)) (G : GH F κ h cs) (r : VCs F κ h xs ds) (ra : VTs F κ h ws es) (na : News L ws es) :
    ∃ F2 du ds2, Xt L F κ h F2 κ h ∧ GH F2 κ h cs ∧ mtop m (.ref n) es h = some (du, h.set n (.lst ds2)) ∧ VC F2 κ h u du ∧ VCs F2 κ h xs2 ds2 := by
  cases m with
  | append =>
    cases ra with
    | nil => cases e
    | cons ra rb =>
      rename_i v _ _ _
      cases rb with
      | cons _ _ => cases e
      | nil =>
        cases na with
        | cons na _ =>
          have e : (match v.esc with | some e => if xs.length < sizeLine then some (VD.non, xs ++ [e]) else none | none => none) = some (u, xs2) := e
          cases e1 : v.esc with
          | none => rw [e1] at e; cases e
          | some w =>
            rw [e1] at e
            obtain ⟨F2, X, G2, rw_⟩ := esc_ok e1 ra na G
            by_cases c : xs.length < sizeLine
            · simp only [if_pos c] at e
              cases e
              refine ⟨F2, .non, ds ++ [_], X, G2, ?_, .non, (r.up X).app (.cons rw_ .nil)⟩
              show (match h[n]? with | some (.lst xs) => if xs.length < sizeLine then some (D.non, h.set n (.lst (xs ++ [_]))) else none | _ => none) = _
              rw [hn]
              exact if_pos (by rw [← r.length]; exact c)
            · simp only [if_neg c] at e; cases e
  | extend =>
    cases ra with
    | nil => cases e
    | cons ra rb =>
      rename_i v _ _ _
      cases rb with
      | cons _ _ => cases v <;> cases e
      | nil =>
        cases v with
        | lst t ys =>
          obtain ⟨m, zs, rfl, _, rz, q⟩ := ra.items
          have e : (if t ≠ .rol ∧ xs.length + ys.length ≤ sizeLine then some (VD.non, xs ++ ys) else none) = some (u, xs2) := e
          by_cases c : t ≠ .rol ∧ xs.length + ys.length ≤ sizeLine
          · rw [if_pos c] at e; cases e
            refine ⟨F, .non, ds ++ zs, .refl, G, ?_, .non, r.app rz⟩
            show (match h[n]?, h[m]? with | some (.lst xs), some (.lst ys) => if xs.length + ys.length ≤ sizeLine then some (D.non, h.set n (.lst (xs ++ ys))) else none | _, _ => none) = _
            rw [hn, q c.1]
            exact if_pos (by rw [← r.length, ← rz.length]; exact c.2)
          · rw [if_neg c] at e; cases e
        | _ => cases e
  | pop0 =>
    cases ra with
    | cons _ _ => cases e
    | nil =>
      have e : (match xs[xs.length - 1]? with | some y => some (y, xs.dropLast) | none => none) = some (u, xs2) := e
      cases e1 : xs[xs.length - 1]? with
      | none => rw [e1] at e; cases e
      | some y =>
        rw [e1] at e; cases e
        obtain ⟨dy, e2, r2⟩ := r.get e1
        refine ⟨F, dy, ds.dropLast, .refl, G, ?_, r2, r.dropLast⟩
        show (match h[n]? with | some (.lst xs) => (match xs[xs.length - 1]? with | some y => some (y, h.set n (.lst xs.dropLast)) | none => none) | _ => none) = _
        rw [hn]
        simp only [← r.length, e2]
  | pop1 =>
    cases ra with
    | nil => cases e
    | cons ra rb =>
      rename_i v _ _ _
      cases rb with
      | cons _ _ => cases v <;> cases e
      | nil =>
        cases v with
        | int i =>
          cases ra.int_
          have e : (if -B63 ≤ i ∧ i < B63 then (match seqIndex? i xs.length with | some k => (match xs[k]? with | some y => some (y, xs.eraseIdx k) | none => none) | none => none) else none) = some (u, xs2) := e
          by_cases c : -B63 ≤ i ∧ i < B63
          · rw [if_pos c] at e
            cases e0 : seqIndex? i xs.length with
            | none => rw [e0] at e; cases e
            | some k =>
              rw [e0] at e
              cases e1 : xs[k]? with
              | none => simp only [e1] at e; cases e
              | some y =>
                simp only [e1] at e; cases e
                obtain ⟨dy, e2, r2⟩ := r.get e1
                refine ⟨F, dy, ds.eraseIdx k, .refl, G, ?_, r2, r.erase k⟩
                show (match h[n]? with | some (.lst xs) => if -B63 ≤ i ∧ i < B63 then (match seqIndex? i xs.length with | some k => (match xs[k]? with | some y => some (y, h.set n (.lst (xs.eraseIdx k))) | none => none) | none => none) else none | _ => none) = _
                rw [hn]
                simp only [if_pos c, ← r.length, e0, e2]
          · rw [if_neg c] at e; cases e
        | _ => cases e
  | reverse =>
    cases ra with
    | cons _ _ => cases e
    | nil =>
      cases e
      refine ⟨F, .non, ds.reverse, .refl, G, ?_, .non, r.rev⟩
      show (match h[n]? with | some (.lst xs) => some (D.non, h.set n (.lst xs.reverse)) | _ => none) = _
      rw [hn]
  | index => cases e
  | insert => cases e
theorem Xt.set {o : MO} (hF : ¬ F n) (hk : n ∈ κ ∨ L ≤ n) : Xt L F κ h F κ (h.set n o) :=
  ⟨fun _ x => x, fun _ x => .inl x, ⟨[], by simp⟩, by simp, fun m l nk => List.getElem?_set_ne (fun z : n = m => hk.elim (fun q => nk (z ▸ q)) fun q => by omega), fun m f => List.getElem?_set_ne (by rintro rfl; exact hF f)⟩
theorem kap_inj (G : GH F κ h cs) {i j : Nat} (e1 : κ[i]? = some n) (e2 : κ[j]? = some n) : i = j := by
  obtain ⟨i1, q1⟩ := List.getElem?_eq_some_iff.mp e1
  obtain ⟨i2, q2⟩ := List.getElem?_eq_some_iff.mp e2
  exact (List.getElem_inj G.nd).mp (q1.trans q2.symm)
theorem GH.setC {xs2 : List VD} {ds2 : List D} (G : GH F κ h cs) (ej : κ[j]? = some n) (r : VCs F κ h xs2 ds2) : GH F κ (h.set n (.lst ds2)) (cs.set j xs2) := by
  have hF : ¬ F n := G.df n (List.mem_of_getElem? ej)
  have X : Xt 0 F κ h F κ (h.set n (.lst ds2)) := .set hF (.inr (Nat.zero_le _))
  refine ⟨by rw [List.length_set]; exact G.len, G.nd, G.df, fun m f => by rw [List.length_set]; exact G.fl m f, fun i c m e1 e2 => ?_⟩
  by_cases hij : j = i
  · subst hij
    rw [ej] at e2; cases e2
    have hj : j < cs.length := by rw [← G.len]; exact (List.getElem?_eq_some_iff.mp ej).1
    rw [List.getElem?_set_self hj] at e1; cases e1
    obtain ⟨ds, e, _⟩ := G.at_ j cs[j] n (List.getElem?_eq_getElem hj) ej
    exact ⟨ds2, List.getElem?_set_self (h_lt e), r.up X⟩
  · rw [List.getElem?_set_ne hij] at e1
    obtain ⟨ds, e, r2⟩ := G.at_ i c m e1 e2
    refine ⟨ds, ?_, r2.up X⟩
    rw [List.getElem?_set_ne]
    · exact e
    · rintro rfl
      exact hij (kap_inj G ej e2)
theorem GH.setO {o : MO} (G : GH F κ h cs) (hF : ¬ F n) (hk : n ∉ κ) : GH F κ (h.set n o) cs := by
  have X : Xt 0 F κ h F κ (h.set n o) := .set hF (.inr (Nat.zero_le _))
  refine ⟨G.len, G.nd, G.df, fun m f => by rw [List.length_set]; exact G.fl m f, fun i c m e1 e2 => ?_⟩
  obtain ⟨ds, e, r2⟩ := G.at_ i c m e1 e2
  refine ⟨ds, ?_, r2.up X⟩
  rw [List.getElem?_set_ne]
  · exact e
  · rintro rfl
    exact hk (List.mem_of_getElem? e2)
/-- a method over a value -/
theorem vmt_ok {m : MT} {u : VD} (e : vmt cs m x ws = some (u, cs2)) (G : GH F κ h cs) (rx : VTp F κ h x dx) (ra : VTs F κ h ws es) (na : News L ws es) (k : Cn L F κ h cs2 u Q) : PQ (mtop m dx es h) Q := by
  cases x with
  | cel j =>
    obtain ⟨n, rfl, ej⟩ := rx.cell
    have e : (match cs[j]? with | some xs => (vmut m xs ws).map fun p => (p.1, cs.set j p.2) | none => none) = some (u, cs2) := e
    cases e1 : cs[j]? with
    | none => rw [e1] at e; cases e
    | some xs =>
      rw [e1] at e
      obtain ⟨⟨u2, xs2⟩, e2, e3⟩ := Option.map_eq_some_iff.mp e
      cases e3
      obtain ⟨ds, eh, r⟩ := G.cell ej e1
      obtain ⟨F2, du, ds2, X, G2, em, r1, r2⟩ := vmut_ok e2 eh G r ra na
      rw [em]
      have hk : n ∈ κ := List.mem_of_getElem? ej
      have X2 : Xt L F2 κ h F2 κ (h.set n (.lst ds2)) := .set (G2.df n hk) (.inl hk)
      have rc := r1.up X2
      exact k F2 κ _ du (X.trans X2) (G2.setC ej r2) (.c rc) rc.new
  | lst t xs =>
    have e : (vask m (.lst t xs) ws).map (fun d => (d, cs)) = some (u, cs2) := e
    obtain ⟨d, e1, e2⟩ := Option.map_eq_some_iff.mp e
    cases e2
    cases m with
    | index =>
      cases ra with
      | nil => cases e1
      | @cons w dw _ _ ra rb =>
        cases rb with
        | cons _ _ => cases e1
        | nil =>
          have e1 : (match pyV 65 (.lst .shr xs), pyV 65 w with | some (.list ds), some a => if SeqAt.shaped a && SeqAt.shaped (.list ds) then (ds.findIdx? fun z => PyData.eqv z a).map fun j => VD.int (j : Nat) else none | _, _ => none) = some u := e1
          obtain ⟨n, ds, rfl, l, r, _⟩ := rx.items
          cases p1 : pyV 65 (.lst .shr xs) with
          | none => rw [p1] at e1; cases e1
          | some p =>
            obtain ⟨ps, p3, rfl⟩ := Option.map_eq_some_iff.mp (show (xs.mapM (pyV 64)).map PyData.list = some p from p1)
            cases p2 : pyV 65 w with
            | none => rw [p1, p2] at e1; cases e1
            | some a =>
              rw [p1, p2] at e1
              simp only at e1
              have q1 : pyD 65 h (.ref n) = some (.list ps) := rx.py (show pyV 65 (.lst t xs) = some (.list ps) from p1)
              show PQ (match pyD 65 h (.ref n), pyD 65 h dw with | some (.list ds), some a => (if SeqAt.shaped a && SeqAt.shaped (.list ds) then (ds.findIdx? fun z => PyData.eqv z a).map fun j => (D.int (j : Nat), h) else none) | _, _ => none) Q
              rw [q1, ra.py p2]
              simp only
              split at e1
              · rename_i c
                rw [if_pos c]
                obtain ⟨i, f1, rfl⟩ := Option.map_eq_some_iff.mp e1
                rw [f1]
                exact k.here G (.int _)
              · cases e1
    | _ => cases e1
  | tupN xs =>
    have e : (vask m (.tupN xs) ws).map (fun d => (d, cs)) = some (u, cs2) := e
    obtain ⟨d, e1, e2⟩ := Option.map_eq_some_iff.mp e
    cases e2
    cases m with
    | index =>
      cases ra with
      | nil => cases e1
      | @cons w dw _ _ ra rb =>
        cases rb with
        | cons _ _ => cases e1
        | nil =>
          have e1 : (match pyV 65 (.tupN xs), pyV 65 w with | some (.tuple ds), some a => if SeqAt.shaped a && SeqAt.shaped (.tuple ds) then (ds.findIdx? fun z => PyData.eqv z a).map fun j => VD.int (j : Nat) else none | _, _ => none) = some u := e1
          cases p1 : pyV 65 (.tupN xs) with
          | none => rw [p1] at e1; cases e1
          | some p =>
            obtain ⟨ps, p3, rfl⟩ := Option.map_eq_some_iff.mp (show (xs.mapM (pyV 64)).map PyData.tuple = some p from p1)
            cases p2 : pyV 65 w with
            | none => rw [p1, p2] at e1; cases e1
            | some a =>
              rw [p1, p2] at e1
              simp only at e1
              have q1 := rx.py p1
              obtain ⟨ds, rfl, r⟩ := rx.tupN_
              show PQ (match pyD 65 h (.tupN ds), pyD 65 h dw with | some (.tuple ds), some a => (if SeqAt.shaped a && SeqAt.shaped (.tuple ds) then (ds.findIdx? fun z => PyData.eqv z a).map fun j => (D.int (j : Nat), h) else none) | _, _ => none) Q
              rw [q1, ra.py p2]
              simp only
              split at e1
              · rename_i c
                rw [if_pos c]
                obtain ⟨i, f1, rfl⟩ := Option.map_eq_some_iff.mp e1
                rw [f1]
                exact k.here G (.int _)
              · cases e1
    | _ => cases e1
  | _ => cases e
theorem recv_ok {m : MT} (e : vrecv m cs x = some ()) (G : GH F κ h cs) (rx : VTp F κ h x dx) : recv m dx h = true := by
  cases x with
  | cel j =>
    obtain ⟨n, rfl, ej⟩ := rx.cell
    have e : (cs[j]?).map (fun _ => ()) = some () := e
    obtain ⟨xs, e1, _⟩ := Option.map_eq_some_iff.mp e
    obtain ⟨ds, eh, _⟩ := G.cell ej e1
    show (lstAt h n).isSome = true
    rw [lstAt_l eh]; rfl
  | lst t xs =>
    obtain ⟨n, ds, rfl, l, _, _⟩ := rx.items
    show (lstAt h n).isSome = true
    rw [l]; rfl
  | tupN xs =>
    obtain ⟨ds, rfl, _⟩ := rx.tupN_
    cases m <;> first | rfl | cases e
  | _ => cases e
/-! ### what is walked -/
theorem vints_ok {f : Nat → Int} : ∀ l : List Nat, VCs F κ h (l.map fun i => .int (f i)) (l.map fun i => .int (f i))
  | [] => .nil
  | i :: l => .cons (.int _) (vints_ok l)
/-- the items stand while nothing but cells changes -/
def Stay (F : Nat → Prop) (κ : List Nat) (h : MH) (S : List (Nat × List D)) : Prop := ∀ p ∈ S, lstAt h p.1 = some p.2 ∧ p.1 ∉ κ ∧ p.1 < h.length
theorem Stay.stand {S : List (Nat × List D)} (s : Stay F κ h S) (X : Xt h.length F κ h F2 κ2 h2) : Stand S h2 := fun p m => by
  obtain ⟨e, nk, l⟩ := s p m
  unfold lstAt at e ⊢
  rw [X.lo _ l nk]
  exact e
theorem VTp.stay {t : Tg} (r : VTp F κ h (.lst t xs) d) (G : GH F κ h cs) : ∃ n ds, d = .ref n ∧ lstAt h n = some ds ∧ VCs F κ h xs ds ∧ n ∉ κ ∧ n < h.length ∧ (VC F κ h (.lst t xs) d → F n) := by
  cases r with
  | c r =>
    cases r with
    | lst f e r => exact ⟨_, _, rfl, lstAt_l e, r, fun m => G.df _ m f, h_lt e, fun _ => f⟩
    | rol f e r => exact ⟨_, _, rfl, lstAt_r e, r, fun m => G.df _ m f, h_lt e, fun _ => f⟩
  | lst t nf nk e r => exact ⟨_, _, rfl, lstAt_l e, r, nk, h_lt e, fun q => by cases q <;> assumption⟩
theorem vWalk_ok {k : IK} (e : vWalk k ws = some xs) (G : GH F κ h cs) (r : VTs F κ h ws es) : ∃ ds S, itemsOf k es h = some (ds, S) ∧ VCs F κ h xs ds ∧ Stay F κ h S ∧ (VCs F κ h ws es → ∀ p ∈ S, F p.1) := by
  have no : Stay F κ h [] ∧ (VCs F κ h ws es → ∀ p ∈ ([] : List (Nat × List D)), F p.1) := ⟨(fun p m => by cases m), (fun _ p m => by cases m)⟩
  cases k with
  | val =>
    cases r with
    | nil => cases e
    | cons r1 r =>
      rename_i x1 _ _ _
      cases r with
      | cons _ _ => cases x1 <;> cases e
      | nil =>
        cases x1 with
        | tup ys =>
          obtain ⟨ds, rfl, r⟩ := r1.tup_
          cases e
          exact ⟨ds, [], rfl, r, no⟩
        | tupN ys =>
          obtain ⟨ds, rfl, r⟩ := r1.tupN_
          cases e
          exact ⟨ds, [], rfl, r, no⟩
        | lst t ys =>
          obtain ⟨n, ds, rfl, l, r, nk, hl, hf⟩ := r1.stay G
          cases e
          refine ⟨ds, [(n, ds)], ?_, r, fun p m => ?_, fun q p m => ?_⟩
          · show (lstAt h n).map (fun xs => (xs, [(n, xs)])) = _
            rw [l]; rfl
          · rw [List.mem_singleton] at m
            subst m
            exact ⟨l, nk, hl⟩
          · rw [List.mem_singleton] at m
            subst m
            cases q with
            | cons q _ => exact hf q
        | _ => cases e
  | rng1 =>
    cases r with
    | nil => cases e
    | cons r1 r =>
      rename_i x1 _ _ _
      cases r with
      | cons _ _ => cases x1 <;> cases e
      | nil =>
        cases x1 with
        | int j =>
          cases r1.int_
          have e : (if -B62 ≤ j ∧ j < B62 then some ((List.range j.toNat).map fun (i : Nat) => VD.int i) else none) = some xs := e
          by_cases c : -B62 ≤ j ∧ j < B62
          · rw [if_pos c] at e; cases e
            exact ⟨_, [], if_pos c, vints_ok _, no⟩
          · rw [if_neg c] at e; cases e
        | _ => cases e
  | rng2 =>
    cases r with
    | nil => cases e
    | cons r1 r =>
      rename_i x1 _ _ _
      cases r with
      | nil => cases x1 <;> cases e
      | cons r2 r =>
        rename_i x2 _ _ _
        cases r with
        | cons _ _ => cases x1 <;> cases x2 <;> cases e
        | nil =>
          cases x1 with
          | int i =>
            cases x2 with
            | int j =>
              cases r1.int_; cases r2.int_
              have e : (if -B62 ≤ i ∧ i < B62 ∧ -B62 ≤ j ∧ j < B62 then some ((List.range (j - i).toNat).map fun (k : Nat) => VD.int (i + k)) else none) = some xs := e
              by_cases c : -B62 ≤ i ∧ i < B62 ∧ -B62 ≤ j ∧ j < B62
              · rw [if_pos c] at e; cases e
                exact ⟨_, [], if_pos c, vints_ok _, no⟩
              · rw [if_neg c] at e; cases e
            | _ => cases e
          | _ => cases x2 <;> cases e
  | zip =>
    cases r with
    | nil => cases e
    | cons r1 r =>
      rename_i x1 _ _ _
      cases r with
      | nil => cases x1 <;> cases e
      | cons r2 r =>
        rename_i x2 _ _ _
        cases r with
        | cons _ _ => cases x1 <;> cases x2 <;> cases e
        | nil =>
          cases x1 with
          | tup i =>
            cases x2 with
            | tup j =>
              obtain ⟨ds1, rfl, s1⟩ := r1.tup_
              obtain ⟨ds2, rfl, s2⟩ := r2.tup_
              cases e
              exact ⟨_, [], rfl, s1.zip s2, no⟩
            | _ => cases e
          | lst t i =>
            cases x2 with
            | lst u j =>
              obtain ⟨n, ds1, rfl, l1, s1, nk1, hl1, hf1⟩ := r1.stay G
              obtain ⟨m, ds2, rfl, l2, s2, nk2, hl2, hf2⟩ := r2.stay G
              cases e
              refine ⟨_, [(n, ds1), (m, ds2)], ?_, s1.zip s2, fun p mm => ?_, fun q p mm => ?_⟩
              · show (match lstAt h n, lstAt h m with | some xs, some ys => some ((xs.zip ys).map (fun (p : D × D) => D.tup [p.1, p.2]), [(n, xs), (m, ys)]) | _, _ => none) = _
                rw [l1, l2]
              · rcases List.mem_cons.mp mm with rfl | mm
                · exact ⟨l1, nk1, hl1⟩
                · rw [List.mem_singleton] at mm
                  subst mm
                  exact ⟨l2, nk2, hl2⟩
              · cases q with
                | cons q q2 =>
                  cases q2 with
                  | cons q2 _ =>
                    rcases List.mem_cons.mp mm with rfl | mm
                    · exact hf1 q
                    · rw [List.mem_singleton] at mm
                      subst mm
                      exact hf2 q2
            | _ => cases e
          | _ => cases x2 <;> cases e
/-! ### names -/
structure EnR (L : Nat) (F : Nat → Prop) (κ : List Nat) (h : MH) (ven : VEn) (en : En) : Prop where
  len : ven.length = en.length
  at_ : ∀ (i : Nat) (v : VD), ven[i]? = some (some v) → ∃ d, en[i]? = some (some d) ∧ VTp F κ h v d ∧ New L v d ∧ v.keep = some v
  sep : ∀ (i j : Nat) (v w : VD) (n : Nat), i ≠ j → ven[i]? = some (some v) → ven[j]? = some (some w) → v.own = true → w.own = true → en[i]? = some (some (.ref n)) → en[j]? ≠ some (some (.ref n))
theorem EnR.up {ven : VEn} {en : En} (N : EnR L F κ h ven en) (X : Xt h.length F κ h F2 κ2 h2) : EnR L F2 κ2 h2 ven en :=
  ⟨N.len, fun i v e => let ⟨d, e1, r, n, k⟩ := N.at_ i v e; ⟨d, e1, r.up X, n, k⟩, N.sep⟩
theorem keep_own {v w : VD} (e : v.keep = some w) : w = v := by
  cases v with
  | lst t xs => cases t <;> cases e <;> rfl
  | dic t k xs => cases t <;> cases e <;> rfl
  | _ => cases e; rfl
theorem EnR.set {ven : VEn} {en : En} (N : EnR L F κ h ven en) (i : Nat) (r : VTp F κ h v d) (nw : New L v d) (kp : v.keep = some v) (sp : ∀ n, v.own = true → d = .ref n → ∀ j w, j ≠ i → ven[j]? = some (some w) → w.own = true → en[j]? ≠ some (some (.ref n))) : EnR L F κ h (ven.set i (some v)) (en.set i (some d)) := by
  refine ⟨by simp [N.len], fun j w e => ?_, fun a b v1 v2 n hab e1 e2 o1 o2 e3 e4 => ?_⟩
  · by_cases hj : i = j
    · subst hj
      by_cases hl : i < ven.length
      · rw [List.getElem?_set_self hl] at e
        cases e
        exact ⟨d, List.getElem?_set_self (by rw [← N.len]; exact hl), r, nw, kp⟩
      · rw [List.getElem?_eq_none (by simpa using hl)] at e; cases e
    · rw [List.getElem?_set_ne hj] at e
      obtain ⟨d2, e1, h1⟩ := N.at_ j w e
      exact ⟨d2, by rw [List.getElem?_set_ne hj]; exact e1, h1⟩
  · by_cases ha : i = a
    · subst ha
      have hb : i ≠ b := hab
      rw [List.getElem?_set_ne hb] at e2 e4
      have hl : i < ven.length := by
        have := (List.getElem?_eq_some_iff.mp e1).1
        simpa using this
      rw [List.getElem?_set_self hl] at e1
      cases e1
      rw [List.getElem?_set_self (by rw [← N.len]; exact hl)] at e3
      cases e3
      exact sp n o1 rfl b v2 (Ne.symm hb) e2 o2 e4
    · rw [List.getElem?_set_ne ha] at e1 e3
      by_cases hb : i = b
      · subst hb
        have hl : i < ven.length := by
          have := (List.getElem?_eq_some_iff.mp e2).1
          simpa using this
        rw [List.getElem?_set_self hl] at e2
        cases e2
        rw [List.getElem?_set_self (by rw [← N.len]; exact hl)] at e4
        cases e4
        exact sp n o2 rfl a v1 (fun z => ha z.symm) e1 o1 e3
      · rw [List.getElem?_set_ne hb] at e2 e4
        exact N.sep a b v1 v2 n hab e1 e2 o1 o2 e3 e4
theorem VC.keep {v : VD} {d : D} (r : VC F κ h v d) : v.keep = some v := by cases r <;> rfl
theorem VC.nown {v : VD} {d : D} (r : VC F κ h v d) : v.own = false := by cases r <;> rfl
theorem EnR.setC {ven : VEn} {en : En} (N : EnR L F κ h ven en) (i : Nat) (r : VC F κ h v d) : EnR L F κ h (ven.set i (some v)) (en.set i (some d)) :=
  N.set i (.c r) r.new r.keep fun n o => by rw [r.nown] at o; cases o
theorem EnR.drop {ven : VEn} {en : En} (N : EnR L F κ h ven en) (i : Nat) {en2 : En} (hl : en2.length = en.length) (he : ∀ j, j ≠ i → en2[j]? = en[j]?) : EnR L F κ h (ven.set i none) en2 := by
  have key : ∀ j v, (ven.set i none)[j]? = some (some v) → j ≠ i ∧ ven[j]? = some (some v) := fun j v e => by
    by_cases hj : i = j
    · subst hj
      by_cases hl : i < ven.length
      · rw [List.getElem?_set_self hl] at e; cases e
      · rw [List.getElem?_eq_none (by simpa using hl)] at e; cases e
    · rw [List.getElem?_set_ne hj] at e
      exact ⟨fun z => hj z.symm, e⟩
  refine ⟨by simp [N.len, hl], fun j w e => ?_, fun a b v1 v2 n hab e1 e2 o1 o2 e3 => ?_⟩
  · obtain ⟨hj, e⟩ := key j w e
    obtain ⟨d2, e1, h1⟩ := N.at_ j w e
    exact ⟨d2, by rw [he j hj]; exact e1, h1⟩
  · obtain ⟨ha, e1⟩ := key a v1 e1
    obtain ⟨hb, e2⟩ := key b v2 e2
    rw [he a ha] at e3
    rw [he b hb]
    exact N.sep a b v1 v2 n hab e1 e2 o1 o2 e3
theorem EnR.wipe {ven : VEn} {en : En} (N : EnR L F κ h ven en) : ∀ is : List Nat, EnR L F κ h (wipeV ven is) (wipeD en is)
  | [] => N
  | i :: is => by
    have ih := EnR.wipe N is
    exact ih.drop i (by show ((wipeD en is).set i none).length = _; simp) fun j hj => List.getElem?_set_ne fun z => hj z.symm
theorem EnR.fold : ∀ (is : List Nat) {vs : List VD} {ds : List D} {ven : VEn} {en : En}, VCs F κ h vs ds → EnR L F κ h ven en → EnR L F κ h ((is.zip vs).foldl (fun e p => e.set p.1 (some p.2)) ven) ((is.zip ds).foldl (fun e p => e.set p.1 (some p.2)) en)
  | [], _, _, _, _, _, N => N
  | _ :: _, _, _, _, _, .nil, N => N
  | i :: is, _, _, _, _, .cons r s, N => EnR.fold is s (N.setC i r)
theorem bindV_ok {t : TGt} {ven ven2 : VEn} {en : En} (e : bindV t v ven = some ven2) (r : VC F κ h v d) (N : EnR L F κ h ven en) : ∃ en2, bindT t d en = some en2 ∧ EnR L F κ h ven2 en2 := by
  cases t with
  | name i => cases e; exact ⟨_, rfl, N.setC i r⟩
  | tup is =>
    cases r with
    | @tup xs ds r =>
      have e : (if is.length = xs.length then some ((is.zip xs).foldl (fun e p => e.set p.1 (some p.2)) ven) else none) = some ven2 := e
      by_cases c : is.length = xs.length
      · rw [if_pos c] at e; cases e
        exact ⟨_, if_pos (by rw [← r.length]; exact c), N.fold is r⟩
      · rw [if_neg c] at e; cases e
    | _ => cases e
end
end Mp
namespace Mp
open PySem PySem.Spec PyProof.Rows L2
def AftX (L : Nat) (F : Nat → Prop) (κ : List Nat) (h : MH) (x : XV) (cs2 : CS) (E : QX) : Prop := ∀ F2 κ2 h2 fs, Xt L F κ h F2 κ2 h2 → GH F2 κ2 h2 cs2 → VCs F2 κ2 h2 x.fs fs → E ⟨x.c, fs⟩ h2
def Aft (L : Nat) (F : Nat → Prop) (κ : List Nat) (h : MH) : Rs VD × CS → QV → QX → Prop
  | (.ok v, cs2), Q, _ => Cn L F κ h cs2 v Q
  | (.ex x, cs2), _, E => AftX L F κ h x cs2 E
def Cns (L : Nat) (F : Nat → Prop) (κ : List Nat) (h : MH) (cs2 : CS) (vs : List VD) (Q : List D → MH → Prop) : Prop := ∀ F2 κ2 h2 ds, Xt L F κ h F2 κ2 h2 → GH F2 κ2 h2 cs2 → VTs F2 κ2 h2 vs ds → News L vs ds → Q ds h2
def Afts (L : Nat) (F : Nat → Prop) (κ : List Nat) (h : MH) : Rs (List VD) × CS → (List D → MH → Prop) → QX → Prop
  | (.ok v, cs2), Q, _ => Cns L F κ h cs2 v Q
  | (.ex x, cs2), _, E => AftX L F κ h x cs2 E
/-- calls of values do what calls do -/
def ExOk (Φv : VPhi) (Φ : Phi) : Prop := ∀ f vs cs r, Φv f vs cs = some r → ∀ F κ h ds Q E, GH F κ h cs → VCs F κ h vs ds → Aft h.length F κ h r Q E → Φ f ds h Q E
section
variable {F F1 F2 : Nat → Prop} {κ κ1 κ2 : List Nat} {h h1 h2 : MH} {cs cs1 cs2 : CS} {L L2 : Nat} {v x y : VD} {d dx dy : D} {xs vs ws : List VD} {ds es : List D} {Q : QV} {E : QX} {n j : Nat}
theorem bM_some {α β : Type} {m : M α} {f : α → CS → M β} {r : Rs β × CS} (e : bM m f = some r) : (∃ a cs1, m = some (.ok a, cs1) ∧ f a cs1 = some r) ∨ ∃ x cs1, m = some (.ex x, cs1) ∧ r = (.ex x, cs1) := by
  unfold bM at e
  split at e
  · cases e
  · exact .inl ⟨_, _, rfl, e⟩
  · cases e; exact .inr ⟨_, _, rfl, rfl⟩
theorem oM_some {α : Type} {o : Option α} {r : Rs α × CS} (e : oM o cs = some r) : ∃ a, o = some a ∧ r = (.ok a, cs) := by
  unfold oM at e
  split at e
  · cases e; exact ⟨_, rfl, rfl⟩
  · cases e
theorem bMo_some {α β : Type} {o : Option α} {f : α → CS → M β} {r : Rs β × CS} (e : bM (oM o cs) f = some r) : ∃ a, o = some a ∧ f a cs = some r := by
  cases o with
  | none => cases e
  | some a => exact ⟨a, rfl, e⟩
theorem AftX.up {x : XV} (a : AftX L F κ h x cs2 E) (X : Xt L F κ h F1 κ1 h1) (hl : L ≤ L2) : AftX L2 F1 κ1 h1 x cs2 E := fun F2 κ2 h2 fs Y => a F2 κ2 h2 fs (X.trans (Y.low hl))
theorem Aft.up {r : Rs VD × CS} (a : Aft L F κ h r Q E) (X : Xt L F κ h F1 κ1 h1) (hl : L ≤ L2) : Aft L2 F1 κ1 h1 r Q E := by
  obtain ⟨r, c⟩ := r
  cases r with
  | ok v => exact fun F2 κ2 h2 d Y G r w => a F2 κ2 h2 d (X.trans (Y.low hl)) G r (w.low hl)
  | ex x => exact AftX.up a X hl
theorem Afts.up {r : Rs (List VD) × CS} {Q : List D → MH → Prop} (a : Afts L F κ h r Q E) (X : Xt L F κ h F1 κ1 h1) (hl : L ≤ L2) : Afts L2 F1 κ1 h1 r Q E := by
  obtain ⟨r, c⟩ := r
  cases r with
  | ok v => exact fun F2 κ2 h2 d Y G r w => a F2 κ2 h2 d (X.trans (Y.low hl)) G r (w.low hl)
  | ex x => exact AftX.up a X hl
def SndE (Φv : VPhi) (Φ : Phi) (e : ME) : Prop := ∀ L F κ h cs ven en r Q E, GH F κ h cs → EnR L F κ h ven en → vE Φv e ven cs = some r → Aft h.length F κ h r Q E → wE Φ e en h Q E
def SndEs (Φv : VPhi) (Φ : Phi) (es : List ME) : Prop := ∀ L F κ h cs ven en r Q E, GH F κ h cs → EnR L F κ h ven en → vEs Φv es ven cs = some r → Afts h.length F κ h r Q E → wEs Φ es en h Q E
variable {Φv : VPhi} {Φ : Phi} {ven : VEn} {en : En}
theorem SndE.seq {a : ME} {β : Type} {f : VD → CS → M β} {r : Rs β × CS} {q : QV} (S : SndE Φv Φ a) (G : GH F κ h cs) (N : EnR L F κ h ven en) (e : bM (vE Φv a ven cs) f = some r) (kx : ∀ x c, r = (.ex x, c) → AftX h.length F κ h x c E)
    (k : ∀ v cs1 F1 κ1 h1 d, f v cs1 = some r → Xt h.length F κ h F1 κ1 h1 → GH F1 κ1 h1 cs1 → EnR L F1 κ1 h1 ven en → VTp F1 κ1 h1 v d → New h.length v d → q d h1) : wE Φ a en h q E := by
  rcases bM_some e with ⟨v, cs1, e1, e2⟩ | ⟨x, cs1, e1, e2⟩
  · exact S L F κ h cs ven en _ q E G N e1 fun F1 κ1 h1 d X G1 r w => k v cs1 F1 κ1 h1 d e2 X G1 (N.up X) r w
  · exact S L F κ h cs ven en _ q E G N e1 (kx x cs1 e2)
theorem SndEs.seq {a : List ME} {β : Type} {f : List VD → CS → M β} {r : Rs β × CS} {q : List D → MH → Prop} (S : SndEs Φv Φ a) (G : GH F κ h cs) (N : EnR L F κ h ven en) (e : bM (vEs Φv a ven cs) f = some r) (kx : ∀ x c, r = (.ex x, c) → AftX h.length F κ h x c E)
    (k : ∀ v cs1 F1 κ1 h1 d, f v cs1 = some r → Xt h.length F κ h F1 κ1 h1 → GH F1 κ1 h1 cs1 → EnR L F1 κ1 h1 ven en → VTs F1 κ1 h1 v d → News h.length v d → q d h1) : wEs Φ a en h q E := by
  rcases bM_some e with ⟨v, cs1, e1, e2⟩ | ⟨x, cs1, e1, e2⟩
  · exact S L F κ h cs ven en _ q E G N e1 fun F1 κ1 h1 d X G1 r w => k v cs1 F1 κ1 h1 d e2 X G1 (N.up X) r w
  · exact S L F κ h cs ven en _ q E G N e1 (kx x cs1 e2)
theorem Aft.ex_ {r : Rs VD × CS} (a : Aft L F κ h r Q E) : ∀ x c, r = (.ex x, c) → AftX L F κ h x c E := fun x c e => by subst e; exact a
theorem Afts.ex_ {r : Rs (List VD) × CS} {Q : List D → MH → Prop} (a : Afts L F κ h r Q E) : ∀ x c, r = (.ex x, c) → AftX L F κ h x c E := fun x c e => by subst e; exact a
theorem see_ok {v : VD} (r : VTp F κ h v d) : VTp F κ h v.see d ∧ v.see.own = false := by
  cases v with
  | lst t xs =>
    cases t with
    | own =>
      cases r with
      | c r => cases r
      | lst t nf nk e r => exact ⟨.lst (.inr rfl) nf nk e r, rfl⟩
    | _ => exact ⟨r, rfl⟩
  | dic t ks xs =>
    cases t with
    | own =>
      cases r with
      | c r => cases r
      | dic t nf nk e k r => exact ⟨.dic (.inr rfl) nf nk e k r, rfl⟩
    | _ => exact ⟨r, rfl⟩
  | _ => exact ⟨r, rfl⟩
theorem int_of {i : Int} (r : VTp F κ h v d) (e : vInt v = some i) : asInt d = some i := by
  cases v with
  | int j => cases r.int_; exact e
  | _ => cases e
theorem bl_of {i : Bool} (r : VTp F κ h v d) (e : vBl v = some i) : asBl d = some i := by
  cases v with
  | bl j => cases r.bl_; exact e
  | _ => cases e
mutual
theorem vOfD_ok0 : ∀ (d : D) (v : VD), vOfD d = some v → VC F κ h v d
  | .non, v, e => by cases e; exact .non
  | .bl _, v, e => by cases e; exact .bl _
  | .int _, v, e => by cases e; exact .int _
  | .str _, v, e => by cases e; exact .str _
  | .fn _, v, e => by cases e; exact .fn _
  | .tupN xs, v, e => by
    obtain ⟨vs, e1, rfl⟩ := Option.map_eq_some_iff.mp (show (vOfDs xs).map VD.tupN = some v from e)
    exact .tupN (vOfDs_ok0 xs vs e1)
  | .tup _, v, e => by cases e
  | .ref _, v, e => by cases e
theorem vOfDs_ok0 : ∀ (ds : List D) (vs : List VD), vOfDs ds = some vs → VCs F κ h vs ds
  | [], vs, e => by cases e; exact .nil
  | d :: r, vs, e => by
    obtain ⟨w, e1, e2⟩ := Option.bind_eq_some_iff.mp (show ((vOfD d).bind fun v => (vOfDs r).map (v :: ·)) = some vs from e)
    obtain ⟨ws, e3, rfl⟩ := Option.map_eq_some_iff.mp e2
    exact .cons (vOfD_ok0 d w e1) (vOfDs_ok0 r ws e3)
end
theorem vOfD_ok {d : D} (e : vOfD d = some v) : VC F κ h v d := vOfD_ok0 d v e
/-- a bound -/
theorem opt_ok {e : ME} {β : Type} {f : Option Int → CS → M β} {r : Rs β × CS} {q : Option Int → MH → Prop} (S : SndE Φv Φ e) (G : GH F κ h cs) (N : EnR L F κ h ven en) (e1 : bM (optM (isOmit e) (vE Φv e ven) cs) f = some r) (kx : ∀ x c, r = (.ex x, c) → AftX h.length F κ h x c E)
    (k : ∀ v cs1 F1 κ1 h1, f v cs1 = some r → Xt h.length F κ h F1 κ1 h1 → GH F1 κ1 h1 cs1 → EnR L F1 κ1 h1 ven en → q v h1) : ifO (isOmit e) (wE Φ e en h) q E h := by
  unfold optM at e1
  unfold ifO
  cases c : isOmit e with
  | true => rw [c] at e1; exact k none cs F κ h e1 .refl G N
  | false =>
    rw [c] at e1
    simp only [Bool.false_eq_true, if_false] at e1 ⊢
    have e2 : bM (vE Φv e ven cs) (fun y cs => bM (oM ((vInt y).map some) cs) f) = some r := by
      cases z : vE Φv e ven cs with
      | none => rw [z] at e1; exact e1
      | some p =>
        rw [z] at e1
        obtain ⟨p, c⟩ := p
        cases p <;> exact e1
    refine S.seq G N e2 kx fun v cs1 F1 κ1 h1 d e3 X1 G1 N1 r1 _ => ?_
    obtain ⟨a, e4, e5⟩ := bMo_some e3
    obtain ⟨i, e6, rfl⟩ := Option.map_eq_some_iff.mp e4
    rw [int_of r1 e6]
    exact k _ cs1 F1 κ1 h1 e5 X1 G1 N1
/-- a comprehension -/
def OptR (F : Nat → Prop) (κ : List Nat) (h : MH) : Option VD → Option D → Prop
  | some v, some d => VC F κ h v d
  | none, none => True
  | _, _ => False
theorem turn_ok {onev : VD → CS → M (Option VD)} {one : D → MH → (Option D → MH → Prop) → Prop} {S : List (Nat × List D)} {F0 : Nat → Prop} {κ0 : List Nat} {h0 : MH} {Qr : List D → MH → Prop} (sy : Stay F0 κ0 h0 S)
    (H1 : ∀ x dx cs F κ h r cs2 K, GH F κ h cs → Xt h0.length F0 κ0 h0 F κ h → VC F κ h x dx → onev x cs = some (.ok r, cs2) → (∀ F2 κ2 h2 dr, Xt h.length F κ h F2 κ2 h2 → GH F2 κ2 h2 cs2 → OptR F2 κ2 h2 r dr → K dr h2) → one dx h K) :
    ∀ (xs : List VD) (dxs : List D) (acc : List VD) (dacc : List D) (F : Nat → Prop) (κ : List Nat) (h : MH) (cs : CS) (out : List VD) (cs2 : CS), turnV onev xs acc cs = some (.ok out, cs2) → GH F κ h cs → Xt h0.length F0 κ0 h0 F κ h → VCs F κ h xs dxs → VCs F κ h acc dacc →
      (∀ F2 κ2 h2 dout, Xt h0.length F0 κ0 h0 F2 κ2 h2 → GH F2 κ2 h2 cs2 → VCs F2 κ2 h2 out dout → Qr dout h2) → turns S one dxs dacc h Qr
  | [], dxs, acc, dacc, F, κ, h, cs, out, cs2, e, G, X, rx, ra, k => by
    cases rx
    cases e
    exact ⟨sy.stand X, k F κ h dacc X G ra⟩
  | x :: xs, dxs, acc, dacc, F, κ, h, cs, out, cs2, e, G, X, rx, ra, k => by
    cases rx with
    | cons r s =>
      refine ⟨sy.stand X, ?_⟩
      rcases bM_some (show bM (onev x cs) (fun r cs => match r with | some y => if acc.length < sizeLine then turnV onev xs (acc ++ [y]) cs else none | none => turnV onev xs acc cs) = some (.ok out, cs2) from e) with ⟨o, cs1, e1, e2⟩ | ⟨_, _, _, e2⟩
      · refine H1 x _ cs F κ h o cs1 _ G X r e1 fun F1 κ1 h1 dr X1 G1 ro => ?_
        have Y := X.trans (X1.low (X.ln))
        cases o with
        | none =>
          cases dr with
          | some _ => exact ro.elim
          | none => exact turn_ok sy H1 xs _ acc _ F1 κ1 h1 cs1 out cs2 e2 G1 Y (s.up X1) (ra.up X1) k
        | some y =>
          cases dr with
          | none => exact ro.elim
          | some dy =>
            simp only at e2
            split at e2
            · rename_i hz
              exact ⟨by rw [← ra.length]; exact hz, turn_ok sy H1 xs _ _ _ F1 κ1 h1 cs1 out cs2 e2 G1 Y (s.up X1) ((ra.up X1).app (.cons ro .nil)) k⟩
            · cases e2
      · cases e2
theorem noX_some {α : Type} {m : M α} {r : Rs α × CS} (e : noX m = some r) : ∃ a c, m = some (.ok a, c) ∧ r = (.ok a, c) := by
  unfold noX at e
  split at e
  · cases e; exact ⟨_, _, rfl, rfl⟩
  · cases e
theorem comp_ok {elt cond : ME} {tg : TGt} {k : IK} {its : List ME} (se : SndE Φv Φ elt) (sc : SndE Φv Φ cond) (si : SndEs Φv Φ its) : SndE Φv Φ (.comp elt tg k its cond) := by
  intro L F κ h cs ven en r Q E G N e A
  rw [vE] at e
  rw [wE]
  refine si.seq G N e A.ex_ fun ws cs1 F1 κ1 h1 ds e1 X1 G1 N1 rw_ nw => ?_
  obtain ⟨xs, w1, e2⟩ := bMo_some e1
  obtain ⟨dxs, S, i1, rx, sy, _⟩ := vWalk_ok w1 G1 rw_
  rw [i1]
  show turns S _ dxs [] h1 _
  rcases bM_some e2 with ⟨out, cs2, e3, e4⟩ | ⟨x, c, e3, _⟩
  · obtain ⟨a, c, e5, e6⟩ := noX_some e3
    cases e6
    obtain ⟨v, e7, rfl⟩ := oM_some e4
    refine turn_ok (F0 := F1) (κ0 := κ1) (h0 := h1) sy (fun x dx cs3 F3 κ3 h3 r3 cs4 K G3 X3 rx3 f1 kk => ?_) xs dxs [] [] F1 κ1 h1 cs1 out cs2 e5 G1 .refl rx .nil fun F2 κ2 h2 dout X2 G2 ro => ?_
    · obtain ⟨en2, b1, f2⟩ := bMo_some f1
      obtain ⟨den2, b2, N2⟩ := bindV_ok b1 rx3 ((N1.up X3).wipe tg.slots)
      rw [b2]
      show ifC _ _ _ h3
      have fin : ∀ b cs5 F5 κ5 h5, (if b = true then bM (vE Φv elt en2 cs5) fun y cs => oM (y.esc.map some) cs else some (.ok none, cs5)) = some (.ok r3, cs4) → Xt h3.length F3 κ3 h3 F5 κ5 h5 → GH F5 κ5 h5 cs5 → EnR L F5 κ5 h5 en2 den2 →
          (if b = true then wE Φ elt den2 h5 (fun y h4 => K (some y) h4) (fun _ _ => False) else K none h5) := by
        intro b cs5 F5 κ5 h5 f5 X5 G5 N5
        cases b with
        | false =>
          simp only [Bool.false_eq_true, if_false] at f5 ⊢
          cases f5
          exact kk F5 κ5 h5 none X5 G5 trivial
        | true =>
          simp only [if_true] at f5 ⊢
          refine se.seq G5 N5 f5 (fun _ _ z => by cases z) fun y cs6 F6 κ6 h6 dy f6 X6 G6 N6 ry ny => ?_
          obtain ⟨o, o1, o2⟩ := oM_some f6
          obtain ⟨w, o3, rfl⟩ := Option.map_eq_some_iff.mp o1
          cases o2
          obtain ⟨F7, X7, G7, r7⟩ := esc_ok o3 ry ny G6
          exact kk F7 κ6 h6 (some dy) ((X5.trans (X6.low X5.ln)).trans (X7.low X5.ln)) G7 r7
      unfold tstM at f2
      unfold ifC
      cases c : isOmit cond with
      | true =>
        rw [c] at f2
        exact fin true cs3 F3 κ3 h3 f2 .refl G3 N2
      | false =>
        rw [c] at f2
        simp only [Bool.false_eq_true, if_false] at f2 ⊢
        have f3 : bM (vE Φv cond en2 cs3) (fun y cs => bM (oM (vBl y) cs) fun b cs => if b = true then bM (vE Φv elt en2 cs) fun y cs => oM (y.esc.map some) cs else some (.ok none, cs)) = some (.ok r3, cs4) := by
          cases z : vE Φv cond en2 cs3 with
          | none => rw [z] at f2; exact f2
          | some p =>
            rw [z] at f2
            obtain ⟨p, c⟩ := p
            cases p <;> exact f2
        refine sc.seq G3 N2 f3 (fun _ _ z => by cases z) fun y cs6 F6 κ6 h6 dy f6 X6 G6 N6 ry ny => ?_
        obtain ⟨b, o1, o2⟩ := bMo_some f6
        rw [bl_of ry o1]
        exact fin b cs6 F6 κ6 h6 o2 X6 G6 N6
    · refine Cn.lst (v := v) (fun F4 κ4 h4 d4 X4 G4 r4 n4 => ?_) G2 ro e7
      have Y := X1.trans ((X2.low X1.ln).trans (X4.low (Nat.le_trans X1.ln X2.ln)))
      exact A F4 κ4 h4 d4 Y G4 r4 (n4.low (Nat.le_trans X1.ln X2.ln))
  · obtain ⟨a, cc, _, e6⟩ := noX_some e3
    cases e6
mutual
theorem sndVE (H : ExOk Φv Φ) : ∀ e : ME, SndE Φv Φ e
  | .omit => fun L F κ h cs ven en r Q E G N e A => by rw [vE] at e; cases e
  | .var i => fun L F κ h cs ven en r Q E G N e A => by
    rw [vE] at e
    obtain ⟨v, e1, rfl⟩ := oM_some e
    obtain ⟨w, e2, rfl⟩ := Option.map_eq_some_iff.mp e1
    have e3 : ven[i]? = some (some w) := by
      cases z : ven[i]? with
      | none => rw [z] at e2; cases e2
      | some o => rw [z] at e2; cases o <;> cases e2; rfl
    obtain ⟨d, e4, r, n, _⟩ := N.at_ i w e3
    rw [wE, e4]
    obtain ⟨r2, o2⟩ := see_ok r
    exact A F κ h d .refl G r2 (.of o2)
  | .cst d => fun L F κ h cs ven en r Q E G N e A => by
    rw [vE] at e
    obtain ⟨v, e1, rfl⟩ := oM_some e
    rw [wE]
    exact Cn.here A G (vOfD_ok e1)
  | .tup es => fun L F κ h cs ven en r Q E G N e A => by
    rw [vE] at e
    rw [wE]
    refine (sndVEs H es).seq G N e A.ex_ fun ws cs1 F1 κ1 h1 ds e1 X1 G1 N1 rw_ nw => ?_
    obtain ⟨v, e2, rfl⟩ := oM_some e1
    obtain ⟨vs, e3, e4⟩ := Option.bind_eq_some_iff.mp e2
    obtain ⟨F2, X2, G2, r2⟩ := escs_ok e3 rw_ nw G1
    split at e4
    · rename_i hz
      cases e4
      exact ⟨by rw [← r2.length]; exact hz, A F2 κ1 h1 (.tup ds) (X1.trans X2) G2 (.c (.tup r2)) (.of rfl)⟩
    · cases e4
  | .lst es => fun L F κ h cs ven en r Q E G N e A => by
    rw [vE] at e
    rw [wE]
    refine (sndVEs H es).seq G N e A.ex_ fun ws cs1 F1 κ1 h1 ds e1 X1 G1 N1 rw_ nw => ?_
    obtain ⟨v, e2, rfl⟩ := oM_some e1
    obtain ⟨vs, e3, e4⟩ := Option.bind_eq_some_iff.mp e2
    obtain ⟨F2, X2, G2, r2⟩ := escs_ok e3 rw_ nw G1
    exact Cn.lst (fun F3 κ3 h3 d3 X3 G3 r3 n3 => A F3 κ3 h3 d3 ((X1.trans X2).trans (X3.low X1.ln)) G3 r3 (n3.low X1.ln)) G2 r2 e4
  | .bin o a b => fun L F κ h cs ven en r Q E G N e A => by
    rw [vE] at e
    rw [wE]
    refine (sndVE H a).seq G N e A.ex_ fun x cs1 F1 κ1 h1 dx e1 X1 G1 N1 rx nx => ?_
    have A1 := A.up X1 X1.ln
    refine (sndVE H b).seq G1 N1 e1 A1.ex_ fun y cs2 F2 κ2 h2 dy e2 X2 G2 N2 ry ny => ?_
    have A2 := A1.up X2 X2.ln
    obtain ⟨v, e3, rfl⟩ := oM_some e2
    exact vbin_ok e3 G2 (rx.up X2) ry A2
  | .neg a => fun L F κ h cs ven en r Q E G N e A => by
    rw [vE] at e
    rw [wE]
    refine (sndVE H a).seq G N e A.ex_ fun x cs1 F1 κ1 h1 dx e1 X1 G1 N1 rx nx => ?_
    obtain ⟨v, e3, rfl⟩ := oM_some e1
    obtain ⟨i, e4, rfl⟩ := Option.map_eq_some_iff.mp e3
    rw [int_of rx e4]
    exact Cn.here (A.up X1 X1.ln) G1 (.int _)
  | .not a => fun L F κ h cs ven en r Q E G N e A => by
    rw [vE] at e
    rw [wE]
    refine (sndVE H a).seq G N e A.ex_ fun x cs1 F1 κ1 h1 dx e1 X1 G1 N1 rx nx => ?_
    obtain ⟨v, e3, rfl⟩ := oM_some e1
    obtain ⟨i, e4, rfl⟩ := Option.map_eq_some_iff.mp e3
    rw [bl_of rx e4]
    exact Cn.here (A.up X1 X1.ln) G1 (.bl _)
  | .cmp o a b => fun L F κ h cs ven en r Q E G N e A => by
    rw [vE] at e
    rw [wE]
    refine (sndVE H a).seq G N e A.ex_ fun x cs1 F1 κ1 h1 dx e1 X1 G1 N1 rx nx => ?_
    have A1 := A.up X1 X1.ln
    refine (sndVE H b).seq G1 N1 e1 A1.ex_ fun y cs2 F2 κ2 h2 dy e2 X2 G2 N2 ry ny => ?_
    obtain ⟨v, e3, rfl⟩ := oM_some e2
    obtain ⟨i, e4, rfl⟩ := Option.map_eq_some_iff.mp e3
    rw [vcmp_ok e4 (rx.up X2) ry]
    exact Cn.here (A1.up X2 X2.ln) G2 (.bl _)
  | .chain o1 o2 a b c => fun L F κ h cs ven en r Q E G N e A => by
    rw [vE] at e
    rw [wE]
    refine (sndVE H a).seq G N e A.ex_ fun x cs1 F1 κ1 h1 dx e1 X1 G1 N1 rx nx => ?_
    have A1 := A.up X1 X1.ln
    refine (sndVE H b).seq G1 N1 e1 A1.ex_ fun y cs2 F2 κ2 h2 dy e2 X2 G2 N2 ry ny => ?_
    have A2 := A1.up X2 X2.ln
    obtain ⟨k, e3, e4⟩ := bMo_some e2
    rw [vcmp_ok e3 (rx.up X2) ry]
    cases k with
    | false =>
      simp only [Bool.false_eq_true, if_false] at e4
      cases e4
      exact Cn.here A2 G2 (.bl _)
    | true =>
      simp only [if_true] at e4
      refine (sndVE H c).seq G2 N2 e4 A2.ex_ fun z cs3 F3 κ3 h3 dz e5 X3 G3 N3 rz nz => ?_
      obtain ⟨v, e6, rfl⟩ := oM_some e5
      obtain ⟨i, e7, rfl⟩ := Option.map_eq_some_iff.mp e6
      rw [vcmp_ok e7 (ry.up X3) rz]
      exact Cn.here (A2.up X3 X3.ln) G3 (.bl _)
  | .and a b => fun L F κ h cs ven en r Q E G N e A => by
    rw [vE] at e
    rw [wE]
    refine (sndVE H a).seq G N e A.ex_ fun x cs1 F1 κ1 h1 dx e1 X1 G1 N1 rx nx => ?_
    have A1 := A.up X1 X1.ln
    obtain ⟨k, e3, e4⟩ := bMo_some e1
    rw [bl_of rx e3]
    cases k with
    | false =>
      simp only [Bool.false_eq_true, if_false] at e4
      cases e4
      exact Cn.here A1 G1 (.bl _)
    | true =>
      simp only [if_true] at e4
      exact sndVE H b L F1 κ1 h1 cs1 ven en r Q E G1 N1 e4 A1
  | .or a b => fun L F κ h cs ven en r Q E G N e A => by
    rw [vE] at e
    rw [wE]
    refine (sndVE H a).seq G N e A.ex_ fun x cs1 F1 κ1 h1 dx e1 X1 G1 N1 rx nx => ?_
    have A1 := A.up X1 X1.ln
    obtain ⟨k, e3, e4⟩ := bMo_some e1
    rw [bl_of rx e3]
    cases k with
    | true =>
      simp only [if_true] at e4
      cases e4
      exact Cn.here A1 G1 (.bl _)
    | false =>
      simp only [Bool.false_eq_true, if_false] at e4
      exact sndVE H b L F1 κ1 h1 cs1 ven en r Q E G1 N1 e4 A1
  | .ite c a b => fun L F κ h cs ven en r Q E G N e A => by
    rw [vE] at e
    rw [wE]
    refine (sndVE H c).seq G N e A.ex_ fun x cs1 F1 κ1 h1 dx e1 X1 G1 N1 rx nx => ?_
    have A1 := A.up X1 X1.ln
    obtain ⟨k, e3, e4⟩ := bMo_some e1
    rw [bl_of rx e3]
    cases k with
    | true =>
      simp only [if_true] at e4
      exact sndVE H a L F1 κ1 h1 cs1 ven en r Q E G1 N1 e4 A1
    | false =>
      simp only [Bool.false_eq_true, if_false] at e4
      exact sndVE H b L F1 κ1 h1 cs1 ven en r Q E G1 N1 e4 A1
  | .ix a b => fun L F κ h cs ven en r Q E G N e A => by
    rw [vE] at e
    rw [wE]
    refine (sndVE H a).seq G N e A.ex_ fun x cs1 F1 κ1 h1 dx e1 X1 G1 N1 rx nx => ?_
    have A1 := A.up X1 X1.ln
    refine (sndVE H b).seq G1 N1 e1 A1.ex_ fun y cs2 F2 κ2 h2 dy e2 X2 G2 N2 ry ny => ?_
    obtain ⟨v, e3, rfl⟩ := oM_some e2
    obtain ⟨d, e4, r4⟩ := vix_ok e3 G2 (rx.up X2) ry
    rw [e4]
    exact Cn.here (A1.up X2 X2.ln) G2 r4
  | .pick ks a b => fun L F κ h cs ven en r Q E G N e A => by
    rw [vE] at e
    rw [wE]
    refine (sndVE H a).seq G N e A.ex_ fun x cs1 F1 κ1 h1 dx e1 X1 G1 N1 rx nx => ?_
    have A1 := A.up X1 X1.ln
    refine (sndVE H b).seq G1 N1 e1 A1.ex_ fun y cs2 F2 κ2 h2 dy e2 X2 G2 N2 ry ny => ?_
    obtain ⟨v, e3, rfl⟩ := oM_some e2
    obtain ⟨o, e4, rfl⟩ := Option.map_eq_some_iff.mp e3
    cases x with
    | str s =>
      cases rx.str_
      have e5 : pickD ks (.str s) = some o := e4
      rw [e5]
      cases o with
      | some i => exact Cn.here (A1.up X2 X2.ln) G2 (.int i)
      | none => exact A1 F2 κ2 h2 dy X2 G2 ry ny
    | _ => cases e4
  | .sl a lo hi => fun L F κ h cs ven en r Q E G N e A => by
    rw [vE] at e
    rw [wE]
    refine (sndVE H a).seq G N e A.ex_ fun x cs1 F1 κ1 h1 dx e1 X1 G1 N1 rx nx => ?_
    have A1 := A.up X1 X1.ln
    refine opt_ok (sndVE H lo) G1 N1 e1 A1.ex_ fun l cs2 F2 κ2 h2 e2 X2 G2 N2 => ?_
    have A2 := A1.up X2 X2.ln
    refine opt_ok (sndVE H hi) G2 N2 e2 A2.ex_ fun u cs3 F3 κ3 h3 e3 X3 G3 N3 => ?_
    obtain ⟨v, e4, rfl⟩ := oM_some e3
    exact vsl_ok e4 G3 ((rx.up X2).up X3) (A2.up X3 X3.ln)
  | .slS a lo hi st => fun L F κ h cs ven en r Q E G N e A => by
    rw [vE] at e
    rw [wE]
    refine (sndVE H a).seq G N e A.ex_ fun x cs1 F1 κ1 h1 dx e1 X1 G1 N1 rx nx => ?_
    have A1 := A.up X1 X1.ln
    refine opt_ok (sndVE H lo) G1 N1 e1 A1.ex_ fun l cs2 F2 κ2 h2 e2 X2 G2 N2 => ?_
    have A2 := A1.up X2 X2.ln
    refine opt_ok (sndVE H hi) G2 N2 e2 A2.ex_ fun u cs3 F3 κ3 h3 e3 X3 G3 N3 => ?_
    obtain ⟨v, e4, rfl⟩ := oM_some e3
    exact vslS_ok e4 G3 ((rx.up X2).up X3) (A2.up X3 X3.ln)
  | .call f es => fun L F κ h cs ven en r Q E G N e A => by
    rw [vE] at e
    rw [wE]
    refine (sndVEs H es).seq G N e A.ex_ fun ws cs1 F1 κ1 h1 ds e1 X1 G1 N1 rw_ nw => ?_
    obtain ⟨vs, e3, e4⟩ := bMo_some e1
    obtain ⟨F2, X2, G2, r2⟩ := escs_ok e3 rw_ nw G1
    exact H f vs cs1 r e4 F2 κ1 h1 ds Q E G2 r2 (A.up (X1.trans X2) X1.ln)
  | .callv i es => fun L F κ h cs ven en r Q E G N e A => by
    rw [vE] at e
    rw [wE]
    obtain ⟨f, e1, e2⟩ := bMo_some e
    obtain ⟨v, e3, e4⟩ := Option.bind_eq_some_iff.mp e1
    have e5 : ven[i]? = some (some v) := by
      cases z : ven[i]? with
      | none => rw [z] at e3; cases e3
      | some o => rw [z] at e3; cases o <;> cases e3; rfl
    obtain ⟨d, e6, r1, n1, _⟩ := N.at_ i v e5
    rw [e6]
    cases v with
    | fn g =>
      cases e4
      have ed : d = .fn f := by cases r1 with | c r => cases r; rfl
      subst ed
      show wEs Φ es en h _ E
      refine (sndVEs H es).seq G N e2 A.ex_ fun ws cs1 F1 κ1 h1 ds e1 X1 G1 N1 rw_ nw => ?_
      obtain ⟨vs, e3, e4⟩ := bMo_some e1
      obtain ⟨F2, X2, G2, r2⟩ := escs_ok e3 rw_ nw G1
      exact H f vs cs1 r e4 F2 κ1 h1 ds Q E G2 r2 (A.up (X1.trans X2) X1.ln)
    | _ => cases e4
  | .bi f es => fun L F κ h cs ven en r Q E G N e A => by
    rw [vE] at e
    rw [wE]
    refine (sndVEs H es).seq G N e A.ex_ fun ws cs1 F1 κ1 h1 ds e1 X1 G1 N1 rw_ nw => ?_
    obtain ⟨v, e3, rfl⟩ := oM_some e1
    exact vbi_ok e3 G1 rw_ (A.up X1 X1.ln)
  | .mt m o es => fun L F κ h cs ven en r Q E G N e A => by
    rw [vE] at e
    rw [wE]
    refine (sndVE H o).seq G N e A.ex_ fun x cs1 F1 κ1 h1 dx e1 X1 G1 N1 rx nx => ?_
    have A1 := A.up X1 X1.ln
    obtain ⟨u, e0, e1⟩ := bMo_some e1
    refine ⟨recv_ok e0 G1 rx, ?_⟩
    refine (sndVEs H es).seq G1 N1 e1 A1.ex_ fun ws cs2 F2 κ2 h2 ds e2 X2 G2 N2 rw_ nw => ?_
    split at e2
    · rename_i p f3
      cases e2
      exact vmt_ok f3 G2 (rx.up X2) rw_ nw (A1.up X2 (Nat.le_refl _))
    · cases e2
  | .comp elt tg k its cond => comp_ok (sndVE H elt) (sndVE H cond) (sndVEs H its)
theorem sndVEs (H : ExOk Φv Φ) : ∀ es : List ME, SndEs Φv Φ es
  | [] => fun L F κ h cs ven en r Q E G N e A => by
    rw [vEs] at e
    rw [wEs]
    cases e
    exact A F κ h [] .refl G .nil .nil
  | a :: es => fun L F κ h cs ven en r Q E G N e A => by
    rw [vEs] at e
    rw [wEs]
    refine (sndVE H a).seq G N e A.ex_ fun x cs1 F1 κ1 h1 dx e1 X1 G1 N1 rx nx => ?_
    have A1 := A.up X1 X1.ln
    refine (sndVEs H es).seq G1 N1 e1 A1.ex_ fun ws cs2 F2 κ2 h2 ds e2 X2 G2 N2 rw_ nw => ?_
    cases e2
    exact A F2 κ2 h2 _ (X1.trans (X2.low X1.ln)) G2 (.cons (rx.up X2) rw_) (.cons nx (nw.low X1.ln))
end
end
end Mp
namespace Mp
open PySem PySem.Spec PyProof.Rows L2
def AftS (L : Nat) (F : Nat → Prop) (κ : List Nat) (h : MH) : SR × CS → (En → MH → Prop) → QV → QE → Prop
  | (.nx ven, cs2), nx, _, _ => ∀ F2 κ2 h2 en2, Xt L F κ h F2 κ2 h2 → GH F2 κ2 h2 cs2 → EnR L F2 κ2 h2 ven en2 → nx en2 h2
  | (.rt v, cs2), _, rt, _ => Cn L F κ h cs2 v rt
  | (.ex x ven, cs2), _, _, E => ∀ F2 κ2 h2 en2 fs, Xt L F κ h F2 κ2 h2 → GH F2 κ2 h2 cs2 → EnR L F2 κ2 h2 ven en2 → VCs F2 κ2 h2 x.fs fs → E ⟨x.c, fs⟩ en2 h2
section
variable {F F1 F2 : Nat → Prop} {κ κ1 κ2 : List Nat} {h h1 h2 : MH} {cs cs1 cs2 : CS} {L L2 : Nat} {v x y : VD} {d dx dy : D} {xs vs ws : List VD} {ds es : List D} {Q : QV} {E : QE} {n j : Nat}
variable {Φv : VPhi} {Φ : Phi} {ven : VEn} {en : En} {nx : En → MH → Prop} {rt : QV} {r : SR × CS}
theorem AftS.up (a : AftS L F κ h r nx rt E) (X : Xt L F κ h F1 κ1 h1) : AftS L F1 κ1 h1 r nx rt E := by
  obtain ⟨r, c⟩ := r
  cases r with
  | nx ven => exact fun F2 κ2 h2 en2 Y => a F2 κ2 h2 en2 (X.trans Y)
  | rt v => exact fun F2 κ2 h2 d Y => a F2 κ2 h2 d (X.trans Y)
  | ex x ven => exact fun F2 κ2 h2 en2 fs Y => a F2 κ2 h2 en2 fs (X.trans Y)
theorem sM_some {α : Type} {m : M α} {f : α → CS → SM} (e : sM m ven f = some r) : (∃ a cs1, m = some (.ok a, cs1) ∧ f a cs1 = some r) ∨ ∃ x cs1, m = some (.ex x, cs1) ∧ r = (.ex x ven, cs1) := by
  unfold sM at e
  split at e
  · cases e
  · exact .inl ⟨_, _, rfl, e⟩
  · cases e; exact .inr ⟨_, _, rfl, rfl⟩
theorem oS_some {α : Type} {o : Option α} {f : α → SM} (e : oS o f = some r) : ∃ a, o = some a ∧ f a = some r := by
  cases o with
  | none => cases e
  | some a => exact ⟨a, rfl, e⟩
theorem sE (H : ExOk Φv Φ) {a : ME} {f : VD → CS → SM} {q : QV} (G : GH F κ h cs) (N : EnR L F κ h ven en) (hL : L ≤ h.length) (e : sM (vE Φv a ven cs) ven f = some r) (A : AftS L F κ h r nx rt E)
    (k : ∀ v cs1 F1 κ1 h1 d, f v cs1 = some r → Xt L F κ h F1 κ1 h1 → Xt h.length F κ h F1 κ1 h1 → GH F1 κ1 h1 cs1 → EnR L F1 κ1 h1 ven en → L ≤ h1.length → AftS L F1 κ1 h1 r nx rt E → VTp F1 κ1 h1 v d → New h.length v d → q d h1) : wE Φ a en h q fun x h1 => E x en h1 := by
  rcases sM_some e with ⟨v, cs1, e1, e2⟩ | ⟨x, cs1, e1, rfl⟩
  · exact sndVE H a L F κ h cs ven en _ q _ G N e1 fun F1 κ1 h1 d X G1 r w => k v cs1 F1 κ1 h1 d e2 (X.low hL) X G1 (N.up X) (Nat.le_trans hL X.ln) (A.up (X.low hL)) r w
  · exact sndVE H a L F κ h cs ven en _ q _ G N e1 fun F1 κ1 h1 fs X G1 r => A F1 κ1 h1 en fs (X.low hL) G1 (N.up X) r
theorem sEs (H : ExOk Φv Φ) {a : List ME} {f : List VD → CS → SM} {q : List D → MH → Prop} (G : GH F κ h cs) (N : EnR L F κ h ven en) (hL : L ≤ h.length) (e : sM (vEs Φv a ven cs) ven f = some r) (A : AftS L F κ h r nx rt E)
    (k : ∀ v cs1 F1 κ1 h1 d, f v cs1 = some r → Xt L F κ h F1 κ1 h1 → Xt h.length F κ h F1 κ1 h1 → GH F1 κ1 h1 cs1 → EnR L F1 κ1 h1 ven en → L ≤ h1.length → AftS L F1 κ1 h1 r nx rt E → VTs F1 κ1 h1 v d → News h.length v d → q d h1) : wEs Φ a en h q fun x h1 => E x en h1 := by
  rcases sM_some e with ⟨v, cs1, e1, e2⟩ | ⟨x, cs1, e1, rfl⟩
  · exact sndVEs H a L F κ h cs ven en _ q _ G N e1 fun F1 κ1 h1 d X G1 r w => k v cs1 F1 κ1 h1 d e2 (X.low hL) X G1 (N.up X) (Nat.le_trans hL X.ln) (A.up (X.low hL)) r w
  · exact sndVEs H a L F κ h cs ven en _ q _ G N e1 fun F1 κ1 h1 fs X G1 r => A F1 κ1 h1 en fs (X.low hL) G1 (N.up X) r
theorem join_some {l : List (Option VD)} {i : Nat} {v : VD} (e : (l[i]?).join = some v) : l[i]? = some (some v) := by
  cases z : l[i]? with
  | none => rw [z] at e; cases e
  | some o => rw [z] at e; cases o <;> cases e; rfl
/-- the names' own objects lie below -/
def LowE (L0 : Nat) (ven : VEn) (en : En) : Prop := ∀ (j : Nat) (w : VD) (n : Nat), ven[j]? = some (some w) → w.own = true → en[j]? = some (some (D.ref n)) → n < L0
theorem EnR.frz {L0 : Nat} (N : EnR L F κ h ven en) (X : Xt L0 F κ h F2 κ h) (lo : LowE L0 ven en) : EnR L F2 κ h ven en := by
  refine ⟨N.len, fun j w ej => ?_, N.sep⟩
  obtain ⟨d, e1, r, n1, k1⟩ := N.at_ j w ej
  refine ⟨d, e1, ?_, n1, k1⟩
  have key : ∀ m, d = .ref m → w.own = true → ¬ F m → ¬ F2 m := fun m z ow fm f2 => by
    rcases X.fn m f2 with y | y
    · exact fm y
    · have := lo j w m ej ow (by rw [e1, z]); omega
  cases r with
  | c r => exact .c (r.up X)
  | lst t1 nf nk e r =>
    rcases t1 with rfl | rfl
    · exact .lst (.inl rfl) (key _ rfl rfl nf) nk e (r.up X)
    · cases k1
  | dic t1 nf nk e k r =>
    rcases t1 with rfl | rfl
    · exact .dic (.inl rfl) (key _ rfl rfl nf) nk e k (r.up X)
    · cases k1
/-- a name's value is stored: it is not shared with another name's -/
theorem EnR.setN (N : EnR L F κ h ven en) (i : Nat) {L0 : Nat} (r : VTp F κ h v d) (nw : New L0 v d) (hL : L ≤ L0) (kp : v.keep = some v) (lo : LowE L0 ven en) : EnR L F κ h (ven.set i (some v)) (en.set i (some d)) := by
  refine N.set i r (nw.low hL) kp fun n o e j w hj e1 e2 e3 => ?_
  obtain ⟨m, e4, l⟩ := nw o
  subst e
  cases e4
  have := lo j w n e1 e2 e3
  omega
theorem own_lt (N : EnR L F κ h ven en) : LowE h.length ven en := fun j w n e o e1 => by
  obtain ⟨d, e2, r, _, _⟩ := N.at_ j w e
  obtain ⟨m, rfl, _, _, l⟩ := r.own_ref o
  rw [e1] at e2
  cases e2
  exact l
/-- a name's own object changes -/
theorem VTp.setO {o : MO} (r : VTp F κ h v d) (nF : ¬ F n) (nk : n ∉ κ) (no : v.own = true → d ≠ .ref n) (kp : v.keep = some v) : VTp F κ (h.set n o) v d := by
  have X : Xt 0 F κ h F κ (h.set n o) := .set nF (.inr (Nat.zero_le _))
  cases r with
  | c r => exact .c (r.up X)
  | @lst t xs ds m t1 nf nk e r =>
    have hm : n ≠ m := by
      rintro rfl
      rcases t1 with rfl | rfl
      · exact no rfl rfl
      · cases kp
    exact .lst t1 nf nk (by rw [List.getElem?_set_ne hm]; exact e) (r.up X)
  | @dic t ks vs kvs m t1 nf nk e k r =>
    have hm : n ≠ m := by
      rintro rfl
      rcases t1 with rfl | rfl
      · exact no rfl rfl
      · cases kp
    exact .dic t1 nf nk (by rw [List.getElem?_set_ne hm]; exact e) k (r.up X)
theorem EnR.mut {o : MO} {i : Nat} {w w2 : VD} (N : EnR L F κ h ven en) (ei : ven[i]? = some (some w)) (ow : w.own = true) (en_ : en[i]? = some (some (.ref n))) (nF : ¬ F n) (nk : n ∉ κ) (lo : L ≤ n) (r : VTp F κ (h.set n o) w2 (.ref n)) (ow2 : w2.own = true) (kp2 : w2.keep = some w2) : EnR L F κ (h.set n o) (ven.set i (some w2)) en := by
  have hl : i < ven.length := (List.getElem?_eq_some_iff.mp ei).1
  refine ⟨by simp [N.len], fun j u e => ?_, fun a b v1 v2 m hab e1 e2 o1 o2 e3 => ?_⟩
  · by_cases hj : i = j
    · subst hj
      rw [List.getElem?_set_self hl] at e
      cases e
      exact ⟨_, en_, r, fun _ => ⟨n, rfl, lo⟩, kp2⟩
    · rw [List.getElem?_set_ne hj] at e
      obtain ⟨d2, e1, r1, n1, k1⟩ := N.at_ j u e
      refine ⟨d2, e1, r1.setO nF nk (fun ou z => ?_) k1, n1, k1⟩
      subst z
      exact N.sep i j w u n hj ei e ow ou en_ e1
  · have key : ∀ (c : Nat) (u : VD), (ven.set i (some w2))[c]? = some (some u) → u.own = true → ∃ u2 : VD, ven[c]? = some (some u2) ∧ u2.own = true := fun c u e ou => by
      by_cases hc : i = c
      · subst hc; exact ⟨w, ei, ow⟩
      · rw [List.getElem?_set_ne hc] at e; exact ⟨u, e, ou⟩
    obtain ⟨u1, f1, g1⟩ := key a v1 e1 o1
    obtain ⟨u2, f2, g2⟩ := key b v2 e2 o2
    exact N.sep a b u1 u2 m hab f1 f2 g1 g2 e3
/-- a name's own list changes -/
theorem mut_ok {m : MT} {i : Nat} {u : VD} {xs2 : List VD} (ei : ven[i]? = some (some (.lst .own xs))) (G : GH F κ h cs) (N : EnR L F κ h ven en) {L0 : Nat} (lo0 : LowE L0 ven en) (hL0 : L ≤ L0) (e : vmut m xs ws = some (u, xs2)) (ra : VTs F κ h ws es) (na : News L0 ws es) :
    ∃ n F2 h2 du, en[i]? = some (some (.ref n)) ∧ mtop m (.ref n) es h = some (du, h2) ∧ Xt L F κ h F2 κ h2 ∧ GH F2 κ h2 cs ∧ VC F2 κ h2 u du ∧ EnR L F2 κ h2 (ven.set i (some (.lst .own xs2))) en := by
  obtain ⟨d, en_, r, nw, kp⟩ := N.at_ i _ ei
  obtain ⟨n, rfl, lo⟩ := nw rfl
  cases r with
  | c r => cases r
  | lst t nf nk eh r =>
    obtain ⟨F2, du, ds2, X, G2, em, r1, r2⟩ := vmut_ok e eh G r ra na
    have nf2 : ¬ F2 n := fun z => by
      rcases X.fn n z with z | z
      · exact nf z
      · have := lo0 i _ n ei rfl en_; omega
    have X2 : Xt L F2 κ h F2 κ (h.set n (.lst ds2)) := .set nf2 (.inr lo)
    have N2 : EnR L F2 κ h ven en := N.frz X lo0
    exact ⟨n, F2, _, du, en_, em, (X.low hL0).trans X2, G2.setO nf2 nk, r1.up X2, N2.mut ei rfl en_ nf2 nk lo (.lst (.inl rfl) nf2 nk (List.getElem?_set_self (h_lt eh)) (r2.up X2)) rfl rfl⟩
/-- a place of a name's own object is stored -/
theorem put_ok {i : Nat} {x2 w : VD} (ei : ven[i]? = some (some w)) (G : GH F κ h cs) (N : EnR L F κ h ven en) {L0 : Nat} (lo0 : LowE L0 ven en) (hL0 : L ≤ L0) (e : vput w y v = some x2) (ry : VTp F κ h y dy) (rv : VTp F κ h v d) (nv : New L0 v d) :
    ∃ dx F2 h2, en[i]? = some (some dx) ∧ setIx dx dy d h = some h2 ∧ Xt L F κ h F2 κ h2 ∧ GH F2 κ h2 cs ∧ EnR L F2 κ h2 (ven.set i (some x2)) en := by
  obtain ⟨dx, en_, r, nw, kp⟩ := N.at_ i _ ei
  cases ev : v.esc with
  | none =>
    unfold vput at e
    rw [ev] at e
    cases w with
    | lst t xs => cases t <;> cases y <;> cases e
    | dic t k xs => cases t <;> cases y <;> cases e
    | _ => cases y <;> cases e
  | some vv =>
    obtain ⟨F2, X, G2, rw_⟩ := esc_ok ev rv nv G
    have N2 : EnR L F2 κ h ven en := N.frz X lo0
    have key : ∀ n o, dx = .ref n → w.own = true → x2.own = true → x2.keep = some x2 → (¬ F2 n → n ∉ κ → VTp F2 κ (h.set n o) x2 (.ref n)) → setIx dx dy d h = some (h.set n o) →
        ∃ dx F2 h2, en[i]? = some (some dx) ∧ setIx dx dy d h = some h2 ∧ Xt L F κ h F2 κ h2 ∧ GH F2 κ h2 cs ∧ EnR L F2 κ h2 (ven.set i (some x2)) en := by
      rintro n o rfl ow ow2 kp2 rr es
      obtain ⟨m, z, lo⟩ := nw ow
      cases z
      obtain ⟨d2, e2, r2, _, _⟩ := N2.at_ i _ ei
      rw [en_] at e2
      cases e2
      obtain ⟨m, z, nf2, nk, _⟩ := r2.own_ref ow
      cases z
      have X2 : Xt L F2 κ h F2 κ (h.set n o) := .set nf2 (.inr lo)
      exact ⟨_, F2, _, en_, es, (X.low hL0).trans X2, G2.setO nf2 nk, N2.mut ei ow en_ nf2 nk lo (rr nf2 nk) ow2 kp2⟩
    unfold vput at e
    rw [ev] at e
    cases w with
    | lst t xs =>
      cases t with
      | own =>
        cases y with
        | int k =>
          cases ry.int_
          obtain ⟨j, e1, rfl⟩ := Option.map_eq_some_iff.mp (show (ixN xs.length k).map (fun j => VD.lst .own (xs.set j vv)) = some x2 from e)
          cases r with
          | c r => cases r
          | @lst _ _ ds n t nf nk eh r =>
            refine key n (.lst (ds.set j d)) rfl rfl rfl rfl (fun nf2 nk => .lst (.inl rfl) nf2 nk (List.getElem?_set_self (h_lt eh)) ?_) ?_
            · exact ((r.up X).set rw_ j).up (.set (L := 0) nf2 (.inr (Nat.zero_le _)))
            · show (match h[n]? with | some (.lst xs) => (ixN xs.length k).map fun j => h.set n (.lst (xs.set j d)) | _ => none) = _
              rw [eh]
              simp only [← r.length, e1, Option.map_some]
        | _ => cases e
      | _ => cases y <;> cases e
    | dic t ks vs =>
      cases t with
      | own =>
        cases y with
        | tup ys =>
          have e : (if ks.length < sizeLine then (vkey (.tup ys)).map fun k => VD.dic .own ((setK (ks.zip vs) k vv).map (·.1)) ((setK (ks.zip vs) k vv).map (·.2)) else none) = some x2 := e
          by_cases c : ks.length < sizeLine
          · rw [if_pos c] at e
            obtain ⟨k, e1, rfl⟩ := Option.map_eq_some_iff.mp e
            cases r with
            | c r => cases r
            | @dic _ _ _ kvs n t nf nk eh ek r =>
              subst ek
              have hk := ry.key e1
              obtain ⟨zs, rfl, _⟩ := ry.tup_
              obtain ⟨s1, s2⟩ := setK_rel (k := k) rw_ (r.up X)
              refine key n (.dic (setK kvs k d)) rfl rfl rfl rfl (fun nf2 nk => .dic (.inl rfl) nf2 nk (List.getElem?_set_self (h_lt eh)) s1 ?_) ?_
              · exact s2.up (.set (L := 0) nf2 (.inr (Nat.zero_le _)))
              · show (match h[n]? with | some (.dic kvs) => if kvs.length < sizeLine then (keyD (.tup zs)).map fun k => h.set n (.dic (setK kvs k d)) else none | _ => none) = _
                rw [eh]
                rw [List.length_map] at c
                simp only [if_pos c, hk, Option.map_some]
          · rw [if_neg c] at e; cases e
        | _ => cases e
      | _ => cases y <;> cases e
    | _ => cases y <;> cases e
theorem EnR.setK {o : MO} (N : EnR L F κ h ven en) (nF : ¬ F n) (hk : n ∈ κ) : EnR L F κ (h.set n o) ven en := by
  have X : Xt 0 F κ h F κ (h.set n o) := .set nF (.inr (Nat.zero_le _))
  refine ⟨N.len, fun j w ej => ?_, N.sep⟩
  obtain ⟨d, e1, r, n1, k1⟩ := N.at_ j w ej
  refine ⟨d, e1, ?_, n1, k1⟩
  cases r with
  | c r => exact .c (r.up X)
  | lst t1 nf nk e r => exact .lst t1 nf nk (by rw [List.getElem?_set_ne fun z => nk (by rw [← z]; exact hk)]; exact e) (r.up X)
  | dic t1 nf nk e k r => exact .dic t1 nf nk (by rw [List.getElem?_set_ne fun z => nk (by rw [← z]; exact hk)]; exact e) k (r.up X)
/-- a place of a cell is stored -/
theorem vset_ok (e : vset cs x y v = some cs2) (G : GH F κ h cs) (rx : VTp F κ h x dx) (ry : VTp F κ h y dy) (rv : VTp F κ h v d) (nv : New L2 v d) : ∃ F2 h2, setIx dx dy d h = some h2 ∧ Xt L2 F κ h F2 κ h2 ∧ GH F2 κ h2 cs2 ∧ ∀ L ven en, EnR L F κ h ven en → LowE L2 ven en → EnR L F2 κ h2 ven en := by
  unfold vset at e
  cases x with
  | cel j =>
    cases y with
    | int k =>
      cases ry.int_
      cases ev : v.esc with
      | none => rw [ev] at e; cases e
      | some vv =>
        rw [ev] at e
        obtain ⟨F2, X, G2, rw_⟩ := esc_ok ev rv nv G
        obtain ⟨n, rfl, ej⟩ := rx.cell
        have e : (match cs[j]? with | some xs => (ixN xs.length k).map fun j2 => cs.set j (xs.set j2 vv) | none => none) = some cs2 := e
        cases e1 : cs[j]? with
        | none => rw [e1] at e; cases e
        | some xs =>
          rw [e1] at e
          obtain ⟨i, e2, rfl⟩ := Option.map_eq_some_iff.mp e
          obtain ⟨ds, eh, r⟩ := G2.cell ej e1
          have hk : n ∈ κ := List.mem_of_getElem? ej
          refine ⟨F2, h.set n (.lst (ds.set i d)), ?_, X.trans (.set (G2.df n hk) (.inl hk)), G2.setC ej (r.set rw_ i), fun L ven en N lo => (N.frz X lo).setK (G2.df n hk) hk⟩
          show (match h[n]? with | some (.lst xs) => (ixN xs.length k).map fun j => h.set n (.lst (xs.set j d)) | _ => none) = _
          rw [eh]
          simp only [← r.length, e2, Option.map_some]
    | _ => cases e
  | _ => cases y <;> cases e
/-- a new cell -/
theorem newC_ok {u : VD} (e : newC cs v = some (u, cs2)) (G : GH F κ h cs) (r : VTp F κ h v d) (nv : New L2 v d) : ∃ κ2, Xt L2 F κ h F κ2 h ∧ GH F κ2 h cs2 ∧ VC F κ2 h u d := by
  cases v with
  | lst t xs =>
    cases t with
    | own =>
      cases e
      obtain ⟨m, z, lo⟩ := nv rfl
      subst z
      cases r with
      | c r => cases r
      | @lst _ _ ds n t nf nk eh r =>
        have X : Xt L2 F κ h F (κ ++ [m]) h := ⟨fun _ x => x, fun _ x => .inl x, ⟨[m], rfl, fun n h => by rw [List.mem_singleton] at h; omega⟩, Nat.le_refl _, fun _ _ _ => rfl, fun _ _ => rfl⟩
        refine ⟨κ ++ [m], X, ⟨by simp [G.len], ?_, fun n hn => ?_, G.fl, fun j c n e1 e2 => ?_⟩, .cel ?_⟩
        · rw [List.nodup_append]
          refine ⟨G.nd, by simp, fun a ha b hb => ?_⟩
          rw [List.mem_singleton] at hb
          subst hb
          rintro rfl
          exact nk ha
        · rcases List.mem_append.mp hn with hn | hn
          · exact G.df n hn
          · rw [List.mem_singleton] at hn; subst hn; exact nf
        · by_cases hj : j < cs.length
          · rw [List.getElem?_append_left hj] at e1
            rw [List.getElem?_append_left (by rw [G.len]; exact hj)] at e2
            obtain ⟨ds, e3, r3⟩ := G.at_ j c n e1 e2
            exact ⟨ds, e3, r3.up X⟩
          · have hj2 : j = cs.length := by
              have := (List.getElem?_eq_some_iff.mp e1).1
              simp at this; omega
            subst hj2
            simp at e1
            rw [← G.len] at e2
            simp at e2
            subst e1; subst e2
            exact ⟨ds, eh, r.up X⟩
        · rw [← G.len]; simp
    | _ => cases e
  | _ => cases e
end
end Mp
namespace Mp
open PySem PySem.Spec PyProof.Rows L2
section
variable {F F1 F2 : Nat → Prop} {κ κ1 κ2 : List Nat} {h h1 h2 : MH} {cs cs1 cs2 : CS} {L L2 : Nat} {v x y : VD} {d dx dy : D} {xs vs ws : List VD} {ds es : List D} {Q : QV} {E : QE} {n j : Nat}
variable {Φv : VPhi} {Φ : Phi} {ven : VEn} {en : En} {nx : En → MH → Prop} {rt : QV} {r : SR × CS}
def SndS (Φv : VPhi) (Φ : Phi) (s : VT) : Prop := ∀ L F κ h cs ven en r nx rt E, GH F κ h cs → EnR L F κ h ven en → L ≤ h.length → vS Φv s ven cs = some r → AftS L F κ h r nx rt E → wSs Φ s.er en h nx rt E
def SndSs (Φv : VPhi) (Φ : Phi) (ss : List VT) : Prop := ∀ L F κ h cs ven en r nx rt E, GH F κ h cs → EnR L F κ h ven en → L ≤ h.length → vSs Φv ss ven cs = some r → AftS L F κ h r nx rt E → wSs Φ (ersV ss) en h nx rt E
theorem wSs_one {s : MS} {rt : QV} : wSs Φ [s] en h nx rt E = wS Φ s en h nx rt E := by rw [wSs]; congr 1
theorem wSs_ap : ∀ {a b : List MS} {en : En} {h : MH} {nx : En → MH → Prop}, wSs Φ (a ++ b) en h nx rt E = wSs Φ a en h (fun en1 h1 => wSs Φ b en1 h1 nx rt E) rt E
  | [], b, en, h, nx => by rw [List.nil_append, wSs]
  | s :: a, b, en, h, nx => by
    rw [List.cons_append, wSs, wSs]
    congr 1
    funext en1 h1
    exact wSs_ap
theorem tru_v {v : VD} {d : D} {c : Bool} (r : VTp F κ h v d) (e : vTru v = some c) : truD d = some c := by
  cases v with
  | non => cases r.non_; exact e
  | tup xs =>
    obtain ⟨ds, rfl, r'⟩ := r.tup_
    have := r'.length
    cases e
    show some (!ds.isEmpty) = _
    cases xs <;> cases ds <;> simp_all
  | _ => cases e
theorem thS_some {m : SM} {f : VEn → CS → SM} (e : thS m f = some r) : (∃ en1 cs1, m = some (.nx en1, cs1) ∧ f en1 cs1 = some r) ∨ (m = some r ∧ ∀ en1 cs1, r ≠ (.nx en1, cs1)) := by
  unfold thS at e
  split at e
  · exact .inl ⟨_, _, rfl, e⟩
  · rename_i z
    subst e
    exact .inr ⟨rfl, fun en1 cs1 q => z en1 cs1 (by rw [q])⟩
theorem for_ok {onev : VD → VEn → CS → SM} {one : D → En → MH → (En → MH → Prop) → Prop} {S : List (Nat × List D)} 
    (H1 : ∀ x dx F κ h cs ven en r (nx2 : En → MH → Prop), GH F κ h cs → EnR L F κ h ven en → L ≤ h.length → VC F κ h x dx → onev x ven cs = some r → AftS L F κ h r nx2 rt E → one dx en h nx2) :
    ∀ (xs : List VD) (dxs : List D) (F : Nat → Prop) (κ : List Nat) (h : MH) (cs : CS) (ven : VEn) (en : En) (r : SR × CS), forV onev xs ven cs = some r → GH F κ h cs → EnR L F κ h ven en → L ≤ h.length → (∀ p ∈ S, lstAt h p.1 = some p.2 ∧ F p.1) → VCs F κ h xs dxs → AftS L F κ h r nx rt E → loopF S one dxs en h nx
  | [], dxs, F, κ, h, cs, ven, en, r, e, G, N, hL, hS, rx, A => by
    cases rx
    cases e
    exact ⟨fun p m => (hS p m).1, A F κ h en .refl G N⟩
  | x :: xs, dxs, F, κ, h, cs, ven, en, r, e, G, N, hL, hS, rx, A => by
    cases rx with
    | cons r1 s1 =>
      refine ⟨fun p m => (hS p m).1, ?_⟩
      rcases thS_some (show thS (onev x ven cs) (forV onev xs) = some r from e) with ⟨en1, cs1, e1, e2⟩ | ⟨e1, e2⟩
      · refine H1 x _ F κ h cs ven en _ _ G N hL r1 e1 fun F2 κ2 h2 en2 X2 G2 N2 => ?_
        exact for_ok H1 xs _ F2 κ2 h2 cs1 en1 en2 r e2 G2 N2 (Nat.le_trans hL X2.ln) (fun p m => ⟨by
          obtain ⟨a, b⟩ := hS p m
          unfold lstAt at a ⊢
          rw [X2.ff _ b]
          exact a, X2.fs _ (hS p m).2⟩) (s1.up X2) (A.up X2)
      · refine H1 x _ F κ h cs ven en _ _ G N hL r1 e1 ?_
        obtain ⟨r, c⟩ := r
        cases r with
        | nx en1 => exact absurd rfl (e2 en1 c)
        | rt v => exact A
        | ex x en1 => exact A
mutual
theorem sndVS (H : ExOk Φv Φ) : ∀ s : VT, SndS Φv Φ s
  | .expr e => fun L F κ h cs ven en r nx rt E G N hL e1 A => by
    rw [vS] at e1
    rw [VT.er, wSs_one, wS]
    refine sE H G N hL e1 A fun v cs1 F1 κ1 h1 d e2 Y X1 G1 N1 l1 A1 r1 n1 => ?_
    cases e2
    exact A1 F1 κ1 h1 en .refl G1 N1
  | .exprM m i es => fun L F κ h cs ven en r nx rt E G N hL e1 A => by
    rw [vS] at e1
    rw [VT.er, wSs_one, wS, wE, wE]
    obtain ⟨xs, e2, e3⟩ := oS_some e1
    have ei : ven[i]? = some (some (.lst .own xs)) := by
      cases z : (ven[i]?).join with
      | none => rw [z] at e2; cases e2
      | some w =>
        rw [z] at e2
        have := join_some z
        cases w with
        | lst t ys => cases t <;> cases e2; exact this
        | _ => cases e2
    obtain ⟨d, en_, rd, nw, kp⟩ := N.at_ i _ ei
    obtain ⟨n, rfl, lo⟩ := nw rfl
    rw [en_]
    have rc : recv m (.ref n) h = true := by
      obtain ⟨n2, ds, z, l, _, _⟩ := rd.items
      cases z
      show (lstAt h n).isSome = true
      rw [l]; rfl
    refine ⟨rc, ?_⟩
    refine sEs H G N hL e3 A fun ws cs1 F1 κ1 h1 ds e4 Y X1 G1 N1 l1 A1 r1 n1 => ?_
    obtain ⟨p, e5, e6⟩ := oS_some e4
    cases e6
    obtain ⟨n2, F2, h2, du, f1, f2, f3, f4, f5, f6⟩ := mut_ok ei G1 N1 (own_lt N) hL e5 r1 n1
    rw [en_] at f1
    cases f1
    rw [f2]
    exact A1 F2 κ1 h2 en f3 f4 f6
  | .asg i e => fun L F κ h cs ven en r nx rt E G N hL e1 A => by
    rw [vS] at e1
    rw [VT.er, wSs_one, wS]
    refine sE H G N hL e1 A fun v cs1 F1 κ1 h1 d e2 Y X1 G1 N1 l1 A1 r1 n1 => ?_
    obtain ⟨w, e3, e4⟩ := oS_some e2
    cases keep_own e3
    cases e4
    exact A1 F1 κ1 h1 _ .refl G1 (N1.setN i r1 n1 hL e3 (own_lt N))
  | .unr => fun L F κ h cs ven en r nx rt E G N hL e1 A => by
    rw [vS] at e1
    cases e1
  | .par i j a b => fun L F κ h cs ven en r nx rt E G N hL e1 A => by
    rw [vS] at e1
    rw [VT.er, wSs_one, wS]
    refine sEs H G N hL e1 A fun ws cs1 F1 κ1 h1 ds e2 Y X1 G1 N1 l1 A1 r1 n1 => ?_
    obtain ⟨us, e3, e4⟩ := oS_some e2
    obtain ⟨ven2, e5, e6⟩ := oS_some e4
    cases e6
    obtain ⟨F2, X2, G2, r2⟩ := escs_ok e3 r1 n1 G1
    have N2 : EnR L F2 κ1 h1 ven en := N1.frz X2 (own_lt N)
    obtain ⟨en2, b1, b2⟩ := bindV_ok e5 (.tup r2) N2
    rw [b1]
    exact A1 F2 κ1 h1 en2 (X2.low hL) G2 b2
  | .asgO i a b => fun L F κ h cs ven en r nx rt E G N hL e1 A => by
    rw [vS] at e1
    rw [VT.er, wSs_one, wS]
    refine sE H G N hL e1 A fun v cs1 F1 κ1 h1 d e2 Y X1 G1 N1 l1 A1 r1 n1 => ?_
    obtain ⟨k, e3, e4⟩ := oS_some e2
    rw [tru_v r1 e3]
    show if k = true then _ else _
    cases k with
    | true =>
      obtain ⟨w, e5, e6⟩ := oS_some (show (oS v.keep fun w => some (SR.nx (ven.set i (some w)), cs1)) = some r from e4)
      cases keep_own e5
      cases e6
      exact A1 F1 κ1 h1 _ .refl G1 (N1.setN i r1 n1 hL e5 (own_lt N))
    | false =>
      refine sE H G1 N1 l1 (show (sM (vE Φv b ven cs1) ven fun v cs => oS v.keep fun w => some (SR.nx (ven.set i (some w)), cs)) = some r from e4) A1 fun v2 cs2 F2 κ2 h2 d2 e5 Y2 X2 G2 N2 l2 A2 r2 n2 => ?_
      obtain ⟨w, e6, e7⟩ := oS_some e5
      cases keep_own e6
      cases e7
      exact A2 F2 κ2 h2 _ .refl G2 (N2.setN i r2 n2 l1 e6 (own_lt N1))
  | .asgV i j => fun L F κ h cs ven en r nx rt E G N hL e1 A => by
    rw [vS] at e1
    rw [VT.er, wSs_one, wS, wE]
    obtain ⟨v, e2, e3⟩ := oS_some e1
    cases e3
    have ej := join_some e2
    obtain ⟨d, en_, rd, nw, kp⟩ := N.at_ j v ej
    rw [en_]
    refine A F κ h _ .refl G ?_
    have N2 : EnR L F κ h (ven.set j none) en := N.drop j rfl fun _ _ => rfl
    refine N2.set i rd nw kp fun n o e k w hk e1 e2 e3 => ?_
    have hkj : j ≠ k := by
      rintro rfl
      have hl : j < ven.length := (List.getElem?_eq_some_iff.mp ej).1
      rw [List.getElem?_set_self hl] at e1
      cases e1
    rw [List.getElem?_set_ne hkj] at e1
    subst e
    exact N.sep j k v w n hkj ej e1 o e2 en_ e3
  | .asgC i e => fun L F κ h cs ven en r nx rt E G N hL e1 A => by
    rw [vS] at e1
    rw [VT.er, wSs_one, wS]
    refine sE H G N hL e1 A fun v cs1 F1 κ1 h1 d e2 Y X1 G1 N1 l1 A1 r1 n1 => ?_
    obtain ⟨⟨u, cs2⟩, e3, e4⟩ := oS_some e2
    cases e4
    obtain ⟨κ2, X2, G2, r2⟩ := newC_ok e3 G1 r1 n1
    refine A1 F1 κ2 h1 _ (X2.low hL) G2 ?_
    have N2 : EnR L F1 κ2 h1 ven en := by
      refine ⟨N1.len, fun j w ej => ?_, N1.sep⟩
      obtain ⟨d2, e1, rr, nn, kk⟩ := N1.at_ j w ej
      refine ⟨d2, e1, ?_, nn, kk⟩
      have key : ∀ m, d2 = .ref m → w.own = true → m ∉ κ1 → m ∉ κ2 := fun m z ow nk hm => by
        obtain ⟨t, rfl, ht⟩ := X2.kp
        rcases List.mem_append.mp hm with hm | hm
        · exact nk hm
        · have := ht m hm
          have := own_lt N j w m ej ow (by rw [e1, z])
          omega
      cases rr with
      | c r => exact .c (r.up X2)
      | lst t1 nf nk e r =>
        rcases t1 with rfl | rfl
        · exact .lst (.inl rfl) nf (key _ rfl rfl nk) e (r.up X2)
        · cases kk
      | dic t1 nf nk e k r =>
        rcases t1 with rfl | rfl
        · exact .dic (.inl rfl) nf (key _ rfl rfl nk) e k (r.up X2)
        · cases kk
    exact N2.setC i r2
  | .asgP t m j es => fun L F κ h cs ven en r nx rt E G N hL e1 A => by
    rw [vS] at e1
    obtain ⟨xs, e2, e3⟩ := oS_some e1
    have ei : ven[j]? = some (some (.lst .own xs)) := by
      cases z : (ven[j]?).join with
      | none => rw [z] at e2; cases e2
      | some w =>
        rw [z] at e2
        have := join_some z
        cases w with
        | lst t ys => cases t <;> cases e2; exact this
        | _ => cases e2
    obtain ⟨d, en_, rd, nw, kp⟩ := N.at_ j _ ei
    obtain ⟨n, rfl, lo⟩ := nw rfl
    have rc : recv m (.ref n) h = true := by
      obtain ⟨n2, ds, z, l, _, _⟩ := rd.items
      cases z
      show (lstAt h n).isSome = true
      rw [l]; rfl
    have main : wE Φ (.mt m (.var j) es) en h (fun d h1 => OQ (bindT t d en) fun en2 => nx en2 h1) fun x h1 => E x en h1 := by
      rw [wE, wE, en_]
      refine ⟨rc, ?_⟩
      refine sEs H G N hL e3 A fun ws cs1 F1 κ1 h1 ds e4 Y X1 G1 N1 l1 A1 r1 n1 => ?_
      obtain ⟨p, e5, e6⟩ := oS_some e4
      obtain ⟨ven2, e7, e8⟩ := oS_some e6
      cases e8
      obtain ⟨n2, F2, h2, du, f1, f2, f3, f4, f5, f6⟩ := mut_ok ei G1 N1 (own_lt N) hL e5 r1 n1
      rw [en_] at f1
      cases f1
      rw [f2]
      obtain ⟨en2, b1, b2⟩ := bindV_ok e7 f5 f6
      show OQ (bindT t du en) fun en2 => nx en2 h2
      rw [b1]
      exact A1 F2 κ1 h2 en2 f3 f4 b2
    cases t with
    | name i => rw [VT.er, wSs_one, wS]; exact main
    | tup is => rw [VT.er, wSs_one, wS]; exact main
  | .asgT is e => fun L F κ h cs ven en r nx rt E G N hL e1 A => by
    rw [vS] at e1
    rw [VT.er, wSs_one, wS]
    refine sE H G N hL e1 A fun v cs1 F1 κ1 h1 d e2 Y X1 G1 N1 l1 A1 r1 n1 => ?_
    obtain ⟨ven2, e3, e4⟩ := oS_some e2
    cases e4
    have rc : VC F1 κ1 h1 v d := by
      cases v with
      | tup xs => cases r1 with | c r => exact r
      | _ => cases e3
    obtain ⟨en2, b1, b2⟩ := bindV_ok e3 rc N1
    rw [b1]
    exact A1 F1 κ1 h1 en2 .refl G1 b2
  | .asgIx o i e => fun L F κ h cs ven en r nx rt E G N hL e1 A => by
    rw [vS] at e1
    rw [VT.er, wSs_one, wS]
    refine sE H G N hL e1 A fun v cs1 F1 κ1 h1 d e2 Y1 X1 G1 N1 l1 A1 rv nv => ?_
    refine sE H G1 N1 l1 e2 A1 fun x cs2 F2 κ2 h2 dx e3 Y2 X2 G2 N2 l2 A2 rx nx_ => ?_
    refine sE H G2 N2 l2 e3 A2 fun y cs3 F3 κ3 h3 dy e4 Y3 X3 G3 N3 l3 A3 ry ny => ?_
    obtain ⟨cs4, e5, e6⟩ := oS_some e4
    cases e6
    obtain ⟨F4, h4, f1, f2, f3, f4⟩ := vset_ok e5 G3 (rx.up X3) ry ((rv.up X2).up X3) nv
    rw [f1]
    exact A3 F4 κ3 h4 en (f2.low hL) f3 (f4 L ven en N3 (own_lt N))
  | .put i ie e => fun L F κ h cs ven en r nx rt E G N hL e1 A => by
    rw [vS] at e1
    rw [VT.er, wSs_one, wS]
    refine sE H G N hL e1 A fun v cs1 F1 κ1 h1 d e2 Y1 X1 G1 N1 l1 A1 rv nv => ?_
    obtain ⟨x, e3, e4⟩ := oS_some e2
    have ei := join_some e3
    obtain ⟨dx, en_, rd, nw, kp⟩ := N.at_ i x ei
    rw [wE, en_]
    refine sE H G1 N1 l1 e4 A1 fun y cs3 F3 κ3 h3 dy e5 Y3 X3 G3 N3 l3 A3 ry ny => ?_
    obtain ⟨x2, e6, e7⟩ := oS_some e5
    cases e7
    obtain ⟨dx2, F4, h4, f0, f1, f2, f3, f4⟩ := put_ok ei G3 N3 (own_lt N) hL e6 ry (rv.up X3) nv
    rw [en_] at f0
    cases f0
    rw [f1]
    exact A3 F4 κ3 h4 en f2 f3 f4
  | .ifs c a b => fun L F κ h cs ven en r nx rt E G N hL e1 A => by
    rw [vS] at e1
    rw [VT.er, wSs_one, wS]
    refine sE H G N hL e1 A fun v cs1 F1 κ1 h1 d e2 Y X1 G1 N1 l1 A1 r1 n1 => ?_
    obtain ⟨k, e3, e4⟩ := oS_some e2
    rw [bl_of r1 e3]
    cases k with
    | true => exact sndVSs H a L F1 κ1 h1 cs1 ven en r nx rt E G1 N1 l1 e4 A1
    | false => exact sndVSs H b L F1 κ1 h1 cs1 ven en r nx rt E G1 N1 l1 e4 A1
  | .for_ tg k its body => fun L F κ h cs ven en r nx rt E G N hL e1 A => by
    rw [vS] at e1
    rw [VT.er, wSs_one, wS]
    refine sEs H G N hL e1 A fun ws cs1 F1 κ1 h1 ds e2 Y X1 G1 N1 l1 A1 r1 n1 => ?_
    obtain ⟨us, e3, e4⟩ := oS_some e2
    obtain ⟨xs, e5, e6⟩ := oS_some e4
    obtain ⟨F2, X2, G2, r2⟩ := escs_ok e3 r1 n1 G1
    obtain ⟨dxs, S, i1, rx, sy, sf⟩ := vWalk_ok e5 G2 r2.tops
    rw [i1]
    have N2 : EnR L F2 κ1 h1 ven en := N1.frz X2 (own_lt N)
    refine for_ok (L := L) (rt := rt) (E := E) (onev := fun x en2 cs => oS (bindV tg x en2) fun en3 => vSs Φv body en3 cs) (fun x dx F3 κ3 h3 cs3 ven3 en3 r3 nx2 G3 N3 l3 rx3 f1 A3 => ?_) xs dxs F2 κ1 h1 cs1 ven en r e6 G2 N2 l1 (fun p m => ⟨(sy p m).1, sf r2 p m⟩) rx (A1.up (X2.low hL))
    obtain ⟨ven4, b1, f2⟩ := oS_some f1
    obtain ⟨en4, b2, N4⟩ := bindV_ok b1 rx3 N3
    show OQ (bindT tg dx en3) _
    rw [b2]
    exact sndVSs H body L F3 κ3 h3 cs3 ven4 en4 r3 nx2 rt E G3 N4 l3 f2 A3
  | .while_ c body => fun L F κ h cs ven en r nx rt E G N hL e1 A => by
    rw [vS] at e1
    rw [VT.er, wSs_one, wS]
    refine ⟨fun m en h => ∃ F κ cs ven, GH F κ h cs ∧ EnR L F κ h ven en ∧ L ≤ h.length ∧ whileV (vE Φv c) (vSs Φv body) m ven cs = some r ∧ AftS L F κ h r nx rt E, ⟨N24, F, κ, cs, ven, G, N, hL, e1, A⟩, ?_⟩
    rintro m en h ⟨F, κ, cs, ven, G, N, hL, e1, A⟩
    cases m with
    | zero => cases e1
    | succ m =>
      refine sE H G N hL (show sM (vE Φv c ven cs) ven (fun x cs => oS (vBl x) fun b => if b = true then thS (vSs Φv body ven cs) (whileV (vE Φv c) (vSs Φv body) m) else some (.nx ven, cs)) = some r from e1) A fun v cs1 F1 κ1 h1 d e2 Y X1 G1 N1 l1 A1 r1 n1 => ?_
      obtain ⟨k, e3, e4⟩ := oS_some e2
      rw [bl_of r1 e3]
      cases k with
      | false =>
        cases e4
        exact A1 F1 κ1 h1 en .refl G1 N1
      | true =>
        rcases thS_some (show thS (vSs Φv body ven cs1) (whileV (vE Φv c) (vSs Φv body) m) = some r from e4) with ⟨en1, cs2, e5, e6⟩ | ⟨e5, e6⟩
        · refine sndVSs H body L F1 κ1 h1 cs1 ven en _ _ rt E G1 N1 l1 e5 fun F2 κ2 h2 en2 X2 G2 N2 => ?_
          exact ⟨m, Nat.lt_succ_self m, F2, κ2, cs2, en1, G2, N2, Nat.le_trans l1 X2.ln, e6, A1.up X2⟩
        · refine sndVSs H body L F1 κ1 h1 cs1 ven en r _ rt E G1 N1 l1 e5 ?_
          obtain ⟨r, c⟩ := r
          cases r with
          | nx en1 => exact absurd rfl (e6 en1 c)
          | rt v => exact A1
          | ex x en1 => exact A1
  | .ret e => fun L F κ h cs ven en r nx rt E G N hL e1 A => by
    rw [vS] at e1
    rw [VT.er, wSs_one, wS]
    refine sE H G N hL e1 A fun v cs1 F1 κ1 h1 d e2 Y X1 G1 N1 l1 A1 r1 n1 => ?_
    obtain ⟨w, e3, e4⟩ := oS_some e2
    cases keep_own e3
    cases e4
    exact A1 F1 κ1 h1 d .refl G1 r1 (n1.low hL)
  | .retV i => fun L F κ h cs ven en r nx rt E G N hL e1 A => by
    rw [vS] at e1
    rw [VT.er, wSs_one, wS, wE]
    obtain ⟨v, e2, e3⟩ := oS_some e1
    cases e3
    obtain ⟨d, en_, rd, nw, kp⟩ := N.at_ i v (join_some e2)
    rw [en_]
    exact A F κ h d .refl G rd nw
  | .retC e => fun L F κ h cs ven en r nx rt E G N hL e1 A => by
    rw [vS] at e1
    rw [VT.er, wSs_one, wS]
    refine sE H G N hL e1 A fun v cs1 F1 κ1 h1 d e2 Y X1 G1 N1 l1 A1 r1 n1 => ?_
    obtain ⟨⟨u, cs2⟩, e3, e4⟩ := oS_some e2
    cases e4
    obtain ⟨κ2, X2, G2, r2⟩ := newC_ok e3 G1 r1 n1
    exact A1 F1 κ2 h1 d (X2.low hL) G2 (.c r2) r2.new
  | .pass => fun L F κ h cs ven en r nx rt E G N hL e1 A => by
    rw [vS] at e1
    rw [VT.er, wSs_one, wS]
    cases e1
    exact A F κ h en .refl G N
  | .frz i => fun L F κ h cs ven en r nx rt E G N hL e1 A => by
    rw [vS] at e1
    rw [VT.er, wSs]
    obtain ⟨v, e2, e3⟩ := oS_some e1
    obtain ⟨w, e4, e5⟩ := oS_some e3
    cases e5
    have ei := join_some e2
    obtain ⟨d, en_, rd, nw, kp⟩ := N.at_ i v ei
    obtain ⟨F2, X2, G2, r2, hx⟩ := esc_ok2 e4 rd nw G
    refine A F2 κ h en X2 G2 ?_
    have hl : i < ven.length := (List.getElem?_eq_some_iff.mp ei).1
    refine ⟨by simp [N.len], fun j u e => ?_, fun a b v1 v2 m hab f1 f2 o1 o2 f3 => ?_⟩
    · by_cases hj : i = j
      · subst hj
        rw [List.getElem?_set_self hl] at e
        cases e
        exact ⟨d, en_, .c r2, r2.new, r2.keep⟩
      · rw [List.getElem?_set_ne hj] at e
        obtain ⟨d2, e1, r1, n1, k1⟩ := N.at_ j u e
        refine ⟨d2, e1, ?_, n1, k1⟩
        have key : ∀ m, d2 = .ref m → u.own = true → ¬ F m → ¬ F2 m := fun m z ow fm f2 => by
          rcases hx m f2 with y | ⟨y1, y2⟩
          · exact fm y
          · subst z; subst y2
            exact N.sep i j v u m hj ei e y1 ow en_ e1
        cases r1 with
        | c r => exact .c (r.up X2)
        | lst t1 nf nk e0 r =>
          rcases t1 with rfl | rfl
          · exact .lst (.inl rfl) (key _ rfl rfl nf) nk e0 (r.up X2)
          · cases k1
        | dic t1 nf nk e0 k r =>
          rcases t1 with rfl | rfl
          · exact .dic (.inl rfl) (key _ rfl rfl nf) nk e0 k (r.up X2)
          · cases k1
    · have key : ∀ (c : Nat) (u : VD), (ven.set i (some w))[c]? = some (some u) → u.own = true → ven[c]? = some (some u) := fun c u e ou => by
        by_cases hc : i = c
        · subst hc
          rw [List.getElem?_set_self hl] at e
          cases e
          rw [r2.nown] at ou; cases ou
        · rw [List.getElem?_set_ne hc] at e; exact e
      exact N.sep a b v1 v2 m hab (key a v1 f1 o1) (key b v2 f2 o2) o1 o2 f3
theorem sndVSs (H : ExOk Φv Φ) : ∀ ss : List VT, SndSs Φv Φ ss
  | [] => fun L F κ h cs ven en r nx rt E G N hL e1 A => by
    rw [vSs] at e1
    rw [ersV, wSs]
    cases e1
    exact A F κ h en .refl G N
  | s :: ss => fun L F κ h cs ven en r nx rt E G N hL e1 A => by
    rw [vSs] at e1
    rw [ersV, wSs_ap]
    rcases thS_some e1 with ⟨en1, cs1, e2, e3⟩ | ⟨e2, e3⟩
    · refine sndVS H s L F κ h cs ven en _ _ rt E G N hL e2 fun F2 κ2 h2 en2 X2 G2 N2 => ?_
      exact sndVSs H ss L F2 κ2 h2 cs1 en1 en2 r nx rt E G2 N2 (Nat.le_trans hL X2.ln) e3 (A.up X2)
    · refine sndVS H s L F κ h cs ven en r _ rt E G N hL e2 ?_
      obtain ⟨r, c⟩ := r
      cases r with
      | nx en1 => exact absurd rfl (e3 en1 c)
      | rt v => exact A
      | ex x en1 => exact A
end
theorem sndCall {PrV : Nat → Option VDef} {Pr : Nat → Option Def} (hP : ∀ f d, PrV f = some d → Pr f = some d.er) : ∀ n : Nat, ExOk (callV PrV n) (callN Pr n)
  | 0 => fun f vs cs r e => by cases e
  | n + 1 => fun f vs cs r e F κ h ds Q E G rv A => by
    unfold callV at e
    cases hd : PrV f with
    | none => rw [hd] at e; cases e
    | some d =>
      rw [hd] at e
      simp only at e
      split at e
      · rename_i hl
        rw [callN, hP f d hd]
        refine ⟨by rw [← rv.length, hl]; rfl, ?_⟩
        have N0 : ∀ (k : Nat) (a : List VD) (b : List D), VCs F κ h a b → EnR h.length F κ h (a.map some ++ List.replicate k none) (b.map some ++ List.replicate k none) := by
          intro k a b r
          have at0 : ∀ (i : Nat) (v : VD), (a.map some ++ List.replicate k none)[i]? = some (some v) → ∃ d, (b.map some ++ List.replicate k none)[i]? = some (some d) ∧ VC F κ h v d := fun i v e => by
            by_cases hi : i < a.length
            · rw [List.getElem?_append_left (by simpa using hi), List.getElem?_map] at e
              obtain ⟨w, e1, e2⟩ := Option.map_eq_some_iff.mp e
              cases e2
              obtain ⟨d, e3, r3⟩ := r.get e1
              exact ⟨d, by rw [List.getElem?_append_left (by rw [List.length_map, ← r.length]; exact hi), List.getElem?_map, e3]; rfl, r3⟩
            · rw [List.getElem?_append_right (by simpa using hi), List.getElem?_replicate] at e
              split at e <;> cases e
          refine ⟨by simp [r.length], fun i v e => ?_, fun i j v w n _ e1 _ o => ?_⟩
          · obtain ⟨d, e1, r1⟩ := at0 i v e
            exact ⟨d, e1, .c r1, r1.new, r1.keep⟩
          · obtain ⟨d, _, r1⟩ := at0 i v e1
            rw [r1.nown] at o; cases o
        have N1 := N0 d.ns vs ds rv
        cases z : vSs (callV PrV n) d.body (vs.map some ++ List.replicate d.ns none) cs with
        | none => rw [z] at e; cases e
        | some r0 =>
          rw [z] at e
          refine sndVSs (sndCall hP n) d.body h.length F κ h cs _ _ r0 _ Q _ G N1 (Nat.le_refl _) z ?_
          obtain ⟨r0, c0⟩ := r0
          cases r0 with
          | nx en1 =>
            cases e
            exact fun F2 κ2 h2 en2 X2 G2 N2 => A F2 κ2 h2 .non X2 G2 (.c .non) (.of rfl)
          | rt v => cases e; exact A
          | ex x en1 =>
            cases e
            exact fun F2 κ2 h2 en2 fs X2 G2 N2 r2 => A F2 κ2 h2 fs X2 G2 r2
      · cases e
/-- THE END for values: a law -/
theorem law_V {PrV : Nat → Option VDef} {Pr : Nat → Option Def} (hP : ∀ f d, PrV f = some d → Pr f = some d.er) {n f : Nat} {ns : List Int} (q : W (callV PrV n f [.lst .rol (ns.map .int)] []) (fun v _ => v = .bl true) fun _ _ => False) :
    callN Pr n f [.ref 0] [.rol (ns.map .int)] (fun d _ => d = .bl true) fun _ _ => False := by
  cases z : callV PrV n f [.lst .rol (ns.map .int)] [] with
  | none => rw [z] at q; exact q.elim
  | some r =>
    rw [z] at q
    have ri : ∀ (F : Nat → Prop) (κ : List Nat) (h : MH) (l : List Int), VCs F κ h (l.map VD.int) (l.map D.int) := by
      intro F κ h l
      induction l with
      | nil => exact .nil
      | cons a l ih => exact .cons (.int a) ih
    refine sndCall hP n f _ [] r z (fun n => n = 0) [] [.rol (ns.map .int)] [.ref 0] _ _ ⟨rfl, List.nodup_nil, (fun n m => by cases m), fun n e => by subst e; exact Nat.zero_lt_one, fun j c n e => by cases e⟩ (.cons (.rol rfl rfl (ri _ _ _ ns)) .nil) ?_
    obtain ⟨r, c⟩ := r
    cases r with
    | ok v =>
      intro F2 κ2 h2 d X G r _
      have q : v = .bl true := q
      subst q
      exact r.bl_
    | ex x => exact q.elim
end
end Mp
namespace Mp
open PySem L2
/-! ### running -/
section
variable {α β : Type} {m : M α} {f : α → CS → M β} {Q : β → CS → Prop} {Qa : α → CS → Prop} {E : XV → CS → Prop} {cs : CS} {a : α} {x : XV} {o : Option α} {en : VEn} {g : α → CS → SM} {nx : VEn → CS → Prop} {rt : VD → CS → Prop} {Es : XV → VEn → CS → Prop} {s : SM} {k : VEn → CS → SM}
@[simp] theorem W_bM : W (bM m f) Q E = W m (fun a cs => W (f a cs) Q E) E := by
  rcases m with _ | ⟨r, c⟩
  · rfl
  · cases r <;> rfl
@[simp] theorem W_ok : W (some (.ok a, cs)) Qa E = Qa a cs := rfl
@[simp] theorem W_ex : W (some ((.ex x : Rs α), cs)) Qa E = E x cs := rfl
@[simp] theorem W_none : W (none : M α) Qa E = False := rfl
@[simp] theorem W_oM_some : W (oM (some a) cs) Qa E = Qa a cs := rfl
@[simp] theorem W_oM_none : W (oM (none : Option α) cs) Qa E = False := rfl
@[simp] theorem oM_some_ : oM (some a) cs = some (.ok a, cs) := rfl
@[simp] theorem bM_ok : bM (some (.ok a, cs)) f = f a cs := rfl
@[simp] theorem W_noX : W (noX m) Qa E = W m Qa fun _ _ => False := by
  rcases m with _ | ⟨r, c⟩
  · rfl
  · cases r <;> rfl
@[simp] theorem noX_ok : noX (some (.ok a, cs)) = some (.ok a, cs) := rfl
@[simp] theorem WS_sM : WS (sM m en g) nx rt Es = W m (fun a cs => WS (g a cs) nx rt Es) fun x cs => Es x en cs := by
  rcases m with _ | ⟨r, c⟩
  · rfl
  · cases r <;> rfl
@[simp] theorem sM_ok : sM (some (.ok a, cs)) en g = g a cs := rfl
@[simp] theorem oS_some_ {g : α → SM} : oS (some a) g = g a := rfl
@[simp] theorem oS_none_ {g : α → SM} : oS (none : Option α) g = none := rfl
@[simp] theorem WS_thS : WS (thS s k) nx rt Es = WS s (fun en cs => WS (k en cs) nx rt Es) rt Es := by
  rcases s with _ | ⟨r, c⟩
  · rfl
  · cases r <;> rfl
@[simp] theorem WS_nx : WS (some (.nx en, cs)) nx rt Es = nx en cs := rfl
@[simp] theorem WS_rt {v : VD} : WS (some (.rt v, cs)) nx rt Es = rt v cs := rfl
@[simp] theorem WS_ex : WS (some (.ex x en, cs)) nx rt Es = Es x en cs := rfl
@[simp] theorem WS_none : WS none nx rt Es = False := rfl
@[simp] theorem W_endM {Qv : VD → CS → Prop} : W (endM s) Qv E = WS s (fun _ cs => Qv .non cs) Qv fun x _ cs => E x cs := by
  rcases s with _ | ⟨r, c⟩
  · rfl
  · cases r <;> rfl
@[simp] theorem W_ite {c : Prop} [Decidable c] {m2 : M α} : W (if c then m else m2) Qa E = if c then W m Qa E else W m2 Qa E := by split <;> rfl
@[simp] theorem WS_ite {c : Prop} [Decidable c] {s2 : SM} : WS (if c then s else s2) nx rt Es = if c then WS s nx rt Es else WS s2 nx rt Es := by split <;> rfl
theorem W_mono {Qb : α → CS → Prop} {E2 : XV → CS → Prop} (w : W m Qa E) (h : ∀ a cs, Qa a cs → Qb a cs) (hx : ∀ x cs, E x cs → E2 x cs) : W m Qb E2 := by
  rcases m with _ | ⟨r, c⟩
  · exact w
  · cases r
    · exact h _ _ w
    · exact hx _ _ w
theorem WS_mono {nx2 : VEn → CS → Prop} {rt2 : VD → CS → Prop} {Es2 : XV → VEn → CS → Prop} (w : WS s nx rt Es) (h : ∀ a cs, nx a cs → nx2 a cs) (hr : ∀ a cs, rt a cs → rt2 a cs) (hx : ∀ x en cs, Es x en cs → Es2 x en cs) : WS s nx2 rt2 Es2 := by
  rcases s with _ | ⟨r, c⟩
  · exact w
  · cases r
    · exact h _ _ w
    · exact hr _ _ w
    · exact hx _ _ _ w
theorem eq_of_W {c0 : CS} (w : W m (fun b c => b = a ∧ c = c0) fun _ _ => False) : m = some (.ok a, c0) := by
  rcases m with _ | ⟨r, c⟩
  · exact w.elim
  · cases r
    · obtain ⟨rfl, rfl⟩ := w; rfl
    · exact w.elim
end
theorem call_s {PrV : Nat → Option VDef} {n f : Nat} {d : VDef} {vs : List VD} {cs : CS} {Q : VD → CS → Prop} {E : XV → CS → Prop} (hd : PrV f = some d) (hl : vs.length = d.np) :
    W (callV PrV (n + 1) f vs cs) Q E = WS (vSs (callV PrV n) d.body (vs.map some ++ List.replicate d.ns none) cs) (fun _ cs => Q .non cs) Q fun x _ cs => E x cs := by
  rw [callV, hd]
  simp only [hl, if_true, W_endM]
theorem vSs_app {Φ : VPhi} : ∀ (a b : List VT) (en : VEn) (cs : CS), vSs Φ (a ++ b) en cs = thS (vSs Φ a en cs) (vSs Φ b)
  | [], b, en, cs => by simp [thS]
  | s :: a, b, en, cs => by
    simp only [List.cons_append, vSs]
    rcases vS Φ s en cs with _ | ⟨r, c⟩
    · rfl
    · cases r with
      | nx en2 => exact vSs_app a b en2 c
      | _ => rfl
/-- a block in two -/
theorem vSs_cut {Φ : VPhi} (k : Nat) (ss : List VT) (en : VEn) (cs : CS) : vSs Φ ss en cs = thS (vSs Φ (ss.take k) en cs) (vSs Φ (ss.drop k)) := by
  rw [← vSs_app, List.take_append_drop]
/-! ### kinds -/
section
variable {xs : List VD} {ks : List (List Key)} {i : Int} {b : Bool} {s : Str} {n : Nat} {d : VD} {cs : CS}
@[simp] theorem see_int : (VD.int i).see = .int i := rfl
@[simp] theorem see_bl : (VD.bl b).see = .bl b := rfl
@[simp] theorem see_str : (VD.str s).see = .str s := rfl
@[simp] theorem see_non : VD.non.see = .non := rfl
@[simp] theorem see_tup : (VD.tup xs).see = .tup xs := rfl
@[simp] theorem see_tupN : (VD.tupN xs).see = .tupN xs := rfl
@[simp] theorem see_fn {f : Nat} : (VD.fn f).see = .fn f := rfl
@[simp] theorem see_cel : (VD.cel n).see = .cel n := rfl
@[simp] theorem see_own : (VD.lst .own xs).see = .lst .bor xs := rfl
@[simp] theorem see_shr : (VD.lst .shr xs).see = .lst .shr xs := rfl
@[simp] theorem see_rol : (VD.lst .rol xs).see = .lst .rol xs := rfl
@[simp] theorem see_dic : (VD.dic .own ks xs).see = .dic .bor ks xs := rfl
@[simp] theorem see_dics : (VD.dic .shr ks xs).see = .dic .shr ks xs := rfl
@[simp] theorem esc_int : (VD.int i).esc = some (.int i) := rfl
@[simp] theorem esc_bl : (VD.bl b).esc = some (.bl b) := rfl
@[simp] theorem esc_str : (VD.str s).esc = some (.str s) := rfl
@[simp] theorem esc_non : VD.non.esc = some .non := rfl
@[simp] theorem esc_tup : (VD.tup xs).esc = some (.tup xs) := rfl
@[simp] theorem esc_tupN : (VD.tupN xs).esc = some (.tupN xs) := rfl
@[simp] theorem esc_fn {f : Nat} : (VD.fn f).esc = some (.fn f) := rfl
@[simp] theorem esc_cel : (VD.cel n).esc = some (.cel n) := rfl
@[simp] theorem esc_own : (VD.lst .own xs).esc = some (.lst .shr xs) := rfl
@[simp] theorem esc_shr : (VD.lst .shr xs).esc = some (.lst .shr xs) := rfl
@[simp] theorem esc_rol : (VD.lst .rol xs).esc = some (.lst .rol xs) := rfl
@[simp] theorem esc_dic : (VD.dic .own ks xs).esc = some (.dic .shr ks xs) := rfl
@[simp] theorem esc_dics : (VD.dic .shr ks xs).esc = some (.dic .shr ks xs) := rfl
@[simp] theorem keep_int : (VD.int i).keep = some (.int i) := rfl
@[simp] theorem keep_bl : (VD.bl b).keep = some (.bl b) := rfl
@[simp] theorem keep_str : (VD.str s).keep = some (.str s) := rfl
@[simp] theorem keep_non : VD.non.keep = some .non := rfl
@[simp] theorem keep_tup : (VD.tup xs).keep = some (.tup xs) := rfl
@[simp] theorem keep_tupN : (VD.tupN xs).keep = some (.tupN xs) := rfl
@[simp] theorem keep_fn {f : Nat} : (VD.fn f).keep = some (.fn f) := rfl
@[simp] theorem vFn_fn {f : Nat} : vFn (.fn f) = some f := rfl
@[simp] theorem vOfD_fn {f : Nat} : vOfD (.fn f) = some (.fn f) := rfl
@[simp] theorem keep_cel : (VD.cel n).keep = some (.cel n) := rfl
@[simp] theorem keep_own_ : (VD.lst .own xs).keep = some (.lst .own xs) := rfl
@[simp] theorem keep_shr : (VD.lst .shr xs).keep = some (.lst .shr xs) := rfl
@[simp] theorem keep_dic : (VD.dic .own ks xs).keep = some (.dic .own ks xs) := rfl
@[simp] theorem keep_dics : (VD.dic .shr ks xs).keep = some (.dic .shr ks xs) := rfl
@[simp] theorem escs_nil : escs [] = some [] := rfl
@[simp] theorem escs_cons : escs (d :: xs) = (d.esc).bind fun w => (escs xs).map (w :: ·) := by
  show (match d.esc, escs xs with | some w, some s => some (w :: s) | _, _ => none) = _
  cases d.esc <;> cases escs xs <;> rfl
@[simp] theorem ownL_own : ownL (some (.lst .own xs)) = some xs := rfl
@[simp] theorem vOfD_int : vOfD (.int i) = some (.int i) := rfl
@[simp] theorem vOfD_bl : vOfD (.bl b) = some (.bl b) := rfl
@[simp] theorem vOfD_str : vOfD (.str s) = some (.str s) := rfl
@[simp] theorem vOfD_non : vOfD .non = some .non := rfl
@[simp] theorem vInt_int : vInt (.int i) = some i := rfl
@[simp] theorem vBl_bl : vBl (.bl b) = some b := rfl
theorem vNew_ {q : List VD} (h : q.length ≤ sizeLine) : vNew q = some (.lst .own q) := if_pos h
@[simp] theorem newC_own : newC cs (.lst .own xs) = some (.cel cs.length, cs ++ [xs]) := rfl
@[simp] theorem vrecv_lst {m : MT} {t : Tg} : vrecv m cs (.lst t xs) = some () := rfl
@[simp] theorem vrecv_tupN : vrecv .index cs (.tupN xs) = some () := rfl
@[simp] theorem bindV_name {d : VD} {en : VEn} : bindV (.name n) d en = some (en.set n (some d)) := rfl
@[simp] theorem wipeV_nil {en : VEn} : wipeV en [] = en := rfl
@[simp] theorem wipeV_cons {en : VEn} {is : List Nat} : wipeV en (n :: is) = (wipeV en is).set n none := rfl
theorem bindV_tup {is : List Nat} {en : VEn} (h : is.length = xs.length) : bindV (.tup is) (.tup xs) en = some ((is.zip xs).foldl (fun e p => e.set p.1 (some p.2)) en) := if_pos h
@[simp] theorem bindV_tup2 {i j : Nat} {a b : VD} {en : VEn} : bindV (.tup [i, j]) (.tup [a, b]) en = some ((en.set i (some a)).set j (some b)) := rfl
@[simp] theorem bindV_tup3 {i j k : Nat} {a b c : VD} {en : VEn} : bindV (.tup [i, j, k]) (.tup [a, b, c]) en = some (((en.set i (some a)).set j (some b)).set k (some c)) := rfl
@[simp] theorem optM_t {w : CS → M VD} : optM true w cs = some (.ok none, cs) := rfl
@[simp] theorem optM_f {w : CS → M VD} : optM false w cs = bM (w cs) fun y cs => oM ((vInt y).map some) cs := rfl
@[simp] theorem tstM_t {w : CS → M VD} : tstM true w cs = some (.ok true, cs) := rfl
@[simp] theorem tstM_f {w : CS → M VD} : tstM false w cs = bM (w cs) fun y cs => oM (vBl y) cs := rfl
@[simp] theorem om_omit' : isOmit .omit = true := rfl
@[simp] theorem om_var' : isOmit (.var n) = false := rfl
@[simp] theorem om_cst' {d : D} : isOmit (.cst d) = false := rfl
@[simp] theorem om_neg' {e : ME} : isOmit (.neg e) = false := rfl
@[simp] theorem om_not' {e : ME} : isOmit (.not e) = false := rfl
@[simp] theorem om_bin' {o : B2} {e f : ME} : isOmit (.bin o e f) = false := rfl
@[simp] theorem om_cmp' {o : C2} {e f : ME} : isOmit (.cmp o e f) = false := rfl
@[simp] theorem om_and' {e f : ME} : isOmit (.and e f) = false := rfl
@[simp] theorem om_or' {e f : ME} : isOmit (.or e f) = false := rfl
@[simp] theorem om_call' {es : List ME} : isOmit (.call n es) = false := rfl
@[simp] theorem om_bi' {f : BI} {es : List ME} : isOmit (.bi f es) = false := rfl
@[simp] theorem om_mt' {m : MT} {o : ME} {es : List ME} : isOmit (.mt m o es) = false := rfl
@[simp] theorem om_ix' {a b : ME} : isOmit (.ix a b) = false := rfl
@[simp] theorem om_chain' {o1 o2 : C2} {a b c : ME} : isOmit (.chain o1 o2 a b c) = false := rfl
@[simp] theorem om_ite' {a b c : ME} : isOmit (.ite a b c) = false := rfl
@[simp] theorem slots_name' : (TGt.name n).slots = [n] := rfl
@[simp] theorem slots_tup' {is : List Nat} : (TGt.tup is).slots = is := rfl
end
@[simp] theorem sz_le1 : (1 ≤ sizeLine) = True := by simp [PySem.sizeLine_eq]
@[simp] theorem sz_le2 : (2 ≤ sizeLine) = True := by simp [PySem.sizeLine_eq]
@[simp] theorem sz_le3 : (3 ≤ sizeLine) = True := by simp [PySem.sizeLine_eq]
@[simp] theorem sz_le4 : (4 ≤ sizeLine) = True := by simp [PySem.sizeLine_eq]
@[simp] theorem sz_le5 : (5 ≤ sizeLine) = True := by simp [PySem.sizeLine_eq]
@[simp] theorem sz_le6 : (6 ≤ sizeLine) = True := by simp [PySem.sizeLine_eq]
@[simp] theorem sz_le7 : (7 ≤ sizeLine) = True := by simp [PySem.sizeLine_eq]
@[simp] theorem sz_le8 : (8 ≤ sizeLine) = True := by simp [PySem.sizeLine_eq]
@[simp] theorem sz_le9 : (9 ≤ sizeLine) = True := by simp [PySem.sizeLine_eq]
@[simp] theorem sz_le10 : (10 ≤ sizeLine) = True := by simp [PySem.sizeLine_eq]
@[simp] theorem sz_le11 : (11 ≤ sizeLine) = True := by simp [PySem.sizeLine_eq]
@[simp] theorem sz_le12 : (12 ≤ sizeLine) = True := by simp [PySem.sizeLine_eq]
@[simp] theorem sz_le13 : (13 ≤ sizeLine) = True := by simp [PySem.sizeLine_eq]
@[simp] theorem sz_le14 : (14 ≤ sizeLine) = True := by simp [PySem.sizeLine_eq]
@[simp] theorem sz_le15 : (15 ≤ sizeLine) = True := by simp [PySem.sizeLine_eq]
@[simp] theorem sz_le16 : (16 ≤ sizeLine) = True := by simp [PySem.sizeLine_eq]
@[simp] theorem sz_le17 : (17 ≤ sizeLine) = True := by simp [PySem.sizeLine_eq]
@[simp] theorem sz_le18 : (18 ≤ sizeLine) = True := by simp [PySem.sizeLine_eq]
@[simp] theorem sz_le19 : (19 ≤ sizeLine) = True := by simp [PySem.sizeLine_eq]
@[simp] theorem sz_le20 : (20 ≤ sizeLine) = True := by simp [PySem.sizeLine_eq]
@[simp] theorem sz_lt0 : (0 < sizeLine) = True := by simp [PySem.sizeLine_eq]
@[simp] theorem sz_lt1 : (1 < sizeLine) = True := by simp [PySem.sizeLine_eq]
@[simp] theorem sz_lt2 : (2 < sizeLine) = True := by simp [PySem.sizeLine_eq]
@[simp] theorem sz_lt3 : (3 < sizeLine) = True := by simp [PySem.sizeLine_eq]
@[simp] theorem sz_lt4 : (4 < sizeLine) = True := by simp [PySem.sizeLine_eq]
@[simp] theorem sz_lt5 : (5 < sizeLine) = True := by simp [PySem.sizeLine_eq]
@[simp] theorem sz_lt6 : (6 < sizeLine) = True := by simp [PySem.sizeLine_eq]
@[simp] theorem sz_lt7 : (7 < sizeLine) = True := by simp [PySem.sizeLine_eq]
@[simp] theorem sz_lt8 : (8 < sizeLine) = True := by simp [PySem.sizeLine_eq]
@[simp] theorem sz_lt9 : (9 < sizeLine) = True := by simp [PySem.sizeLine_eq]
@[simp] theorem sz_lt10 : (10 < sizeLine) = True := by simp [PySem.sizeLine_eq]
@[simp] theorem sz_lt11 : (11 < sizeLine) = True := by simp [PySem.sizeLine_eq]
@[simp] theorem sz_lt12 : (12 < sizeLine) = True := by simp [PySem.sizeLine_eq]
@[simp] theorem sz_lt13 : (13 < sizeLine) = True := by simp [PySem.sizeLine_eq]
@[simp] theorem sz_lt14 : (14 < sizeLine) = True := by simp [PySem.sizeLine_eq]
@[simp] theorem sz_lt15 : (15 < sizeLine) = True := by simp [PySem.sizeLine_eq]
@[simp] theorem sz_lt16 : (16 < sizeLine) = True := by simp [PySem.sizeLine_eq]
@[simp] theorem sz_lt17 : (17 < sizeLine) = True := by simp [PySem.sizeLine_eq]
@[simp] theorem sz_lt18 : (18 < sizeLine) = True := by simp [PySem.sizeLine_eq]
@[simp] theorem sz_lt19 : (19 < sizeLine) = True := by simp [PySem.sizeLine_eq]
@[simp] theorem sz_lt20 : (20 < sizeLine) = True := by simp [PySem.sizeLine_eq]
/-! ### operations -/
section
variable {i j : Int} {xs ys : List VD} {cs : CS} {t u : Tg} {n : Nat} {d : VD} {s : Str}
@[simp] theorem v_add : vbin .add (.int i) (.int j) = some (.int (i + j)) := rfl
@[simp] theorem v_sub : vbin .sub (.int i) (.int j) = some (.int (i - j)) := rfl
@[simp] theorem W_oM_if {α : Type} {c : Prop} [Decidable c] {a : α} {Q : α → CS → Prop} {E : XV → CS → Prop} : W (oM (if c then some a else none) cs) Q E = (c ∧ Q a cs) := by
  by_cases h : c <;> simp [h]
theorem v_mul (h : (-B64 < i ∧ i < B64) ∨ (-B64 < j ∧ j < B64)) : vbin .mul (.int i) (.int j) = some (.int (i * j)) := if_pos h
theorem v_mod (h : 0 < j) : vbin .mod (.int i) (.int j) = some (.int (i % j)) := if_pos h
theorem v_fdiv (h : 0 < j ∧ j.natAbs.log2 < 9000) : vbin .fdiv (.int i) (.int j) = some (.int (i / j)) := if_pos h
theorem v_pow (h : 0 ≤ j ∧ j ≤ B20 ∧ i.natAbs < N64) : vbin .pow (.int i) (.int j) = some (.int (i ^ j.toNat)) := if_pos h
theorem v_addT (h : xs.length + ys.length ≤ sizeLine) : vbin .add (.tup xs) (.tup ys) = some (.tup (xs ++ ys)) := if_pos h
@[simp] theorem v_addL (h1 : t ≠ .rol) (h2 : u ≠ .rol) : vbin .add (.lst t xs) (.lst u ys) = vNew (xs ++ ys) := if_pos ⟨h1, h2⟩
@[simp] theorem v_lt : vcmp .lt (.int i) (.int j) = some (decide (i < j)) := rfl
@[simp] theorem v_le : vcmp .le (.int i) (.int j) = some (decide (i ≤ j)) := rfl
@[simp] theorem v_gt : vcmp .gt (.int i) (.int j) = some (decide (j < i)) := rfl
@[simp] theorem v_ge : vcmp .ge (.int i) (.int j) = some (decide (j ≤ i)) := rfl
@[simp] theorem vix_tupN : vix cs (.tupN xs) (.int i) = atI xs i := rfl
@[simp] theorem vix_tup : vix cs (.tup xs) (.int i) = atI xs i := rfl
@[simp] theorem vix_lst : vix cs (.lst t xs) (.int i) = atI xs i := rfl
@[simp] theorem vix_cel : vix cs (.cel n) (.int i) = (cs[n]?).bind fun xs => atI xs i := rfl
@[simp] theorem vsl_tup {lo hi : Option Int} : vsl cs (.tup xs) lo hi = some (.tup (cutV xs lo hi)) := rfl
@[simp] theorem vsl_lst {lo hi : Option Int} : vsl cs (.lst t xs) lo hi = vNew (cutV xs lo hi) := rfl
@[simp] theorem len_tupN : vbi cs .len [.tupN xs] = some (.int xs.length) := rfl
@[simp] theorem len_tup : vbi cs .len [.tup xs] = some (.int xs.length) := rfl
@[simp] theorem len_lst : vbi cs .len [.lst t xs] = some (.int xs.length) := rfl
@[simp] theorem len_cel : vbi cs .len [.cel n] = (cs[n]?).map fun xs => .int xs.length := rfl
@[simp] theorem tupN_lst : vbi cs .tupleN [.lst t xs] = some (.tupN xs) := rfl
@[simp] theorem tupOf_lst : vbi cs .tupleOf [.lst t xs] = some (.tup xs) := rfl
@[simp] theorem tupOf_tup : vbi cs .tupleOf [.tup xs] = some (.tup xs) := rfl
@[simp] theorem tupOf_cel : vbi cs .tupleOf [.cel n] = (cs[n]?).map fun xs => .tup xs := rfl
@[simp] theorem listOf_lst : vbi cs .listOf [.lst t xs] = vNew xs := rfl
@[simp] theorem listOf_tup : vbi cs .listOf [.tup xs] = vNew xs := rfl
@[simp] theorem intOf_bl {b : Bool} : vbi cs .intOf [.bl b] = some (.int (if b then 1 else 0)) := rfl
@[simp] theorem max2_ : vbi cs .max2 [.int i, .int j] = some (.int (if j > i then j else i)) := rfl
@[simp] theorem min2_ : vbi cs .min2 [.int i, .int j] = some (.int (if j < i then j else i)) := rfl
@[simp] theorem dict0_ : vbi cs .dict0 [] = some (.dic .own [] []) := rfl
@[simp] theorem walk_tupN : vWalk .val [.tupN xs] = some xs := rfl
@[simp] theorem walk_tup : vWalk .val [.tup xs] = some xs := rfl
@[simp] theorem walk_lst : vWalk .val [.lst t xs] = some xs := rfl
@[simp] theorem walk_zipL : vWalk .zip [.lst t xs, .lst u ys] = some ((xs.zip ys).map fun p => .tup [p.1, p.2]) := rfl
@[simp] theorem walk_zipT : vWalk .zip [.tup xs, .tup ys] = some ((xs.zip ys).map fun p => .tup [p.1, p.2]) := rfl
theorem walk_rng1 (h1 : 0 ≤ j) (h2 : j < B62) : vWalk .rng1 [.int j] = some ((List.range j.toNat).map fun (i : Nat) => .int i) := if_pos ⟨by have := B62_eq; omega, h2⟩
theorem walk_rng2 (h1 : -B62 ≤ i) (h2 : i < B62) (h3 : -B62 ≤ j) (h4 : j < B62) : vWalk .rng2 [.int i, .int j] = some ((List.range (j - i).toNat).map fun (k : Nat) => .int (i + k)) := if_pos ⟨h1, h2, h3, h4⟩
theorem mut_append {e : VD} (h : d.esc = some e) (hz : xs.length < sizeLine) : vmut .append xs [d] = some (.non, xs ++ [e]) := by
  show (match d.esc with | some e => if xs.length < sizeLine then some (VD.non, xs ++ [e]) else none | none => none) = _
  rw [h]
  exact if_pos hz
theorem mut_extend (h : t ≠ .rol) (hz : xs.length + ys.length ≤ sizeLine) : vmut .extend xs [.lst t ys] = some (.non, xs ++ ys) := if_pos ⟨h, hz⟩
theorem mut_pop0 {y : VD} : vmut .pop0 (xs ++ [y]) [] = some (y, xs) := by
  show (match (xs ++ [y])[(xs ++ [y]).length - 1]? with | some z => some (z, (xs ++ [y]).dropLast) | none => none) = _
  simp
@[simp] theorem mut_reverse : vmut .reverse xs [] = some (.non, xs.reverse) := rfl
theorem vset_cel {k : Int} {v w : VD} {p : Nat} (h : cs[n]? = some xs) (hv : v.esc = some w) (hk : ixN xs.length k = some p) : vset cs (.cel n) (.int k) v = some (cs.set n (xs.set p w)) := by
  unfold vset
  rw [hv]
  simp only [h, hk, Option.map_some]
theorem log_ok' {j : Int} (h : 0 < j) (h2 : j ≤ 10 ^ 30) : j.natAbs.log2 < 9000 := by
  have e : j.natAbs < 2 ^ 100 := by
    have : (2 : Nat) ^ 100 = 1267650600228229401496703205376 := by decide
    have : (10 : Int) ^ 30 = 1000000000000000000000000000000 := by decide
    omega
  rw [Nat.log2_lt (by omega)]
  exact Nat.lt_of_lt_of_le e (Nat.pow_le_pow_right (by decide) (by decide))
theorem log7' : (7 : Nat).log2 < 9000 := by decide
end
section
variable {i j : Int} {xs ys : List VD} {cs : CS} {t u : Tg} {n : Nat} {d : VD} {Q : VD → CS → Prop} {E : XV → CS → Prop} {nx : VEn → CS → Prop} {rt : VD → CS → Prop} {Es : XV → VEn → CS → Prop}
@[simp] theorem W_mul : W (oM (vbin .mul (.int i) (.int j)) cs) Q E = (((-B64 < i ∧ i < B64) ∨ (-B64 < j ∧ j < B64)) ∧ Q (.int (i * j)) cs) := W_oM_if
@[simp] theorem W_mod : W (oM (vbin .mod (.int i) (.int j)) cs) Q E = (0 < j ∧ Q (.int (i % j)) cs) := W_oM_if
@[simp] theorem W_fdiv : W (oM (vbin .fdiv (.int i) (.int j)) cs) Q E = ((0 < j ∧ j.natAbs.log2 < 9000) ∧ Q (.int (i / j)) cs) := W_oM_if
@[simp] theorem W_pow : W (oM (vbin .pow (.int i) (.int j)) cs) Q E = ((0 ≤ j ∧ j ≤ B20 ∧ i.natAbs < N64) ∧ Q (.int (i ^ j.toNat)) cs) := W_oM_if
@[simp] theorem W_addT : W (oM (vbin .add (.tup xs) (.tup ys)) cs) Q E = (xs.length + ys.length ≤ sizeLine ∧ Q (.tup (xs ++ ys)) cs) := W_oM_if
@[simp] theorem W_vNew : W (oM (vNew xs) cs) Q E = (xs.length ≤ sizeLine ∧ Q (.lst .own xs) cs) := W_oM_if
@[simp] theorem W_tupl : W (oM (if xs.length ≤ sizeLine then some (VD.tup xs) else none) cs) Q E = (xs.length ≤ sizeLine ∧ Q (.tup xs) cs) := W_oM_if
@[simp] theorem WS_append {f : VD × List VD → SM} : WS (oS (vmut .append xs [d]) f) nx rt Es = (xs.length < sizeLine ∧ WS (oS d.esc fun e => f (.non, xs ++ [e])) nx rt Es) := by
  rw [show vmut .append xs [d] = (match d.esc with | some e => if xs.length < sizeLine then some (VD.non, xs ++ [e]) else none | none => none) from rfl]
  cases d.esc with
  | none => simp
  | some e => by_cases h : xs.length < sizeLine <;> simp [h]
@[simp] theorem WS_extend {f : VD × List VD → SM} (h : t ≠ .rol) : WS (oS (vmut .extend xs [.lst t ys]) f) nx rt Es = (xs.length + ys.length ≤ sizeLine ∧ WS (f (.non, xs ++ ys)) nx rt Es) := by
  rw [show vmut .extend xs [.lst t ys] = (if t ≠ .rol ∧ xs.length + ys.length ≤ sizeLine then some (VD.non, xs ++ ys) else none) from rfl]
  by_cases h2 : xs.length + ys.length ≤ sizeLine <;> simp [h, h2]
end
/-! ### loops -/
theorem for_done {α : Type} {one : VD → VEn → CS → SM} {nx : VEn → CS → Prop} {rt : VD → CS → Prop} {E : XV → VEn → CS → Prop} (g : α → VD) (xs : List α) (I : List α → VEn → CS → Prop) (fin : ∀ en cs, I xs en cs → nx en cs)
    (step : ∀ done x rest en cs (K : VEn → CS → Prop), xs = done ++ x :: rest → I done en cs → (∀ en cs, I (done ++ [x]) en cs → K en cs) → WS (one (g x) en cs) K rt E) {en : VEn} {cs : CS} (h0 : I [] en cs) : WS (forV one (xs.map g) en cs) nx rt E := by
  have key : ∀ rest done en cs, xs = done ++ rest → I done en cs → WS (forV one (rest.map g) en cs) nx rt E := by
    intro rest
    induction rest with
    | nil => intro done en cs e i; rw [List.append_nil] at e; subst e; exact fin en cs i
    | cons x rest ih =>
      intro done en cs e i
      show WS (thS (one (g x) en cs) (forV one (rest.map g))) nx rt E
      rw [WS_thS]
      exact step done x rest en cs _ e i (fun en2 cs2 i2 => ih (done ++ [x]) en2 cs2 (by rw [e, List.append_assoc]; rfl) i2)
  exact key xs [] en cs rfl h0
theorem turn_done {α : Type} {one : VD → CS → M (Option VD)} {Q : List VD → CS → Prop} {E : XV → CS → Prop} (g : α → VD) (xs : List α) (I : List α → List VD → CS → Prop) (fin : ∀ acc cs, I xs acc cs → Q acc cs)
    (step : ∀ done x rest acc cs (K : Option VD → CS → Prop), xs = done ++ x :: rest → I done acc cs → (∀ y cs, acc.length < sizeLine → I (done ++ [x]) (acc ++ [y]) cs → K (some y) cs) → (∀ cs, I (done ++ [x]) acc cs → K none cs) → W (one (g x) cs) K E) {cs : CS} (h0 : I [] [] cs) : W (turnV one (xs.map g) [] cs) Q E := by
  have key : ∀ rest done acc cs, xs = done ++ rest → I done acc cs → W (turnV one (rest.map g) acc cs) Q E := by
    intro rest
    induction rest with
    | nil => intro done acc cs e i; rw [List.append_nil] at e; subst e; exact fin acc cs i
    | cons x rest ih =>
      intro done acc cs e i
      show W (bM (one (g x) cs) fun r cs => match r with | some y => if acc.length < sizeLine then turnV one (rest.map g) (acc ++ [y]) cs else none | none => turnV one (rest.map g) acc cs) Q E
      rw [W_bM]
      have e2 : xs = (done ++ [x]) ++ rest := by rw [e, List.append_assoc]; rfl
      refine step done x rest acc cs _ e i (fun y cs2 hz i2 => ?_) (fun cs2 i2 => ?_)
      · simp only [hz, if_true]
        exact ih _ _ _ e2 i2
      · exact ih _ _ _ e2 i2
  exact key xs [] [] cs rfl h0
/-- a comprehension that only looks -/
theorem turn_map {α : Type} {one : VD → CS → M (Option VD)} {cs : CS} (g : α → VD) (k : α → Option VD) (xs : List α) (hz : xs.length ≤ sizeLine) (h : ∀ x ∈ xs, one (g x) cs = some (.ok (k x), cs)) : turnV one (xs.map g) [] cs = some (.ok (xs.filterMap k), cs) := by
  refine eq_of_W (turn_done g xs (fun done acc c => c = cs ∧ acc = done.filterMap k) (fun acc c i => ⟨i.2, i.1⟩) (fun done x rest acc c K e i k1 k2 => ?_) ⟨rfl, rfl⟩)
  obtain ⟨rfl, rfl⟩ := i
  rw [h x (by rw [e]; simp)]
  have hl : (done.filterMap k).length ≤ done.length := List.length_filterMap_le _ _
  have hd : done.length + (rest.length + 1) = xs.length := by rw [e]; simp
  cases hk : k x with
  | some y => exact k1 y _ (by omega) ⟨rfl, by simp [hk]⟩
  | none => exact k2 _ ⟨rfl, by simp [hk]⟩
/-- a test's two ways -/
def Tst (x : VD) (A B : Prop) : Prop := ∃ b, x = .bl b ∧ if b = true then A else B
@[simp] theorem tst_bl {b : Bool} {A B : Prop} : Tst (.bl b) A B = if b = true then A else B := by
  unfold Tst
  cases b <;> simp
theorem while_of {c : VEn → CS → M VD} {body : VEn → CS → SM} {nx : VEn → CS → Prop} {rt : VD → CS → Prop} {E : XV → VEn → CS → Prop} (I : Nat → VEn → CS → Prop)
    (step : ∀ m en cs (K : VEn → CS → Prop), I m en cs → (∀ m2 en2 cs2, m2 < m → I m2 en2 cs2 → K en2 cs2) → W (c en cs) (fun x cs => Tst x (WS (body en cs) K rt E) (nx en cs)) fun x cs => E x en cs) {m k : Nat} {en : VEn} {cs : CS} (h0 : I m en cs) (hk : m < k) : WS (whileV c body k en cs) nx rt E := by
  induction k generalizing m en cs with
  | zero => omega
  | succ k ih =>
    show WS (sM (c en cs) en fun x cs => oS (vBl x) fun b => if b = true then thS (body en cs) (whileV c body k) else some (.nx en, cs)) nx rt E
    rw [WS_sM]
    refine W_mono (step m en cs (fun en2 cs2 => WS (whileV c body k en2 cs2) nx rt E) h0 fun m2 en2 cs2 l i => ih i (by omega)) (fun x cs2 h => ?_) fun _ _ h => h
    obtain ⟨b, rfl, h⟩ := h
    cases b with
    | false => exact h
    | true =>
      simp only [vBl_bl, oS_some_, if_true, WS_thS] at h ⊢
      exact h
/-! ### the feed -/
def FeedV (cs : CS) (f b : Nat) : Prop := ∃ c k r : Int, cs[f]? = some [.int c, .int k, .int r] ∧ 0 ≤ k ∧ k + b ≤ B62
theorem FeedV.mono {cs : CS} {f b c : Nat} (F : FeedV cs f b) (l : c ≤ b) : FeedV cs f c := let ⟨a, k, r, e, h1, h2⟩ := F; ⟨a, k, r, e, h1, by omega⟩
theorem FeedV.app {cs : CS} {f b : Nat} {x : List VD} (F : FeedV cs f b) : FeedV (cs ++ [x]) f b := let ⟨a, k, r, e, h1, h2⟩ := F; ⟨a, k, r, by rw [List.getElem?_append_left (List.getElem?_eq_some_iff.mp e).1]; exact e, h1, h2⟩
/-! ### rows of whole numbers -/
def rowV (r : List Int) : VD := .tup (r.map .int)
def rowP' (r : List Int) : PyData := .tuple (r.map .int)
section
variable {r a b : List Int} {n : Nat} {t : Tg} {cs : CS} {i : Int}
@[simp] theorem rowV_fold : VD.tup (r.map .int) = rowV r := rfl
@[simp] theorem see_row : (rowV r).see = rowV r := rfl
@[simp] theorem esc_row : (rowV r).esc = some (rowV r) := rfl
@[simp] theorem keep_row : (rowV r).keep = some (rowV r) := rfl
@[simp] theorem pyV_int : pyV (n + 1) (.int i) = some (.int i) := rfl
theorem mapM_map' {α β γ : Type} {f : β → Option γ} {g : α → β} {k : α → γ} (e : ∀ a, f (g a) = some (k a)) : ∀ l : List α, (l.map g).mapM f = some (l.map k)
  | [] => rfl
  | a :: l => by
    rw [List.map_cons, List.mapM_cons, e, mapM_map' e l]
    rfl
theorem pyV_row : pyV (n + 2) (rowV r) = some (rowP' r) := by
  show ((r.map VD.int).mapM (pyV (n + 1))).map PyData.tuple = _
  rw [mapM_map' (f := pyV (n + 1)) (g := VD.int) (k := PyData.int) fun i => rfl]
  rfl
theorem pyV_rows (rs : List (List Int)) : (rs.map rowV).mapM (pyV (n + 2)) = some (rs.map rowP') := mapM_map' (fun r => pyV_row) rs
theorem pyV_rowsL (rs : List (List Int)) : pyV (n + 3) (.lst t (rs.map rowV)) = some (.list (rs.map rowP')) := by
  show ((rs.map rowV).mapM (pyV (n + 2))).map PyData.list = _
  rw [pyV_rows]; rfl
theorem pyV_rowsT (rs : List (List Int)) : pyV (n + 3) (.tup (rs.map rowV)) = some (.tuple (rs.map rowP')) := by
  show ((rs.map rowV).mapM (pyV (n + 2))).map PyData.tuple = _
  rw [pyV_rows]; rfl
theorem pyV_intsL (ns : List Int) : pyV (n + 2) (.lst t (ns.map .int)) = some (.list (ns.map .int)) := by
  show ((ns.map VD.int).mapM (pyV (n + 1))).map PyData.list = _
  rw [mapM_map' (f := pyV (n + 1)) (g := VD.int) (k := PyData.int) fun i => rfl]; rfl
theorem lay_ints' : ∀ r : List Int, PyData.canLayAll0 (r.map .int) = true ∧ PyData.depthAll (r.map .int) = 0
  | [] => ⟨rfl, rfl⟩
  | x :: r => by
    obtain ⟨h1, h2⟩ := lay_ints' r
    simp [PyData.canLayAll0, PyData.depthAll, PyData.canLay0, PyData.depth, h1, h2]
theorem lay_row' (r : List Int) : (rowP' r).canLay0 = true ∧ (rowP' r).depth = 1 := by
  obtain ⟨h1, h2⟩ := lay_ints' r
  simp [rowP', PyData.canLay0, PyData.depth, h1, h2]
theorem shaped_row' (r : List Int) : SeqAt.shaped (rowP' r) = true := by
  obtain ⟨h1, h2⟩ := lay_row' r
  unfold SeqAt.shaped
  rw [h1, h2]
  rfl
theorem shaped_intsL (r : List Int) : SeqAt.shaped (.list (r.map .int)) = true := by
  obtain ⟨h1, h2⟩ := lay_ints' r
  unfold SeqAt.shaped
  simp [PyData.canLay0, PyData.depth, h1, h2]
theorem lay_rows' : ∀ rs : List (List Int), PyData.canLayAll0 (rs.map rowP') = true ∧ PyData.depthAll (rs.map rowP') ≤ 1
  | [] => ⟨rfl, Nat.zero_le _⟩
  | r :: rs => by
    obtain ⟨h1, h2⟩ := lay_rows' rs
    obtain ⟨h3, h4⟩ := lay_row' r
    simp only [List.map_cons, PyData.canLayAll0, PyData.depthAll, h1, h3, h4]
    exact ⟨rfl, by omega⟩
theorem shaped_rowsL' (rs : List (List Int)) : SeqAt.shaped (.list (rs.map rowP')) = true ∧ SeqAt.shaped (.tuple (rs.map rowP')) = true := by
  obtain ⟨h1, h2⟩ := lay_rows' rs
  unfold SeqAt.shaped
  simp only [PyData.canLay0, PyData.depth, h1]
  exact ⟨by simp; omega, by simp; omega⟩
theorem eqv_ints' : ∀ a b : List Int, PyData.eqvAll (a.map .int) (b.map .int) = decide (a = b)
  | [], [] => by simp [PyData.eqvAll]
  | [], _ :: _ => by simp [PyData.eqvAll]
  | _ :: _, [] => by simp [PyData.eqvAll]
  | x :: a, y :: b => by
    simp only [List.map_cons, PyData.eqvAll, PyData.eqv, eqv_ints' a b]
    by_cases h : x = y <;> by_cases h2 : a = b <;> simp [h, h2]
theorem eqv_row' (a b : List Int) : PyData.eqv (rowP' a) (rowP' b) = decide (a = b) := by
  simp only [rowP', PyData.eqv, eqv_ints']
theorem eqv_rows' : ∀ a b : List (List Int), PyData.eqvAll (a.map rowP') (b.map rowP') = decide (a = b)
  | [], [] => by simp [PyData.eqvAll]
  | [], y :: ys => by simp [PyData.eqvAll]
  | x :: xs, [] => by simp [PyData.eqvAll]
  | x :: a, y :: b => by
    simp only [List.map_cons, PyData.eqvAll, eqv_row', eqv_rows' a b]
    by_cases h : x = y <;> by_cases h2 : a = b <;> simp [h, h2]
@[simp] theorem v_eqI {i j : Int} : vcmp .eq (.int i) (.int j) = some (decide (i = j)) := by
  show eqV (.int i) (.int j) = _
  simp only [eqV, pyV, SeqAt.shaped, PyData.canLay0, PyData.depth, PyData.eqv]
  by_cases e : i = j <;> simp [e]
@[simp] theorem v_neI {i j : Int} : vcmp .ne (.int i) (.int j) = some (!decide (i = j)) := by
  show (eqV (.int i) (.int j)).map (!·) = _
  rw [show eqV (.int i) (.int j) = some (decide (i = j)) from v_eqI]
  rfl
@[simp] theorem v_eqR : vcmp .eq (rowV a) (rowV b) = some (decide (a = b)) := by
  show eqV (rowV a) (rowV b) = _
  simp only [eqV, pyV_row, shaped_row', eqv_row', Bool.and_self, if_true]
theorem v_eqRL {a b : List (List Int)} {t u : Tg} : vcmp .eq (.lst t (a.map rowV)) (.lst u (b.map rowV)) = some (decide (a = b)) := by
  show eqV _ _ = _
  simp only [eqV, pyV_rowsL, (shaped_rowsL' _).1, Bool.and_self, if_true, PyData.eqv, eqv_rows']
theorem eqV_str {x y : Str} (hx : PyData.strOk x = true) (hy : PyData.strOk y = true) : vcmp .eq (.str x) (.str y) = some (x == y) := by
  show eqV (.str x) (.str y) = _
  simp only [eqV, pyV, SeqAt.shaped, PyData.canLay0, PyData.depth, hx, hy, PyData.eqv]
  simp
theorem any_row' {r : List Int} : ∀ {rs : List (List Int)}, ((rs.map rowP').any fun z => PyData.eqv z (rowP' r)) = decide (r ∈ rs)
  | [] => by simp
  | a :: rs => by
    rw [List.map_cons, List.any_cons, any_row' (rs := rs), eqv_row']
    by_cases h : a = r
    · simp [h]
    · have : ¬ r = a := fun z => h z.symm
      simp [h, this]
theorem inV_rows {rs : List (List Int)} {t : Tg} : vcmp .inn (rowV r) (.lst t (rs.map rowV)) = some (decide (r ∈ rs)) := by
  show inV0 _ _ = _
  unfold inV0
  rw [pyV_row, pyV_rowsL]
  simp only [shaped_row', (shaped_rowsL' rs).1, Bool.and_self, if_true, any_row']
theorem ninV_rows {rs : List (List Int)} {t : Tg} : vcmp .nin (rowV r) (.lst t (rs.map rowV)) = some (!decide (r ∈ rs)) := by
  show (inV _ _).map (!·) = _
  rw [show inV (rowV r) (.lst t (rs.map rowV)) = some (decide (r ∈ rs)) from inV_rows]
  rfl
theorem inV_rowsT {rs : List (List Int)} : vcmp .inn (rowV r) (.tup (rs.map rowV)) = some (decide (r ∈ rs)) := by
  show inV0 _ _ = _
  unfold inV0
  rw [pyV_row, pyV_rowsT]
  simp only [shaped_row', (shaped_rowsL' rs).2, Bool.and_self, if_true, any_row']
theorem any_int {i : Int} : ∀ {ns : List Int}, ((ns.map PyData.int).any fun z => PyData.eqv z (.int i)) = decide (i ∈ ns)
  | [] => by simp
  | a :: ns => by
    rw [List.map_cons, List.any_cons, any_int (ns := ns)]
    simp only [PyData.eqv]
    by_cases h : a = i
    · simp [h]
    · have : ¬ i = a := fun z => h z.symm
      simp [h, this]
theorem shaped_int {i : Int} : SeqAt.shaped (.int i) = true := rfl
theorem inV_row {r : List Int} : vcmp .inn (.int i) (rowV r) = some (decide (i ∈ r)) := by
  show inV0 _ _ = _
  unfold inV0
  rw [pyV_row]
  simp only [pyV, rowP', shaped_int, any_int]
  rw [show SeqAt.shaped (.tuple (r.map .int)) = true from shaped_row' r]
  simp
theorem inV_ints {ns : List Int} {t : Tg} : vcmp .inn (.int i) (.lst t (ns.map .int)) = some (decide (i ∈ ns)) := by
  show inV0 _ _ = _
  unfold inV0
  rw [pyV_intsL]
  simp only [pyV, shaped_int, any_int, shaped_intsL]
  simp
theorem atI_map' {α : Type} {f : α → VD} {xs : List α} {k : Nat} {x : α} (h : xs[k]? = some x) : atI (xs.map f) (k : Int) = some (f x) := atI_nat (by rw [List.getElem?_map, h]; rfl)
theorem atI_of {α β : Type} (f : α → β) (xs : List α) (i : Int) : atI (xs.map f) i = (atI xs i).map f := by
  unfold atI
  rw [List.length_map]
  cases ixN xs.length i with
  | none => rfl
  | some k => show (xs.map f)[k]? = (xs[k]?).map f; rw [List.getElem?_map]
@[simp] theorem vix_row : vix cs (rowV r) (.int i) = (atI r i).map .int := atI_of _ _ _
@[simp] theorem len_row : vbi cs .len [rowV r] = some (.int r.length) := by show some (VD.int ((r.map VD.int).length)) = _; rw [List.length_map]
theorem cutV_last {α : Type} (xs : List α) : cutV xs none (some (-1)) = xs.dropLast := by
  have e1 : HT.sIx xs.length 0 none = 0 := rfl
  have e2 : HT.sIx xs.length xs.length (some (-1)) = xs.length - 1 := by
    show (if (-1 : Int) < 0 then ((-1 : Int) + (xs.length : Int)).toNat else min (-1 : Int).toNat xs.length) = _
    rw [if_pos (by decide)]
    omega
  unfold cutV
  rw [e1, e2, List.drop_zero, List.dropLast_eq_take, Nat.sub_zero]
theorem cutV_tail {α : Type} (xs : List α) : cutV xs (some 1) none = xs.tail := by
  unfold cutV
  rw [show HT.sIx xs.length xs.length none = xs.length from rfl]
  have : HT.sIx xs.length 0 (some 1) = min 1 xs.length := HT.sIx_nat xs.length 0 1
  rw [this]
  cases xs with
  | nil => rfl
  | cons x r =>
    have : min 1 (x :: r).length = 1 := by simp
    rw [this]
    show List.take ((x :: r).length - 1) r = r
    simp
theorem cutV_map {α β : Type} (f : α → β) (xs : List α) (lo hi : Option Int) : cutV (xs.map f) lo hi = (cutV xs lo hi).map f := by
  unfold cutV
  rw [List.length_map, List.map_take, List.map_drop]
@[simp] theorem vsl_row {lo hi : Option Int} : vsl cs (rowV r) lo hi = some (rowV (cutV r lo hi)) := by
  show some (VD.tup (cutV (r.map VD.int) lo hi)) = _
  rw [cutV_map]; rfl
theorem sIx_pos' {n d : Nat} {v : Int} (h : 0 ≤ v) : HT.sIx n d (some v) = min v.toNat n := by
  show (if v < 0 then (v + (n : Int)).toNat else min v.toNat n) = _
  rw [if_neg (by omega)]
theorem sIx_neg' {n d : Nat} {v : Int} (h : v < 0) : HT.sIx n d (some v) = (v + (n : Int)).toNat := by
  show (if v < 0 then (v + (n : Int)).toNat else min v.toNat n) = _
  rw [if_pos h]
@[simp] theorem W_rowadd {c : Int} {Q : VD → CS → Prop} {E : XV → CS → Prop} : W (oM (vbin .add (rowV r) (.tup [.int c])) cs) Q E = (r.length + 1 ≤ sizeLine ∧ Q (rowV (r ++ [c])) cs) := by
  rw [show vbin .add (rowV r) (.tup [.int c]) = if (r.map VD.int).length + 1 ≤ sizeLine then some (.tup (r.map .int ++ [.int c])) else none from rfl, W_oM_if, List.length_map]
  simp [rowV]
@[simp] theorem W_rowadd2 {q : List Int} {Q : VD → CS → Prop} {E : XV → CS → Prop} : W (oM (vbin .add (rowV r) (rowV q)) cs) Q E = (r.length + q.length ≤ sizeLine ∧ Q (rowV (r ++ q)) cs) := by
  rw [show vbin .add (rowV r) (rowV q) = if (r.map VD.int).length + (q.map VD.int).length ≤ sizeLine then some (.tup (r.map .int ++ q.map .int)) else none from rfl, W_oM_if, List.length_map, List.length_map]
  simp [rowV]
theorem row_add {c : Int} (h : r.length + 1 ≤ sizeLine) : vbin .add (rowV r) (.tup [.int c]) = some (rowV (r ++ [c])) := by
  rw [show vbin .add (rowV r) (.tup [.int c]) = some (.tup (r.map .int ++ [.int c])) from v_addT (by rw [List.length_map]; exact h)]
  simp [rowV]
theorem row_addR {q : List Int} (h : r.length + q.length ≤ sizeLine) : vbin .add (rowV r) (rowV q) = some (rowV (r ++ q)) := by
  rw [show vbin .add (rowV r) (rowV q) = some (.tup (r.map .int ++ q.map .int)) from v_addT (by rw [List.length_map, List.length_map]; exact h)]
  simp [rowV]
/-- a row that has no dict -/
def rowN (r : List Int) : VD := .tupN (r.map .int)
@[simp] theorem rowN_fold : VD.tupN (r.map .int) = rowN r := rfl
@[simp] theorem see_rowN : (rowN r).see = rowN r := rfl
@[simp] theorem esc_rowN : (rowN r).esc = some (rowN r) := rfl
@[simp] theorem keep_rowN : (rowN r).keep = some (rowN r) := rfl
@[simp] theorem vrecv_rowN : vrecv .index cs (rowN r) = some () := rfl
theorem pyV_rowN : pyV (n + 2) (rowN r) = some (rowP' r) := by
  show ((r.map VD.int).mapM (pyV (n + 1))).map PyData.tuple = _
  rw [mapM_map' (f := pyV (n + 1)) (g := VD.int) (k := PyData.int) fun i => rfl]
  rfl
@[simp] theorem vix_rowN : vix cs (rowN r) (.int i) = (atI r i).map .int := atI_of _ _ _
@[simp] theorem len_rowN : vbi cs .len [rowN r] = some (.int r.length) := by show some (VD.int ((r.map VD.int).length)) = _; rw [List.length_map]
@[simp] theorem tupN_ints {ns : List Int} : vbi cs .tupleN [.lst t (ns.map .int)] = some (rowN ns) := rfl
@[simp] theorem walk_rowN : vWalk .val [rowN r] = some (r.map .int) := rfl
@[simp] theorem tupOf_ints {ns : List Int} : vbi cs .tupleOf [.lst t (ns.map .int)] = some (rowV ns) := rfl
@[simp] theorem walk_row : vWalk .val [rowV r] = some (r.map .int) := rfl
theorem filterMap_keep' {α : Type} (g : α → VD) (p : α → Bool) : ∀ xs : List α, (xs.filterMap fun x => if p x = true then some (g x) else none) = (xs.filter p).map g
  | [] => rfl
  | x :: xs => by
    rw [List.filterMap_cons, filterMap_keep' g p xs, List.filter_cons]
    cases p x <;> simp
theorem filterMap_all' {α : Type} (g : α → VD) (xs : List α) : (xs.filterMap fun x => some (g x)) = xs.map g := by
  rw [← List.filterMap_eq_map]
  rfl
end
end Mp
namespace Mp
open PySem L2
/-- all_rows ['hues', 'wide', 'found', 'place', 'longer', 'row', 'choice'] -/
def v4_1 : List VT := [.exprM .extend 4 [.comp (.bin .add (.var 5) (.tup [.var 6])) (.name 6) .rng1 [.var 0] (.omit)]]
def v4_2 : List VT := [.asg 4 (.lst []),
    .frz 2,
    .for_ (.name 5) .val [.var 2] v4_1,
    .asgV 2 4]
def v4 : VDef := ⟨2, 5, [.asg 2 (.lst [.tup []]),
    .for_ (.name 3) .rng1 [.var 1] v4_2,
    .retV 2]⟩
/-- unlike ['hues', 'row'] -/
def v5 : VDef := ⟨1, 1, [.ret (.tup [.var 0, .cst (.int 2), .bi .tupleOf [.comp (.var 1) (.name 1) .val [.call 4 [.var 0, .cst (.int 2)]] (.cmp .ne (.ix (.var 1) (.cst (.int 0))) (.ix (.var 1) (.cst (.int 1))))]])]⟩
/-- posts [] -/
def v6 : VDef := ⟨0, 0, [.ret (.tup [.cst (.int 2), .cst (.int 3), .tup [.tup [.cst (.int 0), .cst (.int 0), .cst (.int 1)], .tup [.cst (.int 0), .cst (.int 1), .cst (.int 0)], .tup [.cst (.int 1), .cst (.int 0), .cst (.int 0)], .tup [.cst (.int 1), .cst (.int 0), .cst (.int 1)]]])]⟩
/-- mates [] -/
def v7 : VDef := ⟨0, 0, [.ret (.tup [.cst (.int 3), .cst (.int 2), .tup [.tup [.cst (.int 0), .cst (.int 1)], .tup [.cst (.int 1), .cst (.int 2)], .tup [.cst (.int 2), .cst (.int 0)], .tup [.cst (.int 2), .cst (.int 1)]]])]⟩
/-- ups ['hues', 'rows', 'row'] -/
def v8 : VDef := ⟨1, 2, [.asg 1 (.comp (.var 2) (.name 2) .val [.call 4 [.var 0, .cst (.int 2)]] (.or (.cmp .lt (.ix (.var 2) (.cst (.int 0))) (.ix (.var 2) (.cst (.int 1)))) (.and (.cmp .eq (.ix (.var 2) (.cst (.int 1))) (.cst (.int 0))) (.cmp .ne (.ix (.var 2) (.cst (.int 0))) (.cst (.int 0)))))),
    .ret (.tup [.var 0, .cst (.int 2), .bi .tupleOf [.var 1]])]⟩
/-- _law_mix ['cell', 'k', 'by'] -/
def v9 : VDef := ⟨2, 1, [.asg 2 (.bin .add (.bin .add (.bin .mul (.bin .add (.bin .mod (.var 0) (.bin .pow (.cst (.int 10)) (.cst (.int 15)))) (.cst (.int 1))) (.cst (.int 48271))) (.bin .mul (.bin .mul (.var 1) (.var 1)) (.cst (.int 16807)))) (.bin .mul (.var 1) (.cst (.int 7919)))),
    .ret (.bin .mod (.bin .mul (.bin .mod (.var 2) (.cst (.int 2147483647))) (.cst (.int 69621))) (.cst (.int 2147483629)))]⟩
/-- _law_feed ['script', 'k', 'cell'] -/
def v10 : VDef := ⟨2, 1, [.asg 2 (.bin .add (.bin .mul (.cst (.int 7919)) (.var 1)) (.cst (.int 1))),
    .ifs (.cmp .lt (.var 1) (.bi .len [.var 0])) [.asg 2 (.ix (.var 0) (.var 1))] [.ifs (.cmp .gt (.bi .len [.var 0]) (.cst (.int 0))) [.asg 2 (.call 9 [.ix (.var 0) (.bin .mod (.var 1) (.bi .len [.var 0])), .var 1])] []],
    .retC (.lst [.var 2, .cst (.int 0), .bin .mul (.bin .sub (.var 2) (.bin .pow (.cst (.int 10)) (.cst (.int 18)))) (.bi .intOf [.cmp .ge (.var 2) (.bin .pow (.cst (.int 10)) (.cst (.int 18)))])])]⟩
/-- _law_take ['feed', 'many', 'found'] -/
def v11 : VDef := ⟨2, 1, [.asgIx (.var 0) (.cst (.int 1)) (.bin .add (.ix (.var 0) (.cst (.int 1))) (.cst (.int 1))),
    .ifs (.cmp .gt (.ix (.var 0) (.cst (.int 2))) (.cst (.int 0))) [.asg 2 (.bin .mod (.ix (.var 0) (.cst (.int 2))) (.var 1)),
    .asgIx (.var 0) (.cst (.int 2)) (.bin .fdiv (.ix (.var 0) (.cst (.int 2))) (.var 1)),
    .retV 2] [],
    .ret (.bin .mod (.bin .fdiv (.call 9 [.ix (.var 0) (.cst (.int 0)), .ix (.var 0) (.cst (.int 1))]) (.cst (.int 7))) (.var 1))]⟩
/-- _law_all_rows ['hues', 'wide', 'found', 'place', 'longer', 'row', 'choice'] -/
def v12_1 : List VT := [.exprM .extend 4 [.comp (.bin .add (.var 5) (.tup [.var 6])) (.name 6) .rng1 [.var 0] (.omit)]]
def v12_2 : List VT := [.asg 4 (.lst []),
    .frz 2,
    .for_ (.name 5) .val [.var 2] v12_1,
    .asgV 2 4]
def v12 : VDef := ⟨2, 5, [.asg 2 (.lst [.tup []]),
    .for_ (.name 3) .rng1 [.var 1] v12_2,
    .retV 2]⟩
/-- _law_wish ['feed', 'most', 'hues', 'wide', 'level', 'rows', 'row'] -/
def v13 : VDef := ⟨2, 5, [.asg 2 (.bin .add (.cst (.int 1)) (.call 11 [.var 0, .var 1])),
    .asg 3 (.ix (.lst [.cst (.int 2), .cst (.int 3), .cst (.int 2)]) (.call 11 [.var 0, .cst (.int 3)])),
    .asg 4 (.call 11 [.var 0, .cst (.int 4)]),
    .asg 5 (.comp (.var 6) (.name 6) .val [.call 12 [.var 2, .var 3]] (.cmp .gt (.call 11 [.var 0, .cst (.int 5)]) (.var 4))),
    .ifs (.cmp .eq (.call 11 [.var 0, .cst (.int 4)]) (.cst (.int 0))) [.asg 5 (.comp (.var 6) (.name 6) .val [.call 12 [.var 2, .var 3]] (.and (.cmp .ne (.ix (.var 6) (.cst (.int 0))) (.ix (.var 6) (.cst (.int 1)))) (.cmp .ne (.ix (.var 6) (.neg (.cst (.int 1)))) (.ix (.var 6) (.neg (.cst (.int 2)))))))] [],
    .ret (.tup [.var 2, .var 3, .bi .tupleOf [.var 5]])]⟩
/-- comes_again ['rows', 'row', 'met', 'line', 'here', 'other'] -/
def v21_1 : List VT := [.ifs (.and (.cmp .eq (.sl (.var 5) (.omit) (.neg (.cst (.int 1)))) (.sl (.var 4) (.cst (.int 1)) (.omit))) (.cmp .nin (.var 5) (.var 2))) [.put 2 (.var 5) (.cst (.bl true)),
    .exprM .append 3 [.var 5]] []]
def v21_2 : List VT := [.asgP (.name 4) .pop0 3 [],
    .for_ (.name 5) .val [.var 0] v21_1]
def v21 : VDef := ⟨2, 4, [.asg 2 (.bi .dict0 []),
    .asg 3 (.lst [.var 1]),
    .while_ (.cmp .gt (.bi .len [.var 3]) (.cst (.int 0))) v21_2,
    .ret (.cmp .inn (.var 1) (.var 2))]⟩
/-- living ['wish', 'row'] -/
def v22 : VDef := ⟨1, 1, [.ret (.comp (.var 1) (.name 1) .val [.ix (.var 0) (.cst (.int 2))] (.call 21 [.ix (.var 0) (.cst (.int 2)), .var 1]))]⟩
/-- _law_alive ['wish', 'found', 'row', 'met', 'at', 'again', 'some', 'other'] -/
def v23_1 : List VT := [.asg 6 (.comp (.var 7) (.name 7) .val [.ix (.var 0) (.cst (.int 2))] (.cmp .eq (.sl (.var 7) (.omit) (.neg (.cst (.int 1)))) (.sl (.ix (.var 3) (.var 4)) (.cst (.int 1)) (.omit)))),
    .asg 5 (.or (.var 5) (.cmp .inn (.var 2) (.var 6))),
    .exprM .extend 3 [.comp (.var 7) (.name 7) .val [.var 6] (.cmp .nin (.var 7) (.var 3))],
    .asg 4 (.bin .add (.var 4) (.cst (.int 1)))]
def v23_2 : List VT := [.asg 3 (.lst [.var 2]),
    .asg 4 (.cst (.int 0)),
    .asg 5 (.cst (.bl false)),
    .while_ (.cmp .lt (.var 4) (.bi .len [.var 3])) v23_1,
    .ifs (.var 5) [.exprM .append 1 [.var 2]] []]
def v23 : VDef := ⟨1, 7, [.asg 1 (.lst []),
    .for_ (.name 2) .val [.ix (.var 0) (.cst (.int 2))] v23_2,
    .retV 1]⟩
/-- law ['script', 'told', 'feed', 'wishes', 'k', 'wish', 'due', 'found'] -/
def v24_1 : List VT := [.exprM .append 3 [.call 13 [.call 10 [.var 0, .bin .add (.cst (.int 1)) (.var 4)], .ix (.lst [.cst (.int 3), .cst (.int 4)]) (.bi .intOf [.cmp .eq (.var 4) (.cst (.int 0))])]]]
def v24_2 : List VT := [.asg 6 (.call 23 [.var 5]),
    .asg 7 (.call 22 [.var 5]),
    .ifs (.cmp .ne (.bi .repr [.var 7]) (.bi .repr [.var 6])) [.ret (.cst (.bl false))] [],
    .exprM .append 7 [.tup []],
    .ifs (.cmp .ne (.bi .repr [.call 22 [.var 5]]) (.bi .repr [.var 6])) [.ret (.cst (.bl false))] []]
def v24 : VDef := ⟨1, 7, [.asg 1 (.lst [.call 6 [], .call 7 [], .call 5 [.cst (.int 3)], .call 5 [.cst (.int 1)], .call 8 [.cst (.int 3)], .call 5 [.cst (.int 2)]]),
    .asg 2 (.call 10 [.var 0, .cst (.int 0)]),
    .asg 3 (.lst [.ix (.var 1) (.call 11 [.var 2, .cst (.int 6)])]),
    .for_ (.name 4) .rng1 [.cst (.int 4)] v24_1,
    .ifs (.and (.cmp .eq (.ix (.ix (.var 3) (.cst (.int 1))) (.cst (.int 0))) (.cst (.int 4))) (.cmp .eq (.ix (.ix (.var 3) (.cst (.int 1))) (.cst (.int 1))) (.cst (.int 3)))) [.put 3 (.cst (.int 1)) (.tup [.cst (.int 4), .cst (.int 3), .slS (.ix (.ix (.var 3) (.cst (.int 1))) (.cst (.int 2))) (.call 11 [.var 2, .cst (.int 3)]) (.omit) (3)])] [],
    .frz 3,
    .for_ (.name 5) .val [.var 3] v24_2,
    .ret (.cst (.bl true))]⟩
/-- is_web ['kind'] -/
def v28 : VDef := ⟨1, 0, [.ret (.cmp .eq (.ix (.var 0) (.cst (.int 0))) (.cst (.str "web")))]⟩
/-- names_beside ['links', 'name', 'found', 'one', 'other'] -/
def v31 : VDef := ⟨2, 3, [.asg 2 (.comp (.var 4) (.tup [3, 4]) .val [.var 0] (.cmp .eq (.var 3) (.var 1))),
    .exprM .extend 2 [.comp (.var 3) (.tup [3, 4]) .val [.var 0] (.cmp .eq (.var 4) (.var 1))],
    .ret (.bi .tupleOf [.bi .sorted [.var 2]])]⟩
/-- part_of_ring ['ring', 'first', 'many', 'place'] -/
def v33 : VDef := ⟨3, 1, [.ret (.bi .tupleOf [.comp (.ix (.var 0) (.bin .mod (.var 3) (.bi .len [.var 0]))) (.name 3) .rng2 [.var 1, .bin .add (.var 1) (.var 2)] (.omit)])]⟩
/-- _law_kind ['feed', 'way'] -/
def v36 : VDef := ⟨1, 1, [.asg 1 (.call 11 [.var 0, .cst (.int 6)]),
    .ifs (.cmp .lt (.var 1) (.cst (.int 2))) [.ret (.tup [.cst (.str "names"), .bin .add (.cst (.int 3)) (.call 11 [.var 0, .cst (.int 5)])])] [],
    .ifs (.cmp .eq (.var 1) (.cst (.int 2))) [.ret (.tup [.cst (.str "order")])] [],
    .ifs (.cmp .lt (.var 1) (.cst (.int 5))) [.ret (.tup [.cst (.str "wish"), .call 13 [.var 0, .cst (.int 3)]])] [],
    .ret (.tup [.cst (.str "web"), .bin .add (.cst (.int 2)) (.call 11 [.var 0, .cst (.int 4)]), .bin .add (.cst (.int 1)) (.call 11 [.var 0, .cst (.int 3)])])]⟩
/-- _law_ring_of ['feed', 'wish', 'least', 'alive', 'wide', 'letters', 'k', 'nodes', 'twice', 'end', 'ring', 'some', 'row'] -/
def v37_1 : List VT := [.asg 11 (.comp (.var 12) (.name 12) .val [.var 3] (.cmp .eq (.sl (.var 12) (.omit) (.neg (.cst (.int 1)))) (.bi .tupleOf [.sl (.var 5) (.bin .sub (.cst (.int 1)) (.var 4)) (.omit)]))),
    .exprM .append 5 [.ix (.ix (.var 11) (.call 11 [.var 0, .bi .len [.var 11]])) (.neg (.cst (.int 1)))]]
def v37_2 : List VT := [.asg 10 (.bin .add (.var 10) (.sl (.var 5) (.mt .index (.var 7) [.ix (.var 7) (.var 9)]) (.var 9)))]
def v37 : VDef := ⟨3, 10, [.asg 3 (.call 23 [.var 1]),
    .ifs (.cmp .eq (.var 3) (.lst [])) [.ret (.cst .non)] [],
    .asg 4 (.ix (.var 1) (.cst (.int 1))),
    .asg 5 (.bi .listOf [.ix (.var 3) (.call 11 [.var 0, .bi .len [.var 3]])]),
    .for_ (.name 6) .rng1 [.cst (.int 20)] v37_1,
    .asg 7 (.comp (.bi .tupleOf [.sl (.var 5) (.var 6) (.bin .sub (.bin .add (.var 6) (.var 4)) (.cst (.int 1)))]) (.name 6) .rng1 [.bin .add (.bin .sub (.bi .len [.var 5]) (.var 4)) (.cst (.int 2))] (.omit)),
    .asg 8 (.comp (.var 6) (.name 6) .rng1 [.bi .len [.var 7]] (.cmp .inn (.ix (.var 7) (.var 6)) (.sl (.var 7) (.omit) (.var 6)))),
    .asg 9 (.ix (.var 8) (.call 11 [.var 0, .bi .len [.var 8]])),
    .asg 10 (.sl (.var 5) (.mt .index (.var 7) [.ix (.var 7) (.var 9)]) (.var 9)),
    .while_ (.cmp .lt (.bi .len [.var 10]) (.var 2)) v37_2,
    .ret (.bi .tupleOf [.var 10])]⟩
/-- _law_web ['feed', 'kind', 'names', 'links', 'one', 'other', 'name', 'beside', 'near', 'link'] -/
def v38_1 : List VT := [.asg 7 (.comp (.var 9) (.name 9) .val [.var 3] (.cmp .inn (.var 4) (.var 9))),
    .asg 8 (.comp (.var 9) (.name 9) .val [.var 3] (.cmp .inn (.var 5) (.var 9))),
    .ifs (.and (.cmp .lt (.var 4) (.var 5)) (.and (.cmp .lt (.bi .len [.var 7]) (.ix (.var 1) (.cst (.int 2)))) (.and (.cmp .lt (.bi .len [.var 8]) (.ix (.var 1) (.cst (.int 2)))) (.cmp .gt (.call 11 [.var 0, .cst (.int 3)]) (.cst (.int 0)))))) [.exprM .append 3 [.tup [.var 4, .var 5]]] []]
def v38_2 : List VT := [.frz 2,
    .for_ (.name 5) .val [.var 2] v38_1]
def v38 : VDef := ⟨2, 8, [.asg 2 (.comp (.var 6) (.name 6) .rng2 [.cst (.int 1), .bin .add (.ix (.var 1) (.cst (.int 1))) (.cst (.int 1))] (.cmp .gt (.call 11 [.var 0, .cst (.int 5)]) (.cst (.int 0)))),
    .ifs (.cmp .eq (.var 2) (.lst [])) [.asg 2 (.lst [.cst (.int 1)])] [],
    .asg 3 (.lst []),
    .frz 2,
    .for_ (.name 4) .val [.var 2] v38_2,
    .ret (.tup [.bi .tupleN [.var 2], .bi .tupleOf [.bi .sorted [.var 3]]])]⟩
/-- _law_world ['feed', 'kind', 'least', 'ring', 'k', 'letters', 'step'] -/
def v39_1 : List VT := [.exprM .append 3 [.mt .pop1 (.var 5) [.call 11 [.var 0, .bi .len [.var 5]]]]]
def v39 : VDef := ⟨3, 4, [.ifs (.cmp .eq (.ix (.var 1) (.cst (.int 0))) (.cst (.str "web"))) [.ret (.call 38 [.var 0, .var 1])] [],
    .ifs (.cmp .eq (.ix (.var 1) (.cst (.int 0))) (.cst (.str "wish"))) [.ret (.call 37 [.var 0, .ix (.var 1) (.cst (.int 1)), .bi .max2 [.cst (.int 3), .var 2]])] [],
    .ifs (.cmp .eq (.ix (.var 1) (.cst (.int 0))) (.cst (.str "names"))) [.asgC 5 (.bi .listRng2 [.cst (.int 1), .bin .add (.ix (.var 1) (.cst (.int 1))) (.cst (.int 1))])] [.asg 6 (.ix (.lst [.cst (.int 1), .cst (.int 3), .bin .pow (.cst (.int 10)) (.cst (.int 20))]) (.call 11 [.var 0, .cst (.int 3)])),
    .asgC 5 (.comp (.bin .add (.bin .sub (.bin .mul (.var 6) (.var 4)) (.cst (.int 7))) (.call 11 [.var 0, .var 6])) (.name 4) .rng1 [.bin .add (.bi .max2 [.cst (.int 3), .var 2]) (.call 11 [.var 0, .cst (.int 4)])] (.omit))],
    .ifs (.cmp .lt (.bi .len [.var 5]) (.bi .max2 [.cst (.int 3), .var 2])) [.ret (.cst .non)] [],
    .asg 3 (.lst []),
    .for_ (.name 4) .rng1 [.bi .len [.var 5]] v39_1,
    .ifs (.cmp .eq (.ix (.var 1) (.cst (.int 0))) (.cst (.str "names"))) [.asg 3 (.sl (.var 3) (.omit) (.bin .add (.bi .max2 [.cst (.int 3), .var 2]) (.call 11 [.var 0, .bin .add (.bin .sub (.bi .len [.var 3]) (.bi .max2 [.cst (.int 3), .var 2])) (.cst (.int 1))])))] [],
    .ret (.bi .tupleOf [.var 3])]⟩
/-- order_of ['row', 'number', 'other'] -/
def v43 : VDef := ⟨1, 2, [.ret (.bi .tupleOf [.comp (.bi .len [.comp (.var 2) (.name 2) .val [.var 0] (.cmp .lt (.var 2) (.var 1))]) (.name 1) .val [.var 0] (.omit)])]⟩
/-- sight_of ['kind', 'world', 'house', 't', 'sight', 'name'] -/
def v44 : VDef := ⟨4, 2, [.ifs (.call 28 [.var 0]) [.asg 5 (.ix (.ix (.var 1) (.cst (.int 0))) (.var 2)),
    .ret (.ite (.cmp .eq (.var 3) (.cst (.int 0))) (.tup [.var 5]) (.tup [.var 5, .call 31 [.ix (.var 1) (.cst (.int 1)), .var 5]]))] [],
    .asg 4 (.call 33 [.var 1, .bin .sub (.var 2) (.var 3), .bin .add (.bin .mul (.cst (.int 2)) (.var 3)) (.cst (.int 1))]),
    .ret (.ite (.cmp .eq (.ix (.var 0) (.cst (.int 0))) (.cst (.str "order"))) (.call 43 [.var 4]) (.var 4))]⟩
/-- _law_order ['row', 'number'] -/
def v45 : VDef := ⟨1, 1, [.ret (.bi .tupleOf [.comp (.mt .index (.bi .sorted [.var 0]) [.var 1]) (.name 1) .val [.var 0] (.omit)])]⟩
/-- _law_beside ['links', 'name', 'link'] -/
def v46 : VDef := ⟨2, 1, [.ret (.bi .tupleOf [.bi .sorted [.comp (.bin .sub (.bi .sum [.var 2]) (.var 1)) (.name 2) .val [.var 0] (.cmp .inn (.var 1) (.var 2))]])]⟩
/-- _law_sight ['kind', 'world', 'house', 't', 'row', 'name', 'k'] -/
def v47 : VDef := ⟨4, 3, [.ifs (.cmp .eq (.ix (.var 0) (.cst (.int 0))) (.cst (.str "web"))) [.asg 5 (.ix (.ix (.var 1) (.cst (.int 0))) (.var 2)),
    .ret (.ite (.cmp .gt (.var 3) (.cst (.int 0))) (.tup [.var 5, .call 46 [.ix (.var 1) (.cst (.int 1)), .var 5]]) (.tup [.var 5]))] [],
    .asg 4 (.bi .tupleOf [.comp (.ix (.var 1) (.bin .mod (.bin .add (.var 2) (.var 6)) (.bi .len [.var 1]))) (.name 6) .rng2 [.neg (.var 3), .bin .add (.var 3) (.cst (.int 1))] (.omit)]),
    .ret (.ite (.cmp .eq (.ix (.var 0) (.cst (.int 0))) (.cst (.str "order"))) (.call 45 [.var 4]) (.var 4))]⟩
/-- law ['script', 'k', 'feed', 'kind', 'world', 'web', 'many', 'turn', 'house', 't', 'due', 'turned'] -/
def v48_1 : List VT := [.asg 10 (.call 47 [.var 3, .var 4, .var 8, .var 9]),
    .ifs (.cmp .ne (.bi .repr [.call 44 [.var 3, .var 4, .var 8, .var 9]]) (.bi .repr [.var 10])) [.ret (.cst (.bl false))] [],
    .ifs (.not (.var 5)) [.asg 11 (.bin .add (.sl (.var 4) (.var 7) (.omit)) (.sl (.var 4) (.omit) (.var 7))),
    .ifs (.cmp .ne (.bi .repr [.call 44 [.var 3, .var 11, .bin .mod (.bin .sub (.var 8) (.var 7)) (.var 6), .var 9]]) (.bi .repr [.var 10])) [.ret (.cst (.bl false))] []] []]
def v48_2 : List VT := [.for_ (.name 9) .rng1 [.ite (.var 5) (.cst (.int 2)) (.bi .min2 [.cst (.int 3), .bin .add (.cst (.int 1)) (.bin .fdiv (.bin .sub (.var 6) (.cst (.int 1))) (.cst (.int 2)))])] v48_1]
def v48_3 : List VT := [.asg 2 (.call 10 [.var 0, .var 1]),
    .asg 3 (.call 36 [.var 2]),
    .asg 4 (.call 39 [.var 2, .var 3, .bin .add (.cst (.int 3)) (.call 11 [.var 2, .cst (.int 3)])]),
    .ifs (.cmp .notN (.var 4) (.cst .non)) [.asg 5 (.cmp .eq (.ix (.var 3) (.cst (.int 0))) (.cst (.str "web"))),
    .asg 6 (.ite (.var 5) (.bi .len [.ix (.var 4) (.cst (.int 0))]) (.bi .len [.var 4])),
    .asg 7 (.call 11 [.var 2, .var 6]),
    .for_ (.name 8) .rng1 [.var 6] v48_2] []]
def v48 : VDef := ⟨1, 11, [.for_ (.name 1) .rng1 [.cst (.int 6)] v48_3,
    .ret (.cst (.bl true))]⟩
/-- _law_rows_of ['letters', 'many', 'found', 'place', 'longer', 'row', 'letter'] -/
def v58_1 : List VT := [.exprM .extend 4 [.comp (.bin .add (.var 5) (.tup [.var 6])) (.name 6) .val [.var 0] (.cmp .nin (.var 6) (.var 5))]]
def v58_2 : List VT := [.asg 4 (.lst []),
    .frz 2,
    .for_ (.name 5) .val [.var 2] v58_1,
    .asgV 2 4]
def v58 : VDef := ⟨2, 5, [.asg 2 (.lst [.tup []]),
    .for_ (.name 3) .rng1 [.var 1] v58_2,
    .retV 2]⟩
/-- _law_wished ['wish', 'many', 'alive', 'wide', 'found', 'place', 'row', 'longer', 'k', 'other'] -/
def v59_1 : List VT := [.exprM .extend 4 [.comp (.sl (.var 6) (.var 8) (.bin .add (.var 8) (.var 1))) (.name 8) .rng1 [.bin .add (.bin .sub (.var 3) (.var 1)) (.cst (.int 1))] (.omit)]]
def v59_2 : List VT := [.exprM .extend 7 [.comp (.bin .add (.var 6) (.sl (.var 9) (.neg (.cst (.int 1))) (.omit))) (.name 9) .val [.var 2] (.cmp .eq (.sl (.var 9) (.omit) (.neg (.cst (.int 1)))) (.sl (.var 6) (.bin .sub (.cst (.int 1)) (.var 3)) (.omit)))]]
def v59_3 : List VT := [.asg 7 (.lst []),
    .frz 4,
    .for_ (.name 6) .val [.var 4] v59_2,
    .asgV 4 7]
def v59 : VDef := ⟨2, 8, [.asg 2 (.call 23 [.var 0]),
    .asg 3 (.ix (.var 0) (.cst (.int 1))),
    .ifs (.cmp .lt (.var 1) (.var 3)) [.asg 4 (.lst []),
    .frz 2,
    .for_ (.name 6) .val [.var 2] v59_1,
    .ret (.bi .sortSet [.var 4])] [],
    .asg 4 (.bi .listOf [.var 2]),
    .for_ (.name 5) .rng1 [.bin .sub (.var 1) (.var 3)] v59_3,
    .retV 4]⟩
/-- _law_stars ['kind', 'found', 'name', 'some', 'other', 'one'] -/
def v60_1 : List VT := [.ifs (.cmp .ne (.var 4) (.var 2)) [.asg 3 (.bin .add (.var 3) (.comp (.bin .add (.var 5) (.tup [.var 4])) (.name 5) .val [.var 3] (.cmp .lt (.bi .len [.var 5]) (.ix (.var 0) (.cst (.int 2))))))] []]
def v60_2 : List VT := [.asg 3 (.lst [.tup []]),
    .for_ (.name 4) .rng2 [.cst (.int 1), .bin .add (.ix (.var 0) (.cst (.int 1))) (.cst (.int 1))] v60_1,
    .exprM .extend 1 [.comp (.tup [.var 2, .var 5]) (.name 5) .val [.var 3] (.omit)]]
def v60 : VDef := ⟨1, 5, [.asg 1 (.lst []),
    .for_ (.name 2) .rng2 [.cst (.int 1), .bin .add (.ix (.var 0) (.cst (.int 1))) (.cst (.int 1))] v60_2,
    .ret (.bi .sorted [.var 1])]⟩
/-- _law_rows_seen ['kind', 'many'] -/
def v61 : VDef := ⟨2, 0, [.ifs (.cmp .eq (.ix (.var 0) (.cst (.int 0))) (.cst (.str "wish"))) [.ret (.call 59 [.ix (.var 0) (.cst (.int 1)), .var 1])] [],
    .ifs (.cmp .eq (.ix (.var 0) (.cst (.int 0))) (.cst (.str "order"))) [.ret (.call 58 [.bi .listRng1 [.var 1], .var 1])] [],
    .ret (.call 58 [.bi .listRng2 [.cst (.int 1), .bin .add (.ix (.var 0) (.cst (.int 1))) (.cst (.int 1))], .var 1])]⟩
/-- _law_sights ['kind', 't', 'name'] -/
def v62 : VDef := ⟨2, 1, [.ifs (.cmp .ne (.ix (.var 0) (.cst (.int 0))) (.cst (.str "web"))) [.ret (.call 61 [.var 0, .bin .add (.bin .mul (.cst (.int 2)) (.var 1)) (.cst (.int 1))])] [],
    .ret (.ite (.cmp .gt (.var 1) (.cst (.int 0))) (.call 60 [.var 0]) (.comp (.tup [.var 2]) (.name 2) .rng2 [.cst (.int 1), .bin .add (.ix (.var 0) (.cst (.int 1))) (.cst (.int 1))] (.omit)))]⟩
/-- spots ['kind', 'world', 'wish', 'names', 'links', 'one', 'other'] -/
def v72 : VDef := ⟨3, 4, [.ifs (.call 28 [.var 0]) [.asgT [3, 4] (.var 1),
    .ret (.comp (.tup [.mt .index (.var 3) [.var 5], .mt .index (.var 3) [.var 6]]) (.tup [5, 6]) .val [.var 4] (.omit))] [],
    .ret (.bi .listRng1 [.bi .len [.var 1]])]⟩
/-- is_wide ['kind', 'world', 'wish', 't'] -/
def v79 : VDef := ⟨4, 0, [.ret (.or (.call 28 [.var 0]) (.cmp .ge (.bi .len [.var 1]) (.bin .add (.bin .mul (.cst (.int 2)) (.var 3)) (.ix (.var 2) (.cst (.int 1))))))]⟩
/-- law ['script', 'k', 'feed', 'kind', 'world', 'web', 'wish', 'found', 't', 'due', 'one', 'other'] -/
def v80_1 : List VT := [.ifs (.cmp .ne (.bi .repr [.call 79 [.var 3, .var 4, .var 6, .var 8]]) (.bi .repr [.or (.var 5) (.cmp .ge (.bi .len [.var 4]) (.bin .add (.bin .mul (.cst (.int 2)) (.var 8)) (.ix (.var 6) (.cst (.int 1)))))])) [.ret (.cst (.bl false))] []]
def v80_2 : List VT := [.asg 2 (.call 10 [.var 0, .var 1]),
    .asg 3 (.call 36 [.var 2]),
    .asg 4 (.call 39 [.var 2, .var 3, .bin .add (.cst (.int 3)) (.call 11 [.var 2, .cst (.int 4)])]),
    .ifs (.cmp .notN (.var 4) (.cst .non)) [.asg 5 (.cmp .eq (.ix (.var 3) (.cst (.int 0))) (.cst (.str "web"))),
    .asg 6 (.tup [.cst (.int 2), .ite (.var 5) (.cst (.int 2)) (.bin .add (.cst (.int 2)) (.call 11 [.var 2, .cst (.int 2)])), .tup []]),
    .ifs (.var 5) [.asg 9 (.comp (.tup [.mt .index (.ix (.var 4) (.cst (.int 0))) [.var 10], .mt .index (.ix (.var 4) (.cst (.int 0))) [.var 11]]) (.tup [10, 11]) .val [.ix (.var 4) (.cst (.int 1))] (.omit))] [.asg 9 (.bi .listRng1 [.bi .len [.var 4]])],
    .asg 7 (.call 72 [.var 3, .var 4, .var 6]),
    .ifs (.cmp .ne (.bi .repr [.var 7]) (.bi .repr [.var 9])) [.ret (.cst (.bl false))] [],
    .exprM .append 7 [.cst (.int 0)],
    .ifs (.cmp .ne (.bi .repr [.call 72 [.var 3, .var 4, .var 6]]) (.bi .repr [.var 9])) [.ret (.cst (.bl false))] [],
    .for_ (.name 8) .rng1 [.ite (.var 5) (.cst (.int 2)) (.cst (.int 3))] v80_1] []]
def v80 : VDef := ⟨1, 11, [.for_ (.name 1) .rng1 [.cst (.int 6)] v80_2,
    .ret (.cst (.bl true))]⟩
/-- houses_at ['kind', 'world', 'wish', 'spot', 'place'] -/
def v93 : VDef := ⟨4, 1, [.ifs (.call 28 [.var 0]) [.ret (.bi .listOf [.var 3])] [],
    .ret (.comp (.bin .mod (.var 4) (.bi .len [.var 1])) (.name 4) .rng2 [.var 3, .bin .add (.var 3) (.ix (.var 2) (.cst (.int 1)))] (.omit))]⟩
/-- choices_at ['kind', 'world', 'wish', 'spot', 'choices', 'house'] -/
def v94 : VDef := ⟨5, 1, [.ret (.bi .tupleOf [.comp (.ix (.var 4) (.var 5)) (.name 5) .val [.call 93 [.var 0, .var 1, .var 2, .var 3]] (.omit)])]⟩
/-- broken ['kind', 'wish', 'world', 'choices', 'spot'] -/
def v95_1 : List VT := [.ifs (.cmp .nin (.call 94 [.var 0, .var 2, .var 1, .var 4, .var 3]) (.ix (.var 1) (.cst (.int 2)))) [.retV 4] []]
def v95 : VDef := ⟨4, 1, [.for_ (.name 4) .val [.call 72 [.var 0, .var 2, .var 1]] v95_1,
    .ret (.cst .non)]⟩
/-- _law_due ['kind', 'wish', 'world', 'choices', 'twice', 'spot', 'one', 'other', 'pair'] -/
def v96_1 : List VT := [.asg 8 (.tup [.mt .index (.ix (.var 2) (.cst (.int 0))) [.var 6], .mt .index (.ix (.var 2) (.cst (.int 0))) [.var 7]]),
    .ifs (.cmp .nin (.tup [.ix (.var 3) (.ix (.var 8) (.cst (.int 0))), .ix (.var 3) (.ix (.var 8) (.cst (.int 1)))]) (.ix (.var 1) (.cst (.int 2)))) [.retV 8] []]
def v96_2 : List VT := [.ifs (.cmp .nin (.sl (.var 4) (.var 5) (.bin .add (.var 5) (.ix (.var 1) (.cst (.int 1))))) (.ix (.var 1) (.cst (.int 2)))) [.retV 5] []]
def v96 : VDef := ⟨4, 5, [.ifs (.cmp .eq (.ix (.var 0) (.cst (.int 0))) (.cst (.str "web"))) [.for_ (.tup [6, 7]) .val [.ix (.var 2) (.cst (.int 1))] v96_1,
    .ret (.cst .non)] [],
    .asg 4 (.bin .mul (.var 3) (.cst (.int 2))),
    .for_ (.name 5) .rng1 [.bi .len [.var 2]] v96_2,
    .ret (.cst .non)]⟩
/-- _law_choices ['feed', 'wish', 'many', 'choices', 'k', 'some', 'row'] -/
def v97_1 : List VT := [.asg 5 (.comp (.ix (.var 6) (.neg (.cst (.int 1)))) (.name 6) .val [.ix (.var 1) (.cst (.int 2))] (.cmp .eq (.bi .listOf [.sl (.var 6) (.omit) (.neg (.cst (.int 1)))]) (.sl (.var 3) (.bin .sub (.cst (.int 1)) (.ix (.var 1) (.cst (.int 1)))) (.omit)))),
    .exprM .append 3 [.ix (.bin .add (.var 5) (.lst [.cst (.int 0)])) (.call 11 [.var 0, .bi .max2 [.cst (.int 1), .bi .len [.var 5]]])]]
def v97 : VDef := ⟨3, 4, [.asg 3 (.comp (.call 11 [.var 0, .ix (.var 1) (.cst (.int 0))]) (.name 4) .rng1 [.var 2] (.omit)),
    .ifs (.and (.cmp .ne (.ix (.var 1) (.cst (.int 2))) (.tup [])) (.cmp .gt (.call 11 [.var 0, .cst (.int 3)]) (.cst (.int 0)))) [.asg 3 (.bi .listOf [.ix (.ix (.var 1) (.cst (.int 2))) (.call 11 [.var 0, .bi .len [.ix (.var 1) (.cst (.int 2))]])]),
    .while_ (.cmp .lt (.bi .len [.var 3]) (.var 2)) v97_1] [],
    .ret (.bi .tupleOf [.sl (.var 3) (.omit) (.var 2)])]⟩
/-- _law_long_right ['script', 'feed', 'many', 'at', 'choices', 'found', 'world', 'wish', 'house'] -/
def v98 : VDef := ⟨1, 8, [.asg 1 (.call 10 [.var 0, .cst (.int 6)]),
    .asg 2 (.bin .add (.cst (.int 21)) (.call 11 [.var 1, .cst (.int 20)])),
    .par 6 7 (.bi .tupRngD [.var 2, .cst (.int 0)]) (.tup [.cst (.int 2), .cst (.int 2), .tup [.tup [.cst (.int 0), .cst (.int 0)], .tup [.cst (.int 0), .cst (.int 1)], .tup [.cst (.int 1), .cst (.int 0)]]]),
    .asg 3 (.ix (.lst [.bin .sub (.var 2) (.cst (.int 1)), .call 11 [.var 1, .var 2]]) (.call 11 [.var 1, .cst (.int 2)])),
    .asg 4 (.bi .tupleOf [.comp (.bi .intOf [.cmp .inn (.var 8) (.tup [.var 3, .bin .mod (.bin .add (.var 3) (.cst (.int 1))) (.var 2)])]) (.name 8) .rng1 [.var 2] (.omit)]),
    .asg 5 (.lst [.call 95 [.tup [.cst (.str "order")], .var 7, .var 6, .var 4], .call 95 [.tup [.cst (.str "order")], .var 7, .var 6, .bin .mul (.tup [.cst (.int 0)]) (.var 2)]]),
    .ret (.cmp .eq (.bi .repr [.var 5]) (.bi .repr [.lst [.var 3, .cst .non]]))]⟩
/-- law ['script', 'k', 'feed', 'kind', 'world', 'wish', 'some', 'many', 'j', 'choices', 'kept', 'found', 'due', 'row'] -/
def v99_1 : List VT := [.asg 9 (.call 97 [.var 2, .var 5, .var 7]),
    .asg 10 (.bi .repr [.lst [.var 5, .var 4, .var 9]]),
    .asg 11 (.call 95 [.var 3, .var 5, .var 4, .var 9]),
    .asg 12 (.call 96 [.var 3, .var 5, .var 4, .var 9]),
    .ifs (.or (.cmp .ne (.bi .repr [.var 11]) (.bi .repr [.var 12])) (.cmp .ne (.bi .repr [.lst [.var 5, .var 4, .var 9]]) (.var 10))) [.ret (.cst (.bl false))] []]
def v99_2 : List VT := [.asg 2 (.call 10 [.var 0, .var 1]),
    .asg 3 (.call 36 [.var 2]),
    .asg 4 (.call 39 [.var 2, .var 3, .cst (.int 3)]),
    .asg 5 (.call 13 [.var 2, .cst (.int 4)]),
    .ifs (.cmp .eq (.ix (.var 3) (.cst (.int 0))) (.cst (.str "web"))) [.asg 6 (.comp (.var 13) (.name 13) .val [.call 12 [.ix (.var 5) (.cst (.int 0)), .cst (.int 2)]] (.cmp .le (.ix (.var 13) (.cst (.int 0))) (.ix (.var 13) (.cst (.int 1))))),
    .asg 6 (.comp (.var 13) (.name 13) .val [.var 6] (.cmp .gt (.call 11 [.var 2, .cst (.int 3)]) (.cst (.int 0)))),
    .asg 5 (.tup [.ix (.var 5) (.cst (.int 0)), .cst (.int 2), .bi .tupleOf [.bi .sortSet [.bin .add (.var 6) (.comp (.slS (.var 13) (.omit) (.omit) (-1)) (.name 13) .val [.var 6] (.omit))]]])] [],
    .ifs (.cmp .notN (.var 4) (.cst .non)) [.asg 7 (.ite (.cmp .eq (.ix (.var 3) (.cst (.int 0))) (.cst (.str "web"))) (.bi .len [.ix (.var 4) (.cst (.int 0))]) (.bi .len [.var 4])),
    .for_ (.name 8) .rng1 [.cst (.int 5)] v99_1] []]
def v99 : VDef := ⟨1, 13, [.for_ (.name 1) .rng1 [.cst (.int 6)] v99_2,
    .ret (.call 98 [.var 0])]⟩
/-- steps_of ['plan', 'deed'] -/
def v253 : VDef := ⟨1, 1, [.ret (.bi .len [.comp (.var 1) (.name 1) .val [.var 0] (.cmp .inn (.ix (.var 1) (.cst (.int 0))) (.cst (.tupN [.str "peak", .str "low", .str "free", .str "back", .str "bits"])))])]⟩
/-- _law_number ['feed', 'some'] -/
def v257 : VDef := ⟨1, 1, [.asg 1 (.lst [.cst (.int 0), .cst (.int 1), .cst (.int 2), .cst (.int 3), .cst (.int 4), .cst (.int 5), .call 11 [.var 0, .cst (.int 9)], .call 11 [.var 0, .cst (.int 1000)], .cst (.int 999)]),
    .ret (.ix (.var 1) (.call 11 [.var 0, .cst (.int 9)]))]⟩
/-- _law_deed ['feed', 'kind', 'looks', 'few', 'pairs', 'word', 'numbers', 'one'] -/
def v258 : VDef := ⟨3, 5, [.ifs (.var 2) [.asg 5 (.ix (.lst [.cst (.str "peak"), .cst (.str "low"), .cst (.str "free"), .cst (.str "bits"), .cst (.str "back")]) (.call 11 [.var 0, .bin .add (.cst (.int 3)) (.bin .mul (.cst (.int 2)) (.bi .intOf [.cmp .ne (.ix (.var 1) (.cst (.int 0))) (.cst (.str "web"))]))])),
    .asg 6 (.tup [.call 257 [.var 0], .call 257 [.var 0], .call 257 [.var 0]]),
    .ret (.bin .add (.tup [.var 5]) (.sl (.var 6) (.omit) (.pick [("free", 1), ("bits", 0), ("back", 0)] (.var 5) (.cst (.int 2)))))] [],
    .ifs (.cmp .eq (.call 11 [.var 0, .cst (.int 3)]) (.cst (.int 0))) [.ret (.tup [.cst (.str "rest"), .ix (.lst [.cst (.int 1), .cst (.int 2), .cst (.int 3), .cst (.int 4), .cst (.int 5), .cst (.int 99), .bin .add (.cst (.int 1)) (.call 11 [.var 0, .cst (.int 99)])]) (.call 11 [.var 0, .cst (.int 7)])])] [],
    .asg 3 (.call 11 [.var 0, .cst (.int 3)]),
    .asg 4 (.comp (.tup [.var 7, .call 257 [.var 0]]) (.name 7) .rng1 [.cst (.int 10)] (.cmp .le (.call 11 [.var 0, .cst (.int 3)]) (.var 3))),
    .ifs (.cmp .eq (.call 11 [.var 0, .cst (.int 2)]) (.cst (.int 0))) [.exprM .reverse 4 []] [],
    .ret (.tup [.cst (.str "map"), .bi .tupleOf [.var 4], .ix (.lst [.cst .non, .call 257 [.var 0]]) (.call 11 [.var 0, .cst (.int 2)])])]⟩
/-- _law_plan ['feed', 'kind', 'looks', 'plan', 'k', 'may'] -/
def v259_1 : List VT := [.asg 5 (.and (.cmp .gt (.var 2) (.cst (.int 0))) (.cmp .gt (.call 11 [.var 0, .cst (.int 3)]) (.cst (.int 0)))),
    .exprM .append 3 [.call 258 [.var 0, .var 1, .var 5]],
    .asg 2 (.bin .sub (.var 2) (.bi .intOf [.var 5]))]
def v259 : VDef := ⟨2, 4, [.asg 2 (.call 11 [.var 0, .bin .add (.cst (.int 2)) (.bi .intOf [.cmp .ne (.ix (.var 1) (.cst (.int 0))) (.cst (.str "web"))])]),
    .asg 3 (.lst []),
    .for_ (.name 4) .rng1 [.call 11 [.var 0, .cst (.int 7)]] v259_1,
    .ret (.bi .tupleOf [.var 3])]⟩
/-- _law_steps ['plan', 'deed'] -/
def v260 : VDef := ⟨1, 1, [.ret (.bi .len [.comp (.var 1) (.name 1) .val [.var 0] (.cmp .nin (.ix (.var 1) (.cst (.int 0))) (.tup [.cst (.str "map"), .cst (.str "rest")]))])]⟩
/-- least_free ['taken', 'number'] -/
def v266_1 : List VT := [.asg 1 (.bin .add (.var 1) (.cst (.int 1)))]
def v266 : VDef := ⟨1, 1, [.asg 1 (.cst (.int 0)),
    .while_ (.cmp .inn (.var 1) (.var 0)) v266_1,
    .retV 1]⟩
/-- by_bits ['own', 'other', 'place'] -/
def v267_1 : List VT := [.asg 2 (.bin .add (.var 2) (.cst (.int 1)))]
def v267 : VDef := ⟨2, 1, [.ifs (.cmp .eq (.var 0) (.var 1)) [.retV 0] [],
    .asg 2 (.cst (.int 0)),
    .while_ (.cmp .eq (.bin .band (.bin .shr (.var 0) (.var 2)) (.cst (.int 1))) (.bin .band (.bin .shr (.var 1) (.var 2)) (.cst (.int 1)))) v267_1,
    .ret (.bin .add (.bin .mul (.cst (.int 2)) (.var 2)) (.bin .band (.bin .shr (.var 0) (.var 2)) (.cst (.int 1))))]⟩
/-- by_map ['deed', 'own', 'one', 'other'] -/
def v268_1 : List VT := [.ifs (.cmp .eq (.var 2) (.var 1)) [.retV 3] []]
def v268 : VDef := ⟨2, 2, [.for_ (.tup [2, 3]) .val [.ix (.var 0) (.cst (.int 1))] v268_1,
    .ret (.ite (.cmp .isN (.ix (.var 0) (.cst (.int 2))) (.cst .non)) (.var 1) (.ix (.var 0) (.cst (.int 2))))]⟩
/-- behind_deed ['deed', 'own', 'near', 'word', 'one'] -/
def v269 : VDef := ⟨3, 2, [.asg 3 (.ix (.var 0) (.cst (.int 0))),
    .ifs (.cmp .eq (.var 3) (.cst (.str "peak"))) [.ret (.ite (.bi .all [.comp (.cmp .gt (.var 1) (.var 4)) (.name 4) .val [.var 2] (.omit)]) (.ix (.var 0) (.cst (.int 1))) (.ix (.var 0) (.cst (.int 2))))] [],
    .ifs (.cmp .eq (.var 3) (.cst (.str "low"))) [.ret (.ite (.bi .all [.comp (.cmp .lt (.var 1) (.var 4)) (.name 4) .val [.var 2] (.omit)]) (.ix (.var 0) (.cst (.int 1))) (.ix (.var 0) (.cst (.int 2))))] [],
    .ifs (.cmp .eq (.var 3) (.cst (.str "free"))) [.ret (.ite (.cmp .eq (.var 1) (.ix (.var 0) (.cst (.int 1)))) (.call 266 [.var 2]) (.var 1))] [],
    .ifs (.cmp .eq (.var 3) (.cst (.str "back"))) [.ret (.ix (.var 2) (.cst (.int 0)))] [],
    .ifs (.cmp .eq (.var 3) (.cst (.str "bits"))) [.ret (.call 267 [.var 1, .ix (.var 2) (.cst (.int 1))])] [],
    .ifs (.cmp .eq (.var 3) (.cst (.str "rest"))) [.ret (.bin .mod (.var 1) (.ix (.var 0) (.cst (.int 1))))] [],
    .ret (.call 268 [.var 0, .var 1])]⟩
/-- houses_beside ['kind', 'world', 'house', 'names', 'links', 'name'] -/
def v270 : VDef := ⟨3, 3, [.ifs (.not (.call 28 [.var 0])) [.ret (.lst [.bin .mod (.bin .sub (.var 2) (.cst (.int 1))) (.bi .len [.var 1]), .bin .mod (.bin .add (.var 2) (.cst (.int 1))) (.bi .len [.var 1])])] [],
    .asgT [3, 4] (.var 1),
    .ret (.comp (.mt .index (.var 3) [.var 5]) (.name 5) .val [.call 31 [.var 4, .ix (.var 3) (.var 2)]] (.omit))]⟩
/-- values_at ['now', 'houses', 'house'] -/
def v271 : VDef := ⟨2, 1, [.ret (.comp (.ix (.var 0) (.var 2)) (.name 2) .val [.var 1] (.omit))]⟩
/-- values ['kind', 'plan', 'world', 'now', 'near', 'deed', 'house', 'own', 'houses'] -/
def v272_1 : List VT := [.frz 3,
    .asg 3 (.comp (.call 269 [.var 5, .var 7, .call 271 [.var 3, .var 8]]) (.tup [7, 8]) .zip [.var 3, .var 4] (.omit))]
def v272 : VDef := ⟨3, 6, [.asg 3 (.ite (.call 28 [.var 0]) (.bi .listOf [.ix (.var 2) (.cst (.int 0))]) (.bi .listOf [.var 2])),
    .asg 4 (.comp (.call 270 [.var 0, .var 2, .var 6]) (.name 6) .rng1 [.bi .len [.var 3]] (.omit)),
    .for_ (.name 5) .val [.var 1] v272_1,
    .ret (.bi .tupleOf [.var 3])]⟩
/-- _law_least ['near', 'number'] -/
def v273 : VDef := ⟨1, 1, [.ret (.bi .min1 [.comp (.var 1) (.name 1) .rng1 [.bin .add (.bi .len [.var 0]) (.cst (.int 1))] (.cmp .nin (.var 1) (.var 0))])]⟩
/-- _law_bits ['own', 'other', 'place', 'apart'] -/
def v274_1 : List VT := [.asg 3 (.bin .fdiv (.var 3) (.cst (.int 2))),
    .asg 2 (.bin .add (.var 2) (.cst (.int 1)))]
def v274 : VDef := ⟨2, 2, [.asg 2 (.cst (.int 0)),
    .asg 3 (.bin .bxor (.var 0) (.var 1)),
    .while_ (.and (.cmp .gt (.var 3) (.cst (.int 0))) (.cmp .eq (.bin .mod (.var 3) (.cst (.int 2))) (.cst (.int 0)))) v274_1,
    .ret (.ite (.cmp .eq (.var 3) (.cst (.int 0))) (.var 0) (.bin .add (.bin .mul (.cst (.int 2)) (.var 2)) (.bin .mod (.bin .shr (.var 0) (.var 2)) (.cst (.int 2)))))]⟩
/-- _law_new ['deed', 'own', 'near', 'word', 'found', 'pair', 'one'] -/
def v275 : VDef := ⟨3, 4, [.asg 3 (.ix (.var 0) (.cst (.int 0))),
    .ifs (.cmp .eq (.var 3) (.cst (.str "peak"))) [.ret (.ix (.var 0) (.bin .add (.cst (.int 1)) (.bi .intOf [.cmp .ne (.comp (.var 6) (.name 6) .val [.var 2] (.cmp .ge (.var 6) (.var 1))) (.lst [])])))] [],
    .ifs (.cmp .eq (.var 3) (.cst (.str "low"))) [.ret (.ix (.var 0) (.bin .add (.cst (.int 1)) (.bi .intOf [.cmp .ne (.comp (.var 6) (.name 6) .val [.var 2] (.cmp .le (.var 6) (.var 1))) (.lst [])])))] [],
    .ifs (.cmp .eq (.var 3) (.cst (.str "free"))) [.ret (.ite (.cmp .eq (.var 1) (.ix (.var 0) (.cst (.int 1)))) (.call 273 [.var 2]) (.var 1))] [],
    .ifs (.cmp .eq (.var 3) (.cst (.str "back"))) [.ret (.ix (.var 2) (.cst (.int 0)))] [],
    .ifs (.cmp .eq (.var 3) (.cst (.str "bits"))) [.ret (.call 274 [.var 1, .ix (.var 2) (.cst (.int 1))])] [],
    .ifs (.cmp .eq (.var 3) (.cst (.str "rest"))) [.ret (.bin .mod (.var 1) (.ix (.var 0) (.cst (.int 1))))] [],
    .asg 4 (.comp (.ix (.var 5) (.cst (.int 1))) (.name 5) .val [.ix (.var 0) (.cst (.int 1))] (.cmp .eq (.ix (.var 5) (.cst (.int 0))) (.var 1))),
    .ret (.ix (.bin .add (.var 4) (.lst [.ite (.cmp .isN (.ix (.var 0) (.cst (.int 2))) (.cst .non)) (.var 1) (.ix (.var 0) (.cst (.int 2)))])) (.cst (.int 0)))]⟩
/-- _law_near ['kind', 'world', 'house', 'name'] -/
def v276 : VDef := ⟨3, 1, [.ifs (.cmp .ne (.ix (.var 0) (.cst (.int 0))) (.cst (.str "web"))) [.ret (.lst [.bin .mod (.bin .sub (.bin .add (.var 2) (.bi .len [.var 1])) (.cst (.int 1))) (.bi .len [.var 1]), .bin .mod (.bin .add (.var 2) (.cst (.int 1))) (.bi .len [.var 1])])] [],
    .ret (.comp (.mt .index (.ix (.var 1) (.cst (.int 0))) [.var 3]) (.name 3) .val [.call 46 [.ix (.var 1) (.cst (.int 1)), .ix (.ix (.var 1) (.cst (.int 0))) (.var 2)]] (.omit))]⟩
/-- _law_values ['kind', 'plan', 'world', 'now', 'deed', 'later', 'house', 'near', 'other'] -/
def v277_1 : List VT := [.asg 7 (.comp (.ix (.var 3) (.var 8)) (.name 8) .val [.call 276 [.var 0, .var 2, .var 6]] (.omit)),
    .frz 7,
    .exprM .append 5 [.call 275 [.var 4, .ix (.var 3) (.var 6), .var 7]]]
def v277_2 : List VT := [.asg 5 (.lst []),
    .for_ (.name 6) .rng1 [.bi .len [.var 3]] v277_1,
    .asgV 3 5]
def v277 : VDef := ⟨3, 6, [.asg 3 (.ite (.cmp .eq (.ix (.var 0) (.cst (.int 0))) (.cst (.str "web"))) (.bi .listOf [.ix (.var 2) (.cst (.int 0))]) (.bi .listOf [.var 2])),
    .for_ (.name 4) .val [.var 1] v277_2,
    .ret (.bi .tupleOf [.var 3])]⟩
/-- _law_right ['kind', 'plan', 'ring', 'turn', 'due', 'kept'] -/
def v278 : VDef := ⟨4, 2, [.asg 4 (.call 277 [.var 0, .var 1, .var 2]),
    .asg 5 (.bi .repr [.lst [.var 1, .var 2]]),
    .ifs (.or (.cmp .ne (.bi .repr [.call 272 [.var 0, .var 1, .var 2]]) (.bi .repr [.var 4])) (.cmp .ne (.bi .repr [.lst [.var 1, .var 2]]) (.var 5))) [.ret (.cst (.bl false))] [],
    .ifs (.cmp .ne (.bi .repr [.call 253 [.var 1]]) (.bi .repr [.call 260 [.var 1]])) [.ret (.cst (.bl false))] [],
    .ret (.cmp .eq (.bi .repr [.call 272 [.var 0, .var 1, .bin .add (.sl (.var 2) (.var 3) (.omit)) (.sl (.var 2) (.omit) (.var 3))]]) (.bi .repr [.bin .add (.sl (.var 4) (.var 3) (.omit)) (.sl (.var 4) (.omit) (.var 3))]))]⟩
/-- _law_long_right ['script', 'feed', 'kind', 'plan', 'ring', 'house'] -/
def v279 : VDef := ⟨1, 5, [.asg 1 (.call 10 [.var 0, .cst (.int 8)]),
    .asg 2 (.tup [.cst (.str "wish"), .tup [.cst (.int 4), .cst (.int 2), .bi .tupleOf [.call 12 [.cst (.int 4), .cst (.int 2)]]]]),
    .asg 3 (.call 259 [.var 1, .var 2]),
    .asg 4 (.bi .tupleOf [.comp (.call 11 [.var 1, .cst (.int 4)]) (.name 5) .rng1 [.bin .add (.cst (.int 21)) (.call 11 [.var 1, .cst (.int 20)])] (.omit)]),
    .ret (.call 278 [.var 2, .var 3, .var 4, .call 11 [.var 1, .bi .len [.var 4]]])]⟩
/-- law ['script', 'k', 'feed', 'kind', 'ring', 'plans', 'plan'] -/
def v280_1 : List VT := [.ifs (.not (.call 278 [.var 3, .var 6, .var 4, .call 11 [.var 2, .bi .len [.var 4]]])) [.ret (.cst (.bl false))] []]
def v280_2 : List VT := [.asg 2 (.call 10 [.var 0, .var 1]),
    .asg 3 (.call 36 [.var 2]),
    .ifs (.cmp .nin (.ix (.var 3) (.cst (.int 0))) (.tup [.cst (.str "names"), .cst (.str "wish")])) [.asg 3 (.tup [.cst (.str "wish"), .tup [.cst (.int 4), .cst (.int 2), .bi .tupleOf [.call 12 [.cst (.int 4), .cst (.int 2)]]]])] [],
    .asgO 4 (.call 39 [.var 2, .var 3, .bin .add (.cst (.int 3)) (.call 11 [.var 2, .cst (.int 6)])]) (.call 39 [.var 2, .var 3, .cst (.int 3)]),
    .ifs (.cmp .notN (.var 4) (.cst .non)) [.asg 5 (.lst [.call 259 [.var 2, .var 3], .call 259 [.var 2, .var 3]]),
    .for_ (.name 6) .val [.bin .add (.var 5) (.sl (.var 5) (.omit) (.cst (.int 1)))] v280_1] []]
def v280 : VDef := ⟨1, 6, [.for_ (.name 1) .rng1 [.cst (.int 8)] v280_2,
    .ret (.call 279 [.var 0])]⟩
/-- _law_pairs_beside ['kind', 'world', 'house', 'one', 'other'] -/
def v284 : VDef := ⟨2, 3, [.ifs (.cmp .eq (.ix (.var 0) (.cst (.int 0))) (.cst (.str "web"))) [.ret (.comp (.tup [.mt .index (.ix (.var 1) (.cst (.int 0))) [.var 3], .mt .index (.ix (.var 1) (.cst (.int 0))) [.var 4]]) (.tup [3, 4]) .val [.ix (.var 1) (.cst (.int 1))] (.omit))] [],
    .ret (.comp (.tup [.var 2, .bin .mod (.bin .add (.var 2) (.cst (.int 1))) (.bi .len [.var 1])]) (.name 2) .rng1 [.bi .len [.var 1]] (.omit))]⟩
/-- _law_spread ['feed', 'letter'] -/
def v285 : VDef := ⟨1, 1, [.ret (.tup [.cst (.str "map"), .bi .tupleOf [.comp (.tup [.var 1, .bin .add (.bin .mul (.cst (.int 10)) (.call 11 [.var 0, .cst (.int 99)])) (.var 1)]) (.name 1) .rng1 [.cst (.int 8)] (.omit)], .cst .non])]⟩
/-- _law_plans ['feed', 'kind', 'spread', 'freed', 'plans'] -/
def v286 : VDef := ⟨3, 2, [.asg 3 (.lst [.tup [.cst (.str "free"), .ix (.ix (.ix (.var 2) (.cst (.int 1))) (.call 11 [.var 0, .cst (.int 8)])) (.cst (.int 1))], .tup [.cst (.str "free"), .call 11 [.var 0, .cst (.int 20)]]]),
    .asg 4 (.lst [.tup [.var 2], .tup [.var 2, .ix (.var 3) (.cst (.int 0))], .tup [.ix (.var 3) (.cst (.int 1)), .var 2]]),
    .ifs (.cmp .eq (.ix (.var 1) (.cst (.int 0))) (.cst (.str "web"))) [.retV 4] [],
    .asg 4 (.bin .add (.var 4) (.lst [.tup [.var 2, .tup [.cst (.str "bits")]], .tup [.var 2, .tup [.cst (.str "bits")], .tup [.cst (.str "bits")]], .tup [.var 2, .tup [.cst (.str "bits")], .ix (.var 3) (.cst (.int 1))]])),
    .ret (.bin .add (.var 4) (.lst [.tup [.var 2, .ix (.var 3) (.cst (.int 0)), .tup [.cst (.str "bits")]], .tup [.tup [.cst (.str "bits")], .var 2, .tup [.cst (.str "bits")]], .tup [.tup [.cst (.str "bits")], .tup [.cst (.str "bits")]]]))]⟩
/-- _law_right ['kind', 'plan', 'world', 'found', 'one', 'other'] -/
def v287 : VDef := ⟨3, 3, [.asg 3 (.call 272 [.var 0, .var 1, .var 2]),
    .ifs (.cmp .inn (.cst (.bl true)) (.comp (.cmp .eq (.ix (.var 3) (.var 4)) (.ix (.var 3) (.var 5))) (.tup [4, 5]) .val [.call 284 [.var 0, .var 2]] (.omit))) [.ret (.cst (.bl false))] [],
    .ifs (.cmp .ne (.ix (.var 1) (.neg (.cst (.int 1)))) (.tup [.cst (.str "bits")])) [.ret (.cst (.bl true))] [],
    .ret (.cmp .le (.bi .max1 [.var 3]) (.ix (.lst [.cst (.int 19), .cst (.int 9)]) (.bi .intOf [.cmp .eq (.ix (.var 1) (.neg (.cst (.int 2)))) (.tup [.cst (.str "bits")])])))]⟩
/-- law ['script', 'k', 'feed', 'hues', 'unlike_ones', 'some', 'kind', 'world', 'plan', 'row'] -/
def v288_1 : List VT := [.ifs (.not (.call 287 [.var 6, .var 8, .var 7])) [.ret (.cst (.bl false))] []]
def v288_2 : List VT := [.asgO 7 (.call 39 [.var 2, .var 6, .bin .add (.cst (.int 3)) (.call 11 [.var 2, .cst (.int 4)])]) (.call 39 [.var 2, .var 6, .cst (.int 3)]),
    .for_ (.name 8) .val [.call 286 [.var 2, .var 6, .call 285 [.var 2]]] v288_1]
def v288_3 : List VT := [.asg 2 (.call 10 [.var 0, .var 1]),
    .asg 3 (.bin .add (.cst (.int 3)) (.call 11 [.var 2, .cst (.int 2)])),
    .asg 4 (.comp (.var 9) (.name 9) .val [.call 12 [.var 3, .cst (.int 2)]] (.cmp .ne (.ix (.var 9) (.cst (.int 0))) (.ix (.var 9) (.cst (.int 1))))),
    .asg 5 (.lst [.tup [.cst (.str "names"), .bin .add (.cst (.int 3)) (.call 11 [.var 2, .cst (.int 5)])], .tup [.cst (.str "wish"), .tup [.var 3, .cst (.int 2), .bi .tupleOf [.var 4]]]]),
    .exprM .append 5 [.tup [.cst (.str "web"), .bin .add (.cst (.int 2)) (.call 11 [.var 2, .cst (.int 4)]), .bin .add (.cst (.int 1)) (.call 11 [.var 2, .cst (.int 3)])]],
    .frz 5,
    .for_ (.name 6) .val [.var 5] v288_2]
def v288 : VDef := ⟨1, 9, [.for_ (.name 1) .rng1 [.cst (.int 6)] v288_3,
    .ret (.cst (.bl true))]⟩
/-- row_behind ['deed', 'row', 'k', 'own'] -/
def v289 : VDef := ⟨2, 2, [.ifs (.cmp .nin (.ix (.var 0) (.cst (.int 0))) (.cst (.tupN [.str "peak", .str "low", .str "free", .str "back", .str "bits"]))) [.ret (.comp (.call 269 [.var 0, .var 3, .lst []]) (.name 3) .val [.var 1] (.omit))] [],
    .ret (.comp (.call 269 [.var 0, .ix (.var 1) (.var 2), .lst [.ix (.var 1) (.bin .sub (.var 2) (.cst (.int 1))), .ix (.var 1) (.bin .add (.var 2) (.cst (.int 1)))]]) (.name 2) .rng2 [.cst (.int 1), .bin .sub (.bi .len [.var 1]) (.cst (.int 1))] (.omit))]⟩
/-- value_in_web ['plan', 'sight', 'own', 'near', 'deed', 'one'] -/
def v290_1 : List VT := [.frz 3,
    .asg 2 (.call 269 [.var 4, .var 2, .var 3]),
    .ifs (.cmp .nin (.ix (.var 4) (.cst (.int 0))) (.cst (.tupN [.str "peak", .str "low", .str "free", .str "back", .str "bits"]))) [.asg 3 (.comp (.call 269 [.var 4, .var 5, .lst []]) (.name 5) .val [.var 3] (.omit))] []]
def v290 : VDef := ⟨2, 4, [.asg 2 (.ix (.var 1) (.cst (.int 0))),
    .asg 3 (.ite (.cmp .gt (.bi .len [.var 1]) (.cst (.int 1))) (.bi .listOf [.ix (.var 1) (.cst (.int 1))]) (.lst [])),
    .for_ (.name 4) .val [.var 0] v290_1,
    .retV 2]⟩
/-- value_of ['kind', 'plan', 'sight', 'row', 'deed'] -/
def v291_1 : List VT := [.frz 3,
    .asg 3 (.call 289 [.var 4, .var 3])]
def v291 : VDef := ⟨3, 2, [.ifs (.call 28 [.var 0]) [.ret (.call 290 [.var 1, .var 2])] [],
    .asg 3 (.bi .listOf [.var 2]),
    .for_ (.name 4) .val [.var 1] v291_1,
    .ret (.ix (.var 3) (.cst (.int 0)))]⟩
/-- _law_at ['plan', 'row', 'many', 'place', 'deed', 'near'] -/
def v292 : VDef := ⟨4, 2, [.ifs (.cmp .eq (.var 2) (.cst (.int 0))) [.ret (.ix (.var 1) (.var 3))] [],
    .asg 4 (.ix (.var 0) (.bin .sub (.var 2) (.cst (.int 1)))),
    .asg 5 (.lst []),
    .ifs (.cmp .nin (.ix (.var 4) (.cst (.int 0))) (.tup [.cst (.str "map"), .cst (.str "rest")])) [.asg 5 (.lst [.call 292 [.var 0, .var 1, .bin .sub (.var 2) (.cst (.int 1)), .bin .sub (.var 3) (.cst (.int 1))], .call 292 [.var 0, .var 1, .bin .sub (.var 2) (.cst (.int 1)), .bin .add (.var 3) (.cst (.int 1))]])] [],
    .frz 5,
    .ret (.call 275 [.var 4, .call 292 [.var 0, .var 1, .bin .sub (.var 2) (.cst (.int 1)), .var 3], .var 5])]⟩
/-- _law_blind ['plan', 'own', 'deed'] -/
def v293_1 : List VT := [.asg 1 (.ite (.cmp .inn (.ix (.var 2) (.cst (.int 0))) (.tup [.cst (.str "map"), .cst (.str "rest")])) (.call 275 [.var 2, .var 1, .lst []]) (.var 1))]
def v293 : VDef := ⟨2, 1, [.for_ (.name 2) .val [.var 0] v293_1,
    .retV 1]⟩
/-- _law_value ['kind', 'plan', 'sight', 'own', 'k', 'near', 'name'] -/
def v294_1 : List VT := [.asg 5 (.lst []),
    .ifs (.cmp .nin (.ix (.ix (.var 1) (.var 4)) (.cst (.int 0))) (.tup [.cst (.str "map"), .cst (.str "rest")])) [.asg 5 (.comp (.call 293 [.sl (.var 1) (.omit) (.var 4), .var 6]) (.name 6) .val [.ix (.var 2) (.cst (.int 1))] (.omit))] [],
    .frz 5,
    .asg 3 (.call 275 [.ix (.var 1) (.var 4), .var 3, .var 5])]
def v294 : VDef := ⟨3, 4, [.ifs (.cmp .ne (.ix (.var 0) (.cst (.int 0))) (.cst (.str "web"))) [.ret (.call 292 [.var 1, .var 2, .bi .len [.var 1], .call 260 [.var 1]])] [],
    .asg 3 (.ix (.var 2) (.cst (.int 0))),
    .for_ (.name 4) .rng1 [.bi .len [.var 1]] v294_1,
    .retV 3]⟩
/-- _law_some ['feed', 'kind', 't', 'world', 'seen', 'k'] -/
def v295 : VDef := ⟨3, 3, [.ifs (.cmp .eq (.ix (.var 1) (.cst (.int 0))) (.cst (.str "web"))) [.asg 4 (.call 62 [.var 1, .var 2]),
    .ret (.comp (.ix (.var 4) (.call 11 [.var 0, .bi .len [.var 4]])) (.name 5) .rng1 [.cst (.int 6)] (.omit))] [],
    .asgO 3 (.call 39 [.var 0, .var 1, .bin .add (.bin .add (.bin .mul (.cst (.int 2)) (.var 2)) (.cst (.int 1))) (.call 11 [.var 0, .cst (.int 3)])]) (.call 39 [.var 0, .var 1, .bin .add (.bin .mul (.cst (.int 2)) (.var 2)) (.cst (.int 1))]),
    .ifs (.cmp .isN (.var 3) (.cst .non)) [.ret (.lst [])] [],
    .ret (.comp (.call 47 [.var 1, .var 3, .call 11 [.var 0, .bi .len [.var 3]], .var 2]) (.name 5) .rng1 [.cst (.int 6)] (.omit))]⟩
/-- law ['script', 'k', 'feed', 'kind', 'plans', 'seen', 'j', 'plan', 'sight', 'kept', 'found'] -/
def v296_1 : List VT := [.asg 7 (.ix (.var 4) (.bin .mod (.var 6) (.cst (.int 2)))),
    .ifs (.cmp .ne (.ix (.var 5) (.bin .mod (.var 6) (.cst (.int 2)))) (.lst [])) [.asg 8 (.ix (.ix (.var 5) (.bin .mod (.var 6) (.cst (.int 2)))) (.bin .fdiv (.var 6) (.cst (.int 2)))),
    .asg 9 (.bi .repr [.lst [.var 7, .var 8]]),
    .asg 10 (.call 291 [.var 3, .var 7, .var 8]),
    .ifs (.or (.cmp .ne (.bi .repr [.var 10]) (.bi .repr [.call 294 [.var 3, .var 7, .var 8]])) (.cmp .ne (.bi .repr [.lst [.var 7, .var 8]]) (.var 9))) [.ret (.cst (.bl false))] []] []]
def v296_2 : List VT := [.asg 2 (.call 10 [.var 0, .var 1]),
    .asg 3 (.call 36 [.var 2]),
    .ifs (.cmp .eq (.ix (.var 3) (.cst (.int 0))) (.cst (.str "order"))) [.asg 3 (.tup [.cst (.str "wish"), .tup [.cst (.int 4), .cst (.int 2), .bi .tupleOf [.call 12 [.cst (.int 4), .cst (.int 2)]]]])] [],
    .asg 4 (.lst [.call 259 [.var 2, .var 3], .call 259 [.var 2, .var 3]]),
    .asg 5 (.comp (.call 295 [.var 2, .var 3, .call 260 [.var 7]]) (.name 7) .val [.var 4] (.omit)),
    .for_ (.name 6) .rng1 [.cst (.int 12)] v296_1]
def v296 : VDef := ⟨1, 10, [.for_ (.name 1) .rng1 [.cst (.int 8)] v296_2,
    .ret (.cst (.bl true))]⟩
/-- _law_other_ring ['feed', 'ring', 'house', 't', 'hues', 'seen', 'other', 'turn', 'k'] -/
def v304 : VDef := ⟨5, 4, [.asg 5 (.comp (.ix (.var 1) (.bin .mod (.bin .add (.var 2) (.var 8)) (.bi .len [.var 1]))) (.name 8) .rng2 [.neg (.var 3), .bin .add (.var 3) (.cst (.int 1))] (.omit)),
    .asg 6 (.bin .add (.var 5) (.comp (.call 11 [.var 0, .var 4]) (.name 8) .rng1 [.bin .add (.bi .max2 [.cst (.int 0), .bin .sub (.cst (.int 3)) (.bi .len [.var 5])]) (.call 11 [.var 0, .cst (.int 5)])] (.omit))),
    .asg 7 (.call 11 [.var 0, .bi .len [.var 6]]),
    .ret (.tup [.bi .tupleOf [.bin .add (.sl (.var 6) (.var 7) (.omit)) (.sl (.var 6) (.omit) (.var 7))], .bin .mod (.bin .sub (.var 3) (.var 7)) (.bi .len [.var 6])])]⟩
/-- _law_other_web ['feed', 'kind', 'web', 'name', 'links', 'one', 'other', 'link', 'beside', 'near', 'fresh'] -/
def v305_1 : List VT := [.asg 8 (.comp (.var 7) (.name 7) .val [.var 4] (.cmp .inn (.var 5) (.var 7))),
    .asg 9 (.comp (.var 7) (.name 7) .val [.var 4] (.cmp .inn (.var 6) (.var 7))),
    .asg 10 (.and (.cmp .lt (.var 5) (.var 6)) (.cmp .nin (.var 3) (.tup [.var 5, .var 6]))),
    .ifs (.and (.var 10) (.and (.cmp .lt (.bi .len [.var 8]) (.ix (.var 1) (.cst (.int 2)))) (.and (.cmp .lt (.bi .len [.var 9]) (.ix (.var 1) (.cst (.int 2)))) (.cmp .eq (.call 11 [.var 0, .cst (.int 2)]) (.cst (.int 0)))))) [.exprM .append 4 [.tup [.var 5, .var 6]]] []]
def v305_2 : List VT := [.for_ (.name 6) .val [.ix (.var 2) (.cst (.int 0))] v305_1]
def v305 : VDef := ⟨4, 7, [.asg 4 (.comp (.var 7) (.name 7) .val [.ix (.var 2) (.cst (.int 1))] (.cmp .inn (.var 3) (.var 7))),
    .for_ (.name 5) .val [.ix (.var 2) (.cst (.int 0))] v305_2,
    .ret (.tup [.ix (.var 2) (.cst (.int 0)), .bi .tupleOf [.bi .sorted [.var 4]]])]⟩
/-- _law_on_rings ['feed', 'hues', 'kind', 'plan', 'cut', 't', 'ring', 'house', 'other', 'there', 'k'] -/
def v306_1 : List VT := [.asg 5 (.call 253 [.var 4]),
    .asg 6 (.bi .tupleOf [.comp (.call 11 [.var 0, .var 1]) (.name 10) .rng1 [.bin .add (.bi .max2 [.cst (.int 3), .bin .add (.bin .mul (.cst (.int 2)) (.var 5)) (.cst (.int 1))]) (.call 11 [.var 0, .cst (.int 5)])] (.omit)]),
    .asg 7 (.call 11 [.var 0, .bi .len [.var 6]]),
    .asgT [8, 9] (.call 304 [.var 0, .var 6, .var 7, .var 5, .var 1]),
    .ifs (.cmp .ne (.bi .repr [.ix (.call 272 [.var 2, .var 4, .var 6]) (.var 7)]) (.bi .repr [.ix (.call 272 [.var 2, .var 4, .var 8]) (.var 9)])) [.ret (.cst (.bl false))] []]
def v306 : VDef := ⟨1, 10, [.asg 1 (.bin .add (.cst (.int 2)) (.call 11 [.var 0, .cst (.int 3)])),
    .asg 2 (.tup [.cst (.str "wish"), .tup [.var 1, .cst (.int 2), .bi .tupleOf [.call 12 [.var 1, .cst (.int 2)]]]]),
    .asg 3 (.call 259 [.var 0, .var 2]),
    .for_ (.name 4) .val [.tup [.var 3, .sl (.var 3) (.omit) (.call 11 [.var 0, .bin .add (.bi .len [.var 3]) (.cst (.int 1))])]] v306_1,
    .ret (.cst (.bl true))]⟩
/-- _law_in_webs ['feed', 'kind', 'plan', 'web', 'house', 'other'] -/
def v307 : VDef := ⟨1, 5, [.asg 1 (.tup [.cst (.str "web"), .bin .add (.cst (.int 3)) (.call 11 [.var 0, .cst (.int 3)]), .bin .add (.cst (.int 1)) (.call 11 [.var 0, .cst (.int 3)])]),
    .asg 2 (.call 259 [.var 0, .var 1]),
    .asg 3 (.call 38 [.var 0, .var 1]),
    .asg 4 (.call 11 [.var 0, .bi .len [.ix (.var 3) (.cst (.int 0))]]),
    .asg 5 (.call 305 [.var 0, .var 1, .var 3, .ix (.ix (.var 3) (.cst (.int 0))) (.var 4)]),
    .ret (.cmp .eq (.bi .repr [.ix (.call 272 [.var 1, .var 2, .var 3]) (.var 4)]) (.bi .repr [.ix (.call 272 [.var 1, .var 2, .var 5]) (.var 4)]))]⟩
/-- law ['script', 'k', 'feed'] -/
def v308_1 : List VT := [.asg 2 (.call 10 [.var 0, .var 1]),
    .ifs (.or (.not (.call 306 [.var 2])) (.not (.call 307 [.var 2]))) [.ret (.cst (.bl false))] []]
def v308 : VDef := ⟨1, 2, [.for_ (.name 1) .rng1 [.cst (.int 8)] v308_1,
    .ret (.cst (.bl true))]⟩
def PrV : Nat → Option VDef
  | 4 => some v4
  | 5 => some v5
  | 6 => some v6
  | 7 => some v7
  | 8 => some v8
  | 9 => some v9
  | 10 => some v10
  | 11 => some v11
  | 12 => some v12
  | 13 => some v13
  | 21 => some v21
  | 22 => some v22
  | 23 => some v23
  | 24 => some v24
  | 28 => some v28
  | 31 => some v31
  | 33 => some v33
  | 36 => some v36
  | 37 => some v37
  | 38 => some v38
  | 39 => some v39
  | 43 => some v43
  | 44 => some v44
  | 45 => some v45
  | 46 => some v46
  | 47 => some v47
  | 48 => some v48
  | 58 => some v58
  | 59 => some v59
  | 60 => some v60
  | 61 => some v61
  | 62 => some v62
  | 72 => some v72
  | 79 => some v79
  | 80 => some v80
  | 93 => some v93
  | 94 => some v94
  | 95 => some v95
  | 96 => some v96
  | 97 => some v97
  | 98 => some v98
  | 99 => some v99
  | 253 => some v253
  | 257 => some v257
  | 258 => some v258
  | 259 => some v259
  | 260 => some v260
  | 266 => some v266
  | 267 => some v267
  | 268 => some v268
  | 269 => some v269
  | 270 => some v270
  | 271 => some v271
  | 272 => some v272
  | 273 => some v273
  | 274 => some v274
  | 275 => some v275
  | 276 => some v276
  | 277 => some v277
  | 278 => some v278
  | 279 => some v279
  | 280 => some v280
  | 284 => some v284
  | 285 => some v285
  | 286 => some v286
  | 287 => some v287
  | 288 => some v288
  | 289 => some v289
  | 290 => some v290
  | 291 => some v291
  | 292 => some v292
  | 293 => some v293
  | 294 => some v294
  | 295 => some v295
  | 296 => some v296
  | 304 => some v304
  | 305 => some v305
  | 306 => some v306
  | 307 => some v307
  | 308 => some v308
  | _ => none
def Pr (f : Nat) : Option Def := (PrV f).map VDef.er
end Mp
namespace Mp
open PySem L2
def stepR (hu : Nat) (r : List Int) : List (List Int) := (List.range hu).map fun (c : Nat) => r ++ [(c : Int)]
def allR (hu : Nat) : Nat → List (List Int)
  | 0 => [[]]
  | w + 1 => (allR hu w).flatMap (stepR hu)
theorem allR_len {hu : Nat} : ∀ {w : Nat} {r : List Int}, r ∈ allR hu w → r.length = w ∧ ∀ x ∈ r, 0 ≤ x ∧ x < hu
  | 0, r, hr => by
    simp [allR] at hr
    subst hr
    simp
  | w + 1, r, hr => by
    simp [allR, stepR] at hr
    obtain ⟨a, ha, c, hc, rfl⟩ := hr
    obtain ⟨h1, h2⟩ := allR_len ha
    refine ⟨by simp [h1], fun x hx => ?_⟩
    rcases List.mem_append.mp hx with hx | hx
    · exact h2 x hx
    · simp at hx; subst hx; omega
theorem flat_len {α β : Type} {f : α → List β} {k : Nat} (hf : ∀ a, (f a).length = k) : ∀ l : List α, (l.flatMap f).length = l.length * k
  | [] => by simp
  | a :: l => by
    rw [List.flatMap_cons, List.length_append, hf, flat_len hf l, List.length_cons, Nat.add_mul, Nat.one_mul, Nat.add_comm]
theorem stepR_len (hu : Nat) (r : List Int) : (stepR hu r).length = hu := by simp [stepR]
theorem allR_many (hu : Nat) : ∀ w : Nat, (allR hu w).length = hu ^ w
  | 0 => rfl
  | w + 1 => by rw [allR, flat_len (stepR_len hu), allR_many hu w, Nat.pow_succ]
theorem pow_le4 {hu i : Nat} (hh : hu ≤ 4) (hi : i ≤ 3) : hu ^ i ≤ 64 := Nat.le_trans (Nat.pow_le_pow_left hh i) (Nat.pow_le_pow_right (by decide : 0 < 4) hi)
/-! ### from a row to a row -/
def Stp (R : List (List Int)) (a b : List Int) : Prop := b ∈ R ∧ b.dropLast = a.tail
inductive Rch (R : List (List Int)) : List Int → List Int → Prop
  | one {a b : List Int} : Stp R a b → Rch R a b
  | more {a b c : List Int} : Rch R a b → Stp R b c → Rch R a c
theorem Rch.mem {R : List (List Int)} {a b : List Int} (r : Rch R a b) : b ∈ R := by cases r with | one h => exact h.1 | more _ h => exact h.1
/-- a set closed under the steps holds all that is met -/
theorem Rch.closed {R ms : List (List Int)} {a : List Int} (hc : ∀ x, (x = a ∨ x ∈ ms) → ∀ y, Stp R x y → y ∈ ms) {b : List Int} (r : Rch R a b) : b ∈ ms := by
  induction r with
  | one h => exact hc _ (.inl rfl) _ h
  | more _ h ih => exact hc _ (.inr ih) _ h
/-- how many rows are not met yet -/
def left_ (R ms : List (List Int)) : Nat := R.countP fun r => !decide (r ∈ ms)
theorem left_lt {R ms : List (List Int)} {y : List Int} (hy : y ∈ R) (hn : y ∉ ms) : left_ R (ms ++ [y]) + 1 ≤ left_ R ms := by
  unfold left_
  induction R with
  | nil => cases hy
  | cons r R ih =>
    rw [List.countP_cons, List.countP_cons]
    by_cases e : r = y
    · subst e
      have m : List.countP (fun r' => !decide (r' ∈ ms ++ [r])) R ≤ List.countP (fun r' => !decide (r' ∈ ms)) R := List.countP_mono_left fun z _ hz => by
        simp at hz ⊢
        exact hz.1
      simp [hn]
      simp at m
      omega
    · have hy' : y ∈ R := by
        rcases List.mem_cons.mp hy with z | z
        · exact absurd z.symm e
        · exact z
      have := ih hy'
      by_cases hr : r ∈ ms
      · simp [hr] at this ⊢; omega
      · simp [hr, e] at this ⊢; omega
noncomputable def agB (R : List (List Int)) (r : List Int) : Bool := @decide (Rch R r r) (Classical.propDecidable _)
theorem agB_iff {R : List (List Int)} {r : List Int} : agB R r = true ↔ Rch R r r := @decide_eq_true_iff _ (Classical.propDecidable _)
noncomputable def aliveR (R : List (List Int)) : List (List Int) := R.filter (agB R)
theorem left_app {R ms : List (List Int)} (p : List Int → Bool) : left_ R (ms ++ R.filter fun y => p y && !decide (y ∈ ms)) + (R.filter fun y => p y && !decide (y ∈ ms)).length ≤ left_ R ms := by
  have key : ∀ (T : List (List Int)) (L : List (List Int)), (∀ y ∈ L, p y = true → y ∉ ms → y ∈ T) → (∀ y ∈ T, y ∉ ms → p y = true) → (L.countP fun r => !decide (r ∈ ms ++ T)) + (L.filter fun y => p y && !decide (y ∈ ms)).length ≤ L.countP fun r => !decide (r ∈ ms) := by
    intro T L
    induction L with
    | nil => intro _ _; simp
    | cons r L ih =>
      intro h1 h2
      have i := ih (fun y hy => h1 y (List.mem_cons_of_mem _ hy)) h2
      rw [List.countP_cons, List.countP_cons, List.filter_cons]
      by_cases hm : r ∈ ms
      · simp [hm] at i ⊢; exact i
      · cases hp : p r with
        | true =>
          have := h1 r List.mem_cons_self hp hm
          simp [hm, hp, this] at i ⊢; omega
        | false =>
          have : r ∉ T := fun z => by have := h2 r z hm; rw [hp] at this; cases this
          simp [hm, hp, this] at i ⊢; omega
  refine key _ R (fun y hy hp hn => by simp [hy, hp, hn]) fun y hy hn => ?_
  simp at hy
  exact hy.2.1
theorem rch_trans {R : List (List Int)} {a b c : List Int} (r : Rch R a b) (s : Rch R b c) : Rch R a c := by
  induction s with
  | one h => exact .more r h
  | more _ h ih => exact .more ih h
/-- what comes round goes on by what comes round -/
theorem alive_next {R : List (List Int)} {r : List Int} (h : Rch R r r) : ∃ s, Stp R r s ∧ Rch R s s := by
  have key : ∀ a b, Rch R a b → ∃ s, Stp R a s ∧ (s = b ∨ Rch R s b) := by
    intro a b r
    induction r with
    | one h => exact ⟨_, h, .inl rfl⟩
    | more _ h ih =>
      obtain ⟨s, h1, h2⟩ := ih
      refine ⟨s, h1, .inr ?_⟩
      rcases h2 with rfl | h2
      · exact .one h
      · exact .more h2 h
  obtain ⟨s, h1, h2⟩ := key r r h
  refine ⟨s, h1, ?_⟩
  rcases h2 with rfl | h2
  · exact h
  · exact .more h2 h1
theorem mem_aliveR {R : List (List Int)} {r : List Int} : r ∈ aliveR R ↔ r ∈ R ∧ Rch R r r := by
  unfold aliveR
  rw [List.mem_filter, agB_iff]
/-- a list longer than what its members can be has a member twice -/
theorem twice_of {α : Type} [DecidableEq α] : ∀ (l U : List α), (∀ x ∈ l, x ∈ U) → U.length < l.length → ∃ (i j : Nat) (x : α), i < j ∧ l[i]? = some x ∧ l[j]? = some x := by
  intro l U hU hl
  by_cases nd : l.Nodup
  · exfalso
    have key : ∀ (l U : List α), l.Nodup → (∀ x ∈ l, x ∈ U) → l.length ≤ U.length := by
      intro l
      induction l with
      | nil => intro U _ _; exact Nat.zero_le _
      | cons a l ih =>
        intro U nd hU
        obtain ⟨n1, n2⟩ := List.nodup_cons.mp nd
        have ha : a ∈ U := hU a List.mem_cons_self
        have := ih (U.erase a) n2 fun x hx => (List.mem_erase_of_ne (fun (e : x = a) => n1 (by rw [← e]; exact hx))).mpr (hU x (List.mem_cons_of_mem _ hx))
        rw [List.length_erase_of_mem ha] at this
        have hp : 0 < U.length := List.length_pos_of_mem ha
        simp only [List.length_cons]
        omega
    have := key l U nd hU
    omega
  · rw [List.nodup_iff_pairwise_ne, List.pairwise_iff_getElem] at nd
    simp only [Classical.not_forall, Classical.not_not] at nd
    obtain ⟨i, j, hi, hj, hij, e⟩ := nd
    exact ⟨i, j, l[i], hij, List.getElem?_eq_getElem hi, by rw [List.getElem?_eq_getElem hj, e]⟩
/-- the last letters of what is laid -/
def EndsIn (ls r : List Int) : Prop := ∃ pre, ls = pre ++ r
theorem ends_next {ls r s : List Int} {wi : Nat} (h : EndsIn ls r) (hr : r.length = wi) (hs : s.length = wi) (hw : 1 ≤ wi) (st : s.dropLast = r.tail) : ∃ z, s[s.length - 1]? = some z ∧ EndsIn (ls ++ [z]) s ∧ z ∈ s := by
  obtain ⟨pre, rfl⟩ := h
  have hne : s ≠ [] := fun e => by subst e; simp at hs; omega
  refine ⟨s.getLast hne, ?_, ?_, List.getLast_mem hne⟩
  · rw [List.getLast_eq_getElem, List.getElem?_eq_getElem]
  · cases r with
    | nil => simp at hr; omega
    | cons a r =>
      refine ⟨pre ++ [a], ?_⟩
      have : r = s.dropLast := by simpa using st.symm
      subst this
      rw [List.append_assoc, List.append_assoc]
      congr 1
      show a :: s.dropLast ++ [s.getLast hne] = [a] ++ s
      rw [List.cons_append, List.dropLast_concat_getLast]
      rfl
/-- windows -/
def winR (ls : List Int) (wi n : Nat) : List (List Int) := (List.range n).map fun k => (ls.drop k).take (wi - 1)
theorem mem_allR {hu : Nat} : ∀ {w : Nat} {r : List Int}, r.length = w → (∀ x ∈ r, 0 ≤ x ∧ x < hu) → r ∈ allR hu w := by
  intro w
  induction w with
  | zero =>
    intro r hr _
    have : r = [] := List.eq_nil_of_length_eq_zero hr
    subst this
    simp [allR]
  | succ w ih =>
    intro r hr hb
    have hne : r ≠ [] := fun e => by subst e; simp at hr
    have e := (List.dropLast_concat_getLast hne).symm
    have h1 : r.dropLast ∈ allR hu w := ih (by rw [List.length_dropLast]; omega) fun x hx => hb x ((List.dropLast_sublist r).subset hx)
    have h2 := hb _ (List.getLast_mem hne)
    rw [allR, List.mem_flatMap]
    refine ⟨_, h1, ?_⟩
    rw [stepR, List.mem_map]
    exact ⟨(r.getLast hne).toNat, List.mem_range.mpr (by omega), by rw [show (((r.getLast hne).toNat : Nat) : Int) = r.getLast hne by omega]; exact e.symm⟩
theorem win_twice {hu wi : Nat} {ls : List Int} (hh : hu ≤ 4) (hw : wi = 2 ∨ wi = 3) (hl : ls.length = wi + 20) (hb : ∀ x ∈ ls, 0 ≤ x ∧ x < hu) : ∃ (i j : Nat) (x : List Int), i < j ∧ (winR ls wi 22)[i]? = some x ∧ (winR ls wi 22)[j]? = some x := by
  refine twice_of _ (allR hu (wi - 1)) (fun x hx => ?_) ?_
  · unfold winR at hx
    obtain ⟨k, hk, rfl⟩ := List.mem_map.mp hx
    have hk := List.mem_range.mp hk
    refine mem_allR (by rw [List.length_take, List.length_drop]; omega) fun y hy => hb y (List.mem_of_mem_drop (List.mem_of_mem_take hy))
  · rw [allR_many]
    have : hu ^ (wi - 1) ≤ 4 ^ 2 := Nat.le_trans (Nat.pow_le_pow_left hh _) (Nat.pow_le_pow_right (by decide) (by omega))
    unfold winR
    rw [List.length_map, List.length_range]
    omega
theorem index_first {α : Type} [DecidableEq α] {l : List α} {x : α} {e j : Nat} (hj : j < e) (h : l[j]? = some x) : ∃ i, l.findIdx? (fun z => decide (z = x)) = some i ∧ i < e := by
  cases q : l.findIdx? fun z => decide (z = x) with
  | none =>
    rw [List.findIdx?_eq_none_iff] at q
    have := q x (List.mem_of_getElem? h)
    simp at this
  | some i =>
    refine ⟨i, rfl, ?_⟩
    obtain ⟨hi, e1, e2⟩ := List.findIdx?_eq_some_iff_getElem.mp q
    by_cases c : i ≤ j
    · omega
    · have hl := (List.getElem?_eq_some_iff.mp h)
      have := e2 j (by omega)
      simp [hl.2] at this
theorem alive_len {R : List (List Int)} : (aliveR R).length ≤ R.length := List.length_filter_le _ _
theorem left_le {R ms : List (List Int)} : left_ R ms ≤ R.length := List.countP_le_length
/-! ### dicts of rows -/
def keyR' (r : List Int) : List Key := r.map .inl
theorem vkey_row (r : List Int) : vkey (rowV r) = some (keyR' r) := mapM_map' (f := vkey1) (g := VD.int) (k := Sum.inl) (fun i => rfl) r
theorem keyR_inj' {a b : List Int} (e : keyR' a = keyR' b) : a = b := by
  have : ∀ a b : List Int, keyR' a = keyR' b → a = b := by
    intro a
    induction a with
    | nil => intro b e; cases b with | nil => rfl | cons _ _ => cases e
    | cons x a ih =>
      intro b e
      cases b with
      | nil => cases e
      | cons y b =>
        have e1 : (Sum.inl x : Key) :: keyR' a = Sum.inl y :: keyR' b := e
        injection e1 with e1 e2
        injection e1 with e1
        rw [e1, ih b e2]
  exact this a b e
/-- a dict whose keys are rows -/
def rowsD (t : Tg) (ms : List (List Int)) (f : List Int → VD) : VD := .dic t (ms.map keyR') (ms.map f)
@[simp] theorem see_rowsD {ms : List (List Int)} {f : List Int → VD} : (rowsD .own ms f).see = rowsD .bor ms f := rfl
@[simp] theorem keep_rowsD {ms : List (List Int)} {f : List Int → VD} : (rowsD .own ms f).keep = some (rowsD .own ms f) := rfl
@[simp] theorem esc_rowsD {ms : List (List Int)} {f : List Int → VD} : (rowsD .own ms f).esc = some (rowsD .shr ms f) := rfl
theorem getK_map {ms : List (List Int)} {f : List Int → VD} {r : List Int} : getK ((ms.map keyR').zip (ms.map f)) (keyR' r) = if r ∈ ms then some (f r) else none := by
  induction ms with
  | nil => rfl
  | cons a ms ih =>
    show (if keyR' a = keyR' r then some (f a) else getK ((ms.map keyR').zip (ms.map f)) (keyR' r)) = _
    by_cases h : a = r
    · subst h; simp
    · have h1 : ¬ keyR' a = keyR' r := fun z => h (keyR_inj' z)
      have h2 : ¬ r = a := fun z => h z.symm
      rw [if_neg h1, ih]
      simp [h2]
theorem in_rowsD {ms : List (List Int)} {f : List Int → VD} {r : List Int} {t : Tg} : vcmp .inn (rowV r) (rowsD t ms f) = some (decide (r ∈ ms)) := by
  show (vkey (rowV r)).map (fun k => (getK ((ms.map keyR').zip (ms.map f)) k).isSome) = _
  rw [vkey_row]
  show some (getK ((ms.map keyR').zip (ms.map f)) (keyR' r)).isSome = _
  rw [getK_map]
  by_cases h : r ∈ ms <;> simp [h]
theorem nin_rowsD {ms : List (List Int)} {f : List Int → VD} {r : List Int} {t : Tg} : vcmp .nin (rowV r) (rowsD t ms f) = some (!decide (r ∈ ms)) := by
  show (inV _ _).map (!·) = _
  rw [show inV (rowV r) (rowsD t ms f) = some (decide (r ∈ ms)) from in_rowsD (t := t)]
  rfl
theorem ix_rowsD {ms : List (List Int)} {f : List Int → VD} {r : List Int} {t : Tg} {cs : CS} (h : r ∈ ms) : vix cs (rowsD t ms f) (rowV r) = some (f r) := by
  show (vkey (rowV r)).bind (fun k => getK ((ms.map keyR').zip (ms.map f)) k) = _
  rw [vkey_row]
  show getK ((ms.map keyR').zip (ms.map f)) (keyR' r) = _
  rw [getK_map, if_pos h]
theorem setK_new {ks : List (List Key)} {vs : List VD} {k : List Key} {w : VD} (hl : ks.length = vs.length) (h : k ∉ ks) : setK (ks.zip vs) k w = (ks ++ [k]).zip (vs ++ [w]) := by
  induction ks generalizing vs with
  | nil =>
    cases vs with
    | nil => rfl
    | cons _ _ => cases hl
  | cons a ks ih =>
    cases vs with
    | nil => cases hl
    | cons v vs =>
      have h1 : ¬ a = k := fun z => h (by rw [z]; exact List.mem_cons_self)
      show (if a = k then (a, w) :: ks.zip vs else (a, v) :: setK (ks.zip vs) k w) = _
      rw [if_neg h1, ih (by simpa using hl) fun z => h (List.mem_cons_of_mem _ z)]
      rfl
theorem put_rowsD {ms : List (List Int)} {f : List Int → VD} {r : List Int} {v w : VD} (h : r ∉ ms) (hv : v.esc = some w) (hw : w = f r) (hz : ms.length < sizeLine) : vput (rowsD .own ms f) (rowV r) v = some (rowsD .own (ms ++ [r]) f) := by
  subst hw
  have e : vput (rowsD .own ms f) (rowV r) v = if (ms.map keyR').length < sizeLine then (vkey (rowV r)).map fun k => VD.dic .own ((setK ((ms.map keyR').zip (ms.map f)) k (f r)).map fun (p : List Key × VD) => p.1) ((setK ((ms.map keyR').zip (ms.map f)) k (f r)).map fun (p : List Key × VD) => p.2) else none := by
    unfold vput
    rw [hv]
    rfl
  rw [e]
  simp only [List.length_map, hz, if_true, vkey_row, Option.map_some]
  rw [setK_new (by simp) (fun z => by obtain ⟨a, ha, e⟩ := List.mem_map.mp z; exact h (by rw [← keyR_inj' e]; exact ha))]
  rw [List.map_fst_zip (by simp), List.map_snd_zip (by simp)]
  simp [rowsD]
theorem rowsD_nil {t : Tg} {f : List Int → VD} : VD.dic t [] [] = rowsD t [] f := rfl
end Mp
namespace Mp
open PySem L2
theorem mix_v {n : Nat} {c k : Int} {cs : CS} {Q : VD → CS → Prop} {E : XV → CS → Prop} (hk : 0 ≤ k ∧ k ≤ B62) (hq : ∀ v : Int, 0 ≤ v → Q (.int v) cs) : W (callV PrV (n+1) 9 [.int c, .int k] cs) Q E := by
  rw [call_s (d := v9) rfl rfl]
  have b62 := B62_eq
  simp [v9, B20_eq, N64_eq, B64_eq]
  exact ⟨by omega, hq _ (Int.emod_nonneg _ (by decide))⟩
/-- but for the feed all cells stand -/
def Oth (f : Nat) (cs cs' : CS) : Prop := cs'.length = cs.length ∧ ∀ j, j ≠ f → cs'[j]? = cs[j]?
theorem take_v2 {n f b : Nat} {m : Int} {cs : CS} {Q : VD → CS → Prop} {E : XV → CS → Prop} (F : FeedV cs f (b + 1)) (hm : 0 < m) (hm2 : m ≤ 10 ^ 30) (hq : ∀ v cs', 0 ≤ v → v < m → FeedV cs' f b → Oth f cs cs' → Q (.int v) cs') : W (callV PrV (n+2) 11 [.cel f, .int m] cs) Q E := by
  obtain ⟨c, k, r, e, h1, h2⟩ := F
  rw [call_s (d := v11) rfl rfl]
  have hl : f < cs.length := (List.getElem?_eq_some_iff.mp e).1
  have s1 : vset cs (.cel f) (.int 1) (.int (k + 1)) = some (cs.set f [.int c, .int (k + 1), .int r]) := vset_cel e rfl (p := 1) rfl
  have e1 : (cs.set f [.int c, .int (k + 1), .int r])[f]? = some [.int c, .int (k + 1), .int r] := List.getElem?_set_self hl
  have x1 : Oth f cs (cs.set f [.int c, .int (k + 1), .int r]) := ⟨List.length_set, fun j hj => List.getElem?_set_ne (Ne.symm hj)⟩
  generalize cs.set f [.int c, .int (k + 1), .int r] = g at s1 e1 x1
  have s2 : vset g (.cel f) (.int 2) (.int (r / m)) = some (g.set f [.int c, .int (k + 1), .int (r / m)]) := vset_cel e1 rfl (p := 2) rfl
  have x2 : Oth f cs (g.set f [.int c, .int (k + 1), .int (r / m)]) := ⟨by rw [List.length_set]; exact x1.1, fun j hj => by rw [List.getElem?_set_ne (Ne.symm hj)]; exact x1.2 j hj⟩
  have lg := log_ok' hm hm2
  have xl := x1.1
  simp [v11, e, atI, ixN, s1, e1, s2]
  split
  · exact ⟨hm, ⟨hm, lg⟩, hq _ _ (Int.emod_nonneg _ (by omega)) (Int.emod_lt_of_pos _ hm) ⟨c, k + 1, r / m, List.getElem?_set_self (by omega), by omega, by omega⟩ x2⟩
  · refine mix_v ⟨by omega, by omega⟩ fun v hv => ?_
    simp [log7']
    exact ⟨hm, hq _ _ (Int.emod_nonneg _ (by omega)) (Int.emod_lt_of_pos _ hm) ⟨c, k + 1, r, e1, by omega, by omega⟩ x1⟩
theorem take_v {n f b : Nat} {m : Int} {cs : CS} {Q : VD → CS → Prop} {E : XV → CS → Prop} (F : FeedV cs f (b + 1)) (hm : 0 < m) (hm2 : m ≤ 10 ^ 30) (hq : ∀ v cs', 0 ≤ v → v < m → FeedV cs' f b → Q (.int v) cs') : W (callV PrV (n+2) 11 [.cel f, .int m] cs) Q E :=
  take_v2 F hm hm2 fun v cs' h1 h2 h3 _ => hq v cs' h1 h2 h3
theorem allrows_v {n f hu wi : Nat} {cs : CS} (hf : PrV f = some v4) (hh : hu ≤ 4) (hw : wi ≤ 3) : callV PrV (n+1) f [.int hu, .int wi] cs = some (.ok (.lst .own ((allR hu wi).map rowV)), cs) := by
  refine eq_of_W ?_
  rw [call_s (d := v4) hf rfl]
  have b62 := B62_eq
  have sz := PySem.sizeLine_eq
  simp [v4, walk_rng1 (show (0 : Int) ≤ (wi : Int) by omega) (by omega)]
  refine for_done (fun (i : Nat) => VD.int i) (List.range wi) (fun done en c => c = cs ∧ ∃ pl lo ro, en = [some (.int hu), some (.int wi), some (.lst .own ((allR hu done.length).map rowV)), pl, lo, ro, none]) ?_ ?_ ?_
  · rintro en c ⟨rfl, pl, lo, ro, rfl⟩
    simp
  · rintro done x rest en c K e ⟨rfl, pl, lo, ro, rfl⟩ hK
    have hl : done.length + 1 ≤ 3 := by
      have := congrArg List.length e
      simp at this; omega
    simp [v4_2]
    refine for_done rowV (allR hu done.length) (fun dn en c2 => c2 = c ∧ ∃ ro, en = [some (.int hu), some (.int wi), some (.lst .shr ((allR hu done.length).map rowV)), some (.int x), some (.lst .own ((dn.flatMap (stepR hu)).map rowV)), ro, none]) ?_ ?_ ?_
    · rintro en c2 ⟨rfl, ro, rfl⟩
      simp
      simp only [List.length_append, List.length_singleton, allR] at hK
      exact hK _ _ ⟨rfl, _, _, _, rfl⟩
    · rintro dn r rs en c2 K2 e2 ⟨rfl, ro, rfl⟩ hK2
      have hr := allR_len (show r ∈ allR hu done.length by rw [e2]; simp)
      have hdone : (dn.flatMap (stepR hu)).length + (stepR hu r).length ≤ 64 := by
        have hp := pow_le4 hh hl
        rw [← allR_many hu (done.length + 1), allR, e2, List.flatMap_append, List.flatMap_cons, List.length_append, List.length_append] at hp
        omega
      rw [stepR_len] at hdone
      have e3 : (dn ++ [r]).flatMap (stepR hu) = dn.flatMap (stepR hu) ++ stepR hu r := by simp
      have e4 : ((dn ++ [r]).flatMap (stepR hu)).map rowV = (dn.flatMap (stepR hu)).map rowV ++ (List.range hu).map fun (i : Nat) => rowV (r ++ [(i : Int)]) := by
        rw [e3, List.map_append, stepR, List.map_map]; rfl
      rw [e4] at hK2
      clear e3 e4
      generalize dn.flatMap (stepR hu) = D at hdone hK2 ⊢
      simp [v4_1, walk_rng1 (show (0 : Int) ≤ (hu : Int) by omega) (by omega)]
      rw [turn_map (fun (i : Nat) => VD.int i) (fun i => some (rowV (r ++ [(i : Int)]))) (List.range hu) (by simp; omega) fun i hi => ?_]
      · rw [filterMap_all' fun (i : Nat) => rowV (r ++ [(i : Int)])]
        simp
        exact ⟨by omega, by omega, hK2 _ _ ⟨rfl, _, rfl⟩⟩
      · refine eq_of_W ?_
        simp
        omega
    · exact ⟨rfl, ro, rfl⟩
  · exact ⟨rfl, none, none, none, rfl⟩
theorem atI_intsV {ns : List Int} {i : Int} (h0 : 0 ≤ i) (h1 : i < ns.length) : ∃ v, atI ns i = some v := by
  have hl : i.toNat < ns.length := by omega
  have e : ns[i.toNat]? = some ns[i.toNat] := List.getElem?_eq_getElem hl
  have := atI_nat e
  rw [show ((i.toNat : Nat) : Int) = i by omega] at this
  exact ⟨_, this⟩
theorem feed_v {n b : Nat} {k : Int} {ns : List Int} {cs : CS} {Q : VD → CS → Prop} {E : XV → CS → Prop} (hk : 0 ≤ k ∧ k < 1000) (hb : (b : Int) ≤ B62) (hq : ∀ c, FeedV (cs ++ [c]) cs.length b → Q (.cel cs.length) (cs ++ [c])) : W (callV PrV (n+2) 10 [.lst .rol (ns.map .int), .int k] cs) Q E := by
  rw [call_s (d := v10) rfl rfl]
  have b62 := B62_eq
  have sz := PySem.sizeLine_eq
  have fin : ∀ c : Int, Q (.cel cs.length) (cs ++ [[.int c, .int 0, .int ((c - 1000000000000000000) * (if 1000000000000000000 ≤ c then 1 else 0))]]) := fun c => hq _ ⟨c, 0, _, by simp; rfl, by omega, by omega⟩
  have sm : (-B64 < 7919 ∧ 7919 < B64) := by rw [B64_eq]; decide
  have lt0 : ∀ c : Int, (-B64 < (if (1000000000000000000 : Int) ≤ c then (1 : Int) else 0) ∧ (if (1000000000000000000 : Int) ≤ c then (1 : Int) else 0) < B64) := fun c => by
    rw [B64_eq]
    split <;> decide
  simp [v10, B20_eq, N64_eq, sm]
  split
  · rename_i hlt
    obtain ⟨v, hv⟩ := atI_intsV (ns := ns) hk.1 hlt
    simp [atI_of, hv]
    exact ⟨.inr (lt0 v), fin v⟩
  · split
    · rename_i hge hpos
      have hp : 0 < (ns.length : Int) := by omega
      refine ⟨by omega, ?_⟩
      obtain ⟨v, hv⟩ := atI_intsV (ns := ns) (Int.emod_nonneg k (by omega)) (Int.emod_lt_of_pos k hp)
      simp [atI_of, hv]
      refine mix_v ⟨hk.1, by omega⟩ fun c _ => ?_
      simp
      exact ⟨.inr (lt0 c), fin c⟩
    · try simp
      exact ⟨.inr (lt0 _), fin _⟩
/-- a wish by its parts -/
def wishV (hu wi : Nat) (R : List (List Int)) : VD := .tup [.int hu, .int wi, .tup (R.map rowV)]
theorem row_ends' {hu wi : Nat} {r : List Int} (hw : wi = 2 ∨ wi = 3) (hr : r ∈ allR hu wi) : ∃ a b c d : Int, atI r 0 = some a ∧ atI r 1 = some b ∧ atI r (-1) = some c ∧ atI r (-2) = some d := by
  have hl := (allR_len hr).1
  rcases hw with rfl | rfl
  · match r, hl with
    | [a, b], _ => exact ⟨a, b, b, a, rfl, rfl, rfl, rfl⟩
  · match r, hl with
    | [a, b, c], _ => exact ⟨a, b, c, b, rfl, rfl, rfl, rfl⟩
theorem wish_v {n f b : Nat} {most : Int} {cs : CS} {Q : VD → CS → Prop} {E : XV → CS → Prop} (F : FeedV cs f (b + 70)) (hm : 1 ≤ most ∧ most ≤ 4) (hq : ∀ (hu wi : Nat) (R : List (List Int)) (cs' : CS), 1 ≤ hu → (hu : Int) ≤ most → wi = 2 ∨ wi = 3 → R.Sublist (allR hu wi) → FeedV cs' f b → Q (wishV hu wi R) cs') :
    W (callV PrV (n+3) 13 [.cel f, .int most] cs) Q E := by
  rw [call_s (d := v13) rfl rfl]
  have b62 := B62_eq
  have sz := PySem.sizeLine_eq
  simp [v13]
  refine take_v (F.mono (by omega : (b + 67) + 1 ≤ _)) (by omega) (by omega) fun v c1 v0 v1 F1 => ?_
  obtain ⟨hu, rfl⟩ : ∃ hu : Nat, v = (hu : Int) - 1 := ⟨(v + 1).toNat, by omega⟩
  have eh : (1 : Int) + ((hu : Int) - 1) = hu := by omega
  simp [eh]
  refine take_v (F1.mono (by omega : (b + 66) + 1 ≤ _)) (by omega) (by omega) fun v c2 w0 w1 F2 => ?_
  obtain ⟨wi, hwi, hat⟩ : ∃ wi : Nat, (wi = 2 ∨ wi = 3) ∧ atI [VD.int 2, VD.int 3, VD.int 2] v = some (.int wi) := by
    rcases (by omega : v = 0 ∨ v = 1 ∨ v = 2) with rfl | rfl | rfl
    · exact ⟨2, .inl rfl, rfl⟩
    · exact ⟨3, .inr rfl, rfl⟩
    · exact ⟨2, .inl rfl, rfl⟩
  simp [hat]
  refine take_v (F2.mono (by omega : (b + 65) + 1 ≤ _)) (by omega) (by omega) fun lv c3 l0 l1 F3 => ?_
  have many : (allR hu wi).length ≤ 64 := by rw [allR_many]; exact pow_le4 (by omega) (by omega)
  have al : ∀ cs : CS, callV PrV (n + 2) 12 [.int hu, .int wi] cs = some (.ok (.lst .own ((allR hu wi).map rowV)), cs) := fun cs => allrows_v rfl (by omega) (by omega)
  simp [al]
  refine turn_done rowV (allR hu wi) (fun done acc c => ∃ rows : List (List Int), acc = rows.map rowV ∧ rows.Sublist done ∧ FeedV c f (b + 1 + (64 - done.length))) ?_ ?_ ⟨[], rfl, List.nil_sublist _, F3.mono (by simp)⟩
  · rintro acc c4 ⟨rows, rfl, sub, F4⟩
    have lr := sub.length_le
    simp
    refine ⟨by omega, ?_⟩
    refine take_v (F4.mono (by omega : b + 1 ≤ _)) (by omega) (by omega) fun z c5 z0 z1 F5 => ?_
    simp
    split
    · try simp [al]
      rw [turn_map rowV (fun r => if (decide (¬ atI r 0 = atI r 1) && decide (¬ atI r (-1) = atI r (-2))) = true then some (rowV r) else none) (allR hu wi) (by omega) fun r hr => ?_]
      · rw [filterMap_keep' rowV]
        have ls : ((allR hu wi).filter fun r => decide (¬ atI r 0 = atI r 1) && decide (¬ atI r (-1) = atI r (-2))).length ≤ (allR hu wi).length := List.length_filter_le _ _
        simp only [W_ok, W_vNew, List.length_map]
        refine ⟨by omega, ?_⟩
        simp
        exact hq hu wi _ _ (by omega) (by omega) hwi List.filter_sublist F5
      · obtain ⟨a, b, c, d, i1, i2, i3, i4⟩ := row_ends' hwi hr
        refine eq_of_W ?_
        simp [i1, i2, i3, i4]
        by_cases q1 : a = b <;> by_cases q2 : c = d <;> simp [q1, q2]
    · try simp
      exact hq hu wi rows _ (by omega) (by omega) hwi sub F5
  · rintro done r rest acc c4 K e ⟨rows, rfl, sub, F4⟩ k1 k2
    have hd : done.length + (rest.length + 1) = (allR hu wi).length := by rw [e]; simp
    have lr := sub.length_le
    simp
    refine take_v (F4.mono (by omega : (b + 1 + (64 - (done.length + 1))) + 1 ≤ _)) (by omega) (by omega) fun z c5 z0 z1 F5 => ?_
    simp
    split
    · try simp
      exact k1 _ _ (by simp; omega) ⟨rows ++ [r], by simp, sub.append (List.Sublist.refl _), F5.mono (by simp)⟩
    · try simp
      exact k2 _ ⟨rows, rfl, sub.trans (List.sublist_append_left _ _), F5.mono (by simp)⟩
end Mp
namespace Mp
open PySem L2
def IAg (R : List (List Int)) (row : List Int) (m : Nat) (en : VEn) : Prop := ∃ (ms ln : List (List Int)) (e4 e5 : Option VD), m = 2 * left_ R ms + List.length ln ∧ en = [some (.tup (R.map rowV)), some (rowV row), some (rowsD .own ms fun _ => .bl true), some (.lst .own (ln.map rowV)), e4, e5] ∧
      (∀ x ∈ ms, Rch R row x) ∧ (∀ x ∈ ln, x = row ∨ x ∈ ms) ∧ (∀ x, (x = row ∨ x ∈ ms) → x ∈ ln ∨ ∀ y, Stp R x y → y ∈ ms) ∧ ms.length + left_ R ms ≤ R.length ∧ ln.length ≤ ms.length + 1
theorem again_v {n : Nat} {R : List (List Int)} {row : List Int} {cs : CS} (hR : R.length ≤ 100) : callV PrV (n+1) 21 [.tup (R.map rowV), rowV row] cs = some (.ok (.bl (agB R row)), cs) := by
  refine eq_of_W ?_
  rw [call_s (d := v21) rfl rfl]
  have sz := PySem.sizeLine_eq
  have n24 := N24_eq
  simp [v21]
  rw [rowsD_nil (f := fun _ => .bl true)]
  refine while_of (fun m en c => c = cs ∧ IAg R row m en) ?_ (m := 2 * left_ R [] + 1) ⟨rfl, [], [row], none, none, by simp, rfl, by simp, by simp, (fun x z => .inl (by simpa using z)), by simpa using left_le, by simp⟩ (by have := @left_le R []; omega)
  rintro m en c K ⟨rfl, ms, ln, e4, e5, rfl, rfl, i1, i2, i3, i4, i5⟩ hK
  simp
  by_cases hln : ln = []
  · subst hln
    simp [in_rowsD]
    rw [Bool.eq_iff_iff, agB_iff, decide_eq_true_iff]
    refine ⟨fun z => i1 _ z, fun z => z.closed fun x hx y hy => ?_⟩
    rcases i3 x hx with w | w
    · cases w
    · exact w y hy
  · obtain ⟨ln2, here, rfl⟩ : ∃ l x, ln = l ++ [x] := ⟨ln.dropLast, ln.getLast hln, (List.dropLast_concat_getLast hln).symm⟩
    simp [v21_2, mut_pop0]
    have hh : here = row ∨ here ∈ ms := i2 here (by simp)
    refine for_done rowV R (fun done en c2 => c2 = c ∧ ∃ ms2 ln3 e6, en = [some (.tup (R.map rowV)), some (rowV row), some (rowsD .own ms2 fun _ => .bl true), some (.lst .own (ln3.map rowV)), some (rowV here), e6] ∧
          2 * left_ R ms2 + List.length ln3 ≤ 2 * left_ R ms + ln2.length ∧ (∀ x ∈ ms2, Rch R row x) ∧ (∀ x ∈ ln3, x = row ∨ x ∈ ms2) ∧ (∀ x, (x = row ∨ x ∈ ms2) → x ∈ ln3 ∨ x = here ∨ ∀ y, Stp R x y → y ∈ ms2) ∧ ms2.length + left_ R ms2 ≤ R.length ∧ ln3.length ≤ ms2.length + 1 ∧ (here = row ∨ here ∈ ms2) ∧ ∀ y ∈ done, y.dropLast = here.tail → y ∈ ms2) ?_ ?_ ⟨rfl, ms, ln2, e5, rfl, Nat.le_refl _, i1, fun x hx => i2 x (by simp [hx]), fun x hx => ?_, i4, by simp at i5; omega, hh, (fun _ z => by cases z)⟩
    · rintro en c2 ⟨rfl, ms2, ln3, e6, rfl, me, j1, j2, j3, j4, j5, jh, j6⟩
      refine hK (2 * left_ R ms2 + ln3.length) _ _ (by simp; omega) ⟨rfl, ms2, ln3, _, _, rfl, rfl, j1, j2, fun x hx => ?_, j4, j5⟩
      rcases j3 x hx with w | rfl | w
      · exact .inl w
      · exact .inr fun y hy => j6 y hy.1 hy.2
      · exact .inr w
    · rintro done y rest en c2 K2 e ⟨rfl, ms2, ln3, e6, rfl, me, j1, j2, j3, j4, j5, jh, j6⟩ hK2
      have hy : y ∈ R := by rw [e]; simp
      simp [v21_1, cutV_last, cutV_tail]
      by_cases c1 : y.dropLast = here.tail
      · simp [c1, nin_rowsD]
        by_cases c3 : y ∈ ms2
        · simp [c3]
          refine hK2 _ _ ⟨rfl, ms2, ln3, _, rfl, me, j1, j2, j3, j4, j5, jh, fun z hz hd => ?_⟩
          rcases List.mem_append.mp hz with hz | hz
          · exact j6 z hz hd
          · simp at hz; subst hz; exact c3
        · have lt := left_lt hy c3
          simp [c3, put_rowsD (f := fun _ => VD.bl true) c3 (v := .bl true) (w := .bl true) rfl rfl (by omega)]
          refine ⟨by omega, hK2 _ _ ⟨rfl, ms2 ++ [y], ln3 ++ [y], _, by rw [List.map_append]; rfl, by simp; omega, fun z hz => ?_, fun z hz => ?_, fun z hz => ?_, by simp; omega, by simp; omega, jh.imp id fun z => List.mem_append_left _ z, fun z hz hd2 => ?_⟩⟩
          · rcases List.mem_append.mp hz with hz | hz
            · exact j1 z hz
            · simp at hz; subst hz
              rcases jh with rfl | jh
              · exact .one ⟨hy, c1⟩
              · exact .more (j1 _ jh) ⟨hy, c1⟩
          · rcases List.mem_append.mp hz with hz | hz
            · exact (j2 z hz).imp id fun w => List.mem_append_left _ w
            · simp at hz; subst hz; exact .inr (by simp)
          · have fin : (z = row ∨ z ∈ ms2) → z ∈ ln3 ++ [y] ∨ z = here ∨ ∀ w, Stp R z w → w ∈ ms2 ++ [y] := fun hz => by
              rcases j3 z hz with w | w | w
              · exact .inl (List.mem_append_left _ w)
              · exact .inr (.inl w)
              · exact .inr (.inr fun u hu => List.mem_append_left _ (w u hu))
            rcases hz with hz | hz
            · exact fin (.inl hz)
            · rcases List.mem_append.mp hz with hz | hz
              · exact fin (.inr hz)
              · simp at hz; subst hz; exact .inl (by simp)
          · rcases List.mem_append.mp hz with hz | hz
            · exact List.mem_append_left _ (j6 z hz hd2)
            · simp at hz; subst hz; simp
      · simp [c1]
        refine hK2 _ _ ⟨rfl, ms2, ln3, _, rfl, me, j1, j2, j3, j4, j5, jh, fun z hz hd => ?_⟩
        rcases List.mem_append.mp hz with hz | hz
        · exact j6 z hz hd
        · simp at hz; subst hz; exact absurd hd c1
    · rcases i3 x hx with w | w
      · rcases List.mem_append.mp w with w | w
        · exact .inl w
        · simp at w; exact .inr (.inl w)
      · exact .inr (.inr w)
theorem living_v {n : Nat} {R : List (List Int)} {a b : Int} {cs : CS} (hR : R.length ≤ 100) : callV PrV (n+2) 22 [.tup [.int a, .int b, .tup (R.map rowV)]] cs = some (.ok (.lst .own ((aliveR R).map rowV)), cs) := by
  refine eq_of_W ?_
  rw [call_s (d := v22) rfl rfl]
  have sz := PySem.sizeLine_eq
  have at2 : atI [VD.int a, VD.int b, .tup (R.map rowV)] 2 = some (.tup (R.map rowV)) := rfl
  simp [v22, at2]
  rw [turn_map rowV (fun r => if agB R r = true then some (rowV r) else none) R (by omega) fun r hr => ?_]
  · rw [filterMap_keep' rowV]
    have := @alive_len R
    simp
    exact ⟨by unfold aliveR at this; omega, rfl⟩
  · refine eq_of_W ?_
    simp [again_v hR]
def IAl (R : List (List Int)) (row : List Int) (found : List VD) (w : VD) (m : Nat) (en : VEn) : Prop := ∃ (ms : List (List Int)) (at_ : Nat) (ag : Bool) (e6 : Option VD), m = 2 * left_ R ms + (ms.length - at_) ∧ en = [some w, some (.lst .own found), some (rowV row), some (.lst .own (ms.map rowV)), some (.int at_), some (.bl ag), e6, none] ∧
  at_ ≤ ms.length ∧ row ∈ ms ∧ (∀ x ∈ ms, x = row ∨ Rch R row x) ∧ (∀ i x, i < at_ → ms[i]? = some x → ∀ y, Stp R x y → y ∈ ms) ∧ (ag = true ↔ ∃ i x, i < at_ ∧ ms[i]? = some x ∧ Stp R x row) ∧ ms.length + left_ R ms ≤ R.length + 1
theorem alive_v {n : Nat} {R : List (List Int)} {a b : Int} {cs : CS} (hR : R.length ≤ 100) : callV PrV (n+1) 23 [.tup [.int a, .int b, .tup (R.map rowV)]] cs = some (.ok (.lst .own ((aliveR R).map rowV)), cs) := by
  refine eq_of_W ?_
  rw [call_s (d := v23) rfl rfl]
  have sz := PySem.sizeLine_eq
  have n24 := N24_eq
  have at2 : atI [VD.int a, VD.int b, .tup (R.map rowV)] 2 = some (.tup (R.map rowV)) := rfl
  simp [v23, at2]
  refine for_done rowV R (fun done en c => c = cs ∧ ∃ e2 e3 e4 e5 e6, en = [some (.tup [.int a, .int b, .tup (R.map rowV)]), some (.lst .own ((done.filter (agB R)).map rowV)), e2, e3, e4, e5, e6, none]) ?_ ?_ ⟨rfl, none, none, none, none, none, rfl⟩
  · rintro en c ⟨rfl, e2, e3, e4, e5, e6, rfl⟩
    simp [aliveR]
  · rintro done row rest en c K e ⟨rfl, e2, e3, e4, e5, e6, rfl⟩ hK
    have hrow : row ∈ R := by rw [e]; simp
    have hd : done.length + (rest.length + 1) = R.length := by rw [e]; simp
    have hl0 : (done.filter (agB R)).length ≤ done.length := List.length_filter_le _ _
    simp [v23_2]
    refine while_of (fun m en c2 => c2 = c ∧ IAl R row ((done.filter (agB R)).map rowV) (.tup [.int a, .int b, .tup (R.map rowV)]) m en) ?_ (m := 2 * left_ R [row] + 1) ⟨rfl, [row], 0, false, e6, by simp, rfl, Nat.zero_le _, by simp, (fun x hx => .inl (by simpa using hx)), (fun i x hi => absurd hi (Nat.not_lt_zero _)), by simp, by have := @left_le R [row]; simp; omega⟩ (by have := @left_le R [row]; omega)
    rintro m en c2 K2 ⟨rfl, ms, at_, ag, e6', rfl, rfl, a1, i0, i1, i2, i3, i4⟩ hK2
    by_cases hlt : at_ < ms.length
    · have hcur : ms[at_]? = some ms[at_] := List.getElem?_eq_getElem hlt
      generalize hcu : ms[at_] = cur at hcur
      have hat : atI (ms.map rowV) (at_ : Int) = some (rowV cur) := atI_map' hcur
      have hcm : cur ∈ ms := List.mem_of_getElem? hcur
      simp [hlt, v23_1, at2]
      rw [turn_map rowV (fun r => if decide (r.dropLast = cur.tail) = true then some (rowV r) else none) R (by omega) fun r hr => ?_]
      · rw [filterMap_keep' rowV]
        have hl : (R.filter fun o => decide (o.dropLast = cur.tail)).length ≤ R.length := List.length_filter_le _ _
        generalize hS : (R.filter fun o => decide (o.dropLast = cur.tail)) = So at hl
        have memS : ∀ y, y ∈ So ↔ Stp R cur y := fun y => by rw [← hS]; simp [Stp]
        have hnew : So.filter (fun o => !decide (o ∈ ms)) = R.filter fun y => decide (y.dropLast = cur.tail) && !decide (y ∈ ms) := by
          rw [← hS, List.filter_filter]
          congr 1
          funext z
          exact Bool.and_comm _ _
        have lf := left_app (R := R) (ms := ms) (fun y => decide (y.dropLast = cur.tail))
        rw [← hnew] at lf
        have mN : ∀ y, y ∈ So.filter (fun o => !decide (o ∈ ms)) ↔ Stp R cur y ∧ y ∉ ms := fun y => by simp [memS]
        have tn : ∀ one : VD → CS → M (Option VD), (∀ r c, one (rowV r) c = some (.ok (if !decide (r ∈ ms) then some (rowV r) else none), c)) → turnV one (So.map rowV) [] c2 = some (.ok ((So.filter (fun o => !decide (o ∈ ms))).map rowV), c2) := fun one h1 => by
          rw [← filterMap_keep' rowV]
          exact turn_map rowV _ So (by omega) fun r hr => h1 r c2
        have lnew : (So.filter (fun o => !decide (o ∈ ms))).length ≤ So.length := List.length_filter_le _ _
        generalize So.filter (fun o => !decide (o ∈ ms)) = New at lf mN tn lnew
        have inn : ∀ t, vcmp .inn (rowV row) (.lst t (So.map rowV)) = some (decide (row ∈ So)) := fun t => inV_rows
        have fin : ∀ ag2 : Bool, ag2 = (ag || decide (row ∈ So)) → K2 [some (.tup [.int a, .int b, .tup (R.map rowV)]), some (.lst .own ((done.filter (agB R)).map rowV)), some (rowV row), some (.lst .own (ms.map rowV ++ New.map rowV)), some (.int (at_ + 1)), some (.bl ag2), some (.lst .own (So.map rowV)), none] c2 := fun ag2 hag2 => by
          refine hK2 (2 * left_ R (ms ++ New) + ((ms ++ New).length - (at_ + 1))) _ _ (by simp; omega) ⟨rfl, ms ++ New, at_ + 1, ag2, some (.lst .own (So.map rowV)), rfl, by rw [List.map_append]; rfl, by simp; omega, List.mem_append_left _ i0, fun x hx => ?_, fun i x hi hx y hy => ?_, ?_, by simp; omega⟩
          · rcases List.mem_append.mp hx with hx | hx
            · exact i1 x hx
            · have st := ((mN x).mp hx).1
              rcases i1 cur hcm with rfl | rc
              · exact .inr (.one st)
              · exact .inr (.more rc st)
          · by_cases hi2 : i < at_
            · rw [List.getElem?_append_left (by omega)] at hx
              exact List.mem_append_left _ (i2 i x hi2 hx y hy)
            · have : i = at_ := by omega
              subst this
              rw [List.getElem?_append_left hlt, hcur] at hx
              cases hx
              by_cases hm : y ∈ ms
              · exact List.mem_append_left _ hm
              · exact List.mem_append_right _ ((mN y).mpr ⟨hy, hm⟩)
          · rw [hag2, Bool.or_eq_true, i3, decide_eq_true_iff, memS]
            constructor
            · rintro (⟨i, x, hi, hx, st⟩ | st)
              · exact ⟨i, x, by omega, by rw [List.getElem?_append_left (by omega)]; exact hx, st⟩
              · exact ⟨at_, cur, by omega, by rw [List.getElem?_append_left hlt]; exact hcur, st⟩
            · rintro ⟨i, x, hi, hx, st⟩
              by_cases hi2 : i < at_
              · rw [List.getElem?_append_left (by omega)] at hx
                exact .inl ⟨i, x, hi2, hx, st⟩
              · have : i = at_ := by omega
                subst this
                rw [List.getElem?_append_left hlt, hcur] at hx
                cases hx
                exact .inr st
        simp
        refine ⟨by omega, ?_⟩
        cases ag with
        | true =>
          simp
          rw [tn _ fun r c => by simp [ninV_rows]; by_cases h : r ∈ ms <;> simp [h]]
          simp
          exact ⟨by omega, by omega, fin true rfl⟩
        | false =>
          simp [inn]
          rw [tn _ fun r c => by simp [ninV_rows]; by_cases h : r ∈ ms <;> simp [h]]
          simp
          exact ⟨by omega, by omega, fin _ rfl⟩
      · refine eq_of_W ?_
        simp [hat, cutV_last, cutV_tail]
    · have ea : at_ = ms.length := by omega
      subst ea
      simp
      have hag : ag = agB R row := by
        rw [Bool.eq_iff_iff, i3, agB_iff]
        constructor
        · rintro ⟨i, x, hi, hx, st⟩
          rcases i1 x (List.mem_of_getElem? hx) with rfl | rc
          · exact .one st
          · exact .more rc st
        · intro rc
          have cl : ∀ x, (x = row ∨ x ∈ ms) → ∀ y, Stp R x y → y ∈ ms := fun x hx y hy => by
            have hx : x ∈ ms := hx.elim (fun e => e ▸ i0) id
            obtain ⟨i, hi⟩ := List.mem_iff_getElem?.mp hx
            exact i2 i x (List.getElem?_eq_some_iff.mp hi).1 hi y hy
          have fin : ∀ z, (z = row ∨ Rch R row z) → Stp R z row → ∃ i x, i < ms.length ∧ ms[i]? = some x ∧ Stp R x row := fun z hz st => by
            have hz : z ∈ ms := hz.elim (fun e => e ▸ i0) fun r => r.closed cl
            obtain ⟨i, hi⟩ := List.mem_iff_getElem?.mp hz
            exact ⟨i, z, (List.getElem?_eq_some_iff.mp hi).1, hi, st⟩
          cases rc with
          | one st => exact fin _ (.inl rfl) st
          | more r st => exact fin _ (.inr r) st
      subst hag
      cases hp : agB R row with
      | true =>
        simp
        exact ⟨by omega, hK _ _ ⟨rfl, some (rowV row), some (.lst .own (ms.map rowV)), some (.int ms.length), some (.bl true), e6', by simp [List.filter_append, hp]⟩⟩
      | false =>
        simp
        exact hK _ _ ⟨rfl, some (rowV row), some (.lst .own (ms.map rowV)), some (.int ms.length), some (.bl false), e6', by simp [List.filter_append, hp]⟩
end Mp
namespace Mp
open PySem L2
/-- kinds -/
inductive Kd where
  | names (n : Int) | order | wish (hu wi : Nat) (R : List (List Int)) | web (n d : Int)
def Kd.v : Kd → VD
  | .names n => .tup [.str "names", .int n]
  | .order => .tup [.str "order"]
  | .wish hu wi R => .tup [.str "wish", wishV hu wi R]
  | .web n d => .tup [.str "web", .int n, .int d]
/-- a right one of the drawn sort -/
def Kd.ok : Kd → Prop
  | .names n => 3 ≤ n ∧ n ≤ 7
  | .order => True
  | .wish hu wi R => 1 ≤ hu ∧ hu ≤ 4 ∧ (wi = 2 ∨ wi = 3) ∧ R.Sublist (allR hu wi)
  | .web n d => 2 ≤ n ∧ n ≤ 5 ∧ 1 ≤ d ∧ d ≤ 3
def Kd.web? : Kd → Bool
  | .web _ _ => true
  | _ => false
def Kd.order? : Kd → Bool
  | .order => true
  | _ => false
def Kd.names? : Kd → Bool
  | .names _ => true
  | _ => false
def Kd.wish? : Kd → Bool
  | .wish _ _ _ => true
  | _ => false
@[simp] theorem see_kind {k : Kd} : k.v.see = k.v := by cases k <;> rfl
@[simp] theorem esc_kind {k : Kd} : k.v.esc = some k.v := by cases k <;> rfl
@[simp] theorem keep_kind {k : Kd} : k.v.keep = some k.v := by cases k <;> rfl
def Kd.word : Kd → Str
  | .names _ => "names"
  | .order => "order"
  | .wish _ _ _ => "wish"
  | .web _ _ => "web"
@[simp] theorem kind_ix0 {cs : CS} {k : Kd} : vix cs k.v (.int 0) = some (.str k.word) := by cases k <;> rfl
theorem ok_names : PyData.strOk "names" = true := by decide +kernel
theorem ok_order : PyData.strOk "order" = true := by decide +kernel
theorem ok_wish : PyData.strOk "wish" = true := by decide +kernel
theorem ok_web : PyData.strOk "web" = true := by decide +kernel
theorem ok_word (k : Kd) : PyData.strOk k.word = true := by
  cases k
  · exact ok_names
  · exact ok_order
  · exact ok_wish
  · exact ok_web
@[simp] theorem word_web {k : Kd} : vcmp .eq (.str k.word) (.str "web") = some k.web? := by
  rw [eqV_str (ok_word k) ok_web]; cases k <;> rfl
@[simp] theorem word_order {k : Kd} : vcmp .eq (.str k.word) (.str "order") = some k.order? := by
  rw [eqV_str (ok_word k) ok_order]; cases k <;> rfl
@[simp] theorem word_names {k : Kd} : vcmp .eq (.str k.word) (.str "names") = some k.names? := by
  rw [eqV_str (ok_word k) ok_names]; cases k <;> rfl
@[simp] theorem word_wish {k : Kd} : vcmp .eq (.str k.word) (.str "wish") = some k.wish? := by
  rw [eqV_str (ok_word k) ok_wish]; cases k <;> rfl
theorem kind_v {n f b : Nat} {cs : CS} {Q : VD → CS → Prop} {E : XV → CS → Prop} (F : FeedV cs f (b + 75)) (hq : ∀ (k : Kd) cs', k.ok → (∀ hu wi R, k = .wish hu wi R → hu ≤ 3) → FeedV cs' f b → Q k.v cs') : W (callV PrV (n+4) 36 [.cel f] cs) Q E := by
  rw [call_s (d := v36) rfl rfl]
  simp [v36]
  refine take_v (F.mono (by omega) : FeedV cs f ((b + 73) + 1)) (by omega) (by omega) fun v c1 v0 v1 F1 => ?_
  simp
  split
  · refine take_v (F1.mono (by omega) : FeedV c1 f (b + 1)) (by omega) (by omega) fun u c2 u0 u1 F2 => ?_
    simp
    exact hq (.names (3 + u)) _ ⟨by omega, by omega⟩ (fun _ _ _ z => by cases z) F2
  · split
    · try simp
      exact hq .order _ trivial (fun _ _ _ z => by cases z) (F1.mono (by omega))
    · split
      · refine wish_v (n := n) (F1.mono (by omega) : FeedV c1 f (b + 70)) (by omega) fun hu wi R c2 p1 p2 p3 p4 F2 => ?_
        simp [wishV]
        exact hq (.wish hu wi R) _ ⟨p1, by omega, p3, p4⟩ (fun _ _ _ z => by cases z; omega) F2
      · refine take_v (F1.mono (by omega) : FeedV c1 f ((b + 1) + 1)) (by omega) (by omega) fun u c2 u0 u1 F2 => ?_
        simp
        refine take_v F2 (by omega) (by omega) fun z c3 z0 z1 F3 => ?_
        simp
        exact hq (.web (2 + u) (1 + z)) _ ⟨by omega, by omega, by omega, by omega⟩ (fun _ _ _ z => by cases z) F3
end Mp
namespace Mp
open PySem L2
theorem vSort_map {α : Type} {g : α → VD} {k : α → PyData} (hk : ∀ x, pyV 65 (g x) = some (k x)) (l : List α) (h1 : ∀ x ∈ l, ∀ y ∈ l, PySem.W.alike (k x) (k y) = true) (h2 : (∀ x ∈ l, isTupNE (k x) = true) ∨ ∀ x ∈ l, isPlainK (k x) = true) (h3 : ∀ x ∈ l, (k x).depth ≤ 64) (h4 : l.length ≤ sizeLine) :
    vSort (l.map g) = some ((l.mergeSort (PySem.W.dataLe false k)).map g) := by
  unfold vSort
  rw [mapM_map' (f := pyV 65) (g := g) (k := k) hk]
  simp only
  rw [if_pos]
  · congr 1
    have e : (l.map g).zip (l.map k) = l.map fun x => (g x, k x) := by
      rw [List.zip_map']
    rw [e]
    have m : (l.map fun x => (g x, k x)).mergeSort (PySem.W.dataLe false Prod.snd) = (l.mergeSort (PySem.W.dataLe false k)).map fun x => (g x, k x) := (List.map_mergeSort (f := fun x => (g x, k x)) fun _ _ _ _ => rfl).symm
    rw [m, List.map_map]
    rfl
  · simp only [Bool.and_eq_true, List.all_eq_true, List.mem_map, Bool.or_eq_true, decide_eq_true_eq]
    refine ⟨⟨⟨?_, ?_⟩, ?_⟩, by rw [List.length_map]; exact h4⟩
    · rintro p ⟨x, hx, rfl⟩ q ⟨y, hy, rfl⟩
      exact h1 x hx y hy
    · rcases h2 with h2 | h2
      · left; rintro p ⟨x, hx, rfl⟩; exact h2 x hx
      · right; rintro p ⟨x, hx, rfl⟩; exact h2 x hx
    · rintro p ⟨x, hx, rfl⟩; exact h3 x hx
def sortI (ns : List Int) : List Int := ns.mergeSort fun a b => decide (a ≤ b)
theorem sort_ints {ns : List Int} (h : ns.length ≤ sizeLine) : vSort (ns.map .int) = some ((sortI ns).map .int) := by
  rw [vSort_map (k := PyData.int) (fun _ => rfl) ns (fun _ _ _ _ => rfl) (.inr fun _ _ => rfl) (fun _ _ => by simp [PyData.depth]) h]
  rw [show PySem.W.dataLe false PyData.int = fun a b => decide (a ≤ b) from PySem.W.dataLe_int (fun i : Int => i)]
  rfl
theorem sortI_perm (ns : List Int) : (sortI ns).Perm ns := List.mergeSort_perm _ _
@[simp] theorem sortI_len (ns : List Int) : (sortI ns).length = ns.length := List.length_mergeSort _
theorem mem_sortI {ns : List Int} {x : Int} : x ∈ sortI ns ↔ x ∈ ns := List.mem_mergeSort
theorem sortI_sorted (ns : List Int) : (sortI ns).Pairwise (· ≤ ·) := by
  have := List.pairwise_mergeSort (le := fun a b : Int => decide (a ≤ b)) (fun a b c h1 h2 => by simp at *; omega) (fun a b => by simp; omega) ns
  exact this.imp fun h => by simpa using h
theorem sortI_eq {a b : List Int} (h : a.Perm b) : sortI a = sortI b :=
  List.Perm.eq_of_pairwise (le := (· ≤ ·)) (fun x y _ _ h1 h2 => by omega) (sortI_sorted a) (sortI_sorted b) (((sortI_perm a).trans h).trans (sortI_perm b).symm)
theorem sortI_id {a : List Int} (h : a.Pairwise (· ≤ ·)) : sortI a = a :=
  List.Perm.eq_of_pairwise (le := (· ≤ ·)) (fun x y _ _ h1 h2 => by omega) (sortI_sorted a) h (sortI_perm a)
@[simp] theorem W_sortI {t : Tg} {ns : List Int} {cs : CS} {Q : VD → CS → Prop} {E : XV → CS → Prop} (h : ns.length ≤ sizeLine) : W (oM (vbi cs .sorted [.lst t (ns.map .int)]) cs) Q E = Q (.lst .own ((sortI ns).map .int)) cs := by
  rw [show vbi cs .sorted [.lst t (ns.map .int)] = (vSort (ns.map .int)).bind vNew from rfl, sort_ints h]
  show W (oM (vNew _) cs) Q E = _
  rw [W_vNew]
  simp [h]
theorem sorted_ints {t : Tg} {ns : List Int} {cs : CS} (h : ns.length ≤ sizeLine) : vbi cs .sorted [.lst t (ns.map .int)] = some (.lst .own ((sortI ns).map .int)) := by
  rw [show vbi cs .sorted [.lst t (ns.map .int)] = (vSort (ns.map .int)).bind vNew from rfl, sort_ints h]
  exact vNew_ (by simpa using h)
theorem sorted_row {ns : List Int} {cs : CS} (h : ns.length ≤ sizeLine) : vbi cs .sorted [rowV ns] = some (.lst .own ((sortI ns).map .int)) := by
  rw [show vbi cs .sorted [rowV ns] = (vSort (ns.map .int)).bind vNew from rfl, sort_ints h]
  exact vNew_ (by simpa using h)
/-! rows, in order -/
theorem alike_ints : ∀ a b : List Int, PySem.W.alikeAll (a.map .int) (b.map .int) = true
  | [], _ => rfl
  | _ :: _, [] => rfl
  | x :: a, y :: b => by
    simp only [List.map_cons, PySem.W.alikeAll, PySem.W.alike, alike_ints a b, Bool.and_self]
theorem alike_rowP (a b : List Int) : PySem.W.alike (rowP' a) (rowP' b) = true := alike_ints a b
theorem dataLe_rowP : PySem.W.dataLe false rowP' = fun p q => decide (p ≤ q) := by
  funext p q
  show (!PySem.W.dataLt (.tuple (q.map .int)) (.tuple (p.map .int))) = _
  rw [PySem.W.dataLt_tuple]
  show (!PySem.W.rowLt (q.map .int) (p.map .int)) = _
  rw [PySem.W.dataLt_ints]
  by_cases h : q < p
  · have h' : ¬ p ≤ q := fun r => List.not_lt.mpr r h
    simp [h, h']
  · have h' : p ≤ q := List.not_lt.mp h
    simp [h, h']
def sortR (rs : List (List Int)) : List (List Int) := rs.mergeSort fun a b => decide (a ≤ b)
theorem sort_rows {rs : List (List Int)} (hn : ∀ r ∈ rs, r ≠ []) (h : rs.length ≤ sizeLine) : vSort (rs.map rowV) = some ((sortR rs).map rowV) := by
  rw [vSort_map (k := rowP') (fun _ => pyV_row) rs (fun _ _ _ _ => alike_rowP _ _) (.inl fun r hr => ?_) (fun r _ => by have := (lay_row' r).2; omega) h]
  · rw [dataLe_rowP]; rfl
  · have := hn r hr
    cases r with
    | nil => exact absurd rfl this
    | cons x r => rfl
theorem sortR_perm (ns : List (List Int)) : (sortR ns).Perm ns := List.mergeSort_perm _ _
@[simp] theorem sortR_len (ns : List (List Int)) : (sortR ns).length = ns.length := List.length_mergeSort _
theorem mem_sortR {ns : List (List Int)} {x : List Int} : x ∈ sortR ns ↔ x ∈ ns := List.mem_mergeSort
theorem sortR_sorted (ns : List (List Int)) : (sortR ns).Pairwise (· ≤ ·) := by
  have := List.pairwise_mergeSort (le := fun a b : List Int => decide (a ≤ b)) (fun a b c h1 h2 => by simp at *; exact List.le_trans h1 h2) (fun a b => by simp; exact List.le_total a b) ns
  exact this.imp fun h => by simpa using h
theorem sortR_eq {a b : List (List Int)} (h : a.Perm b) : sortR a = sortR b :=
  List.Perm.eq_of_pairwise (le := (· ≤ ·)) (fun x y _ _ h1 h2 => List.le_antisymm h1 h2) (sortR_sorted a) (sortR_sorted b) (((sortR_perm a).trans h).trans (sortR_perm b).symm)
theorem sortR_id {a : List (List Int)} (h : a.Pairwise (· ≤ ·)) : sortR a = a :=
  List.Perm.eq_of_pairwise (le := (· ≤ ·)) (fun x y _ _ h1 h2 => List.le_antisymm h1 h2) (sortR_sorted a) h (sortR_perm a)
theorem sorted_rows {t : Tg} {rs : List (List Int)} {cs : CS} (hn : ∀ r ∈ rs, r ≠ []) (h : rs.length ≤ sizeLine) : vbi cs .sorted [.lst t (rs.map rowV)] = some (.lst .own ((sortR rs).map rowV)) := by
  rw [show vbi cs .sorted [.lst t (rs.map rowV)] = (vSort (rs.map rowV)).bind vNew from rfl, sort_rows hn h]
  exact vNew_ (by simpa using h)
end Mp
namespace Mp
open PySem L2
/-! ### what is shown -/
theorem ok_app (x y : Str) : PyData.strOk (x ++ y) = (PyData.strOk x && PyData.strOk y) := by
  show (x.cps ++ y.cps).all _ = _
  rw [Array.all_append]
  rfl
theorem ok_of (s : String) : PyData.strOk (Str.ofString s) = true := by
  rw [Str.ofString_eq_toList]
  unfold PyData.strOk
  rw [Array.all_eq_true_iff_forall_mem]
  intro c hc
  simp at hc
  obtain ⟨d, _, rfl⟩ := hc
  have := d.valid
  simp
  rcases this with h | h
  · exact Nat.lt_trans h (by decide)
  · exact h.2
mutual
def good : PyData → Bool
  | .none => true
  | .bool _ => true
  | .int i => decide (i.natAbs < 10 ^ 40)
  | .str s => PyData.strOk (PyData.shown (.str s)) && decide ((PyData.shown (.str s)).length ≤ 41) && PyData.showable (.str s)
  | .list xs => goodAll xs
  | .tuple xs => goodAll xs
  | .dict _ => false
def goodAll : List PyData → Bool
  | [] => true
  | x :: xs => good x && goodAll xs
end
mutual
def shW : PyData → Nat
  | .none => 5
  | .bool _ => 5
  | .int _ => 41
  | .str _ => 41
  | .list xs => shWA xs + 4
  | .tuple xs => shWA xs + 4
  | .dict _ => 0
def shWA : List PyData → Nat
  | [] => 0
  | x :: xs => shW x + 2 + shWA xs
end
theorem textFrom_ok : ∀ (ts : List Str) (k : Nat) (acc : Str), PyData.strOk acc = true → (∀ t ∈ ts, PyData.strOk t = true) → PyData.strOk (PySem.textFrom k acc ts) = true
  | [], _, acc, h, _ => h
  | t :: r, k, acc, h, ht => by
    refine textFrom_ok r (k + 1) _ ?_ fun u hu => ht u (List.mem_cons_of_mem _ hu)
    rw [ok_app, ok_app, h, ht t List.mem_cons_self, ok_of]
    rfl
theorem join_ok : ∀ ts : List Str, (∀ t ∈ ts, PyData.strOk t = true) → PyData.strOk (Str.join ", " ts) = true
  | [], _ => by decide +kernel
  | [x], h => h x List.mem_cons_self
  | x :: y :: r, h => by
    have ih := join_ok (y :: r) fun t ht => h t (List.mem_cons_of_mem _ ht)
    show PyData.strOk (x ++ ", " ++ Str.join ", " (y :: r)) = true
    rw [ok_app, ok_app, h x List.mem_cons_self, ih, ok_of]
    rfl
theorem int_shown (i : Int) (h : i.natAbs < 10 ^ 40) : PyData.strOk (PyData.shown (.int i)) = true ∧ (PyData.shown (.int i)).length ≤ 41 := by
  have e : PyData.shown (.int i) = Str.ofString (toString i) := by simp only [PyData.shown]
  rw [e]
  refine ⟨ok_of _, ?_⟩
  rw [PySem.ofString_length]
  exact PySem.int_text_length_le10 (by decide) h
theorem log_lt {n : Nat} (h : n < 10 ^ 40) : n.log2 < 1920 := by
  by_cases h0 : n = 0
  · subst h0; decide
  · rw [Nat.log2_lt h0]
    exact Nat.lt_of_lt_of_le h (Nat.le_trans (by decide : 10 ^ 40 ≤ 2 ^ 140) (Nat.pow_le_pow_right (by decide) (by decide)))
theorem list_len (ts : List Str) : (PySem.listText ts).length ≤ PySem.piled ts + 2 := by
  cases ts with
  | nil => decide +kernel
  | cons t r =>
    have h := PySem.textFrom_length_pos r 1 (("[" : Str) ++ (if (0 : Nat) > 0 then ", " else "" : String) ++ t) (Nat.succ_pos 0)
    have e : ((("[" : Str) ++ (if (0 : Nat) > 0 then ", " else "" : String) ++ t)).length = 1 + t.length := by
      rw [strLen_append, strLen_append]; rfl
    have hX : (PySem.listText (t :: r)).length = (PySem.textFrom 0 "[" (t :: r)).length + 1 := by
      show (PySem.textFrom 0 "[" (t :: r) ++ "]").length = _
      rw [strLen_append]; rfl
    have hY : (PySem.textFrom 0 "[" (t :: r)).length = (PySem.textFrom 1 (("[" : Str) ++ (if (0 : Nat) > 0 then ", " else "" : String) ++ t) r).length := rfl
    rw [hX, hY, h, e, PySem.piled_cons]; omega
theorem tup_len (ts : List Str) : (PySem.tupleText ts).length ≤ PySem.piled ts + 3 := by
  unfold PySem.tupleText
  rw [strLen_append, strLen_append]
  have e1 : ((("(" : String) : Str)).length = 1 := rfl
  have e3 : (((if ts.length == 1 then ",)" else ")" : String) : Str)).length ≤ 2 := by split <;> decide
  rw [e1]
  by_cases h : ts = []
  · subst h
    have : (Str.join ", " []).length = 0 := by decide +kernel
    rw [this]
    simp [PySem.piled] at e3 ⊢
    omega
  · have := PySem.join_length_add ts h
    omega
mutual
theorem shown_all : ∀ p : PyData, good p = true → PyData.strOk p.shown = true ∧ p.shown.length ≤ shW p ∧ p.showable = true ∧ p.hasDict = false
  | .none, _ => by decide +kernel
  | .bool b, _ => by cases b <;> decide +kernel
  | .int i, h => by
    have h : i.natAbs < 10 ^ 40 := by simpa [good] using h
    obtain ⟨a, b⟩ := int_shown i h
    exact ⟨a, by simpa [shW] using b, by simpa [PyData.showable] using log_lt h, by simp [PyData.hasDict]⟩
  | .str s, h => by
    have h : (PyData.strOk (PyData.shown (.str s)) = true ∧ (PyData.shown (.str s)).length ≤ 41) ∧ PyData.showable (.str s) = true := by simpa only [good, Bool.and_eq_true, decide_eq_true_eq] using h
    exact ⟨h.1.1, by simpa [shW] using h.1.2, h.2, by simp [PyData.hasDict]⟩
  | .dict _, h => by simp [good] at h
  | .list xs, h => by
    obtain ⟨a, b, c, d⟩ := shown_alls xs (by simpa [good] using h)
    refine ⟨?_, ?_, by simpa [PyData.showable] using c, by simpa [PyData.hasDict] using d⟩
    · simp only [PyData.shown]
      show PyData.strOk (PySem.textFrom 0 "[" (PyData.shownAll xs) ++ "]") = true
      rw [ok_app, textFrom_ok _ _ _ (ok_of _) a, ok_of]
      rfl
    · simp only [PyData.shown, shW]
      have := list_len (PyData.shownAll xs)
      omega
  | .tuple xs, h => by
    obtain ⟨a, b, c, d⟩ := shown_alls xs (by simpa [good] using h)
    refine ⟨?_, ?_, by simpa [PyData.showable] using c, by simpa [PyData.hasDict] using d⟩
    · simp only [PyData.shown]
      unfold PySem.tupleText
      rw [ok_app, ok_app, join_ok _ a, ok_of, ok_of]
      rfl
    · simp only [PyData.shown, shW]
      have := tup_len (PyData.shownAll xs)
      omega
theorem shown_alls : ∀ xs : List PyData, goodAll xs = true → (∀ t ∈ PyData.shownAll xs, PyData.strOk t = true) ∧ PySem.piled (PyData.shownAll xs) ≤ shWA xs ∧ PyData.showableAll xs = true ∧ PyData.hasDictAll xs = false
  | [], _ => ⟨fun t ht => by simp [PyData.shownAll] at ht, by simp [PyData.shownAll, PySem.piled, shWA], by simp [PyData.showableAll], by simp [PyData.hasDictAll]⟩
  | x :: xs, h => by
    have h : good x = true ∧ goodAll xs = true := by simpa [goodAll] using h
    obtain ⟨a1, b1, c1, d1⟩ := shown_all x h.1
    obtain ⟨a2, b2, c2, d2⟩ := shown_alls xs h.2
    refine ⟨fun t ht => ?_, ?_, by simp [PyData.showableAll, c1, c2], by simp [PyData.hasDictAll, d1, d2]⟩
    · simp only [PyData.shownAll] at ht
      rcases List.mem_cons.mp ht with rfl | ht
      · exact a1
      · exact a2 t ht
    · simp only [PyData.shownAll, shWA, PySem.piled_cons]
      omega
end
/-- shown well -/
structure Sh (v : VD) (s : Str) : Prop where
  rp : ∀ cs, vbi cs .repr [v] = some (.str s)
  ok : PyData.strOk s = true
theorem sh_of {x : VD} {p : PyData} (e : pyV 65 x = some p) (g : good p = true) (hd : p.depth ≤ 64) (hw : shW p ≤ sizeLine) : Sh x p.shown := by
  obtain ⟨a, b, c, d⟩ := shown_all p g
  refine ⟨fun cs => ?_, a⟩
  show (match pyV 65 x with | some p => if p.showable && !p.hasDict && decide (p.depth ≤ 64) && decide (p.shown.length ≤ sizeLine) then some (VD.str p.shown) else none | none => none) = _
  rw [e]
  have : p.shown.length ≤ sizeLine := Nat.le_trans b hw
  simp [c, d, hd, this]
@[simp] theorem ne_same_ {s : Str} (hs : PyData.strOk s = true) : vcmp .ne (.str s) (.str s) = some false := by
  show (eqV (.str s) (.str s)).map (!·) = _
  rw [show eqV (.str s) (.str s) = some (s == s) from eqV_str hs hs]
  simp
theorem shWA_ints : ∀ r : List Int, shWA (r.map .int) = 43 * r.length
  | [] => rfl
  | x :: r => by simp only [List.map_cons, shWA, shW, shWA_ints r, List.length_cons]; omega
theorem good_ints : ∀ {r : List Int}, (∀ x ∈ r, x.natAbs < 10 ^ 40) → goodAll (r.map .int) = true
  | [], _ => rfl
  | x :: r, h => by
    simp only [List.map_cons, goodAll, good, Bool.and_eq_true, decide_eq_true_eq]
    exact ⟨h x List.mem_cons_self, good_ints fun y hy => h y (List.mem_cons_of_mem _ hy)⟩
theorem sh_row {r : List Int} (h : ∀ x ∈ r, x.natAbs < 10 ^ 40) (hl : r.length ≤ 1000) : Sh (rowV r) (rowP' r).shown :=
  sh_of pyV_row (good_ints h) (by have := (lay_row' r).2; omega) (by
    show shWA (r.map .int) + 4 ≤ sizeLine
    have := PySem.sizeLine_eq
    rw [shWA_ints]; omega)
theorem sh_nest {i : Int} {r : List Int} (hi : i.natAbs < 10 ^ 40) (h : ∀ x ∈ r, x.natAbs < 10 ^ 40) (hl : r.length ≤ 1000) : Sh (.tup [.int i, rowV r]) (PyData.tuple [.int i, rowP' r]).shown := by
  refine sh_of (p := .tuple [.int i, rowP' r]) ?_ ?_ ?_ ?_
  · show ([VD.int i, rowV r].mapM (pyV 64)).map PyData.tuple = _
    simp [pyV_row]
  · have := good_ints h
    simp [good, goodAll, rowP', hi, this]
  · have := (lay_row' r).2
    simp [PyData.depth, PyData.depthAll, this]
  · have := PySem.sizeLine_eq
    simp only [shW, shWA, rowP', shWA_ints]
    omega
end Mp
namespace Mp
open PySem L2
/-! ### what houses see -/
/-- worlds: a ring's letters; a web's names and links -/
inductive Wd where
  | ring (r : List Int) | web (ns : List Int) (ls : List (Int × Int))
def linkV (p : Int × Int) : VD := rowV [p.1, p.2]
@[simp] theorem see_link {p : Int × Int} : (linkV p).see = linkV p := rfl
@[simp] theorem esc_link {p : Int × Int} : (linkV p).esc = some (linkV p) := rfl
@[simp] theorem bind_link {p : Int × Int} {i j : Nat} {en : VEn} : bindV (.tup [i, j]) (linkV p) en = some ((en.set i (some (.int p.1))).set j (some (.int p.2))) := rfl
def Wd.v : Wd → VD
  | .ring r => rowV r
  | .web ns ls => .tup [rowN ns, .tup (ls.map linkV)]
def partR (r : List Int) (first : Int) (many : Nat) : List Int := (List.range many).map fun (k : Nat) => r.getD ((first + k) % r.length).toNat 0
def orderR (r : List Int) : List Int := r.map fun x => ((r.filter fun y => decide (y < x)).length : Int)
def besideR (ls : List (Int × Int)) (nm : Int) : List Int := sortI (((ls.filter fun p => decide (p.1 = nm)).map (·.2)) ++ ((ls.filter fun p => decide (p.2 = nm)).map (·.1)))
theorem isweb_v {n : Nat} {k : Kd} {cs : CS} : callV PrV (n+1) 28 [k.v] cs = some (.ok (.bl k.web?), cs) := by
  refine eq_of_W ?_
  rw [call_s (d := v28) rfl rfl]
  simp [v28]
theorem at_mod {r : List Int} {i : Int} (hr : 0 < r.length) : atI r (i % r.length) = some (r.getD (i % r.length).toNat 0) := by
  have h0 := Int.emod_nonneg i (show (r.length : Int) ≠ 0 by omega)
  have h1 := Int.emod_lt_of_pos i (show 0 < (r.length : Int) by omega)
  have hl : (i % r.length).toNat < r.length := by omega
  have := atI_nat (List.getElem?_eq_getElem hl)
  rw [show (((i % r.length).toNat : Nat) : Int) = i % r.length by omega] at this
  rw [this, List.getD_eq_getElem?_getD, List.getElem?_eq_getElem hl]
  rfl
theorem part_v {n : Nat} {r : List Int} {first : Int} {many : Nat} {cs : CS} (hr : 0 < r.length) (h1 : -1000 ≤ first ∧ first ≤ 1000) (h2 : many ≤ 1000) : callV PrV (n+1) 33 [rowV r, .int first, .int many] cs = some (.ok (rowV (partR r first many)), cs) := by
  refine eq_of_W ?_
  rw [call_s (d := v33) rfl rfl]
  have b62 := B62_eq
  have sz := PySem.sizeLine_eq
  simp [v33]
  rw [walk_rng2 (by omega) (by omega) (by omega) (by omega)]
  simp only [W_oM_some, oM_some_, W_ok]
  rw [turn_map (fun (k : Nat) => VD.int (first + k)) (fun k => some (VD.int (r.getD ((first + k) % r.length).toNat 0))) _ (by rw [List.length_range]; omega) fun k hk => ?_]
  · rw [filterMap_all' fun (k : Nat) => VD.int (r.getD ((first + k) % r.length).toNat 0)]
    have e : (first + (many : Int) - first).toNat = many := by omega
    rw [e]
    have e2 : (List.range many).map (fun (k : Nat) => VD.int (r.getD ((first + k) % r.length).toNat 0)) = (partR r first many).map .int := by rw [partR, List.map_map]; rfl
    rw [e2]
    simp only [W_ok, List.length_map]
    exact ⟨by simp [partR]; omega, rfl, trivial⟩
  · refine eq_of_W ?_
    simp [at_mod hr]
    omega
theorem order_v {n : Nat} {r : List Int} {cs : CS} (hr : r.length ≤ 1000) : callV PrV (n+1) 43 [rowV r] cs = some (.ok (rowV (orderR r)), cs) := by
  refine eq_of_W ?_
  rw [call_s (d := v43) rfl rfl]
  have sz := PySem.sizeLine_eq
  simp [v43]
  rw [turn_map VD.int (fun x => some (VD.int ((r.filter fun y => decide (y < x)).length : Int))) r (by omega) fun x hx => ?_]
  · rw [filterMap_all' fun (x : Int) => VD.int ((r.filter fun y => decide (y < x)).length : Int)]
    have e2 : r.map (fun (x : Int) => VD.int ((r.filter fun y => decide (y < x)).length : Int)) = (orderR r).map .int := by rw [orderR, List.map_map]; rfl
    rw [e2]
    simp only [W_ok, List.length_map]
    exact ⟨by simp [orderR]; omega, rfl, trivial⟩
  · refine eq_of_W ?_
    simp
    rw [turn_map VD.int (fun y => if decide (y < x) = true then some (VD.int y) else none) r (by omega) fun y hy => ?_]
    · rw [filterMap_keep' VD.int]
      have := List.length_filter_le (fun y => decide (y < x)) r
      simp
      omega
    · refine eq_of_W ?_
      simp
      try (by_cases c : y < x <;> simp [c])
theorem beside_v {n : Nat} {ls : List (Int × Int)} {nm : Int} {cs : CS} (hl : ls.length ≤ 1000) : callV PrV (n+1) 31 [.tup (ls.map linkV), .int nm] cs = some (.ok (rowV (besideR ls nm)), cs) := by
  refine eq_of_W ?_
  rw [call_s (d := v31) rfl rfl]
  have sz := PySem.sizeLine_eq
  simp [v31]
  have l1 := List.length_filter_le (fun p : Int × Int => decide (p.1 = nm)) ls
  have l2 := List.length_filter_le (fun p : Int × Int => decide (p.2 = nm)) ls
  rw [turn_map linkV (fun p => if decide (p.1 = nm) = true then some (VD.int p.2) else none) ls (by omega) fun p hp => ?_]
  · rw [filterMap_keep' fun p : Int × Int => VD.int p.2]
    simp
    refine ⟨by omega, ?_⟩
    rw [turn_map linkV (fun p => if decide (p.2 = nm) = true then some (VD.int p.1) else none) ls (by omega) fun p hp => ?_]
    · rw [filterMap_keep' fun p : Int × Int => VD.int p.1]
      have e : (ls.filter fun p => decide (p.1 = nm)).map (fun p : Int × Int => VD.int p.2) ++ (ls.filter fun p => decide (p.2 = nm)).map (fun p : Int × Int => VD.int p.1) = (((ls.filter fun p => decide (p.1 = nm)).map (·.2)) ++ ((ls.filter fun p => decide (p.2 = nm)).map (·.1))).map VD.int := by
        rw [List.map_append, List.map_map, List.map_map]; rfl
      simp
      rw [e, W_sortI (by simp; omega)]
      simp
      exact ⟨by omega, by omega, rfl⟩
    · refine eq_of_W ?_
      simp
  · refine eq_of_W ?_
    simp
/-- a right world, its numbers small -/
def Wd.fits (k : Kd) : Wd → Prop
  | .ring r => k.web? = false ∧ 3 ≤ r.length ∧ r.length ≤ 200
  | .web ns ls => k.web? = true ∧ ns.length ≤ 10 ∧ ls.length ≤ 100 ∧ 1 ≤ ns.length ∧ ∀ p ∈ ls, p.1 < p.2
def Wd.size : Wd → Nat
  | .ring r => r.length
  | .web ns _ => ns.length
/-- what a house sees -/
def sightR (k : Kd) (w : Wd) (h : Nat) (t : Nat) : VD := match w with
  | .ring r => if k.order? = true then rowV (orderR (partR r ((h : Int) - t) (2 * t + 1))) else rowV (partR r ((h : Int) - t) (2 * t + 1))
  | .web ns ls => if t = 0 then rowV [ns.getD h 0] else .tup [.int (ns.getD h 0), rowV (besideR ls (ns.getD h 0))]
theorem at_nat {r : List Int} {h : Nat} (hl : h < r.length) : atI r (h : Int) = some (r.getD h 0) := by
  rw [atI_nat (List.getElem?_eq_getElem hl), List.getD_eq_getElem?_getD, List.getElem?_eq_getElem hl]
  rfl
@[simp] theorem see_wd {w : Wd} : w.v.see = w.v := by cases w <;> rfl
@[simp] theorem esc_wd {w : Wd} : w.v.esc = some w.v := by cases w <;> rfl
@[simp] theorem keep_wd {w : Wd} : w.v.keep = some w.v := by cases w <;> rfl
theorem sight_v {n : Nat} {k : Kd} {w : Wd} {h t : Nat} {cs : CS} (hw : w.fits k) (hh : h < w.size) (ht : t ≤ 2) : callV PrV (n+2) 44 [k.v, w.v, .int h, .int t] cs = some (.ok (sightR k w h t), cs) := by
  refine eq_of_W ?_
  rw [call_s (d := v44) rfl rfl]
  have b64 := B64_eq
  cases w with
  | ring r =>
    obtain ⟨w1, w2, w3⟩ := hw
    have hh : h < r.length := hh
    simp [v44, isweb_v, w1, Wd.v]
    refine ⟨by omega, ?_⟩
    rw [show (2 : Int) * (t : Int) + 1 = ((2 * t + 1 : Nat) : Int) by omega, part_v (by omega) (by omega) (by omega)]
    simp
    cases e : k.order? with
    | false => simp [sightR, e]
    | true =>
      simp [sightR, e]
      rw [order_v (by simp [partR]; omega)]
      simp
  | web ns ls =>
    obtain ⟨w1, w2, w3, w4, w5⟩ := hw
    have hh : h < ns.length := hh
    have a0 : atI [rowN ns, .tup (ls.map linkV)] 0 = some (rowN ns) := rfl
    have a1 : atI [rowN ns, .tup (ls.map linkV)] 1 = some (.tup (ls.map linkV)) := rfl
    simp [v44, isweb_v, w1, Wd.v, a0, a1, at_nat hh]
    by_cases c : t = 0
    · simp [c, sightR]; rfl
    · simp [c, sightR]
      rw [beside_v (by omega)]
      simp
/-! ### the law's own -/
theorem idx_of {l : List Int} {x : Int} (hs : l.Pairwise (· ≤ ·)) (hx : x ∈ l) : l.findIdx? (fun z => decide (z = x)) = some ((l.filter fun y => decide (y < x)).length) := by
  induction l with
  | nil => cases hx
  | cons a l ih =>
    obtain ⟨h1, h2⟩ := List.pairwise_cons.mp hs
    rw [List.findIdx?_cons]
    by_cases e : a = x
    · subst e
      have : l.filter (fun y => decide (y < a)) = [] := by
        rw [List.filter_eq_nil_iff]
        intro y hy
        have := h1 y hy
        simp; omega
      simp [List.filter_cons, this]
    · have hx' : x ∈ l := by
        rcases List.mem_cons.mp hx with z | z
        · exact absurd z.symm e
        · exact z
      have lt : a < x := by have := h1 x hx'; omega
      simp [e, ih h2 hx', List.filter_cons, lt]
theorem index_ints {t : Tg} {ns : List Int} {x : Int} {i : Nat} {cs : CS} (h : ns.findIdx? (fun z => decide (z = x)) = some i) : vmt cs .index (.lst t (ns.map .int)) [.int x] = some (.int i, cs) := by
  show (vask .index (.lst t (ns.map .int)) [.int x]).map (fun d => (d, cs)) = _
  have p1 : pyV 65 (.lst .shr (ns.map .int)) = some (.list (ns.map .int)) := pyV_intsL _
  show (match pyV 65 (.lst .shr (ns.map .int)), pyV 65 (.int x) with | some (.list ds), some a => (if SeqAt.shaped a && SeqAt.shaped (.list ds) then (ds.findIdx? fun z => PyData.eqv z a).map fun j => VD.int (j : Nat) else none) | _, _ => none).map (fun d => (d, cs)) = _
  rw [p1]
  simp only [pyV, shaped_int, shaped_intsL, Bool.and_self, if_true]
  rw [List.findIdx?_map]
  have : ((fun z => PyData.eqv z (.int x)) ∘ PyData.int) = fun z => decide (z = x) := by
    funext z
    simp only [Function.comp, PyData.eqv]
    by_cases h : z = x <;> simp [h]
  rw [this, h]
  rfl
theorem laworder_v {n : Nat} {r : List Int} {cs : CS} (hr : r.length ≤ 1000) : callV PrV (n+1) 45 [rowV r] cs = some (.ok (rowV (orderR r)), cs) := by
  refine eq_of_W ?_
  rw [call_s (d := v45) rfl rfl]
  have sz := PySem.sizeLine_eq
  simp [v45]
  rw [turn_map VD.int (fun x => some (VD.int ((r.filter fun y => decide (y < x)).length : Int))) r (by omega) fun x hx => ?_]
  · rw [filterMap_all' fun (x : Int) => VD.int ((r.filter fun y => decide (y < x)).length : Int)]
    have e2 : r.map (fun (x : Int) => VD.int ((r.filter fun y => decide (y < x)).length : Int)) = (orderR r).map .int := by rw [orderR, List.map_map]; rfl
    rw [e2]
    simp only [W_ok, List.length_map]
    exact ⟨by simp [orderR]; omega, rfl, trivial⟩
  · refine eq_of_W ?_
    simp [sorted_row (show r.length ≤ sizeLine by omega)]
    have := idx_of (sortI_sorted r) (mem_sortI.mpr hx)
    rw [((sortI_perm r).filter _).length_eq] at this
    rw [index_ints this]
    simp
theorem lawbeside_perm {ls : List (Int × Int)} {nm : Int} (h : ∀ p ∈ ls, p.1 < p.2) : ((ls.filter fun p => decide (nm ∈ [p.1, p.2])).map fun p => p.1 + p.2 - nm).Perm (((ls.filter fun p => decide (p.1 = nm)).map (·.2)) ++ ((ls.filter fun p => decide (p.2 = nm)).map (·.1))) := by
  induction ls with
  | nil => exact .refl _
  | cons p ls ih =>
    have ih := ih fun q hq => h q (List.mem_cons_of_mem _ hq)
    have hp := h p List.mem_cons_self
    by_cases c1 : p.1 = nm
    · subst c1
      have c2 : ¬ p.2 = p.1 := by omega
      have e : p.1 + p.2 - p.1 = p.2 := by omega
      simp only [List.filter_cons, List.mem_cons, List.not_mem_nil, or_false, c2, decide_true, decide_false, true_or, if_true, Bool.false_eq_true, if_false, List.map_cons, List.cons_append, e]
      exact .cons _ (by simpa using ih)
    · by_cases c2 : p.2 = nm
      · subst c2
        have e : p.1 + p.2 - p.2 = p.1 := by omega
        simp only [List.filter_cons, List.mem_cons, List.not_mem_nil, or_false, c1, decide_true, decide_false, or_true, if_true, Bool.false_eq_true, if_false, List.map_cons, e]
        exact .trans (.cons _ (by simpa using ih)) List.perm_middle.symm
      · have c3 : ¬ (nm = p.1 ∨ nm = p.2) := by omega
        simp only [List.filter_cons, List.mem_cons, List.not_mem_nil, or_false, c3, c1, c2, decide_false, Bool.false_eq_true, if_false]
        simpa using ih
theorem lawbeside_v {n : Nat} {ls : List (Int × Int)} {nm : Int} {cs : CS} (hl : ls.length ≤ 1000) (h : ∀ p ∈ ls, p.1 < p.2) : callV PrV (n+1) 46 [.tup (ls.map linkV), .int nm] cs = some (.ok (rowV (besideR ls nm)), cs) := by
  refine eq_of_W ?_
  rw [call_s (d := v46) rfl rfl]
  have sz := PySem.sizeLine_eq
  simp [v46]
  have l1 := List.length_filter_le (fun p : Int × Int => decide (nm ∈ [p.1, p.2])) ls
  rw [turn_map linkV (fun p => if decide (nm ∈ [p.1, p.2]) = true then some (VD.int (p.1 + p.2 - nm)) else none) ls (by omega) fun p hp => ?_]
  · rw [filterMap_keep' fun p : Int × Int => VD.int (p.1 + p.2 - nm)]
    have e : (ls.filter fun p => decide (nm ∈ [p.1, p.2])).map (fun p : Int × Int => VD.int (p.1 + p.2 - nm)) = ((ls.filter fun p => decide (nm ∈ [p.1, p.2])).map fun p => p.1 + p.2 - nm).map VD.int := by rw [List.map_map]; rfl
    rw [e]
    simp only [W_ok, List.length_map]
    refine ⟨by omega, ?_⟩
    rw [W_sortI (by rw [List.length_map]; omega), sortI_eq (lawbeside_perm h)]
    simp
    rfl
  · refine eq_of_W ?_
    have e1 : vcmp .inn (.int nm) (linkV p) = some (decide (nm ∈ [p.1, p.2])) := inV_row
    have e2 : vbi cs .sum [linkV p] = some (.int (p.1 + p.2)) := by
      show (vInts [.int p.1, .int p.2]).map (fun bs => VD.int bs.sum) = _
      simp [vInts]
    simp [e1, e2]
    by_cases c1 : nm = p.1 <;> by_cases c2 : nm = p.2 <;> simp [c1, c2]
theorem lawsight_v {n : Nat} {k : Kd} {w : Wd} {h t : Nat} {cs : CS} (hw : w.fits k) (hh : h < w.size) (ht : t ≤ 2) : callV PrV (n+2) 47 [k.v, w.v, .int h, .int t] cs = some (.ok (sightR k w h t), cs) := by
  refine eq_of_W ?_
  rw [call_s (d := v47) rfl rfl]
  have b62 := B62_eq
  have sz := PySem.sizeLine_eq
  cases w with
  | ring r =>
    obtain ⟨w1, w2, w3⟩ := hw
    have hh : h < r.length := hh
    simp [v47, w1, Wd.v]
    rw [walk_rng2 (by omega) (by omega) (by omega) (by omega)]
    simp only [W_oM_some, oM_some_, W_ok]
    rw [turn_map (fun (j : Nat) => VD.int (-(t : Int) + j)) (fun j => some (VD.int (r.getD (((h : Int) - t + j) % r.length).toNat 0))) _ (by rw [List.length_range]; omega) fun j hj => ?_]
    · rw [filterMap_all' fun (j : Nat) => VD.int (r.getD (((h : Int) - t + j) % r.length).toNat 0)]
      have e : ((t : Int) + 1 - -(t : Int)).toNat = 2 * t + 1 := by omega
      rw [e]
      have e2 : (List.range (2 * t + 1)).map (fun (j : Nat) => VD.int (r.getD (((h : Int) - t + j) % r.length).toNat 0)) = (partR r ((h : Int) - t) (2 * t + 1)).map .int := by rw [partR, List.map_map]; rfl
      rw [e2]
      simp only [W_ok, List.length_map]
      refine ⟨by simp [partR]; omega, ?_⟩
      cases e : k.order? with
      | false => simp [sightR, e]
      | true =>
        simp [sightR, e]
        rw [laworder_v (by simp [partR]; omega)]
        simp
    · refine eq_of_W ?_
      have e3 : (h : Int) + (-(t : Int) + j) = (h : Int) - t + j := by omega
      simp [e3, at_mod (show 0 < r.length by omega)]
      omega
  | web ns ls =>
    obtain ⟨w1, w2, w3, w4, w5⟩ := hw
    have hh : h < ns.length := hh
    have a0 : atI [rowN ns, .tup (ls.map linkV)] 0 = some (rowN ns) := rfl
    have a1 : atI [rowN ns, .tup (ls.map linkV)] 1 = some (.tup (ls.map linkV)) := rfl
    simp [v47, w1, Wd.v, a0, a1, at_nat hh]
    by_cases c : t = 0
    · simp [c, sightR]; rfl
    · have c2 : 0 < t := by omega
      simp [c2, sightR, c]
      rw [lawbeside_v (by omega) w5]
      simp
end Mp
namespace Mp
open PySem L2
/-! ### a drawn ring of a wish -/
theorem tail_cut' {ls r : List Int} {wi : Nat} (h : EndsIn ls r) (hr : r.length = wi) (hw : 2 ≤ wi) : cutV ls (some (1 - (wi : Int))) none = r.tail := by
  obtain ⟨pre, rfl⟩ := h
  have e0 : HT.sIx (pre ++ r).length 0 (some (1 - (wi : Int))) = pre.length + 1 := by
    rw [sIx_neg' (by omega)]
    have : (pre ++ r).length = pre.length + r.length := List.length_append
    omega
  have e1 : HT.sIx (pre ++ r).length (pre ++ r).length none = (pre ++ r).length := rfl
  have e3 : (pre ++ r).drop (pre.length + 1) = r.tail := by
    rw [← List.drop_drop, List.drop_left, List.drop_one]
  unfold cutV
  rw [e0, e1, e3]
  exact List.take_of_length_le (by rw [List.length_append, List.length_tail]; omega)
theorem cutV_nat {α : Type} {xs : List α} {a b : Nat} (hb : b ≤ xs.length) (ha : a ≤ b) : cutV xs (some (a : Int)) (some (b : Int)) = (xs.drop a).take (b - a) := by
  unfold cutV
  rw [sIx_pos' (by omega), sIx_pos' (by omega)]
  have a1 : min (a : Int).toNat xs.length = a := by omega
  have a2 : min (b : Int).toNat xs.length = b := by omega
  rw [a1, a2]
theorem cutV_to {α : Type} {xs : List α} {b : Nat} (hb : b ≤ xs.length) : cutV xs none (some (b : Int)) = xs.take b := by
  unfold cutV
  rw [sIx_pos' (by omega)]
  have a2 : min (b : Int).toNat xs.length = b := by omega
  rw [a2]
  show (xs.drop 0).take (b - 0) = _
  simp
theorem atI_last_row' {s : List Int} {z : Int} (h : s[s.length - 1]? = some z) (hp : 1 ≤ s.length) : atI s (-1) = some z := by
  have hi : ixN s.length (-1) = some (s.length - 1) := by
    unfold ixN
    rw [if_neg (by decide), if_pos (by omega)]
    congr 1
    omega
  unfold atI
  rw [hi]
  exact h
theorem index_rows' {t : Tg} {rs : List (List Int)} {r : List Int} {i : Nat} {cs : CS} (h : rs.findIdx? (fun z => decide (z = r)) = some i) : vmt cs .index (.lst t (rs.map rowV)) [rowV r] = some (.int i, cs) := by
  show (vask .index (.lst t (rs.map rowV)) [rowV r]).map (fun d => (d, cs)) = _
  have p1 : pyV 65 (.lst .shr (rs.map rowV)) = some (.list (rs.map rowP')) := pyV_rowsL _
  show (match pyV 65 (.lst .shr (rs.map rowV)), pyV 65 (rowV r) with | some (.list ds), some a => (if SeqAt.shaped a && SeqAt.shaped (.list ds) then (ds.findIdx? fun z => PyData.eqv z a).map fun j => VD.int (j : Nat) else none) | _, _ => none).map (fun d => (d, cs)) = _
  rw [p1, pyV_row]
  simp only [shaped_row', (shaped_rowsL' rs).1, Bool.and_self, if_true]
  rw [List.findIdx?_map]
  have : ((fun z => PyData.eqv z (rowP' r)) ∘ rowP') = fun z => decide (z = r) := by funext z; exact eqv_row' z r
  rw [this, h]
  rfl
/-! ### a ring's windows -/
theorem win_add {A : List (List Int)} {ls s : List Int} {z : Int} {wi : Nat} (aw : ∀ i, i + wi ≤ ls.length → (ls.drop i).take wi ∈ A) (hs : s ∈ A) (ls_ : s.length = wi) (he : EndsIn (ls ++ [z]) s) : ∀ i, i + wi ≤ (ls ++ [z]).length → ((ls ++ [z]).drop i).take wi ∈ A := fun i hi => by
  rw [List.length_append, List.length_singleton] at hi
  by_cases c : i + wi ≤ ls.length
  · rw [List.drop_append_of_le_length (by omega), List.take_append_of_le_length (by rw [List.length_drop]; omega)]
    exact aw i c
  · obtain ⟨p, hp⟩ := he
    have hl := congrArg List.length hp
    rw [List.length_append, List.length_append, List.length_singleton] at hl
    have : i = p.length := by omega
    subst this
    rw [hp, List.drop_left, List.take_of_length_le (by omega)]
    exact hs
/-- cyclic windows -/
def cycW (rg : List Int) (wi i : Nat) : List Int := (List.range wi).map fun j => rg.getD ((i + j) % rg.length) 0
theorem cyc_of {ls rg : List Int} {i0 e wi : Nat} {A : List (List Int)} (hl : ls.length = wi + 20) (aw : ∀ i, i + wi ≤ ls.length → (ls.drop i).take wi ∈ A) (hie : i0 < e) (he : e < 22)
    (node : ∀ y, y < wi - 1 → ls.getD (e + y) 0 = ls.getD (i0 + y) 0) (per : ∀ t, t < rg.length → rg.getD t 0 = ls.getD (i0 + t % (e - i0)) 0) (dv : rg.length % (e - i0) = 0) : ∀ i, i < rg.length → cycW rg wi i ∈ A := fun i hi => by
  have hP : 0 < e - i0 := by omega
  have key : ∀ z, z < e - i0 + (wi - 1) → ls.getD (i0 + z) 0 = ls.getD (i0 + z % (e - i0)) 0 := by
    intro z
    induction z using Nat.strongRecOn with
    | ind z ih =>
      intro hz
      by_cases c : z < e - i0
      · rw [Nat.mod_eq_of_lt c]
      · have h1 := node (z - (e - i0)) (by omega)
        rw [show e + (z - (e - i0)) = i0 + z by omega] at h1
        rw [h1, ih (z - (e - i0)) (by omega) (by omega), ← Nat.mod_eq_sub_mod (by omega)]
  have x1 : i % (e - i0) < e - i0 := Nat.mod_lt _ hP
  have w := aw (i0 + i % (e - i0)) (by omega)
  have : cycW rg wi i = (ls.drop (i0 + i % (e - i0))).take wi := by
    apply List.ext_getElem
    · simp [cycW]; omega
    · intro j h1 h2
      have hj : j < wi := by simpa [cycW] using h1
      simp only [cycW, List.getElem_map, List.getElem_range, List.getElem_take, List.getElem_drop]
      rw [per _ (Nat.mod_lt _ (by omega)), Nat.mod_mod_of_dvd _ (Nat.dvd_of_mod_eq_zero dv)]
      have k := key (i % (e - i0) + j) (by omega)
      rw [Nat.mod_add_mod, ← Nat.add_assoc] at k
      rw [← k, List.getD_eq_getElem?_getD, List.getElem?_eq_getElem (by omega)]
      rfl
  rw [this]
  exact w
theorem ring_v {n f b hu wi : Nat} {least : Int} {R : List (List Int)} {cs : CS} {Q : VD → CS → Prop} {E : XV → CS → Prop} (F : FeedV cs f (b + 25)) (hh : hu ≤ 4) (hw : wi = 2 ∨ wi = 3) (hR : ∀ r ∈ R, r ∈ allR hu wi) (hRl : R.length ≤ 64) (hle : 0 ≤ least ∧ least ≤ 20)
    (q0 : aliveR R = [] → ∀ c, FeedV c f b → Q .non c) (q1 : ∀ (rg : List Int) c, FeedV c f b → (∀ x ∈ rg, 0 ≤ x ∧ x < hu) → least ≤ rg.length → 1 ≤ rg.length → rg.length ≤ 50 → (∀ i, i < rg.length → cycW rg wi i ∈ R) → Q (rowV rg) c) :
    W (callV PrV (n+3) 37 [.cel f, wishV hu wi R, .int least] cs) Q E := by
  rw [call_s (d := v37) rfl rfl]
  have sz := PySem.sizeLine_eq
  have b62 := B62_eq
  have n24 := N24_eq
  have t1 : atI [VD.int hu, VD.int wi, .tup (R.map rowV)] 1 = some (.int wi) := rfl
  have em : ∀ (t : Tg), VD.lst t [] = .lst t (([] : List (List Int)).map rowV) := fun _ => rfl
  have lal := @alive_len R
  simp [v37, wishV, alive_v (show R.length ≤ 100 by omega)]
  rw [em .own, v_eqRL]
  by_cases hemp : aliveR R = []
  · simp [hemp]
    exact q0 hemp _ (F.mono (by omega))
  · have hpos : 0 < (aliveR R).length := List.length_pos_iff.mpr hemp
    have allA : ∀ r ∈ aliveR R, r.length = wi ∧ ∀ x ∈ r, 0 ≤ x ∧ x < hu := fun r hr => allR_len (hR r (mem_aliveR.mp hr).1)
    have nextA : ∀ r ∈ aliveR R, ∃ s ∈ aliveR R, s.dropLast = r.tail := fun r hr => by
      obtain ⟨m1, m2⟩ := mem_aliveR.mp hr
      obtain ⟨s, s1, s2⟩ := alive_next m2
      exact ⟨s, mem_aliveR.mpr ⟨s1.1, s2⟩, s1.2⟩
    have subA : ∀ r ∈ aliveR R, r ∈ R := fun r hr => (mem_aliveR.mp hr).1
    generalize aliveR R = A at hpos allA nextA hemp lal subA
    simp [hemp, t1]
    refine take_v (F : FeedV cs f ((b + 24) + 1)) (by omega) (by omega) fun v c3 v0 v1 F3 => ?_
    obtain ⟨r0, hr0⟩ : ∃ r0, A[v.toNat]? = some r0 := ⟨_, List.getElem?_eq_getElem (by omega)⟩
    have at3 := atI_map' (f := rowV) hr0
    rw [show ((v.toNat : Nat) : Int) = v by omega] at at3
    have hm0 := List.mem_of_getElem? hr0
    have la := (allA r0 hm0).1
    have lo : ∀ cs, vbi cs .listOf [rowV r0] = some (.lst .own (r0.map .int)) := fun cs => by
      show vNew (r0.map .int) = _
      exact vNew_ (by rw [List.length_map]; omega)
    simp [at3, lo]
    rw [walk_rng1 (by decide) (by omega)]
    simp only [oS_some_]
    generalize hG : (Int.toNat 20) = twenty
    have hG : twenty = 20 := by rw [← hG]; rfl
    refine for_done (fun (i : Nat) => VD.int i) (List.range twenty) (fun done en c => ∃ (ls r : List Int) (x6 x11 : Option VD), en = [some (.cel f), some (.tup [.int hu, .int wi, .tup (R.map rowV)]), some (.int least), some (.lst .own (A.map rowV)), some (.int wi), some (.lst .own (ls.map .int)), x6, none, none, none, none, x11, none] ∧
        FeedV c f (b + (23 - done.length)) ∧ ls.length = wi + done.length ∧ r ∈ A ∧ EndsIn ls r ∧ (∀ x ∈ ls, 0 ≤ x ∧ x < hu) ∧ ∀ i, i + wi ≤ ls.length → (ls.drop i).take wi ∈ A) ?_ ?_ ⟨r0, r0, none, none, rfl, F3.mono (by simp), by simp [la], hm0, ⟨[], rfl⟩, (allA r0 hm0).2, fun i hi => by
      have : i = 0 := by omega
      subst this
      rw [List.drop_zero, List.take_of_length_le (by omega)]
      exact hm0⟩
    · rintro en c4 ⟨ls, r, x6, x11, rfl, F4, l4, hr, he, hb, aw⟩
      rw [List.length_range, hG] at F4 l4
      simp
      obtain ⟨Lh, hL⟩ : ∃ Lh : Int, Lh = (ls.length : Int) - (wi : Int) + 2 := ⟨_, rfl⟩
      rw [← hL, walk_rng1 (by omega) (by omega)]
      simp only [W_oM_some]
      have hL2 : Lh.toNat = 22 := by omega
      rw [hL2]
      have twN := win_twice hh hw l4 hb
      have lN : (winR ls wi 22).length = 22 := by unfold winR; rw [List.length_map, List.length_range]
      rw [turn_map (fun (k : Nat) => VD.int k) (fun k => some (rowV ((ls.drop k).take (wi - 1)))) (List.range 22) (by rw [List.length_range]; omega) fun k hk => ?_]
      · rw [filterMap_all' fun k => rowV ((ls.drop k).take (wi - 1))]
        have eN : (List.range 22).map (fun k => rowV ((ls.drop k).take (wi - 1))) = (winR ls wi 22).map rowV := by unfold winR; rw [List.map_map]; rfl
        rw [eN]
        have hNk : ∀ k x, (winR ls wi 22)[k]? = some x → x = (ls.drop k).take (wi - 1) := fun k x h => by
          obtain ⟨hk, rfl⟩ := List.getElem?_eq_some_iff.mp h
          simp [winR]
        generalize winR ls wi 22 = N at twN lN hNk
        simp [lN]
        rw [walk_rng1 (by decide) (by omega)]
        simp only [W_oM_some]
        rw [show (Int.toNat 22) = 22 from rfl]
        have hp : ∃ p : Nat → Bool, ∀ k, p k = true ↔ ∃ x, N[k]? = some x ∧ x ∈ N.take k := ⟨fun k => @decide (∃ x, N[k]? = some x ∧ x ∈ N.take k) (Classical.propDecidable _), fun k => @decide_eq_true_iff _ (Classical.propDecidable _)⟩
        obtain ⟨p, hp⟩ := hp
        rw [turn_map (fun (k : Nat) => VD.int k) (fun k => if p k = true then some (VD.int k) else none) (List.range 22) (by rw [List.length_range]; omega) fun k hk => ?_]
        · rw [filterMap_keep' (fun (k : Nat) => VD.int k) p]
          have hT : ∀ k, k ∈ (List.range 22).filter p ↔ k < 22 ∧ ∃ x, N[k]? = some x ∧ x ∈ N.take k := fun k => by rw [List.mem_filter, List.mem_range, hp]
          have lT : ((List.range 22).filter p).length ≤ 22 := by
            have := List.length_filter_le p (List.range 22)
            rwa [List.length_range] at this
          have pT : 0 < ((List.range 22).filter p).length := by
            obtain ⟨i, j, x, hij, e1, e2⟩ := twN
            have hj : j < 22 := by have := (List.getElem?_eq_some_iff.mp e2).1; omega
            refine List.length_pos_of_mem ((hT j).mpr ⟨hj, x, e2, ?_⟩)
            exact List.mem_of_getElem? (i := i) (by rw [List.getElem?_take, if_pos hij]; exact e1)
          generalize (List.range 22).filter p = T at hT lT pT
          simp
          refine ⟨by omega, by omega, ?_⟩
          refine take_v (F4.mono (by omega) : FeedV c4 f (b + 1)) (by omega) (by omega) fun v c9 v0 v1 F9 => ?_
          obtain ⟨e, he⟩ : ∃ e, T[v.toNat]? = some e := ⟨_, List.getElem?_eq_getElem (by omega)⟩
          have at9 := atI_map' (f := fun (k : Nat) => VD.int k) he
          rw [show ((v.toNat : Nat) : Int) = v by omega] at at9
          obtain ⟨e22, x, hx, hxt⟩ := (hT e).mp (List.mem_of_getElem? he)
          obtain ⟨j, hj⟩ := List.mem_iff_getElem?.mp hxt
          rw [List.getElem?_take] at hj
          have hje : j < e := by
            by_cases c : j < e
            · exact c
            · rw [if_neg c] at hj; cases hj
          rw [if_pos hje] at hj
          obtain ⟨i0, hi0, hie⟩ := index_first hje hj
          have hNi : N[i0]? = some x := by
            obtain ⟨hl, hx2, _⟩ := List.findIdx?_eq_some_iff_getElem.mp hi0
            rw [List.getElem?_eq_getElem hl, of_decide_eq_true hx2]
          have node : ∀ y, y < wi - 1 → ls.getD (e + y) 0 = ls.getD (i0 + y) 0 := fun y hy => by
            have h := (hNk e x hx).symm.trans (hNk i0 x hNi)
            have h2 := congrArg (fun l => l[y]?) h
            simp only [List.getElem?_take, if_pos hy, List.getElem?_drop] at h2
            rw [List.getD_eq_getElem?_getD, List.getD_eq_getElem?_getD, h2]
          have ixe : atI (N.map rowV) (e : Int) = some (rowV x) := atI_map' hx
          have idx : ∀ (t : Tg) (cs : CS), vmt cs .index (.lst t (N.map rowV)) [rowV x] = some (.int (i0 : Nat), cs) := fun t cs => index_rows' hi0
          have seg : cutV (ls.map VD.int) (some (i0 : Int)) (some (e : Int)) = ((ls.drop i0).take (e - i0)).map VD.int := by
            rw [cutV_map, cutV_nat (by omega) (by omega)]
          have lseg : ((ls.drop i0).take (e - i0)).length = e - i0 := by rw [List.length_take, List.length_drop]; omega
          have mseg : ∀ y ∈ (ls.drop i0).take (e - i0), y ∈ ls := fun y hy => List.mem_of_mem_drop (List.mem_of_mem_take hy)
          have psg : ∀ u, u < e - i0 → ((ls.drop i0).take (e - i0)).getD u 0 = ls.getD (i0 + u) 0 := fun u hu => by
            rw [List.getD_eq_getElem?_getD, List.getD_eq_getElem?_getD, List.getElem?_take, if_pos hu, List.getElem?_drop]
          generalize (ls.drop i0).take (e - i0) = sg at seg lseg mseg psg
          simp [at9, ixe, idx, seg]
          refine ⟨by omega, ?_⟩
          refine while_of (fun m en c => ∃ (rg : List Int) (x6 x11 : Option VD), m = (least - rg.length).toNat ∧ en = [some (.cel f), some (.tup [.int hu, .int wi, .tup (R.map rowV)]), some (.int least), some (.lst .own (A.map rowV)), some (.int wi), some (.lst .own (ls.map .int)), x6, some (.lst .own (N.map rowV)), some (.lst .own (T.map fun (k : Nat) => VD.int k)), some (.int e), some (.lst .own (rg.map .int)), x11, none] ∧
              FeedV c f b ∧ (∀ x ∈ rg, x ∈ ls) ∧ 1 ≤ rg.length ∧ rg.length ≤ 50 ∧ (∀ t, t < rg.length → rg.getD t 0 = ls.getD (i0 + t % (e - i0)) 0) ∧ rg.length % (e - i0) = 0) ?_ (m := (least - sg.length).toNat) ⟨sg, x6, x11, rfl, rfl, F9, mseg, by omega, by omega, fun t ht => by rw [psg t (by omega), Nat.mod_eq_of_lt (by omega)], by rw [lseg, Nat.mod_self]⟩ (by omega)
          rintro m en cA K ⟨rg, y6, y11, rfl, rfl, FA, k6, k7, k8, k9, k10⟩ hK
          simp
          by_cases c : (rg.length : Int) < least
          · rw [if_pos c]
            simp [v37_2, ixe, idx, seg]
            refine ⟨by omega, by omega, ?_⟩
            rw [← List.map_append]
            exact hK _ _ _ (by simp; omega) ⟨rg ++ sg, _, _, rfl, rfl, FA, fun y hy => by
              rcases List.mem_append.mp hy with hy | hy
              · exact k6 y hy
              · exact mseg y hy, by simp; omega, by simp; omega, fun t ht => by
                rw [List.length_append] at ht
                by_cases ct : t < rg.length
                · rw [List.getD_eq_getElem?_getD, List.getElem?_append_left ct, ← List.getD_eq_getElem?_getD, k9 t ct]
                · rw [List.getD_eq_getElem?_getD, List.getElem?_append_right (by omega), ← List.getD_eq_getElem?_getD, psg _ (by omega)]
                  congr 2
                  have h3 : t = rg.length + (t - rg.length) := by omega
                  rw [h3, Nat.add_mod, k10, Nat.zero_add, Nat.mod_mod, Nat.mod_eq_of_lt (by omega)]
                  omega, by rw [List.length_append, lseg, Nat.add_mod_right]; exact k10⟩
          · rw [if_neg c]
            try simp
            exact q1 rg cA FA (fun x hx => hb x (k6 x hx)) (by omega) k7 k8 fun i hi => subA _ (cyc_of (by omega) aw hie e22 node k9 k10 i hi)
        · have hk := List.mem_range.mp hk
          obtain ⟨x, hx⟩ : ∃ x, N[k]? = some x := ⟨_, List.getElem?_eq_getElem (by omega)⟩
          have ixk : atI (N.map rowV) (k : Int) = some (rowV x) := atI_map' hx
          have cu : cutV (N.map rowV) none (some (k : Int)) = (N.take k).map rowV := by rw [cutV_map, cutV_to (by omega)]
          have e : p k = decide (x ∈ N.take k) := by
            rw [Bool.eq_iff_iff, hp, decide_eq_true_iff]
            exact ⟨fun ⟨y, h1, h2⟩ => by rw [hx] at h1; cases h1; exact h2, fun h => ⟨x, hx, h⟩⟩
          refine eq_of_W ?_
          simp only [e]
          have lz : (N.take k).length ≤ 22 := by rw [List.length_take]; omega
          generalize N.take k = z at cu lz
          simp [ixk, cu, inV_rows]
          omega
      · have hk := List.mem_range.mp hk
        refine eq_of_W ?_
        have cu : cutV (ls.map VD.int) (some (k : Int)) (some ((k : Int) + (wi : Int) - 1)) = ((ls.drop k).take (wi - 1)).map VD.int := by
          rw [cutV_map, show (k : Int) + (wi : Int) - 1 = ((k + (wi - 1) : Nat) : Int) by omega, cutV_nat (by omega) (by omega), show k + (wi - 1) - k = wi - 1 by omega]
        have lz : ((ls.drop k).take (wi - 1)).length ≤ 3 := by rw [List.length_take]; omega
        generalize (ls.drop k).take (wi - 1) = z at cu lz
        simp [cu]
        omega
    · rintro done x rest en c4 K ed ⟨ls, r, x6, x11, rfl, F4, l4, hr, he, hb, aw⟩ hK
      have hd : done.length < 20 := by
        have := congrArg List.length ed
        simp at this; omega
      obtain ⟨hrl, hrb⟩ := allA r hr
      have cut := tail_cut' he hrl (by omega)
      obtain ⟨q, hq⟩ : ∃ q, r.tail = q := ⟨_, rfl⟩
      rw [hq] at cut
      have lq : q.length ≤ 3 := by rw [← hq, List.length_tail]; omega
      simp [v37_1]
      rw [turn_map rowV (fun o => if decide (o.dropLast = q) = true then some (rowV o) else none) A (by omega) fun o ho => ?_]
      · rw [filterMap_keep' rowV]
        have hS : ∀ s, s ∈ A.filter (fun o => decide (o.dropLast = q)) ↔ s ∈ A ∧ s.dropLast = q := fun s => by simp
        have lS : (A.filter fun o => decide (o.dropLast = q)).length ≤ A.length := List.length_filter_le _ _
        have pS : 0 < (A.filter fun o => decide (o.dropLast = q)).length := by
          obtain ⟨s, s1, s2⟩ := nextA r hr
          exact List.length_pos_of_mem ((hS s).mpr ⟨s1, s2.trans hq⟩)
        generalize A.filter (fun o => decide (o.dropLast = q)) = So at hS lS pS
        simp
        refine ⟨by omega, ?_⟩
        refine take_v (F4.mono (by omega : (b + (23 - (done.length + 1))) + 1 ≤ _)) (by omega) (by omega) fun v c7 v0 v1 F7 => ?_
        obtain ⟨s, hs⟩ : ∃ s, So[v.toNat]? = some s := ⟨_, List.getElem?_eq_getElem (by omega)⟩
        have at7 := atI_map' (f := rowV) hs
        rw [show ((v.toNat : Nat) : Int) = v by omega] at at7
        obtain ⟨sA, sD⟩ := (hS s).mp (List.mem_of_getElem? hs)
        have sl := (allA s sA).1
        obtain ⟨z, z1, z2, z3⟩ := ends_next he hrl sl (by omega) (sD.trans hq.symm)
        simp [at7, atI_last_row' z1 (by omega)]
        refine ⟨by omega, hK _ _ ⟨ls ++ [z], s, _, _, by rw [List.map_append]; rfl, F7.mono (by simp), by simp; omega, sA, z2, fun y hy => ?_, win_add aw sA sl z2⟩⟩
        rcases List.mem_append.mp hy with hy | hy
        · exact hb y hy
        · simp at hy; subst hy; exact (allA s sA).2 _ z3
      · refine eq_of_W ?_
        simp [cutV_last, cutV_map, cut]
        omega
end Mp
namespace Mp
open PySem L2
theorem eqv_intsL {a b : List Int} {t u : Tg} : vcmp .eq (.lst t (a.map .int)) (.lst u (b.map .int)) = some (decide (a = b)) := by
  show eqV (.lst t (a.map .int)) (.lst u (b.map .int)) = _
  simp only [eqV, pyV_intsL, shaped_intsL, Bool.and_self, if_true, PyData.eqv, eqv_ints']
def upTo (n : Nat) : List Int := (List.range n).map fun (k : Nat) => 1 + (k : Int)
/-- links, in order -/
def lexP (p q : Int × Int) : Bool := decide ([p.1, p.2] ≤ [q.1, q.2])
def sortP (ls : List (Int × Int)) : List (Int × Int) := ls.mergeSort lexP
theorem sorted_links {t : Tg} {ls : List (Int × Int)} {cs : CS} (h : ls.length ≤ sizeLine) : vbi cs .sorted [.lst t (ls.map linkV)] = some (.lst .own ((sortP ls).map linkV)) := by
  rw [show vbi cs .sorted [.lst t (ls.map linkV)] = (vSort (ls.map linkV)).bind vNew from rfl]
  rw [vSort_map (g := linkV) (k := fun p : Int × Int => rowP' [p.1, p.2]) (fun _ => pyV_row) ls (fun _ _ _ _ => alike_rowP _ _) (.inl fun _ _ => rfl) (fun p _ => by have := (lay_row' [p.1, p.2]).2; omega) h]
  have e : PySem.W.dataLe false (fun p : Int × Int => rowP' [p.1, p.2]) = lexP := by
    funext p q
    exact congrFun (congrFun dataLe_rowP [p.1, p.2]) [q.1, q.2]
  rw [e]
  exact vNew_ (by rw [List.length_map, List.length_mergeSort]; exact h)
theorem sortP_perm (ls : List (Int × Int)) : (sortP ls).Perm ls := List.mergeSort_perm _ _
theorem mem_sortP {ls : List (Int × Int)} {p : Int × Int} : p ∈ sortP ls ↔ p ∈ ls := List.mem_mergeSort
theorem sortP_len (ls : List (Int × Int)) : (sortP ls).length = ls.length := List.length_mergeSort _
/-- how many links a name has -/
def degR (ls : List (Int × Int)) (x : Int) : Nat := (ls.filter fun p => decide (x ∈ [p.1, p.2])).length
/-- a right web -/
structure WebOk (n d : Int) (ns : List Int) (ls : List (Int × Int)) : Prop where
  sub : ns.Sublist (upTo n.toNat)
  pos : 1 ≤ ns.length
  mem : ∀ p ∈ ls, p.1 < p.2 ∧ p.1 ∈ ns ∧ p.2 ∈ ns
  nd : ls.Nodup
  deg : ∀ x, (degR ls x : Int) ≤ d
theorem upTo_nodup (n : Nat) : (upTo n).Nodup := by
  unfold upTo
  rw [List.nodup_iff_pairwise_ne, List.pairwise_map]
  refine List.Pairwise.imp ?_ (List.nodup_iff_pairwise_ne.mp List.nodup_range)
  intro a b h
  omega
theorem mem_upTo {n : Nat} {x : Int} : x ∈ upTo n ↔ 1 ≤ x ∧ x ≤ n := by
  unfold upTo
  rw [List.mem_map]
  constructor
  · rintro ⟨k, hk, rfl⟩
    have := List.mem_range.mp hk
    omega
  · rintro ⟨h1, h2⟩
    exact ⟨(x - 1).toNat, List.mem_range.mpr (by omega), by omega⟩
theorem pairs_le {ns : List Int} {ls : List (Int × Int)} (nd : ls.Nodup) (h : ∀ p ∈ ls, p.1 ∈ ns ∧ p.2 ∈ ns) : ls.length ≤ ns.length * ns.length := by
  have key : ∀ (l U : List (Int × Int)), l.Nodup → (∀ x ∈ l, x ∈ U) → l.length ≤ U.length := by
    intro l
    induction l with
    | nil => intro U _ _; exact Nat.zero_le _
    | cons a l ih =>
      intro U nd hU
      obtain ⟨n1, n2⟩ := List.nodup_cons.mp nd
      have ha : a ∈ U := hU a List.mem_cons_self
      have := ih (U.erase a) n2 fun x hx => (List.mem_erase_of_ne (fun (e : x = a) => n1 (by rw [← e]; exact hx))).mpr (hU x (List.mem_cons_of_mem _ hx))
      rw [List.length_erase_of_mem ha] at this
      have hp : 0 < U.length := List.length_pos_of_mem ha
      simp only [List.length_cons]
      omega
  have := key ls (ns.flatMap fun a => ns.map fun b => (a, b)) nd fun p hp => by
    rw [List.mem_flatMap]
    exact ⟨p.1, (h p hp).1, List.mem_map.mpr ⟨p.2, (h p hp).2, rfl⟩⟩
  rwa [flat_len (k := ns.length) fun a => by rw [List.length_map]] at this
theorem degR_add {ls : List (Int × Int)} {a b : Int} (x : Int) : degR (ls ++ [(a, b)]) x = degR ls x + if x = a ∨ x = b then 1 else 0 := by
  unfold degR
  rw [List.filter_append, List.length_append]
  by_cases h : x = a ∨ x = b <;> simp [h]
theorem web_links {m f b : Nat} {n d : Int} {ns : List Int} {cs : CS} {x4 x5 x6 x7 x8 : Option VD} {nx : VEn → CS → Prop} {Q : VD → CS → Prop} {E : XV → VEn → CS → Prop} (F : FeedV cs f (b + 30)) (hd : 1 ≤ d ∧ d ≤ 3) (h1 : 1 ≤ ns.length) (h5 : ns.length ≤ 5) (hs : ns.Sublist (upTo n.toNat))
    (hq : ∀ ls c, WebOk n d ns ls → FeedV c f b → Q (Wd.web ns (sortP ls)).v c) : WS (vSs (callV PrV (m + 2)) (v38.body.drop 2) [some (.cel f), some (Kd.web n d).v, some (.lst .own (ns.map .int)), none, x4, x5, x6, x7, x8, none] cs) nx Q E := by
  have sz := PySem.sizeLine_eq
  have b62 := B62_eq
  have k2 : atI [VD.str "web", VD.int n, VD.int d] 2 = some (.int d) := rfl
  have ndN : ns.Nodup := hs.nodup (upTo_nodup _)
  simp [v38, Kd.v]
  refine for_done VD.int ns (fun D1 en c => ∃ (ls : List (Int × Int)) (x4 x5 x6 x7 x8 : Option VD), en = [some (.cel f), some (.tup [.str "web", .int n, .int d]), some (.lst .shr (ns.map .int)), some (.lst .own (ls.map linkV)), x4, x5, x6, x7, x8, none] ∧
      FeedV c f (b + 5 * (5 - D1.length)) ∧ (∀ p ∈ ls, p.1 < p.2 ∧ p.1 ∈ ns ∧ p.2 ∈ ns) ∧ ls.Nodup ∧ (∀ p ∈ ls, p.1 ∈ D1) ∧ ∀ x, (degR ls x : Int) ≤ d) ?_ ?_ ?_
  · rintro en c ⟨ls, x4, x5, x6, x7, x8, rfl, F1, i1, i2, i3, i4⟩
    have hl := pairs_le i2 fun p hp => (i1 p hp).2
    have hl25 : ls.length ≤ 25 := Nat.le_trans hl (Nat.mul_le_mul h5 h5)
    simp
    rw [sorted_links (by omega)]
    simp
    exact hq ls c ⟨hs, h1, i1, i2, i4⟩ (F1.mono (by omega))
  · rintro D1 one R1 en c K e1 ⟨ls0, x4, x5, x6, x7, x8, rfl, F1, i1, i2, i3, i4⟩ hK
    have hD1 : D1.length + (R1.length + 1) = ns.length := by rw [e1]; simp
    have hone : one ∈ ns := by rw [e1]; simp
    have hone1 : one ∉ D1 := by
      rw [e1] at ndN
      have := (List.nodup_append.mp ndN).2.2
      intro z
      exact this one z one List.mem_cons_self rfl
    simp [v38_2]
    refine for_done VD.int ns (fun D2 en c => ∃ (ls : List (Int × Int)) (x5 x6 x7 x8 : Option VD), en = [some (.cel f), some (.tup [.str "web", .int n, .int d]), some (.lst .shr (ns.map .int)), some (.lst .own (ls.map linkV)), some (.int one), x5, x6, x7, x8, none] ∧
        FeedV c f (b + 5 * (5 - (D1.length + 1)) + (5 - D2.length)) ∧ (∀ p ∈ ls, p.1 < p.2 ∧ p.1 ∈ ns ∧ p.2 ∈ ns) ∧ ls.Nodup ∧ (∀ p ∈ ls, p.1 ∈ D1 ∨ p.1 = one ∧ p.2 ∈ D2) ∧ ∀ x, (degR ls x : Int) ≤ d) ?_ ?_ ⟨ls0, x5, x6, x7, x8, rfl, F1.mono (by simp; omega), i1, i2, fun p hp => .inl (i3 p hp), i4⟩
    · rintro en c2 ⟨ls, x5, x6, x7, x8, rfl, F2, j1, j2, j3, j4⟩
      try simp
      refine hK _ _ ⟨ls, _, _, _, _, _, rfl, F2.mono (by simp), j1, j2, fun p hp => ?_, j4⟩
      rcases j3 p hp with h | h
      · exact List.mem_append_left _ h
      · exact List.mem_append_right _ (by simp [h.1])
    · rintro D2 other R2 en c2 K2 e2 ⟨ls, x5, x6, x7, x8, rfl, F2, j1, j2, j3, j4⟩ hK2
      have hD2 : D2.length + (R2.length + 1) = ns.length := by rw [e2]; simp
      have hoth : other ∈ ns := by rw [e2]; simp
      have hoth2 : other ∉ D2 := by
        have nd2 := ndN
        rw [e2] at nd2
        have := (List.nodup_append.mp nd2).2.2
        intro z
        exact this other z other List.mem_cons_self rfl
      have hl := pairs_le j2 fun p hp => (j1 p hp).2
      have hl25 : ls.length ≤ 25 := Nat.le_trans hl (Nat.mul_le_mul h5 h5)
      have tn : ∀ (x : Int) (one_ : VD → CS → M (Option VD)) (c : CS), (∀ p c, one_ (linkV p) c = some (.ok (if decide (x ∈ [p.1, p.2]) = true then some (linkV p) else none), c)) → turnV one_ (ls.map linkV) [] c = some (.ok ((ls.filter fun p => decide (x ∈ [p.1, p.2])).map linkV), c) := fun x one_ c h => by
        rw [← filterMap_keep' linkV]
        exact turn_map linkV _ ls (by omega) fun p _ => h p c
      have inn : ∀ (x : Int) (p : Int × Int), vcmp .inn (.int x) (linkV p) = some (decide (x ∈ [p.1, p.2])) := fun x p => inV_row
      have lf : ∀ x : Int, (ls.filter fun p => decide (x ∈ [p.1, p.2])).length ≤ ls.length := fun x => List.length_filter_le _ _
      have go : ∀ c3 y5 y6 y7 y8, FeedV c3 f (b + 5 * (5 - (D1.length + 1)) + (5 - (D2.length + 1))) → K2 [some (.cel f), some (.tup [.str "web", .int n, .int d]), some (.lst .shr (ns.map .int)), some (.lst .own (ls.map linkV)), some (.int one), y5, y6, y7, y8, none] c3 := fun c3 y5 y6 y7 y8 F3 =>
        hK2 _ _ ⟨ls, y5, y6, y7, y8, rfl, F3.mono (by simp), j1, j2, fun p hp => (j3 p hp).imp id fun h => ⟨h.1, List.mem_append_left _ h.2⟩, j4⟩
      have F2' : FeedV c2 f (b + 5 * (5 - (D1.length + 1)) + (5 - (D2.length + 1))) := F2.mono (by omega)
      simp [v38_1]
      rw [tn one _ _ fun p c => by simp [inn]; by_cases c1 : one = p.1 <;> by_cases c2 : one = p.2 <;> simp [c1, c2]]
      simp
      refine ⟨by have := lf one; simp at this; omega, ?_⟩
      rw [tn other _ _ fun p c => by simp [inn]; by_cases c1 : other = p.1 <;> by_cases c2 : other = p.2 <;> simp [c1, c2]]
      simp [k2]
      refine ⟨by have := lf other; simp at this; omega, ?_⟩
      by_cases q1 : one < other
      · simp [q1]
        have dg : ∀ x, (degR ls x : Int) = ((ls.filter fun p => decide (x ∈ [p.1, p.2])).length : Int) := fun _ => rfl
        by_cases q2 : ((ls.filter fun p => decide (one ∈ [p.1, p.2])).length : Int) < d
        · by_cases q3 : ((ls.filter fun p => decide (other ∈ [p.1, p.2])).length : Int) < d
          · simp at q2 q3
            simp [q2, q3]
            refine take_v (F2.mono (by omega) : FeedV c2 f ((b + 5 * (5 - (D1.length + 1)) + (5 - (D2.length + 1))) + 1)) (by omega) (by omega) fun z c5 z0 z1 F5 => ?_
            simp
            split
            · try simp
              refine ⟨by omega, ?_⟩
              have e : ls.map linkV ++ [VD.tup [.int one, .int other]] = (ls ++ [(one, other)]).map linkV := by rw [List.map_append]; rfl
              rw [e]
              refine hK2 _ _ ⟨ls ++ [(one, other)], _, _, _, _, rfl, F5.mono (by simp), fun p hp => ?_, ?_, fun p hp => ?_, fun x => ?_⟩
              · rcases List.mem_append.mp hp with hp | hp
                · exact j1 p hp
                · simp at hp; subst hp; exact ⟨q1, hone, hoth⟩
              · rw [List.nodup_append]
                refine ⟨j2, by simp, fun p hp q hq => ?_⟩
                simp at hq; subst hq
                rintro rfl
                rcases j3 _ hp with h | h
                · exact hone1 h
                · exact hoth2 h.2
              · rcases List.mem_append.mp hp with hp | hp
                · exact (j3 p hp).imp id fun h => ⟨h.1, List.mem_append_left _ h.2⟩
                · simp at hp; subst hp; exact .inr ⟨rfl, by simp⟩
              · rw [degR_add]
                have := j4 x
                by_cases c : x = one ∨ x = other
                · rw [if_pos c]
                  have d1 := dg one
                  have d2 := dg other
                  simp at d1 d2
                  rcases c with rfl | rfl <;> omega
                · rw [if_neg c]; omega
            · try simp
              exact go _ _ _ _ _ F5
          · simp at q2 q3
            have q3' := Int.not_lt.mpr q3
            simp [q2, q3']
            exact go _ _ _ _ _ F2'
        · simp at q2
          have q2' := Int.not_lt.mpr q2
          simp [q2']
          exact go _ _ _ _ _ F2'
      · simp [q1]
        exact go _ _ _ _ _ F2'
  · exact ⟨[], x4, x5, x6, x7, x8, rfl, F.mono (by simp), (by simp), List.nodup_nil, (by simp), fun x => by simp [degR]; omega⟩
theorem web_v {m f b : Nat} {n d : Int} {cs : CS} {Q : VD → CS → Prop} {E : XV → CS → Prop} (F : FeedV cs f (b + 50)) (hn : 2 ≤ n ∧ n ≤ 5) (hd : 1 ≤ d ∧ d ≤ 3) (hq : ∀ ns ls c, WebOk n d ns ls → FeedV c f b → Q (Wd.web ns (sortP ls)).v c) : W (callV PrV (m+3) 38 [.cel f, (Kd.web n d).v] cs) Q E := by
  rw [call_s (d := v38) rfl rfl]
  have sz := PySem.sizeLine_eq
  have b62 := B62_eq
  have k1 : atI [VD.str "web", VD.int n, VD.int d] 1 = some (.int n) := rfl
  have em : ∀ t : Tg, VD.lst t [] = .lst t (([] : List Int).map .int) := fun _ => rfl
  have em1 : ∀ t : Tg, VD.lst t [.int 1] = .lst t ([(1 : Int)].map .int) := fun _ => rfl
  have tl := @web_links m f b n d
  rw [vSs_cut 2]
  simp only [WS_thS]
  generalize v38.body.drop 2 = T at tl
  simp [v38, Kd.v, k1]
  rw [walk_rng2 (by omega) (by omega) (by omega) (by omega)]
  simp only [W_oM_some]
  obtain ⟨N, hN⟩ : ∃ N : Nat, N = (n + 1 - 1).toNat := ⟨_, rfl⟩
  rw [← hN]
  have hN5 : N ≤ 5 := by omega
  have hNn : n.toNat = N := by omega
  refine turn_done (fun (k : Nat) => VD.int (1 + k)) (List.range N) (fun done acc c => ∃ ns : List Int, acc = ns.map .int ∧ ns.Sublist (done.map fun (k : Nat) => 1 + (k : Int)) ∧ FeedV c f (b + 40 + (5 - done.length))) ?_ ?_ ⟨[], rfl, List.nil_sublist _, F.mono (by simp)⟩
  · rintro acc c1 ⟨ns0, rfl, sub0, F1⟩
    have hl0 := sub0.length_le
    rw [List.length_map, List.length_range] at hl0
    simp
    refine ⟨by omega, ?_⟩
    rw [em .own, eqv_intsL]
    by_cases hemp : ns0 = []
    · simp [hemp]
      rw [em1]
      refine tl (F1.mono (by omega)) hd (by simp) (by simp) ?_ fun ls c w => hq _ _ _ w
      rw [hNn, List.singleton_sublist, mem_upTo]
      omega
    · simp [hemp]
      refine tl (F1.mono (by omega)) hd (List.length_pos_iff.mpr hemp) (by omega) ?_ fun ls c w => hq _ _ _ w
      rw [hNn]
      exact sub0
  · rintro done k rest acc c K e ⟨ns, rfl, sub, F1⟩ k1 k2
    have hd : done.length < 5 := by
      have := congrArg List.length e
      simp at this; omega
    simp
    refine take_v (F1.mono (by omega) : FeedV c f ((b + 40 + (5 - (done.length + 1))) + 1)) (by omega) (by omega) fun z c5 z0 z1 F5 => ?_
    simp
    split
    · try simp
      exact k1 _ _ (by have := sub.length_le; simp at this ⊢; omega) ⟨ns ++ [1 + (k : Int)], by simp, by rw [List.map_append]; exact sub.append (List.Sublist.refl _), F5.mono (by simp)⟩
    · try simp
      exact k2 _ ⟨ns, rfl, by rw [List.map_append]; exact sub.trans (List.sublist_append_left _ _), F5.mono (by simp)⟩
end Mp
namespace Mp
open PySem L2
theorem get_end {cs : CS} {x : List VD} : (cs ++ [x])[cs.length]? = some x := by simp
/-- a drawn world -/
inductive Drawn (k : Kd) (least : Int) : Wd → Prop
  | ring {r : List Int} : k.web? = false → 3 ≤ r.length → least ≤ r.length → r.length ≤ 50 → (∀ n, k = .names n → r.Nodup ∧ ∀ x ∈ r, 1 ≤ x ∧ x ≤ n) → (k = .order → r.Nodup ∧ r.length ≤ 40 ∧ ∀ x ∈ r, x.natAbs < 10 ^ 30) → (∀ hu wi R, k = .wish hu wi R → (∀ x ∈ r, 0 ≤ x ∧ x < hu) ∧ ∀ i, i < r.length → cycW r wi i ∈ R) → Drawn k least (.ring r)
  | web {n d : Int} {ns : List Int} {ls : List (Int × Int)} : k = .web n d → 2 ≤ n ∧ n ≤ 5 ∧ 1 ≤ d ∧ d ≤ 3 → WebOk n d ns ls → Drawn k least (.web ns (sortP ls))
theorem pop_cell {cs : CS} {j : Nat} {xs : List VD} {i : Int} {y : VD} {p : Nat} (h : cs[j]? = some xs) (h0 : 0 ≤ i) (h1 : i < xs.length) (hz : xs.length ≤ 1000) (hp : p = i.toNat) (hy : xs[p]? = some y) : vmt cs .pop1 (.cel j) [.int i] = some (y, cs.set j (xs.eraseIdx p)) := by
  have b63 := B63_eq
  have e1 : vmut .pop1 xs [.int i] = some (y, xs.eraseIdx p) := by
    show (if -B63 ≤ i ∧ i < B63 then (match seqIndex? i xs.length with | some k => (match xs[k]? with | some y => some (y, xs.eraseIdx k) | none => none) | none => none) else none : Option (VD × List VD)) = _
    have si : seqIndex? i xs.length = some p := by
      unfold seqIndex?
      simp [hp]
      omega
    rw [if_pos (by omega), si]
    simp only [hy]
  show (match cs[j]? with | some xs => (vmut .pop1 xs [.int i]).map (fun (p : VD × List VD) => (p.1, cs.set j p.2)) | none => none) = _
  rw [h]
  simp only [e1, Option.map_some]
theorem erase_perm {α : Type} : ∀ {l : List α} {i : Nat} (h : i < l.length), (l[i] :: l.eraseIdx i).Perm l
  | a :: l, 0, _ => .refl _
  | a :: l, i + 1, h => by
    have h' : i < l.length := by simpa using h
    have := erase_perm (l := l) (i := i) h'
    show (l[i] :: a :: l.eraseIdx i).Perm (a :: l)
    exact (List.Perm.swap _ _ _).trans (.cons _ this)
theorem erase_map {α β : Type} (f : α → β) : ∀ (l : List α) (i : Nat), (l.map f).eraseIdx i = (l.eraseIdx i).map f
  | [], _ => rfl
  | a :: l, 0 => rfl
  | a :: l, i + 1 => by
    show f a :: (l.map f).eraseIdx i = f a :: (l.eraseIdx i).map f
    rw [erase_map f l i]
/-- all of a cell's numbers are taken out, by draws -/
theorem shuffle {m f b j : Nat} {k : VD} {least : Int} {L : List Int} {x6 : Option VD} {cs : CS} {nx : VEn → CS → Prop} {Q : VD → CS → Prop} {E : XV → VEn → CS → Prop} (F : FeedV cs f (b + 60)) (hL : L.length ≤ 60) (hj : cs[j]? = some (L.map .int)) (hjf : j ≠ f)
    (hq : ∀ (ring : List Int) (x4 : Option VD) c, ring.Perm L → FeedV c f b → nx [some (.cel f), some k, some (.int least), some (.lst .own (ring.map .int)), x4, some (.cel j), x6] c) :
    WS (forV (fun x en2 cs => vSs (callV PrV (m + 2)) v39_1 (en2.set 4 (some x)) cs) ((List.range L.length).map fun (k : Nat) => .int k) [some (.cel f), some k, some (.int least), some (.lst .own []), none, some (.cel j), x6] cs) nx Q E := by
  have sz := PySem.sizeLine_eq
  refine for_done (fun (k : Nat) => VD.int k) (List.range L.length) (fun done en c => ∃ (ring rest : List Int) (x4 : Option VD), en = [some (.cel f), some k, some (.int least), some (.lst .own (ring.map .int)), x4, some (.cel j), x6] ∧ c[j]? = some (rest.map .int) ∧ ring.length = done.length ∧ (ring ++ rest).Perm L ∧ FeedV c f (b + (60 - done.length))) ?_ ?_ ⟨[], L, none, rfl, hj, rfl, .refl _, F.mono (by simp)⟩
  · rintro en c ⟨ring, rest, x4, rfl, h1, h2, h3, h4⟩
    rw [List.length_range] at h2
    have : rest = [] := by
      have := h3.length_eq
      rw [List.length_append] at this
      exact List.eq_nil_of_length_eq_zero (by omega)
    subst this
    rw [List.append_nil] at h3
    exact hq ring x4 c h3 (h4.mono (by omega))
  · rintro done i rs en c K e ⟨ring, rest, x4, rfl, h1, h2, h3, h4⟩ hK
    have hd : done.length < L.length := by
      have := congrArg List.length e
      simp at this; omega
    have hr : ring.length + rest.length = L.length := by rw [← List.length_append]; exact h3.length_eq
    simp [v39_1, vrecv, h1]
    refine take_v2 (h4.mono (by omega : (b + (60 - (done.length + 1))) + 1 ≤ _)) (by omega) (by omega) fun v c2 v0 v1 F2 X2 => ?_
    have hv : v.toNat < rest.length := by omega
    have h1' := (X2.2 j hjf).trans h1
    rw [pop_cell (y := .int rest[v.toNat]) (p := v.toNat) h1' v0 (by rw [List.length_map]; omega) (by rw [List.length_map]; omega) rfl (by rw [List.getElem?_map, List.getElem?_eq_getElem hv]; rfl)]
    simp
    refine ⟨by omega, hK _ _ ⟨ring ++ [rest[v.toNat]], rest.eraseIdx v.toNat, _, by rw [List.map_append]; rfl, ?_, by simp; omega, ?_, ?_⟩⟩
    · have hl : j < c2.length := (List.getElem?_eq_some_iff.mp h1').1
      rw [List.getElem?_set_self hl, erase_map]
    · refine List.Perm.trans ?_ h3
      rw [List.append_assoc]
      exact List.Perm.append_left _ (erase_perm hv)
    · obtain ⟨c0, k0, r0, f1, f2, f3⟩ := F2
      exact ⟨c0, k0, r0, by rw [List.getElem?_set_ne hjf]; exact f1, f2, by simp; omega⟩
theorem world_tail {m f b j : Nat} {k : Kd} {least M : Int} {L : List Int} {x6 : Option VD} {cs : CS} {nx : VEn → CS → Prop} {Q : VD → CS → Prop} {E : XV → VEn → CS → Prop} (F : FeedV cs f (b + 61)) (hL : L.length ≤ 60) (hM : (if (3 : Int) < least then least else 3) = M) (hle : 3 ≤ M ∧ M ≤ 20) (hj : cs[j]? = some (L.map .int)) (hjf : j ≠ f)
    (q0 : ∀ c, FeedV c f b → (L.length : Int) < M → Q .non c) (q1 : ∀ ring r c, ring.Perm L → r.Sublist ring → M ≤ r.length → (k.names? = false → r = ring) → FeedV c f b → Q (rowV r) c) :
    WS (vSs (callV PrV (m + 2)) (v39.body.drop 3) [some (.cel f), some k.v, some (.int least), none, none, some (.cel j), x6] cs) nx Q E := by
  have sz := PySem.sizeLine_eq
  have b62 := B62_eq
  have hm3 := hM
  simp [v39, hj, hm3]
  by_cases c : (L.length : Int) < M
  · simp [c]
    exact q0 _ (F.mono (by omega)) c
  · simp [c]
    rw [walk_rng1 (by omega) (by omega)]
    simp only [oS_some_]
    rw [show (L.length : Int).toNat = L.length by omega]
    refine shuffle (b := b + 1) (F.mono (by omega)) hL hj hjf fun ring x4 c2 hp F2 => ?_
    have hr := hp.length_eq
    have c' := Int.not_lt.mp c
    clear c
    simp
    cases e : k.names? with
    | false =>
      simp
      exact q1 ring ring c2 hp (.refl _) (by omega) (fun _ => rfl) (F2.mono (by omega))
    | true =>
      simp [hm3]
      refine take_v F2 (by omega) (by omega) fun v c3 v0 v1 F3 => ?_
      have cu : cutV (ring.map VD.int) none (some (M + v)) = (ring.take (M + v).toNat).map VD.int := by
        rw [cutV_map, show M + v = (((M + v).toNat : Nat) : Int) by omega, cutV_to (by omega)]
        rfl
      have lt : (ring.take (M + v).toNat).length = (M + v).toNat := by rw [List.length_take]; omega
      have st : (ring.take (M + v).toNat).Sublist ring := List.take_sublist _ _
      generalize ring.take (M + v).toNat = z at cu lt st
      simp [cu]
      exact ⟨by omega, q1 ring z c3 hp st (by omega) (by simp [e]) F3⟩
/-- why no world is drawn -/
def NoneOk (k : Kd) (M : Int) : Prop := (∃ hu wi R, k = .wish hu wi R ∧ aliveR R = []) ∨ ∃ n, k = .names n ∧ n < M
theorem world_v2 {m f b : Nat} {k : Kd} {least M : Int} {cs : CS} {Q : VD → CS → Prop} {E : XV → CS → Prop} (F : FeedV cs f (b + 200)) (hk : k.ok) (hM : (if (3 : Int) < least then least else 3) = M) (hle : 3 ≤ M ∧ M ≤ 20) (hu3 : ∀ hu wi R, k = .wish hu wi R → hu ≤ 4)
    (q0 : ∀ c, FeedV c f b → NoneOk k M → Q .non c) (q1 : ∀ w c, Drawn k M w → FeedV c f b → Q w.v c) : W (callV PrV (m+4) 39 [.cel f, k.v, .int least] cs) Q E := by
  rw [call_s (d := v39) rfl rfl]
  have sz := PySem.sizeLine_eq
  have b62 := B62_eq
  have hm3 := hM
  have fF : f < cs.length := by obtain ⟨_, _, _, e, _⟩ := F; exact (List.getElem?_eq_some_iff.mp e).1
  have tl := @world_tail (m + 1) f b
  rw [vSs_cut 3]
  simp only [WS_thS]
  generalize v39.body.drop 3 = T at tl
  simp [v39, hm3]
  cases k with
  | web n d =>
    simp [Kd.web?]
    refine web_v (F.mono (by omega) : FeedV cs f (b + 50)) ⟨hk.1, hk.2.1⟩ ⟨hk.2.2.1, hk.2.2.2⟩ fun ns ls c w F2 => ?_
    simp
    exact q1 _ c (.web rfl hk w) F2
  | wish hu wi R =>
    obtain ⟨k1, k2, k3, k4⟩ := hk
    have e1 : atI [VD.str "wish", wishV hu wi R] 1 = some (wishV hu wi R) := rfl
    have al : R.length ≤ 64 := Nat.le_trans k4.length_le (by rw [allR_many]; exact pow_le4 k2 (by omega))
    simp [Kd.web?, Kd.wish?, Kd.v, e1]
    refine ring_v (F.mono (by omega) : FeedV cs f (b + 25)) k2 k3 (fun r hr => k4.subset hr) al ⟨by omega, hle.2⟩ (fun hal c F2 => ?_) fun rg c F2 p1 p2 p3 p4 p5 => ?_
    · simp
      exact q0 c F2 (.inl ⟨_, _, _, rfl, hal⟩)
    · simp
      exact q1 (.ring rg) c (.ring rfl (by omega) p2 p4 (fun _ z => by cases z) (fun z => by cases z) fun hu' _ _ z => by cases z; exact ⟨p1, p5⟩) F2
  | names n =>
    obtain ⟨k1, k2⟩ := hk
    have e1 : atI [VD.str "names", VD.int n] 1 = some (.int n) := rfl
    have rg : vbi cs .listRng2 [.int 1, .int (n + 1)] = some (.lst .own ((upTo n.toNat).map .int)) := by
      show (if rgOk 1 (n + 1) = true then vNew (vRng 1 (n + 1)) else none) = _
      have : rgOk 1 (n + 1) = true := by
        unfold rgOk
        have := N24_eq
        simp
        omega
      rw [if_pos this, vNew_ (by unfold vRng; simp; omega)]
      unfold vRng upTo
      rw [List.map_map, show (n + 1 - 1).toNat = n.toNat by omega]
      rfl
    have lu : (upTo n.toNat).length = n.toNat := by unfold upTo; rw [List.length_map, List.length_range]
    simp [Kd.web?, Kd.wish?, Kd.names?, Kd.v, e1, rg]
    refine tl (k := .names n) (j := cs.length) (L := upTo n.toNat) (F.app.mono (by omega)) (by omega) hM hle get_end (by omega) (fun c F2 hlt => q0 c F2 (.inr ⟨_, rfl, by unfold upTo at hlt; rw [List.length_map, List.length_range] at hlt; omega⟩)) fun ring r c hp hs hl _ F2 => ?_
    refine q1 (.ring r) c (.ring rfl (by omega) hl ?_ (fun n' z => ?_) (fun z => by cases z) fun _ _ _ z => by cases z) F2
    · have := hs.length_le; have := hp.length_eq; omega
    · cases z
      refine ⟨hs.nodup ((hp.nodup_iff).mpr (upTo_nodup _)), fun x hx => ?_⟩
      have := mem_upTo.mp (hp.mem_iff.mp (hs.subset hx))
      omega
  | order =>
    simp [Kd.web?, Kd.wish?, Kd.names?, Kd.v, B20_eq, N64_eq]
    refine take_v (F.mono (by omega) : FeedV cs f ((b + 198) + 1)) (by omega) (by omega) fun v c1 v0 v1 F1 => ?_
    obtain ⟨st, hst, hat⟩ : ∃ st : Int, (1 ≤ st ∧ st ≤ 10 ^ 20) ∧ atI [VD.int 1, VD.int 3, VD.int (100000000000000000000 : Int)] v = some (.int st) := by
      rcases (by omega : v = 0 ∨ v = 1 ∨ v = 2) with rfl | rfl | rfl
      · exact ⟨1, by decide, rfl⟩
      · exact ⟨3, by decide, rfl⟩
      · exact ⟨_, by decide, rfl⟩
    simp [hat, hm3]
    refine take_v (F1.mono (by omega) : FeedV c1 f ((b + 190) + 1)) (by omega) (by omega) fun u c2 u0 u1 F2 => ?_
    have fF2 : f < c2.length := by obtain ⟨_, _, _, e, _⟩ := F2; exact (List.getElem?_eq_some_iff.mp e).1
    simp
    rw [walk_rng1 (by omega) (by omega)]
    simp only [W_oM_some]
    obtain ⟨N, hN⟩ : ∃ N : Nat, N = (M + u).toNat := ⟨_, rfl⟩
    rw [← hN]
    refine turn_done (fun (k : Nat) => VD.int k) (List.range N) (fun done acc c => ∃ L : List Int, acc = L.map .int ∧ L.length = done.length ∧ (∀ x ∈ L, -7 ≤ x ∧ x < st * done.length - 7) ∧ L.Nodup ∧ FeedV c f (b + 100 + (30 - done.length))) ?_ ?_ ⟨[], rfl, rfl, (by simp), List.nodup_nil, F2.mono (by simp)⟩
    · rintro acc c3 ⟨L, rfl, l1, l2, l3, F3⟩
      have fF3 : f < c3.length := by obtain ⟨_, _, _, e, _⟩ := F3; exact (List.getElem?_eq_some_iff.mp e).1
      rw [List.length_range] at l1 l2 F3
      simp
      refine ⟨by omega, ?_⟩
      refine tl (k := .order) (j := c3.length) (L := L) (F3.app.mono (by omega)) (by omega) hM hle get_end (by omega) (fun c F2 hlt => by omega) fun ring r c hp hs hl hr F2 => ?_
      have hr := hr rfl
      subst hr
      have hpl := hp.length_eq
      refine q1 (.ring r) c (.ring rfl (by omega) hl (by omega) (fun n' z => by cases z) (fun z => ⟨(hp.nodup_iff).mpr l3, by omega, fun x hx => ?_⟩) fun _ _ _ z => by cases z) F2
      obtain ⟨a1, a2⟩ := l2 x (hp.mem_iff.mp hx)
      have a3 : st * (N : Int) ≤ 10 ^ 20 * 30 := Int.mul_le_mul hst.2 (by omega) (by omega) (by decide)
      have e30 : (10 : Nat) ^ 30 = 1000000000000000000000000000000 := by decide
      omega
    · rintro done k rest acc c K e ⟨L, rfl, l1, l2, l3, F3⟩ k1 k2
      have hd : done.length < N := by
        have := congrArg List.length e
        simp at this; omega
      have hk : k = done.length := by
        have := congrArg (fun l => l[done.length]?) e
        simp at this
        have h2 := this.symm
        rw [List.getElem?_range hd] at h2
        simpa using h2
      subst hk
      simp
      have b64 := B64_eq
      refine ⟨.inr ⟨by omega, by omega⟩, ?_⟩
      refine take_v (F3.mono (by omega) : FeedV c f ((b + 100 + (30 - (done.length + 1))) + 1)) (by omega) (by omega) fun z c5 z0 z1 F5 => ?_
      simp
      have e1 : st * ((done.length : Int) + 1) = st * done.length + st := by rw [Int.mul_add, Int.mul_one]
      have e0 : 0 ≤ st * (done.length : Int) := Int.mul_nonneg (by omega) (by omega)
      exact k1 _ _ (by simp; omega) ⟨L ++ [st * done.length - 7 + z], by rw [List.map_append]; rfl, by simp [l1], fun x hx => by
        simp
        rw [e1]
        rcases List.mem_append.mp hx with hx | hx
        · have := l2 x hx; omega
        · simp at hx; omega, by
        rw [List.nodup_append]
        refine ⟨l3, by simp, fun x hx y hy => ?_⟩
        simp at hy
        have := l2 x hx
        omega, F5.mono (by simp)⟩
theorem world_v {m f b : Nat} {k : Kd} {least : Int} {cs : CS} {Q : VD → CS → Prop} {E : XV → CS → Prop} (F : FeedV cs f (b + 200)) (hk : k.ok) (hle : 3 ≤ least ∧ least ≤ 20) (hu3 : ∀ hu wi R, k = .wish hu wi R → hu ≤ 4)
    (q0 : ∀ c, FeedV c f b → NoneOk k least → Q .non c) (q1 : ∀ w c, Drawn k least w → FeedV c f b → Q w.v c) : W (callV PrV (m+4) 39 [.cel f, k.v, .int least] cs) Q E :=
  world_v2 F hk (by split <;> omega) hle hu3 q0 q1
end Mp
namespace Mp
open PySem L2
/-! ### a drawn world is a right one -/
theorem upTo_len (n : Nat) : (upTo n).length = n := by unfold upTo; rw [List.length_map, List.length_range]
theorem Drawn.fits {k : Kd} {least : Int} {w : Wd} (h : Drawn k least w) : w.fits k := by
  cases h with
  | ring h1 h2 h3 h4 _ _ _ => exact ⟨h1, h2, by omega⟩
  | web hk hn hw =>
    subst hk
    have hns := hw.sub.length_le
    rw [upTo_len] at hns
    have hp := pairs_le hw.nd fun p hp => (hw.mem p hp).2
    have := Nat.le_trans hp (Nat.mul_le_mul (show _ ≤ 5 by omega) (show _ ≤ 5 by omega))
    refine ⟨rfl, by omega, by rw [sortP_len]; omega, hw.pos, fun p hp => (hw.mem p (mem_sortP.mp hp)).1⟩
theorem Drawn.size {k : Kd} {least : Int} {w : Wd} (h : Drawn k least w) : 1 ≤ w.size ∧ w.size ≤ 100 := by
  have hf := h.fits
  cases h with
  | ring h1 h2 h3 h4 _ _ _ => exact ⟨by show 1 ≤ List.length _; omega, by show List.length _ ≤ 100; omega⟩
  | web hk hn hw => exact ⟨hf.2.2.2.1, by have := hf.2.1; show List.length _ ≤ 100; omega⟩
theorem mem_partR {r : List Int} {f : Int} {m : Nat} (hr : 0 < r.length) {x : Int} (h : x ∈ partR r f m) : x ∈ r := by
  obtain ⟨k, _, rfl⟩ := List.mem_map.mp h
  have h0 := Int.emod_nonneg (f + k) (show (r.length : Int) ≠ 0 by omega)
  have h1 := Int.emod_lt_of_pos (f + k) (show 0 < (r.length : Int) by omega)
  have hl : ((f + k) % r.length).toNat < r.length := by omega
  rw [List.getD_eq_getElem?_getD, List.getElem?_eq_getElem hl]
  exact List.getElem_mem hl
theorem partR_len {r : List Int} {f : Int} {m : Nat} : (partR r f m).length = m := by simp [partR]
theorem mem_orderR {r : List Int} {x : Int} (h : x ∈ orderR r) : 0 ≤ x ∧ x ≤ r.length := by
  obtain ⟨y, _, rfl⟩ := List.mem_map.mp h
  have := List.length_filter_le (fun z => decide (z < y)) r
  omega
theorem mem_besideR {ls : List (Int × Int)} {nm x : Int} (h : x ∈ besideR ls nm) : ∃ p ∈ ls, x = p.1 ∨ x = p.2 := by
  unfold besideR at h
  rw [mem_sortI, List.mem_append] at h
  rcases h with h | h
  · obtain ⟨p, hp, rfl⟩ := List.mem_map.mp h
    exact ⟨p, (List.mem_filter.mp hp).1, .inr rfl⟩
  · obtain ⟨p, hp, rfl⟩ := List.mem_map.mp h
    exact ⟨p, (List.mem_filter.mp hp).1, .inl rfl⟩
theorem besideR_len {ls : List (Int × Int)} {nm : Int} : (besideR ls nm).length ≤ 2 * ls.length := by
  unfold besideR
  rw [sortI_len, List.length_append, List.length_map, List.length_map]
  have l1 := List.length_filter_le (fun p : Int × Int => decide (p.1 = nm)) ls
  have l2 := List.length_filter_le (fun p : Int × Int => decide (p.2 = nm)) ls
  omega
/-! ### places of names -/
def idxR (ns : List Int) (x : Int) : Nat := (ns.findIdx? fun z => decide (z = x)).getD 0
theorem idxR_some {ns : List Int} {x : Int} (h : x ∈ ns) : (ns.findIdx? fun z => decide (z = x)) = some (idxR ns x) ∧ idxR ns x < ns.length := by
  cases e : ns.findIdx? fun z => decide (z = x) with
  | none =>
    have := List.findIdx?_eq_none_iff.mp e x h
    simp at this
  | some i =>
    obtain ⟨hi, _⟩ := List.findIdx?_eq_some_iff_getElem.mp e
    exact ⟨by unfold idxR; rw [e]; rfl, by unfold idxR; rw [e]; exact hi⟩
theorem index_rowN {ns : List Int} {x : Int} {cs : CS} (h : x ∈ ns) : vmt cs .index (rowN ns) [.int x] = some (.int (idxR ns x), cs) := by
  show (vask .index (rowN ns) [.int x]).map (fun d => (d, cs)) = _
  have p1 : pyV 65 (rowN ns) = some (.tuple (ns.map .int)) := pyV_rowN
  show (match pyV 65 (rowN ns), pyV 65 (.int x) with | some (.tuple ds), some a => (if SeqAt.shaped a && SeqAt.shaped (.tuple ds) then (ds.findIdx? fun z => PyData.eqv z a).map fun j => VD.int (j : Nat) else none) | _, _ => none).map (fun d => (d, cs)) = _
  rw [p1]
  have sh : SeqAt.shaped (.tuple (ns.map .int)) = true := shaped_row' (r := ns)
  simp only [pyV, shaped_int, sh, Bool.and_self, if_true]
  rw [List.findIdx?_map]
  have : ((fun z => PyData.eqv z (.int x)) ∘ PyData.int) = fun z => decide (z = x) := by
    funext z
    simp only [Function.comp, PyData.eqv]
    by_cases h : z = x <;> simp [h]
  rw [this, (idxR_some h).1]
  rfl
/-- list(range(n)) -/
theorem rng_v {n : Nat} {cs : CS} (h : n ≤ 1000) : vbi cs .listRng1 [.int n] = some (.lst .own (((List.range n).map fun (i : Nat) => (i : Int)).map .int)) := by
  have b62 := B62_eq
  have n24 := N24_eq
  have sz := PySem.sizeLine_eq
  show (if rgOk 0 n = true then vNew (vRng 0 n) else none) = _
  have : rgOk 0 n = true := by
    unfold rgOk
    rw [decide_eq_true_eq]
    omega
  rw [if_pos this, vNew_ (by unfold vRng; simp; omega)]
  unfold vRng
  rw [List.map_map]
  simp [Function.comp_def]
end Mp
namespace Mp
open PySem L2
/-! ### law k09 -/
def spR : Wd → List VD
  | .ring r => ((List.range r.length).map fun (i : Nat) => (i : Int)).map .int
  | .web ns ls => ls.map fun p => rowV [(idxR ns p.1 : Int), (idxR ns p.2 : Int)]
def spP : Wd → List PyData
  | .ring r => ((List.range r.length).map fun (i : Nat) => (i : Int)).map .int
  | .web ns ls => ls.map fun p => rowP' [(idxR ns p.1 : Int), (idxR ns p.2 : Int)]
theorem spR_len {w : Wd} : (spR w).length = match w with | .ring r => r.length | .web _ ls => ls.length := by cases w <;> simp [spR]
theorem sp_py {w : Wd} {t : Tg} : pyV 65 (.lst t (spR w)) = some (.list (spP w)) := by
  cases w with
  | ring r => exact pyV_intsL _
  | web ns ls =>
    show ((ls.map fun p => rowV [(idxR ns p.1 : Int), (idxR ns p.2 : Int)]).mapM (pyV 64)).map PyData.list = _
    rw [mapM_map' (f := pyV 64) (g := fun p : Int × Int => rowV [(idxR ns p.1 : Int), (idxR ns p.2 : Int)]) (k := fun p : Int × Int => rowP' [(idxR ns p.1 : Int), (idxR ns p.2 : Int)]) fun p => pyV_row]
    rfl
theorem good_rows {α : Type} {f : α → List Int} : ∀ {l : List α}, (∀ a ∈ l, ∀ x ∈ f a, x.natAbs < 10 ^ 40) → goodAll (l.map fun a => rowP' (f a)) = true
  | [], _ => rfl
  | a :: l, h => by
    simp only [List.map_cons, goodAll, good, rowP', Bool.and_eq_true]
    exact ⟨good_ints (h a List.mem_cons_self), good_rows fun b hb => h b (List.mem_cons_of_mem _ hb)⟩
theorem shWA_rows {α : Type} {f : α → List Int} {k : Nat} : ∀ {l : List α}, (∀ a ∈ l, (f a).length ≤ k) → shWA (l.map fun a => rowP' (f a)) ≤ l.length * (43 * k + 6)
  | [], _ => by simp [shWA]
  | a :: l, h => by
    simp only [List.map_cons, shWA, shW, rowP', shWA_ints, List.length_cons]
    have h1 := h a List.mem_cons_self
    have h2 := shWA_rows (k := k) fun b hb => h b (List.mem_cons_of_mem (a := b) a hb)
    have h3 : 43 * (f a).length ≤ 43 * k := Nat.mul_le_mul_left _ h1
    simp only [rowP'] at h2
    rw [Nat.add_mul]
    omega
theorem depth_rows {α : Type} {f : α → List Int} : ∀ l : List α, PyData.depthAll (l.map fun a => rowP' (f a)) ≤ 3
  | [] => by simp [PyData.depthAll]
  | a :: l => by
    have h1 := (lay_row' (f a)).2
    have h2 := depth_rows (f := f) l
    simp only [List.map_cons, PyData.depthAll]
    omega
theorem Drawn.spShown {k : Kd} {least : Int} {w : Wd} (hw : Drawn k least w) (t : Tg) : Sh (.lst t (spR w)) (PyData.list (spP w)).shown := by
  have hf := hw.fits
  have sz := PySem.sizeLine_eq
  have e40 : (10 : Nat) ^ 40 = 10000000000000000000000000000000000000000 := by decide
  refine sh_of sp_py ?_ ?_ ?_
  · cases w with
    | ring r =>
      show goodAll _ = true
      refine good_ints fun x hx => ?_
      obtain ⟨i, hi, rfl⟩ := List.mem_map.mp hx
      have := List.mem_range.mp hi
      have := hf.2.2
      omega
    | web ns ls =>
      show goodAll (ls.map _) = true
      refine good_rows fun p hp x hx => ?_
      have hn := hf.2.1
      have : ∀ y, idxR ns y ≤ 10 := fun y => by
        unfold idxR
        cases e : ns.findIdx? fun z => decide (z = y) with
        | none => exact Nat.zero_le _
        | some i =>
          obtain ⟨hi, _⟩ := List.findIdx?_eq_some_iff_getElem.mp e
          show i ≤ 10
          omega
      have t1 := this p.1
      have t2 := this p.2
      simp at hx
      rcases hx with rfl | rfl <;> omega
  · cases w with
    | ring r =>
      have := (lay_row' ((List.range r.length).map fun (i : Nat) => (i : Int))).2
      simp only [rowP', PyData.depth] at this
      simp only [spP, PyData.depth]
      omega
    | web ns ls =>
      have := depth_rows (f := fun p : Int × Int => [(idxR ns p.1 : Int), (idxR ns p.2 : Int)]) ls
      simp only [spP, PyData.depth]
      omega
  · cases w with
    | ring r =>
      have := hf.2.2
      simp only [spP, shW, shWA_ints, List.length_map, List.length_range]
      omega
    | web ns ls =>
      have := hf.2.2.1
      have h2 := shWA_rows (f := fun p : Int × Int => [(idxR ns p.1 : Int), (idxR ns p.2 : Int)]) (k := 2) (l := ls) fun a _ => Nat.le_refl _
      simp only [spP, shW]
      omega
/-- both sides tell the same of a web -/
theorem links_v {ns : List Int} {ls : List (Int × Int)} {cs : CS} {one : VD → CS → M (Option VD)} (hl : ls.length ≤ 100) (ho : ∀ p ∈ ls, one (linkV p) cs = some (.ok (some (rowV [(idxR ns p.1 : Int), (idxR ns p.2 : Int)])), cs)) : turnV one (ls.map linkV) [] cs = some (.ok (spR (.web ns ls)), cs) := by
  have sz := PySem.sizeLine_eq
  rw [turn_map linkV (fun p => some (rowV [(idxR ns p.1 : Int), (idxR ns p.2 : Int)])) ls (by omega) ho, filterMap_all' fun p : Int × Int => rowV [(idxR ns p.1 : Int), (idxR ns p.2 : Int)]]
  rfl
theorem Drawn.ends {k : Kd} {least : Int} {ns : List Int} {ls : List (Int × Int)} (hw : Drawn k least (.web ns ls)) : ∀ p ∈ ls, p.1 ∈ ns ∧ p.2 ∈ ns := by
  cases hw with
  | web _ _ w => exact fun p hp => (w.mem p (mem_sortP.mp hp)).2
theorem spots_v {n : Nat} {k : Kd} {w : Wd} {least : Int} {X : VD} {cs : CS} (hw : Drawn k least w) : callV PrV (n+2) 72 [k.v, w.v, X] cs = some (.ok (.lst .own (spR w)), cs) := by
  refine eq_of_W ?_
  rw [call_s (d := v72) rfl rfl]
  have sz := PySem.sizeLine_eq
  have hf := hw.fits
  cases w with
  | ring r =>
    obtain ⟨w1, w2, w3⟩ := hf
    simp [v72, isweb_v, w1, Wd.v, rng_v (show r.length ≤ 1000 by omega)]
    rw [← List.map_map]; rfl
  | web ns ls =>
    obtain ⟨w1, w2, w3, w4, w5⟩ := hf
    have he := hw.ends
    simp [v72, isweb_v, w1, Wd.v]
    rw [links_v (ns := ns) w3 fun p hp => ?_]
    · have : (spR (.web ns ls)).length ≤ sizeLine := by rw [spR_len]; show ls.length ≤ _; omega
      simp [this]
    · refine eq_of_W ?_
      simp [index_rowN (he p hp).1, index_rowN (he p hp).2]
      rfl
/-- how many letters, or names and links -/
def Wd.len : Wd → Nat
  | .ring r => r.length
  | .web _ _ => 2
theorem wide_v {n : Nat} {k : Kd} {w : Wd} {least : Int} {t wi : Nat} {cs : CS} (hw : Drawn k least w) : callV PrV (n+2) 79 [k.v, w.v, .tup [.int 2, .int wi, .tup []], .int t] cs = some (.ok (.bl (k.web? || decide (2 * (t : Int) + wi ≤ w.len))), cs) := by
  refine eq_of_W ?_
  rw [call_s (d := v79) rfl rfl]
  have b64 := B64_eq
  have hf := hw.fits
  cases w with
  | ring r =>
    obtain ⟨w1, w2, w3⟩ := hf
    have k1 : atI [VD.int 2, VD.int wi, .tup []] 1 = some (.int wi) := rfl
    simp [v79, isweb_v, w1, Wd.v, k1]
    refine ⟨by omega, ?_⟩
    rfl
  | web ns ls =>
    obtain ⟨w1, _⟩ := hf
    simp [v79, isweb_v, w1]
theorem sh_bl (b : Bool) : Sh (.bl b) (PyData.bool b).shown := sh_of rfl rfl (by cases b <;> decide) (by have := PySem.sizeLine_eq; show 5 ≤ sizeLine; omega)
theorem body9 {m f b : Nat} {k : Kd} {w : Wd} {least : Int} {cs : CS} {sc K' a5 a6 a7 a8 a9 a10 a11 : Option VD} {nx : VEn → CS → Prop} {Q : VD → CS → Prop} {E : XV → VEn → CS → Prop} (hw : Drawn k least w) (F : FeedV cs f (b + 1))
    (hq : ∀ a5 a6 a7 a8 a9 a10 a11 c, nx [sc, K', some (.cel f), some k.v, some w.v, a5, a6, a7, a8, a9, a10, a11] c) :
    WS (vSs (callV PrV (m + 5)) (v80_2.drop 3) [sc, K', some (.cel f), some k.v, some w.v, a5, a6, a7, a8, a9, a10, a11] cs) nx Q E := by
  have b62 := B62_eq
  have sz := PySem.sizeLine_eq
  have hf := hw.fits
  have nn : vcmp .notN w.v .non = some true := by cases w <;> rfl
  have sp := fun cs X => spots_v (n := m + 3) (cs := cs) (X := X) hw
  have sh := hw.spShown
  have ok := (sh .own).ok
  have b64 := B64_eq
  have loop : ∀ (wb : Bool) (wi : Nat) (x7 x9 : Option VD) (c : CS), wb = k.web? → WS (oS (vWalk IK.rng1 [.int (if wb = true then 2 else 3)]) fun xs => forV (fun x en2 cs => vSs (callV PrV (m + 5)) v80_1 (en2.set 8 (some x)) cs) xs [sc, K', some (.cel f), some k.v, some w.v, some (.bl wb), some (.tup [.int 2, .int wi, .tup []]), x7, a8, x9, a10, a11] c) nx Q E := fun wb wi x7 x9 c hwb => by
    rw [walk_rng1 (by split <;> decide) (by split <;> omega)]
    simp only [oS_some_]
    obtain ⟨N, hN⟩ : ∃ N : Nat, N = (if wb = true then 2 else 3 : Int).toNat := ⟨_, rfl⟩
    rw [← hN]
    have hN3 : N ≤ 3 := by rw [hN]; split <;> decide
    refine for_done (fun (i : Nat) => VD.int i) (List.range N) (fun done en c => ∃ y8, en = [sc, K', some (.cel f), some k.v, some w.v, some (.bl wb), some (.tup [.int 2, .int wi, .tup []]), x7, y8, x9, a10, a11]) ?_ ?_ ⟨_, rfl⟩
    · rintro en c ⟨y8, rfl⟩
      exact hq _ _ _ _ _ _ _ _
    · rintro done t rest en c K e ⟨y8, rfl⟩ hK
      have ht : t < 3 := by
        have : t ∈ List.range N := by rw [e]; simp
        have := List.mem_range.mp this
        omega
      have wv := fun cs => wide_v (n := m + 3) (t := t) (wi := wi) (cs := cs) hw
      have k1 : atI [VD.int 2, VD.int wi, .tup []] 1 = some (.int wi) := rfl
      have okb := fun b => (sh_bl b).ok
      cases hb : k.web? with
      | true =>
        rw [hb] at hwb wv
        subst hwb
        simp [v80_1, wv, (sh_bl _).rp, okb]
        exact hK _ _ ⟨_, rfl⟩
      | false =>
        cases w with
        | web ns ls => rw [hf.1] at hb; cases hb
        | ring r =>
          have hl : ∀ cs, vbi cs .len [(Wd.ring r).v] = some (.int r.length) := fun cs => len_row
          rw [hb] at hwb
          subst hwb
          have wv : ∀ cs, callV PrV (m + 5) 79 [k.v, (Wd.ring r).v, VD.tup [VD.int 2, VD.int wi, VD.tup []], VD.int t] cs = some (.ok (.bl (decide (2 * (t : Int) + wi ≤ (r.length : Int)))), cs) := fun cs => by
            have := wv cs
            rw [hb] at this
            exact this
          simp [v80_1, wv, (sh_bl _).rp, okb, hl, k1]
          refine ⟨by omega, ?_⟩
          exact hK _ _ ⟨_, rfl⟩
  cases hb : k.web? with
  | true =>
    cases w with
    | ring r => rw [hf.1] at hb; cases hb
    | web ns ls =>
      have he := hw.ends
      have x0 : ∀ cs, vix cs (Wd.web ns ls).v (.int 0) = some (rowN ns) := fun cs => rfl
      have x1 : ∀ cs, vix cs (Wd.web ns ls).v (.int 1) = some (.tup (ls.map linkV)) := fun cs => rfl
      simp [v80_2, nn, hb, x0, x1]
      rw [links_v (ns := ns) hf.2.2.1 fun p hp => ?_]
      · have : (spR (.web ns ls)).length ≤ sizeLine := by have := hf.2.2.1; rw [spR_len]; show ls.length ≤ _; omega
        simp [this, sp, (sh _).rp, ok]
        refine ⟨by have := hf.2.2.1; rw [spR_len]; show ls.length < _; omega, ?_⟩
        exact loop true 2 _ _ _ hb.symm
      · refine eq_of_W ?_
        simp [x0, index_rowN (he p hp).1, index_rowN (he p hp).2]
        rfl
  | false =>
    cases w with
    | web ns ls => rw [hf.1] at hb; cases hb
    | ring r =>
      have hl : ∀ cs, vbi cs .len [(Wd.ring r).v] = some (.int r.length) := fun cs => len_row
      have hr := hf.2.2
      have rg := fun cs => rng_v (n := r.length) (cs := cs) (by omega)
      have sl : (spR (.ring r)).length < sizeLine := by rw [spR_len]; show r.length < _; omega
      have fo : (((List.range r.length).map fun (i : Nat) => (i : Int)).map VD.int) = spR (.ring r) := rfl
      simp only [fo] at rg
      simp [v80_2, nn, hb]
      refine take_v F (by omega) (by omega) fun u c2 u0 u1 F2 => ?_
      obtain ⟨un, rfl⟩ : ∃ un : Nat, u = un := ⟨u.toNat, by omega⟩
      simp [hl, rg, sp, (sh _).rp, ok]
      refine ⟨sl, ?_⟩
      exact loop false (2 + un) _ _ _ hb.symm
theorem law9_v {m : Nat} {ns : List Int} (hl : ns.length ≤ 63) : W (callV PrV (m + 6) 80 [.lst .rol (ns.map .int)] []) (fun v _ => v = .bl true) fun _ _ => False := by
  rw [call_s (d := v80) rfl rfl]
  have b62 := B62_eq
  have b64 := B64_eq
  have sz := PySem.sizeLine_eq
  simp [v80]
  rw [walk_rng1 (by decide) (by omega)]
  simp only [oS_some_]
  refine for_done (fun (i : Nat) => VD.int i) (List.range (Int.toNat 6)) (fun done en c => ∃ a1 a2 a3 a4 a5 a6 a7 a8 a9 a10 a11, en = [some (.lst .rol (ns.map .int)), a1, a2, a3, a4, a5, a6, a7, a8, a9, a10, a11]) ?_ ?_ ⟨_, _, _, _, _, _, _, _, _, _, _, rfl⟩
  · rintro en c ⟨a1, a2, a3, a4, a5, a6, a7, a8, a9, a10, a11, rfl⟩
    simp
  · rintro done j rest en c K e ⟨a1, a2, a3, a4, a5, a6, a7, a8, a9, a10, a11, rfl⟩ hK
    have hj : j < 6 := by
      have : j ∈ List.range (Int.toNat 6) := by rw [e]; simp
      exact List.mem_range.mp this
    have bd := fun (w : Wd) (least : Int) (k : Kd) (cs : CS) (f : Nat) (hw : Drawn k least w) (F : FeedV cs f (100 + 1)) (a5 a6 a7 a8 a9 a10 a11 : Option VD) (hq : _) => @body9 m f 100 k w least cs (some (.lst .rol (ns.map .int))) (some (.int j)) a5 a6 a7 a8 a9 a10 a11 K (fun v _ => v = .bl true) (fun _ _ _ => False) hw F hq
    have bn : ∀ (k : VD) (f : VD) (cs : CS) (a5 a6 a7 a8 a9 a10 a11 : Option VD) (Q : VEn → CS → Prop), Q [some (.lst .rol (ns.map .int)), some (.int j), some f, some k, some .non, a5, a6, a7, a8, a9, a10, a11] cs → WS (vSs (callV PrV (m + 5)) (v80_2.drop 3) [some (.lst .rol (ns.map .int)), some (.int j), some f, some k, some .non, a5, a6, a7, a8, a9, a10, a11] cs) Q (fun v _ => v = .bl true) (fun _ _ _ => False) := fun k f cs a5 a6 a7 a8 a9 a10 a11 Q h => by
      simp [v80_2, vcmp]
      exact h
    simp only [List.set_cons_succ, List.set_cons_zero]
    rw [vSs_cut 3]
    simp only [WS_thS]
    generalize v80_2.drop 3 = T at bd bn ⊢
    simp [v80_2]
    refine feed_v (b := 10000) (by omega) (by omega) fun cc F => ?_
    simp
    refine kind_v (F.mono (by omega) : FeedV _ _ (5000 + 75)) fun k c2 hk hu F2 => ?_
    simp
    refine take_v (F2.mono (by omega) : FeedV _ _ (4000 + 1)) (by omega) (by omega) fun v c3 v0 v1 F3 => ?_
    simp
    refine world_v (F3.mono (by omega) : FeedV _ _ (3000 + 200)) hk (by omega) (fun hu' wi R z => by have := hu hu' wi R z; omega) (fun c4 F4 hweb => ?_) fun w c4 hw F4 => ?_
    · simp
      exact bn _ _ _ _ _ _ _ _ _ _ _ (hK _ _ ⟨_, _, _, _, _, _, _, _, _, _, _, rfl⟩)
    · simp
      exact bd w _ k c4 _ hw (F4.mono (by omega)) _ _ _ _ _ _ _ fun _ _ _ _ _ _ _ _ => hK _ _ ⟨_, _, _, _, _, _, _, _, _, _, _, rfl⟩
end Mp
namespace Mp
open PySem L2
/-! ### wishes -/
structure WOk (hu wi : Nat) (R : List (List Int)) : Prop where
  hu1 : 1 ≤ hu
  hu4 : hu ≤ 4
  wi23 : wi = 2 ∨ wi = 3
  many : R.length ≤ 64
  rows : ∀ r ∈ R, r.length = wi ∧ ∀ x ∈ r, 0 ≤ x ∧ x < hu
theorem ninV_rowsT {r : List Int} {rs : List (List Int)} : vcmp .nin (rowV r) (.tup (rs.map rowV)) = some (!decide (r ∈ rs)) := by
  show (vcmp .inn (rowV r) (.tup (rs.map rowV))).map (!·) = _
  rw [inV_rowsT]
  rfl
theorem ix0 {x : VD} {r : List VD} {cs : CS} : vix cs (.tup (x :: r)) (.int 0) = some x := atI_nat (j := 0) rfl
theorem ix1 {x y : VD} {r : List VD} {cs : CS} : vix cs (.tup (x :: y :: r)) (.int 1) = some y := atI_nat (j := 1) rfl
theorem ix2 {x y z : VD} {r : List VD} {cs : CS} : vix cs (.tup (x :: y :: z :: r)) (.int 2) = some z := atI_nat (j := 2) rfl
theorem w0 {hu wi : Nat} {R : List (List Int)} {cs : CS} : vix cs (wishV hu wi R) (.int 0) = some (.int hu) := ix0
theorem w1 {hu wi : Nat} {R : List (List Int)} {cs : CS} : vix cs (wishV hu wi R) (.int 1) = some (.int wi) := ix1
theorem w2 {hu wi : Nat} {R : List (List Int)} {cs : CS} : vix cs (wishV hu wi R) (.int 2) = some (.tup (R.map rowV)) := ix2
@[simp] theorem see_wish {hu wi : Nat} {R : List (List Int)} : (wishV hu wi R).see = wishV hu wi R := rfl
@[simp] theorem esc_wish {hu wi : Nat} {R : List (List Int)} : (wishV hu wi R).esc = some (wishV hu wi R) := rfl
@[simp] theorem keep_wish {hu wi : Nat} {R : List (List Int)} : (wishV hu wi R).keep = some (wishV hu wi R) := rfl
/-! ### rings: the first spot that breaks -/
def firstV (n : Nat) (p : Nat → Bool) : VD := match (List.range n).find? fun s => !p s with
  | some s => .int s
  | none => .non
theorem first_none {n : Nat} {p : Nat → Bool} (h : ∀ s ∈ List.range n, p s = true) : firstV n p = .non := by
  unfold firstV
  rw [List.find?_eq_none.mpr fun s hs => by simp [h s hs]]
theorem first_some {n s : Nat} {p : Nat → Bool} {done rest : List Nat} (e : List.range n = done ++ s :: rest) (h : ∀ x ∈ done, p x = true) (hs : p s = false) : firstV n p = .int s := by
  unfold firstV
  rw [e, List.find?_append, List.find?_eq_none.mpr fun x hx => by simp [h x hx]]
  simp [List.find?_cons, hs]
theorem spots_ring {n : Nat} {k : Kd} {r : List Int} {X : VD} {cs : CS} (hk : k.web? = false) (hr : r.length ≤ 200) (hX : X.esc = some X) : callV PrV (n+2) 72 [k.v, rowV r, X] cs = some (.ok (.lst .own ((List.range r.length).map fun (i : Nat) => VD.int i)), cs) := by
  refine eq_of_W ?_
  rw [call_s (d := v72) rfl rfl]
  have sz := PySem.sizeLine_eq
  simp [v72, isweb_v, hk, rng_v (show r.length ≤ 1000 by omega)]
  try rw [← List.map_map]; rfl
theorem cyc_get {c : List Int} {s j : Nat} {r : List Int} (hl : c.length = r.length) : (((s : Int) + j) % r.length) = (((s + j) % r.length : Nat) : Int) := by
  rw [show (s : Int) + j = ((s + j : Nat) : Int) by omega]
  rfl
theorem choices_ring {n s hu wi : Nat} {k : Kd} {r c : List Int} {R : List (List Int)} {cs : CS} (hk : k.web? = false) (hr : 1 ≤ r.length ∧ r.length ≤ 200) (hc : c.length = r.length) (hw : wi = 2 ∨ wi = 3) (hs : s < r.length) :
    callV PrV (n+3) 94 [k.v, rowV r, wishV hu wi R, .int s, rowV c] cs = some (.ok (rowV (cycW c wi s)), cs) := by
  have sz := PySem.sizeLine_eq
  have b62 := B62_eq
  have lt : ∀ j, (s + j) % r.length < r.length := fun j => Nat.mod_lt _ (by omega)
  have e93 : ∀ cs, callV PrV (n+2) 93 [k.v, rowV r, wishV hu wi R, .int s] cs = some (.ok (.lst .own ((List.range wi).map fun (j : Nat) => VD.int (((s + j) % r.length : Nat) : Int))), cs) := fun cs => by
    refine eq_of_W ?_
    rw [call_s (d := v93) rfl rfl]
    simp [v93, isweb_v, hk, w1]
    rw [walk_rng2 (by omega) (by omega) (by omega) (by omega)]
    simp only [W_oM_some]
    rw [show ((s : Int) + wi - s).toNat = wi by omega]
    rw [turn_map (fun (j : Nat) => VD.int (s + j)) (fun j => some (VD.int (((s + j) % r.length : Nat) : Int))) (List.range wi) (by rw [List.length_range]; omega) fun j hj => ?_]
    · rw [filterMap_all' fun (j : Nat) => VD.int (((s + j) % r.length : Nat) : Int)]
      simp
      omega
    · refine eq_of_W ?_
      simp
      omega
  refine eq_of_W ?_
  rw [call_s (d := v94) rfl rfl]
  simp [v94, e93]
  rw [turn_map (fun (j : Nat) => VD.int (((s : Int) + j) % r.length)) (fun j => some (VD.int (c.getD ((s + j) % c.length) 0))) (List.range wi) (by rw [List.length_range]; omega) fun j hj => ?_]
  · rw [filterMap_all' fun (j : Nat) => VD.int (c.getD ((s + j) % c.length) 0)]
    have e : ((List.range wi).map fun (j : Nat) => VD.int (c.getD ((s + j) % c.length) 0)) = (cycW c wi s).map .int := by
      unfold cycW
      rw [List.map_map]
      rfl
    rw [e]
    have le : (cycW c wi s).length = wi := by simp [cycW]
    generalize cycW c wi s = z at le
    simp
    omega
  · refine eq_of_W ?_
    have a0 : atI c (((s + j) % r.length : Nat) : Int) = some (c.getD ((s + j) % r.length) 0) := at_nat (by rw [hc]; exact lt j)
    rw [hc]
    rw [show (((s + j) % r.length : Nat) : Int) = ((s : Int) + j) % r.length by simp] at a0
    generalize c.getD ((s + j) % r.length) 0 = z at a0
    simp [a0]
theorem broken_ring {n hu wi : Nat} {k : Kd} {r c : List Int} {R : List (List Int)} {cs : CS} (hk : k.web? = false) (hr : 1 ≤ r.length ∧ r.length ≤ 200) (hc : c.length = r.length) (hw : wi = 2 ∨ wi = 3) :
    callV PrV (n+4) 95 [k.v, wishV hu wi R, rowV r, rowV c] cs = some (.ok (firstV r.length fun s => decide (cycW c wi s ∈ R)), cs) := by
  refine eq_of_W ?_
  rw [call_s (d := v95) rfl rfl]
  have sp := fun cs => spots_ring (n := n + 1) (k := k) (r := r) (X := wishV hu wi R) (cs := cs) hk hr.2 rfl
  simp [v95, sp]
  refine for_done (fun (i : Nat) => VD.int i) (List.range r.length) (fun done en cc => cc = cs ∧ (∀ s ∈ done, decide (cycW c wi s ∈ R) = true) ∧ ∃ a, en = [some k.v, some (wishV hu wi R), some (rowV r), some (rowV c), a]) ?_ ?_ ⟨rfl, by simp, _, rfl⟩
  · rintro en cc ⟨rfl, h, a, rfl⟩
    rw [first_none h]
    simp
  · rintro done s rest en cc K e ⟨rfl, h, a, rfl⟩ hK
    have hs : s < r.length := by
      have : s ∈ List.range r.length := by rw [e]; simp
      exact List.mem_range.mp this
    have ch := fun cs => choices_ring (n := n) (hu := hu) (R := R) (cs := cs) hk hr hc hw hs
    simp [v95_1, ch, w2, ninV_rowsT]
    by_cases hm : cycW c wi s ∈ R
    · simp [hm]
      refine hK _ _ ⟨rfl, fun x hx => ?_, _, rfl⟩
      rcases List.mem_append.mp hx with hx | hx
      · exact h x hx
      · simp at hx; subst hx; simpa using hm
    · simp [hm]
      rw [first_some e h (by simpa using hm)]
theorem twice_cut {c : List Int} {s wi : Nat} (hw : wi ≤ c.length) (hs : s < c.length) : ((c ++ c).drop s).take wi = cycW c wi s := by
  apply List.ext_getElem
  · simp [cycW]; omega
  · intro j h1 h2
    have h2 : j < wi := by simpa [cycW] using h2
    simp [cycW]
    by_cases q : s + j < c.length
    · rw [List.getElem_append_left q, Nat.mod_eq_of_lt q, List.getElem?_eq_getElem q]
      rfl
    · rw [List.getElem_append_right (by omega)]
      have e : (s + j) % c.length = s + j - c.length := by
        rw [Nat.mod_eq_sub_mod (by omega), Nat.mod_eq_of_lt (by omega)]
      rw [e, List.getElem?_eq_getElem (by omega)]
      rfl
theorem twice_v {c : List Int} (h : 1 ≤ c.length ∧ c.length ≤ 200) : vbin .mul (rowV c) (.int 2) = some (rowV (c ++ c)) := by
  show (if c.map VD.int ≠ [] ∧ (2 : Int) ≤ 2 ∧ (2 : Int) ≤ 1000 ∧ (c.map VD.int).length ≤ 1000 then some (VD.tup (List.replicate (2 : Int).toNat (c.map VD.int)).flatten) else none) = _
  rw [if_pos ⟨fun z => by have := congrArg List.length z; simp at this; subst this; exact absurd h.1 (by decide), by decide, by decide, by rw [List.length_map]; omega⟩]
  show some (VD.tup (c.map VD.int ++ (c.map VD.int ++ []))) = _
  rw [List.append_nil, ← List.map_append]
  rfl
theorem due_ring {n hu wi : Nat} {k : Kd} {r c : List Int} {R : List (List Int)} {cs : CS} (hk : k.web? = false) (hr : 3 ≤ r.length ∧ r.length ≤ 200) (hc : c.length = r.length) (hw : wi = 2 ∨ wi = 3) :
    callV PrV (n+1) 96 [k.v, wishV hu wi R, rowV r, rowV c] cs = some (.ok (firstV r.length fun s => decide (cycW c wi s ∈ R)), cs) := by
  refine eq_of_W ?_
  rw [call_s (d := v96) rfl rfl]
  have sz := PySem.sizeLine_eq
  have b62 := B62_eq
  simp [v96, hk, twice_v (show 1 ≤ c.length ∧ c.length ≤ 200 by omega)]
  rw [walk_rng1 (by omega) (by omega)]
  simp only [oS_some_]
  rw [show (r.length : Int).toNat = r.length from rfl]
  refine for_done (fun (i : Nat) => VD.int i) (List.range r.length) (fun done en cc => cc = cs ∧ (∀ s ∈ done, decide (cycW c wi s ∈ R) = true) ∧ ∃ a, en = [some k.v, some (wishV hu wi R), some (rowV r), some (rowV c), some (rowV (c ++ c)), a, none, none, none]) ?_ ?_ ⟨rfl, by simp, _, rfl⟩
  · rintro en cc ⟨rfl, h, a, rfl⟩
    rw [first_none h]
    simp
  · rintro done s rest en cc K e ⟨rfl, h, a, rfl⟩ hK
    have hs : s < r.length := by
      have : s ∈ List.range r.length := by rw [e]; simp
      exact List.mem_range.mp this
    have cu : cutV (c ++ c) (some (s : Int)) (some ((s : Int) + wi)) = cycW c wi s := by
      rw [show (s : Int) + wi = ((s + wi : Nat) : Int) by omega, cutV_nat (by rw [List.length_append]; omega) (by omega), show s + wi - s = wi by omega]
      exact twice_cut (by omega) (by omega)
    simp [v96_2, w1, w2, cu, ninV_rowsT]
    by_cases hm : cycW c wi s ∈ R
    · simp [hm]
      refine hK _ _ ⟨rfl, fun x hx => ?_, _, rfl⟩
      rcases List.mem_append.mp hx with hx | hx
      · exact h x hx
      · simp at hx; subst hx; simpa using hm
    · simp [hm]
      rw [first_some e h (by simpa using hm)]
/-! ### webs: the first link that breaks -/
def ijW (ns : List Int) (p : Int × Int) : List Int := [(idxR ns p.1 : Int), (idxR ns p.2 : Int)]
def cwW (c ns : List Int) (p : Int × Int) : List Int := [c.getD (idxR ns p.1) 0, c.getD (idxR ns p.2) 0]
def firstW (ls : List (Int × Int)) (ns : List Int) (p : Int × Int → Bool) : VD := match ls.find? fun s => !p s with
  | some s => rowV (ijW ns s)
  | none => .non
theorem firstW_none {ls : List (Int × Int)} {ns : List Int} {p : Int × Int → Bool} (h : ∀ s ∈ ls, p s = true) : firstW ls ns p = .non := by
  unfold firstW
  rw [List.find?_eq_none.mpr fun s hs => by simp [h s hs]]
theorem firstW_some {ls : List (Int × Int)} {ns : List Int} {s : Int × Int} {p : Int × Int → Bool} {done rest : List (Int × Int)} (e : ls = done ++ s :: rest) (h : ∀ x ∈ done, p x = true) (hs : p s = false) : firstW ls ns p = rowV (ijW ns s) := by
  unfold firstW
  rw [e, List.find?_append, List.find?_eq_none.mpr fun x hx => by simp [h x hx]]
  simp [List.find?_cons, hs]
theorem choices_web {n hu wi : Nat} {k : Kd} {ns c : List Int} {ls : List (Int × Int)} {p : Int × Int} {R : List (List Int)} {cs : CS} (hk : k.web? = true) (hc : c.length = ns.length) (h1 : p.1 ∈ ns) (h2 : p.2 ∈ ns) :
    callV PrV (n+3) 94 [k.v, (Wd.web ns ls).v, wishV hu wi R, rowV (ijW ns p), rowV c] cs = some (.ok (rowV (cwW c ns p)), cs) := by
  have sz := PySem.sizeLine_eq
  have e93 : ∀ cs, callV PrV (n+2) 93 [k.v, (Wd.web ns ls).v, wishV hu wi R, rowV (ijW ns p)] cs = some (.ok (.lst .own [.int (idxR ns p.1), .int (idxR ns p.2)]), cs) := fun cs => by
    refine eq_of_W ?_
    rw [call_s (d := v93) rfl rfl]
    have go : ∀ cs, vbi cs .listOf [rowV (ijW ns p)] = some (.lst .own [.int (idxR ns p.1), .int (idxR ns p.2)]) := fun cs => vNew_ (by rw [List.length_map]; show 2 ≤ sizeLine; omega)
    simp [v93, isweb_v, hk, go]
  have a1 : atI c (idxR ns p.1 : Int) = some (c.getD (idxR ns p.1) 0) := at_nat (by rw [hc]; exact (idxR_some h1).2)
  have a2 : atI c (idxR ns p.2 : Int) = some (c.getD (idxR ns p.2) 0) := at_nat (by rw [hc]; exact (idxR_some h2).2)
  refine eq_of_W ?_
  rw [call_s (d := v94) rfl rfl]
  unfold cwW
  generalize c.getD (idxR ns p.1) 0 = z1 at a1
  generalize c.getD (idxR ns p.2) 0 = z2 at a2
  simp [v94, e93, turnV, a1, a2]
  rfl
theorem broken_web {n hu wi : Nat} {k : Kd} {ns c : List Int} {ls : List (Int × Int)} {least : Int} {R : List (List Int)} {cs : CS} (hk : k.web? = true) (hw : Drawn k least (.web ns ls)) (hc : c.length = ns.length) :
    callV PrV (n+4) 95 [k.v, wishV hu wi R, (Wd.web ns ls).v, rowV c] cs = some (.ok (firstW ls ns fun p => decide (cwW c ns p ∈ R)), cs) := by
  refine eq_of_W ?_
  rw [call_s (d := v95) rfl rfl]
  have sp := fun cs => spots_v (n := n + 1) (X := wishV hu wi R) (cs := cs) hw
  have es : spR (.web ns ls) = ls.map fun p => rowV (ijW ns p) := rfl
  rw [es] at sp
  have he := hw.ends
  simp [v95, sp]
  refine for_done (fun p => rowV (ijW ns p)) ls (fun done en cc => cc = cs ∧ (∀ s ∈ done, decide (cwW c ns s ∈ R) = true) ∧ ∃ a, en = [some k.v, some (wishV hu wi R), some (Wd.web ns ls).v, some (rowV c), a]) ?_ ?_ ⟨rfl, by simp, _, rfl⟩
  · rintro en cc ⟨rfl, h, a, rfl⟩
    rw [firstW_none h]
    simp
  · rintro done s rest en cc K e ⟨rfl, h, a, rfl⟩ hK
    have hs := he s (by rw [e]; simp)
    have ch := fun cs => choices_web (n := n) (hu := hu) (wi := wi) (ls := ls) (R := R) (cs := cs) hk hc hs.1 hs.2
    simp [v95_1, ch, w2, ninV_rowsT]
    by_cases hm : cwW c ns s ∈ R
    · simp [hm]
      refine hK _ _ ⟨rfl, fun x hx => ?_, _, rfl⟩
      rcases List.mem_append.mp hx with hx | hx
      · exact h x hx
      · simp only [List.mem_singleton] at hx; subst hx; simpa using hm
    · simp [hm]
      rw [firstW_some e h (by simpa using hm)]
theorem due_web {n hu wi : Nat} {k : Kd} {ns c : List Int} {ls : List (Int × Int)} {least : Int} {R : List (List Int)} {cs : CS} (hk : k.web? = true) (hw : Drawn k least (.web ns ls)) (hc : c.length = ns.length) :
    callV PrV (n+1) 96 [k.v, wishV hu wi R, (Wd.web ns ls).v, rowV c] cs = some (.ok (firstW ls ns fun p => decide (cwW c ns p ∈ R)), cs) := by
  refine eq_of_W ?_
  rw [call_s (d := v96) rfl rfl]
  have he := hw.ends
  have i0 : ∀ cs, vix cs (Wd.web ns ls).v (.int 0) = some (rowN ns) := fun cs => ix0
  have i1 : ∀ cs, vix cs (Wd.web ns ls).v (.int 1) = some (.tup (ls.map linkV)) := fun cs => ix1
  simp [v96, hk, i1]
  refine for_done linkV ls (fun done en cc => cc = cs ∧ (∀ s ∈ done, decide (cwW c ns s ∈ R) = true) ∧ ∃ a b d, en = [some k.v, some (wishV hu wi R), some (Wd.web ns ls).v, some (rowV c), none, none, a, b, d]) ?_ ?_ ⟨rfl, by simp, _, _, _, rfl⟩
  · rintro en cc ⟨rfl, h, a, b, d, rfl⟩
    rw [firstW_none h]
    simp
  · rintro done s rest en cc K e ⟨rfl, h, a, b, d, rfl⟩ hK
    have hs := he s (by rw [e]; simp)
    have a1 : atI c (idxR ns s.1 : Int) = some (c.getD (idxR ns s.1) 0) := at_nat (by rw [hc]; exact (idxR_some hs.1).2)
    have a2 : atI c (idxR ns s.2 : Int) = some (c.getD (idxR ns s.2) 0) := at_nat (by rw [hc]; exact (idxR_some hs.2).2)
    have nin : ∀ z1 z2 : Int, vcmp .nin (.tup [.int z1, .int z2]) (.tup (R.map rowV)) = some (!decide ([z1, z2] ∈ R)) := fun z1 z2 => ninV_rowsT (r := [z1, z2])
    have p0 : ∀ (x y : VD) cs, vix cs (.tup [x, y]) (.int 0) = some x := fun x y cs => ix0
    have p1 : ∀ (x y : VD) cs, vix cs (.tup [x, y]) (.int 1) = some y := fun x y cs => ix1
    have ew : cwW c ns s = [c.getD (idxR ns s.1) 0, c.getD (idxR ns s.2) 0] := rfl
    by_cases hm : cwW c ns s ∈ R
    · have hm2 := hm
      rw [ew] at hm2
      have hk2 := fun a b d => hK [some k.v, some (wishV hu wi R), some (Wd.web ns ls).v, some (rowV c), none, none, a, b, d] cc ⟨rfl, fun x hx => by
        rcases List.mem_append.mp hx with hx | hx
        · exact h x hx
        · simp only [List.mem_singleton] at hx; subst hx; simpa using hm, a, b, d, rfl⟩
      generalize c.getD (idxR ns s.1) 0 = z1 at a1 hm2
      generalize c.getD (idxR ns s.2) 0 = z2 at a2 hm2
      simp [v96_1, i0, index_rowN hs.1, index_rowN hs.2, -vix_tup, p0, p1, a1, a2, w2, nin, hm2]
      exact hk2 _ _ _
    · have hm2 := hm
      rw [ew] at hm2
      have ef := firstW_some (ns := ns) e h (by simpa using hm)
      generalize c.getD (idxR ns s.1) 0 = z1 at a1 hm2
      generalize c.getD (idxR ns s.2) 0 = z2 at a2 hm2
      simp [v96_1, i0, index_rowN hs.1, index_rowN hs.2, -vix_tup, p0, p1, a1, a2, w2, nin, hm2]
      rw [ef]
      rfl
/-! ### both sides -/
theorem sh_small {i : Int} (h : 0 ≤ i ∧ i ≤ 999) : Sh (.int i) (PyData.int i).shown :=
  sh_of (p := .int i) rfl (by
    have h40 : i.natAbs < 10 ^ 40 := by
      have : (1000 : Nat) ≤ 10 ^ 40 := by decide
      omega
    simpa [good] using h40) (by simp [PyData.depth]) (by
    have := PySem.sizeLine_eq
    simp only [shW]
    omega)
theorem first_sh {n : Nat} {p : Nat → Bool} (hn : n ≤ 200) : (∃ S, Sh (firstV n p) S) ∧ (firstV n p).see = firstV n p ∧ (firstV n p).keep = some (firstV n p) := by
  unfold firstV
  cases e : (List.range n).find? fun s => !p s with
  | none => exact ⟨⟨_, sh_of (p := .none) rfl rfl (by simp [PyData.depth]) (by have := PySem.sizeLine_eq; simp only [shW]; omega)⟩, rfl, rfl⟩
  | some s =>
    have := List.mem_range.mp (List.mem_of_find?_eq_some e)
    exact ⟨⟨_, sh_small (i := s) ⟨by omega, by omega⟩⟩, rfl, rfl⟩
theorem firstW_sh {ls : List (Int × Int)} {ns : List Int} {p : Int × Int → Bool} (hn : ns.length ≤ 10) (he : ∀ q ∈ ls, q.1 ∈ ns ∧ q.2 ∈ ns) : (∃ S, Sh (firstW ls ns p) S) ∧ (firstW ls ns p).see = firstW ls ns p ∧ (firstW ls ns p).keep = some (firstW ls ns p) := by
  unfold firstW
  cases e : ls.find? fun s => !p s with
  | none => exact ⟨⟨_, sh_of (p := .none) rfl rfl (by simp [PyData.depth]) (by have := PySem.sizeLine_eq; simp only [shW]; omega)⟩, rfl, rfl⟩
  | some s =>
    have hs := he s (List.mem_of_find?_eq_some e)
    have l1 := (idxR_some hs.1).2
    have l2 := (idxR_some hs.2).2
    have e40 : (11 : Nat) ≤ 10 ^ 40 := by decide
    exact ⟨⟨_, sh_row (r := ijW ns s) (fun x hx => by simp [ijW] at hx; rcases hx with rfl | rfl <;> omega) (by simp [ijW])⟩, rfl, rfl⟩
theorem both12 {n hu wi : Nat} {k : Kd} {c : List Int} {w : Wd} {least : Int} {R : List (List Int)} (hw : Drawn k least w) (hc : c.length = w.size) (hwi : wi = 2 ∨ wi = 3) :
    ∃ x S, Sh x S ∧ x.see = x ∧ x.keep = some x ∧ (∀ cs, callV PrV (n+4) 95 [k.v, wishV hu wi R, w.v, rowV c] cs = some (.ok x, cs)) ∧ ∀ cs, callV PrV (n+4) 96 [k.v, wishV hu wi R, w.v, rowV c] cs = some (.ok x, cs) := by
  have hf := hw.fits
  cases w with
  | ring r =>
    obtain ⟨f1, f2, f3⟩ := hf
    obtain ⟨⟨S, hS⟩, hs, hk⟩ := first_sh (n := r.length) (p := fun s => decide (cycW c wi s ∈ R)) f3
    exact ⟨_, S, hS, hs, hk, fun cs => broken_ring (n := n) f1 ⟨by omega, f3⟩ hc hwi, fun cs => due_ring (n := n + 3) f1 ⟨f2, f3⟩ hc hwi⟩
  | web ns ls =>
    obtain ⟨f1, f2, f3, f4, f5⟩ := hf
    obtain ⟨⟨S, hS⟩, hs, hk⟩ := firstW_sh (ls := ls) (ns := ns) (p := fun p => decide (cwW c ns p ∈ R)) f2 hw.ends
    exact ⟨_, S, hS, hs, hk, fun cs => broken_web (n := n) f1 hw hc, fun cs => due_web (n := n + 3) f1 hw hc⟩
/-! ### choices by draws -/
theorem last_at {wi : Nat} {r : List Int} (hl : r.length = wi) (hw : wi = 2 ∨ wi = 3) : atI r (-1) = some (r.getD (wi - 1) 0) := by
  have hi : ixN r.length (-1) = some (r.length - 1) := by
    unfold ixN
    rw [if_neg (by decide), if_pos (by omega)]
    congr 1
    omega
  unfold atI
  rw [hi]
  show r[r.length - 1]? = _
  rw [hl, List.getD_eq_getElem?_getD, List.getElem?_eq_getElem (by omega)]
  rfl
theorem cut_len {xs : List Int} {lo : Option Int} : (cutV xs lo none).length ≤ xs.length := by
  unfold cutV
  rw [List.length_take, List.length_drop]
  omega
theorem lawchoices_v {n f b hu wi : Nat} {R : List (List Int)} {many : Nat} {cs : CS} {Q : VD → CS → Prop} {E : XV → CS → Prop} (F : FeedV cs f (b + 250)) (hW : WOk hu wi R) (hm : many ≤ 100) (hq : ∀ (c : List Int) cs', c.length = many → (∀ x ∈ c, 0 ≤ x ∧ x ≤ 3) → FeedV cs' f b → Q (rowV c) cs') :
    W (callV PrV (n+3) 97 [.cel f, wishV hu wi R, .int many] cs) Q E := by
  rw [call_s (d := v97) rfl rfl]
  have sz := PySem.sizeLine_eq
  have b62 := B62_eq
  have n24 := N24_eq
  obtain ⟨u1, u4, hwi, hR, rows⟩ := hW
  have tail : ∀ (xs : List Int) (cs : CS) (a b' c' : Option VD), many ≤ xs.length → xs.length ≤ 200 → (∀ x ∈ xs, 0 ≤ x ∧ x ≤ 3) → FeedV cs f b → WS (vSs (callV PrV (n + 2)) (v97.body.drop 2) [some (.cel f), some (wishV hu wi R), some (.int many), some (.lst .own (xs.map .int)), a, b', c'] cs) (fun _ cs => Q .non cs) Q fun x _ cs => E x cs := fun xs cs a b' c' h1 h2 h3 F => by
    have cu : cutV (xs.map VD.int) none (some (many : Int)) = (xs.take many).map .int := by rw [cutV_map, cutV_to h1]
    have lt : (xs.take many).length = many := by rw [List.length_take]; omega
    have tx : ∀ x ∈ xs.take many, 0 ≤ x ∧ x ≤ 3 := fun x hx => h3 x (List.mem_of_mem_take hx)
    generalize xs.take many = ys at cu lt tx
    simp [v97, cu]
    exact ⟨by omega, hq ys cs lt tx F⟩
  rw [vSs_cut 2]
  simp only [WS_thS]
  generalize v97.body.drop 2 = T at tail
  simp [v97, w0]
  rw [walk_rng1 (by omega) (by omega)]
  simp only [W_oM_some]
  rw [show (many : Int).toNat = many from rfl]
  refine turn_done (fun (j : Nat) => VD.int j) (List.range many) (fun done acc c => ∃ xs : List Int, acc = xs.map .int ∧ xs.length = done.length ∧ (∀ x ∈ xs, 0 ≤ x ∧ x ≤ 3) ∧ FeedV c f (b + 120 + (100 - done.length))) ?_ ?_ ⟨[], rfl, rfl, (by simp), F.mono (by simp; try omega)⟩
  · rintro acc c1 ⟨xs, rfl, l1, l2, F1⟩
    rw [List.length_range] at l1
    have ne : vcmp .ne (.tup (R.map rowV)) (.tup []) = some (!decide (R = [])) := by
      show (eqV (.tup (R.map rowV)) (.tup (([] : List (List Int)).map rowV))).map (!·) = _
      have e : eqV (.tup (R.map rowV)) (.tup (([] : List (List Int)).map rowV)) = some (decide (R = [])) := by
        simp only [eqV, pyV_rowsT, (shaped_rowsL' _).2, Bool.and_self, if_true, PyData.eqv, eqv_rows']
      rw [e]
      rfl
    simp [w2, ne]
    refine ⟨by omega, ?_⟩
    by_cases hemp : R = []
    · simp [hemp] at *
      exact tail xs c1 _ _ _ (by omega) (by omega) l2 (F1.mono (by omega))
    · have hpos : 0 < R.length := List.length_pos_iff.mpr hemp
      simp [hemp]
      refine take_v (F1.mono (by omega) : FeedV c1 f ((b + 115) + 1)) (by omega) (by omega) fun v c2 v0 v1 F2 => ?_
      by_cases hv : 0 < v
      · simp [hv, w2]
        refine take_v (F2.mono (by omega) : FeedV c2 f ((b + 110) + 1)) (by omega) (by omega) fun u c3 u0 u1 F3 => ?_
        obtain ⟨j, rfl⟩ : ∃ j : Nat, (j : Int) = u := ⟨u.toNat, by omega⟩
        have hj : j < R.length := by omega
        have ar : atI (R.map rowV) (j : Int) = some (rowV R[j]) := atI_map' (List.getElem?_eq_getElem hj)
        obtain ⟨r1, r2⟩ := rows _ (List.getElem_mem hj)
        generalize R[j] = r0 at ar r1 r2
        have go : ∀ cs, vbi cs .listOf [rowV r0] = some (.lst .own (r0.map .int)) := fun cs => vNew_ (by rw [List.length_map]; omega)
        simp [ar, go]
        refine while_of (fun m en c => ∃ (ys : List Int) (a b' c' : Option VD), m = many - ys.length ∧ en = [some (.cel f), some (wishV hu wi R), some (.int many), some (.lst .own (ys.map .int)), a, b', c'] ∧ ys.length ≤ 110 ∧ (∀ x ∈ ys, 0 ≤ x ∧ x ≤ 3) ∧ FeedV c f (b + m)) ?_ (m := many - r0.length) ⟨r0, _, _, _, rfl, rfl, by omega, fun x hx => by have := r2 x hx; omega, F3.mono (by omega)⟩ (by omega)
        rintro m en c K ⟨ys, a, b', c', rfl, rfl, y1, y2, F4⟩ hK
        simp
        by_cases hl : ys.length < many
        · have cl : (cutV ys (some (1 - (wi : Int))) none).length ≤ ys.length := cut_len
          simp [hl, v97_1, w1, w2]
          rw [turn_map rowV (fun r => if decide (r.dropLast = cutV ys (some (1 - (wi : Int))) none) = true then some (VD.int (r.getD (wi - 1) 0)) else none) R (by omega) fun r hr => ?_]
          · rw [filterMap_keep' fun r : List Int => VD.int (r.getD (wi - 1) 0)]
            have e : ((R.filter fun r => decide (r.dropLast = cutV ys (some (1 - (wi : Int))) none)).map fun r : List Int => VD.int (r.getD (wi - 1) 0)) = ((R.filter fun r => decide (r.dropLast = cutV ys (some (1 - (wi : Int))) none)).map fun r : List Int => r.getD (wi - 1) 0).map .int := by rw [List.map_map]; rfl
            rw [e]
            have lz : ((R.filter fun r => decide (r.dropLast = cutV ys (some (1 - (wi : Int))) none)).map fun r : List Int => r.getD (wi - 1) 0).length ≤ 64 := by
              rw [List.length_map]
              exact Nat.le_trans (List.length_filter_le _ _) hR
            have bz : ∀ x ∈ (R.filter fun r => decide (r.dropLast = cutV ys (some (1 - (wi : Int))) none)).map fun r : List Int => r.getD (wi - 1) 0, 0 ≤ x ∧ x ≤ 3 := fun x hx => by
              obtain ⟨r, hr, rfl⟩ := List.mem_map.mp hx
              obtain ⟨q1, q2⟩ := rows r (List.mem_filter.mp hr).1
              rw [List.getD_eq_getElem?_getD, List.getElem?_eq_getElem (show wi - 1 < r.length by omega)]
              have := q2 _ (List.getElem_mem (show wi - 1 < r.length by omega))
              simp only [Option.getD_some]
              omega
            generalize ((R.filter fun r => decide (r.dropLast = cutV ys (some (1 - (wi : Int))) none)).map fun r : List Int => r.getD (wi - 1) 0) = z at lz bz
            simp
            refine ⟨by omega, by omega, ?_⟩
            obtain ⟨mx, hmx⟩ : ∃ mx : Int, mx = (if (1 : Int) < z.length then (z.length : Int) else 1) := ⟨_, rfl⟩
            have mx1 : 1 ≤ mx ∧ mx ≤ 64 ∧ (mx ≤ z.length ∨ mx = 1) := by rw [hmx]; split <;> omega
            try rw [show (if 1 < z.length then (z.length : Int) else 1) = mx by rw [hmx]; split <;> split <;> omega]
            try rw [← hmx]
            refine take_v (F4.mono (by omega) : FeedV c f ((b + (many - (ys.length + 1))) + 1)) (by omega) (by omega) fun v5 c5 q0 q1 F5 => ?_
            obtain ⟨j5, rfl⟩ : ∃ j : Nat, (j : Int) = v5 := ⟨v5.toNat, by omega⟩
            obtain ⟨y, hy, ay⟩ : ∃ y, (0 ≤ y ∧ y ≤ 3) ∧ atI (z.map VD.int ++ [VD.int 0]) (j5 : Int) = some (.int y) := by
              have e1 : z.map VD.int ++ [VD.int 0] = (z ++ [0]).map .int := by rw [List.map_append]; rfl
              have hj5 : j5 < (z ++ [0]).length := by rw [List.length_append]; simp; omega
              refine ⟨(z ++ [0])[j5], ?_, by rw [e1]; exact atI_map' (List.getElem?_eq_getElem hj5)⟩
              rcases List.mem_append.mp (List.getElem_mem hj5) with hx | hx
              · exact bz _ hx
              · have : (z ++ [0])[j5] = 0 := by simpa using hx
                omega
            simp [ay]
            refine ⟨by omega, ?_⟩
            exact hK (many - (ys.length + 1)) _ _ (by omega) ⟨ys ++ [y], _, _, _, by simp, by rw [List.map_append]; rfl, by simp; omega, fun x hx => by
              rcases List.mem_append.mp hx with hx | hx
              · exact y2 x hx
              · simp at hx; subst hx; exact hy, F5⟩
          · obtain ⟨q1, q2⟩ := rows r hr
            have la := last_at q1 hwi
            obtain ⟨d, hd⟩ : ∃ d, d = r.dropLast := ⟨_, rfl⟩
            have dl : d.length ≤ 3 := by rw [hd, List.length_dropLast]; omega
            have cd : cutV r none (some (-1)) = d := by rw [cutV_last, hd]
            have go : vbi c .listOf [rowV d] = some (.lst .own (d.map .int)) := vNew_ (by rw [List.length_map]; omega)
            rw [← hd]
            refine eq_of_W ?_
            generalize r.getD (wi - 1) 0 = zz at la
            have cm : cutV (ys.map VD.int) (some (1 - (wi : Int))) none = (cutV ys (some (1 - (wi : Int))) none).map .int := cutV_map _ _ _ _
            generalize cutV ys (some (1 - (wi : Int))) none = q at cl cm
            by_cases hdq : d = q
            · subst hdq
              simp [cd, la, go, cm, eqv_intsL]
              omega
            · simp [cd, la, go, cm, eqv_intsL, hdq]
              omega
        · simp [hl]
          exact tail ys c _ _ _ (by omega) (by omega) y2 (F4.mono (by omega))
      · simp [hv]
        exact tail xs c2 _ _ _ (by omega) (by omega) l2 (F2.mono (by omega))
  · rintro done l rest acc c1 K e ⟨xs, rfl, l1, l2, F1⟩ k1 k2
    have hd : done.length < many := by
      have := congrArg List.length e
      simp at this; omega
    simp [w0]
    refine take_v (F1.mono (by omega) : FeedV c1 f ((b + 120 + (100 - (done.length + 1))) + 1)) (by omega) (by omega) fun w c3 w0 w1 F3 => ?_
    try simp
    refine k1 _ _ (by simp; omega) ⟨xs ++ [w], by rw [List.map_append]; rfl, by simp [l1], fun x hx => ?_, F3.mono (by simp)⟩
    rcases List.mem_append.mp hx with hx | hx
    · exact l2 x hx
    · simp at hx; subst hx; omega
/-! ### what is kept is shown -/
def wishP (hu wi : Nat) (R : List (List Int)) : PyData := .tuple [.int hu, .int wi, .tuple (R.map fun r => rowP' r)]
def wdP : Wd → PyData
  | .ring r => rowP' r
  | .web ns ls => .tuple [rowP' ns, .tuple (ls.map fun p => rowP' [p.1, p.2])]
theorem wish_py {n hu wi : Nat} {R : List (List Int)} : pyV (n + 4) (wishV hu wi R) = some (wishP hu wi R) := by
  show ([VD.int hu, .int wi, .tup (R.map rowV)].mapM (pyV (n + 3))).map PyData.tuple = _
  simp [pyV_rowsT]
  rfl
theorem wd_py {n : Nat} {w : Wd} : pyV (n + 4) w.v = some (wdP w) := by
  cases w with
  | ring r => exact pyV_row
  | web ns ls =>
    show ([rowN ns, .tup (ls.map linkV)].mapM (pyV (n + 3))).map PyData.tuple = _
    have e : pyV (n + 3) (.tup (ls.map linkV)) = some (.tuple (ls.map fun p => rowP' [p.1, p.2])) := by
      show ((ls.map linkV).mapM (pyV (n + 2))).map PyData.tuple = _
      rw [mapM_map' (f := pyV (n + 2)) (g := linkV) (k := fun p : Int × Int => rowP' [p.1, p.2]) fun p => pyV_row]
      rfl
    simp [pyV_rowN, e]
    rfl
theorem small40 {x : Int} {b : Nat} (h : x.natAbs < b) (hb : b ≤ 10 ^ 40) : x.natAbs < 10 ^ 40 := Nat.lt_of_lt_of_le h hb
theorem wish_good {hu wi : Nat} {R : List (List Int)} (h : WOk hu wi R) : good (wishP hu wi R) = true ∧ (wishP hu wi R).depth ≤ 5 ∧ shW (wishP hu wi R) ≤ 20000 := by
  obtain ⟨u1, u4, hwi, hR, rows⟩ := h
  have e40 : (10 : Nat) ≤ 10 ^ 40 := by decide
  have g1 : ((hu : Int)).natAbs < 10 ^ 40 := by omega
  have g2 : ((wi : Int)).natAbs < 10 ^ 40 := by omega
  have g3 : goodAll (R.map fun r => rowP' r) = true := good_rows (f := fun r : List Int => r) fun r hr x hx => by
    have := (rows r hr).2 x hx
    omega
  have d3 := depth_rows (f := fun r : List Int => r) R
  have s3 := shWA_rows (f := fun r : List Int => r) (k := 3) (l := R) fun r hr => by have := (rows r hr).1; omega
  refine ⟨?_, ?_, ?_⟩
  · simp only [wishP, good, goodAll, Bool.and_eq_true, decide_eq_true_eq]
    exact ⟨g1, g2, g3, trivial⟩
  · simp only [wishP, PyData.depth, PyData.depthAll]
    omega
  · simp only [wishP, shW, shWA]
    omega
theorem wd_good {k : Kd} {least : Int} {w : Wd} (hw : Drawn k least w) (hk : k.ok) : good (wdP w) = true ∧ (wdP w).depth ≤ 5 ∧ shW (wdP w) ≤ 20000 := by
  have e40 : (10 : Nat) ≤ 10 ^ 40 := by decide
  have e30 : (10 : Nat) ^ 30 ≤ 10 ^ 40 := by decide
  have hf := hw.fits
  cases w with
  | ring r =>
    have h200 : r.length ≤ 200 := hf.2.2
    refine ⟨?_, by have := (lay_row' r).2; show (rowP' r).depth ≤ 5; omega, by simp only [wdP, rowP', shW, shWA_ints]; omega⟩
    refine good_ints fun x hx => ?_
    cases hw with
    | ring h1 h2 h3 h4 h5 h6 h7 =>
      cases k with
      | names n => have := (h5 n rfl).2 x hx; have := hk.2; omega
      | order => exact small40 ((h6 rfl).2.2 x hx) e30
      | wish hu wi R => have := (h7 _ _ _ rfl).1 x hx; have := hk.2.1; omega
      | web n d => cases h1
  | web ns ls =>
    obtain ⟨f1, f2, f3, f4, f5⟩ := hf
    have bns : ∀ x ∈ ns, 1 ≤ x ∧ x ≤ 5 := by
      cases hw with
      | web e hn hw =>
        intro x hx
        have := mem_upTo.mp (hw.sub.subset hx)
        omega
    have he := hw.ends
    have g1 : goodAll (ns.map .int) = true := good_ints fun x hx => by have := bns x hx; omega
    have g2 : goodAll (ls.map fun p => rowP' [p.1, p.2]) = true := good_rows (f := fun p : Int × Int => [p.1, p.2]) fun p hp x hx => by
      have h1 := bns _ (he p hp).1
      have h2 := bns _ (he p hp).2
      simp at hx
      rcases hx with rfl | rfl <;> omega
    have d2 := depth_rows (f := fun p : Int × Int => [p.1, p.2]) ls
    have d1 := (lay_row' ns).2
    have s2 := shWA_rows (f := fun p : Int × Int => [p.1, p.2]) (k := 2) (l := ls) fun p hp => Nat.le_refl 2
    refine ⟨?_, ?_, ?_⟩
    · simp only [wdP, rowP', good, goodAll, Bool.and_eq_true] at g1 g2 ⊢
      exact ⟨g1, g2, trivial⟩
    · simp only [wdP, PyData.depth, PyData.depthAll]
      omega
    · simp only [wdP, shW, shWA]
      have : shW (rowP' ns) ≤ 500 := by simp only [rowP', shW, shWA_ints]; omega
      omega
theorem sh_three {k : Kd} {least : Int} {w : Wd} {hu wi : Nat} {R : List (List Int)} {c : List Int} (hw : Drawn k least w) (hk : k.ok) (hW : WOk hu wi R) (hc : ∀ x ∈ c, 0 ≤ x ∧ x ≤ 3) (hl : c.length ≤ 200) :
    ∃ s, PyData.strOk s = true ∧ ∀ t cs, vbi cs .repr [.lst t [wishV hu wi R, w.v, rowV c]] = some (.str s) := by
  obtain ⟨a1, a2, a3⟩ := wish_good hW
  obtain ⟨b1, b2, b3⟩ := wd_good hw hk
  have e40 : (10 : Nat) ≤ 10 ^ 40 := by decide
  have g3 := good_ints (r := c) fun x hx => by have := hc x hx; omega
  have d3 := (lay_row' c).2
  have S : ∀ t, Sh (.lst t [wishV hu wi R, w.v, rowV c]) (PyData.list [wishP hu wi R, wdP w, rowP' c]).shown := fun t => by
    refine sh_of (p := .list [wishP hu wi R, wdP w, rowP' c]) ?_ ?_ ?_ ?_
    · show ([wishV hu wi R, w.v, rowV c].mapM (pyV 64)).map PyData.list = _
      simp [wish_py (n := 60), wd_py (n := 60), pyV_row (n := 62)]
    · simp only [good, goodAll, rowP', a1, b1, g3, Bool.and_self]
    · simp only [PyData.depth, PyData.depthAll]
      omega
    · have sz := PySem.sizeLine_eq
      simp only [shW, shWA]
      have : shW (rowP' c) ≤ 10000 := by simp only [rowP', shW, shWA_ints]; omega
      omega
  exact ⟨_, (S .own).ok, fun t cs => (S t).rp cs⟩
/-! ### the even wish of a web -/
theorem pick_rev (a b : Int) : pickT [VD.int a, VD.int b] none none (-1) = [VD.int b, VD.int a] := by
  have e1 : Builtin.Slice.sliceAdjust none none (-1) ((2 : Nat) : Int) = (1, -1) := by decide
  have e2 : Builtin.Slice.slicePlaces 1 (-1) (-1) = 2 := by decide
  unfold pickT
  rw [show [VD.int a, VD.int b].length = 2 from rfl, e1, e2]
  rfl
theorem even_rows {hu : Nat} {S : List (List Int)} (h4 : hu ≤ 4) (hs : S.length ≤ 16) (hS : ∀ r ∈ S, r.length = 2 ∧ ∀ x ∈ r, 0 ≤ x ∧ x < hu) : okRows (S ++ S.map List.reverse) = true ∧ (sortU (S ++ S.map List.reverse)).length ≤ 32 ∧ ∀ r ∈ sortU (S ++ S.map List.reverse), r.length = 2 ∧ ∀ x ∈ r, 0 ≤ x ∧ x < hu := by
  have all : ∀ r ∈ S ++ S.map List.reverse, r.length = 2 ∧ ∀ x ∈ r, 0 ≤ x ∧ x < hu := fun r hr => by
    rcases List.mem_append.mp hr with hr | hr
    · exact hS r hr
    · obtain ⟨q, hq, rfl⟩ := List.mem_map.mp hr
      obtain ⟨q1, q2⟩ := hS q hq
      exact ⟨by rw [List.length_reverse]; exact q1, fun x hx => q2 x (List.mem_reverse.mp hx)⟩
  have len : (S ++ S.map List.reverse).length ≤ 32 := by rw [List.length_append, List.length_map]; omega
  refine ⟨?_, ?_, fun r hr => all r (mem_sortU.mp hr)⟩
  · unfold okRows
    rw [Bool.and_eq_true]
    refine ⟨by simp only [decide_eq_true_eq]; omega, List.all_eq_true.mpr fun r hr => ?_⟩
    obtain ⟨r1, r2⟩ := all r hr
    have hh : ((S ++ S.map List.reverse).headD []).length = 2 := by
      cases e : S ++ S.map List.reverse with
      | nil => rw [e] at hr; cases hr
      | cons y ys => exact (all y (by rw [e]; exact List.mem_cons_self)).1
    simp only [Bool.and_eq_true, decide_eq_true_eq, List.all_eq_true]
    refine ⟨⟨by omega, by rw [r1, hh]⟩, fun x hx => ?_⟩
    have := r2 x hx
    omega
  · have h1 := (sortU_perm (S ++ S.map List.reverse)).length_eq
    have h2 := ddup_len (S ++ S.map List.reverse)
    omega
theorem vRow_rows : ∀ rs : List (List Int), (rs.map rowV).mapM vRow = some rs
  | [] => rfl
  | r :: rs => by
    rw [List.map_cons, List.mapM_cons, vRow_rows rs]
    have : vRow (rowV r) = some r := by
      show vInts (r.map .int) = some r
      induction r with
      | nil => rfl
      | cons x r ih => show (vInts (r.map .int)).map (x :: ·) = _; rw [ih]; rfl
    rw [this]
    rfl
theorem sortset_v {t : Tg} {rs : List (List Int)} {cs : CS} (h : okRows rs = true) (hl : (sortU rs).length ≤ 1000) : vbi cs .sortSet [.lst t (rs.map rowV)] = some (.lst .own ((sortU rs).map rowV)) := by
  have sz := PySem.sizeLine_eq
  show (((rs.map rowV).mapM vRow).bind fun rs => if okRows rs = true then vNew ((sortU rs).map fun r => VD.tup (r.map .int)) else none) = _
  rw [vRow_rows]
  show (if okRows rs = true then vNew ((sortU rs).map rowV) else none) = _
  rw [if_pos h, vNew_ (by rw [List.length_map]; omega)]
/-! ### the law -/
theorem many_v {k : Kd} {least : Int} {w : Wd} (hw : Drawn k least w) : 1 ≤ w.size ∧ w.size ≤ 100 := hw.size
theorem five12 {m f b hu wi : Nat} {k : Kd} {w : Wd} {least : Int} {R : List (List Int)} {cs : CS} {sc k1 a6 a8 a9 a10 a11 a12 a13 : Option VD} {nx : VEn → CS → Prop} {Q : VD → CS → Prop} {E : XV → VEn → CS → Prop} (hw : Drawn k least w) (hk : k.ok) (hW : WOk hu wi R) (F : FeedV cs f (b + 1300))
    (hq : ∀ a8 a9 a10 a11 a12 c, FeedV c f b → nx [sc, k1, some (.cel f), some k.v, some w.v, some (wishV hu wi R), a6, some (.int w.size), a8, a9, a10, a11, a12, a13] c) :
    WS (forV (fun x en2 cs => vSs (callV PrV (m + 5)) v99_1 (List.set en2 8 (some x)) cs) ((List.range 5).map fun (j : Nat) => VD.int j) [sc, k1, some (.cel f), some k.v, some w.v, some (wishV hu wi R), a6, some (.int w.size), a8, a9, a10, a11, a12, a13] cs) nx Q E := by
  have sz := PySem.sizeLine_eq
  have hs := hw.size
  refine for_done (fun (j : Nat) => VD.int j) (List.range 5) (fun done en c => FeedV c f (b + 250 * (5 - done.length)) ∧ ∃ a8 a9 a10 a11 a12 : Option VD, en = [sc, k1, some (.cel f), some k.v, some w.v, some (wishV hu wi R), a6, some (.int w.size), a8, a9, a10, a11, a12, a13]) ?_ ?_ ⟨F.mono (by simp), _, _, _, _, _, rfl⟩
  · rintro en c ⟨F1, a8, a9, a10, a11, a12, rfl⟩
    exact hq _ _ _ _ _ c (F1.mono (by omega))
  · rintro done j rest en c K e ⟨F1, a8, a9, a10, a11, a12, rfl⟩ hK
    have hd : done.length < 5 := by
      have := congrArg List.length e
      simp at this; omega
    simp [v99_1]
    refine lawchoices_v (F1.mono (by omega) : FeedV c f ((b + 250 * (5 - (done.length + 1))) + 250)) hW (by omega) fun ch c2 hl hx F2 => ?_
    obtain ⟨x, S, hS, x1, x2, B1, B2⟩ := both12 (n := m + 1) (hu := hu) (R := R) hw hl hW.wi23
    obtain ⟨s, s1, s2⟩ := sh_three hw hk hW hx (by omega)
    simp [s2, B1, B2, x1, x2, hS.rp, ne_same_ hS.ok, ne_same_ s1]
    exact hK _ _ ⟨F2.mono (by simp), _, _, _, _, _, rfl⟩
/-! ### a long ring -/
def postR : List (List Int) := [[0, 0], [0, 1], [1, 0]]
def twoC (n a : Nat) : List Int := (List.range n).map fun j => if j = a ∨ j = (a + 1) % n then 1 else 0
theorem twoC_len {n a : Nat} : (twoC n a).length = n := by simp [twoC]
theorem twoC_at {n a j : Nat} (hj : j < n) : (twoC n a).getD j 0 = if j = a ∨ j = (a + 1) % n then 1 else 0 := by
  unfold twoC
  rw [List.getD_eq_getElem?_getD]
  simp [hj]
theorem cyc2 {c : List Int} {s : Nat} : cycW c 2 s = [c.getD (s % c.length) 0, c.getD ((s + 1) % c.length) 0] := rfl
theorem post_first {n a : Nat} (hn : 3 ≤ n) (ha : a < n) : firstV n (fun s => decide (cycW (twoC n a) 2 s ∈ postR)) = .int a := by
  unfold firstV
  have e : (List.range n).find? (fun s => !decide (cycW (twoC n a) 2 s ∈ postR)) = some a := by
    rw [List.find?_range_eq_some]
    have key : ∀ s, s < n → cycW (twoC n a) 2 s = [if s = a ∨ s = (a + 1) % n then 1 else 0, if (s + 1) % n = a ∨ (s + 1) % n = (a + 1) % n then 1 else 0] := fun s hs => by
      rw [cyc2, twoC_len, Nat.mod_eq_of_lt hs, twoC_at hs, twoC_at (Nat.mod_lt _ (by omega))]
    refine ⟨?_, by simpa using ha, fun s hs => ?_⟩
    · rw [key a ha]
      simp [postR]
    · have hs2 : s < n := by omega
      rw [key s hs2]
      have h1 : ¬ (s = a) := by omega
      by_cases c1 : s = (a + 1) % n
      · have c2 : ¬ ((s + 1) % n = a ∨ (s + 1) % n = (a + 1) % n) := by
          by_cases q : a + 1 < n
          · rw [Nat.mod_eq_of_lt q] at c1
            omega
          · have q2 : a + 1 = n := by omega
            rw [q2, Nat.mod_self] at c1
            subst c1
            rw [q2, Nat.mod_self, Nat.mod_eq_of_lt (by omega)]
            omega
        rw [show (if (s + 1) % n = a ∨ (s + 1) % n = (a + 1) % n then (1 : Int) else 0) = 0 from if_neg c2]
        split <;> simp [postR]
      · simp only [h1, c1, or_self, if_false]
        split <;> simp [postR]
  rw [e]
theorem zero_first {n : Nat} (hn : 1 ≤ n) : firstV n (fun s => decide (cycW (List.replicate n 0) 2 s ∈ postR)) = .non := by
  refine first_none fun s hs => ?_
  have z : ∀ j, (List.replicate n (0 : Int)).getD j 0 = 0 := fun j => by
    rw [List.getD_eq_getElem?_getD, List.getElem?_replicate]
    split <;> rfl
  rw [cyc2, z, z]
  rfl
theorem down_row (n : Nat) : VD.tup ((List.range n).map fun (i : Nat) => VD.int ((n : Int) - i)) = rowV ((List.range n).map fun (i : Nat) => (n : Int) - i) := by
  show _ = VD.tup _
  rw [List.map_map]
  rfl
theorem long12_v {m : Nat} {ns : List Int} {cs : CS} (hl : ns.length ≤ 63) : W (callV PrV (m + 6) 98 [.lst .rol (ns.map .int)] cs) (fun v _ => v = .bl true) fun _ _ => False := by
  rw [call_s (d := v98) rfl rfl]
  have b62 := B62_eq
  have n24 := N24_eq
  have sz := PySem.sizeLine_eq
  have cut1 := fun (T : List VT) => T
  simp [v98]
  refine feed_v (b := 10000) (by omega) (by omega) fun cc F => ?_
  simp
  refine take_v (F : FeedV _ _ (9999 + 1)) (by omega) (by omega) fun v c2 v0 v1 F2 => ?_
  obtain ⟨n, hn⟩ : ∃ n : Nat, (n : Int) = 21 + v := ⟨(21 + v).toNat, by omega⟩
  have ea : vbin .add (.int 21) (.int v) = some (.int n) := by show some (VD.int (21 + v)) = _; rw [hn]
  have hn21 : 21 ≤ n ∧ n ≤ 40 := by omega
  have rd : ∀ cs, vbi cs .tupRngD [.int n, .int 0] = some (rowV ((List.range n).map fun (i : Nat) => (n : Int) - i)) := fun cs => by
    show (if rgOk 0 n = true then some (VD.tup ((List.range ((n : Int) - 0).toNat).map fun (i : Nat) => VD.int ((n : Int) - i))) else none) = _
    have ok : rgOk 0 n = true := by
      unfold rgOk
      simp
      omega
    rw [if_pos ok, show ((n : Int) - 0).toNat = n by omega, down_row]
  simp [ea, rd]
  rw [show VD.tup [VD.int 2, .int 2, .tup [.tup [.int 0, .int 0], .tup [.int 0, .int 1], .tup [.int 1, .int 0]]] = wishV 2 2 postR from rfl]
  refine take_v (F2 : FeedV _ _ (9998 + 1)) (by omega) (by omega) fun u c3 u0 u1 F3 => ?_
  simp
  refine take_v (F3 : FeedV _ _ (9997 + 1)) (by omega) (by omega) fun t c4 t0 t1 F4 => ?_
  obtain ⟨a, ha, ea2⟩ : ∃ a : Nat, a < n ∧ atI [VD.int ((n : Int) - 1), VD.int u] t = some (.int a) := by
    rcases (by omega : t = 0 ∨ t = 1) with rfl | rfl
    · exact ⟨n - 1, by omega, by rw [show ((n - 1 : Nat) : Int) = (n : Int) - 1 by omega]; exact atI_nat (j := 0) rfl⟩
    · exact ⟨u.toNat, by omega, by rw [show ((u.toNat : Nat) : Int) = u by omega]; exact atI_nat (j := 1) rfl⟩
  simp [ea2]
  rw [walk_rng1 (by omega) (by omega)]
  simp only [W_oM_some]
  rw [show (n : Int).toNat = n from rfl]
  rw [turn_map (fun (j : Nat) => VD.int j) (fun j => some (VD.int (if j = a ∨ j = (a + 1) % n then 1 else 0))) (List.range n) (by rw [List.length_range]; omega) fun j hj => ?_]
  · rw [filterMap_all' fun j => VD.int (if j = a ∨ j = (a + 1) % n then 1 else 0)]
    have e : ((List.range n).map fun j => VD.int (if j = a ∨ j = (a + 1) % n then 1 else 0)) = (twoC n a).map .int := by
      unfold twoC
      rw [List.map_map]
      rfl
    rw [e]
    have lc := @twoC_len n a
    have rl : ((List.range n).map fun (i : Nat) => (n : Int) - i).length = n := by simp
    have B1 := fun cs => broken_ring (n := m + 1) (hu := 2) (k := .order) (r := (List.range n).map fun (i : Nat) => (n : Int) - i) (c := twoC n a) (R := postR) (cs := cs) rfl (by rw [rl]; omega) (by rw [rl, lc]) (.inl rfl)
    have B2 := fun cs => broken_ring (n := m + 1) (hu := 2) (k := .order) (r := (List.range n).map fun (i : Nat) => (n : Int) - i) (c := List.replicate n 0) (R := postR) (cs := cs) rfl (by rw [rl]; omega) (by rw [rl, List.length_replicate]) (.inl rfl)
    rw [rl] at B1 B2
    rw [post_first (by omega) ha] at B1
    rw [zero_first (by omega)] at B2
    have mz : vbin .mul (.tup [.int 0]) (.int n) = some (rowV (List.replicate n 0)) := by
      show (if [VD.int 0] ≠ [] ∧ (2 : Int) ≤ n ∧ (n : Int) ≤ 1000 ∧ [VD.int 0].length ≤ 1000 then some (VD.tup (List.replicate (n : Int).toNat [VD.int 0]).flatten) else none) = _
      rw [if_pos ⟨by simp, by omega, by omega, by simp⟩]
      show some (VD.tup _) = some (VD.tup _)
      rw [List.map_replicate, List.flatten_replicate_singleton]
      rfl
    have ko : VD.tup [VD.str "order"] = Kd.order.v := rfl
    generalize twoC n a = c at lc B1
    generalize ((List.range n).map fun (i : Nat) => (n : Int) - i) = r at B1 B2 rl
    have S : ∀ t, Sh (.lst t [.int a, .non]) (PyData.list [.int a, .none]).shown := fun t => by
      refine sh_of (p := .list [.int a, .none]) ?_ ?_ ?_ ?_
      · show ([VD.int a, .non].mapM (pyV 64)).map PyData.list = _
        rfl
      · have e40 : (100 : Nat) ≤ 10 ^ 40 := by decide
        simp [good, goodAll]
        omega
      · simp [PyData.depth, PyData.depthAll]
      · simp only [shW, shWA]; omega
    have es : vcmp .eq (.str (PyData.list [.int a, .none]).shown) (.str (PyData.list [.int a, .none]).shown) = some true := by
      rw [eqV_str (S .own).ok (S .own).ok]
      simp
    have Sr := fun t cs => (S t).rp cs
    generalize (PyData.list [.int a, .none]).shown = w at Sr es
    simp [ko, B1, B2, mz, Sr, es]
    try omega
  · have hj := List.mem_range.mp hj
    refine eq_of_W ?_
    have inn : ∀ z : Int, vcmp .inn (.int j) (.tup [.int a, .int z]) = some (decide ((j : Int) ∈ [(a : Int), z])) := fun z => inV_row (r := [(a : Int), z])
    have em : ((a : Int) + 1) % n = (((a + 1) % n : Nat) : Int) := by simp
    simp [inn]
    refine ⟨by omega, ?_⟩
    by_cases q1 : j = a
    · simp [q1]
    · by_cases q2 : j = (a + 1) % n
      · simp [q2]
      · have q3 : ¬ ((j : Int) = ((a : Int) + 1) % n) := by rw [em]; omega
        simp [q1, q2, q3]
        try omega
theorem rest12 {m f b hu wi : Nat} {k : Kd} {w : Wd} {least : Int} {R : List (List Int)} {cs : CS} {sc k1 a6 a7 a8 a9 a10 a11 a12 a13 : Option VD} {nx : VEn → CS → Prop} {Q : VD → CS → Prop} {E : XV → VEn → CS → Prop} (hw : Drawn k least w) (hk : k.ok) (hW : WOk hu wi R) (F : FeedV cs f (b + 1300))
    (hq : ∀ a6 a7 a8 a9 a10 a11 a12 a13 x4 x5 c, nx [sc, k1, some (.cel f), some k.v, x4, x5, a6, a7, a8, a9, a10, a11, a12, a13] c) :
    WS (vSs (callV PrV (m + 5)) (v99_2.drop 5) [sc, k1, some (.cel f), some k.v, some w.v, some (wishV hu wi R), a6, a7, a8, a9, a10, a11, a12, a13] cs) nx Q E := by
  have b62 := B62_eq
  have nn : vcmp .notN w.v .non = some true := by cases w <;> rfl
  have hf := hw.fits
  have five := fun (cs : CS) (F : FeedV cs f (b + 1300)) => five12 (m := m) (cs := cs) (sc := sc) (k1 := k1) (a6 := a6) (a8 := a8) (a9 := a9) (a10 := a10) (a11 := a11) (a12 := a12) (a13 := a13) (nx := nx) (Q := Q) (E := E) hw hk hW F fun _ _ _ _ _ _ _ => hq _ _ _ _ _ _ _ _ _ _ _
  cases w with
  | ring r =>
    have ln : ∀ cs, vbi cs .len [(Wd.ring r).v] = some (.int r.length) := fun cs => len_row
    simp [v99_2, nn, hf.1, ln]
    rw [walk_rng1 (by decide) (by omega)]
    simp only [oS_some_]
    rw [show Int.toNat 5 = 5 from rfl]
    exact five cs F
  | web ns ls =>
    have i0 : ∀ cs, vix cs (Wd.web ns ls).v (.int 0) = some (rowN ns) := fun cs => ix0
    simp [v99_2, nn, hf.1, i0]
    rw [walk_rng1 (by decide) (by omega)]
    simp only [oS_some_]
    rw [show Int.toNat 5 = 5 from rfl]
    exact five cs F
theorem law12_v {m : Nat} {ns : List Int} (hl : ns.length ≤ 63) : W (callV PrV (m + 7) 99 [.lst .rol (ns.map .int)] []) (fun v _ => v = .bl true) fun _ _ => False := by
  rw [call_s (d := v99) rfl rfl]
  have b62 := B62_eq
  have sz := PySem.sizeLine_eq
  simp [v99]
  rw [walk_rng1 (by decide) (by omega)]
  simp only [oS_some_]
  refine for_done (fun (i : Nat) => VD.int i) (List.range (Int.toNat 6)) (fun done en c => ∃ a1 a2 a3 a4 a5 a6 a7 a8 a9 a10 a11 a12 a13, en = [some (.lst .rol (ns.map .int)), a1, a2, a3, a4, a5, a6, a7, a8, a9, a10, a11, a12, a13]) ?_ ?_ ⟨_, _, _, _, _, _, _, _, _, _, _, _, _, rfl⟩
  · rintro en c ⟨a1, a2, a3, a4, a5, a6, a7, a8, a9, a10, a11, a12, a13, rfl⟩
    simp
    exact W_mono (long12_v hl) (fun a cs h => by subst h; simp) fun _ _ h => h
  · rintro done j rest en c K e ⟨a1, a2, a3, a4, a5, a6, a7, a8, a9, a10, a11, a12, a13, rfl⟩ hK
    have hj : j < 6 := by
      have : j ∈ List.range (Int.toNat 6) := by rw [e]; simp
      exact List.mem_range.mp this
    have hK2 : ∀ f k a6 a7 a8 a9 a10 a11 a12 a13 x4 x5 cs2, K [some (.lst .rol (ns.map .int)), some (.int j), some (.cel f), some k, x4, x5, a6, a7, a8, a9, a10, a11, a12, a13] cs2 := fun f k a6 a7 a8 a9 a10 a11 a12 a13 x4 x5 cs2 => hK _ _ ⟨_, _, _, _, _, _, _, _, _, _, _, _, _, rfl⟩
    have rest := fun (f b hu wi : Nat) (k : Kd) (w : Wd) (least : Int) (R : List (List Int)) (cs : CS) (a6 a7 a8 a9 a10 a11 a12 a13 : Option VD) (hw : Drawn k least w) (hk : k.ok) (hW : WOk hu wi R) (F : FeedV cs f (b + 1300)) =>
      rest12 (m := m + 1) (sc := some (.lst .rol (ns.map .int))) (k1 := some (.int j)) (a6 := a6) (a7 := a7) (a8 := a8) (a9 := a9) (a10 := a10) (a11 := a11) (a12 := a12) (a13 := a13) (nx := fun en cs => K en cs) (Q := fun v _ => v = .bl true) (E := fun _ _ _ => False) hw hk hW F fun _ _ _ _ _ _ _ _ _ _ _ => hK2 _ _ _ _ _ _ _ _ _ _ _ _ _
    have restN : ∀ (f : Nat) (k : Kd) (x5 a6 a7 a8 a9 a10 a11 a12 a13 : Option VD) (cs : CS), WS (vSs (callV PrV (m + 6)) (v99_2.drop 5) [some (.lst .rol (ns.map .int)), some (.int j), some (.cel f), some k.v, some .non, x5, a6, a7, a8, a9, a10, a11, a12, a13] cs) (fun en cs => K en cs) (fun v _ => v = .bl true) fun _ _ _ => False := fun f k x5 a6 a7 a8 a9 a10 a11 a12 a13 cs => by
      have nn : vcmp .notN .non .non = some false := rfl
      simp [v99_2, nn]
      exact hK2 _ _ _ _ _ _ _ _ _ _ _ _ _
    rw [vSs_cut 5]
    simp only [WS_thS]
    generalize v99_2.drop 5 = T at rest restN
    simp [v99_2]
    refine feed_v (b := 10000) (by omega) (by omega) fun cc F => ?_
    simp
    refine kind_v (F.mono (by omega) : FeedV _ _ (9000 + 75)) fun k c2 hk hh F2 => ?_
    have h4 : ∀ hu wi R, k = .wish hu wi R → hu ≤ 4 := fun hu wi R z => by have := hh hu wi R z; omega
    simp
    refine world_v (F2.mono (by omega) : FeedV _ _ (8000 + 200)) hk (by omega) h4 (fun c3 F3 hno => ?_) fun w c3 hw F3 => ?_
    · have kw : k.web? = false := by
        rcases hno with ⟨hu, wi, R, rfl, _⟩ | ⟨n, rfl, _⟩ <;> rfl
      simp
      refine wish_v (F3.mono (by omega) : FeedV _ _ (7000 + 70)) (by omega) fun hu wi R c4 p1 p2 p3 p4 F4 => ?_
      simp [kw]
      exact restN _ _ _ _ _ _ _ _ _ _ _ _
    · simp
      refine wish_v (F3.mono (by omega) : FeedV _ _ (7000 + 70)) (by omega) fun hu wi R c4 p1 p2 p3 p4 F4 => ?_
      have hu4 : hu ≤ 4 := by omega
      have hWR : WOk hu wi R := ⟨p1, hu4, p3, Nat.le_trans p4.length_le (by rw [allR_many]; exact pow_le4 hu4 (by omega)), fun r hr => allR_len (p4.subset hr)⟩
      cases kw : k.web? with
      | false =>
        simp [kw]
        exact rest _ 1000 hu wi k w _ R c4 _ _ _ _ _ _ _ _ hw hk hWR (F4.mono (by omega))
      | true =>
        have al : (allR hu 2).length ≤ 16 := by rw [allR_many]; exact Nat.le_trans (Nat.pow_le_pow_left hu4 2) (by decide)
        have ar : ∀ cs, callV PrV (m + 6) 12 [.int hu, .int 2] cs = some (.ok (.lst .own ((allR hu 2).map rowV)), cs) := fun cs => allrows_v (n := m + 5) (cs := cs) (f := 12) (hu := hu) (wi := 2) rfl (by omega) (by omega)
        simp [kw, w0, ar]
        rw [turn_map rowV (fun r => if decide (r.getD 0 0 ≤ r.getD 1 0) = true then some (rowV r) else none) (allR hu 2) (by omega) fun r hr => ?_]
        · rw [filterMap_keep' rowV]
          have l1 : ((allR hu 2).filter fun r => decide (r.getD 0 0 ≤ r.getD 1 0)).length ≤ 16 := Nat.le_trans (List.length_filter_le _ _) al
          have m1 : ∀ r ∈ (allR hu 2).filter fun r => decide (r.getD 0 0 ≤ r.getD 1 0), r.length = 2 ∧ ∀ x ∈ r, 0 ≤ x ∧ x < hu := fun r hr => allR_len (List.mem_filter.mp hr).1
          generalize (allR hu 2).filter (fun r => decide (r.getD 0 0 ≤ r.getD 1 0)) = A at l1 m1
          simp
          refine ⟨by omega, ?_⟩
          refine turn_done rowV A (fun done acc c5 => ∃ S : List (List Int), acc = S.map rowV ∧ S.length ≤ done.length ∧ (∀ r ∈ S, r.length = 2 ∧ ∀ x ∈ r, 0 ≤ x ∧ x < hu) ∧ FeedV c5 c.length (6000 + (20 - done.length))) ?_ ?_ ⟨[], rfl, by simp, (by simp), F4.mono (by simp)⟩
          · rintro acc c5 ⟨S, rfl, s1, s2, F5⟩
            obtain ⟨ok, e1, e2⟩ := even_rows (S := S) hu4 (by omega) s2
            have ss := fun (t : Tg) cs => sortset_v (t := t) (cs := cs) ok (by omega)
            simp [w0]
            refine ⟨by omega, ?_⟩
            rw [turn_map rowV (fun r => some (rowV r.reverse)) S (by omega) fun r hr => ?_]
            · rw [filterMap_all' fun r : List Int => rowV r.reverse]
              have er : (S.map fun r : List Int => rowV r.reverse) = (S.map List.reverse).map rowV := by rw [List.map_map]; rfl
              rw [er]
              have lr : (S.map List.reverse).length = S.length := List.length_map _
              simp only [List.map_append] at ss
              have tu : ∀ cs (t : Tg), vbi cs .tupleOf [.lst t ((sortU (S ++ S.map List.reverse)).map rowV)] = some (.tup ((sortU (S ++ S.map List.reverse)).map rowV)) := fun cs t => rfl
              generalize sortU (S ++ S.map List.reverse) = U at ss e1 e2 tu
              generalize S.map List.reverse = V at ss lr
              simp [ss, tu]
              refine ⟨by omega, by omega, ?_⟩
              exact rest _ 1000 hu 2 k w _ U c5 _ _ _ _ _ _ _ _ hw hk ⟨p1, hu4, .inl rfl, by omega, e2⟩ (F5.mono (by omega))
            · refine eq_of_W ?_
              obtain ⟨r1, r2⟩ := s2 r hr
              obtain ⟨x, y, rfl⟩ : ∃ x y, r = [x, y] := by
                match r, r1 with
                | [x, y], _ => exact ⟨x, y, rfl⟩
              have ps : vslS (rowV [x, y]) none none (-1) = some (rowV [y, x]) := by
                show (if (-1 : Int) ≠ 0 ∧ (-1 : Int) ≠ 1 ∧ (pickT [VD.int x, VD.int y] none none (-1)).length ≤ sizeLine then some (VD.tup (pickT [VD.int x, VD.int y] none none (-1))) else none) = _
                rw [pick_rev, if_pos ⟨by decide, by decide, by show 2 ≤ _; omega⟩]
                rfl
              simp [ps]
          · rintro done r rest' acc c5 K2 e2 ⟨S, rfl, s1, s2, F5⟩ k1 k2
            have hd : done.length < 16 := by
              have := congrArg List.length e2
              simp at this; omega
            have hr := m1 r (by rw [e2]; simp)
            simp
            refine take_v (F5.mono (by omega) : FeedV c5 _ ((6000 + (20 - (done.length + 1))) + 1)) (by omega) (by omega) fun v5 c6 q0 q1 F6 => ?_
            simp
            split
            · try simp
              exact k1 _ _ (by simp; omega) ⟨S ++ [r], by rw [List.map_append]; rfl, by simp; omega, fun x hx => by
                rcases List.mem_append.mp hx with hx | hx
                · exact s2 x hx
                · simp at hx; subst hx; exact hr, F6.mono (by simp)⟩
            · try simp
              exact k2 _ ⟨S, rfl, by simp; omega, s2, F6.mono (by simp)⟩
        · obtain ⟨r1, r2⟩ := allR_len hr
          refine eq_of_W ?_
          have x0 : atI r 0 = some (r.getD 0 0) := at_nat (h := 0) (by omega)
          have x1 : atI r 1 = some (r.getD 1 0) := at_nat (h := 1) (by omega)
          generalize r.getD 0 0 = A at x0
          generalize r.getD 1 0 = B at x1
          simp [x0, x1]
end Mp
namespace Mp
open PySem L2
def deep : Nat := 7
theorem law_ok (ns : List Int) (hl : ns.length ≤ 63) : callN Pr deep 99 [.ref 0] [.rol (ns.map .int)] (fun d _ => d = .bl true) fun _ _ => False :=
  law_V (PrV := PrV) (fun f d h => by unfold Pr; rw [h]; rfl) (law12_v (m := 0) hl)
end Mp
namespace Mp
open PySem PySem.Spec PyProof.Rows L2
def topS (i : Nat) : Stmt := PySem.Challenge.pw_seesofar_k12_where_a_wish_breaks.main.body.getD i (.Pass ⟨0, 0, 0, 0⟩)
def rows : List Row := [⟨28, "is_web", 1, ["kind"]⟩,
  ⟨72, "spots", 3, ["kind", "world", "wish", "names", "links", "one", "other"]⟩,
  ⟨93, "houses_at", 4, ["kind", "world", "wish", "spot", "place"]⟩,
  ⟨94, "choices_at", 6, ["kind", "world", "wish", "spot", "choices", "house"]⟩,
  ⟨95, "broken", 7, ["kind", "wish", "world", "choices", "spot"]⟩,
  ⟨9, "_law_mix", 9, ["cell", "k", "by"]⟩,
  ⟨10, "_law_feed", 10, ["script", "k", "cell"]⟩,
  ⟨11, "_law_take", 11, ["feed", "many", "found"]⟩,
  ⟨12, "_law_all_rows", 12, ["hues", "wide", "found", "place", "longer", "row", "choice"]⟩,
  ⟨13, "_law_wish", 13, ["feed", "most", "hues", "wide", "level", "rows", "row"]⟩,
  ⟨23, "_law_alive", 14, ["wish", "found", "row", "met", "at", "again", "some", "other"]⟩,
  ⟨36, "_law_kind", 15, ["feed", "way"]⟩,
  ⟨37, "_law_ring_of", 16, ["feed", "wish", "least", "alive", "wide", "letters", "k", "nodes", "twice", "end", "ring", "some", "row"]⟩,
  ⟨38, "_law_web", 17, ["feed", "kind", "names", "links", "one", "other", "name", "beside", "near", "link"]⟩,
  ⟨39, "_law_world", 18, ["feed", "kind", "least", "ring", "k", "letters", "step"]⟩,
  ⟨96, "_law_due", 19, ["kind", "wish", "world", "choices", "twice", "spot", "one", "other", "pair"]⟩,
  ⟨97, "_law_choices", 20, ["feed", "wish", "many", "choices", "k", "some", "row"]⟩,
  ⟨98, "_law_long_right", 21, ["script", "feed", "many", "at", "choices", "found", "world", "wish", "house"]⟩,
  ⟨99, "law", 22, ["script", "k", "feed", "kind", "world", "wish", "some", "many", "j", "choices", "kept", "found", "due", "row"]⟩]
def gcs : List (Str × Int) := []
def gts : List (Str × D) := []
theorem rows_ok : ∀ r ∈ rows, rowB (tbOf rows gcs gts) Pr (topS r.i) r = true ∧ (rows.find? fun s => s.f == r.f) = some r ∧
    ∀ df, Pr r.f = some df → ∀ (kV doc pm : Value) (an : Option Addr) (cdv ct : Value) (us : List Value), us.length = (r.N.take df.np).length → bindArgs (PySem.W.fnOf r.x r.x (defArgs (topS r.i)) (defBody (topS r.i)) (defScope (topS r.i)) .none kV doc pm an cdv ct) ⟨us, []⟩ = pure ((r.N.take df.np).zip us) := by
  intro r hr
  rcases List.mem_cons.mp hr with rfl | hr
  · exact ⟨by decide +kernel, rfl, fun df hd => by cases hd; exact fun _ _ _ _ _ _ us hl => match us, hl with | [_], _ => rfl⟩
  rcases List.mem_cons.mp hr with rfl | hr
  · exact ⟨by decide +kernel, rfl, fun df hd => by cases hd; exact fun _ _ _ _ _ _ us hl => match us, hl with | [_, _, _], _ => rfl⟩
  rcases List.mem_cons.mp hr with rfl | hr
  · exact ⟨by decide +kernel, rfl, fun df hd => by cases hd; exact fun _ _ _ _ _ _ us hl => match us, hl with | [_, _, _, _], _ => rfl⟩
  rcases List.mem_cons.mp hr with rfl | hr
  · exact ⟨by decide +kernel, rfl, fun df hd => by cases hd; exact fun _ _ _ _ _ _ us hl => match us, hl with | [_, _, _, _, _], _ => rfl⟩
  rcases List.mem_cons.mp hr with rfl | hr
  · exact ⟨by decide +kernel, rfl, fun df hd => by cases hd; exact fun _ _ _ _ _ _ us hl => match us, hl with | [_, _, _, _], _ => rfl⟩
  rcases List.mem_cons.mp hr with rfl | hr
  · exact ⟨by decide +kernel, rfl, fun df hd => by cases hd; exact fun _ _ _ _ _ _ us hl => match us, hl with | [_, _], _ => rfl⟩
  rcases List.mem_cons.mp hr with rfl | hr
  · exact ⟨by decide +kernel, rfl, fun df hd => by cases hd; exact fun _ _ _ _ _ _ us hl => match us, hl with | [_, _], _ => rfl⟩
  rcases List.mem_cons.mp hr with rfl | hr
  · exact ⟨by decide +kernel, rfl, fun df hd => by cases hd; exact fun _ _ _ _ _ _ us hl => match us, hl with | [_, _], _ => rfl⟩
  rcases List.mem_cons.mp hr with rfl | hr
  · exact ⟨by decide +kernel, rfl, fun df hd => by cases hd; exact fun _ _ _ _ _ _ us hl => match us, hl with | [_, _], _ => rfl⟩
  rcases List.mem_cons.mp hr with rfl | hr
  · exact ⟨by decide +kernel, rfl, fun df hd => by cases hd; exact fun _ _ _ _ _ _ us hl => match us, hl with | [_, _], _ => rfl⟩
  rcases List.mem_cons.mp hr with rfl | hr
  · exact ⟨by decide +kernel, rfl, fun df hd => by cases hd; exact fun _ _ _ _ _ _ us hl => match us, hl with | [_], _ => rfl⟩
  rcases List.mem_cons.mp hr with rfl | hr
  · exact ⟨by decide +kernel, rfl, fun df hd => by cases hd; exact fun _ _ _ _ _ _ us hl => match us, hl with | [_], _ => rfl⟩
  rcases List.mem_cons.mp hr with rfl | hr
  · exact ⟨by decide +kernel, rfl, fun df hd => by cases hd; exact fun _ _ _ _ _ _ us hl => match us, hl with | [_, _, _], _ => rfl⟩
  rcases List.mem_cons.mp hr with rfl | hr
  · exact ⟨by decide +kernel, rfl, fun df hd => by cases hd; exact fun _ _ _ _ _ _ us hl => match us, hl with | [_, _], _ => rfl⟩
  rcases List.mem_cons.mp hr with rfl | hr
  · exact ⟨by decide +kernel, rfl, fun df hd => by cases hd; exact fun _ _ _ _ _ _ us hl => match us, hl with | [_, _, _], _ => rfl⟩
  rcases List.mem_cons.mp hr with rfl | hr
  · exact ⟨by decide +kernel, rfl, fun df hd => by cases hd; exact fun _ _ _ _ _ _ us hl => match us, hl with | [_, _, _, _], _ => rfl⟩
  rcases List.mem_cons.mp hr with rfl | hr
  · exact ⟨by decide +kernel, rfl, fun df hd => by cases hd; exact fun _ _ _ _ _ _ us hl => match us, hl with | [_, _, _], _ => rfl⟩
  rcases List.mem_cons.mp hr with rfl | hr
  · exact ⟨by decide +kernel, rfl, fun df hd => by cases hd; exact fun _ _ _ _ _ _ us hl => match us, hl with | [_], _ => rfl⟩
  rcases List.mem_cons.mp hr with rfl | hr
  · exact ⟨by decide +kernel, rfl, fun df hd => by cases hd; exact fun _ _ _ _ _ _ us hl => match us, hl with | [_], _ => rfl⟩
  cases hr
end Mp
open PySem PySem.W PyProof.Rows
set_option maxHeartbeats 0 in
theorem PySem.Challenge.cw_seesofar_k12_where_a_wish_breaks_holds : PySem.Challenge.rw_seesofar_k12_where_a_wish_breaks.Holds := by
  w_on; o_law; k_head; (case hw => w_witness2)
  k_fill
  refine Mp.law_mini (l := PySem.Challenge.rw_seesofar_k12_where_a_wish_breaks) (n := 63) (k := Mp.deep) (f := 99) (Pr := Mp.Pr) (rows := Mp.rows) (gcs := Mp.gcs) (gts := Mp.gts) (top := Mp.topS) rfl (by decide) rfl ⟨rfl, by decide, by decide⟩ (fun w h Y => PySem.W.kIn_of Y) rfl ⟨_, rfl, rfl⟩ Mp.rows_ok ?F (fun ns hl => Mp.law_ok ns hl)
  case F =>
    intro w
    refine ⟨?mpL, ?mpA, ?mpN, ?mpG, ?mpT⟩
    case mpL => first | rfl | decide +kernel
    case mpA =>
      refine' Mp.AllAt.cons (Mp.fnAt_mk ?fa ?fl ?fc ?fk) ?_
      (case fa => k_is); (case fl => k_is); (case fc => k_is); (case fk => k_is)
      refine' Mp.AllAt.cons (Mp.fnAt_mk ?fa ?fl ?fc ?fk) ?_
      (case fa => k_is); (case fl => k_is); (case fc => k_is); (case fk => k_is)
      refine' Mp.AllAt.cons (Mp.fnAt_mk ?fa ?fl ?fc ?fk) ?_
      (case fa => k_is); (case fl => k_is); (case fc => k_is); (case fk => k_is)
      refine' Mp.AllAt.cons (Mp.fnAt_mk ?fa ?fl ?fc ?fk) ?_
      (case fa => k_is); (case fl => k_is); (case fc => k_is); (case fk => k_is)
      refine' Mp.AllAt.cons (Mp.fnAt_mk ?fa ?fl ?fc ?fk) ?_
      (case fa => k_is); (case fl => k_is); (case fc => k_is); (case fk => k_is)
      refine' Mp.AllAt.cons (Mp.fnAt_mk ?fa ?fl ?fc ?fk) ?_
      (case fa => k_is); (case fl => k_is); (case fc => k_is); (case fk => k_is)
      refine' Mp.AllAt.cons (Mp.fnAt_mk ?fa ?fl ?fc ?fk) ?_
      (case fa => k_is); (case fl => k_is); (case fc => k_is); (case fk => k_is)
      refine' Mp.AllAt.cons (Mp.fnAt_mk ?fa ?fl ?fc ?fk) ?_
      (case fa => k_is); (case fl => k_is); (case fc => k_is); (case fk => k_is)
      refine' Mp.AllAt.cons (Mp.fnAt_mk ?fa ?fl ?fc ?fk) ?_
      (case fa => k_is); (case fl => k_is); (case fc => k_is); (case fk => k_is)
      refine' Mp.AllAt.cons (Mp.fnAt_mk ?fa ?fl ?fc ?fk) ?_
      (case fa => k_is); (case fl => k_is); (case fc => k_is); (case fk => k_is)
      refine' Mp.AllAt.cons (Mp.fnAt_mk ?fa ?fl ?fc ?fk) ?_
      (case fa => k_is); (case fl => k_is); (case fc => k_is); (case fk => k_is)
      refine' Mp.AllAt.cons (Mp.fnAt_mk ?fa ?fl ?fc ?fk) ?_
      (case fa => k_is); (case fl => k_is); (case fc => k_is); (case fk => k_is)
      refine' Mp.AllAt.cons (Mp.fnAt_mk ?fa ?fl ?fc ?fk) ?_
      (case fa => k_is); (case fl => k_is); (case fc => k_is); (case fk => k_is)
      refine' Mp.AllAt.cons (Mp.fnAt_mk ?fa ?fl ?fc ?fk) ?_
      (case fa => k_is); (case fl => k_is); (case fc => k_is); (case fk => k_is)
      refine' Mp.AllAt.cons (Mp.fnAt_mk ?fa ?fl ?fc ?fk) ?_
      (case fa => k_is); (case fl => k_is); (case fc => k_is); (case fk => k_is)
      refine' Mp.AllAt.cons (Mp.fnAt_mk ?fa ?fl ?fc ?fk) ?_
      (case fa => k_is); (case fl => k_is); (case fc => k_is); (case fk => k_is)
      refine' Mp.AllAt.cons (Mp.fnAt_mk ?fa ?fl ?fc ?fk) ?_
      (case fa => k_is); (case fl => k_is); (case fc => k_is); (case fk => k_is)
      refine' Mp.AllAt.cons (Mp.fnAt_mk ?fa ?fl ?fc ?fk) ?_
      (case fa => k_is); (case fl => k_is); (case fc => k_is); (case fk => k_is)
      refine' Mp.AllAt.cons (Mp.fnAt_mk ?fa ?fl ?fc ?fk) ?_
      (case fa => k_is); (case fl => k_is); (case fc => k_is); (case fk => k_is)
      exact Mp.AllAt.nil
    case mpN =>
      refine' Mp.AllNo.cons ?fa ?_; (case fa => k_is)
      refine' Mp.AllNo.cons ?fa ?_; (case fa => k_is)
      refine' Mp.AllNo.cons ?fa ?_; (case fa => k_is)
      refine' Mp.AllNo.cons ?fa ?_; (case fa => k_is)
      refine' Mp.AllNo.cons ?fa ?_; (case fa => k_is)
      refine' Mp.AllNo.cons ?fa ?_; (case fa => k_is)
      refine' Mp.AllNo.cons ?fa ?_; (case fa => k_is)
      refine' Mp.AllNo.cons ?fa ?_; (case fa => k_is)
      refine' Mp.AllNo.cons ?fa ?_; (case fa => k_is)
      refine' Mp.AllNo.cons ?fa ?_; (case fa => k_is)
      refine' Mp.AllNo.cons ?fa ?_; (case fa => k_is)
      refine' Mp.AllNo.cons ?fa ?_; (case fa => k_is)
      refine' Mp.AllNo.cons ?fa ?_; (case fa => k_is)
      refine' Mp.AllNo.cons ?fa ?_; (case fa => k_is)
      refine' Mp.AllNo.cons ?fa ?_; (case fa => k_is)
      refine' Mp.AllNo.cons ?fa ?_; (case fa => k_is)
      refine' Mp.AllNo.cons ?fa ?_; (case fa => k_is)
      exact Mp.AllNo.nil
    case mpG =>
      exact Mp.AllGc.nil
    case mpT =>
      exact Mp.AllGt.nil
