import PyProof.Rows.All
import Wide.All
import OpenK.AllK
import Wide.FinOn
import HandS.ForMost
import HandS.ForExc
import HandS.Deep
import HandS.TupAny
import HandS.Style
import HandS.IsInst
import HandS.NoneIn
import HandS.SetFor
import HandS.SortOrd
import HandS.SortRule
import HandS.TryMany
import HandS.TupSets
import HandS.ExcIs
import HandS.HotCalls
import HandS.EndBits
import PySem.Challenge.RW_movehouse_k08_worlds
set_option Elab.async false
set_option linter.all false
set_option maxRecDepth 100000
/-! The clean syntax and its reading over abstract stores. -/
namespace MH
open PySem L2

/-- abstract values: tuples are pure -/
inductive D where
  | non | bl (b : Bool) | int (i : Int) | str (x : Str) | tup (l : List D) | ob (a : Addr) | ro (l : List D) | exc (c : Nat)
instance : Inhabited D := ⟨.non⟩
/-- what lies at an address -/
inductive O where
  | lst (l : List D) | dK (kvs : List (Key × D)) | dT (kvs : List (List Key × D)) | ins (c : Nat) (fs : List (Nat × D))
abbrev S := Addr → Option O
abbrev Env := List (Option D)
abbrev K1 := D → S → Prop
abbrev XP := Nat → S → Prop
abbrev XE := Nat → Env → S → Prop
def up (s : S) (a : Addr) (o : O) : S := fun b => if b = a then some o else s b
theorem up_same {s : S} {a : Addr} {o : O} : up s a o a = some o := by unfold up; rw [if_pos rfl]
theorem up_ne {s : S} {a b : Addr} {o : O} (h : b ≠ a) : up s a o b = s b := by unfold up; rw [if_neg h]

inductive Ty where
  | int | bool | str | tuple | list
  deriving DecidableEq
inductive Blt where
  | len | list | tuple | dict | sorted | all | max | int | abs
  deriving DecidableEq
inductive Bm where
  | append | extend | pop | insert | get | join | upper
  deriving DecidableEq

mutual
inductive Ex where
  | loc (i : Nat) | int (i : Int) | str (x : Str) | bl (b : Bool) | non
  | tup (es : Exs) | lst (es : Exs) | dnew (t : Bool) | disp (ks : List Str) (es : Exs)
  | fld (e : Ex) (f : Nat) | idx (a b : Ex) | slc (a : Ex) (lo hi : Exo)
  | bin (op : Operator) (a b : Ex) | neg (a : Ex) | not (a : Ex) | and (a b : Ex) | or (a b : Ex) | ife (c a b : Ex)
  | cmp (op : CmpOp) (a b : Ex) | chn (op op' : CmpOp) (a b c : Ex)
  | call (f : Nat) (es : Exs) | make (c : Nat) (es : Exs) | mth (m : Nat) (o : Ex) (es : Exs)
  | blt (b : Blt) (es : Exs) | bm (m : Bm) (o : Ex) (es : Exs)
  | isi (a : Ex) (ts : List Ty) | isx (a : Ex) (c : Nat)
  | lc (r : Bool) (elt : Ex) (i : Nat) (it : Ex) (c : Exo)
inductive Exs where
  | nil | cons (e : Ex) (es : Exs)
inductive Exo where
  | no | yes (e : Ex)
end
inductive Tg where
  | v (i : Nat) | s (o i : Ex)
mutual
inductive Sm where
  | pas | exp (e : Ex) | setv (i : Nat) (e : Ex) | setf (o : Ex) (f : Nat) (e : Ex) | seti (o i e : Ex) | unp (ts : List Tg) (e : Ex)
  | ite (c : Ex) (a b : Sms) | fr (r : Bool) (t : Option Nat) (ts : List Nat) (it : Ex) (b : Sms) | whl (c : Ex) (b : Sms) | ret (e : Ex) | ret0 | rse (c : Nat) | tri (b : Sms) (k i : Nat) (ks : List Nat) | trk (b : Sms) (k i : Nat) (ks cs : List Nat) | trl (b : Sms) (k i j : Nat) (cs : List Nat) | trm (b : Sms) (hs : List (Nat × Ex))
inductive Sms where
  | nil | cons (s : Sm) (r : Sms)
end
structure Fn where
  np : Nat
  ns : Nat
  body : Sms
/-- the text: functions, methods, makers, which exception class is under which -/
structure Tab where
  fn : Nat → Option Fn
  meth : Nat → Nat → Option Nat
  init : Nat → Option Nat
  sub : Nat → Nat → Bool
  fld : Nat → Nat → Bool

/-! ### primitives by values -/
/-- a sequence that may be read -/
def seqOf (s : S) : D → Option (List D)
  | .tup l => some l
  | .ro l => some l
  | .ob a => match s a with
    | some (.lst l) => some l
    | _ => none
  | _ => none
def atD (xs : List D) (i : Int) : Option D := atI xs i
def keyD : D → Option Key
  | .int i => some (.inl i)
  | .str x => some (.inr x)
  | _ => none
def keysD : List D → Option (List Key)
  | [] => some []
  | d :: r => match keyD d, keysD r with
    | some k, some ks => some (k :: ks)
    | _, _ => none
def valD {κ : Type} [DecidableEq κ] : List (κ × D) → κ → Option D
  | [], _ => none
  | (j, v) :: r, k => if j = k then some v else valD r k
/-- an existing key keeps its place, a new one comes last -/
def putD {κ : Type} [DecidableEq κ] (kvs : List (κ × D)) (k : κ) (v : D) : List (κ × D) :=
  if (kvs.any fun kv => decide (kv.1 = k)) = true then kvs.map (fun kv => if kv.1 = k then (kv.1, v) else kv) else kvs ++ [(k, v)]
def putA (f : Nat) (v : D) : List (Nat × D) → List (Nat × D)
  | [] => [(f, v)]
  | (g, w) :: r => if g = f then (g, v) :: r else (g, w) :: putA f v r
/-- what a dict holds for a key -/
def dGet (s : S) (a : Addr) (k : D) : Option (Option D) :=
  match s a with
  | some (.dK kvs) => (keyD k).map (valD kvs)
  | some (.dT kvs) => match k with
    | .tup l => (keysD l).map (valD kvs)
    | _ => none
  | _ => none
def mulOk (i j : Int) : Prop := (Builtin.Int.intBits i ≤ 64 ∨ Builtin.Int.intBits j ≤ 64) ∨ (Builtin.Int.intBits i ≤ 2 ^ 20 ∧ Builtin.Int.intBits j ≤ 2 ^ 20)

/-! data trees: what == speaks of -/
mutual
inductive Snap (s : S) : D → PyData → Prop where
  | non : Snap s .non .none
  | bl (b : Bool) : Snap s (.bl b) (.bool b)
  | int (i : Int) : Snap s (.int i) (.int i)
  | str (x : Str) : Snap s (.str x) (.str x)
  | tup {l : List D} {ds : List PyData} : Snaps s l ds → Snap s (.tup l) (.tuple ds)
  | lst {a : Addr} {l : List D} {ds : List PyData} : s a = some (.lst l) → Snaps s l ds → Snap s (.ob a) (.list ds)
inductive Snaps (s : S) : List D → List PyData → Prop where
  | nil : Snaps s [] []
  | cons {d : D} {l : List D} {p : PyData} {ps : List PyData} : Snap s d p → Snaps s l ps → Snaps s (d :: l) (p :: ps)
end
def rEqv (neg : Bool) (x y : D) (s : S) (Q : K1) : Prop :=
  (∃ d e, Snap s x d ∧ Snap s y e ∧ SeqAt.shaped d = true ∧ SeqAt.shaped e = true ∧ Q (.bl (if neg then !PyData.eqv d e else PyData.eqv d e)) s) ∨
    (neg = true ∧ ∃ a b l, x = .ob a ∧ y = .ob b ∧ s a = some (.lst l) ∧ s b = some (.lst []) ∧ l ≠ [] ∧ Q (.bl true) s)

def rBin (op : Operator) (x y : D) (s : S) (Q : K1) : Prop :=
  match op, x, y with
  | .Add, .int i, .int j => Q (.int (i + j)) s
  | .Add, .str i, .str j => i.length + j.length ≤ sizeLine ∧ Q (.str (i ++ j)) s
  | .Add, .tup l, .tup m => l.length + m.length ≤ sizeLine ∧ Q (.tup (l ++ m)) s
  | .Add, .ob a, .ob b => ∃ l m, s a = some (.lst l) ∧ s b = some (.lst m) ∧ l.length + m.length ≤ sizeLine ∧ ∀ p, s p = none → Q (.ob p) (up s p (.lst (l ++ m)))
  | .Sub, .int i, .int j => Q (.int (i - j)) s
  | .Mult, .int i, .int j => mulOk i j ∧ Q (.int (i * j)) s
  | .Mult, .ob a, .int k => ∃ l, s a = some (.lst l) ∧ -(2 ^ 63) ≤ k ∧ k < 2 ^ 63 ∧ l.length * k.toNat ≤ sizeLine ∧ ∀ p, s p = none → Q (.ob p) (up s p (.lst (List.replicate k.toNat l).flatten))
  | .FloorDiv, .int i, .int j => (0 < j ∧ j < 1073741824) ∧ Q (.int (i / j)) s
  | .Mod, .int i, .int j => 0 < j ∧ Q (.int (i % j)) s
  | .Pow, .int i, .int j => (0 ≤ j ∧ (Builtin.Int.intBits i : Int) * j ≤ 2 ^ 27) ∧ Q (.int (i ^ j.toNat)) s
  | _, _, _ => False
/-- == of scalars -/
def eqS : D → D → Option Bool
  | .non, .non => some true | .non, .int _ => some false | .int _, .non => some false | .non, .str _ => some false | .str _, .non => some false
  | .int i, .int j => some (decide (i = j)) | .bl i, .bl j => some (decide (i = j)) | .str i, .str j => some (decide (i = j))
  | .int _, .str _ => some false | .str _, .int _ => some false
  | _, _ => none
def rInt2 (p : Int → Int → Bool) (x y : D) (s : S) (Q : K1) : Prop :=
  match x, y with
  | .int i, .int j => Q (.bl (p i j)) s
  | _, _ => False
def isNon : D → Bool
  | .non => true
  | _ => false
def rIs (neg : Bool) (x y : D) (s : S) (Q : K1) : Prop :=
  match y with
  | .non => Q (.bl (if neg then !isNon x else isNon x)) s
  | .bl b => ∃ a, x = .bl a ∧ Q (.bl (if neg then !decide (a = b) else decide (a = b))) s
  | _ => False
def rEq (neg : Bool) (x y : D) (s : S) (Q : K1) : Prop :=
  match eqS x y with
  | some b => Q (.bl (if neg then !b else b)) s
  | none => rEqv neg x y s Q
def rIn (neg : Bool) (x y : D) (s : S) (Q : K1) : Prop :=
  match y with
  | .str z => ∃ c : Nat, x = .str ⟨#[c]⟩ ∧ Q (.bl (if neg then !decide (c ∈ z.cps.toList) else decide (c ∈ z.cps.toList))) s
  | .ob a => (∃ r, dGet s a x = some r ∧ Q (.bl (if neg then !r.isSome else r.isSome)) s) ∨
      ∃ d ds, Snap s x d ∧ Snap s y (.list ds) ∧ SeqAt.shaped d = true ∧ SeqAt.shaped (.list ds) = true ∧ Q (.bl (if neg then !ds.any fun z => PyData.eqv z d else ds.any fun z => PyData.eqv z d)) s
  | .tup l => neg = false ∧ ∃ d ds, Snap s x d ∧ Snaps s l ds ∧ SeqAt.shaped d = true ∧ SeqAt.shaped (.tuple ds) = true ∧ Q (.bl (ds.any fun z => PyData.eqv z d)) s
  | _ => False
def rCmp (op : CmpOp) (x y : D) (s : S) (Q : K1) : Prop :=
  match op with
  | .Eq => rEq false x y s Q
  | .NotEq => rEq true x y s Q
  | .Lt => rInt2 (fun i j => decide (i < j)) x y s Q
  | .LtE => rInt2 (fun i j => decide (i ≤ j)) x y s Q
  | .Gt => rInt2 (fun i j => decide (j < i)) x y s Q
  | .GtE => rInt2 (fun i j => decide (j ≤ i)) x y s Q
  | .Is => rIs false x y s Q
  | .IsNot => rIs true x y s Q
  | .In => rIn false x y s Q
  | .NotIn => rIn true x y s Q
def rIdx (x y : D) (s : S) (Q : K1) : Prop :=
  match x with
  | .str z => ∃ i c, y = .int i ∧ z.length ≤ sizeLine ∧ atI z.cps.toList i = some c ∧ Q (.str ⟨#[c]⟩) s
  | .ob a => match s a with
    | some (.lst l) => ∃ i v, y = .int i ∧ atD l i = some v ∧ Q v s
    | _ => ∃ v, dGet s a y = some (some v) ∧ Q v s
  | .tup l => ∃ i v, y = .int i ∧ atD l i = some v ∧ Q v s
  | .ro l => ∃ i v, y = .int i ∧ atD l i = some v ∧ Q v s
  | _ => False
def cutD (xs : List D) (lo hi : Option Int) : List D := (xs.drop (HT.sIx xs.length 0 lo)).take (HT.sIx xs.length xs.length hi - HT.sIx xs.length 0 lo)
def rSlc (x : D) (lo hi : Option Int) (s : S) (Q : K1) : Prop :=
  match x with
  | .str z => z.length ≤ sizeLine ∧ Q (.str (cutS z lo hi)) s
  | .tup l => Q (.tup (cutD l lo hi)) s
  | .ro l => ∀ p, s p = none → Q (.ob p) (up s p (.lst (cutD l lo hi)))
  | .ob a => ∃ l, s a = some (.lst l) ∧ ∀ p, s p = none → Q (.ob p) (up s p (.lst (cutD l lo hi)))
  | _ => False
def isT (s : S) (d : D) (t : Ty) : Option Bool :=
  match d with
  | .non => some false
  | .bl _ => some (t == .bool || t == .int)
  | .int _ => some (t == .int)
  | .str _ => some (t == .str)
  | .tup _ => some (t == .tuple)
  | .ob a => match s a with
    | some (.lst _) => some (t == .list)
    | some (.dK _) => some false
    | _ => none
  | _ => none
def isTs (s : S) (d : D) : List Ty → Option Bool
  | [] => some false
  | t :: r => match isT s d t with
    | some true => some true
    | some false => isTs s d r
    | none => none
/-- ints of a tuple -/
def intsD : List D → Option (List Int)
  | [] => some []
  | .int i :: r => (intsD r).map (i :: ·)
  | _ :: _ => none
def lexI : List Int → List Int → Bool
  | [], [] => false
  | [], _ :: _ => true
  | _ :: _, [] => false
  | x :: xs, y :: ys => if x = y then lexI xs ys else decide (x < y)
def rBlt (b : Blt) (xs : List D) (s : S) (Q : K1) : Prop :=
  match b, xs with
  | .len, [.str z] => z.length ≤ sizeLine ∧ Q (.int z.length) s
  | .len, [x] => ∃ l, seqOf s x = some l ∧ Q (.int l.length) s
  | .list, [x] => ∃ l, seqOf s x = some l ∧ ∀ p, s p = none → Q (.ob p) (up s p (.lst l))
  | .tuple, [.ob a] => ∃ l, s a = some (.lst l) ∧ Q (.tup l) s
  | .dict, [.ob a] => ∃ kvs, s a = some (.dK kvs) ∧ ∀ p, s p = none → Q (.ob p) (up s p (.dK kvs))
  | .sorted, [.ob a] => ∃ ts : List (Int × Int × Int), s a = some (.lst (ts.map fun t => .tup [.int t.1, .int t.2.1, .int t.2.2])) ∧
      ∀ (us : List (Int × Int × Int)) p, us.Perm ts → us.Pairwise (fun x y => lexI [y.1, y.2.1, y.2.2] [x.1, x.2.1, x.2.2] = false) → s p = none → Q (.ob p) (up s p (.lst (us.map fun t => .tup [.int t.1, .int t.2.1, .int t.2.2])))
  | .all, [.ob a] => ∃ bs : List Bool, s a = some (.lst (bs.map .bl)) ∧ Q (.bl (bs.all id)) s
  | .max, [.int i, .int j] => Q (.int (if j > i then j else i)) s
  | .int, [.int i] => Q (.int i) s
  | .int, [.bl k] => Q (.int (if k then 1 else 0)) s
  | .abs, [.int i] => Q (.int (if i < 0 then -i else i)) s
  | _, _ => False
def strsD : List D → Option (List Str)
  | [] => some []
  | .str x :: r => (strsD r).map (x :: ·)
  | _ :: _ => none
def rBm (m : Bm) (x : D) (xs : List D) (s : S) (Q : K1) : Prop :=
  match m, x, xs with
  | .append, .ob a, [y] => ∃ l, s a = some (.lst l) ∧ l.length < sizeLine ∧ Q .non (up s a (.lst (l ++ [y])))
  | .extend, .ob a, [.ob b] => ∃ l m, s a = some (.lst l) ∧ s b = some (.lst m) ∧ l.length + m.length ≤ sizeLine ∧ Q .non (up s a (.lst (l ++ m)))
  | .pop, .ob a, [.int i] => ∃ l y, s a = some (.lst l) ∧ 0 ≤ i ∧ i < 2 ^ 63 ∧ l[i.toNat]? = some y ∧ Q y (up s a (.lst (l.eraseIdx i.toNat)))
  | .insert, .ob a, [.int i, y] => ∃ l, s a = some (.lst l) ∧ l.length < sizeLine ∧ 0 ≤ i ∧ i < 2 ^ 63 ∧ Q .non (up s a (.lst (l.take i.toNat ++ y :: l.drop i.toNat)))
  | .get, .ob a, [k, d] => ∃ r, dGet s a k = some r ∧ Q (r.getD d) s
  | .join, .str z, [.ob a] => ∃ l ys, s a = some (.lst l) ∧ strsD l = some ys ∧ (ys.map (·.length + z.length)).sum ≤ 16777216 ∧ Q (.str (Txt.join z ys)) s
  | .upper, .str z, [] => z.length ≤ 5592405 ∧ Q (.str (Txt.upper z)) s
  | _, _, _ => False

def bmOk (m : Bm) (x : D) (s : S) : Prop :=
  match m with
  | .join => ∃ z, x = .str z
  | .upper => ∃ z, x = .str z
  | .get => ∃ a, x = .ob a ∧ ((∃ kvs, s a = some (.dK kvs)) ∨ ∃ kvs, s a = some (.dT kvs))
  | _ => ∃ a l, x = .ob a ∧ s a = some (.lst l)

/-! ### expressions -/
/-- over items: the element, kept where the test says so -/
def wItems (f : D → S → (Option D → S → Prop) → Prop) (ok : S → Prop) : List D → List D → S → (List D → S → Prop) → Prop
  | [], acc, s, Q => ok s ∧ Q acc s
  | x :: xs, acc, s, Q => ok s ∧ f x s fun o s1 => wItems f ok xs (match o with | some d => acc ++ [d] | none => acc) s1 Q
/-- the items of an iterable: the list must stay while it is walked -/
def itemsOf (r : Bool) (x : D) (s : S) (K : List D → (S → Prop) → Prop) : Prop :=
  match r with
  | true => ∃ n : Int, x = .int n ∧ 0 ≤ n ∧ n < 2 ^ 62 ∧ K ((List.range n.toNat).map fun k => .int (k : Nat)) fun _ => True
  | false => (∃ l, seqOf s x = some l ∧ K l fun s' => seqOf s' x = some l) ∨ ∃ z, x = .str z ∧ K (z.cps.toList.map fun c => .str ⟨#[c]⟩) fun _ => True
section
variable (T : Tab) (C : Nat → List D → S → K1 → XP → Prop)
mutual
def wE : Ex → Env → S → K1 → XP → Prop
  | .loc i, e, s, Q, _ => ∃ d, e[i]? = some (some d) ∧ Q d s
  | .int i, _, s, Q, _ => Q (.int i) s
  | .str x, _, s, Q, _ => Q (.str x) s
  | .bl b, _, s, Q, _ => Q (.bl b) s
  | .non, _, s, Q, _ => Q .non s
  | .tup es, e, s, Q, X => wEs es e s (fun ds s1 => ds.length ≤ sizeLine ∧ Q (.tup ds) s1) X
  | .lst es, e, s, Q, X => wEs es e s (fun ds s1 => ds.length ≤ sizeLine ∧ ∀ p, s1 p = none → Q (.ob p) (up s1 p (.lst ds))) X
  | .dnew t, _, s, Q, _ => ∀ p, s p = none → Q (.ob p) (up s p (if t = true then .dT [] else .dK []))
  | .disp ks es, e, s, Q, X => wEs es e s (fun ds s1 => ks.length = ds.length ∧ ds.length ≤ 15 ∧ ks.Nodup ∧ ∀ p, s1 p = none → Q (.ob p) (up s1 p (.dK ((ks.map Sum.inr).zip ds)))) X
  | .fld a f, e, s, Q, X => wE a e s (fun x s1 => ∃ p c fs v, x = .ob p ∧ s1 p = some (.ins c fs) ∧ fs.lookup f = some v ∧ Q v s1) X
  | .idx a b, e, s, Q, X => wE a e s (fun x s1 => wE b e s1 (fun y s2 => rIdx x y s2 Q) X) X
  | .slc a lo hi, e, s, Q, X => wE a e s (fun x s1 => wO lo e s1 (fun l s2 => wO hi e s2 (fun h s3 => rSlc x l h s3 Q) X) X) X
  | .bin op a b, e, s, Q, X => wE a e s (fun x s1 => wE b e s1 (fun y s2 => rBin op x y s2 Q) X) X
  | .neg a, e, s, Q, X => wE a e s (fun x s1 => ∃ i, x = .int i ∧ Q (.int (-i)) s1) X
  | .not a, e, s, Q, X => wE a e s (fun x s1 => ∃ b, x = .bl b ∧ Q (.bl (!b)) s1) X
  | .and a b, e, s, Q, X => wE a e s (fun x s1 => ∃ k, x = .bl k ∧ if k = true then wE b e s1 (fun y s2 => (∃ j, y = .bl j) ∧ Q y s2) X else Q (.bl false) s1) X
  | .or a b, e, s, Q, X => wE a e s (fun x s1 => ∃ k, x = .bl k ∧ if k = true then Q (.bl true) s1 else wE b e s1 (fun y s2 => (∃ j, y = .bl j) ∧ Q y s2) X) X
  | .ife c a b, e, s, Q, X => wE c e s (fun x s1 => ∃ k, x = .bl k ∧ if k = true then wE a e s1 Q X else wE b e s1 Q X) X
  | .cmp op a b, e, s, Q, X => wE a e s (fun x s1 => wE b e s1 (fun y s2 => rCmp op x y s2 Q) X) X
  | .chn op op' a b c, e, s, Q, X => wE a e s (fun x s1 => wE b e s1 (fun y s2 => rCmp op x y s2 fun z s3 => ∃ k, z = .bl k ∧ if k = true then wE c e s3 (fun w s4 => rCmp op' y w s4 Q) X else Q (.bl false) s3) X) X
  | .call f es, e, s, Q, X => wEs es e s (fun ds s1 => C f ds s1 Q X) X
  | .make c es, e, s, Q, X => wEs es e s (fun ds s1 => ∃ f, T.init c = some f ∧ ∀ p, s1 p = none → C f (.ob p :: ds) (up s1 p (.ins c [])) (fun d s2 => d = .non ∧ Q (.ob p) s2) X) X
  | .mth m o es, e, s, Q, X => wE o e s (fun x s1 => ∃ p c fs f, x = .ob p ∧ s1 p = some (.ins c fs) ∧ fs.lookup m = none ∧ T.meth c m = some f ∧ wEs es e s1 (fun ds s2 => C f (x :: ds) s2 Q X) X) X
  | .blt b es, e, s, Q, X => wEs es e s (fun ds s1 => rBlt b ds s1 Q) X
  | .bm m o es, e, s, Q, X => wE o e s (fun x s1 => bmOk m x s1 ∧ wEs es e s1 (fun ds s2 => rBm m x ds s2 Q) X) X
  | .isi a ts, e, s, Q, X => wE a e s (fun x s1 => ∃ b, isTs s1 x ts = some b ∧ Q (.bl b) s1) X
  | .isx a c, e, s, Q, X => wE a e s (fun x s1 => ∃ k, x = .exc k ∧ Q (.bl (T.sub k c)) s1) X
  | .lc r elt i it c, e, s, Q, X => wE it e s (fun x s1 => itemsOf r x s1 fun l ok => l.length ≤ sizeLine ∧
      wItems (fun d s2 K => wB c (e.set i (some d)) s2 fun b s3 => if b = true then wE elt (e.set i (some d)) s3 (fun y s4 => K (some y) s4) (fun _ _ => False) else K none s3) ok l [] s1
        fun acc s5 => ∀ p, s5 p = none → Q (.ob p) (up s5 p (.lst acc))) X
def wEs : Exs → Env → S → (List D → S → Prop) → XP → Prop
  | .nil, _, s, Q, _ => Q [] s
  | .cons a r, e, s, Q, X => wE a e s (fun x s1 => wEs r e s1 (fun xs s2 => Q (x :: xs) s2) X) X
def wO : Exo → Env → S → (Option Int → S → Prop) → XP → Prop
  | .no, _, s, Q, _ => Q none s
  | .yes a, e, s, Q, X => wE a e s (fun x s1 => ∃ i, x = .int i ∧ Q (some i) s1) X
def wB : Exo → Env → S → (Bool → S → Prop) → Prop
  | .no, _, s, Q => Q true s
  | .yes a, e, s, Q => wE a e s (fun x s1 => ∃ b, x = .bl b ∧ Q b s1) (fun _ _ => False)
end
/-- a test -/
def wT (c : Ex) (e : Env) (s : S) (Q : Bool → S → Prop) (X : XP) : Prop := wE T C c e s (fun x s1 => ∃ b, x = .bl b ∧ Q b s1) X

/-! ### statements -/
def setI (o i v : D) (s : S) (Q : S → Prop) : Prop :=
  match o with
  | .ob a => match s a with
    | some (.lst l) => ∃ k j, i = .int k ∧ ixN l.length k = some j ∧ Q (up s a (.lst (l.set j v)))
    | some (.dK kvs) => ∃ k, keyD i = some k ∧ kvs.length < sizeLine ∧ Q (up s a (.dK (putD kvs k v)))
    | some (.dT kvs) => ∃ l k, i = .tup l ∧ keysD l = some k ∧ kvs.length < sizeLine ∧ Q (up s a (.dT (putD kvs k v)))
    | _ => False
  | _ => False
def wTg : Tg → D → Env → S → (Env → S → Prop) → XE → Prop
  | .v i, d, e, s, N, _ => N (e.set i (some d)) s
  | .s o i, d, e, s, N, X => wE T C o e s (fun x s1 => wE T C i e s1 (fun y s2 => setI x y d s2 fun s3 => N e s3) (fun c => X c e)) (fun c => X c e)
def wTgs : List Tg → List D → Env → S → (Env → S → Prop) → XE → Prop
  | [], [], e, s, N, _ => N e s
  | t :: ts, d :: ds, e, s, N, X => wTg T C t d e s (fun e1 s1 => wTgs ts ds e1 s1 N X) X
  | _, _, _, _, _, _ => False
/-- names stored from the left -/
def sets : List Nat → List D → Env → Option Env
  | [], [], e => some e
  | i :: is, d :: ds, e => sets is ds (e.set i (some d))
  | _, _, _ => none
def bindT (t : Option Nat) (ts : List Nat) (x : D) (e : Env) : Option Env := match t with
  | some i => some (e.set i (some x))
  | none => match x with
    | .tup l => sets ts l e
    | _ => none
def wFor (f : Env → S → (Env → S → Prop) → Prop) (ok : S → Prop) (t : Option Nat) (ts : List Nat) : List D → Env → S → (Env → S → Prop) → Prop
  | [], e, s, N => ok s ∧ N e s
  | x :: xs, e, s, N => ok s ∧ ∃ e1, bindT t ts x e = some e1 ∧ f e1 s fun e2 s2 => wFor f ok t ts xs e2 s2 N
/-- clauses: a class, and what is returned by it -/
def wHs : List (Nat × Ex) → Nat → Env → S → K1 → Prop
  | [], _, _, _, _ => False
  | (k, x) :: r, c, e, s, R => ((k < 998 ∧ T.sub c k = true) ∧ wE T C x e s R fun _ _ => False) ∨ ((T.sub c (k + 2000) = true ∧ k ≠ 998) ∧ wHs r c e s R)
/-- what is known of a class k over c -/
def kvOk (c : Nat) (kv : Nat → Bool) (k : Nat) : Prop := (kv k = true ∧ k < 2000 ∧ T.sub c k = true) ∨ (kv k = false ∧ k < 998 ∧ T.sub c (k + 2000) = true)
def wWh (c : Env → S → (Bool → S → Prop) → Prop) (f : Env → S → (Env → S → Prop) → Prop) : Nat → Env → S → (Env → S → Prop) → Prop
  | 0, _, _, _ => False
  | n + 1, e, s, N => c e s fun b s1 => if b = true then f e s1 fun e2 s2 => wWh c f n e2 s2 N else N e s1
mutual
def wS : Sm → Env → S → (Env → S → Prop) → K1 → XE → Prop
  | .pas, e, s, N, _, _ => N e s
  | .exp a, e, s, N, _, X => wE T C a e s (fun _ s1 => N e s1) (fun c => X c e)
  | .setv i a, e, s, N, _, X => wE T C a e s (fun d s1 => N (e.set i (some d)) s1) (fun c => X c e)
  | .setf o f a, e, s, N, _, X => wE T C a e s (fun d s1 => wE T C o e s1 (fun x s2 => ∃ p c fs, x = .ob p ∧ s2 p = some (.ins c fs) ∧ T.fld c f = true ∧ fs.length < 1000 ∧ N e (up s2 p (.ins c (putA f d fs)))) (fun c => X c e)) (fun c => X c e)
  | .seti o i a, e, s, N, _, X => wE T C a e s (fun d s1 => wE T C o e s1 (fun x s2 => wE T C i e s2 (fun y s3 => setI x y d s3 fun s4 => N e s4) (fun c => X c e)) (fun c => X c e)) (fun c => X c e)
  | .unp ts a, e, s, N, _, X => wE T C a e s (fun d s1 => ∃ l, seqOf s1 d = some l ∧ l.length = ts.length ∧ wTgs T C ts l e s1 N X) (fun c => X c e)
  | .ite c a b, e, s, N, R, X => wE T C c e s (fun d s1 => ∃ k, d = .bl k ∧ if k = true then wSs a e s1 N R X else wSs b e s1 N R X) (fun c => X c e)
  | .fr r t ts it b, e, s, N, R, X => wE T C it e s (fun x s1 => itemsOf r x s1 fun l ok => wFor (fun e1 s2 N1 => wSs b e1 s2 N1 R X) ok t ts l e s1 N) (fun c => X c e)
  | .whl c b, e, s, N, R, X => wWh (fun e1 s1 Q => wE T C c e1 s1 (fun d s2 => ∃ k, d = .bl k ∧ Q k s2) (fun c => X c e1)) (fun e1 s1 N1 => wSs b e1 s1 N1 R X) 8 e s N
  | .ret a, e, s, _, R, X => wE T C a e s R (fun c => X c e)
  | .ret0, _, s, _, R, _ => R .non s
  | .rse c, e, s, _, _, X => X c e s
  | .tri b k i ks, e, s, N, R, _ => wSs b e s N R fun c e1 s1 => i < e1.length ∧ (k < 2000 ∧ T.sub c k = true) ∧ (∀ k' ∈ ks, k' < 2000 ∧ T.sub c k' = true) ∧ R (.bl true) s1
  | .trk b k i ks cs, e, s, N, R, _ => wSs b e s N R fun c e1 s1 => i < e1.length ∧ (k < 2000 ∧ T.sub c k = true) ∧ (∀ k' ∈ ks, k' < 2000 ∧ T.sub c k' = true) ∧ (∃ kv, (∀ k' ∈ cs, kvOk T c kv k') ∧ (cs.filter kv).length = 1) ∧ R (.bl true) s1
  | .trl b k i j cs, e, s, N, R, _ => wSs b e s N R fun c e1 s1 => (i < e1.length ∧ j < e1.length) ∧ (k < 2000 ∧ T.sub c k = true) ∧ ∃ kv, (∀ k' ∈ cs, kvOk T c kv k') ∧ ∀ q, s1 q = none → R (.ob q) (up s1 q (.lst (cs.map fun k => .bl (kv k))))
  | .trm b hs, e, s, N, R, _ => wSs b e s N R fun c e1 s1 => wHs T C hs c e1 s1 R
def wSs : Sms → Env → S → (Env → S → Prop) → K1 → XE → Prop
  | .nil, e, s, N, _, _ => N e s
  | .cons a r, e, s, N, R, X => wS a e s (fun e1 s1 => wSs r e1 s1 N R X) R X
end
end
def start (fn : Fn) (ds : List D) : Env := ds.map some ++ List.replicate (fn.ns - ds.length) none
def wCall (T : Tab) : Nat → Nat → List D → S → K1 → XP → Prop
  | 0, _, _, _, _, _ => False
  | n + 1, f, ds, s, Q, X => ∃ fn, T.fn f = some fn ∧ ds.length = fn.np ∧ wSs T (wCall T n) fn.body (start fn ds) s (fun _ s' => Q .non s') Q (fun c _ => X c)
end MH
set_option Elab.async false
set_option linter.all false
set_option maxRecDepth 100000
/-! Abstract stores against the abstract heaps of the hand layer. -/
namespace MH
open PySem L2

/-- a read-only list -/
def RoL (K : PySem.W.Frag) (H : Hp) (a : Addr) (xs : List V) : Prop :=
  (∃ o, H a = some (.frz o (.lst xs))) ∨
    ∃ (o : Obj) (its : Array Value) (n : Nat), K.lookup a = some o ∧ o.cls = .type "list" ∧ o.dict = none ∧ o.data = .seq its n ∧ its.size ≤ sizeLine ∧ Vals xs its.toList
theorem RoL.sq {K : PySem.W.Frag} {H : Hp} {a : Addr} {xs : List V} (h : RoL K H a xs) : SqL K H a xs := by
  rcases h with h | h
  · exact .inl (.inr h)
  · exact .inr h
mutual
inductive VR (K : PySem.W.Frag) (H : Hp) : D → V → Prop where
  | non : VR K H .non .non
  | bl (b : Bool) : VR K H (.bl b) (.bl b)
  | int (i : Int) : VR K H (.int i) (.int i)
  | str (x : Str) : VR K H (.str x) (.str x)
  | ob (a : Addr) : VR K H (.ob a) (.ref a)
  | tup {l : List D} {a : Addr} {xs : List V} : H a = some (.tup xs) → VRs K H l xs → VR K H (.tup l) (.ref a)
  | ro {l : List D} {a : Addr} {xs : List V} : RoL K H a xs → VRs K H l xs → VR K H (.ro l) (.ref a)
inductive VRs (K : PySem.W.Frag) (H : Hp) : List D → List V → Prop where
  | nil : VRs K H [] []
  | cons {d : D} {l : List D} {v : V} {vs : List V} : VR K H d v → VRs K H l vs → VRs K H (d :: l) (v :: vs)
end
/-- tuples and locked things stay -/
def TL (H H' : Hp) : Prop := (∀ a xs, H a = some (.tup xs) → H' a = some (.tup xs)) ∧ ∀ a o u, H a = some (.frz o u) → H' a = some (.frz o u)
theorem TL.refl (H : Hp) : TL H H := ⟨fun _ _ h => h, fun _ _ _ h => h⟩
theorem TL.trans {H H1 H2 : Hp} (a : TL H H1) (b : TL H1 H2) : TL H H2 := ⟨fun x y h => b.1 x y (a.1 x y h), fun x y z h => b.2 x y z (a.2 x y z h)⟩
section
variable {K : PySem.W.Frag} {H H' : Hp}
theorem RoL.mono {a : Addr} {xs : List V} (t : TL H H') (h : RoL K H a xs) : RoL K H' a xs := by
  rcases h with ⟨o, h⟩ | h
  · exact .inl ⟨o, t.2 _ _ _ h⟩
  · exact .inr h
mutual
theorem VR.mono (t : TL H H') : ∀ {d : D} {v : V}, VR K H d v → VR K H' d v
  | _, _, .non => .non
  | _, _, .bl b => .bl b
  | _, _, .int i => .int i
  | _, _, .str x => .str x
  | _, _, .ob a => .ob a
  | _, _, .tup h r => .tup (t.1 _ _ h) (VRs.mono t r)
  | _, _, .ro h r => .ro (h.mono t) (VRs.mono t r)
theorem VRs.mono (t : TL H H') : ∀ {l : List D} {vs : List V}, VRs K H l vs → VRs K H' l vs
  | _, _, .nil => .nil
  | _, _, .cons r q => .cons (VR.mono t r) (VRs.mono t q)
end
theorem VRs.length : ∀ {l : List D} {vs : List V}, VRs K H l vs → l.length = vs.length
  | _, _, .nil => rfl
  | _, _, .cons _ q => by simp [VRs.length q]
theorem VRs.get : ∀ {l : List D} {vs : List V} {i : Nat} {d : D}, VRs K H l vs → l[i]? = some d → ∃ v, vs[i]? = some v ∧ VR K H d v
  | _, _, _, _, .nil, e => by simp at e
  | _, _, 0, _, .cons r _, e => by simp at e; subst e; exact ⟨_, rfl, r⟩
  | _, _, i + 1, d, .cons _ q, e => by
    obtain ⟨v, h1, h2⟩ := VRs.get (i := i) (d := d) q (by simpa using e)
    exact ⟨v, by simpa using h1, h2⟩
theorem VRs.append : ∀ {l m : List D} {vs ws : List V}, VRs K H l vs → VRs K H m ws → VRs K H (l ++ m) (vs ++ ws)
  | _, _, _, _, .nil, s => s
  | _, _, _, _, .cons r q, s => .cons r (VRs.append q s)
theorem VRs.take : ∀ {l : List D} {vs : List V} (n : Nat), VRs K H l vs → VRs K H (l.take n) (vs.take n)
  | _, _, 0, _ => by simpa using VRs.nil
  | _, _, _ + 1, .nil => .nil
  | _, _, n + 1, .cons r q => .cons r (VRs.take n q)
theorem VRs.drop : ∀ {l : List D} {vs : List V} (n : Nat), VRs K H l vs → VRs K H (l.drop n) (vs.drop n)
  | _, _, 0, r => r
  | _, _, _ + 1, .nil => .nil
  | _, _, n + 1, .cons _ q => VRs.drop n q
theorem VRs.set {d : D} {v : V} (r : VR K H d v) : ∀ {l : List D} {vs : List V} (i : Nat), VRs K H l vs → VRs K H (l.set i d) (vs.set i v)
  | _, _, _, .nil => .nil
  | _, _, 0, .cons _ t => .cons r t
  | _, _, i + 1, .cons q t => .cons q (VRs.set r i t)
theorem VRs.erase : ∀ {l : List D} {vs : List V} (i : Nat), VRs K H l vs → VRs K H (l.eraseIdx i) (vs.eraseIdx i)
  | _, _, _, .nil => .nil
  | _, _, 0, .cons _ t => t
  | _, _, i + 1, .cons q t => .cons q (VRs.erase i t)
theorem VRs.one {d : D} {vs : List V} (r : VRs K H [d] vs) : ∃ v, vs = [v] ∧ VR K H d v := by
  cases r with
  | cons r q => cases q; exact ⟨_, rfl, r⟩
theorem VRs.two {d e : D} {vs : List V} (r : VRs K H [d, e] vs) : ∃ v u, vs = [v, u] ∧ VR K H d v ∧ VR K H e u := by
  cases r with
  | cons r q =>
    obtain ⟨u, rfl, q'⟩ := q.one
    exact ⟨_, _, rfl, r, q'⟩
theorem VRs.rep {l : List D} {vs : List V} (r : VRs K H l vs) : ∀ k : Nat, VRs K H (List.replicate k l).flatten (List.replicate k vs).flatten
  | 0 => by simpa using VRs.nil
  | k + 1 => by
    rw [List.replicate_succ, List.replicate_succ, List.flatten_cons, List.flatten_cons]
    exact r.append (VRs.rep r k)
theorem VRs.ints : ∀ {ns : List Int} {vs : List V}, VRs K H (ns.map .int) vs → vs = ns.map V.int
  | [], _, .nil => rfl
  | n :: ns, _, .cons (.int _) q => by rw [VRs.ints q] <;> rfl
theorem VRs.bls : ∀ {ns : List Bool} {vs : List V}, VRs K H (ns.map .bl) vs → vs = ns.map V.bl
  | [], _, .nil => rfl
  | n :: ns, _, .cons (.bl _) q => by rw [VRs.bls q] <;> rfl
theorem VRs.of_ints : ∀ {ns : List Int}, VRs K H (ns.map .int) (ns.map V.int)
  | [] => .nil
  | _ :: _ => .cons (.int _) VRs.of_ints
end

/-! ### objects -/
structure Gb where
  fns : List (Str × Nat)
  cls : List (Str × Nat)
  exs : List (Str × Nat)
  consts : List (Str × D)
  attrs : List Str
  fld : Nat → Nat → Bool
  tnames : List Str
  knd : List (Str × List Nat) := []
structure Ad where
  fn : Nat → Addr
  cl : Nat → Addr
/-- pairs of a dict -/
def KR (K : PySem.W.Frag) (H : Hp) {κ : Type} : List (κ × D) → List (κ × V) → Prop := Paired fun p q => p.1 = q.1 ∧ VR K H p.2 q.2
def FR (K : PySem.W.Frag) (G : Gb) (H : Hp) : List (Nat × D) → List (Str × V) → Prop := Paired fun p q => G.attrs[p.1]? = some q.1 ∧ VR K H p.2 q.2
inductive RO (K : PySem.W.Frag) (G : Gb) (A : Ad) (H : Hp) : O → HO → Prop where
  | lst {l : List D} {xs : List V} : VRs K H l xs → RO K G A H (.lst l) (.lst xs)
  | dK {kvs : List (Key × D)} {ws : List (Key × V)} : KR K H kvs ws → RO K G A H (.dK kvs) (.dK ws)
  | dT {kvs : List (List Key × D)} {ws : List (List Key × V)} : KR K H kvs ws → RO K G A H (.dT kvs) (.dT ws)
  | ins {c : Nat} {dx : Addr} {fs : List (Nat × D)} {ws : List (Str × V)} : FR K G H fs ws → (∀ p ∈ fs, G.fld c p.1 = true) → RO K G A H (.ins c fs) (.ins (A.cl c) dx ws)
theorem KR.mono {K : PySem.W.Frag} {H H' : Hp} (t : TL H H') {κ : Type} {a : List (κ × D)} {b : List (κ × V)} (r : KR K H a b) : KR K H' a b := Paired.mapP r fun _ _ h => ⟨h.1, h.2.mono t⟩
theorem FR.mono {K : PySem.W.Frag} {G : Gb} {H H' : Hp} (t : TL H H') {a : List (Nat × D)} {b : List (Str × V)} (r : FR K G H a b) : FR K G H' a b := Paired.mapP r fun _ _ h => ⟨h.1, h.2.mono t⟩
section
variable {K : PySem.W.Frag} {G : Gb} {A : Ad} {H H' H1 H2 : Hp} {s s1 s2 : S}
theorem RO.mono (t : TL H H') {o : O} {u : HO} (r : RO K G A H o u) : RO K G A H' o u := by
  cases r with
  | lst r => exact .lst (r.mono t)
  | dK r => exact .dK (r.mono t)
  | dT r => exact .dT (r.mono t)
  | ins r f => exact .ins (r.mono t) f
/-- the abstract store is held by the abstract heap -/
def Rel (K : PySem.W.Frag) (G : Gb) (A : Ad) (s : S) (H : Hp) : Prop := ∀ a o, s a = some o → ∃ u, H a = some u ∧ RO K G A H o u
/-- what the store does not know stays -/
def Sim (s : S) (H : Hp) (s' : S) (H' : Hp) : Prop := ∀ a u, H a = some u → s a = none → s' a = none ∧ H' a = some u
theorem Sim.refl (s : S) (H : Hp) : Sim s H s H := fun _ _ h n => ⟨n, h⟩
theorem Sim.trans (a : Sim s H s1 H1) (b : Sim s1 H1 s2 H2) : Sim s H s2 H2 := fun x u h n => let ⟨n1, h1⟩ := a x u h n; b x u h1 n1
theorem Rel.free (r : Rel K G A s H) {p : Addr} (h : H p = none) : s p = none := by
  cases e : s p with
  | none => rfl
  | some o =>
    obtain ⟨u, q, _⟩ := r p o e
    rw [h] at q; cases q
theorem Rel.notTup (r : Rel K G A s H) {a : Addr} {xs : List V} (h : H a = some (.tup xs)) : s a = Option.none := by
  cases e : s a with
  | none => rfl
  | some o =>
    obtain ⟨u, q, ro⟩ := r a o e
    rw [h] at q; cases q; cases ro
theorem Rel.notFrz (r : Rel K G A s H) {a : Addr} {ob : Obj} {u : HO} (h : H a = some (.frz ob u)) : s a = Option.none := by
  cases e : s a with
  | none => rfl
  | some o =>
    obtain ⟨u, q, ro⟩ := r a o e
    rw [h] at q; cases q; cases ro
theorem Sim.tl (r : Rel K G A s H) (m : Sim s H s1 H1) : TL H H1 := ⟨fun a xs h => (m a _ h (r.notTup h)).2, fun a o u h => (m a _ h (r.notFrz h)).2⟩
/-- a new object that the store knows -/
theorem Sim.new {p : Addr} {o : O} {u : HO} (h : H p = none) : Sim s H (up s p o) (upd H p u) := fun a v e n => by
  have ne : a ≠ p := fun q => by rw [q, h] at e; cases e
  exact ⟨by rw [up_ne ne]; exact n, by rw [upd_ne ne]; exact e⟩
/-- .. that it does not know -/
theorem Sim.put {p : Addr} {u : HO} (h : H p = none) : Sim s H s (upd H p u) := fun a v e n => by
  have ne : a ≠ p := fun q => by rw [q, h] at e; cases e
  exact ⟨n, by rw [upd_ne ne]; exact e⟩
/-- a known object is changed -/
theorem Sim.chg {p : Addr} {o o' : O} {u : HO} (h : s p = some o) : Sim s H (up s p o') (upd H p u) := fun a v e n => by
  have ne : a ≠ p := fun q => by rw [q, h] at n; cases n
  exact ⟨by rw [up_ne ne]; exact n, by rw [upd_ne ne]; exact e⟩
theorem TL.new {p : Addr} {u : HO} (h : H p = none) : TL H (upd H p u) := ⟨fun a xs e => by
  rw [upd_ne (fun q => by rw [q, h] at e; cases e)]; exact e, fun a o v e => by
  rw [upd_ne (fun q => by rw [q, h] at e; cases e)]; exact e⟩
theorem Rel.new (r : Rel K G A s H) {p : Addr} {o : O} {u : HO} (h : H p = none) (ro : RO K G A (upd H p u) o u) : Rel K G A (up s p o) (upd H p u) := fun a o' e => by
  by_cases ha : a = p
  · subst ha; rw [up_same] at e; cases e; exact ⟨u, upd_same, ro⟩
  · rw [up_ne ha] at e
    obtain ⟨v, q, rr⟩ := r a o' e
    exact ⟨v, by rw [upd_ne ha]; exact q, rr.mono (TL.new h)⟩
theorem Rel.new' (r : Rel K G A s H) {p : Addr} {o : O} {u : HO} (h : H p = none) (ro : RO K G A H o u) : Rel K G A (up s p o) (upd H p u) := r.new h (ro.mono (TL.new h))
theorem Rel.put (r : Rel K G A s H) {p : Addr} {u : HO} (h : H p = none) : Rel K G A s (upd H p u) := fun a o' e => by
  obtain ⟨v, q, rr⟩ := r a o' e
  have ha : a ≠ p := fun z => by rw [z, h] at q; cases q
  exact ⟨v, by rw [upd_ne ha]; exact q, rr.mono (TL.new h)⟩
theorem Rel.tlc (r : Rel K G A s H) {p : Addr} {o : O} {u : HO} (h : s p = some o) : TL H (upd H p u) := ⟨fun a xs e => by
  rw [upd_ne (fun q => by have := r.notTup e; rw [q, h] at this; cases this)]; exact e, fun a ob v e => by
  rw [upd_ne (fun q => by have := r.notFrz e; rw [q, h] at this; cases this)]; exact e⟩
theorem Rel.chg (r : Rel K G A s H) {p : Addr} {o o' : O} {u : HO} (h : s p = some o) (ro : RO K G A H o' u) : Rel K G A (up s p o') (upd H p u) := fun a o2 e => by
  by_cases ha : a = p
  · subst ha; rw [up_same] at e; cases e; exact ⟨u, upd_same, ro.mono (r.tlc h)⟩
  · rw [up_ne ha] at e
    obtain ⟨v, q, rr⟩ := r a o2 e
    exact ⟨v, by rw [upd_ne ha]; exact q, rr.mono (r.tlc h)⟩
theorem Rel.lst (r : Rel K G A s H) {a : Addr} {l : List D} (h : s a = some (.lst l)) : ∃ xs, H a = some (.lst xs) ∧ VRs K H l xs := by
  obtain ⟨u, q, ro⟩ := r a _ h
  cases ro with
  | lst x => exact ⟨_, q, x⟩
theorem Rel.dK (r : Rel K G A s H) {a : Addr} {l : List (Key × D)} (h : s a = some (.dK l)) : ∃ xs, H a = some (.dK xs) ∧ KR K H l xs := by
  obtain ⟨u, q, ro⟩ := r a _ h
  cases ro with
  | dK x => exact ⟨_, q, x⟩
theorem Rel.dT (r : Rel K G A s H) {a : Addr} {l : List (List Key × D)} (h : s a = some (.dT l)) : ∃ xs, H a = some (.dT xs) ∧ KR K H l xs := by
  obtain ⟨u, q, ro⟩ := r a _ h
  cases ro with
  | dT x => exact ⟨_, q, x⟩
theorem Rel.ins (r : Rel K G A s H) {a : Addr} {c : Nat} {l : List (Nat × D)} (h : s a = some (.ins c l)) : ∃ dx xs, H a = some (.ins (A.cl c) dx xs) ∧ FR K G H l xs ∧ ∀ p ∈ l, G.fld c p.1 = true := by
  obtain ⟨u, q, ro⟩ := r a _ h
  cases ro with
  | ins x f => exact ⟨_, _, q, x, f⟩
theorem VR.ob_inv {a : Addr} {v : V} (h : VR K H (.ob a) v) : v = .ref a := by cases h; rfl
theorem VR.int_inv {a : Int} {v : V} (h : VR K H (.int a) v) : v = .int a := by cases h; rfl
theorem VR.str_inv {a : PySem.Str} {v : V} (h : VR K H (.str a) v) : v = .str a := by cases h; rfl
theorem VR.bl_inv {a : Bool} {v : V} (h : VR K H (.bl a) v) : v = .bl a := by cases h; rfl
theorem VR.non_inv {v : V} (h : VR K H .non v) : v = .non := by cases h; rfl
theorem VR.tup_inv {l : List D} {v : V} (h : VR K H (.tup l) v) : ∃ a xs, v = .ref a ∧ H a = some (.tup xs) ∧ VRs K H l xs := by cases h with | tup h r => exact ⟨_, _, rfl, h, r⟩
theorem VR.ro_inv {l : List D} {v : V} (h : VR K H (.ro l) v) : ∃ a xs, v = .ref a ∧ RoL K H a xs ∧ VRs K H l xs := by cases h with | ro h r => exact ⟨_, _, rfl, h, r⟩
/-- a sequence that may be read -/
theorem seq_rd (r : Rel K G A s H) {d : D} {v : V} {l : List D} (q : VR K H d v) (h : seqOf s d = some l) : ∃ a xs, v = .ref a ∧ VRs K H l xs ∧ (SqL K H a xs ∨ SqT K H a xs) := by
  cases q with
  | tup h1 h2 =>
    cases h
    exact ⟨_, _, rfl, h2, .inr (SqT.of h1)⟩
  | ro h1 h2 =>
    cases h
    exact ⟨_, _, rfl, h2, .inl h1.sq⟩
  | ob a =>
    have h' : (match s a with | some (.lst l) => some l | _ => Option.none) = some l := h
    split at h'
    · rename_i l' e
      cases h'
      obtain ⟨xs, e1, e2⟩ := r.lst e
      exact ⟨a, xs, rfl, e2, .inl (SqL.of e1)⟩
    · cases h'
  | _ => cases h
theorem seq_lst {a : Addr} {l : List D} (h : seqOf s (.ob a) = some l) : s a = some (.lst l) := by
  have h' : (match s a with | some (.lst l) => some l | _ => Option.none) = some l := h
  split at h'
  · rename_i l' e
    cases h'
    exact e
  · cases h'
end

/-! ### keys, dicts -/
section
variable {K : PySem.W.Frag} {H : Hp}
theorem keyD_rel {d : D} {v : V} {k : Key} (r : VR K H d v) (h : keyD d = some k) : v = kV k := by
  cases r with
  | int i => cases h; rfl
  | str x => cases h; rfl
  | _ => cases h
theorem keysD_rel : ∀ {l : List D} {vs : List V} {ks : List Key}, VRs K H l vs → keysD l = some ks → vs = ks.map kV
  | [], _, ks, .nil, h => by cases h; rfl
  | d :: l, _, ks, .cons r q, h => by
    unfold keysD at h
    split at h
    · rename_i k ks' h1 h2
      cases h
      rw [keyD_rel r h1, keysD_rel q h2]
      rfl
    · cases h
variable {κ : Type} [DecidableEq κ]
theorem KR.val : ∀ {a : List (κ × D)} {b : List (κ × V)} {k : κ}, KR K H a b → (∀ d, valD a k = some d → ∃ v, valV b k = some v ∧ VR K H d v) ∧ (valD a k = none → valV b k = none)
  | [], _, k, .nil => ⟨fun d h => (by cases h), fun _ => rfl⟩
  | (j, d) :: a, (j', v) :: b, k, .cons er q => by
    have r : VR K H d v := er.2
    have e' : j = j' := er.1
    subst e'
    obtain ⟨h1, h2⟩ := KR.val (k := k) q
    by_cases hj : j = k
    · subst hj
      refine ⟨fun d' h => ?_, fun h => ?_⟩
      · unfold valD at h
        rw [if_pos rfl] at h
        cases h
        exact ⟨v, valV_pos rfl, r⟩
      · unfold valD at h
        rw [if_pos rfl] at h
        cases h
    · refine ⟨fun d' h => ?_, fun h => ?_⟩
      · unfold valD at h
        rw [if_neg hj] at h
        obtain ⟨w, e1, e2⟩ := h1 d' h
        exact ⟨w, by rw [valV_neg hj]; exact e1, e2⟩
      · unfold valD at h
        rw [if_neg hj] at h
        rw [valV_neg hj]; exact h2 h
theorem KR.any {a : List (κ × D)} {b : List (κ × V)} (r : KR K H a b) (k : κ) : (a.any fun kv => decide (kv.1 = k)) = b.any fun kv => decide (kv.1 = k) := by
  induction r with
  | nil => rfl
  | cons h q ih => simp only [List.any_cons, ih, h.1]
theorem KR.repl {a : List (κ × D)} {b : List (κ × V)} (r : KR K H a b) (k : κ) {d : D} {v : V} (q : VR K H d v) : KR K H (a.map fun kv => if kv.1 = k then (kv.1, d) else kv) (b.map fun kv => if kv.1 = k then (kv.1, v) else kv) := by
  induction r with
  | nil => exact .nil
  | cons h t ih =>
    refine .cons ?_ ih
    rename_i p p' _ _
    show (if p.1 = k then (p.1, d) else p).1 = (if p'.1 = k then (p'.1, v) else p').1 ∧ VR K H (if p.1 = k then (p.1, d) else p).2 (if p'.1 = k then (p'.1, v) else p').2
    have h1 : p.1 = p'.1 := h.1
    by_cases e : p.1 = k
    · rw [if_pos e, if_pos (h1 ▸ e)]
      exact ⟨h1, q⟩
    · rw [if_neg e, if_neg (h1 ▸ e)]
      exact h
theorem paired_append {α β : Type} {F : α → β → Prop} {a a' : List α} {b b' : List β} (h : Paired F a b) (h' : Paired F a' b') : Paired F (a ++ a') (b ++ b') := by
  induction h with
  | nil => exact h'
  | cons x t ih => exact .cons x ih
theorem KR.put {a : List (κ × D)} {b : List (κ × V)} (r : KR K H a b) (k : κ) {d : D} {v : V} (q : VR K H d v) : KR K H (putD a k d) (putK b k v) := by
  unfold putD putK
  rw [r.any k]
  by_cases e : (b.any fun kv => decide (kv.1 = k)) = true
  · rw [if_pos e, if_pos e]
    exact r.repl k q
  · rw [if_neg e, if_neg e]
    exact paired_append r (.cons ⟨rfl, q⟩ .nil)
theorem KR.length {a : List (κ × D)} {b : List (κ × V)} (r : KR K H a b) : a.length = b.length := Paired.length r
end
section
variable {K : PySem.W.Frag} {G : Gb} {A : Ad} {H : Hp} {s : S}
theorem dGet_rel (r : Rel K G A s H) {a : Addr} {k : D} {v : V} {o : Option D} (q : VR K H k v) (h : dGet s a k = some o) :
    ∃ w, DGet H a v w ∧ (∀ d, o = some d → ∃ x, w = some x ∧ VR K H d x) ∧ (o = none → w = none) := by
  unfold dGet at h
  split at h
  · rename_i kvs e
    obtain ⟨ws, e1, kr⟩ := r.dK e
    cases hk : keyD k with
    | none => rw [hk] at h; cases h
    | some j =>
      rw [hk] at h
      cases h
      rw [keyD_rel q hk]
      obtain ⟨h1, h2⟩ := KR.val (k := j) kr
      refine ⟨_, DGet.k e1, fun d hd => ?_, h2⟩
      obtain ⟨x, e2, e3⟩ := h1 d hd
      exact ⟨x, e2, e3⟩
  · rename_i kvs e
    obtain ⟨ws, e1, kr⟩ := r.dT e
    split at h
    · rename_i l
      obtain ⟨b, xs, rfl, hb, vr⟩ := q.tup_inv
      cases hk : keysD l with
      | none => rw [hk] at h; cases h
      | some j =>
        rw [hk] at h
        cases h
        have ex := keysD_rel vr hk
        subst ex
        obtain ⟨h1, h2⟩ := KR.val (k := j) kr
        refine ⟨_, DGet.t e1 hb, fun d hd => ?_, h2⟩
        obtain ⟨x, e2, e3⟩ := h1 d hd
        exact ⟨x, e2, e3⟩
    · cases h
  · cases h
/-- trees -/
theorem PyDp {d : D} {v : V} {p : PyData} (r : Rel K G A s H) (q : VR K H d v) (h : Snap s d p) : Dp K H v p := by
  revert v
  refine Snap.rec (motive_1 := fun d p _ => ∀ {v : V}, VR K H d v → Dp K H v p) (motive_2 := fun l ps _ => ∀ {vs : List V}, VRs K H l vs → DpAll K H vs ps) ?_ ?_ ?_ ?_ ?_ ?_ ?_ ?_ h
  · intro v q; cases q; exact .non
  · intro b v q; cases q; exact .bl b
  · intro i v q; cases q; exact .int i
  · intro x v q; cases q; exact .str x
  · intro l ds _ ih v q
    obtain ⟨a, xs, rfl, ha, vr⟩ := q.tup_inv
    exact .tup (SqT.of ha) (ih vr)
  · intro a l ds hl _ ih v q
    cases q
    obtain ⟨xs, e1, e2⟩ := r.lst hl
    exact .lst (SqL.of e1) (ih e2)
  · intro vs q; cases q; exact .nil
  · intro d l p ps _ _ ih1 ih2 vs q
    cases q with
    | cons q1 q2 => exact .cons (ih1 q1) (ih2 q2)
/-! ### fields -/
theorem FR.val (nd : G.attrs.Nodup) : ∀ {a : List (Nat × D)} {b : List (PySem.Str × V)} {f : Nat} {x : PySem.Str}, FR K G H a b → G.attrs[f]? = some x → (∀ d, a.lookup f = some d → ∃ v, b.lookup x = some v ∧ VR K H d v) ∧ (a.lookup f = none → b.lookup x = none)
  | [], _, f, x, .nil, _ => ⟨fun d h => (by cases h), fun _ => rfl⟩
  | (g, d) :: a, (y, v) :: b, f, x, .cons er q, hf => by
    have r : VR K H d v := er.2
    have e' : G.attrs[g]? = some y := er.1
    obtain ⟨h1, h2⟩ := FR.val nd q hf
    by_cases hg : f = g
    · subst hg
      rw [hf] at e'; cases e'
      refine ⟨fun d' h => ?_, fun h => ?_⟩
      · rw [List.lookup_cons_self] at h; cases h
        exact ⟨v, List.lookup_cons_self, r⟩
      · rw [List.lookup_cons_self] at h; cases h
    · have hy : (x == y) = false := by
        rw [beq_eq_false_iff_ne]
        intro z; subst z
        exact hg (nodup_ix nd hf e')
      have hg' : (f == g) = false := by rw [beq_eq_false_iff_ne]; exact hg
      refine ⟨fun d' h => ?_, fun h => ?_⟩
      · rw [List.lookup_cons, hg'] at h
        obtain ⟨w, e1, e2⟩ := h1 d' h
        exact ⟨w, by rw [List.lookup_cons, hy]; exact e1, e2⟩
      · rw [List.lookup_cons, hg'] at h
        rw [List.lookup_cons, hy]; exact h2 h
theorem FR.put (nd : G.attrs.Nodup) : ∀ {a : List (Nat × D)} {b : List (PySem.Str × V)} {f : Nat} {x : PySem.Str} {d : D} {v : V}, FR K G H a b → G.attrs[f]? = some x → VR K H d v → FR K G H (putA f d a) (putF x v b)
  | [], _, f, x, d, v, .nil, hf, q => .cons ⟨hf, q⟩ .nil
  | (g, d') :: a, (y, v') :: b, f, x, d, v, .cons er t, hf, q => by
    have e' : G.attrs[g]? = some y := er.1
    show FR K G H (if g = f then (g, d) :: a else (g, d') :: putA f d a) (if y = x then (y, v) :: b else (y, v') :: putF x v b)
    by_cases hg : g = f
    · subst hg
      rw [hf] at e'; cases e'
      rw [if_pos rfl, if_pos rfl]
      exact .cons ⟨hf, q⟩ t
    · have hy : y ≠ x := fun z => by subst z; exact hg (nodup_ix nd e' hf)
      rw [if_neg hg, if_neg hy]
      exact .cons er (FR.put nd t hf q)
end
end MH
set_option Elab.async false
set_option linter.all false
set_option maxRecDepth 100000
/-! sorted(..) of triples of ints of any sign. -/
namespace MH
open PySem L2 PySem.W SrtO PyProof.Rows

abbrev I3 := Int × Int × Int
def lex3 (p q : I3) : Bool := if p.1 = q.1 then (if p.2.1 = q.2.1 then decide (p.2.2 < q.2.2) else decide (p.2.1 < q.2.1)) else decide (p.1 < q.1)
theorem lex3_iff {p q : I3} : lex3 p q = true ↔ p.1 < q.1 ∨ (p.1 = q.1 ∧ (p.2.1 < q.2.1 ∨ (p.2.1 = q.2.1 ∧ p.2.2 < q.2.2))) := by
  unfold lex3
  by_cases e : p.1 = q.1
  · by_cases e2 : p.2.1 = q.2.1
    · rw [if_pos e, if_pos e2, decide_eq_true_eq]; omega
    · rw [if_pos e, if_neg e2, decide_eq_true_eq]; omega
  · rw [if_neg e, decide_eq_true_eq]; omega
theorem lex3_no {p q : I3} : lex3 p q = false ↔ ¬ (p.1 < q.1 ∨ (p.1 = q.1 ∧ (p.2.1 < q.2.1 ∨ (p.2.1 = q.2.1 ∧ p.2.2 < q.2.2)))) := by
  rw [← lex3_iff]
  cases lex3 p q <;> simp
theorem swo3 (k : Value → I3) : Swo fun v u => lex3 (k v) (k u) := by
  refine ⟨fun x y h => ?_, fun x y z h1 h2 => ?_⟩
  · have a := lex3_iff.mp h
    refine lex3_no.mpr ?_
    omega
  · have a := lex3_no.mp h1
    have b := lex3_no.mp h2
    refine lex3_no.mpr ?_
    omega
def IsTrip (h : Heap) (v : Value) (p : I3) : Prop := ∃ a o t u r n, v = .ref a ∧ h.get? a = some o ∧ o.cls = .type "tuple" ∧ o.data = .seq #[.int p.1 t, .int p.2.1 u, .int p.2.2 r] n
theorem IsTrip.keeps {h h' : Heap} {v : Value} {q : I3} (p : IsTrip h v q) (k : ∀ b o, h.get? b = some o → o.cls = .type "tuple" → h'.get? b = some o) : IsTrip h' v q := by
  obtain ⟨a, o, t, u, r, n, e, ho, hc, hd⟩ := p
  exact ⟨a, o, t, u, r, n, e, k a o ho hc, hc, hd⟩
section
variable {prog : Program} {w : World} {A : Around} {s : Shared} {E : Value → Shared → Prop}
theorem trip_firsts {h : Heap} : ∀ {vs : List Value}, (∀ v ∈ vs, ∃ q, IsTrip h v q) → ∃ fs : List Value, PySem.W.KatTups h vs fs ∧ fs.length = vs.length ∧ ∀ f ∈ fs, ∃ x t, f = Value.int x t
  | [], _ => ⟨[], PySem.W.KatTups.nil, rfl, fun _ hm => by simp at hm⟩
  | v :: vs, hp => by
    obtain ⟨fs, h1, h2, h3⟩ := trip_firsts (vs := vs) fun v' hm => hp v' (List.mem_cons_of_mem _ hm)
    obtain ⟨q, a, o, t, u, r, n, e, ho, hc, hd⟩ := hp v (List.mem_cons_self ..)
    subst e
    refine ⟨.int q.1 t :: fs, PySem.W.KatTups.cons ho hc hd rfl h1, by rw [List.length_cons, List.length_cons, h2], fun f hm => ?_⟩
    rcases List.mem_cons.mp hm with rfl | hm
    · exact ⟨q.1, t, rfl⟩
    · exact h3 f hm
theorem trip_cmp {vs : List Value} {k : Value → I3} (hp : ∀ v ∈ vs, IsTrip s.heap v (k v)) : Cmp prog w A s (tuples' true) (fun p => p.1 ∈ vs) (lt2 fun v u => lex3 (k v) (k u)) := by
  intro p q hm hm'
  have h1 := hp _ hm
  have h2 := hp _ hm'
  show wpAny (model prog w) A (keyLt' (tuples' true) p.1 q.1) (fun r s' => s' = s ∧ r = lex3 (k p.1) (k q.1)) (fun _ _ => False) s
  unfold lex3
  obtain ⟨a, o, t, u, r, n, e, ho, hc, hd⟩ := h1
  obtain ⟨a', o', t', u', r', n', e', ho', hc', hd'⟩ := h2
  generalize (k p.1).1 = x at hd ⊢
  generalize (k p.1).2.1 = y at hd ⊢
  generalize (k p.1).2.2 = z at hd ⊢
  generalize (k q.1).1 = x' at hd' ⊢
  generalize (k q.1).2.1 = y' at hd' ⊢
  generalize (k q.1).2.2 = z' at hd' ⊢
  rw [e, e']
  refine PySem.W.kat_lt ho hd ho' hd' ?_
  show PySem.W.KatLex prog w A true (decide (3 < 3)) _ [(.int x t, .int x' t'), (.int y u, .int y' u'), (.int z r, .int z' r')] 0 s
  refine PySem.W.kat_cons (SeqAt.EqAt.int_int x t x' t' prog w _ _ ?_)
  refine PySem.W.kat_go (fun e1 => ?_) (fun e1 => ?_)
  · have ex : x = x' := by simpa using e1
    rw [if_pos ex]
    refine PySem.W.kat_yes (PySem.W.kat_cons (SeqAt.EqAt.int_int y u y' u' prog w _ _ ?_))
    refine PySem.W.kat_go (fun e2 => ?_) (fun e2 => ?_)
    · have ey : y = y' := by simpa using e2
      rw [if_pos ey]
      refine PySem.W.kat_yes (PySem.W.kat_cons (SeqAt.EqAt.int_int z r z' r' prog w _ _ ?_))
      refine PySem.W.kat_go (fun e3 => ?_) (fun e3 => ?_)
      · have ez : z = z' := by simpa using e3
        have e4 : decide (z < z') = false := by rw [ez]; exact decide_eq_false (Int.lt_irrefl _)
        exact PySem.W.kat_yes (PySem.W.kat_nil ⟨rfl, e4.symm⟩)
      · refine PySem.W.kat_no (PySem.W.kat_one _ _ (PyProof.Rows.lt_int ?_))
        exact (show s = s ∧ decide (z < z') = decide (z < z') from ⟨rfl, rfl⟩)
    · have ey : ¬ y = y' := by simpa using e2
      rw [if_neg ey]
      refine PySem.W.kat_no (PySem.W.kat_one _ _ (PyProof.Rows.lt_int ?_))
      exact (show s = s ∧ decide (y < y') = decide (y < y') from ⟨rfl, rfl⟩)
  · have ex : ¬ x = x' := by simpa using e1
    rw [if_neg ex]
    exact PySem.W.kat_no (oneLt_int ⟨rfl, rfl⟩)
theorem trips_sortableO {a : Addr} {vs : List Value} {k : Value → I3} (h0 : 0 < vs.length) (hp : ∀ v ∈ vs, IsTrip s.heap v (k v)) (ha : ∀ o, s.heap.get? a = some o → o.cls ≠ .type "tuple") : SortableO prog w A s a vs fun v u => lex3 (k v) (k u) := by
  intro h' keep
  have hp' : ∀ v ∈ vs, IsTrip h' v (k v) := fun v hm => (hp v hm).keeps fun b o e c => keep b o (fun z => by subst z; exact ha o e c) e
  obtain ⟨fs, h1, h2, h3⟩ := trip_firsts fun v hm => ⟨_, hp' v hm⟩
  refine ⟨tuples' true, fun Q E hq => ?_, trip_cmp hp'⟩
  refine PySem.W.kat_kind (T := .type "int") h1 (by omega) (fun f hm => ?_) (by rfl) ?_
  · obtain ⟨x, t, rfl⟩ := h3 f hm
    exact PySem.W.Looks.now
  · have e : (Value.type "int" != Value.type "tuple") = true := by first | decide +kernel | rfl | decide
    rw [e]
    exact hq
theorem sorted_trips {l : Addr} {vs : List Value} {k : Value → I3} {Q : Value → Shared → Prop} (hl : s.heap.IsList l vs.toArray) (hz : vs.length ≤ sizeLine) (hp : ∀ v ∈ vs, IsTrip s.heap v (k v))
    (h : ∀ (h' : Heap) (d : Addr) (out : List Value), Srtd (fun v u => lex3 (k v) (k u)) out → out.Perm vs → (∀ b o, s.heap.get? b = some o → h'.get? b = some o) → s.heap.objs.size ≤ d → (∃ n, h'.get? d = some (seqObj "list" out.toArray n)) → Q (.ref d) { s with heap := h' }) :
    wpAny (model prog w) A (call (.builtin "sorted") [.ref l]) Q E s := by
  refine sorted_ord (swo3 k) hl hz (fun h2 h₁ a ha kk => ?_) fun out hs hb => ?_
  · refine trips_sortableO (s := { s with heap := h₁ }) (by omega) (fun v hm => (hp v hm).keeps fun b o e _ => (kk b o e).2) fun o e => ?_
    have e' : some o = some (seqObj "list" vs.toArray 0) := e.symm.trans ha
    cases e'
    intro c
    exact absurd (Value.type.inj c) (by decide)
  · exact h _ _ out hs hb.perm (fun b o e => PyProof.Rows.sortedAll_old e) (Nat.le_succ _) (PyProof.Rows.sortedAll_at s.heap vs out.toArray)
end
def k3 (h : Heap) (v : Value) : I3 := match TS.intsOf h v with
  | [x, y, z] => (x, y, z)
  | _ => (0, 0, 0)
abbrev T3 (K : PySem.W.Frag) (H : Hp) (x : V) (t : I3) : Prop := TupI K H x [t.1, t.2.1, t.2.2]
theorem paired_left {α β : Type} {F : α → β → Prop} {l : List α} {m : List β} (p : Paired F l m) : ∀ x ∈ l, ∃ y ∈ m, F x y := by
  induction p with
  | nil => intro x h; cases h
  | cons r t ih =>
    intro x h
    rcases List.mem_cons.mp h with rfl | h
    · exact ⟨_, List.mem_cons_self, r⟩
    · obtain ⟨y, h1, h2⟩ := ih x h
      exact ⟨y, List.mem_cons_of_mem _ h1, h2⟩
theorem cr_sort3 {X : Cx} : CallR X (.builtin "sorted") (fun vs H Q => ∃ (a : Addr) (xs : List V) (ts : List I3), vs = [V.ref a] ∧ SqL X.K H a xs ∧ Paired (T3 X.K H) xs ts ∧
    ∀ (ys : List V) (us : List I3) p, ys.Perm xs → Paired (T3 X.K H) ys us → us.Perm ts → us.Pairwise (fun x y => lex3 y x = false) → H p = none → Q (.ref p) (upd H p (.lst ys))) := by
  intro pins s σ H vs us Q I r h
  obtain ⟨a, xs, ts, rfl, hs, hx, q⟩ := h
  obtain ⟨its, rv, hl, hz⟩ := I.list hs
  rw [Vals.ref1 r]
  obtain ⟨e1, e2⟩ := bkV_refs rv fun x m => by
    obtain ⟨y, _, t, e, _⟩ := paired_left hx x m
    exact ⟨t, e⟩
  have k3_of : ∀ {t : Addr} {q : I3}, SqT X.K H t ([q.1, q.2.1, q.2.2].map V.int) → k3 s.heap (.ref t) = q ∧ IsTrip s.heap (.ref t) q := fun {t q} ht => by
    have ti := tupI_raw I ht
    refine ⟨by unfold k3; rw [ti.ints], ?_⟩
    obtain ⟨its2, rv2, ⟨o, h1, h2, n, h3⟩, _⟩ := I.tuple ht
    cases rv2 with
    | cons r1 rv2 => cases rv2 with
      | cons r2 rv2 => cases rv2 with
        | cons r3 rv2 =>
          cases rv2
          obtain ⟨t1, rfl⟩ := r1
          obtain ⟨t2, rfl⟩ := r2
          obtain ⟨t3, rfl⟩ := r3
          exact ⟨t, o, t1, t2, t3, n, rfl, h1, h2, h3⟩
  have hk : ∀ v ∈ its, ∃ (t : Addr) (y : I3), v = .ref t ∧ SqT X.K H t ([y.1, y.2.1, y.2.2].map V.int) ∧ k3 s.heap v = y := fun v hv => by
    obtain ⟨t, rfl⟩ := e2 v hv
    have hm : V.ref t ∈ xs := by
      rw [e1]
      exact List.mem_map.mpr ⟨_, hv, rfl⟩
    obtain ⟨y, _, t', e, ht⟩ := paired_left hx _ hm
    cases e
    exact ⟨t, y, rfl, ht, (k3_of ht).1⟩
  have hts : its.map (k3 s.heap) = ts := by
    have gen : ∀ {xs : List V} {its : List Value} {ts : List I3}, Vals xs its → Paired (T3 X.K H) xs ts → its.map (k3 s.heap) = ts := by
      intro xs its ts rv px
      induction rv generalizing ts with
      | nil => cases px; rfl
      | cons r1 rt ih =>
        cases px with
        | cons p1 pt =>
          obtain ⟨t, e, ht⟩ := p1
          subst e
          cases r1
          rw [List.map_cons, ih pt, (k3_of ht).1]
    exact gen rv hx
  refine sorted_trips (k := k3 s.heap) hl.isList (by rw [← rv.length]; exact hz) (fun v hv => ?_) fun h' d out h1 hp kp hd hat => ?_
  · obtain ⟨t, y, rfl, ht, e⟩ := hk v hv
    rw [e]
    exact (k3_of ht).2
  · obtain ⟨n, hat⟩ := hat
    have h3 : ∀ u ∈ out, ∃ a, u = Value.ref a := fun u hu => e2 u (hp.mem_iff.mp hu)
    have hlen : (out.map bkV).length ≤ sizeLine := by
      have e3 := rv.length
      have e4 := hp.length_eq
      rw [List.length_map]
      omega
    refine ⟨.ref d, upd H d (.lst (out.map bkV)), I.laid (t' := s.toks) kp hd ⟨hlen, out, n, bkV_vals h3, hat⟩, rfl, q _ (out.map (k3 s.heap)) d (by rw [e1]; exact hp.map bkV) ?_ ?_ ?_ (I.hok.fresh hd)⟩
    · have gen : ∀ l : List Value, (∀ u ∈ l, u ∈ its) → Paired (T3 X.K H) (l.map bkV) (l.map (k3 s.heap)) := by
        intro l
        induction l with
        | nil => intro _; exact .nil
        | cons u l ih =>
          intro hm
          refine .cons ?_ (ih fun v hv => hm v (List.mem_cons_of_mem _ hv))
          obtain ⟨t, y, rfl, ht, e⟩ := hk u (hm u List.mem_cons_self)
          rw [e]
          exact ⟨t, rfl, ht⟩
      exact gen out fun u hu => hp.mem_iff.mp hu
    · rw [← hts]
      exact hp.map _
    · exact List.pairwise_map.mpr h1
end MH
set_option Elab.async false
set_option linter.all false
set_option maxRecDepth 100000
/-! Primitives: the readings over stores are enough for the hand layer's. -/
namespace MH
open PySem L2 PyProof.Rows

def Post (K : PySem.W.Frag) (G : Gb) (A : Ad) (s : S) (H : Hp) (P : K1) (Q : VK) : Prop :=
  ∀ d s' v H', P d s' → Rel K G A s' H' → VR K H' d v → Sim s H s' H' → Q v H'
/-- two values -/
def R2A (K : PySem.W.Frag) (G : Gb) (A : Ad) (r : D → D → S → K1 → Prop) : R2 := fun x y H Q => ∃ d e s P, Rel K G A s H ∧ VR K H d x ∧ VR K H e y ∧ r d e s P ∧ Post K G A s H P Q
section
variable {X : Cx} {G : Gb} {A : Ad}
theorem post0 {K : PySem.W.Frag} {s : S} {H : Hp} {P : K1} {Q : VK} {d : D} {v : V} (q : Post K G A s H P Q) (r : Rel K G A s H) (vr : VR K H d v) (p : P d s) : Q v H := q d s v H p r vr (Sim.refl s H)
theorem post_new {K : PySem.W.Frag} {s : S} {H : Hp} {P : K1} {Q : VK} {o : O} {u : HO} (q : Post K G A s H P Q) (r : Rel K G A s H) (ro : RO K G A H o u) (p : ∀ a, s a = none → P (.ob a) (up s a o)) : ∀ a, H a = none → Q (.ref a) (upd H a u) := fun a h =>
  q _ _ _ _ (p a (r.free h)) (r.new' h ro) (.ob a) (Sim.new h)
theorem post_tup {K : PySem.W.Frag} {s : S} {H : Hp} {P : K1} {Q : VK} {l : List D} {xs : List V} (q : Post K G A s H P Q) (r : Rel K G A s H) (vr : VRs K H l xs) (p : P (.tup l) s) : ∀ a, H a = none → Q (.ref a) (upd H a (.tup xs)) := fun a h =>
  q _ _ _ _ p (r.put h) (.tup upd_same (vr.mono (TL.new h))) (Sim.put h)
theorem post_chg {K : PySem.W.Frag} {s : S} {H : Hp} {P : K1} {Q : VK} {a : Addr} {o o' : O} {u : HO} {d : D} {v : V} (q : Post K G A s H P Q) (r : Rel K G A s H) (h : s a = some o) (ro : RO K G A H o' u) (vr : VR K H d v) (p : P d (up s a o')) : Q v (upd H a u) :=
  q _ _ _ _ p (r.chg h ro) (vr.mono (r.tlc h)) (Sim.chg h)
theorem mulOk_ok {i j : Int} (h : mulOk i j) : IntMulOk i j := by
  rcases h with (h | h) | ⟨h, h'⟩
  · exact .of_left h
  · exact .of_right h
  · exact .of_bits h h'
theorem op_mulA : OpR X (binaryOp .Mult) (rI mulOk fun i j => .int (i * j)) := opI fun _ _ _ _ _ _ _ hc q => mul_int q (mulOk_ok hc)
theorem op_powA : OpR X (binaryOp .Pow) (rI (fun i j => 0 ≤ j ∧ (Builtin.Int.intBits i : Int) * j ≤ 2 ^ 27) fun i j => .int (i ^ j.toNat)) := opI fun _ _ _ _ _ _ _ hc q => pow_int hc.1 hc.2 q
theorem bin_ok (op : Operator) : OpR X (binaryOp op) (R2A X.K G A (rBin op)) := by
  intro pins s σ H x y v u Q I rx ry h
  obtain ⟨d, e, st, P, r, vd, ve, h, q⟩ := h
  cases op with
  | Add =>
    cases d with
    | int i =>
      cases e with
      | int j => exact op_add pins s σ H x y v u Q I rx ry ⟨i, j, vd.int_inv, ve.int_inv, post0 q r (.int _) h⟩
      | _ => exact False.elim h
    | str i =>
      cases e with
      | str j => exact op_add_str pins s σ H x y v u Q I rx ry ⟨i, j, vd.str_inv, ve.str_inv, h.1, post0 q r (.str _) h.2⟩
      | _ => exact False.elim h
    | tup l =>
      cases e with
      | tup m =>
        obtain ⟨a, xs, rfl, ha, vl⟩ := vd.tup_inv
        obtain ⟨b, ys, rfl, hb, vm⟩ := ve.tup_inv
        have l1 := vl.length
        have l2 := vm.length
        refine op_catA pins s σ H _ _ v u Q I rx ry ⟨a, b, xs, ys, rfl, rfl, SqT.of ha, SqT.of hb, by rw [← l1, ← l2]; exact h.1, fun e => ?_, fun _ e => ?_, fun _ _ => ?_⟩
        · subst e
          have : l = [] := List.eq_nil_of_length_eq_zero l1
          subst this
          exact post0 q r ve h.2
        · subst e
          have : m = [] := List.eq_nil_of_length_eq_zero l2
          subst this
          refine post0 q r vd ?_
          have := h.2
          rwa [List.append_nil] at this
        · exact post_tup q r (vl.append vm) h.2
      | _ => exact False.elim h
    | ob a =>
      cases e with
      | ob b =>
        obtain ⟨l, m, h1, h2, hz, h3⟩ := h
        obtain ⟨xs, e1, vl⟩ := r.lst h1
        obtain ⟨ys, e2, vm⟩ := r.lst h2
        exact op_cat pins s σ H _ _ v u Q I rx ry ⟨a, b, xs, ys, vd.ob_inv, ve.ob_inv, e1, e2, by rw [← vl.length, ← vm.length]; exact hz, post_new q r (.lst (vl.append vm)) h3⟩
      | _ => exact False.elim h
    | _ => exact False.elim h
  | Sub =>
    cases d with
    | int i =>
      cases e with
      | int j => exact op_sub pins s σ H x y v u Q I rx ry ⟨i, j, vd.int_inv, ve.int_inv, post0 q r (.int _) h⟩
      | _ => exact False.elim h
    | _ => exact False.elim h
  | Mult =>
    cases d with
    | int i =>
      cases e with
      | int j => exact op_mulA pins s σ H x y v u Q I rx ry ⟨i, j, vd.int_inv, ve.int_inv, h.1, post0 q r (.int _) h.2⟩
      | _ => exact False.elim h
    | ob a =>
      cases e with
      | int k =>
        obtain ⟨l, h1, k1, k2, hz, h3⟩ := h
        obtain ⟨xs, e1, vl⟩ := r.lst h1
        exact op_rep pins s σ H _ _ v u Q I rx ry ⟨a, k, xs, vd.ob_inv, ve.int_inv, e1, k1, k2, by rw [← vl.length]; exact hz, post_new q r (.lst (vl.rep _)) h3⟩
      | _ => exact False.elim h
    | _ => exact False.elim h
  | FloorDiv =>
    cases d with
    | int i =>
      cases e with
      | int j => exact op_fdiv pins s σ H x y v u Q I rx ry ⟨i, j, vd.int_inv, ve.int_inv, h.1, post0 q r (.int _) h.2⟩
      | _ => exact False.elim h
    | _ => exact False.elim h
  | Mod =>
    cases d with
    | int i =>
      cases e with
      | int j => exact op_mod pins s σ H x y v u Q I rx ry ⟨i, j, vd.int_inv, ve.int_inv, h.1, post0 q r (.int _) h.2⟩
      | _ => exact False.elim h
    | _ => exact False.elim h
  | Pow =>
    cases d with
    | int i =>
      cases e with
      | int j => exact op_powA pins s σ H x y v u Q I rx ry ⟨i, j, vd.int_inv, ve.int_inv, h.1, post0 q r (.int _) h.2⟩
      | _ => exact False.elim h
    | _ => exact False.elim h
  | _ => exact False.elim h

theorem eqS_scal {K : PySem.W.Frag} {H : Hp} {d e : D} {x y : V} {b : Bool} (vd : VR K H d x) (ve : VR K H e y) (h : eqS d e = some b) : scal x y = true ∧ decide (x = y) = b := by
  cases vd <;> cases ve <;> first | (cases h; done) | skip
  all_goals (cases h)
  all_goals (refine ⟨rfl, ?_⟩)
  all_goals first | rfl | (simp; done) | (exact decide_eq_decide.mpr ⟨fun z => by cases z; rfl, fun z => by rw [z]⟩)
theorem eqv_ok (hu : X.A.units + 64 < cLine) : OpR X (compareOp .Eq) (R2A X.K G A (rEqv false)) := by
  intro pins s σ H x y v u Q I rx ry h
  obtain ⟨d, e, st, P, r, vd, ve, ⟨p, q', h1, h2, s1, s2, h3⟩ | ⟨h0, _⟩, q⟩ := h
  case inr => cases h0
  exact op_eqD hu pins s σ H x y v u Q I rx ry ⟨p, q', PyDp r vd h1, PyDp r ve h2, s1, s2, post0 q r (.bl _) h3⟩
theorem nev_ok (hu : X.A.units + 64 < cLine) : OpR X (compareOp .NotEq) (R2A X.K G A (rEqv true)) := by
  intro pins s σ H x y v u Q I rx ry h
  obtain ⟨d, e, st, P, r, vd, ve, ⟨p, q', h1, h2, s1, s2, h3⟩ | ⟨_, ad, bd, l, rfl, rfl, ha, hb, hne, hq⟩, q⟩ := h
  case inr =>
    obtain ⟨u1, e1, r1⟩ := r ad _ ha
    obtain ⟨u2, e2, r2⟩ := r bd _ hb
    cases r1 with
    | lst v1 =>
    cases r2 with
    | lst v2 =>
    cases vd; cases ve; cases v2
    cases rx; cases ry
    obtain ⟨its1, w1, l1, _⟩ := I.list (SqL.of e1)
    obtain ⟨its2, w2, l2, _⟩ := I.list (SqL.of e2)
    refine SeqAt.RcNeAt.lists_lengths l1.isList l2.isList ?_ (by omega) _ _ _ _ ⟨.bl true, H, I, rfl, post0 q r (.bl _) hq⟩
    cases w2
    have hl1 := v1.length
    cases l with
    | nil => exact absurd rfl hne
    | cons d0 l0 =>
      cases v1
      cases w1
      rfl
  exact op_neD hu pins s σ H x y v u Q I rx ry ⟨p, q', PyDp r vd h1, PyDp r ve h2, s1, s2, post0 q r (.bl _) h3⟩
theorem isn_bl {K : PySem.W.Frag} {H : Hp} {d : D} {x : V} (vd : VR K H d x) : decide (x = V.non) = isNon d := by
  cases vd <;> simp [isNon]
theorem int2_ok {op : CmpOp} {p : Int → Int → Bool} (ho : OpR X (compareOp op) (rI0 fun i j => .bl (p i j))) : OpR X (compareOp op) (R2A X.K G A (rInt2 p)) := by
  intro pins s σ H x y v u Q I rx ry h
  obtain ⟨d, e, st, P, r, vd, ve, h, q⟩ := h
  cases d with
  | int i =>
    cases e with
    | int j => exact ho pins s σ H x y v u Q I rx ry ⟨i, j, vd.int_inv, ve.int_inv, post0 q r (.bl _) h⟩
    | _ => exact False.elim h
  | _ => exact False.elim h
theorem cmp_ok (hr : X.A.units + 65 < cLine) (op : CmpOp) : OpR X (compareOp op) (R2A X.K G A (rCmp op)) := by
  intro pins s σ H x y v u Q I rx ry h
  obtain ⟨d, e, st, P, r, vd, ve, h, q⟩ := h
  have hu : X.A.units + 64 < cLine := by omega
  cases op with
  | Eq =>
    have h : rEq false d e st P := h
    unfold rEq at h
    split at h
    · rename_i b hb
      obtain ⟨h1, h2⟩ := eqS_scal vd ve hb
      exact op_eq pins s σ H x y v u Q I rx ry ⟨h1, by rw [h2]; exact post0 q r (.bl _) h⟩
    · exact eqv_ok hu pins s σ H x y v u Q I rx ry ⟨d, e, st, P, r, vd, ve, h, q⟩
  | NotEq =>
    have h : rEq true d e st P := h
    unfold rEq at h
    split at h
    · rename_i b hb
      obtain ⟨h1, h2⟩ := eqS_scal vd ve hb
      exact op_ne pins s σ H x y v u Q I rx ry ⟨h1, by rw [h2]; exact post0 q r (.bl _) h⟩
    · exact nev_ok hu pins s σ H x y v u Q I rx ry ⟨d, e, st, P, r, vd, ve, h, q⟩
  | Lt => exact int2_ok op_lt pins s σ H x y v u Q I rx ry ⟨d, e, st, P, r, vd, ve, h, q⟩
  | LtE => exact int2_ok op_le pins s σ H x y v u Q I rx ry ⟨d, e, st, P, r, vd, ve, h, q⟩
  | Gt => exact int2_ok op_gt pins s σ H x y v u Q I rx ry ⟨d, e, st, P, r, vd, ve, h, q⟩
  | GtE => exact int2_ok op_ge pins s σ H x y v u Q I rx ry ⟨d, e, st, P, r, vd, ve, h, q⟩
  | Is =>
    have h : rIs false d e st P := h
    cases e with
    | non => exact op_isN pins s σ H x y v u Q I rx ry ⟨ve.non_inv, by rw [isn_bl vd]; exact post0 q r (.bl _) h⟩
    | bl b =>
      obtain ⟨a, rfl, hh⟩ := h
      exact op_isBl pins s σ H x y v u Q I rx ry ⟨a, b, vd.bl_inv, ve.bl_inv, post0 q r (.bl _) hh⟩
    | _ => exact False.elim h
  | IsNot =>
    have h : rIs true d e st P := h
    cases e with
    | non => exact op_notN pins s σ H x y v u Q I rx ry ⟨ve.non_inv, by rw [isn_bl vd]; exact post0 q r (.bl _) h⟩
    | bl b =>
      obtain ⟨a, rfl, hh⟩ := h
      exact op_notBl pins s σ H x y v u Q I rx ry ⟨a, b, vd.bl_inv, ve.bl_inv, post0 q r (.bl _) hh⟩
    | _ => exact False.elim h
  | In =>
    have h : rIn false d e st P := h
    cases e with
    | str z =>
      obtain ⟨c, rfl, hh⟩ := h
      exact op_in_sign pins s σ H x y v u Q I rx ry ⟨c, z, vd.str_inv, ve.str_inv, post0 q r (.bl _) hh⟩
    | ob a =>
      cases ve
      cases (show u = Value.ref a from ry)
      rcases h with ⟨o, hg, h⟩ | ⟨p, ps, h1, h2, s1, s2, h⟩
      · obtain ⟨w, g, g1, g2⟩ := dGet_rel r vd hg
        have ew : w.isSome = o.isSome := by
          cases o with
          | none => rw [g2 rfl] <;> rfl
          | some d' => obtain ⟨x', e', _⟩ := g1 d' rfl; rw [e'] <;> rfl
        refine d_in (by omega) I g rx fun s' I' => ⟨.bl w.isSome, H, I', rfl, ?_⟩
        rw [ew]
        exact post0 q r (.bl _) h
      · exact op_inD hr pins s σ H x _ v _ Q I rx ry ⟨p, ps, PyDp r vd h1, PyDp r (.ob a) h2, s1, s2, post0 q r (.bl _) h⟩
    | tup l =>
      obtain ⟨_, p, ps, h1, h2, s1, s2, h⟩ := h
      obtain ⟨as, r1⟩ := Dp.reads I p x v (PyDp r vd h1) rx
      obtain ⟨bs, r2⟩ := Dp.reads I (.tuple ps) y u (PyDp r ve (.tup h2)) ry
      exact SeqAt.in_tuple_reads r2 r1 (SeqAt.canLay_of_shaped s2) (SeqAt.canLay_of_shaped s1) (room_in_shaped s1 hr) ⟨.bl _, H, I, rfl, post0 q r (.bl _) h⟩
    | _ => exact False.elim h
  | NotIn =>
    have h : rIn true d e st P := h
    cases e with
    | str z =>
      obtain ⟨c, rfl, hh⟩ := h
      exact op_notIn_sign pins s σ H x y v u Q I rx ry ⟨c, z, vd.str_inv, ve.str_inv, post0 q r (.bl _) hh⟩
    | ob a =>
      cases ve
      cases (show u = Value.ref a from ry)
      rcases h with ⟨o, hg, h⟩ | ⟨p, ps, h1, h2, s1, s2, h⟩
      · obtain ⟨w, g, g1, g2⟩ := dGet_rel r vd hg
        have ew : w.isSome = o.isSome := by
          cases o with
          | none => rw [g2 rfl] <;> rfl
          | some d' => obtain ⟨x', e', _⟩ := g1 d' rfl; rw [e'] <;> rfl
        refine d_notIn (by omega) I g rx fun s' I' => ⟨.bl (!w.isSome), H, I', rfl, ?_⟩
        rw [ew]
        exact post0 q r (.bl _) h
      · exact op_notInD hr pins s σ H x _ v _ Q I rx ry ⟨p, ps, PyDp r vd h1, PyDp r (.ob a) h2, s1, s2, post0 q r (.bl _) h⟩
    | tup l => exact absurd h.1 (by decide)
    | _ => exact False.elim h
end
end MH
set_option Elab.async false
set_option linter.all false
set_option maxRecDepth 100000
/-! Primitives, continued: subscripts, slices, built-ins, stores. -/
namespace MH
open PySem L2 PyProof.Rows
section
variable {X : Cx} {G : Gb} {A : Ad}
theorem ix_dict (hu : X.A.units + 1 < cLine) : IxR X (fun x y H Q => ∃ a v, x = .ref a ∧ DGet H a y (some v) ∧ Q v H) := by
  intro value slice pins s σ H x y v u Q I rx ry h hs
  obtain ⟨a, z, rfl, g, q⟩ := h
  cases rx
  have hT := dict_typeIs I g
  unfold subscriptTail
  refine wpAny_bind ?_
  rw [getitemInPython_of_ne hT.not_modules]
  refine wpAny_bind (wpAny_specialOf hT PySem.F.slot_dict_getitem.lookup ?_)
  have fin : wpAny (model X.prog X.w) X.A (subscripted slice false (.ref a) u) (fun r s₃ => wpAny (model X.prog X.w) X.A (letTemporaryGo value (.ref a) r >>= fun _ => pure r) (EP X pins σ Q) X.xe s₃) X.xe s := by
    rw [hs]
    exact wpAny_operating (d_getItem hu I g ry fun w' s3 I3 rw' => wpAny_bind (wpAny_letTemporaryGo (wpAny_pure ⟨z, H, I3, rw', q⟩)))
  first
    | exact wpAny_pure (wpAny_bind fin)
    | exact wpAny_bind (wpAny_pure (wpAny_bind fin))
    | exact wpAny_bind fin
theorem atD_rel {K : PySem.W.Frag} {H : Hp} {l : List D} {xs : List V} {i : Int} {d : D} (vr : VRs K H l xs) (h : atD l i = some d) : ∃ v, atI xs i = some v ∧ VR K H d v := by
  unfold atD atI at h
  rw [vr.length] at h
  unfold atI
  cases e : ixN xs.length i with
  | none => rw [e] at h; cases h
  | some j =>
    rw [e] at h
    obtain ⟨v, h1, h2⟩ := vr.get (show l[j]? = some d from h)
    exact ⟨v, h1, h2⟩
theorem idx_ok (hu : X.A.units + 1 < cLine) : IxR X (R2A X.K G A rIdx) := by
  intro value slice pins s σ H x y v u Q I rx ry h hs
  obtain ⟨d, e, st, P, r, vd, ve, h, q⟩ := h
  have h : rIdx d e st P := h
  unfold rIdx at h
  cases d with
  | str z =>
    obtain ⟨i, c, rfl, hz, hc, h⟩ := h
    exact ix_str value slice pins s σ H x y v u Q I rx ry ⟨z, i, c, vd.str_inv, ve.int_inv, hz, hc, post0 q r (.str _) h⟩ hs
  | tup l =>
    obtain ⟨i, w, rfl, hw, h⟩ := h
    obtain ⟨a, xs, rfl, ha, vr⟩ := vd.tup_inv
    obtain ⟨z, h1, h2⟩ := atD_rel vr hw
    exact ix_tup value slice pins s σ H _ y v u Q I rx ry ⟨a, xs, i, z, rfl, ve.int_inv, SqT.of ha, h1, post0 q r h2 h⟩ hs
  | ro l =>
    obtain ⟨i, w, rfl, hw, h⟩ := h
    obtain ⟨a, xs, rfl, ha, vr⟩ := vd.ro_inv
    obtain ⟨z, h1, h2⟩ := atD_rel vr hw
    exact ix_list value slice pins s σ H _ y v u Q I rx ry ⟨a, xs, i, z, rfl, ve.int_inv, ha.sq, h1, post0 q r h2 h⟩ hs
  | ob a =>
    cases vd
    have dict : (∃ v, dGet st a e = some (some v) ∧ P v st) → wpAny (model X.prog X.w) X.A (subscriptTail value slice v u) (EP X pins σ Q) X.xe s := by
      rintro ⟨w, hg, h⟩
      obtain ⟨o, g, g1, _⟩ := dGet_rel r ve hg
      obtain ⟨z, e1, e2⟩ := g1 w rfl
      subst e1
      exact ix_dict hu value slice pins s σ H _ y v u Q I rx ry ⟨a, z, rfl, g, post0 q r e2 h⟩ hs
    simp only at h
    split at h
    · rename_i l hl
      obtain ⟨i, w, rfl, hw, h⟩ := h
      obtain ⟨xs, e1, vr⟩ := r.lst hl
      obtain ⟨z, h1, h2⟩ := atD_rel vr hw
      exact ix_list value slice pins s σ H _ y v u Q I rx ry ⟨a, xs, i, z, rfl, ve.int_inv, SqL.of e1, h1, post0 q r h2 h⟩ hs
    · exact dict h
  | _ => exact False.elim h
theorem cut_rel {K : PySem.W.Frag} {H : Hp} {l : List D} {xs : List V} (vr : VRs K H l xs) (lo hi : Option Int) : VRs K H (cutD l lo hi) (cutV xs lo hi) := by
  unfold cutD cutV
  rw [vr.length]
  exact (vr.drop _).take _
theorem slc_ok : SlR X (fun x lo hi H Q => ∃ d s P, Rel X.K G A s H ∧ VR X.K H d x ∧ rSlc d lo hi s P ∧ Post X.K G A s H P Q) := by
  intro pins s σ H x v vl vu lo hi sl Q I rx hs pl pu h
  obtain ⟨d, st, P, r, vd, h, q⟩ := h
  cases d with
  | str z =>
    exact sl_str pins s σ H x v vl vu lo hi sl Q I rx hs pl pu ⟨z, vd.str_inv, h.1, post0 q r (.str _) h.2⟩
  | tup l =>
    obtain ⟨a, xs, rfl, ha, vr⟩ := vd.tup_inv
    refine sl_tupA pins s σ H _ v vl vu lo hi sl Q I rx hs pl pu ⟨a, xs, rfl, SqT.of ha, fun hw => ?_, fun _ => post_tup q r (cut_rel vr lo hi) h⟩
    have e : cutD l lo hi = l := by
      unfold cutD
      rw [vr.length, hw.1, hw.2, List.drop_zero, Nat.sub_zero, ← vr.length, List.take_length]
    have h : P (.tup (cutD l lo hi)) st := h
    rw [e] at h
    exact post0 q r vd h
  | ro l =>
    obtain ⟨a, xs, rfl, ha, vr⟩ := vd.ro_inv
    exact sl_list pins s σ H _ v vl vu lo hi sl Q I rx hs pl pu ⟨a, xs, rfl, ha.sq, post_new q r (.lst (cut_rel vr lo hi)) h⟩
  | ob a =>
    cases vd
    obtain ⟨l, hl, h⟩ := h
    obtain ⟨xs, e1, vr⟩ := r.lst hl
    exact sl_list pins s σ H _ v vl vu lo hi sl Q I rx hs pl pu ⟨a, xs, rfl, SqL.of e1, post_new q r (.lst (cut_rel vr lo hi)) h⟩
  | _ => exact False.elim h

/-! ### built-ins -/
def RCA (K : PySem.W.Frag) (G : Gb) (A : Ad) (r : List D → S → K1 → Prop) : List V → Hp → VK → Prop := fun xs H Q => ∃ ds s P, Rel K G A s H ∧ VRs K H ds xs ∧ r ds s P ∧ Post K G A s H P Q
theorem len_ok : CallR X (.builtin "len") (RCA X.K G A (rBlt .len)) := by
  intro pins s σ H xs us Q I rr h
  obtain ⟨ds, st, P, r, vr, h, q⟩ := h
  match ds, vr, h with
  | [d], .cons vd .nil, h =>
    have seq : (∃ l, seqOf st d = some l ∧ P (.int l.length) st) → wpAny (model X.prog X.w) X.A (call (.builtin "len") us) (EP X pins σ Q) X.xe s := by
      rintro ⟨l, hl, h⟩
      obtain ⟨a, ys, e, vl, hsq⟩ := seq_rd r vd hl
      refine call_len_seq pins s σ H _ us Q I rr ⟨a, ys, by rw [e], hsq, ?_⟩
      rw [← vl.length]
      exact post0 q r (.int _) h
    cases d with
    | str z => exact call_len_str pins s σ H _ us Q I rr ⟨z, by rw [vd.str_inv], h.1, post0 q r (.int _) h.2⟩
    | _ => exact seq h
  | [], .nil, h => exact False.elim h
  | _ :: _ :: _, .cons _ (.cons _ _), h => exact False.elim (by unfold rBlt at h; split at h <;> simp_all)
theorem list_ok : CallR X (.type "list") (RCA X.K G A (rBlt .list)) := by
  intro pins s σ H xs us Q I rr h
  obtain ⟨ds, st, P, r, vr, h, q⟩ := h
  match ds, vr, h with
  | [d], .cons vd .nil, h =>
    obtain ⟨l, hl, h⟩ := h
    obtain ⟨a, ys, e, vl, hsq⟩ := seq_rd r vd hl
    exact call_list_of pins s σ H _ us Q I rr ⟨a, ys, by rw [e], hsq, post_new q r (.lst vl) h⟩
theorem tuple_ok : CallR X (.type "tuple") (RCA X.K G A (rBlt .tuple)) := by
  intro pins s σ H xs us Q I rr h
  obtain ⟨ds, st, P, r, vr, h, q⟩ := h
  match ds, vr, h with
  | [.ob a], .cons vd .nil, h =>
    obtain ⟨l, hl, h⟩ := h
    obtain ⟨ys, e1, vl⟩ := r.lst hl
    exact call_tuple_of pins s σ H _ us Q I rr ⟨a, ys, by rw [vd.ob_inv], .inl ⟨SqL.of e1, post_tup q r vl h⟩⟩
theorem dict_ok : CallR X (.type "dict") (RCA X.K G A (rBlt .dict)) := by
  intro pins s σ H xs us Q I rr h
  obtain ⟨ds, st, P, r, vr, h, q⟩ := h
  match ds, vr, h with
  | [.ob a], .cons vd .nil, h =>
    obtain ⟨l, hl, h⟩ := h
    obtain ⟨ys, e1, vl⟩ := r.dK hl
    exact call_dictD pins s σ H _ us Q I rr ⟨a, ys, by rw [vd.ob_inv], .inl e1, post_new q r (.dK vl) h⟩
theorem all_ok (hc : X.calm = true) : CallR X (.builtin "all") (RCA X.K G A (rBlt .all)) := by
  intro pins s σ H xs us Q I rr h
  obtain ⟨ds, st, P, r, vr, h, q⟩ := h
  match ds, vr, h with
  | [.ob a], .cons vd .nil, h =>
    obtain ⟨bs, hl, h⟩ := h
    obtain ⟨ys, e1, vl⟩ := r.lst hl
    rw [vl.bls] at e1
    exact cr_all hc pins s σ H _ us Q I rr ⟨a, bs, by rw [vd.ob_inv], SqL.of e1, post0 q r (.bl _) h⟩
theorem trips_rel {K : PySem.W.Frag} {H : Hp} : ∀ {ts : List I3} {xs : List V}, VRs K H (ts.map fun t => .tup [.int t.1, .int t.2.1, .int t.2.2]) xs → Paired (T3 K H) xs ts
  | [], _, .nil => .nil
  | t :: ts, _, .cons vd q => by
    obtain ⟨a, ys, rfl, ha, vr⟩ := vd.tup_inv
    have e := VRs.ints (ns := [t.1, t.2.1, t.2.2]) vr
    subst e
    exact .cons ⟨a, rfl, SqT.of ha⟩ (trips_rel q)
/-- two readings of a tracked tuple: only those that H tracks by itself come back -/
theorem trips_back {K : PySem.W.Frag} {H : Hp} : ∀ {ts : List I3} {xs : List V}, Paired (T3 K H) xs ts → (∀ x ∈ xs, ∃ a ys, x = .ref a ∧ H a = some (.tup ys)) → (∀ (a : Addr) (ys zs : List V), H a = some (.tup ys) → SqT K H a zs → ys = zs) → VRs K H (ts.map fun t => .tup [.int t.1, .int t.2.1, .int t.2.2]) xs
  | _, _, .nil, _, _ => .nil
  | _, _, .cons h p, hx, hu => by
    obtain ⟨a, rfl, hs⟩ := h
    obtain ⟨a', ys, e, ha⟩ := hx _ List.mem_cons_self
    cases e
    have e := hu _ _ _ ha hs
    subst e
    exact .cons (.tup ha (VRs.of_ints (ns := [_, _, _]))) (trips_back p (fun x hm => hx x (List.mem_cons_of_mem _ hm)) hu)
theorem lex3_I (x y : I3) : lex3 x y = lexI [x.1, x.2.1, x.2.2] [y.1, y.2.1, y.2.2] := by
  unfold lex3 lexI lexI lexI lexI
  by_cases h1 : x.1 = y.1
  · rw [if_pos h1, if_pos h1]
    by_cases h2 : x.2.1 = y.2.1
    · rw [if_pos h2, if_pos h2]
      by_cases h3 : x.2.2 = y.2.2
      · rw [if_pos h3, h3]; exact decide_eq_false (Int.lt_irrefl _)
      · rw [if_neg h3]
    · rw [if_neg h2, if_neg h2]
  · rw [if_neg h1, if_neg h1]
theorem sorted_ok : CallR X (.builtin "sorted") (RCA X.K G A (rBlt .sorted)) := by
  intro pins s σ H xs us Q I rr h
  obtain ⟨ds, st, P, r, vr, h, q⟩ := h
  match ds, vr, h with
  | [.ob a], .cons vd .nil, h =>
    obtain ⟨ts, hl, h⟩ := h
    obtain ⟨ys, e1, vl⟩ := r.lst hl
    have pr := trips_rel vl
    have tr : ∀ x ∈ ys, ∃ a zs, x = .ref a ∧ H a = some (.tup zs) := by
      have gen : ∀ {ts : List I3} {ys : List V}, VRs X.K H (ts.map fun t => .tup [.int t.1, .int t.2.1, .int t.2.2]) ys → ∀ x ∈ ys, ∃ a zs, x = .ref a ∧ H a = some (.tup zs) := by
        intro ts
        induction ts with
        | nil => intro ys q x hx; cases q; cases hx
        | cons t ts ih =>
          intro ys q x hx
          cases q with
          | cons q1 q2 =>
            rcases List.mem_cons.mp hx with rfl | hx
            · obtain ⟨a, zs, e, ha, _⟩ := q1.tup_inv
              exact ⟨a, zs, e, ha⟩
            · exact ih q2 x hx
      exact gen vl
    refine cr_sort3 pins s σ H _ us Q I rr ⟨a, ys, ts, by rw [vd.ob_inv], SqL.of e1, pr, fun zs us' p hpz hp hperm hso hn => ?_⟩
    have hz : ∀ x ∈ zs, ∃ a ws, x = .ref a ∧ H a = some (.tup ws) := fun x hx => tr x (hpz.mem_iff.mp hx)
    refine post_new q r (.lst (trips_back hp hz fun a ws vs h1 h2 => I.tuple_inj (SqT.of h1) h2)) (fun p' hp' => h us' p' hperm ?_ hp') p hn
    exact hso.imp fun {x y} hxy => by rw [← lex3_I]; exact hxy
end
end MH
set_option Elab.async false
set_option linter.all false
set_option maxRecDepth 100000
/-! Primitives, continued: ints, isinstance, methods of built-ins, stores. -/
namespace MH
open PySem L2 PyProof.Rows
section
variable {X : Cx} {G : Gb} {A : Ad}
theorem max_ok (hc : X.calm = true) : CallR X (.builtin "max") (RCA X.K G A (rBlt .max)) := by
  intro pins s σ H xs us Q I rr h
  obtain ⟨ds, st, P, r, vr, h, q⟩ := h
  match ds, vr, h with
  | [.int i, .int j], vr, h =>
    obtain ⟨v, u, rfl, v1, v2⟩ := vr.two
    exact call_max2 hc pins s σ H _ us Q I rr ⟨i, j, by rw [v1.int_inv, v2.int_inv], post0 q r (.int _) h⟩
theorem int_ok : CallR X (.type "int") (RCA X.K G A (rBlt .int)) := by
  intro pins s σ H xs us Q I rr h
  obtain ⟨ds, st, P, r, vr, h, q⟩ := h
  match ds, vr, h with
  | [.int i], .cons vd .nil, h => exact call_int1 pins s σ H _ us Q I rr (.inl ⟨i, by rw [vd.int_inv], post0 q r (.int _) h⟩)
  | [.bl i], .cons vd .nil, h => exact call_int1 pins s σ H _ us Q I rr (.inr ⟨i, by rw [vd.bl_inv], post0 q r (.int _) h⟩)
theorem abs_ok : CallR X (.builtin "abs") (RCA X.K G A (rBlt .abs)) := by
  intro pins s σ H xs us Q I rr h
  obtain ⟨ds, st, P, r, vr, h, q⟩ := h
  match ds, vr, h with
  | [.int i], .cons vd .nil, h => exact call_abs pins s σ H _ us Q I rr ⟨i, by rw [vd.int_inv], post0 q r (.int _) h⟩

/-! ### isinstance -/
def tyN : Ty → String
  | .int => "int" | .bool => "bool" | .str => "str" | .tuple => "tuple" | .list => "list"
theorem kit_one {K : PySem.W.Frag} {H : Hp} {s : S} {d : D} {x : V} {t : Ty} {b : Bool} (r : Rel K G A s H) (vd : VR K H d x) (h : isT s d t = some b) : ∃ ty, TyX K H x ty ∧ PySem.W.kitOne K ty (.type (tyN t)) = some b ∧ ∀ t' b', isT s d t' = some b' → PySem.W.kitOne K ty (.type (tyN t')) = some b' := by
  have fin : ∀ {ty : String} (f : Ty → Bool), TyX K H x (.type ty) → (∀ t, kitB ty (tyN t) = some (f t)) → (∀ t b, isT s d t = some b → b = f t) → ∃ ty, TyX K H x ty ∧ PySem.W.kitOne K ty (.type (tyN t)) = some b ∧ ∀ t' b', isT s d t' = some b' → PySem.W.kitOne K ty (.type (tyN t')) = some b' := fun {ty} f hx hk hb =>
    ⟨_, hx, by rw [hb t b h]; exact kit_ty (hk t), fun t' b' h' => by rw [hb t' b' h']; exact kit_ty (hk t')⟩
  cases vd with
  | non => exact fin (ty := "NoneType") (fun _ => false) (.base .non) (fun t => by cases t <;> decide +kernel) (fun t b h => by cases h; rfl)
  | bl c => exact fin (ty := "bool") (fun t => t == .bool || t == .int) (.base (.bl c)) (fun t => by cases t <;> decide +kernel) (fun t b h => by cases h; rfl)
  | int i => exact fin (ty := "int") (fun t => t == .int) (.base (.int i)) (fun t => by cases t <;> decide +kernel) (fun t b h => by cases h; rfl)
  | str z => exact fin (ty := "str") (fun t => t == .str) (.base (.str z)) (fun t => by cases t <;> decide +kernel) (fun t b h => by cases h; rfl)
  | tup ha _ => exact fin (ty := "tuple") (fun t => t == .tuple) (.base (.tup ha)) (fun t => by cases t <;> decide +kernel) (fun t b h => by cases h; rfl)
  | ro _ _ => cases h
  | ob a =>
    cases e : s a with
    | none =>
      have h' : (match s a with | some (.lst _) => some (t == .list) | some (.dK _) => some false | _ => none) = some b := h
      rw [e] at h'; cases h'
    | some o =>
      obtain ⟨u, hu, ro⟩ := r a o e
      cases ro with
      | lst _ =>
        refine fin (ty := "list") (fun t => t == .list) (.base (.lst hu)) (fun t => by cases t <;> decide +kernel) (fun t b h => ?_)
        have h' : (match s a with | some (.lst _) => some (t == .list) | some (.dK _) => some false | _ => none) = some b := h
        rw [e] at h'
        exact (Option.some.inj h').symm
      | dK _ =>
        refine fin (ty := "dict") (fun t => false) (.base (.dK hu)) (fun t => by cases t <;> decide +kernel) (fun t b h => ?_)
        have h' : (match s a with | some (.lst _) => some (t == .list) | some (.dK _) => some false | _ => none) = some b := h
        rw [e] at h'
        exact (Option.some.inj h').symm
      | _ =>
        have h' : (match s a with | some (.lst _) => some (t == .list) | some (.dK _) => some false | _ => none) = some b := h
        rw [e] at h'; cases h'
theorem isi_one {t : Ty} : CallR X (.builtin "isinstance") (fun xs H Q => ∃ d x s P b, xs = [x, .ty (tyN t)] ∧ Rel X.K G A s H ∧ VR X.K H d x ∧ isTs s d [t] = some b ∧ P (.bl b) s ∧ Post X.K G A s H P Q) := by
  intro pins s σ H xs us Q I rr h
  obtain ⟨d, x, st, P, b, rfl, r, vd, h, hp, q⟩ := h
  have h1 : isT st d t = some b := by
    unfold isTs at h
    split at h
    · rename_i e; cases h; exact e
    · rename_i e; cases h; exact e
    · cases h
  obtain ⟨ty, h2, h3, _⟩ := kit_one r vd h1
  exact call_isi pins s σ H _ us Q I rr ⟨x, .ty (tyN t), ty, _, b, rfl, .ty _, h2, h3, post0 q r (.bl _) hp⟩
theorem kits {K : PySem.W.Frag} {s : S} {d : D} {ty : Value} (h : ∀ t' b', isT s d t' = some b' → PySem.W.kitOne K ty (.type (tyN t')) = some b') : ∀ {ts : List Ty} {b : Bool}, isTs s d ts = some b → PySem.W.kitAny K ty (ts.map fun t => .type (tyN t)) = some b
  | [], b, e => by cases e; exact kitAny_nil
  | t :: ts, b, e => by
    unfold isTs at e
    split at e
    · rename_i e1
      cases e
      exact kitAny_cons (h _ _ e1) (fun z => nomatch z) fun _ => rfl
    · rename_i e1
      exact kitAny_cons (h _ _ e1) (fun _ => kits h e) fun z => nomatch z
    · cases e
theorem isi_many {ts : List Ty} : CallR X (.builtin "isinstance") (fun xs H Q => ∃ d x tp s P b, xs = [x, .ref tp] ∧ H tp = some (.tup (ts.map fun t => V.ty (tyN t))) ∧ ts ≠ [] ∧ Rel X.K G A s H ∧ VR X.K H d x ∧ isTs s d ts = some b ∧ P (.bl b) s ∧ Post X.K G A s H P Q) := by
  intro pins s σ H xs us Q I rr h
  obtain ⟨d, x, tp, st, P, b, rfl, ht, hne, r, vd, h, hp, q⟩ := h
  have hc : ∀ ts : List Ty, Paired ClsV (ts.map fun t => V.ty (tyN t)) (ts.map fun t => Value.type (tyN t)) := by
    intro ts
    induction ts with
    | nil => exact .nil
    | cons t ts ih => exact .cons (.ty _) ih
  match ts, hne, h with
  | t :: ts, _, h =>
    obtain ⟨b1, h1⟩ : ∃ b1, isT st d t = some b1 := by
      unfold isTs at h
      split at h
      · exact ⟨_, by assumption⟩
      · exact ⟨_, by assumption⟩
      · cases h
    obtain ⟨ty, h2, h3, h4⟩ := kit_one r vd h1
    exact call_isiT pins s σ H _ us Q I rr ⟨x, tp, _, ty, _, b, rfl, ht, hc _, h2, kits h4 h, post0 q r (.bl _) hp⟩

/-! ### methods of built-ins -/
def RMA (K : PySem.W.Frag) (G : Gb) (A : Ad) (m : Bm) : V → List V → Hp → VK → Prop := fun x xs H Q => ∃ d ds s P, Rel K G A s H ∧ VR K H d x ∧ VRs K H ds xs ∧ rBm m d ds s P ∧ Post K G A s H P Q
theorem append_ok : MtR X "list.append" (RMA X.K G A .append) := by
  intro pins s σ H x xs v us Q I rx rr h
  obtain ⟨d, ds, st, P, r, vd, vr, h, q⟩ := h
  match d, ds, vr, h with
  | .ob a, [y], .cons vy .nil, h =>
    obtain ⟨l, hl, hz, h⟩ := h
    obtain ⟨ys, e1, vl⟩ := r.lst hl
    exact mt_append pins s σ H x _ v us Q I rx rr ⟨a, ys, _, vd.ob_inv, rfl, e1, by rw [← vl.length]; exact hz, post_chg q r hl (.lst (vl.append (.cons vy .nil))) .non h⟩
theorem extend_ok : MtR X "list.extend" (RMA X.K G A .extend) := by
  intro pins s σ H x xs v us Q I rx rr h
  obtain ⟨d, ds, st, P, r, vd, vr, h, q⟩ := h
  match d, ds, vr, h with
  | .ob a, [.ob b], .cons vy .nil, h =>
    obtain ⟨l, m, hl, hm, hz, h⟩ := h
    obtain ⟨ys, e1, vl⟩ := r.lst hl
    obtain ⟨zs, e2, vm⟩ := r.lst hm
    exact mt_extend pins s σ H x _ v us Q I rx rr ⟨a, b, ys, zs, vd.ob_inv, by rw [vy.ob_inv], e1, e2, by rw [← vl.length, ← vm.length]; exact hz, post_chg q r hl (.lst (vl.append vm)) .non h⟩
theorem pop_ok : MtR X "list.pop" (RMA X.K G A .pop) := by
  intro pins s σ H x xs v us Q I rx rr h
  obtain ⟨d, ds, st, P, r, vd, vr, h, q⟩ := h
  match d, ds, vr, h with
  | .ob a, [.int i], .cons vy .nil, h =>
    obtain ⟨l, y, hl, h0, h1, hy, h⟩ := h
    obtain ⟨ys, e1, vl⟩ := r.lst hl
    obtain ⟨w, hw, vw⟩ := vl.get hy
    have hlt : i.toNat < ys.length := (List.getElem?_eq_some_iff.mp hw).1
    refine mt_popAt pins s σ H x _ v us Q I rx rr ⟨a, ys, i, i.toNat, w, vd.ob_inv, by rw [vy.int_inv], e1, by omega, h1, seqIndex_of h0 (by omega), hw, post_chg q r hl (.lst (vl.erase _)) vw h⟩
theorem insert_ok : MtR X "list.insert" (RMA X.K G A .insert) := by
  intro pins s σ H x xs v us Q I rx rr h
  obtain ⟨d, ds, st, P, r, vd, vr, h, q⟩ := h
  match d, ds, vr, h with
  | .ob a, [.int i, y], vr, h =>
    obtain ⟨v1, v2, rfl, vi, vy⟩ := vr.two
    obtain ⟨l, hl, hz, h0, h1, h⟩ := h
    obtain ⟨ys, e1, vl⟩ := r.lst hl
    refine mt_insert pins s σ H x _ v us Q I rx rr ⟨a, ys, i, v2, vd.ob_inv, by rw [vi.int_inv], e1, by rw [← vl.length]; exact hz, h0, h1, ?_⟩
    rw [List.append_assoc]
    exact post_chg q r hl (.lst ((vl.take _).append (.cons vy (vl.drop _)))) .non h
theorem mt_get2 (hu : X.A.units + 1 < cLine) : MtR X "dict.get" (fun x xs H Q => ∃ a y d o, x = .ref a ∧ xs = [y, d] ∧ DGet H a y o ∧ Q (o.getD d) H) := by
  intro pins s σ H x xs v us Q I rx rr h
  obtain ⟨a, y, d, o, rfl, rfl, g, q⟩ := h
  obtain ⟨u1, u2, rfl, r1, r2⟩ := rr.two
  cases rx
  exact d_get2 hu I g r1 r2 fun w' s' I' rw' => ⟨_, H, I', rw', q⟩
theorem get_ok (hu : X.A.units + 1 < cLine) : MtR X "dict.get" (RMA X.K G A .get) := by
  intro pins s σ H x xs v us Q I rx rr h
  obtain ⟨d, ds, st, P, r, vd, vr, h, q⟩ := h
  match d, ds, vr, h with
  | .ob a, [k, e], vr, h =>
    obtain ⟨v1, v2, rfl, vk, ve⟩ := vr.two
    obtain ⟨o, ho, h⟩ := h
    obtain ⟨w, g, g1, g2⟩ := dGet_rel r vk ho
    refine mt_get2 hu pins s σ H x _ v us Q I rx rr ⟨a, v1, v2, w, vd.ob_inv, rfl, g, ?_⟩
    refine post0 q r ?_ h
    cases o with
    | none => rw [g2 rfl]; exact ve
    | some d' => obtain ⟨x', e', vx⟩ := g1 d' rfl; rw [e']; exact vx
theorem strs_rel {K : PySem.W.Frag} {H : Hp} : ∀ {l : List D} {xs : List V} {ys : List PySem.Str}, VRs K H l xs → strsD l = some ys → xs = ys.map V.str
  | [], _, _, .nil, h => by cases h; rfl
  | d :: l, _, ys, .cons vd q, h => by
    cases d with
    | str z =>
      have h' : (strsD l).map (z :: ·) = some ys := h
      cases e : strsD l with
      | none => rw [e] at h'; cases h'
      | some zs =>
        rw [e] at h'; cases h'
        rw [strs_rel q e, vd.str_inv]; rfl
    | _ => cases h
theorem sum_add {α : Type} (f : α → Nat) (c : Nat) : ∀ l : List α, (l.map fun y => f y + c).sum = (l.map f).sum + l.length * c
  | [] => by simp
  | y :: l => by simp only [List.map_cons, List.sum_cons, List.length_cons, sum_add f c l, Nat.succ_mul]; omega
theorem join_ok : MtR X "str.join" (RMA X.K G A .join) := by
  intro pins s σ H x xs v us Q I rx rr h
  obtain ⟨d, ds, st, P, r, vd, vr, h, q⟩ := h
  match d, ds, vr, h with
  | .str z, [.ob a], .cons vy .nil, h =>
    obtain ⟨l, ys, hl, hs, hz, h⟩ := h
    obtain ⟨ws, e1, vl⟩ := r.lst hl
    have e := strs_rel vl hs
    subst e
    refine mt_join pins s σ H x _ v us Q I rx rr ⟨z, a, ys, vd.str_inv, by rw [vy.ob_inv], .inl (SqL.of e1), ?_, post0 q r (.str _) h⟩
    rw [sum_add (fun y : PySem.Str => y.length)] at hz
    exact hz
theorem upper_ok : MtR X "str.upper" (RMA X.K G A .upper) := by
  intro pins s σ H x xs v us Q I rx rr h
  obtain ⟨d, ds, st, P, r, vd, vr, h, q⟩ := h
  match d, ds, vr, h with
  | .str z, [], .nil, h => exact mt_upper pins s σ H x _ v us Q I rx rr ⟨z, vd.str_inv, rfl, h.1, post0 q r (.str _) h.2⟩

/-! ### o[i] = v -/
theorem setI_ok (hu : X.A.units + 1 < cLine) : PSet X (fun o i v H N => ∃ (d e f : D) (s : S) (P : S → Prop), Rel X.K G A s H ∧ VR X.K H d o ∧ VR X.K H e i ∧ VR X.K H f v ∧ setI d e f s P ∧ ∀ s' H', P s' → Rel X.K G A s' H' → Sim s H s' H' → N H') := by
  intro pins s σ H o i v ov iv u N I ro ri rv h
  obtain ⟨d, e, f, st, P, r, vd, ve, vf, h, q⟩ := h
  have h : setI d e f st P := h
  unfold setI at h
  cases d with
  | ob a =>
    cases vd
    cases ro
    simp only at h
    split at h
    · rename_i l hl
      obtain ⟨k, j, rfl, hj, h⟩ := h
      obtain ⟨xs, e1, vl⟩ := r.lst hl
      refine set_list pins s σ H (.ref a) i v (.ref a) iv u N I rfl ri rv ⟨a, xs, k, j, rfl, ve.int_inv, e1, by rw [← vl.length]; exact hj, ?_⟩
      exact q _ _ h (r.chg hl (.lst (vl.set vf j))) (Sim.chg hl)
    · rename_i l hl
      obtain ⟨k, hk, hz, h⟩ := h
      obtain ⟨xs, e1, vl⟩ := r.dK hl
      have e2 := keyD_rel ve hk
      subst e2
      exact d_setItem hu I (DPut.k (v := v) e1 (by rw [← vl.length]; exact hz)) ri rv fun s' I' => ⟨_, I', q _ _ h (r.chg hl (.dK (vl.put k vf))) (Sim.chg hl)⟩
    · rename_i l hl
      obtain ⟨t, k, rfl, hk, hz, h⟩ := h
      obtain ⟨xs, e1, vl⟩ := r.dT hl
      obtain ⟨b, ys, rfl, hb, vr⟩ := ve.tup_inv
      have e2 := keysD_rel vr hk
      subst e2
      exact d_setItem hu I (DPut.t (v := v) e1 hb (by rw [← vl.length]; exact hz)) ri rv fun s' I' => ⟨_, I', q _ _ h (r.chg hl (.dT (vl.put k vf))) (Sim.chg hl)⟩
    · exact False.elim h
  | _ => exact False.elim h
end
end MH
set_option Elab.async false
set_option linter.all false
set_option maxRecDepth 100000
/-! From the row's expressions to clean ones. -/
namespace MH
open PySem L2 PyProof.Rows

def magic (x : Str) : Bool := (x == ("__debug__" : Str)) || (x == ("__classdict__" : Str)) || decide (x = "__name__")
def ixOf (N : List Str) (x : Str) : Option Nat := (N.findIdx? fun y => decide (y = x)).bind fun i => if N[i]? = some x then some i else none
def visB (sc : Scope) (x : Str) : Bool := match sc.names.lookup x with
  | some .local => true
  | some .cell => true
  | some .free => true
  | _ => false
def glB (sc : Scope) (x : Str) : Bool := match sc.names.lookup x with
  | some .globalImplicit => true
  | _ => false
theorem ixOf_some {N : List Str} {x : Str} {i : Nat} (h : ixOf N x = some i) : N[i]? = some x := by
  unfold ixOf at h
  cases e : N.findIdx? (fun y => decide (y = x)) with
  | none => rw [e] at h; cases h
  | some j =>
    rw [e] at h
    have h' : (if N[j]? = some x then some j else none) = some i := h
    split at h'
    · cases h'; assumption
    · cases h'
theorem visB_ok {sc : Scope} {x : Str} (h : visB sc x = true) : Vis sc x := by
  unfold visB at h
  unfold Vis
  split at h
  · exact .inl (by assumption)
  · exact .inr (.inl (by assumption))
  · exact .inr (.inr (by assumption))
  · cases h
theorem glB_ok {sc : Scope} {x : Str} (h : glB sc x = true) : sc.names.lookup x = some .globalImplicit := by
  unfold glB at h
  split at h
  · assumption
  · cases h
theorem magic_no {x : Str} (h : magic x = false) : (x == ("__debug__" : Str)) = false ∧ (x == ("__classdict__" : Str)) = false ∧ x ≠ "__name__" := by
  unfold magic at h
  simp only [Bool.or_eq_false_iff, decide_eq_false_iff_not] at h
  exact ⟨h.1.1, h.1.2, h.2⟩
theorem bindO {α β : Type} {o : Option α} {f : α → Option β} {b : β} (h : o.bind f = some b) : ∃ a, o = some a ∧ f a = some b := by
  cases o with
  | none => cases h
  | some a => exact ⟨a, rfl, h⟩
theorem mapO {α β : Type} {o : Option α} {f : α → β} {b : β} (h : o.map f = some b) : ∃ a, o = some a ∧ f a = b := by
  cases o with
  | none => cases h
  | some a => exact ⟨a, rfl, Option.some.inj h⟩
theorem iteO {α : Type} {c : Bool} {o : Option α} {b : α} (h : (if c = true then o else none) = some b) : c = true ∧ o = some b := by
  cases c with
  | true => exact ⟨rfl, h⟩
  | false => cases h

def tyNames : List (Str × Ty) := [("int", .int), ("bool", .bool), ("str", .str), ("tuple", .tuple), ("list", .list)]
/-- built-in functions, classes by name; how many arguments -/
def bltNames : List (Str × Blt × Nat) := [("len", .len, 1), ("list", .list, 1), ("tuple", .tuple, 1), ("dict", .dict, 1), ("sorted", .sorted, 1), ("all", .all, 1), ("max", .max, 2), ("int", .int, 1), ("abs", .abs, 1)]
def bmNames : List (Str × Bm × Nat) := [("append", .append, 1), ("extend", .extend, 1), ("pop", .pop, 1), ("insert", .insert, 2), ("get", .get, 2), ("join", .join, 1), ("upper", .upper, 0)]
section
variable (G : Gb) (N : List Str)
def cL (f : Expr → Option Ex) : List Expr → Option Exs
  | [] => some .nil
  | .Starred _ _ :: _ => none
  | e :: es => (f e).bind fun x => (cL f es).map (.cons x)
def cTy (sc : Scope) : Expr → Option Ty
  | .Name x _ => if (!magic x && glB sc x) = true then tyNames.lookup x else none
  | _ => none
def cTys (sc : Scope) : List Expr → Option (List Ty)
  | [] => some []
  | e :: es => (cTy sc e).bind fun t => (cTys sc es).map (t :: ·)
def cKeys : List (Option Expr) → Option (List Str)
  | [] => some []
  | some (.Constant (.str x) _ _) :: r => (cKeys r).map (x :: ·)
  | _ => none
/-- an item of a dict display: {} under certain names holds tuples as keys -/
def cVals (f : Expr → Option Ex) : List Str → List Expr → Option Exs
  | [], [] => some .nil
  | k :: ks, e :: es => (match e with
    | .Dict [] [] _ => some (Ex.dnew (G.tnames.contains k))
    | .Starred _ _ => none
    | e => f e).bind fun x => (cVals f ks es).map (.cons x)
  | _, _ => none
def cOpt (f : Expr → Option Ex) : Option Expr → Option Exo
  | none => some .no
  | some e => (f e).map .yes
def boolO (op : BoolOp) (a b : Ex) : Ex := match op with
  | .And => .and a b
  | .Or => .or a b
def cBool (f : Expr → Option Ex) (op : BoolOp) : List Expr → Option Ex
  | [] => none
  | [e] => f e
  | e :: es => (f e).bind fun x => (cBool f op es).map (boolO op x)
def cCall (f : Expr → Option Ex) (sc : Scope) (g : Str) (args : List Expr) : Option Ex :=
  if (!magic g && glB sc g) = true then
    match G.fns.lookup g with
    | some i => (cL f args).map (.call i)
    | none => match G.cls.lookup g with
      | some c => (cL f args).map (.make c)
      | none => if g = "isinstance" then (match args with
          | [a, .Name t p] => (cL f [a]).bind fun xs => match xs with
            | .cons x .nil => (cTy sc (.Name t p)).map fun t => .isi x [t]
            | _ => none
          | [a, .Tuple ts _ _] => (cL f [a]).bind fun xs => match xs with
            | .cons x .nil => (cTys sc ts).bind fun t => if (t.isEmpty || decide (15 < t.length)) = true then none else some (.isi x t)
            | _ => none
          | _ => none)
        else match bltNames.lookup g with
          | some (b, n) => if decide (args.length = n) = true then (cL f args).map (.blt b) else none
          | none => none
  else none
def cMeth (f : Expr → Option Ex) (o : Expr) (m : Str) (ap pos : Pos) (args : List Expr) : Option Ex :=
  if (ap.endLine == pos.line) = true then
    (f o).bind fun x => match bmNames.lookup m with
    | some (b, n) => if decide (args.length = n) = true then (cL f args).map (.bm b x) else none
    | none => if decide (args.length < 30) = true then (ixOf G.attrs m).bind fun i => (cL f args).map (.mth i x) else none
  else none
def plainBase : Expr → Bool
  | .Call _ [] [] _ => false
  | _ => true
/-- range(e), or an expression -/
def cIter (f : Expr → Option Ex) (sc : Scope) (e : Expr) : Option (Bool × Ex) :=
  match e with
  | .Call (.Name g _) [a] [] _ => if (glB sc g && decide (g = "range")) = true then (cL f [a]).bind fun xs => (match xs with
      | .cons x .nil => some (true, x)
      | _ => none) else (f e).map fun x => (false, x)
  | .Set _ _ _ => none
  | e => (f e).map fun x => (false, x)
def cLC (fE fT : Scope → Expr → Option Ex) (sc : Scope) (elt : Expr) (gs : List Comprehension) (scope : Scope) : Option Ex := match gs with
  | [⟨tg, iter, ifs, k⟩] => (match tg, ifs with
    | .Name y _, [] => if (decide (k = 0)) = true then (ixOf N y).bind fun i => if (blkC N sc scope [(y, i)] && decide ((relS scope sc).names.lookup y = some .local)) = true then
        (cIter (fE sc) sc iter).bind fun it => (fE (relS scope sc) elt).map fun x => .lc it.1 x i it.2 .no else none else none
    | .Name y _, [c] => if (decide (k = 0)) = true then (ixOf N y).bind fun i => if (blkC N sc scope [(y, i)] && decide ((relS scope sc).names.lookup y = some .local)) = true then
        (cIter (fE sc) sc iter).bind fun it => (fE (relS scope sc) elt).bind fun x => (fT (relS scope sc) c).map fun z => .lc it.1 x i it.2 (.yes z) else none else none
    | _, _ => none)
  | _ => none
def cCmp (f : Expr → Option Ex) (a : Expr) (ops : List CmpOp) (bs : List Expr) : Option Ex := match ops, bs with
  | [op], [b] => if behindInMarks op b = false then (f a).bind fun x => (f b).map fun y => .cmp op x y else none
  | [op, op'], [b, c] => if (decide (op ≠ .In) && decide (op ≠ .NotIn) && decide (op' ≠ .In) && decide (op' ≠ .NotIn)) = true then (f a).bind fun x => (f b).bind fun y => (f c).map fun z => .chn op op' x y z else none
  | _, _ => none
mutual
def cE : Nat → Scope → Expr → Option Ex
  | 0, _, _ => none
  | n + 1, sc, e => match e with
    | .Name x _ => if (!magic x) = true then (if visB sc x = true then (ixOf N x).map .loc else if glB sc x = true then (match G.consts.lookup x with
        | some (.int i) => some (.int i)
        | some (.str z) => some (.str z)
        | _ => none) else none) else none
    | .Constant c _ _ => (match c with
        | .int i => some (.int i)
        | .bool b => some (.bl b)
        | .none => some .non
        | .str x => some (.str x)
        | _ => none)
    | .Tuple es _ _ => (cL (cE n sc) es).map .tup
    | .List es _ => (cL (cE n sc) es).map .lst
    | .Dict ks vs _ => (match ks with
        | [] => (match vs with
          | [] => some (.dnew false)
          | _ => none)
        | _ => (cKeys ks).bind fun kk => if (decide kk.Nodup && decide (kk.length ≤ 15)) = true then (cVals G (cE n sc) kk vs).map (.disp kk) else none)
    | .Attribute o f _ => if plainBase o = true then (cE n sc o).bind fun x => (ixOf G.attrs f).map (.fld x) else none
    | .Subscript o i _ => (match i with
        | .Slice lo hi st _ => (match st with
          | none => (cE n sc o).bind fun x => (cOpt (cE n sc) lo).bind fun l => (cOpt (cE n sc) hi).map fun h => .slc x l h
          | some _ => none)
        | i => (cE n sc o).bind fun x => (cE n sc i).map fun y => .idx x y)
    | .BinOp a op b _ => (cE n sc a).bind fun x => (cE n sc b).map fun y => .bin op x y
    | .UnaryOp op a _ => (match op with
        | .USub => (cE n sc a).map .neg
        | .Not => (cE n sc a).map .not
        | _ => none)
    | .BoolOp op es _ => cBool (cE n sc) op es
    | .IfExp c a b _ => (cT n sc c).bind fun z => (cE n sc a).bind fun x => (cE n sc b).map fun y => .ife z x y
    | .Compare a ops bs _ => cCmp (cE n sc) a ops bs
    | .Call g args kws pos => (match kws with
        | [] => (match g with
          | .Name f _ => cCall G (cE n sc) sc f args
          | .Attribute o m ap => if plainBase o = true then cMeth G (cE n sc) o m ap pos args else none
          | _ => none)
        | _ => none)
    | .ListComp elt gs scope _ => cLC N (cE n) (cT n) sc elt gs scope
    | _ => none
def cT : Nat → Scope → Expr → Option Ex
  | 0, _, _ => none
  | n + 1, sc, e => match e with
    | .BoolOp op es _ => cBool (cT n sc) op es
    | .UnaryOp op a _ => (match op with
        | .Not => (cT n sc a).map .not
        | _ => none)
    | .Compare a ops bs _ => cCmp (cE n sc) a ops bs
    | .Name x p => cE n sc (.Name x p)
    | .Call g args kws p => cE n sc (.Call g args kws p)
    | .Attribute o f p => cE n sc (.Attribute o f p)
    | .Subscript o i p => cE n sc (.Subscript o i p)
    | _ => none
end
end
end MH
set_option Elab.async false
set_option linter.all false
set_option maxRecDepth 100000
/-! The clean reading is enough: expressions. -/
namespace MH
open PySem L2 PyProof.Rows

/-- the slots -/
def REnv (K : PySem.W.Frag) (H : Hp) (e : Env) (σ : L2.St) : Prop := e.length = σ.length ∧ ∀ (i : Nat) (d : D), e[i]? = some (some d) → ∃ v, σ[i]? = some (some v) ∧ VR K H d v
theorem REnv.mono {K : PySem.W.Frag} {H H' : Hp} {e : Env} {σ : L2.St} (t : TL H H') (r : REnv K H e σ) : REnv K H' e σ := ⟨r.1, fun i d h => let ⟨v, h1, h2⟩ := r.2 i d h; ⟨v, h1, h2.mono t⟩⟩
theorem REnv.set {K : PySem.W.Frag} {H : Hp} {e : Env} {σ : L2.St} {d : D} {v : V} (r : REnv K H e σ) (i : Nat) (vr : VR K H d v) : REnv K H (e.set i (some d)) (σ.set i (some v)) := by
  refine ⟨by simp [r.1], fun j d' h => ?_⟩
  by_cases hj : i = j
  · subst hj
    by_cases hl : i < e.length
    · rw [List.getElem?_set_self hl] at h
      cases h
      exact ⟨v, by rw [List.getElem?_set_self (by rw [← r.1]; exact hl)], vr⟩
    · rw [List.getElem?_eq_none (by simpa using hl)] at h; cases h
  · rw [List.getElem?_set_ne hj] at h
    obtain ⟨w, h1, h2⟩ := r.2 j d' h
    exact ⟨w, by rw [List.getElem?_set_ne hj]; exact h1, h2⟩
theorem REnv.unset {K : PySem.W.Frag} {H : Hp} {e : Env} {σ : L2.St} (r : REnv K H e σ) (i : Nat) {o : Option V} : REnv K H (e.set i none) (σ.set i o) := by
  refine ⟨by simp [r.1], fun j d' h => ?_⟩
  by_cases hj : i = j
  · subst hj
    by_cases hl : i < e.length
    · rw [List.getElem?_set_self hl] at h; cases h
    · rw [List.getElem?_eq_none (by simpa using hl)] at h; cases h
  · rw [List.getElem?_set_ne hj] at h
    obtain ⟨w, h1, h2⟩ := r.2 j d' h
    exact ⟨w, by rw [List.getElem?_set_ne hj]; exact h1, h2⟩
structure At (K : PySem.W.Frag) (G : Gb) (A : Ad) (e : Env) (s : S) (σ : L2.St) (H : Hp) : Prop where
  rel : Rel K G A s H
  env : REnv K H e σ
theorem At.step {K : PySem.W.Frag} {G : Gb} {A : Ad} {e : Env} {s s1 : S} {σ : L2.St} {H H1 : Hp} (a : At K G A e s σ H) (r : Rel K G A s1 H1) (m : Sim s H s1 H1) : At K G A e s1 σ H1 := ⟨r, a.env.mono (m.tl a.rel)⟩
theorem Post.step {K : PySem.W.Frag} {G : Gb} {A : Ad} {s s1 : S} {H H1 : Hp} {P : K1} {Q : VK} (p : Post K G A s H P Q) (m : Sim s H s1 H1) : Post K G A s1 H1 P Q := fun d s' v H' h1 h2 h3 h4 => p d s' v H' h1 h2 h3 (m.trans h4)
/-- an exception that the clean code lets out is one that is wished for -/
def XL (K : PySem.W.Frag) (G : Gb) (A : Ad) (W : WX) (s : S) (σ : L2.St) (H : Hp) (Xa : XP) : Prop := ∀ c s' H', Xa c s' → Rel K G A s' H' → Sim s H s' H' → W (.ref (A.cl c)) none σ H'
theorem XL.step {K : PySem.W.Frag} {G : Gb} {A : Ad} {W : WX} {s s1 : S} {σ : L2.St} {H H1 : Hp} {Xa : XP} (x : XL K G A W s σ H Xa) (m : Sim s H s1 H1) : XL K G A W s1 σ H1 Xa := fun c s' H' h1 h2 h3 => x c s' H' h1 h2 (m.trans h3)
theorem XL.no {K : PySem.W.Frag} {G : Gb} {A : Ad} {W : WX} {s : S} {σ : L2.St} {H : Hp} : XL K G A W s σ H fun _ _ => False := fun _ _ _ h => h.elim

section
variable (K : PySem.W.Frag) (G : Gb) (A : Ad) (T : Tab) (C : Nat → List D → S → K1 → XP → Prop) (W : WX)
def tI (x : Ex) : TE := fun σ H Q => ∃ e s P Xa, At K G A e s σ H ∧ wE T C x e s P Xa ∧ Post K G A s H P Q ∧ XL K G A W s σ H Xa
def tA (xs : Exs) : TA := fun σ H Q => ∃ e s P Xa, At K G A e s σ H ∧ wEs T C xs e s P Xa ∧ (∀ ds s' vs H', P ds s' → Rel K G A s' H' → VRs K H' ds vs → Sim s H s' H' → Q vs H') ∧ XL K G A W s σ H Xa
def tO (xo : Exo) : TO := fun σ H Q => ∃ e s P Xa, At K G A e s σ H ∧ wO T C xo e s P Xa ∧ (∀ o s' H', P o s' → Rel K G A s' H' → Sim s H s' H' → Q o H') ∧ XL K G A W s σ H Xa
def tTst (x : Ex) : TT := fun σ H Q => ∃ (e : Env) (s : S) (P : K1) (Xa : XP), At K G A e s σ H ∧ wE T C x e s P Xa ∧ (∀ d s' H', P d s' → Rel K G A s' H' → Sim s H s' H' → ∃ b, d = .bl b ∧ Q b H') ∧ XL K G A W s σ H Xa
/-- a def's promise, from its clean reading -/
def spC (c : List D → S → K1 → XP → Prop) : Sp := fun vs H Q E => ∃ ds s P Xa, Rel K G A s H ∧ VRs K H ds vs ∧ c ds s P Xa ∧ Post K G A s H P Q ∧ ∀ k s' H', Xa k s' → Rel K G A s' H' → Sim s H s' H' → E (.ref (A.cl k)) none H'
end
/-- what the top has made of the names -/
structure Facts (K : PySem.W.Frag) (mg : Str → Option Value) (G : Gb) (A : Ad) (T : Tab) (ok : Nat → Prop) : Prop where
  nd : G.attrs.Nodup
  fns : ∀ x f, G.fns.lookup x = some f → mg x = some (.ref (A.fn f)) ∧ PySem.W.keepIn K (.ref (A.fn f)) = true ∧ ok f
  cls : ∀ x c, G.cls.lookup x = some c → mg x = some (.ref (A.cl c)) ∧ PySem.W.keepIn K (.ref (A.cl c)) = true
  init : ∀ c f, T.init c = some f → Mk K (A.cl c) (A.fn f) ∧ ok f ∧ Cls K (A.cl c)
  fld : ∀ c f x, G.fld c f = true → G.attrs[f]? = some x → Cls K (A.cl c) ∧ NoAttr K (A.cl c) x
  tf : ∀ c f, T.fld c f = true → G.fld c f = true
  meth : ∀ c m f x, T.meth c m = some f → G.attrs[m]? = some x → Cls K (A.cl c) ∧ Meth K (A.cl c) x (A.fn f) ∧ ok f
  blt : ∀ x y, bltNames.lookup x = some y → mg x = none
  isi : mg "isinstance" = none
  rng : mg "range" = none
  tys : ∀ x y, tyNames.lookup x = some y → mg x = none
  cons : ∀ x d, G.consts.lookup x = some d → (∀ i, d = .int i → ∃ u, mg x = some u ∧ RelV (.int i) u) ∧ (∀ z, d = .str z → ∃ u, mg x = some u ∧ RelV (.str z) u)
/-- where the code stands -/
structure Ctx (X : Cx) (G : Gb) (A : Ad) (T : Tab) (C : Nat → List D → S → K1 → XP → Prop) (k : Nat) (W : WX) : Prop where
  calm : X.calm = true
  nd : X.N.Nodup
  room : Room (k + 1) X.A
  tk : Takes X W
  fc : Facts X.K X.mg G A T fun f => ∃ fd ps, FnOk X.prog X.w X.K X.mg X.base (L2.CX X.prog X.w) k (A.fn f) fd ps (spC X.K G A (C f)) ∧ Binds X.K fd ps []
section
variable {X : Cx} {G : Gb} {A : Ad} {T : Tab} {C : Nat → List D → S → K1 → XP → Prop} {k : Nat} {W : WX}
theorem Ctx.hu (c : Ctx X G A T C k W) : X.A.units + 65 < cLine := by
  have := c.room.un; omega
theorem _root_.L2.PE.imp {e : Expr} {t t' : TE} (h : PE X e t) (i : ∀ σ H Q, t' σ H Q → t σ H Q) : PE X e t' := ⟨fun pins s σ H Q I q => h.run pins s σ H Q I (i σ H Q q)⟩
theorem _root_.L2.PT.imp {e : Expr} {t t' : TT} (h : PT X e t) (i : ∀ σ H Q, t' σ H Q → t σ H Q) : PT X e t' := ⟨fun pins s σ H Q I q => h.run pins s σ H Q I (i σ H Q q)⟩
theorem _root_.L2.PW.imp {e : Expr} {t t' : TT} (h : PW X e t) (i : ∀ σ H Q, t' σ H Q → t σ H Q) : PW X e t' := ⟨fun wh pins s σ H Q I q => h.run wh pins s σ H Q I (i σ H Q q)⟩
theorem _root_.L2.PA.imp {e : List Expr} {t t' : TA} (h : PA X e t) (i : ∀ σ H Q, t' σ H Q → t σ H Q) : PA X e t' := ⟨fun pos pins s σ H Q I q => h.run pos pins s σ H Q I (i σ H Q q)⟩
theorem _root_.L2.PO.imp {e : Option Expr} {t t' : TO} (h : PO X e t) (i : ∀ σ H Q, t' σ H Q → t σ H Q) : PO X e t' := ⟨fun pins s σ H Q I q => h.run pins s σ H Q I (i σ H Q q)⟩
abbrev PEi (X : Cx) (G : Gb) (A : Ad) (T : Tab) (C : Nat → List D → S → K1 → XP → Prop) (W : WX) (e : Expr) (x : Ex) : Prop := PE X e (tI X.K G A T C W x)
/-- a wish for the next step's reading -/
theorem post_mk {s : S} {H : Hp} {P : K1} {Q : VK} (h : ∀ d s1 v H1, P d s1 → Rel X.K G A s1 H1 → VR X.K H1 d v → Sim s H s1 H1 → Q v H1) : Post X.K G A s H P Q := h

theorem pe_loc {x : Str} {pos : Pos} {i : Nat} (h : X.N[i]? = some x) (hv : Vis X.env.scope x) (hm : magic x = false) : PEi X G A T C W (.Name x pos) (.loc i) := by
  obtain ⟨m1, m2, _⟩ := magic_no hm
  refine (pe_var (X := X) h hv m1 m2).imp fun σ H Q ⟨e, s, P, Xa, a, hw, hp, hx⟩ => ?_
  obtain ⟨d, hd, q⟩ := hw
  obtain ⟨v, h1, h2⟩ := a.env.2 i d hd
  exact ⟨v, h1, post0 hp a.rel h2 q⟩
theorem pe_const {e : Expr} {x : Ex} {d : D} {v : V} (h : PE X e (tC v)) (hx : ∀ (e : Env) (s : S) (P : K1) (Xa : XP), wE T C x e s P Xa → P d s) (hv : ∀ H, VR X.K H d v) : PEi X G A T C W e x :=
  h.imp fun σ H Q ⟨e, s, P, Xa, a, hw, hp, _⟩ => post0 hp a.rel (hv H) (hx _ _ _ _ hw)

theorem pa_ok {f : Expr → Option Ex} (hf : ∀ e x, f e = some x → PEi X G A T C W e x) : ∀ {es : List Expr} {xs : Exs}, cL f es = some xs → PA X es (tA X.K G A T C W xs) ∧ (∀ pos, (backTo pos (starEach es X.env)).any (·.1) = false) ∧ (∀ e r, es = e :: r → starEach (e :: r) X.env = (false, eval e X.env) :: starEach r X.env) ∧ (∀ e r, es = e :: r → ∀ pos, (backTo pos (starEach r X.env)).any (·.1) = false) ∧ (es = [] → xs = .nil)
  | [], xs, h => by
    cases h
    exact ⟨pa_nil.imp fun σ H Q ⟨e, s, P, Xa, a, hw, hp, _⟩ => hp _ _ _ _ hw a.rel .nil (Sim.refl s H), fun _ => rfl, fun e r q => (nomatch q), fun e r q => (nomatch q), fun _ => rfl⟩
  | e :: es, xs, h => by
    have key : ∃ x r, f e = some x ∧ cL f es = some r ∧ xs = .cons x r ∧ starEach (e :: es) X.env = (false, eval e X.env) :: starEach es X.env := by
      cases e <;> first
        | (exact nomatch (show none = some xs from h))
        | (obtain ⟨x, h1, h2⟩ := bindO h
           obtain ⟨r, h3, h4⟩ := mapO h2
           exact ⟨x, r, h1, h3, h4.symm, rfl⟩)
    obtain ⟨x, r, h1, h2, rfl, hs⟩ := key
    obtain ⟨hr, hany, _, _, _⟩ := pa_ok hf h2
    refine ⟨(pa_cons (hf e x h1) hr hs).imp fun σ H Q ⟨e, s, P, Xa, a, hw, hp, hx⟩ => ?_, fun pos => ?_, fun e' r' q => (by cases q; exact hs), fun e' r' q => (by cases q; exact hany), fun q => nomatch q⟩
    · refine ⟨e, s, _, Xa, a, hw, fun d s1 v H1 hw1 r1 vr1 m1 => ?_, hx⟩
      refine ⟨e, s1, _, Xa, a.step r1 m1, hw1, fun ds s2 vs H2 hw2 r2 vr2 m2 => ?_, hx.step m1⟩
      exact hp _ _ _ _ hw2 r2 (.cons (vr1.mono (m2.tl r1)) vr2) (m1.trans m2)
    · rw [hs]
      show (false || (backTo pos (starEach es X.env)).any (·.1)) = false
      rw [hany pos]; rfl
theorem pe_tupI {es : List Expr} {xs : Exs} {x1 : Nat} {pos : Pos} (h : PA X es (tA X.K G A T C W xs)) : PEi X G A T C W (.Tuple es x1 pos) (.tup xs) :=
  (pe_tup h).imp fun σ H Q ⟨e, s, P, Xa, a, hw, hp, hx⟩ => ⟨e, s, _, Xa, a, hw, fun ds s1 vs H1 hw1 r1 vr1 m1 => ⟨by rw [← vr1.length]; exact hw1.1, post_tup (hp.step m1) r1 vr1 hw1.2⟩, hx⟩
theorem pe_lstI {es : List Expr} {xs : Exs} {pos : Pos} (h : PA X es (tA X.K G A T C W xs)) : PEi X G A T C W (.List es pos) (.lst xs) :=
  (pe_lst h).imp fun σ H Q ⟨e, s, P, Xa, a, hw, hp, hx⟩ => ⟨e, s, _, Xa, a, hw, fun ds s1 vs H1 hw1 r1 vr1 m1 => ⟨by rw [← vr1.length]; exact hw1.1, post_new (hp.step m1) r1 (.lst vr1) hw1.2⟩, hx⟩
theorem pe_dnewI {pos : Pos} (t : Bool) : PEi X G A T C W (.Dict [] [] pos) (.dnew t) := by
  cases t with
  | true => exact pe_dnewT.imp fun σ H Q ⟨e, s, P, Xa, a, hw, hp, _⟩ => post_new hp a.rel (.dT .nil) hw
  | false => exact pe_dnewK.imp fun σ H Q ⟨e, s, P, Xa, a, hw, hp, _⟩ => post_new hp a.rel (.dK .nil) hw
theorem pe_binI {op : Operator} {a b : Expr} {x y : Ex} {pos : Pos} (ha : PEi X G A T C W a x) (hb : PEi X G A T C W b y) : PEi X G A T C W (.BinOp a op b pos) (.bin op x y) :=
  (pe_op (bin_ok (G := G) (A := A) op) ha hb).imp fun σ H Q ⟨e, s, P, Xa, a, hw, hp, hx⟩ => ⟨e, s, _, Xa, a, hw, fun d1 s1 v1 H1 hw1 r1 vr1 m1 =>
    ⟨e, s1, _, Xa, a.step r1 m1, hw1, fun d2 s2 v2 H2 hb r2 vr2 m2 => ⟨d1, d2, s2, P, r2, vr1.mono (m2.tl r1), vr2, hb, hp.step (m1.trans m2)⟩, hx.step m1⟩, hx⟩
theorem pe_cmpI (c : Ctx X G A T C k W) {op : CmpOp} {a b : Expr} {x y : Ex} {pos : Pos} (ha : PEi X G A T C W a x) (hb : PEi X G A T C W b y) (hm : behindInMarks op b = false) : PEi X G A T C W (.Compare a [op] [b] pos) (.cmp op x y) :=
  (pe_cmpR (cmp_ok (G := G) (A := A) c.hu op) ha hb hm).imp fun σ H Q ⟨e, s, P, Xa, a, hw, hp, hx⟩ => ⟨e, s, _, Xa, a, hw, fun d1 s1 v1 H1 hw1 r1 vr1 m1 =>
    ⟨e, s1, _, Xa, a.step r1 m1, hw1, fun d2 s2 v2 H2 hb r2 vr2 m2 => ⟨d1, d2, s2, P, r2, vr1.mono (m2.tl r1), vr2, hb, hp.step (m1.trans m2)⟩, hx.step m1⟩, hx⟩
theorem pe_chnI (c : Ctx X G A T C k W) {op op' : CmpOp} {a b d : Expr} {x y z : Ex} {pos : Pos} (ha : PEi X G A T C W a x) (hb : PEi X G A T C W b y) (hd : PEi X G A T C W d z)
    (h1 : op ≠ .In) (h2 : op ≠ .NotIn) (h3 : op' ≠ .In) (h4 : op' ≠ .NotIn) : PEi X G A T C W (.Compare a [op, op'] [b, d] pos) (.chn op op' x y z) := by
  refine (pe_chain (cmp_ok (G := G) (A := A) c.hu op) (cmp_ok (G := G) (A := A) c.hu op') ha hb hd (nobehind _ h3 h4)).imp fun σ H Q ⟨e, s, P, Xa, a, hw, hp, hx⟩ => ?_
  refine ⟨e, s, _, Xa, a, hw, fun d1 s1 v1 H1 hw1 r1 vr1 m1 => ⟨e, s1, _, Xa, a.step r1 m1, hw1, fun d2 s2 v2 H2 hw2 r2 vr2 m2 => ⟨d1, d2, s2, _, r2, vr1.mono (m2.tl r1), vr2, hw2, fun d3 s3 v3 H3 hw3 r3 vr3 m3 => ?_⟩, hx.step m1⟩, hx⟩
  obtain ⟨b, rfl, hw3⟩ := hw3
  refine ⟨b, vr3.bl_inv, ?_⟩
  cases b with
  | true =>
    have hw3 : wE T C z e s3 (fun w s4 => rCmp op' d2 w s4 P) Xa := hw3
    show tI X.K G A T C W z σ H3 _
    exact ⟨e, s3, _, Xa, a.step r3 (m1.trans (m2.trans m3)), hw3, fun d4 s4 v4 H4 hw4 r4 vr4 m4 => ⟨d2, d4, s4, P, r4, vr2.mono ((m3.trans m4).tl r2), vr4, hw4, hp.step (m1.trans (m2.trans (m3.trans m4)))⟩, hx.step (m1.trans (m2.trans m3))⟩
  | false =>
    have hw3 : P (.bl false) s3 := hw3
    show Q (.bl false) H3
    exact post0 (hp.step (m1.trans (m2.trans m3))) r3 (.bl _) hw3
theorem pe_idxI (c : Ctx X G A T C k W) {a b : Expr} {x y : Ex} {pos : Pos} (ha : PEi X G A T C W a x) (hb : PEi X G A T C W b y) (hs : PlainIx b) : PEi X G A T C W (.Subscript a b pos) (.idx x y) :=
  (pe_ix (idx_ok (G := G) (A := A) (by have := c.hu; omega)) ha hb hs).imp fun σ H Q ⟨e, s, P, Xa, a, hw, hp, hx⟩ => ⟨e, s, _, Xa, a, hw, fun d1 s1 v1 H1 hw1 r1 vr1 m1 =>
    ⟨e, s1, _, Xa, a.step r1 m1, hw1, fun d2 s2 v2 H2 hb r2 vr2 m2 => ⟨d1, d2, s2, P, r2, vr1.mono (m2.tl r1), vr2, hb, hp.step (m1.trans m2)⟩, hx.step m1⟩, hx⟩
theorem po_ok {f : Expr → Option Ex} (hf : ∀ e x, f e = some x → PEi X G A T C W e x) {eo : Option Expr} {xo : Exo} (h : cOpt f eo = some xo) : PO X eo (tO X.K G A T C W xo) := by
  cases eo with
  | none =>
    cases h
    exact po_none.imp fun σ H Q ⟨e, s, P, Xa, a, hw, hp, _⟩ => hp _ _ _ hw a.rel (Sim.refl s H)
  | some e =>
    obtain ⟨x, h1, rfl⟩ := mapO h
    refine (po_some (hf e x h1)).imp fun σ H Q ⟨e, s, P, Xa, a, hw, hp, hx⟩ => ⟨e, s, _, Xa, a, hw, fun d1 s1 v1 H1 hw1 r1 vr1 m1 => ?_, hx⟩
    obtain ⟨i, rfl, q⟩ := hw1
    exact ⟨i, vr1.int_inv, hp _ _ _ q r1 m1⟩
theorem pe_slcI {a : Expr} {lo hi : Option Expr} {x : Ex} {l h : Exo} {p2 pos : Pos} (ha : PEi X G A T C W a x) (hl : PO X lo (tO X.K G A T C W l)) (hh : PO X hi (tO X.K G A T C W h)) : PEi X G A T C W (.Subscript a (.Slice lo hi none p2) pos) (.slc x l h) :=
  (pe_slice (slc_ok (G := G) (A := A)) ha hl hh).imp fun σ H Q ⟨e, s, P, Xa, a, hw, hp, hx⟩ => ⟨e, s, _, Xa, a, hw, fun d1 s1 v1 H1 hw1 r1 vr1 m1 =>
    ⟨e, s1, _, Xa, a.step r1 m1, hw1, fun o2 s2 H2 hw2 r2 m2 => ⟨e, s2, _, Xa, a.step r2 (m1.trans m2), hw2, fun o3 s3 H3 hw3 r3 m3 =>
      ⟨d1, s3, P, r3, vr1.mono ((m2.trans m3).tl r1), hw3, hp.step (m1.trans (m2.trans m3))⟩, hx.step (m1.trans m2)⟩, hx.step m1⟩, hx⟩
theorem pe_negI {a : Expr} {x : Ex} {pos : Pos} (ha : PEi X G A T C W a x) : PEi X G A T C W (.UnaryOp .USub a pos) (.neg x) :=
  (pe_un un_neg ha).imp fun σ H Q ⟨e, s, P, Xa, a, hw, hp, hx⟩ => ⟨e, s, _, Xa, a, hw, fun d1 s1 v1 H1 ⟨i, e1, q⟩ r1 vr1 m1 => by
    subst e1
    exact ⟨i, vr1.int_inv, post0 (hp.step m1) r1 (.int _) q⟩, hx⟩
theorem pe_notI {a : Expr} {x : Ex} {pos : Pos} (ha : PEi X G A T C W a x) : PEi X G A T C W (.UnaryOp .Not a pos) (.not x) :=
  (pe_not ha).imp fun σ H Q ⟨e, s, P, Xa, a, hw, hp, hx⟩ => ⟨e, s, _, Xa, a, hw, fun d1 s1 v1 H1 ⟨i, e1, q⟩ r1 vr1 m1 => by
    subst e1
    exact ⟨i, vr1.bl_inv, post0 (hp.step m1) r1 (.bl _) q⟩, hx⟩
theorem pe_fldI (c : Ctx X G A T C k W) {a : Expr} {x : Ex} {n : Str} {f : Nat} {pos : Pos} (ha : PEi X G A T C W a x) (hf : G.attrs[f]? = some n) (hb : attributeBase a n X.env (eval a X.env) = eval a X.env) : PEi X G A T C W (.Attribute a n pos) (.fld x f) :=
  (pe_fld ha hb).imp fun σ H Q ⟨e, s, P, Xa, a, hw, hp, hx⟩ => ⟨e, s, _, Xa, a, hw, fun d1 s1 v1 H1 ⟨p, cc, fs, v, e1, e2, e3, q⟩ r1 vr1 m1 => by
    subst e1
    obtain ⟨dx, xs, g1, g2, g3⟩ := r1.ins e2
    obtain ⟨w, g4, g5⟩ := (FR.val c.fc.nd g2 hf).1 v e3
    have hfl : G.fld cc f = true := by
      have : ∀ {l : List (Nat × D)}, l.lookup f = some v → (f, v) ∈ l := by
        intro l
        induction l with
        | nil => intro h; cases h
        | cons p l ih =>
          intro h
          obtain ⟨g, u⟩ := p
          by_cases hg : f = g
          · subst hg
            rw [List.lookup_cons_self] at h
            cases h
            exact List.mem_cons_self
          · rw [List.lookup_cons, (beq_eq_false_iff_ne.mpr hg)] at h
            exact List.mem_cons_of_mem _ (ih h)
      exact g3 _ (this e3)
    obtain ⟨k1, k2⟩ := c.fc.fld cc f n hfl hf
    exact ⟨p, A.cl cc, dx, xs, w, vr1.ob_inv, g1, k1, k2, g4, post0 (hp.step m1) r1 g5 q⟩, hx⟩
end
end MH
set_option Elab.async false
set_option linter.all false
set_option maxRecDepth 100000
/-! The clean reading is enough: truth, calls. -/
namespace MH
open PySem L2 PyProof.Rows
section
variable {X : Cx} {G : Gb} {A : Ad} {T : Tab} {C : Nat → List D → S → K1 → XP → Prop} {k : Nat} {W : WX}
abbrev PTi (X : Cx) (G : Gb) (A : Ad) (T : Tab) (C : Nat → List D → S → K1 → XP → Prop) (W : WX) (e : Expr) (x : Ex) : Prop := PT X e (tTst X.K G A T C W x)
abbrev PWi (X : Cx) (G : Gb) (A : Ad) (T : Tab) (C : Nat → List D → S → K1 → XP → Prop) (W : WX) (e : Expr) (x : Ex) : Prop := PW X e (tTst X.K G A T C W x)
/-- an expression as a test -/
theorem pt_of {e : Expr} {x : Ex} (h : PEi X G A T C W e x) (he : ∀ whole, isTrue e X.env whole = (do let v ← whole; standAt e.pos; holding [v] (truthy v))) : PTi X G A T C W e x :=
  (pt_val h he).imp fun σ H Q ⟨e, s, P, Xa, a, hw, hp, hx⟩ => ⟨e, s, _, Xa, a, hw, fun d1 s1 v1 H1 hw1 r1 vr1 m1 => by
    obtain ⟨b, rfl, q⟩ := hp _ _ _ hw1 r1 m1
    exact ⟨b, vr1.bl_inv, q⟩, hx⟩
theorem pt_cmpI (c : Ctx X G A T C k W) {op : CmpOp} {a b : Expr} {x y : Ex} {pos : Pos} (ha : PEi X G A T C W a x) (hb : PEi X G A T C W b y) (hm : behindInMarks op b = false) : PTi X G A T C W (.Compare a [op] [b] pos) (.cmp op x y) :=
  (pt_cmpR (cmp_ok (G := G) (A := A) c.hu op) ha hb hm).imp fun σ H Q ⟨e, s, P, Xa, a, hw, hp, hx⟩ => ⟨e, s, _, Xa, a, hw, fun d1 s1 v1 H1 hw1 r1 vr1 m1 =>
    ⟨e, s1, _, Xa, a.step r1 m1, hw1, fun d2 s2 v2 H2 hb r2 vr2 m2 => ⟨d1, d2, s2, _, r2, vr1.mono (m2.tl r1), vr2, hb, fun d3 s3 v3 H3 hw3 r3 vr3 m3 => by
      obtain ⟨b, rfl, q⟩ := hp _ _ _ hw3 r3 (m1.trans (m2.trans m3))
      exact ⟨b, vr3.bl_inv, q⟩⟩, hx.step m1⟩, hx⟩
theorem pt_chnI (c : Ctx X G A T C k W) {op op' : CmpOp} {a b d : Expr} {x y z : Ex} {pos : Pos} (ha : PEi X G A T C W a x) (hb : PEi X G A T C W b y) (hd : PEi X G A T C W d z)
    (h1 : op ≠ .In) (h2 : op ≠ .NotIn) (h3 : op' ≠ .In) (h4 : op' ≠ .NotIn) : PTi X G A T C W (.Compare a [op, op'] [b, d] pos) (.chn op op' x y z) := by
  refine (pt_chain (cmp_ok (G := G) (A := A) c.hu op) (cmp_ok (G := G) (A := A) c.hu op') ha hb hd (nobehind _ h3 h4)).imp fun σ H Q ⟨e, s, P, Xa, a, hw, hp, hx⟩ => ?_
  refine ⟨e, s, _, Xa, a, hw, fun d1 s1 v1 H1 hw1 r1 vr1 m1 => ⟨e, s1, _, Xa, a.step r1 m1, hw1, fun d2 s2 v2 H2 hw2 r2 vr2 m2 => ⟨d1, d2, s2, _, r2, vr1.mono (m2.tl r1), vr2, hw2, fun d3 s3 v3 H3 hw3 r3 vr3 m3 => ?_⟩, hx.step m1⟩, hx⟩
  obtain ⟨b, rfl, hw3⟩ := hw3
  refine ⟨b, vr3.bl_inv, ?_⟩
  cases b with
  | true =>
    have hw3 : wE T C z e s3 (fun w s4 => rCmp op' d2 w s4 P) Xa := hw3
    show tI X.K G A T C W z σ H3 _
    exact ⟨e, s3, _, Xa, a.step r3 (m1.trans (m2.trans m3)), hw3, fun d4 s4 v4 H4 hw4 r4 vr4 m4 => ⟨d2, d4, s4, _, r4, vr2.mono ((m3.trans m4).tl r2), vr4, hw4, fun d5 s5 v5 H5 hw5 r5 vr5 m5 => by
      obtain ⟨b, rfl, q⟩ := hp _ _ _ hw5 r5 (m1.trans (m2.trans (m3.trans (m4.trans m5))))
      exact ⟨b, vr5.bl_inv, q⟩⟩, hx.step (m1.trans (m2.trans m3))⟩
  | false =>
    have hw3 : P (.bl false) s3 := hw3
    obtain ⟨b, e1, q⟩ := hp _ _ _ hw3 r3 (m1.trans (m2.trans m3))
    cases e1
    exact ⟨false, rfl, q⟩
theorem pt_notI {a : Expr} {x : Ex} {pos : Pos} (ha : PTi X G A T C W a x) : PTi X G A T C W (.UnaryOp .Not a pos) (.not x) :=
  (pt_not ha).imp fun σ H Q ⟨e, s, P, Xa, a, hw, hp, hx⟩ => by
    have hw : wE T C x e s (fun d s1 => ∃ i, d = .bl i ∧ P (.bl (!i)) s1) Xa := hw
    refine ⟨e, s, _, Xa, a, hw, fun d s1 H1 h1 r1 m1 => ?_, hx⟩
    obtain ⟨i, e1, q⟩ := h1
    obtain ⟨b, e2, q2⟩ := hp _ _ _ q r1 m1
    cases e2
    exact ⟨i, e1, q2⟩
/-- and, or of several -/
theorem pe_boolI {f : Expr → Option Ex} (hf : ∀ e x, f e = some x → PEi X G A T C W e x) {op : BoolOp} {pos : Pos} : ∀ {es : List Expr} {x : Ex}, cBool f op es = some x → PEi X G A T C W (.BoolOp op es pos) x
  | [], x, h => by cases h
  | [a], x, h => pe_one (hf a x h)
  | a :: b :: r, x, h => by
    obtain ⟨y, h1, h2⟩ := bindO h
    obtain ⟨z, h3, rfl⟩ := mapO h2
    have hb := pe_boolI (pos := pos) hf h3
    cases op with
    | And =>
      refine (pe_and (hf a y h1) hb).imp fun σ H Q ⟨e, s, P, Xa, a, hw, hp, hx⟩ => ⟨e, s, _, Xa, a, hw, fun d1 s1 v1 H1 hw1 r1 vr1 m1 => ?_, hx⟩
      obtain ⟨b, rfl, q⟩ := hw1
      refine ⟨b, vr1.bl_inv, ?_⟩
      cases b with
      | true =>
        have q : wE T C z e s1 (fun y s2 => (∃ j, y = .bl j) ∧ P y s2) Xa := q
        exact ⟨e, s1, _, Xa, a.step r1 m1, q, fun d2 s2 v2 H2 hw2 r2 vr2 m2 => hp _ _ _ _ hw2.2 r2 vr2 (m1.trans m2), hx.step m1⟩
      | false =>
        have q : P (.bl false) s1 := q
        exact post0 (hp.step m1) r1 (.bl _) q
    | Or =>
      refine (pe_or (hf a y h1) hb).imp fun σ H Q ⟨e, s, P, Xa, a, hw, hp, hx⟩ => ⟨e, s, _, Xa, a, hw, fun d1 s1 v1 H1 hw1 r1 vr1 m1 => ?_, hx⟩
      obtain ⟨b, rfl, q⟩ := hw1
      refine ⟨b, vr1.bl_inv, ?_⟩
      cases b with
      | false =>
        have q : wE T C z e s1 (fun y s2 => (∃ j, y = .bl j) ∧ P y s2) Xa := q
        exact ⟨e, s1, _, Xa, a.step r1 m1, q, fun d2 s2 v2 H2 hw2 r2 vr2 m2 => hp _ _ _ _ hw2.2 r2 vr2 (m1.trans m2), hx.step m1⟩
      | true =>
        have q : P (.bl true) s1 := q
        exact post0 (hp.step m1) r1 (.bl _) q
theorem pw_boolI {f : Expr → Option Ex} (hf : ∀ e x, f e = some x → PTi X G A T C W e x) {op : BoolOp} {pos : Pos} : ∀ {es : List Expr} {x : Ex}, cBool f op es = some x → PWi X G A T C W (.BoolOp op es pos) x
  | [], x, h => by cases h
  | [a], x, h => by
    cases op with
    | And => exact pw_and1 (hf a x h)
    | Or => exact pw_or1 (hf a x h)
  | a :: b :: r, x, h => by
    obtain ⟨y, h1, h2⟩ := bindO h
    obtain ⟨z, h3, rfl⟩ := mapO h2
    have hb := pw_boolI (pos := pos) hf h3
    cases op with
    | And =>
      refine (pw_and (hf a y h1) hb).imp fun σ H Q ⟨e, s, P, Xa, a, hw, hp, hx⟩ => ?_
      refine ⟨e, s, _, Xa, a, hw, fun d s1 H1 hw1 r1 m1 => ?_, hx⟩
      obtain ⟨b, rfl, q⟩ := hw1
      refine ⟨b, rfl, ?_⟩
      cases b with
      | true =>
        have q : wE T C z e s1 (fun y s2 => (∃ j, y = .bl j) ∧ P y s2) Xa := q
        exact ⟨e, s1, _, Xa, a.step r1 m1, q, fun d2 s2 H2 hw2 r2 m2 => hp _ _ _ hw2.2 r2 (m1.trans m2), hx.step m1⟩
      | false =>
        have q : P (.bl false) s1 := q
        obtain ⟨b, e1, q⟩ := hp _ _ _ q r1 m1
        cases e1
        exact q
    | Or =>
      refine (pw_or (hf a y h1) hb).imp fun σ H Q ⟨e, s, P, Xa, a, hw, hp, hx⟩ => ?_
      refine ⟨e, s, _, Xa, a, hw, fun d s1 H1 hw1 r1 m1 => ?_, hx⟩
      obtain ⟨b, rfl, q⟩ := hw1
      refine ⟨b, rfl, ?_⟩
      cases b with
      | false =>
        have q : wE T C z e s1 (fun y s2 => (∃ j, y = .bl j) ∧ P y s2) Xa := q
        exact ⟨e, s1, _, Xa, a.step r1 m1, q, fun d2 s2 H2 hw2 r2 m2 => hp _ _ _ hw2.2 r2 (m1.trans m2), hx.step m1⟩
      | true =>
        have q : P (.bl true) s1 := q
        obtain ⟨b, e1, q⟩ := hp _ _ _ q r1 m1
        cases e1
        exact q
theorem pe_ifeI {c a b : Expr} {z x y : Ex} {pos : Pos} (hc : PTi X G A T C W c z) (ha : PEi X G A T C W a x) (hb : PEi X G A T C W b y) : PEi X G A T C W (.IfExp c a b pos) (.ife z x y) :=
  (pe_ifExp hc ha hb).imp fun σ H Q ⟨e, s, P, Xa, a, hw, hp, hx⟩ => ⟨e, s, _, Xa, a, hw, fun d s1 H1 hw1 r1 m1 => by
    obtain ⟨b, rfl, q⟩ := hw1
    refine ⟨b, rfl, ?_⟩
    cases b with
    | true =>
      have q : wE T C x e s1 P Xa := q
      exact ⟨e, s1, _, Xa, a.step r1 m1, q, hp.step m1, hx.step m1⟩
    | false =>
      have q : wE T C y e s1 P Xa := q
      exact ⟨e, s1, _, Xa, a.step r1 m1, q, hp.step m1, hx.step m1⟩, hx⟩

/-! ### built-ins by their names -/
theorem ty_ok (c : Ctx X G A T C k W) {e : Expr} {t : Ty} (h : cTy X.env.scope e = some t) : PE X e (tC (.ty (tyN t))) := by
  cases e with
  | Name x p =>
    obtain ⟨h1, h2⟩ := iteO h
    simp only [Bool.and_eq_true, Bool.not_eq_true'] at h1
    obtain ⟨m1, m2, m3⟩ := magic_no h1.1
    have hm := c.fc.tys x t h2
    have hg : Gl X x := glB_ok h1.2
    unfold tyNames at h2
    simp only [List.lookup_cons, List.lookup_nil] at h2
    repeat (split at h2; · (rename_i e1; have e2 := eq_of_beq e1; subst e2; cases h2; exact pe_bltn hg hm (by decide +kernel) rfl m3 m1))
    cases h2
  | _ => cases h
theorem tys_ok (c : Ctx X G A T C k W) : ∀ {es : List Expr} {ts : List Ty}, cTys X.env.scope es = some ts → PA X es (fun _ H Q => Q (ts.map fun t => V.ty (tyN t)) H)
  | [], ts, h => by
    cases h
    exact pa_nil
  | e :: es, ts, h => by
    obtain ⟨t, h1, h2⟩ := bindO h
    obtain ⟨r, h3, rfl⟩ := mapO h2
    have hs : starEach (e :: es) X.env = (false, eval e X.env) :: starEach es X.env := by
      cases e with
      | Name x p => rfl
      | _ => cases h1
    exact pa_cons (ty_ok c h1) (tys_ok c h3) hs
end
end MH
set_option Elab.async false
set_option linter.all false
set_option maxRecDepth 100000
/-! The clean reading is enough: calls. -/
namespace MH
open PySem L2 PyProof.Rows
section
variable {X : Cx} {G : Gb} {A : Ad} {T : Tab} {C : Nat → List D → S → K1 → XP → Prop} {k : Nat} {W : WX}
theorem blt_ok (c : Ctx X G A T C k W) {x : Str} {b : Blt} {n : Nat} {e : Expr} {es : List Expr} {xs : Exs} {p pos : Pos} (hb : bltNames.lookup x = some (b, n)) (hm : magic x = false) (hg : Gl X x)
    (ha : PA X (e :: es) (tA X.K G A T C W xs)) (he : starEach (e :: es) X.env = (false, eval e X.env) :: starEach es X.env) (hp : ∀ pos, (backTo pos (starEach es X.env)).any (·.1) = false) : PEi X G A T C W (.Call (.Name x p) (e :: es) [] pos) (.blt b xs) := by
  have hn := c.fc.blt x _ hb
  obtain ⟨m1, m2, m3⟩ := magic_no hm
  have fin : ∀ {e' : Expr}, PE X e' (tCB (RCA X.K G A (rBlt b)) (tA X.K G A T C W xs)) → PEi X G A T C W e' (.blt b xs) := fun {e'} h => h.imp fun σ H Q ⟨e, s, P, Xa, a, hw, hp, hx⟩ => ⟨e, s, _, Xa, a, hw, fun ds s1 vs H1 hw1 r1 vr1 m1 => ⟨ds, s1, P, r1, vr1, hw1, hp.step m1⟩, hx⟩
  unfold bltNames at hb
  simp only [List.lookup_cons, List.lookup_nil] at hb
  split at hb
  · rename_i e1; have e2 := eq_of_beq e1; subst e2; cases hb
    exact fin (pe_callB len_ok hg hn (by decide +kernel) ha m3 m1 he (hp pos))
  split at hb
  · rename_i e1; have e2 := eq_of_beq e1; subst e2; cases hb
    exact fin (pe_callTy list_ok hg hn (by decide +kernel) ha m3 m1 he (hp pos))
  split at hb
  · rename_i e1; have e2 := eq_of_beq e1; subst e2; cases hb
    exact fin (pe_callTy tuple_ok hg hn (by decide +kernel) ha m3 m1 he (hp pos))
  split at hb
  · rename_i e1; have e2 := eq_of_beq e1; subst e2; cases hb
    exact fin (pe_callTy dict_ok hg hn (by decide +kernel) ha m3 m1 he (hp pos))
  split at hb
  · rename_i e1; have e2 := eq_of_beq e1; subst e2; cases hb
    exact fin (pe_callB sorted_ok hg hn (by decide +kernel) ha m3 m1 he (hp pos))
  split at hb
  · rename_i e1; have e2 := eq_of_beq e1; subst e2; cases hb
    exact fin (pe_callB (all_ok c.calm) hg hn (by decide +kernel) ha m3 m1 he (hp pos))
  split at hb
  · rename_i e1; have e2 := eq_of_beq e1; subst e2; cases hb
    exact fin (pe_callB (max_ok c.calm) hg hn (by decide +kernel) ha m3 m1 he (hp pos))
  split at hb
  · rename_i e1; have e2 := eq_of_beq e1; subst e2; cases hb
    exact fin (pe_callTy int_ok hg hn (by decide +kernel) ha m3 m1 he (hp pos))
  split at hb
  · rename_i e1; have e2 := eq_of_beq e1; subst e2; cases hb
    exact fin (pe_callB abs_ok hg hn (by decide +kernel) ha m3 m1 he (hp pos))
  · cases hb
/-- the callee runs -/
theorem run_ok (c : Ctx X G A T C k W) {f : Nat} (hf : ∃ fd ps, FnOk X.prog X.w X.K X.mg X.base (L2.CX X.prog X.w) k (A.fn f) fd ps (spC X.K G A (C f)) ∧ Binds X.K fd ps [])
    {pins : List (Addr × Obj)} {σ : L2.St} {H : Hp} {s : Shared} {Q : VK} {us : List Value} {vs : List V} (I : Inv X pins σ H s) (r : Vals vs us) {ds : List D} {st : S} {P : K1} {Xa : XP}
    (rl : Rel X.K G A st H) (vr : VRs X.K H ds vs) (hc : C f ds st P Xa) (hp : Post X.K G A st H P Q) (hx : XL X.K G A W st σ H Xa) : wpAny (model X.prog X.w) X.A (call (.ref (A.fn f)) us) (EP X pins σ Q) X.xe s := by
  obtain ⟨fd, ps, F, b⟩ := hf
  exact run_fnS (E := WE W) F (c.room.mono (Nat.le_succ _)) b (passAt c.tk σ) I r ⟨ds, st, P, Xa, rl, vr, hc, hp, fun k s' H' h1 h2 h3 => hx k s' H' h1 h2 h3⟩
theorem callI (c : Ctx X G A T C k W) {x : Str} {f : Nat} {es : List Expr} {xs : Exs} {p pos : Pos} (hf : G.fns.lookup x = some f) (hm : magic x = false) (hg : Gl X x)
    (ha : PA X es (tA X.K G A T C W xs)) (he : ∀ e r, es = e :: r → starEach (e :: r) X.env = (false, eval e X.env) :: starEach r X.env) (hp : ∀ e r, es = e :: r → ∀ pos, (backTo pos (starEach r X.env)).any (·.1) = false) (h0 : es = [] → xs = .nil) : PEi X G A T C W (.Call (.Name x p) es [] pos) (.call f xs) := by
  obtain ⟨f1, f2, f3⟩ := c.fc.fns x f hf
  obtain ⟨m1, m2, m3⟩ := magic_no hm
  refine ⟨fun pins s σ H Q I ⟨e, st, P, Xa, a, hw, hpo, hx⟩ => ?_⟩
  refine wpAny_Call_Name_kw (ld_glob I hg f1 ?_ m1)
  cases es with
  | nil =>
    refine PySem.W.callWith_K0 I.kIn f2 ?_
    have hxs := h0 rfl
    subst hxs
    exact run_ok c f3 I .nil a.rel .nil hw hpo hx
  | cons e1 r =>
    have hA := ha.run pos pins s σ H (fun vs H1 => ∃ ds s1, Rel X.K G A s1 H1 ∧ VRs X.K H1 ds vs ∧ C f ds s1 P Xa ∧ Post X.K G A s1 H1 P Q ∧ XL X.K G A W s1 σ H1 Xa) I
      ⟨e, st, _, Xa, a, hw, fun ds s1 vs H1 hw1 r1 vr1 m1 => ⟨ds, s1, r1, vr1, hw1, hpo.step m1, hx.step m1⟩, hx⟩
    exact PySem.W.callWith_K (h₀ := X.base) I.ok.mod.kin f2 (thn hA fun us s1 ⟨vs, H1, I1, rr, ds, st1, r1, vr1, hc, hpo1, hx1⟩ => ⟨I1.kIn, run_ok c f3 I1 rr r1 vr1 hc hpo1 hx1⟩) (he e1 r rfl) (hp e1 r rfl pos)
/-- a new object and its maker -/
theorem make_ok (c : Ctx X G A T C k W) {cc f : Nat} (hi : T.init cc = some f)
    {pins : List (Addr × Obj)} {σ : L2.St} {H : Hp} {s : Shared} {Q : VK} {us : List Value} {vs : List V} (I : Inv X pins σ H s) (r : Vals vs us) {ds : List D} {st : S} {P : K1} {Xa : XP}
    (rl : Rel X.K G A st H) (vr : VRs X.K H ds vs) (hc : ∀ p, st p = none → C f (.ob p :: ds) (up st p (.ins cc [])) (fun d s2 => d = .non ∧ P (.ob p) s2) Xa) (hp : Post X.K G A st H P Q) (hx : XL X.K G A W st σ H Xa) : wpAny (model X.prog X.w) X.A (call (.ref (A.cl cc)) us) (EP X pins σ Q) X.xe s := by
  obtain ⟨M, ⟨fd, ps, F, hb⟩, _⟩ := c.fc.init cc f hi
  have n1 : H (s.heap.objs.size + 1) = none := I.hok.fresh (Nat.le_succ _)
  have n2 : H s.heap.objs.size = none := I.hok.fresh (Nat.le_refl _)
  have ne : s.heap.objs.size + 1 ≠ s.heap.objs.size := Nat.succ_ne_self _
  have n3 : upd H s.heap.objs.size (.own (s.heap.objs.size + 1)) (s.heap.objs.size + 1) = none := by rw [upd_ne ne]; exact n1
  have R2 := (rl.put (u := .own (s.heap.objs.size + 1)) n2).new' (o := .ins cc []) (u := .ins (A.cl cc) s.heap.objs.size []) n3 (.ins .nil fun _ h => nomatch h)
  have S2 : Sim st H (up st (s.heap.objs.size + 1) (.ins cc [])) (upd (upd H s.heap.objs.size (.own (s.heap.objs.size + 1))) (s.heap.objs.size + 1) (.ins (A.cl cc) s.heap.objs.size [])) := (Sim.put n2).trans (Sim.new n3)
  have I2 := Inv.made (C := A.cl cc) I
  have V2 : VRs X.K (upd (upd H s.heap.objs.size (.own (s.heap.objs.size + 1))) (s.heap.objs.size + 1) (.ins (A.cl cc) s.heap.objs.size [])) (.ob (s.heap.objs.size + 1) :: ds) (V.ref (s.heap.objs.size + 1) :: vs) := .cons (.ob _) (vr.mono (S2.tl rl))
  have hsp : spC X.K G A (C f) (V.ref (s.heap.objs.size + 1) :: vs) (upd (upd H s.heap.objs.size (.own (s.heap.objs.size + 1))) (s.heap.objs.size + 1) (.ins (A.cl cc) s.heap.objs.size [])) (fun v H2 => v = .non ∧ Q (.ref (s.heap.objs.size + 1)) H2) (WE W σ) :=
    ⟨_, _, _, Xa, R2, V2, hc _ (rl.free n1), fun d s2 v H2 h1 h2 h3 h4 => by
      obtain ⟨e1, h1⟩ := h1
      subst e1
      exact ⟨h3.non_inv, hp _ _ _ _ h1 h2 (.ob _) (S2.trans h4)⟩, fun k s' H' h1 h2 h3 => hx k s' H' h1 h2 (S2.trans h3)⟩
  have r2 : Vals (V.ref (s.heap.objs.size + 1) :: vs) (Value.ref (s.heap.objs.size + 1) :: us) := .cons rfl r
  have hl : (Value.ref (s.heap.objs.size + 1) :: us).length = ps.length := by
    rw [← r2.length]; exact F.len _ _ _ _ hsp
  have hb2 := hb _ (Value.ref (s.heap.objs.size + 1) :: us) I2.kIn (by rw [List.append_nil]; exact hl)
  rw [List.append_nil] at hb2
  refine wpAny_call (make_map (f := A.fn f) I.kIn M.makes M.init (beq_iff_eq.mp M.fn) (codeAny_mono (F.run _ X.stack _ _ ⟨Value.ref (s.heap.objs.size + 1) :: us, []⟩ (Value.ref (s.heap.objs.size + 1) :: us) _ _ (WE W σ) (c.room.make (A.cl cc) us [])
    (I2.env0.make (A.cl cc) us []) hb2 r2 hsp) fun r s' hq' => ?_))
  cases r with
  | error e => exact passAt c.tk σ pins _ _ e s' I2 hq'
  | ok fl =>
    cases fl with
    | ret u =>
      obtain ⟨v, H', I3, rv, ev, q3⟩ := I2.after hq'
      subst ev
      exact ⟨rv, ⟨V.ref (s.heap.objs.size + 1), H', I3, rfl, q3⟩⟩
    | next => exact False.elim hq'
    | brk => exact False.elim hq'
    | cont => exact False.elim hq'
theorem makeI (c : Ctx X G A T C k W) {x : Str} {f : Nat} {es : List Expr} {xs : Exs} {p pos : Pos} (hf : G.cls.lookup x = some f) (hm : magic x = false) (hg : Gl X x)
    (ha : PA X es (tA X.K G A T C W xs)) (he : ∀ e r, es = e :: r → starEach (e :: r) X.env = (false, eval e X.env) :: starEach r X.env) (hp : ∀ e r, es = e :: r → ∀ pos, (backTo pos (starEach r X.env)).any (·.1) = false) (h0 : es = [] → xs = .nil) : PEi X G A T C W (.Call (.Name x p) es [] pos) (.make f xs) := by
  obtain ⟨f1, hkp⟩ := c.fc.cls x f hf
  obtain ⟨m1, m2, m3⟩ := magic_no hm
  refine ⟨fun pins s σ H Q I ⟨e, st, P, Xa, a, hw, hpo, hx⟩ => ?_⟩
  refine wpAny_Call_Name_kw (ld_glob I hg f1 ?_ m1)
  cases es with
  | nil =>
    have hxs := h0 rfl
    subst hxs
    obtain ⟨g, hi, hw⟩ := hw
    refine PySem.W.callWith_K0 I.kIn hkp ?_
    exact make_ok c hi I .nil a.rel .nil hw hpo hx
  | cons e1 r =>
    have hA := ha.run pos pins s σ H (fun vs H1 => ∃ ds s1, Rel X.K G A s1 H1 ∧ VRs X.K H1 ds vs ∧ (∃ g, T.init f = some g ∧ ∀ p, s1 p = none → C g (.ob p :: ds) (up s1 p (.ins f [])) (fun d s2 => d = .non ∧ P (.ob p) s2) Xa) ∧ Post X.K G A s1 H1 P Q ∧ XL X.K G A W s1 σ H1 Xa) I
      ⟨e, st, _, Xa, a, hw, fun ds s1 vs H1 hw1 r1 vr1 m1 => ⟨ds, s1, r1, vr1, hw1, hpo.step m1, hx.step m1⟩, hx⟩
    exact PySem.W.callWith_K (h₀ := X.base) I.ok.mod.kin hkp (thn hA fun us s1 ⟨vs, H1, I1, rr, ds, st1, r1, vr1, ⟨g, hi, hc⟩, hpo1, hx1⟩ => ⟨I1.kIn, make_ok c hi I1 rr r1 vr1 hc hpo1 hx1⟩) (he e1 r rfl) (hp e1 r rfl pos)
theorem few_ok {es : List Expr} {pos : Pos} (hall : ∀ pos, (backTo pos (starEach es X.env)).any (·.1) = false) (h2 : es.length < 30) : ((backTo pos (starEach es X.env)).all (fun x => !x.1) && (backToKw pos (keywordEach [] X.env)).all (fun x => x.1.isSome)
    && decide (es.length + ([] : List Keyword).length + (if ([] : List Keyword).isEmpty then 0 else 1) < 30)) = true := by
  have h1 : (backTo pos (starEach es X.env)).all (fun x => !x.1) = true := by
    rw [List.all_eq_not_any_not]
    simp only [Bool.not_not]
    rw [hall pos]; rfl
  rw [h1]
  simp only [Bool.true_and, Bool.and_eq_true, decide_eq_true_eq]
  exact ⟨rfl, by simpa using h2⟩
theorem mthI (c : Ctx X G A T C k W) {o : Expr} {x : Ex} {n : Str} {m : Nat} {es : List Expr} {xs : Exs} {ap pos : Pos} (ho : PEi X G A T C W o x) (hn : G.attrs[m]? = some n) (hb : attributeBase o n X.env (eval o X.env) = eval o X.env) (hline : (ap.endLine == pos.line) = true) (hlen : es.length < 30) (hall : ∀ pos, (backTo pos (starEach es X.env)).any (·.1) = false)
    (ha : PA X es (tA X.K G A T C W xs)) (he : ∀ e r, es = e :: r → starEach (e :: r) X.env = (false, eval e X.env) :: starEach r X.env) (hp : ∀ e r, es = e :: r → ∀ pos, (backTo pos (starEach r X.env)).any (·.1) = false) (h0 : es = [] → xs = .nil) : PEi X G A T C W (.Call (.Attribute o n ap) es [] pos) (.mth m x xs) := by
  refine ⟨fun pins s σ H Q I ⟨e, st, P, Xa, a, hw, hpo, hx⟩ => ?_⟩
  refine methcall_of ho I ⟨e, st, _, Xa, a, hw, fun d s1 v H1 hw1 r1 vr1 m1 => ?_, hx⟩ (by
    show (do
      let ov ← attributeBase o n X.env (eval o X.env)
      standAt ap.atName
      methodCall o n ap pos X.env ov (es.length + 0) (backTo pos (starEach es X.env)) (backToKw pos (keywordEach [] X.env))) = _
    have few : methodCallForm (es.length + 0) (backTo pos (starEach es X.env)) (backToKw pos (keywordEach [] X.env)) = true := few_ok hall hlen
    rw [hb]
    unfold methodCall calleeOf methodCallPos
    rw [few, hline]
    rfl)
  obtain ⟨p, cc, fs, f, rfl, e2, e3, e4, hw2⟩ := hw1
  obtain ⟨dx, ws, g1, g2, g3⟩ := r1.ins e2
  obtain ⟨k1, k2, k3⟩ := c.fc.meth cc m f n e4 hn
  refine ⟨p, A.cl cc, dx, ws, A.fn f, vr1.ob_inv, g1, k1, k2, (FR.val c.fc.nd g2 hn).2 e3, fun s2 I2 => ?_⟩
  cases es with
  | nil =>
    have hxs := h0 rfl
    subst hxs
    exact PySem.W.callWith_K0 (first := [.ref p]) I2.kIn k2.kp (run_ok c k3 I2 (us := [.ref p]) (vs := [.ref p]) (.cons rfl .nil) r1 (.cons (.ob p) .nil) hw2 (hpo.step m1) (hx.step m1))
  | cons e1 r =>
    have hA := ha.run pos pins s2 σ H1 (fun vs H2 => ∃ ds s3, Rel X.K G A s3 H2 ∧ VRs X.K H2 ds vs ∧ C f (.ob p :: ds) s3 P Xa ∧ Post X.K G A s3 H2 P Q ∧ XL X.K G A W s3 σ H2 Xa) I2
      ⟨e, s1, _, Xa, a.step r1 m1, hw2, fun ds s3 vs H3 hw3 r3 vr3 m3 => ⟨ds, s3, r3, vr3, hw3, hpo.step (m1.trans m3), hx.step (m1.trans m3)⟩, hx.step m1⟩
    exact PySem.W.callWith_K (first := [.ref p]) (h₀ := X.base) I2.ok.mod.kin k2.kp (thn hA fun us s3 ⟨vs, H3, I3, rr, ds, st3, r3, vr3, hc, hpo3, hx3⟩ => ⟨I3.kIn, run_ok c k3 I3 (us := .ref p :: us) (vs := .ref p :: vs) (.cons rfl rr) r3 (.cons (.ob p) vr3) hc hpo3 hx3⟩) (he e1 r rfl) (hp e1 r rfl pos)

/-! ### methods of built-ins -/
theorem bmTy (K : PySem.W.Frag) {st : S} {H : Hp} {d : D} {v : V} {m : Bm} (r : Rel K G A st H) (vr : VR K H d v) (h : bmOk m d st) : tyV K (match m with | .join => "str" | .upper => "str" | .get => "dict" | _ => "list") v H := by
  have lst : (∃ a l, d = .ob a ∧ st a = some (.lst l)) → tyV K "list" v H := by
    rintro ⟨a, l, rfl, hl⟩
    obtain ⟨xs, e1, _⟩ := r.lst hl
    rw [vr.ob_inv]
    exact .inl ⟨rfl, xs, SqL.of e1⟩
  cases m with
  | join => obtain ⟨z, rfl⟩ := h; rw [vr.str_inv]; rfl
  | upper => obtain ⟨z, rfl⟩ := h; rw [vr.str_inv]; rfl
  | get =>
    obtain ⟨a, rfl, h⟩ := h
    rw [vr.ob_inv]
    refine .inr (.inr (.inl ⟨rfl, ?_⟩))
    rcases h with ⟨kvs, h⟩ | ⟨kvs, h⟩
    · obtain ⟨ws, e, _⟩ := r.dK h; exact .inl ⟨ws, e⟩
    · obtain ⟨ws, e, _⟩ := r.dT h; exact .inr ⟨ws, e⟩
  | _ => exact lst h
theorem bmI (c : Ctx X G A T C k W) {o : Expr} {x : Ex} {n : Str} {m : Bm} {i : Nat} {es : List Expr} {xs : Exs} {ap pos : Pos} (hn : bmNames.lookup n = some (m, i)) (hi : es.length = i) (ho : PEi X G A T C W o x) (hb : attributeBase o n X.env (eval o X.env) = eval o X.env) (hline : (ap.endLine == pos.line) = true)
    (ha : PA X es (tA X.K G A T C W xs)) (hall : ∀ pos, (backTo pos (starEach es X.env)).any (·.1) = false) (he : ∀ e r, es = e :: r → starEach (e :: r) X.env = (false, eval e X.env) :: starEach r X.env) (hp : ∀ e r, es = e :: r → ∀ pos, (backTo pos (starEach r X.env)).any (·.1) = false) (h0 : es = [] → xs = .nil) : PEi X G A T C W (.Call (.Attribute o n ap) es [] pos) (.bm m x xs) := by
  have h2 : es.length < 30 := by
    rw [hi]
    unfold bmNames at hn
    simp only [List.lookup_cons, List.lookup_nil] at hn
    repeat (split at hn; · (cases hn; decide))
    cases hn
  have few := few_ok (X := X) (pos := pos) hall h2
  have fin : ∀ {Ty : String} {id : String}, PlainAttrs Ty → Slot Ty n id → typeOf (.builtin id) = pure (.type "method_descriptor") → MtR X id (RMA X.K G A m) → (∀ {st : S} {H : Hp} {d : D} {v : V}, Rel X.K G A st H → VR X.K H d v → bmOk m d st → tyV X.K Ty v H) → es ≠ [] → PEi X G A T C W (.Call (.Attribute o n ap) es [] pos) (.bm m x xs) := by
    intro Ty id pa sl hty hm htv hne
    cases es with
    | nil => exact absurd rfl hne
    | cons e1 r =>
      refine (pe_bm pa sl hty hm ho ha hb few hline (he e1 r rfl) (hp e1 r rfl pos)).imp fun σ H Q ⟨e, s, P, Xa, a, hw, hpo, hx⟩ => ⟨e, s, _, Xa, a, hw, fun d1 s1 v1 H1 hw1 r1 vr1 m1 => ?_, hx⟩
      exact ⟨htv r1 vr1 hw1.1, e, s1, _, Xa, a.step r1 m1, hw1.2, fun ds s2 vs H2 hw2 r2 vr2 m2 => ⟨d1, ds, s2, P, r2, vr1.mono (m2.tl r1), vr2, hw2, hpo.step (m1.trans m2)⟩, hx.step m1⟩
  have ne : i ≠ 0 → es ≠ [] := fun h e => by rw [e] at hi; exact h hi.symm
  have hu : X.A.units + 1 < cLine := by have := c.hu; omega
  unfold bmNames at hn
  simp only [List.lookup_cons, List.lookup_nil] at hn
  split at hn
  · rename_i e1; have e2 := eq_of_beq e1; subst e2; cases hn
    exact fin PySem.F.plainAttrs_list PySem.F.slot_list_append PySem.F.type_list_append append_ok (fun r v h => bmTy X.K r v h) (ne (by decide))
  split at hn
  · rename_i e1; have e2 := eq_of_beq e1; subst e2; cases hn
    exact fin PySem.F.plainAttrs_list PySem.F.slot_list_extend PySem.F.type_list_extend extend_ok (fun r v h => bmTy X.K r v h) (ne (by decide))
  split at hn
  · rename_i e1; have e2 := eq_of_beq e1; subst e2; cases hn
    exact fin PySem.F.plainAttrs_list PySem.F.slot_list_pop PySem.F.type_list_pop pop_ok (fun r v h => bmTy X.K r v h) (ne (by decide))
  split at hn
  · rename_i e1; have e2 := eq_of_beq e1; subst e2; cases hn
    exact fin PySem.F.plainAttrs_list PySem.F.slot_list_insert PySem.F.type_list_insert insert_ok (fun r v h => bmTy X.K r v h) (ne (by decide))
  split at hn
  · rename_i e1; have e2 := eq_of_beq e1; subst e2; cases hn
    exact fin PySem.F.plainAttrs_dict PySem.F.slot_dict_get PySem.F.type_dict_get (get_ok hu) (fun r v h => bmTy X.K r v h) (ne (by decide))
  split at hn
  · rename_i e1; have e2 := eq_of_beq e1; subst e2; cases hn
    exact fin PySem.F.plainAttrs_str PySem.F.slot_str_join PySem.F.type_str_join join_ok (fun r v h => bmTy X.K r v h) (ne (by decide))
  split at hn
  · rename_i e1; have e2 := eq_of_beq e1; subst e2; cases hn
    cases es with
    | cons e1 r => cases hi
    | nil =>
      have hxs := h0 rfl
      subst hxs
      refine (pe_bm0 PySem.F.plainAttrs_str PySem.F.slot_str_upper PySem.F.type_str_upper (upper_ok (G := G) (A := A)) ho hb hline).imp fun σ H Q ⟨e, s, P, Xa, a, hw, hpo, hx⟩ => ⟨e, s, _, Xa, a, hw, fun d1 s1 v1 H1 hw1 r1 vr1 m1 => ?_, hx⟩
      exact ⟨bmTy X.K r1 vr1 hw1.1, d1, [], s1, P, r1, vr1, .nil, hw1.2, hpo.step m1⟩
  · cases hn
end
end MH
set_option Elab.async false
set_option linter.all false
set_option maxRecDepth 100000
/-! The clean reading is enough: dict displays, what is walked, comprehensions. -/
namespace MH
open PySem L2 PyProof.Rows
section
variable {X : Cx} {G : Gb} {A : Ad} {T : Tab} {C : Nat → List D → S → K1 → XP → Prop} {k : Nat} {W : WX}
/-- an object that the store did not know is known from now on -/
theorem Rel.adopt {K : PySem.W.Frag} {s : S} {H : Hp} {p : Addr} {v u : HO} {o : O} (r : Rel K G A s H) (hp : H p = some v) (hv : ∀ xs, v ≠ .tup xs) (hv2 : ∀ o w, v ≠ .frz o w) (ro : RO K G A H o u) : Rel K G A (up s p o) (upd H p u) := fun a o' e => by
  have tl : TL H (upd H p u) := ⟨fun a xs e => by
    rw [upd_ne (fun q => by rw [q, hp] at e; exact hv xs (Option.some.inj e))]; exact e, fun a ob w e => by
    rw [upd_ne (fun q => by rw [q, hp] at e; exact hv2 ob w (Option.some.inj e))]; exact e⟩
  by_cases ha : a = p
  · subst ha; rw [up_same] at e; cases e; exact ⟨u, upd_same, ro.mono tl⟩
  · rw [up_ne ha] at e
    obtain ⟨w, q, rr⟩ := r a o' e
    exact ⟨w, by rw [upd_ne ha]; exact q, rr.mono tl⟩
/-- an object that the store does not know is changed -/
theorem Rel.poke {K : PySem.W.Frag} {s : S} {H : Hp} {p : Addr} {v u : HO} (r : Rel K G A s H) (hp : H p = some v) (hs : s p = none) (hv : ∀ xs, v ≠ .tup xs) (hv2 : ∀ o w, v ≠ .frz o w) : Rel K G A s (upd H p u) ∧ TL H (upd H p u) := by
  have tl : TL H (upd H p u) := ⟨fun a xs e => by
    rw [upd_ne (fun q => by rw [q, hp] at e; exact hv xs (Option.some.inj e))]; exact e, fun a ob w e => by
    rw [upd_ne (fun q => by rw [q, hp] at e; exact hv2 ob w (Option.some.inj e))]; exact e⟩
  refine ⟨fun a o' e => ?_, tl⟩
  obtain ⟨w, q, rr⟩ := r a o' e
  have ha : a ≠ p := fun z => by rw [z, hs] at e; cases e
  exact ⟨w, by rw [upd_ne ha]; exact q, rr.mono tl⟩
theorem mergeK_nd : ∀ (more acc : List (Key × V)), (acc ++ more).map (·.1) |>.Nodup → mergeK acc more = acc ++ more
  | [], acc, _ => by simp [mergeK]
  | (k, v) :: r, acc, h => by
    have h1 : valV acc k = none := by
      cases e : valV acc k with
      | none => rfl
      | some w =>
        exfalso
        have hm : k ∈ acc.map (·.1) := by
          unfold valV at e
          cases f : acc.find? (fun kv => decide (kv.1 = k)) with
          | none => rw [f] at e; cases e
          | some kv =>
            have h2 := List.find?_some f
            have h3 := List.mem_of_find?_eq_some f
            exact List.mem_map.mpr ⟨kv, h3, of_decide_eq_true h2⟩
        rw [List.map_append, List.nodup_append] at h
        exact h.2.2 k hm k (by simp) rfl
    show mergeK (putK acc k v) r = _
    rw [putK_new v h1, mergeK_nd r (acc ++ [(k, v)]) (by simpa using h)]
    simp
theorem zip_rel {K : PySem.W.Frag} {H : Hp} : ∀ {ks : List Str} {ds : List D} {vs : List V}, VRs K H ds vs → ks.length = ds.length → KR K H ((ks.map (Sum.inr : Str → Key)).zip ds) ((ks.map (Sum.inr : Str → Key)).zip vs)
  | [], _, _, .nil, _ => .nil
  | k :: ks, _, _, .cons r q, h => .cons ⟨rfl, r⟩ (zip_rel q (by simpa using h))
theorem zip_pairs : ∀ {ks : List Str} {vs : List V}, ks.length = vs.length → (ks.map V.str).zip vs = ((ks.map (Sum.inr : Str → Key)).zip vs).map fun kv => (kV kv.1, kv.2)
  | [], [], _ => rfl
  | k :: ks, v :: vs, h => by
    simp only [List.map_cons, List.zip_cons_cons]
    rw [zip_pairs (by simpa using h)]; rfl
theorem nodup_zip : ∀ {ks : List Str} {vs : List V}, ks.length = vs.length → ks.Nodup → (((ks.map (Sum.inr : Str → Key)).zip vs).map (·.1)).Nodup := by
  intro ks vs h nd
  rw [List.map_fst_zip (by simp [h])]
  exact List.Pairwise.map _ (fun a b hab e => hab (Sum.inr.inj e)) nd
theorem vals_ok {f : Expr → Option Ex} (hf : ∀ e x, f e = some x → PEi X G A T C W e x) {pos : Pos} : ∀ {ke : List (Option Expr)} {ks : List Str} {es : List Expr} {xs : Exs}, cKeys ke = some ks → cVals G f ks es = some xs →
    ke.all (·.isSome) = true ∧ ke.length = es.length ∧ ks.length = ke.length ∧ ∃ trs, PPs X pos ke es trs ∧ ∀ σ H Q, (∃ e s P Xa, At X.K G A e s σ H ∧ wEs T C xs e s P Xa ∧ (∀ ds s' vs H', P ds s' → Rel X.K G A s' H' → VRs X.K H' ds vs → Sim s H s' H' → Q ((ks.map V.str).zip vs) H') ∧ XL X.K G A W s σ H Xa) → tPairs trs σ H Q
  | [], ks, es, xs, h1, h2 => by
    cases h1
    cases es with
    | cons e es => cases h2
    | nil =>
      cases h2
      exact ⟨rfl, rfl, rfl, [], pps_nil, fun σ H Q ⟨e, s, P, Xa, a, hw, hp, hx⟩ => hp [] s [] H hw a.rel .nil (Sim.refl s H)⟩
  | none :: ke, ks, es, xs, h1, h2 => by cases h1
  | some k :: ke, ks, es, xs, h1, h2 => by
    have key : ∃ z j p r, k = .Constant (.str z) j p ∧ cKeys ke = some r ∧ ks = z :: r := by
      cases k with
      | Constant c j p =>
        cases c with
        | str z =>
          obtain ⟨r, h3, h4⟩ := mapO (show (cKeys ke).map (z :: ·) = some ks from h1)
          exact ⟨z, j, p, r, rfl, h3, h4.symm⟩
        | _ => cases h1
      | _ => cases h1
    obtain ⟨z, j, p, r, rfl, h3, rfl⟩ := key
    cases es with
    | nil => cases h2
    | cons e es =>
      obtain ⟨x, h4, h5⟩ := bindO h2
      obtain ⟨xs', h6, rfl⟩ := mapO h5
      have hx : PEi X G A T C W e x := by
        have nor : ∀ e', e = e' → f e' = some x → PEi X G A T C W e x := fun e' q h => by subst q; exact hf _ _ h
        split at h4
        · cases h4
          exact pe_dnewI _
        · cases h4
        · exact nor _ rfl h4
      obtain ⟨q1, q2, q3, trs, q4, q5⟩ := vals_ok hf h3 h6
      refine ⟨by simpa using q1, by simp [q2], by simp [q3], _, pps_cons pe_str hx q4, fun σ H Q ⟨e, s, P, Xa, a, hw, hp, hx⟩ => ?_⟩
      refine ⟨e, s, _, Xa, a, hw, fun d s1 v H1 hw1 r1 vr1 m1 => ?_, hx⟩
      exact q5 σ H1 _ ⟨e, s1, _, Xa, a.step r1 m1, hw1, fun ds s2 vs H2 hw2 r2 vr2 m2 => hp (d :: ds) s2 (v :: vs) H2 hw2 r2 (.cons (vr1.mono (m2.tl r1)) vr2) (m1.trans m2), hx.step m1⟩
theorem dispI {f : Expr → Option Ex} (hf : ∀ e x, f e = some x → PEi X G A T C W e x) {pos : Pos} {ke : List (Option Expr)} {ks : List Str} {es : List Expr} {xs : Exs} (h1 : cKeys ke = some ks) (h2 : cVals G f ks es = some xs) (h0 : ke ≠ []) (nd : ks.Nodup) (h15 : ks.length ≤ 15) :
    PEi X G A T C W (.Dict ke es pos) (.disp ks xs) := by
  obtain ⟨q1, q2, q3, trs, q4, q5⟩ := vals_ok (pos := pos) hf h1 h2
  refine (pe_disp q4 q1 q2 h0 (by omega)).imp fun σ H Q ⟨e, s, P, Xa, a, hw, hp, hx⟩ p hn => ?_
  have m0 : Sim s H s (upd H p (.dK [])) := Sim.put hn
  refine q5 σ _ _ ⟨e, s, _, Xa, a.step (a.rel.put hn) m0, hw, fun ds s1 vs H1 hw1 r1 vr1 m1 => ?_, hx.step m0⟩
  obtain ⟨e1, e2, e3, hfin⟩ := hw1
  obtain ⟨n1, n2⟩ := m1 p _ upd_same (a.rel.free hn)
  have hl : ks.length = vs.length := by rw [e1]; exact vr1.length
  refine ⟨n2, (ks.map (Sum.inr : Str → Key)).zip vs, zip_pairs hl, by simp [← hl]; omega, ?_⟩
  rw [mergeK_nd _ [] (by simpa using nodup_zip hl nd), List.nil_append]
  refine hp _ _ _ _ (hfin p n1) (r1.adopt n2 (fun _ z => nomatch z) (fun _ _ z => nomatch z) (.dK (zip_rel vr1 e1))) (.ob p) fun b u hb hs => ?_
  have hbp : b ≠ p := fun z => by rw [z, hn] at hb; cases hb
  obtain ⟨g1, g2⟩ := (m0.trans m1) b u hb hs
  exact ⟨by rw [up_ne hbp]; exact g1, by rw [upd_ne hbp]; exact g2⟩

/-! ### what is walked -/
/-- how an iterator goes over items, while the list stays -/
structure Walks (K : PySem.W.Frag) (G : Gb) (A : Ad) (J : It) (v : V) (x : D) (l : List D) (ok : S → Prop) : Prop where
  stop : ∀ s H i, Rel K G A s H → VR K H x v → ok s → l.length ≤ i → J.stop i H
  item : ∀ s H i d, Rel K G A s H → VR K H x v → ok s → l[i]? = some d → J.go i H ∧ ∀ y H', J.yld i H y H' → H' = H ∧ VR K H d y
theorem walks_list {K : PySem.W.Frag} {a : Addr} {x : D} {l : List D} {ok : S → Prop} (h : ∀ s H, Rel K G A s H → VR K H x (.ref a) → ok s → ∃ xs, SqL K H a xs ∧ VRs K H l xs) : Walks K G A (Itl K a) (.ref a) x l ok where
  stop := fun s H i r vr o hi => by
    obtain ⟨xs, h1, h2⟩ := h s H r vr o
    exact ⟨xs, h1, by rw [← h2.length]; exact hi⟩
  item := fun s H i d r vr o hd => by
    obtain ⟨xs, h1, h2⟩ := h s H r vr o
    obtain ⟨v, h3, h4⟩ := h2.get hd
    refine ⟨⟨xs, v, h1, h3⟩, fun y H' hy => ⟨hy.1, ?_⟩⟩
    have e := hy.2 xs h1
    rw [h3] at e; cases e
    exact h4
theorem walks_tup {K : PySem.W.Frag} {a : Addr} {x : D} {l : List D} {ok : S → Prop} (h : ∀ s H, Rel K G A s H → VR K H x (.ref a) → ok s → ∃ xs, SqT K H a xs ∧ VRs K H l xs) : Walks K G A (Itt K a) (.ref a) x l ok where
  stop := fun s H i r vr o hi => by
    obtain ⟨xs, h1, h2⟩ := h s H r vr o
    exact ⟨xs, h1, by rw [← h2.length]; exact hi⟩
  item := fun s H i d r vr o hd => by
    obtain ⟨xs, h1, h2⟩ := h s H r vr o
    obtain ⟨v, h3, h4⟩ := h2.get hd
    refine ⟨⟨xs, v, h1, h3⟩, fun y H' hy => ⟨hy.1, ?_⟩⟩
    have e := hy.2 xs h1
    rw [h3] at e; cases e
    exact h4
theorem walks_range {K : PySem.W.Frag} {v : V} {x : D} {n : Nat} : Walks K G A (Itr 0 n) v x ((List.range n).map fun k => .int (k : Nat)) fun _ => True where
  stop := fun s H i r vr o hi => by
    show n ≤ i
    simpa using hi
  item := fun s H i d r vr o hd => by
    rw [List.getElem?_map] at hd
    cases e : (List.range n)[i]? with
    | none => rw [e] at hd; cases hd
    | some j =>
      rw [e] at hd; cases hd
      obtain ⟨h1, h2⟩ := List.getElem?_eq_some_iff.mp e
      have hn : i < n := by simpa using h1
      have hj : j = i := by rw [← h2]; simp
      subst hj
      refine ⟨hn, fun y H' hy => ⟨hy.1, ?_⟩⟩
      rw [hy.2, Int.zero_add]
      exact .int _
/-- a reading of what is walked -/
def tIt (K : PySem.W.Frag) (G : Gb) (A : Ad) (T : Tab) (C : Nat → List D → S → K1 → XP → Prop) (W : WX) (r : Bool) (x : Ex) : TI := fun σ H R =>
  ∃ (e : Env) (s : S) (Kf : D → S → List D → (S → Prop) → Prop) (Xa : XP), At K G A e s σ H ∧ wE T C x e s (fun d s1 => itemsOf r d s1 (Kf d s1)) Xa ∧ XL K G A W s σ H Xa ∧
    ∀ d s1 v H1 l ok J, Kf d s1 l ok → Rel K G A s1 H1 → VR K H1 d v → Sim s H s1 H1 → Walks K G A J v d l ok → R J H1
theorem walks_str {K : PySem.W.Frag} {z : Str} : Walks K G A (Its z) (.str z) (.str z) (z.cps.toList.map fun c => .str ⟨#[c]⟩) fun _ => True where
  stop := fun s H i r vr o hi => by
    show z.cps.size ≤ i
    simpa using hi
  item := fun s H i d r vr o hd => by
    rw [List.getElem?_map] at hd
    cases e : z.cps.toList[i]? with
    | none => rw [e] at hd; cases hd
    | some c =>
      rw [e] at hd; cases hd
      obtain ⟨h1, h2⟩ := List.getElem?_eq_some_iff.mp e
      refine ⟨by show i < z.cps.size; simpa using h1, fun y H' hy => ⟨hy.1, ?_⟩⟩
      obtain ⟨c', e2, rfl⟩ := hy.2
      have e3 : z.cps[i]? = some c := by rw [← Array.getElem?_toList]; exact e
      rw [e3] at e2; cases e2
      exact .str _
theorem pi_seq {tg l : Expr} {tl : TE} (hl : PE X l tl) : PI X tg l (fun σ H R => tl σ H fun x H1 => (∃ a, x = .ref a ∧ ((∃ xs, SqL X.K H1 a xs) ∧ R (Itl X.K a) H1 ∨ (∃ xs, SqT X.K H1 a xs) ∧ R (Itt X.K a) H1)) ∨ ∃ z, x = .str z ∧ R (Its z) H1) := by
  refine ⟨fun pins s σ H R I h => ?_⟩
  refine thn (hl.run pins s σ H _ I h) fun v s1 ⟨x, H1, I1, r1, q1⟩ => ?_
  rcases q1 with q1 | ⟨z, e, q⟩
  · obtain ⟨a, e, q⟩ := q1
    subst e
    cases r1
    rcases q with ⟨⟨xs, hq⟩, q⟩ | ⟨⟨xs, hq⟩, q⟩
    · obtain ⟨its, rv, p, hz⟩ := I1.list hq
      refine wpAny_pyIter_list p.isList ?_
      refine ⟨s1.heap.objs.size, [s1.heap.objs.size], _, _, H1, rfl, I1.kept (t' := s1.toks) fun b o e => Heap.get?_push_of_some _ e, turn_list a _, ⟨_, Heap.get?_push_size _ rfl, rfl, rfl⟩, fun b hb => ?_, q⟩
      have e : b = s1.heap.objs.size := by simpa using hb
      subst e
      exact I1.fpOk (Nat.le_refl _) (I1.hok.fresh (Nat.le_refl _))
    · obtain ⟨its, rv, p, hz⟩ := I1.tuple hq
      refine wpAny_pyIter_tuple (show s1.heap.IsTuple a its.toArray from p) ?_
      refine ⟨s1.heap.objs.size, [s1.heap.objs.size], _, _, H1, rfl, I1.kept (t' := s1.toks) fun b o e => Heap.get?_push_of_some _ e, turn_tuple a _, ⟨_, Heap.get?_push_size _ rfl, rfl, rfl⟩, fun b hb => ?_, q⟩
      have e : b = s1.heap.objs.size := by simpa using hb
      subst e
      exact I1.fpOk (Nat.le_refl _) (I1.hok.fresh (Nat.le_refl _))
  · subst e
    obtain ⟨t, rfl⟩ := r1
    cases ha : z.cps.all (· < 128)
    · exact wpAny_pyIter_wide ha (pi_one (tk := s1.toks) I1 _ (turn_str _ z t "str_iterator" (.inr rfl)) ⟨_, Heap.get?_push_size _ rfl, rfl, rfl⟩ q)
    · exact wpAny_pyIter_ascii ha (pi_one (tk := s1.toks) I1 _ (turn_str _ z t "str_ascii_iterator" (.inl rfl)) ⟨_, Heap.get?_push_size _ rfl, rfl, rfl⟩ q)
theorem _root_.L2.PI.imp {tg e : Expr} {t t' : TI} (h : PI X tg e t) (i : ∀ σ H R, t' σ H R → t σ H R) : PI X tg e t' := ⟨fun pins s σ H R I q => h.run pins s σ H R I (i σ H R q)⟩
theorem iter_seq {tg e : Expr} {x : Ex} (h : PEi X G A T C W e x) : PI X tg e (tIt X.K G A T C W false x) :=
  (pi_seq h).imp fun σ H R ⟨e, s, Kf, Xa, a, hw, hx, hR⟩ => by
    refine ⟨e, s, _, Xa, a, hw, fun d s1 v H1 hw1 r1 vr1 m1 => ?_, hx⟩
    rcases hw1 with ⟨l, hl, hk⟩ | ⟨z, e1, hk⟩
    · cases d with
      | tup m =>
        cases hl
        obtain ⟨b, xs, rfl, hb, vr⟩ := vr1.tup_inv
        refine .inl ⟨b, rfl, .inr ⟨⟨xs, SqT.of hb⟩, hR _ s1 _ H1 _ _ _ hk r1 vr1 m1 (walks_tup fun s' H' r' vr' o' => ?_)⟩⟩
        obtain ⟨b', xs', e1, hb', vr2⟩ := vr'.tup_inv
        cases e1
        exact ⟨xs', SqT.of hb', vr2⟩
      | ro m =>
        cases hl
        obtain ⟨b, xs, rfl, hb, vr⟩ := vr1.ro_inv
        refine .inl ⟨b, rfl, .inl ⟨⟨xs, hb.sq⟩, hR _ s1 _ H1 _ _ _ hk r1 vr1 m1 (walks_list fun s' H' r' vr' o' => ?_)⟩⟩
        obtain ⟨b', xs', e1, hb', vr2⟩ := vr'.ro_inv
        cases e1
        exact ⟨xs', hb'.sq, vr2⟩
      | ob b =>
        have e1 := vr1.ob_inv
        subst e1
        obtain ⟨xs, e2, vr⟩ := r1.lst (seq_lst hl)
        refine .inl ⟨b, rfl, .inl ⟨⟨xs, SqL.of e2⟩, hR _ s1 _ H1 _ _ _ hk r1 vr1 m1 (walks_list fun s' H' r' vr' o' => ?_)⟩⟩
        obtain ⟨xs', e3, vr2⟩ := r'.lst (seq_lst o')
        exact ⟨xs', SqL.of e3, vr2⟩
      | _ => cases hl
    · subst e1
      have e2 := vr1.str_inv
      subst e2
      exact .inr ⟨z, rfl, hR _ s1 _ H1 _ _ _ hk r1 vr1 m1 walks_str⟩
theorem iter_rng (c : Ctx X G A T C k W) {tg e : Expr} {x : Ex} {p pos : Pos} (hg : Gl X "range") (h : PEi X G A T C W e x) (hs : starEach [e] X.env = [(false, eval e X.env)]) : PI X tg (.Call (.Name "range" p) [e] [] pos) (tIt X.K G A T C W true x) :=
  (pi_range1 hg c.fc.rng (pa_cons h pa_nil (by rw [hs]; rfl)) hs).imp fun σ H R ⟨e, s, Kf, Xa, a, hw, hx, hR⟩ => by
    refine ⟨e, s, _, Xa, a, hw, fun d s1 v H1 hw1 r1 vr1 m1 => ?_, hx⟩
    obtain ⟨n, rfl, h0, hn, hk⟩ := hw1
    have e1 := vr1.int_inv
    subst e1
    exact ⟨n, rfl, Int.le_trans (by decide) h0, hn, hR _ s1 _ H1 _ _ _ hk r1 vr1 m1 walks_range⟩
end
end MH
set_option Elab.async false
set_option linter.all false
set_option maxRecDepth 100000
/-! The clean reading is enough: comprehensions, all expressions. -/
namespace MH
open PySem L2 PyProof.Rows
section
variable {X : Cx} {G : Gb} {A : Ad} {T : Tab} {C : Nat → List D → S → K1 → XP → Prop} {k : Nat} {W : WX}
theorem Ctx.blk (c : Ctx X G A T C k W) (s : Shared) (H : Hp) (scope : Scope) (ce : PySem.Env) (fp : List Addr) : Ctx (X.blk s H scope ce fp) G A T C k (fun _ _ _ _ => False) :=
  ⟨c.calm, c.nd, c.room, takes0, c.fc⟩
def ttOf (K : PySem.W.Frag) (G : Gb) (A : Ad) (T : Tab) (C : Nat → List D → S → K1 → XP → Prop) (c : Exo) : TT := match c with
  | .no => tYes
  | .yes z => tTst K G A T C (fun _ _ _ _ => False) z
theorem tt_of {K : PySem.W.Frag} {c : Exo} {e : Env} {s : S} {σ : L2.St} {H : Hp} {P : Bool → S → Prop} {Q : Bool → Hp → Prop} (a : At K G A e s σ H) (hw : wB T C c e s P) (hp : ∀ b s' H', P b s' → Rel K G A s' H' → Sim s H s' H' → Q b H') : ttOf K G A T C c σ H Q := by
  cases c with
  | no => exact hp true s H hw a.rel (Sim.refl s H)
  | yes z =>
    refine ⟨e, s, _, _, a, hw, fun d s' H' h1 h2 h3 => ?_, XL.no⟩
    obtain ⟨b, rfl, q⟩ := h1
    exact ⟨b, rfl, hp b s' H' q h2 h3⟩
theorem wipe1 (σ : L2.St) (i : Nat) : wipe σ [i] = σ.set i none := rfl
theorem lcI (c : Ctx X G A T C k W) {r : Bool} {elt tg iter : Expr} {ifs : List Expr} {scope : Scope} {pos : Pos} {i : Nat} {y : Str} {x it : Ex} {cz : Exo}
    (hi : PI X tg iter (tIt X.K G A T C W r it)) (ok : BlkOk X.N X.env.scope scope [(y, i)])
    (hg : ∀ (s : Shared) (H : Hp) (C0 : Addr) (cl : List (Str × Addr)) (fp : List Addr), PG (X.blk s H scope (compEnvC scope cl C0 X.env) fp) tg (gName i))
    (ht : ∀ (s : Shared) (H : Hp) (C0 : Addr) (cl : List (Str × Addr)) (fp : List Addr), PTs (X.blk s H scope (compEnvC scope cl C0 X.env) fp) ifs (ttOf X.K G A T C cz))
    (he : ∀ (s : Shared) (H : Hp) (C0 : Addr) (cl : List (Str × Addr)) (fp : List Addr), PE (X.blk s H scope (compEnvC scope cl C0 X.env) fp) elt (tI X.K G A T C (fun _ _ _ _ => False) x)) :
    ∀ σ H Q, tI X.K G A T C W (.lc r x i it cz) σ H Q → tLc (tIt X.K G A T C W r it) (gName i) (ttOf X.K G A T C cz) (tI X.K G A T C (fun _ _ _ _ => False) x) [i] σ H Q := by
  rintro σ H Q ⟨e, s, P, Xa, a, hw, hp, hx⟩
  refine ⟨e, s, _, Xa, a, hw, hx, ?_⟩
  rintro d s1 v H1 l ok' J ⟨hlen, hit⟩ r1 vr1 m1 wk Da hD
  -- the loop
  refine ⟨fun j m H2 => m = l.length - j ∧ j ≤ l.length ∧ ∃ acc s2 av, Rel X.K G A s2 H2 ∧ H2 Da = some (.lst av) ∧ s2 Da = none ∧ VRs X.K H2 acc av ∧ acc.length ≤ j ∧ Sim s H s2 H2 ∧ VR X.K H2 d v ∧ REnv X.K H2 e σ ∧
    wItems (fun d s2 K => wB T C cz (e.set i (some d)) s2 fun b s3 => if b = true then wE T C x (e.set i (some d)) s3 (fun y s4 => K (some y) s4) (fun _ _ => False) else K none s3) ok' (l.drop j) acc s2 fun acc s5 => ∀ p, s5 p = none → P (.ob p) (up s5 p (.lst acc)), ?_, ?_⟩
  · refine ⟨l.length, by omega, Nat.zero_le _, [], s1, [], r1.put hD, upd_same, r1.free hD, .nil, Nat.le_refl _, m1.trans (Sim.put hD), vr1.mono (TL.new hD), (a.env.mono (m1.tl a.rel)).mono (TL.new hD), ?_⟩
    rw [List.drop_zero]
    exact hit
  · rintro j m H2 ⟨hm, hj, acc, s2, av, r2, e2, n2, va, hal, m2, vd2, en2, hw2⟩
    have finish : ∀ {s3 : S} {H3 : Hp} {acc : List D} {av : List V}, Rel X.K G A s3 H3 → H3 Da = some (.lst av) → s3 Da = none → VRs X.K H3 acc av → Sim s H s3 H3 → (∀ p, s3 p = none → P (.ob p) (up s3 p (.lst acc))) → Q (.ref Da) H3 := fun {s3 H3 acc av} r3 e3 n3 va m3 h => by
      have e4 : upd H3 Da (.lst av) = H3 := by
        funext b
        by_cases hb : b = Da
        · subst hb; rw [upd_same, e3]
        · rw [upd_ne hb]
      have r4 := r3.adopt (o := .lst acc) (u := .lst av) e3 (fun _ z => nomatch z) (fun _ _ z => nomatch z) (.lst va)
      rw [e4] at r4
      refine hp _ _ _ _ (h Da n3) r4 (.ob Da) fun b u hb hs => ?_
      obtain ⟨g1, g2⟩ := m3 b u hb hs
      have hbD : b ≠ Da := fun z => by
        subst z
        obtain ⟨_, g3⟩ := m1 b u hb hs
        rw [hD] at g3; cases g3
      exact ⟨by rw [up_ne hbD]; exact g1, g2⟩
    by_cases hlt : j < l.length
    · obtain ⟨dj, hdj⟩ : ∃ dj, l[j]? = some dj := ⟨l[j], by simp [hlt]⟩
      have hdrop : l.drop j = dj :: l.drop (j + 1) := by
        rw [List.drop_eq_getElem_cons hlt]
        have : l[j] = dj := by
          rw [List.getElem?_eq_getElem hlt] at hdj
          exact Option.some.inj hdj
        rw [this]
      rw [hdrop] at hw2
      obtain ⟨hok, hw2⟩ := hw2
      obtain ⟨hgo, hyl⟩ := wk.item s2 H2 j dj r2 vd2 hok hdj
      refine .inr ⟨hgo, fun H3 => ∃ acc s3 av, Rel X.K G A s3 H3 ∧ H3 Da = some (.lst av) ∧ s3 Da = none ∧ VRs X.K H3 acc av ∧ acc.length ≤ j + 1 ∧ Sim s H s3 H3 ∧ VR X.K H3 d v ∧ REnv X.K H3 e σ ∧
        wItems (fun d s2 K => wB T C cz (e.set i (some d)) s2 fun b s3 => if b = true then wE T C x (e.set i (some d)) s3 (fun y s4 => K (some y) s4) (fun _ _ => False) else K none s3) ok' (l.drop (j + 1)) acc s3 (fun acc s5 => ∀ p, s5 p = none → P (.ob p) (up s5 p (.lst acc))), fun H3 h3 => ⟨l.length - (j + 1), by omega, rfl, hlt, h3⟩, fun y H3 hy => ?_⟩
      obtain ⟨e3, vy⟩ := hyl y H3 hy
      subst e3
      have es : ((wipe σ [i]).set i (some y)) = σ.set i (some y) := by rw [wipe1, List.set_set]
      show wipe ((wipe σ [i]).set i (some y)) [i] = wipe σ [i] ∧ ttOf X.K G A T C cz ((wipe σ [i]).set i (some y)) H3 _
      rw [es]
      refine ⟨by rw [wipe1, wipe1, List.set_set], ?_⟩
      have at2 : At X.K G A (e.set i (some dj)) s2 (σ.set i (some y)) H3 := ⟨r2, en2.set i vy⟩
      refine tt_of at2 hw2 fun b s3 H4 hb r3 m3 => ?_
      have keepD : ∀ {s4 : S} {H5 : Hp}, Sim s2 H3 s4 H5 → s4 Da = none ∧ H5 Da = some (.lst av) := fun m => m Da _ e2 n2
      cases b with
      | false =>
        obtain ⟨k1, k2⟩ := keepD m3
        exact ⟨acc, s3, av, r3, k2, k1, va.mono (m3.tl r2), Nat.le_succ_of_le hal, m2.trans m3, vd2.mono (m3.tl r2), en2.mono (m3.tl r2), hb⟩
      | true =>
        have hb : wE T C x (e.set i (some dj)) s3 (fun y s4 => wItems _ ok' (l.drop (j + 1)) (acc ++ [y]) s4 _) (fun _ _ => False) := hb
        show tI X.K G A T C (fun _ _ _ _ => False) x (σ.set i (some y)) H4 _
        refine ⟨e.set i (some dj), s3, _, _, at2.step r3 m3, hb, fun dy s4 vy4 H5 hw4 r4 vr4 m4 => ?_, XL.no⟩
        have m34 := m3.trans m4
        obtain ⟨k1, k2⟩ := keepD m34
        have hz : av.length < sizeLine := by
          rw [← va.length]; omega
        obtain ⟨r5, t5⟩ := r4.poke (u := .lst (av ++ [vy4])) k2 k1 (fun _ z => nomatch z) (fun _ _ z => nomatch z)
        refine ⟨av, k2, hz, acc ++ [dy], s4, av ++ [vy4], r5, upd_same, k1, ((va.mono (m34.tl r2)).append (.cons vr4 .nil)).mono t5, by rw [List.length_append]; simp; omega, fun b u hb hs => ?_, (vd2.mono (m34.tl r2)).mono t5, (en2.mono (m34.tl r2)).mono t5, hw4⟩
        obtain ⟨g1, g2⟩ := (m2.trans m34) b u hb hs
        have hbD : b ≠ Da := fun z => by
          subst z
          obtain ⟨_, g3⟩ := m1 b u hb hs
          rw [hD] at g3; cases g3
        exact ⟨g1, by rw [upd_ne hbD]; exact g2⟩
    · have ej : j = l.length := by omega
      subst ej
      rw [List.drop_length] at hw2
      obtain ⟨hok, hw2⟩ := hw2
      exact .inl ⟨wk.stop s2 H2 _ r2 vd2 hok (Nat.le_refl _), finish r2 e2 n2 va m2 hw2⟩
end
end MH
set_option Elab.async false
set_option linter.all false
set_option maxRecDepth 100000
/-! The clean reading is enough: all expressions. -/
namespace MH
open PySem L2 PyProof.Rows
section
variable {G : Gb} {A : Ad} {T : Tab} {C : Nat → List D → S → K1 → XP → Prop} {k : Nat} {N : List Str}
theorem base_ok {o : Expr} {f : Str} {env : PySem.Env} (h : plainBase o = true) : attributeBase o f env (eval o env) = eval o env := by
  cases o with
  | Call g args kws p =>
    cases args with
    | nil =>
      cases kws with
      | nil => cases h
      | cons _ _ => cases g <;> rfl
    | cons _ _ => cases g <;> rfl
  | _ => rfl
theorem callE_ok {X : Cx} {W : WX} (c : Ctx X G A T C k W) {f : Expr → Option Ex} (hf : ∀ e x, f e = some x → PEi X G A T C W e x) {g : Str} {args : List Expr} {p pos : Pos} {x : Ex} (h : cCall G f X.env.scope g args = some x) : PEi X G A T C W (.Call (.Name g p) args [] pos) x := by
  unfold cCall at h
  obtain ⟨h1, h⟩ := iteO h
  simp only [Bool.and_eq_true, Bool.not_eq_true'] at h1
  have hg : Gl X g := glB_ok h1.2
  split at h
  · rename_i i hi
    obtain ⟨xs, h2, rfl⟩ := mapO h
    obtain ⟨p1, p2, p3, p4, p5⟩ := pa_ok hf h2
    exact callI c hi h1.1 hg p1 p3 p4 p5
  · split at h
    · rename_i i hi
      obtain ⟨xs, h2, rfl⟩ := mapO h
      obtain ⟨p1, p2, p3, p4, p5⟩ := pa_ok hf h2
      exact makeI c hi h1.1 hg p1 p3 p4 p5
    · split at h
      · rename_i e1
        obtain ⟨m1, m2, m3⟩ := magic_no h1.1
        have hgi : X.mg g = none := by rw [e1]; exact c.fc.isi
        have hgb : bootBuiltins g = some (.builtin "isinstance") := by rw [e1]; decide +kernel
        split at h
        · rename_i a t pt _
          obtain ⟨xs, h2, h⟩ := bindO h
          obtain ⟨p1, p2, p3, p4, p5⟩ := pa_ok hf h2
          split at h
          · rename_i xa
            obtain ⟨ty, h3, rfl⟩ := mapO h
            have hs : starEach [a, .Name t pt] X.env = (false, eval a X.env) :: starEach [.Name t pt] X.env := by
              have := p3 a [] rfl
              have hne : ∀ e' p', a ≠ .Starred e' p' := fun e' p' z => by subst z; cases h2
              cases a <;> first | rfl | exact absurd rfl (hne _ _)
            have ha : PEi X G A T C W a xa := by
              have : f a = some xa := by
                have hne : ∀ e' p', a ≠ .Starred e' p' := fun e' p' z => by subst z; cases h2
                have h2' : (f a).bind (fun x => (cL f []).map (Exs.cons x)) = some (Exs.cons xa Exs.nil) := by
                  cases a <;> first | exact h2 | exact absurd rfl (hne _ _)
                obtain ⟨x', q1, q2⟩ := bindO h2'
                cases q2
                exact q1
              exact hf _ _ this
            have pa2 := pa_cons ha (pa_cons (ty_ok c h3) (pa_nil (X := X)) (by rfl)) hs
            refine (pe_callB (isi_one (X := X) (G := G) (A := A) (t := ty)) hg hgi hgb pa2 m3 m1 hs (by rfl)).imp fun σ H Q ⟨e, s, P, Xa, a, hw, hp, hx⟩ => ?_
            refine ⟨e, s, _, Xa, a, hw, fun d s1 v H1 hw1 r1 vr1 m1 => ?_, hx⟩
            obtain ⟨b, hb, q⟩ := hw1
            exact ⟨d, v, s1, P, b, rfl, r1, vr1, hb, q, hp.step m1⟩
          · cases h
        · rename_i a ts kt pt _
          obtain ⟨xs, h2, h⟩ := bindO h
          split at h
          · rename_i xa
            obtain ⟨ty, h3, h⟩ := bindO h
            split at h
            · cases h
            rename_i hne0
            cases h
            have hne : ∀ e' p', a ≠ .Starred e' p' := fun e' p' z => by subst z; cases h2
            have hs : starEach [a, .Tuple ts kt pt] X.env = (false, eval a X.env) :: starEach [.Tuple ts kt pt] X.env := by
              cases a <;> first | rfl | exact absurd rfl (hne _ _)
            have ha : PEi X G A T C W a xa := by
              have : f a = some xa := by
                have h2' : (f a).bind (fun x => (cL f []).map (Exs.cons x)) = some (Exs.cons xa Exs.nil) := by
                  cases a <;> first | exact h2 | exact absurd rfl (hne _ _)
                obtain ⟨x', q1, q2⟩ := bindO h2'
                cases q2
                exact q1
              exact hf _ _ this
            have pa2 := pa_cons ha (pa_cons (pe_tup (tys_ok c h3)) (pa_nil (X := X)) (by rfl)) hs
            refine (pe_callB (isi_many (X := X) (G := G) (A := A) (ts := ty)) hg hgi hgb pa2 m3 m1 hs (by rfl)).imp fun σ H Q ⟨e, s, P, Xa, a, hw, hp, hx⟩ => ?_
            refine ⟨e, s, _, Xa, a, hw, fun d s1 v H1 hw1 r1 vr1 m1 => ?_, hx⟩
            obtain ⟨b, hb, q⟩ := hw1
            refine ⟨?_, fun tp htp => ?_⟩
            · rw [List.length_map]
              have h15 : ty.length ≤ 15 := by
                simp only [Bool.or_eq_true, decide_eq_true_eq, not_or] at hne0
                omega
              rw [sizeLine_eq]; omega
            · exact ⟨d, v, tp, s1, P, b, rfl, upd_same, fun z => by subst z; exact hne0 (by rfl), r1.put htp, vr1.mono (TL.new htp), hb, q, fun d' s' v' H' q1 q2 q3 q4 => hp _ _ _ _ q1 q2 q3 (m1.trans ((Sim.put htp).trans q4))⟩
          · cases h
        · cases h
      · split at h
        · rename_i b n hb
          obtain ⟨h3, h⟩ := iteO h
          obtain ⟨xs, h2, rfl⟩ := mapO h
          obtain ⟨p1, p2, p3, p4, p5⟩ := pa_ok hf h2
          cases args with
          | nil =>
            exfalso
            have h4 : n = 0 := (of_decide_eq_true h3).symm
            subst h4
            unfold bltNames at hb
            simp only [List.lookup_cons, List.lookup_nil] at hb
            repeat (split at hb; · (cases hb))
            cases hb
          | cons e es => exact blt_ok c hb h1.1 hg p1 (p3 e es rfl) (p4 e es rfl)
        · cases h
theorem methE_ok {X : Cx} {W : WX} (c : Ctx X G A T C k W) {f : Expr → Option Ex} (hf : ∀ e x, f e = some x → PEi X G A T C W e x) {o : Expr} {m : Str} {args : List Expr} {ap pos : Pos} {x : Ex} (hb : plainBase o = true) (h : cMeth G f o m ap pos args = some x) : PEi X G A T C W (.Call (.Attribute o m ap) args [] pos) x := by
  unfold cMeth at h
  obtain ⟨h1, h⟩ := iteO h
  obtain ⟨xo, ho, h⟩ := bindO h
  split at h
  · rename_i b n hbm
    obtain ⟨h3, h⟩ := iteO h
    obtain ⟨xs, h2, rfl⟩ := mapO h
    obtain ⟨p1, p2, p3, p4, p5⟩ := pa_ok hf h2
    exact bmI c hbm (of_decide_eq_true h3) (hf _ _ ho) (base_ok hb) h1 p1 (by
      cases args with
      | nil => intro pos; rfl
      | cons e es => intro pos; rw [p3 e es rfl]; show (false || _) = false; rw [Bool.false_or]; exact p4 e es rfl pos) p3 p4 p5
  · obtain ⟨h3, h⟩ := iteO h
    obtain ⟨i, hi, h⟩ := bindO h
    obtain ⟨xs, h2, rfl⟩ := mapO h
    obtain ⟨p1, p2, p3, p4, p5⟩ := pa_ok hf h2
    exact mthI c (hf _ _ ho) (ixOf_some hi) (base_ok hb) h1 (of_decide_eq_true h3) p2 p1 p3 p4 p5
theorem iter_ok {X : Cx} {W : WX} (c : Ctx X G A T C k W) {f : Expr → Option Ex} (hf : ∀ e x, f e = some x → PEi X G A T C W e x) {tg e : Expr} {it : Bool × Ex} (h : cIter f X.env.scope e = some it) : PI X tg e (tIt X.K G A T C W it.1 it.2) ∧ ∀ x, foldedSetIterable e X.env x = pure x := by
  have plain : (f e).map (fun x => (false, x)) = some it → PI X tg e (tIt X.K G A T C W it.1 it.2) := fun h => by
    obtain ⟨x, h1, rfl⟩ := mapO h
    exact iter_seq (hf _ _ h1)
  unfold cIter at h
  split at h
  · rename_i g pg a pos
    split at h
    · rename_i h1
      simp only [Bool.and_eq_true, decide_eq_true_eq] at h1
      obtain ⟨h1, rfl⟩ := h1
      obtain ⟨xs, h2, h⟩ := bindO h
      split at h
      · rename_i xa
        cases h
        have hne : ∀ e' p', a ≠ .Starred e' p' := fun e' p' z => by subst z; cases h2
        have hs : starEach [a] X.env = [(false, eval a X.env)] := by
          cases a <;> first | rfl | exact absurd rfl (hne _ _)
        have h2' : (f a).bind (fun x => (cL f []).map (Exs.cons x)) = some (Exs.cons xa Exs.nil) := by
          cases a <;> first | exact h2 | exact absurd rfl (hne _ _)
        obtain ⟨x', q1, q2⟩ := bindO h2'
        cases q2
        exact ⟨iter_rng c (glB_ok h1) (hf _ _ q1) hs, fun _ => rfl⟩
      · cases h
    · exact ⟨plain h, fun _ => rfl⟩
  · cases h
  · refine ⟨plain h, ?_⟩
    rename_i h1 h2
    cases e with
    | Set a b c => exact absurd rfl (h2 a b c)
    | _ => intro x; rfl
end
end MH
set_option Elab.async false
set_option linter.all false
set_option maxRecDepth 100000
/-! The clean reading is enough: the induction over expressions. -/
namespace MH
open PySem L2 PyProof.Rows
section
variable {G : Gb} {A : Ad} {T : Tab} {C : Nat → List D → S → K1 → XP → Prop} {k : Nat} {N : List Str}
/-- what the compiled expression promises, at all places -/
def EOk (G : Gb) (A : Ad) (T : Tab) (C : Nat → List D → S → K1 → XP → Prop) (k : Nat) (N : List Str) (n : Nat) : Prop :=
  ∀ (X : Cx) (W : WX), Ctx X G A T C k W → X.N = N → ∀ e x, cE G N n X.env.scope e = some x → PEi X G A T C W e x
def TOk (G : Gb) (A : Ad) (T : Tab) (C : Nat → List D → S → K1 → XP → Prop) (k : Nat) (N : List Str) (n : Nat) : Prop :=
  ∀ (X : Cx) (W : WX), Ctx X G A T C k W → X.N = N → ∀ e x, cT G N n X.env.scope e = some x → PTi X G A T C W e x
def LcGoal (G : Gb) (A : Ad) (T : Tab) (C : Nat → List D → S → K1 → XP → Prop) (X : Cx) (W : WX) (elt : Expr) (gs : List Comprehension) (scope : Scope) (x : Ex) : Prop :=
    ∃ (tg iter : Expr) (ifs : List Expr) (wi : TI) (g : TG) (tt : TT) (te : TE) (own : List (Str × Nat)), gs = [⟨tg, iter, ifs, 0⟩] ∧ PI X tg iter wi ∧ BlkOk X.N X.env.scope scope own ∧
      (∀ (s : Shared) (H : Hp) (C : Addr) (cl : List (Str × Addr)) (fp : List Addr), PG (X.blk s H scope (compEnvC scope cl C X.env) fp) tg g) ∧ (∀ (s : Shared) (H : Hp) (C : Addr) (cl : List (Str × Addr)) (fp : List Addr), PTs (X.blk s H scope (compEnvC scope cl C X.env) fp) ifs tt) ∧
      (∀ (s : Shared) (H : Hp) (C : Addr) (cl : List (Str × Addr)) (fp : List Addr), PE (X.blk s H scope (compEnvC scope cl C X.env) fp) elt te) ∧ (∀ x, foldedSetIterable iter X.env x = pure x) ∧ (∀ σ H Q, tI X.K G A T C W x σ H Q → tLc wi g tt te (own.map (·.2)) σ H Q)
theorem cmpE_ok {X : Cx} {W : WX} (c : Ctx X G A T C k W) {f : Expr → Option Ex} (hf : ∀ e x, f e = some x → PEi X G A T C W e x) {a : Expr} {ops : List CmpOp} {bs : List Expr} {p : Pos} {x : Ex} (h : cCmp f a ops bs = some x) : PEi X G A T C W (.Compare a ops bs p) x ∧ PTi X G A T C W (.Compare a ops bs p) x := by
  unfold cCmp at h
  split at h
  · split at h
    · rename_i hm
      obtain ⟨y, h2, h⟩ := bindO h
      obtain ⟨z, h3, rfl⟩ := mapO h
      exact ⟨pe_cmpI c (hf _ _ h2) (hf _ _ h3) hm, pt_cmpI c (hf _ _ h2) (hf _ _ h3) hm⟩
    · cases h
  · obtain ⟨h1, h⟩ := iteO h
    simp only [Bool.and_eq_true, decide_eq_true_eq] at h1
    obtain ⟨y, h2, h⟩ := bindO h
    obtain ⟨z, h3, h⟩ := bindO h
    obtain ⟨w, h4, rfl⟩ := mapO h
    exact ⟨pe_chnI c (hf _ _ h2) (hf _ _ h3) (hf _ _ h4) h1.1.1.1 h1.1.1.2 h1.1.2 h1.2, pt_chnI c (hf _ _ h2) (hf _ _ h3) (hf _ _ h4) h1.1.1.1 h1.1.1.2 h1.1.2 h1.2⟩
  · cases h
theorem lcE_ok {n : Nat} (hE : EOk G A T C k N n) (hT : TOk G A T C k N n) {X : Cx} {W : WX} (c : Ctx X G A T C k W) (hN : X.N = N) {elt : Expr} {gs : List Comprehension} {scope : Scope} {pos : Pos} {x : Ex} (h : cE G N (n + 1) X.env.scope (.ListComp elt gs scope pos) = some x) :
    LcGoal G A T C X W elt gs scope x := by
  have build : ∀ {y : Str} {yp : Pos} {iter : Expr} {ifs : List Expr} {i : Nat} {it : Bool × Ex} {xe : Ex} {cz : Exo}, ixOf N y = some i → (blkC N X.env.scope scope [(y, i)] && decide ((relS scope X.env.scope).names.lookup y = some .local)) = true →
      cIter (cE G N n X.env.scope) X.env.scope iter = some it → cE G N n (relS scope X.env.scope) elt = some xe →
      (∀ (s : Shared) (H : Hp) (C0 : Addr) (cl : List (Str × Addr)) (fp : List Addr), PTs (X.blk s H scope (compEnvC scope cl C0 X.env) fp) ifs (ttOf X.K G A T C cz)) → x = .lc it.1 xe i it.2 cz → gs = [⟨.Name y yp, iter, ifs, 0⟩] → LcGoal G A T C X W elt gs scope x := by
    intro y yp iter ifs i it xe cz h1 h2 h3 h4 h5 h6 h7
    subst h6 h7
    simp only [Bool.and_eq_true, decide_eq_true_eq] at h2
    obtain ⟨p1, p2⟩ := iter_ok (tg := .Name y yp) c (fun e x => hE X W c hN e x) h3
    have ok : BlkOk X.N X.env.scope scope [(y, i)] := by rw [hN]; exact blkOk_by h2.1
    have g1 : ∀ (s : Shared) (H : Hp) (C0 : Addr) (cl : List (Str × Addr)) (fp : List Addr), PG (X.blk s H scope (compEnvC scope cl C0 X.env) fp) (.Name y yp) (gName i) := fun s H C0 cl fp =>
      pg_name c.nd (by show X.N[i]? = some y; rw [hN]; exact ixOf_some h1) (.inl h2.2) (.inr h2.2)
    have e1 : ∀ (s : Shared) (H : Hp) (C0 : Addr) (cl : List (Str × Addr)) (fp : List Addr), PE (X.blk s H scope (compEnvC scope cl C0 X.env) fp) elt (tI X.K G A T C (fun _ _ _ _ => False) xe) := fun s H C0 cl fp =>
      hE _ _ (c.blk s H scope _ fp) hN elt xe h4
    exact ⟨_, _, _, _, _, _, _, [(y, i)], rfl, p1, ok, g1, h5, e1, p2, lcI (pos := pos) c p1 ok g1 h5 e1⟩
  have h : cLC N (cE G N n) (cT G N n) X.env.scope elt gs scope = some x := h
  unfold cLC at h
  split at h
  · rename_i tg iter ifs kk
    split at h
    · rename_i y yp
      obtain ⟨h0, h⟩ := iteO h
      have h0 := of_decide_eq_true h0
      subst h0
      obtain ⟨i, h1, h⟩ := bindO h
      obtain ⟨h2, h⟩ := iteO h
      obtain ⟨it, h3, h⟩ := bindO h
      obtain ⟨xe, h4, h⟩ := mapO h
      exact build h1 h2 h3 h4 (fun _ _ _ _ _ => pts_nil) h.symm rfl
    · rename_i y yp cc
      obtain ⟨h0, h⟩ := iteO h
      have h0 := of_decide_eq_true h0
      subst h0
      obtain ⟨i, h1, h⟩ := bindO h
      obtain ⟨h2, h⟩ := iteO h
      obtain ⟨it, h3, h⟩ := bindO h
      obtain ⟨xe, h4, h⟩ := bindO h
      obtain ⟨xc, h5, h⟩ := mapO h
      exact build (cz := .yes xc) h1 h2 h3 h4 (fun s H C0 cl fp => pts_one (hT _ _ (c.blk s H scope _ fp) hN cc xc h5)) h.symm rfl
    · cases h
  · cases h
theorem stepE {n : Nat} (hE : EOk G A T C k N n) (hT : TOk G A T C k N n) : EOk G A T C k N (n + 1) := by
  intro X W c hN e x h
  have ih : ∀ e x, cE G N n X.env.scope e = some x → PEi X G A T C W e x := fun e x => hE X W c hN e x
  have it : ∀ e x, cT G N n X.env.scope e = some x → PTi X G A T C W e x := fun e x => hT X W c hN e x
  cases e with
  | Name id p =>
    obtain ⟨h1, h⟩ := iteO (show (if (!magic id) = true then _ else none) = some x from h)
    simp only [Bool.not_eq_true'] at h1
    split at h
    · rename_i hv
      obtain ⟨i, h2, rfl⟩ := mapO h
      exact pe_loc (by rw [hN]; exact ixOf_some h2) (visB_ok hv) h1
    · split at h
      · rename_i hg
        obtain ⟨m1, m2, m3⟩ := magic_no h1
        split at h
        · rename_i i hc
          cases h
          obtain ⟨u, hu, ru⟩ := (c.fc.cons _ _ hc).1 i rfl
          exact pe_const (d := .int i) (pe_glob (glB_ok hg) hu ru m1) (fun _ _ _ _ hw => hw) fun _ => .int i
        · rename_i z hc
          cases h
          obtain ⟨u, hu, ru⟩ := (c.fc.cons _ _ hc).2 z rfl
          exact pe_const (d := .str z) (pe_glob (glB_ok hg) hu ru m1) (fun _ _ _ _ hw => hw) fun _ => .str z
        · cases h
      · cases h
  | Constant v j p =>
    cases v with
    | int i => cases h; exact pe_const (d := .int i) pe_int (fun _ _ _ _ hw => hw) fun _ => .int i
    | bool i => cases h; exact pe_const (d := .bl i) pe_bl (fun _ _ _ _ hw => hw) fun _ => .bl i
    | none => cases h; exact pe_const (d := .non) pe_non (fun _ _ _ _ hw => hw) fun _ => .non
    | str i => cases h; exact pe_const (d := .str i) pe_str (fun _ _ _ _ hw => hw) fun _ => .str i
    | _ => cases h
  | Tuple es j p =>
    obtain ⟨xs, h1, rfl⟩ := mapO (show (cL (cE G N n X.env.scope) es).map Ex.tup = some x from h)
    exact pe_tupI (pa_ok ih h1).1
  | List es p =>
    obtain ⟨xs, h1, rfl⟩ := mapO (show (cL (cE G N n X.env.scope) es).map Ex.lst = some x from h)
    exact pe_lstI (pa_ok ih h1).1
  | Dict ks vs p =>
    cases ks with
    | nil =>
      cases vs with
      | nil => cases h; exact pe_dnewI false
      | cons _ _ => cases h
    | cons k0 kr =>
      obtain ⟨kk, h1, h⟩ := bindO (show (cKeys (k0 :: kr)).bind _ = some x from h)
      obtain ⟨h2, h⟩ := iteO h
      simp only [Bool.and_eq_true, decide_eq_true_eq] at h2
      obtain ⟨xs, h3, rfl⟩ := mapO h
      exact dispI ih h1 h3 (fun z => nomatch z) h2.1 h2.2
  | Attribute o f p =>
    obtain ⟨h1, h⟩ := iteO (show (if plainBase o = true then _ else none) = some x from h)
    obtain ⟨y, h2, h⟩ := bindO h
    obtain ⟨i, h3, rfl⟩ := mapO h
    exact pe_fldI c (ih _ _ h2) (ixOf_some h3) (base_ok h1)
  | Subscript o i p =>
    have plain : PlainIx i → (cE G N n X.env.scope o).bind (fun x => (cE G N n X.env.scope i).map fun y => Ex.idx x y) = some x → PEi X G A T C W (.Subscript o i p) x := fun hp h => by
      obtain ⟨y, h2, h⟩ := bindO h
      obtain ⟨z, h3, rfl⟩ := mapO h
      exact pe_idxI c (ih _ _ h2) (ih _ _ h3) hp
    cases i with
    | Slice lo hi st p2 =>
      cases st with
      | some _ => cases h
      | none =>
        obtain ⟨y, h2, h⟩ := bindO (show (cE G N n X.env.scope o).bind _ = some x from h)
        obtain ⟨l, h3, h⟩ := bindO h
        obtain ⟨u, h4, rfl⟩ := mapO h
        exact pe_slcI (ih _ _ h2) (po_ok ih h3) (po_ok ih h4)
    | _ => exact plain (fun _ _ => rfl) h
  | BinOp a op b p =>
    obtain ⟨y, h2, h⟩ := bindO (show (cE G N n X.env.scope a).bind _ = some x from h)
    obtain ⟨z, h3, rfl⟩ := mapO h
    exact pe_binI (ih _ _ h2) (ih _ _ h3)
  | UnaryOp op a p =>
    cases op with
    | USub =>
      obtain ⟨y, h2, rfl⟩ := mapO (show (cE G N n X.env.scope a).map Ex.neg = some x from h)
      exact pe_negI (ih _ _ h2)
    | Not =>
      obtain ⟨y, h2, rfl⟩ := mapO (show (cE G N n X.env.scope a).map Ex.not = some x from h)
      exact pe_notI (ih _ _ h2)
    | _ => cases h
  | BoolOp op es p => exact pe_boolI ih h
  | IfExp cc a b p =>
    obtain ⟨w, h1, h⟩ := bindO (show (cT G N n X.env.scope cc).bind _ = some x from h)
    obtain ⟨y, h2, h⟩ := bindO h
    obtain ⟨z, h3, rfl⟩ := mapO h
    exact pe_ifeI (it _ _ h1) (ih _ _ h2) (ih _ _ h3)
  | Compare a ops bs p => exact (cmpE_ok c ih h).1
  | Call g args kws p =>
    cases kws with
    | cons _ _ => cases h
    | nil =>
      cases g with
      | Name f fp => exact callE_ok c ih h
      | Attribute o m ap =>
        obtain ⟨h1, h⟩ := iteO (show (if plainBase o = true then _ else none) = some x from h)
        exact methE_ok c ih h1 h
      | _ => cases h
  | ListComp elt gs scope p =>
    obtain ⟨tg, iter, ifs, wi, g, tt, te, own, rfl, q1, q2, q3, q4, q5, q6, q7⟩ := lcE_ok hE hT c hN h
    exact (pe_lc c.calm c.nd q1 q2 q3 q4 q5 q6).imp q7
  | _ => cases h
theorem stepT {n : Nat} (hE : EOk G A T C k N n) (hT : TOk G A T C k N n) : TOk G A T C k N (n + 1) := by
  intro X W c hN e x h
  have ih : ∀ e x, cE G N n X.env.scope e = some x → PEi X G A T C W e x := fun e x => hE X W c hN e x
  have it : ∀ e x, cT G N n X.env.scope e = some x → PTi X G A T C W e x := fun e x => hT X W c hN e x
  cases e with
  | BoolOp op es p => exact (pw_boolI it h).pt
  | UnaryOp op a p =>
    cases op with
    | Not =>
      obtain ⟨y, h2, rfl⟩ := mapO (show (cT G N n X.env.scope a).map Ex.not = some x from h)
      exact pt_notI (it _ _ h2)
    | _ => cases h
  | Compare a ops bs p => exact (cmpE_ok c ih h).2
  | Name id p => exact pt_of (ih _ _ h) (fun _ => rfl)
  | Call g args kws p => exact pt_of (ih _ _ h) (fun _ => rfl)
  | Attribute o f p => exact pt_of (ih _ _ h) (fun _ => rfl)
  | Subscript o i p => exact pt_of (ih _ _ h) (fun _ => rfl)
  | _ => cases h
theorem expr_ok : ∀ n, EOk G A T C k N n ∧ TOk G A T C k N n
  | 0 => ⟨fun _ _ _ _ _ _ h => (nomatch h), fun _ _ _ _ _ _ h => (nomatch h)⟩
  | n + 1 => ⟨stepE (expr_ok n).1 (expr_ok n).2, stepT (expr_ok n).1 (expr_ok n).2⟩
end
end MH
set_option Elab.async false
set_option linter.all false
set_option maxRecDepth 100000
/-! except C as n: return isinstance(n, ..) and .. -/
namespace MH
open PySem L2 PyProof.Rows
abbrev vErr : Nat := 999
abbrev kErr : Nat := 998
theorem lt_ne {c : Nat} (h : c < kErr) : c ≠ vErr ∧ c ≠ kErr := ⟨fun e => by subst e; exact absurd h (by decide), fun e => by subst e; exact absurd h (by decide)⟩
/-- a class of a clause -/
def clV (A : Ad) (k : Nat) : Value := if k = kErr then .type "KeyError" else .ref (A.cl k)
/-- the value of an asked class -/
def exV (A : Ad) (k : Nat) : Value := if k = vErr then .type "ValueError" else .ref (A.cl k)
/-- what is known of an own exception of class c, and a class k over it -/
structure ExcQ (K : PySem.W.Frag) (A : Ad) (c k : Nat) : Prop where
  exc : ExcC K (A.cl c)
  kit : PySem.W.kitOne K (.ref (A.cl c)) (exV A k) = some true
  one : k ≠ vErr → PySem.W.exmOne K (.ref (A.cl c)) (.ref (A.cl k)) = some true
section
variable (G : Gb) (sc : Scope) (n : Str)
def cIs : Expr → Option Nat
  | .Call (.Name g _) [.Name x _, .Name y _] [] _ => if (decide (g = "isinstance") && glB sc g && decide (x = n) && glB sc y && !magic y) = true then (if y = "ValueError" then some vErr else G.exs.lookup y) else none
  | _ => none
def cIss : List Expr → Option (List Nat)
  | [] => some []
  | e :: r => (cIs G sc n e).bind fun k => (cIss r).map (k :: ·)
def cSuite : List Stmt → Option (List Nat)
  | [.Return (some (.BoolOp .And (a :: b :: es) _)) _] => cIss G sc n (a :: b :: es)
  | _ => none
end
section
variable {X : Cx} {G : Gb} {A : Ad} {n : Str} {i c : Nat} {a : Addr} {oe : Obj} {pn : List (Addr × Obj)}
/-- what holds of the names -/
structure ExN (X : Cx) (G : Gb) (A : Ad) : Prop where
  isi : X.mg "isinstance" = none
  ve : X.mg "ValueError" = none
  ke : X.mg "KeyError" = none
  exs : ∀ x c, G.exs.lookup x = some c → X.mg x = some (.ref (A.cl c)) ∧ c < kErr
theorem pe_cls {y : Str} {k : Nat} {p : Pos} (en : ExN X G A) (hg : Gl X y) (hm : magic y = false) (hk : (if y = "ValueError" then some vErr else G.exs.lookup y) = some k) : ∃ v : V, (∀ u, RelV v u → u = exV A k) ∧ PE (X.suite a pn) (.Name y p) (tC v) := by
  obtain ⟨m1, m2, m3⟩ := magic_no hm
  by_cases e : y = "ValueError"
  · rw [if_pos e] at hk
    cases hk
    subst e
    refine ⟨.ty "ValueError", fun u h => ?_, ?_⟩
    · cases h; rfl
    · exact pe_bltn (X := X.suite a pn) hg en.ve (by decide +kernel) rfl
  · rw [if_neg e] at hk
    obtain ⟨h1, h2⟩ := en.exs y k hk
    refine ⟨.ref (A.cl k), fun u h => ?_, ?_⟩
    · have : u = .ref (A.cl k) := by cases h; rfl
      rw [this, exV, if_neg (lt_ne h2).1]
    · exact pe_glob (X := X.suite a pn) hg h1 rfl m1
/-- isinstance(n, y) in the suite -/
theorem pe_isE (en : ExN X G A) (hi : X.N[i]? = some n) (hv : Vis X.env.scope n) (hmn : magic n = false) {e : Expr} {k : Nat} (h : cIs G X.env.scope n e = some k)
    (C : ExcC X.K (A.cl c)) (hz : Zc (.ref (A.cl c)) none oe) (hf : ∃ vs, oe.data = .fields vs) (hk : PySem.W.kitOne X.K (.ref (A.cl c)) (exV A k) = some true) :
    PE (X.suite a ((a, oe) :: pn)) e (fun σ H Q => σ[i]? = some (some (.ref a)) ∧ Q (.bl true) H) := by
  unfold cIs at h
  split at h
  · rename_i g p1 x p2 y p3 pos
    obtain ⟨h1, h9⟩ := iteO h
    clear h
    simp only [Bool.and_eq_true, decide_eq_true_eq, Bool.not_eq_true'] at h1
    obtain ⟨⟨⟨⟨g1, g2⟩, g3⟩, g4⟩, g5⟩ := h1
    subst g1 g3
    obtain ⟨v, hv1, hv2⟩ := pe_cls (a := a) (pn := (a, oe) :: pn) (p := p3) en (glB_ok g4) g5 h9
    obtain ⟨m1, m2, m3⟩ := magic_no hmn
    have hx : PE (X.suite a ((a, oe) :: pn)) (.Name x p2) (tVar i) := pe_var (X := X.suite a ((a, oe) :: pn)) hi hv m1 m2
    refine (pe_callB (X := X.suite a ((a, oe) :: pn)) (call_isE C hz hf) (glB_ok g2) en.isi (by decide +kernel) (pa_cons hx (pa_cons hv2 pa_nil))).imp fun σ H Q ⟨q1, q2⟩ => ?_
    refine ⟨.ref a, q1, ?_⟩
    exact ⟨v, exV A k, true, rfl, hv1, hk, q2⟩
  · cases h
theorem pe_isEs (en : ExN X G A) (hi : X.N[i]? = some n) (hv : Vis X.env.scope n) (hmn : magic n = false) (C : ExcC X.K (A.cl c)) (hz : Zc (.ref (A.cl c)) none oe) (hf : ∃ vs, oe.data = .fields vs) {pos : Pos} :
    ∀ {es : List Expr} {e : Expr} {ks : List Nat}, cIss G X.env.scope n (e :: es) = some ks → (∀ k ∈ ks, PySem.W.kitOne X.K (.ref (A.cl c)) (exV A k) = some true) → PE (X.suite a ((a, oe) :: pn)) (.BoolOp .And (e :: es) pos) (fun σ H Q => σ[i]? = some (some (.ref a)) ∧ Q (.bl true) H)
  | [], e, ks, h, hk => by
    obtain ⟨k, h1, h⟩ := bindO h
    obtain ⟨r, h2, rfl⟩ := mapO h
    exact pe_one (pe_isE (a := a) (pn := pn) en hi hv hmn h1 C hz hf (hk k (by simp)))
  | b :: es, e, ks, h, hk => by
    obtain ⟨k, h1, h⟩ := bindO h
    obtain ⟨r, h2, rfl⟩ := mapO h
    have h3 := pe_isE (a := a) (pn := pn) en hi hv hmn h1 C hz hf (hk k (by simp))
    have h4 := pe_isEs en hi hv hmn C hz hf (pos := pos) h2 fun k hk' => hk k (by simp [hk'])
    exact (pe_and h3 h4).imp fun σ H Q ⟨q1, q2⟩ => ⟨q1, true, rfl, q1, q2⟩
/-- what the suite asks -/
def tsE (K : PySem.W.Frag) (A : Ad) (i : Nat) (ks : List Nat) : Addr → Value → Option Addr → TS := fun a cls d D σ H => ∃ c, cls = .ref (A.cl c) ∧ d = none ∧ ExcC K (A.cl c) ∧ (∀ k ∈ ks, PySem.W.kitOne K (.ref (A.cl c)) (exV A k) = some true) ∧ σ[i]? = some (some (.ref a)) ∧ D.rt (.bl true) H
theorem pss_suite (en : ExN X G A) (hi : X.N[i]? = some n) (hv : Vis X.env.scope n) (hmn : magic n = false) {suite : List Stmt} {ks : List Nat} (h : cSuite G X.env.scope n suite = some ks) (a : Addr) (oe : Obj) (cls : Value) (d : Option Addr) (pn : List (Addr × Obj)) (hz : Zc cls d oe) (hf : ∃ vs, oe.data = .fields vs) :
    PSs (X.suite a ((a, oe) :: pn)) suite (tsE X.K A i ks a cls d) := by
  unfold cSuite at h
  split at h
  · rename_i e b es p1 p2
    refine ⟨fun pins s σ H D I q => ?_⟩
    obtain ⟨c, rfl, rfl, C, hk, q1, q2⟩ := q
    have := pss_one (ps_ret (pos := p2) (pe_isEs (a := a) (pn := pn) en hi hv hmn C hz hf (pos := p1) h hk))
    exact this.run pins s σ H D I ⟨q1, q2⟩
  · cases h
end
/-! except C: return .., the returned without calls -/
def hotCmp : CmpOp → Bool
  | .Eq => true
  | .Lt => true
  | .Gt => true
  | .LtE => true
  | .GtE => true
  | _ => false
def cH (N : List Str) (sc : Scope) : Nat → Expr → Option Ex
  | 0, _ => none
  | n + 1, e => match e with
    | .Name x _ => if (!magic x && (match sc.names.lookup x with | some .local => true | some .cell => true | _ => false)) = true then (ixOf N x).map .loc else none
    | .Constant v _ _ => (match v with
      | .int i => some (.int i)
      | .bool b => some (.bl b)
      | _ => none)
    | .Compare a [op] [b] _ => if hotCmp op = true then (cH N sc n a).bind fun x => (cH N sc n b).map fun y => .cmp op x y else none
    | .BoolOp op es _ => cBool (cH N sc n) op es
    | .UnaryOp .Not a _ => (cH N sc n a).map .not
    | _ => none
section
variable {X : Cx} {G : Gb} {A : Ad} {T : Tab} {C : Nat → List D → S → K1 → XP → Prop} {W : WX}
theorem hot_ok (hu : X.A.units + 65 < cLine) : ∀ (n : Nat) (e : Expr) (x : Ex), cH X.N X.env.scope n e = some x → PEi X G A T C W e x
  | 0, e, x, h => by cases h
  | n + 1, e, x, h => by
    have ih := hot_ok hu n
    unfold cH at h
    split at h
    · rename_i y p
      obtain ⟨h1, h2⟩ := iteO h
      simp only [Bool.and_eq_true, Bool.not_eq_true'] at h1
      obtain ⟨i, h3, rfl⟩ := mapO h2
      have hv : Vis X.env.scope y := by
        have := h1.2
        split at this
        · rename_i e; exact .inl e
        · rename_i e; exact .inr (.inl e)
        · cases this
      exact pe_loc (ixOf_some h3) hv h1.1
    · rename_i v j p
      split at h
      · cases h; exact pe_const (d := .int _) pe_int (fun _ _ _ _ hw => hw) fun _ => .int _
      · cases h; exact pe_const (d := .bl _) pe_bl (fun _ _ _ _ hw => hw) fun _ => .bl _
      · cases h
    · rename_i a op b p
      obtain ⟨h1, h2⟩ := iteO h
      obtain ⟨y, h3, h4⟩ := bindO h2
      obtain ⟨z, h5, rfl⟩ := mapO h4
      have hm : behindInMarks op b = false := nobehind _ (fun e => by subst e; exact absurd h1 (by decide)) (fun e => by subst e; exact absurd h1 (by decide))
      exact (pe_cmpR (cmp_ok (G := G) (A := A) hu op) (ih _ _ h3) (ih _ _ h5) hm).imp fun σ H Q ⟨e, s, P, Xa, a, hw, hp, hx⟩ => ⟨e, s, _, Xa, a, hw, fun d1 s1 v1 H1 hw1 r1 vr1 m1 =>
        ⟨e, s1, _, Xa, a.step r1 m1, hw1, fun d2 s2 v2 H2 hb r2 vr2 m2 => ⟨d1, d2, s2, P, r2, vr1.mono (m2.tl r1), vr2, hb, hp.step (m1.trans m2)⟩, hx.step m1⟩, hx⟩
    · exact pe_boolI ih h
    · rename_i a p
      obtain ⟨y, h1, rfl⟩ := mapO h
      refine (pe_not (ih _ _ h1)).imp fun σ H Q ⟨e, s, P, Xa, a, hw, hp, hx⟩ => ⟨e, s, _, Xa, a, hw, fun d1 s1 v1 H1 hw1 r1 vr1 m1 => ?_, hx⟩
      obtain ⟨b, rfl, q⟩ := hw1
      exact ⟨b, vr1.bl_inv, hp _ _ _ _ q r1 (.bl _) m1⟩
    · cases h
end
/-- the clauses -/
def cHs (G : Gb) (N : List Str) (sc : Scope) : List ExceptHandler → Option (List (Nat × Ex))
  | [] => some []
  | .ExceptHandler (some (.Name x _)) none [.Return (some e) _] _ :: r => if (glB sc x && !magic x) = true then (if x = "KeyError" then some kErr else G.exs.lookup x).bind fun k => (cH N sc 10 e).bind fun y => (cHs G N sc r).map ((k, y) :: ·) else none
  | _ => none
section
variable {X : Cx} {G : Gb} {A : Ad} {T : Tab} {C : Nat → List D → S → K1 → XP → Prop}
/-- what a clause's suite asks -/
def tsH (K : PySem.W.Frag) (G : Gb) (A : Ad) (T : Tab) (C : Nat → List D → S → K1 → XP → Prop) (x : Ex) : Addr → Value → Option Addr → TS := fun _ _ _ => tRet (tI K G A T C (fun _ _ _ _ => False) x)
theorem hds_ok (hu : X.A.units + 65 < cLine) (en : ExN X G A) : ∀ {hds : List ExceptHandler} {hs : List (Nat × Ex)}, cHs G X.N X.env.scope hds = some hs → HdsOk X hds (hs.map fun h => (clV A h.1, tsH X.K G A T C h.2))
  | [], hs, h => by cases h; exact .nil
  | hd :: r, hs, h => by
    unfold cHs at h
    split at h
    · rename_i e; cases e
    · rename_i x p e p1 p2 r' heq
      cases heq
      obtain ⟨h1, h9⟩ := iteO h
      simp only [Bool.and_eq_true, Bool.not_eq_true'] at h1
      obtain ⟨k, h2, h3⟩ := bindO h9
      obtain ⟨y, h4, h5⟩ := bindO h3
      obtain ⟨hs', h6, rfl⟩ := mapO h5
      have q1 := hds_ok hu en h6
      obtain ⟨m1, m2, m3⟩ := magic_no h1.2
      have nm : Names X x (clV A k) := by
        by_cases ex : x = "KeyError"
        · rw [if_pos ex] at h2
          cases h2
          subst ex
          exact ⟨glB_ok h1.1, m1, .inr ⟨en.ke, (by decide +kernel : bootBuiltins "KeyError" = some (.type "KeyError")), by decide +kernel⟩⟩
        · rw [if_neg ex] at h2
          obtain ⟨n1, n2⟩ := en.exs x k h2
          have : clV A k = .ref (A.cl k) := by unfold clV; rw [if_neg (lt_ne n2).2]
          rw [this]
          exact ⟨glB_ok h1.1, m1, .inl n1⟩
      refine .cons nm (fun a oe cls d pn hz hf => pss_one (ps_ret ?_)) q1
      exact hot_ok (X := X.suite a ((a, oe) :: pn)) hu 10 e y h4
    · cases h
end
end MH
set_option Elab.async false
set_option linter.all false
set_option maxRecDepth 100000
/-! Lists of isinstance(e, ..), and how many of them hold. -/
namespace MH
open PySem PySem.Spec L2 PyProof.Rows
/-- the object of an exception is known -/
structure Held (X : Cx) (a : Addr) (oe : Obj) (D : Addr) : Prop where
  pin : (a, oe) ∈ X.pn
  zc : Zc (.ref D) none oe
  fs : ∃ vs, oe.data = .fields vs
  cls : ExcC X.K D
section
variable {X : Cx} {a D : Addr} {oe : Obj}
theorem call_isP (h : Held X a oe D) : CallR X (.builtin "isinstance") (rIsE X.K D a) := by
  intro ps st sg Hh ws us W I rv ⟨tc, cv, yes, e1, tv, ek, fin⟩
  subst e1
  match us, rv with
  | [_, tu], .cons r1 (.cons r2 .nil) =>
    cases r1
    have e2 := tv _ r2
    subst e2
    have hget := (I.pin (a, oe) (List.mem_append.mpr (.inl h.pin))).1
    obtain ⟨fv, hfv⟩ := h.fs
    have inst : PySem.W.InstAt st.heap a oe D none := by
      have z1 := h.zc.1
      have z2 := h.zc.2
      rcases oe with ⟨o1, o2, o3, o4⟩
      simp only at z1 z2 hfv
      subst z1 z2 hfv
      exact ⟨hget, rfl, rfl, trivial⟩
    have kx := PySem.W.handS_kitx_exc (x := a) (ox := oe) h.cls.hg h.cls.hk h.cls.hs h.cls.hd h.cls.ha h.cls.hn h.cls.ht h.cls.hm
    exact PySem.W.kia_one kx I.kIn inst ek (fun z => nomatch z) fun tk => ⟨.bl yes, Hh, I.kept (t' := tk) (fun _ _ y => y), rfl, fin⟩
theorem bools_of {bs : List Bool} {us : List Value} (r : Vals (bs.map V.bl) us) : us = bs.map Value.bool := by
  induction bs generalizing us with
  | nil => cases r; rfl
  | cons b bs ih =>
    cases r with
    | cons r1 r2 => cases r1; rw [ih r2]; rfl
theorem reads_bools {h : Heap} : ∀ (bs : List Bool), ReadsAll h (bs.map Value.bool) (bs.map PyData.bool) []
  | [] => .nil
  | b :: bs => .cons (as := []) (.bool b) (reads_bools bs)
/-- how many are True -/
def trues (bs : List Bool) : Int := countIn (.bool true) (bs.map PyData.bool)
def rCntB (K : PySem.W.Frag) : V → List V → Hp → VK → Prop := fun x xs H Q => ∃ (p : Addr) (bs : List Bool), x = .ref p ∧ xs = [.bl true] ∧ SqL K H p (bs.map V.bl) ∧ Q (.int (trues bs)) H
theorem mt_bcount : MtR X "list.count" (rCntB X.K) := by
  intro ps st sg Hh x xs v us W I rx rxs ⟨p, bs, e1, e2, hs, fin⟩
  subst e1 e2
  cases rx
  match us, rxs with
  | [_], .cons r1 .nil =>
    cases r1
    obtain ⟨its, rv, ⟨o, n, ho, hc, _, hd⟩, _⟩ := I.list hs
    have e3 := bools_of rv
    subst e3
    refine count_list_bools (hp := st.heap) (xs := bs.map PyData.bool) ⟨o, ho, hc, n, hd⟩ (reads_bools bs) ?_ ⟨.int (trues bs), Hh, I.tok _, ⟨_, rfl⟩, fin⟩
    rw [List.all_map, List.all_eq_true]
    intro b _
    rfl
end
/-- more is tracked -/
def HX (H H' : Hp) : Prop := ∀ a u, H a = some u → H' a = some u
theorem HX.refl (H : Hp) : HX H H := fun _ _ h => h
theorem HX.trans {H H1 H2 : Hp} (x : HX H H1) (y : HX H1 H2) : HX H H2 := fun a u h => y a u (x a u h)
theorem HX.new {H : Hp} {p : Addr} {u : HO} (h : H p = none) : HX H (upd H p u) := fun a v e => by
  have : a ≠ p := fun z => by rw [z, h] at e; cases e
  show (if a = p then some u else H a) = some v
  rw [if_neg this]; exact e
theorem HX.none {H H' : Hp} {p : Addr} (x : HX H H') (h : H' p = none) : H p = none := by
  cases e : H p with
  | none => rfl
  | some u => rw [x p u e] at h; cases h
section
variable (G : Gb) (sc : Scope) (n m : Str)
/-- what a list display of isinstance(n, ..) asks -/
def cLs : Expr → Option (List Nat)
  | .List es _ => cIss G sc n es
  | _ => none
/-- m + [isinstance(n, ..), ..] -/
def cPl : Expr → Option (List Nat)
  | .BinOp (.Name y _) .Add (.List es _) _ => if decide (y = m) = true then cIss G sc n es else none
  | _ => none
end
section
variable {X : Cx} {G : Gb} {A : Ad} {n m : Str} {i j c : Nat} {a : Addr} {oe : Obj} {kv : Nat → Bool}
/-- which classes it is of -/
def Kinds (K : PySem.W.Frag) (A : Ad) (c : Nat) (kv : Nat → Bool) (ks : List Nat) : Prop := ∀ k ∈ ks, PySem.W.kitOne K (.ref (A.cl c)) (exV A k) = some (kv k)
theorem pe_clsX {y : Str} {k : Nat} {p : Pos} (en : ExN X G A) (hg : Gl X y) (hm : magic y = false) (hk : (if y = "ValueError" then some vErr else G.exs.lookup y) = some k) : ∃ v : V, (∀ u, RelV v u → u = exV A k) ∧ PE X (.Name y p) (tC v) := by
  obtain ⟨m1, m2, m3⟩ := magic_no hm
  by_cases e : y = "ValueError"
  · rw [if_pos e] at hk
    cases hk
    subst e
    refine ⟨.ty "ValueError", fun u h => (by cases h; rfl), ?_⟩
    exact pe_bltn hg en.ve (by decide +kernel) rfl
  · rw [if_neg e] at hk
    obtain ⟨h1, h2⟩ := en.exs y k hk
    refine ⟨.ref (A.cl k), fun u h => ?_, ?_⟩
    · have : u = .ref (A.cl k) := by cases h; rfl
      rw [this, exV, if_neg (lt_ne h2).1]
    · exact pe_glob hg h1 rfl m1
theorem pe_isP (en : ExN X G A) (hi : X.N[i]? = some n) (hv : Vis X.env.scope n) (hmn : magic n = false) {e : Expr} {k : Nat} (h : cIs G X.env.scope n e = some k) (hd : Held X a oe (A.cl c)) (hk : PySem.W.kitOne X.K (.ref (A.cl c)) (exV A k) = some (kv k)) :
    PE X e (fun σ H Q => σ[i]? = some (some (.ref a)) ∧ Q (.bl (kv k)) H) := by
  unfold cIs at h
  split at h
  · rename_i g p1 x p2 y p3 pos
    obtain ⟨h1, h9⟩ := iteO h
    clear h
    simp only [Bool.and_eq_true, decide_eq_true_eq, Bool.not_eq_true'] at h1
    obtain ⟨⟨⟨⟨g1, g2⟩, g3⟩, g4⟩, g5⟩ := h1
    subst g1 g3
    obtain ⟨v, hv1, hv2⟩ := pe_clsX (p := p3) en (glB_ok g4) g5 h9
    obtain ⟨m1, m2, m3⟩ := magic_no hmn
    have hx : PE X (.Name x p2) (tVar i) := pe_var hi hv m1 m2
    refine (pe_callB (call_isP hd) (glB_ok g2) en.isi (by decide +kernel) (pa_cons hx (pa_cons hv2 pa_nil))).imp fun σ H Q ⟨q1, q2⟩ => ?_
    exact ⟨.ref a, q1, v, exV A k, kv k, rfl, hv1, hk, q2⟩
  · cases h
theorem pa_isP (en : ExN X G A) (hi : X.N[i]? = some n) (hv : Vis X.env.scope n) (hmn : magic n = false) (hd : Held X a oe (A.cl c)) :
    ∀ {es : List Expr} {ks : List Nat}, cIss G X.env.scope n es = some ks → Kinds X.K A c kv ks → PA X es (fun σ H Q => σ[i]? = some (some (.ref a)) ∧ Q (ks.map fun k => .bl (kv k)) H)
  | [], ks, h, hk => by cases h; exact ⟨fun pos pins s σ H Q I q => pa_nil.run pos pins s σ H Q I q.2⟩
  | e :: es, ks, h, hk => by
    obtain ⟨k, h1, h⟩ := bindO h
    obtain ⟨r, h2, rfl⟩ := mapO h
    have a1 := pe_isP en hi hv hmn h1 hd (hk k (by simp))
    have a2 := pa_isP en hi hv hmn hd h2 fun k' hk' => hk k' (by simp [hk'])
    have st : starEach (e :: es) X.env = (false, eval e X.env) :: starEach es X.env := by
      have : ∃ f as q, e = .Call f as [] q := by
        unfold cIs at h1
        split at h1
        · exact ⟨_, _, _, rfl⟩
        · cases h1
      obtain ⟨f, as, q, rfl⟩ := this
      rfl
    exact ⟨fun pos pins s σ H Q I q => (pa_cons a1 a2 st).run pos pins s σ H Q I ⟨q.1, q.1, q.2⟩⟩
def boolsV (kv : Nat → Bool) (ks : List Nat) : List V := ks.map fun k => .bl (kv k)
/-- a fresh list of truths -/
def tLs (i : Nat) (a : Addr) (bs : List V) : TE := fun σ H Q => σ[i]? = some (some (.ref a)) ∧ ∀ H' q, HX H H' → H' q = some (.lst bs) → H q = none → Q (.ref q) H'
def short (ks : List Nat) : Prop := ks.length ≤ 16
theorem pe_lsP (en : ExN X G A) (hi : X.N[i]? = some n) (hv : Vis X.env.scope n) (hmn : magic n = false) (hd : Held X a oe (A.cl c)) {e : Expr} {ks : List Nat} (h : cLs G X.env.scope n e = some ks) (hl : ks.length ≤ 16) (hk : Kinds X.K A c kv ks) :
    PE X e (tLs i a (boolsV kv ks)) := by
  unfold cLs at h
  split at h
  · refine (pe_lst (pa_isP en hi hv hmn hd h hk)).imp fun σ H Q ⟨q1, q2⟩ => ⟨q1, ?_, fun p hp => ?_⟩
    · simp only [List.length_map, sizeLine]; omega
    · exact q2 _ p (HX.new hp) upd_same hp
  · cases h
theorem pe_plP (en : ExN X G A) (hi : X.N[i]? = some n) (hv : Vis X.env.scope n) (hmn : magic n = false) (hj : X.N[j]? = some m) (hvm : Vis X.env.scope m) (hmm : magic m = false) (hd : Held X a oe (A.cl c)) {e : Expr} {ks : List Nat} (h : cPl G X.env.scope n m e = some ks) (hl : ks.length ≤ 16) (hk : Kinds X.K A c kv ks) :
    PE X e (fun σ H Q => σ[i]? = some (some (.ref a)) ∧ ∃ p l, σ[j]? = some (some (.ref p)) ∧ H p = some (.lst l) ∧ l.length ≤ 1000 ∧ ∀ H' q, HX H H' → H' q = some (.lst (l ++ boolsV kv ks)) → H q = none → Q (.ref q) H') := by
  unfold cPl at h
  split at h
  · rename_i y p1 es p2 p3
    obtain ⟨h1, h2⟩ := iteO h
    have h1 := of_decide_eq_true h1
    subst h1
    obtain ⟨m1, m2, m3⟩ := magic_no hmm
    refine (pe_op op_cat (pe_var hj hvm m1 m2) (pe_lst (pa_isP en hi hv hmn hd h2 hk))).imp fun σ H Q ⟨q1, p, l, q2, q3, q4, q5⟩ => ?_
    refine ⟨.ref p, q2, q1, by simp only [List.length_map, sizeLine]; omega, fun p2 hp2 => ?_⟩
    have hne : p ≠ p2 := fun z => by rw [z, hp2] at q3; cases q3
    refine ⟨p, p2, l, boolsV kv ks, rfl, rfl, HX.new hp2 _ _ q3, upd_same, by simp only [boolsV, List.length_map, sizeLine]; omega, fun p3 hp3 => ?_⟩
    exact q5 _ p3 ((HX.new hp2).trans (HX.new hp3)) upd_same ((HX.new hp2).none hp3)
  · cases h
end
/-! the def that counts them -/
def noCompK (e : Expr) : Bool := match e with
  | .List _ _ => true
  | .BinOp _ _ _ _ => true
  | _ => false
section
variable (G : Gb) (N : List Str) (sc : Scope)
def cKinds (n : Str) : List Stmt → Option (List Nat)
  | [.Assign [.Name m p1] v1 q1, .Assign [.Name m2 p2] v2 q2, .Return (some (.Call (.Attribute o f ap) [.Constant (.bool true) jj cq] [] cp)) rp] =>
    if (decide (m2 = m) && decide (f = "count") && decide (sc.names.lookup m = some .local) && !magic m && !magic n && noCompK v1 && noCompK v2 && (ap.endLine == cp.line) && decide (N[0]? = some n) && decide (sc.names.lookup n = some .local)) = true then
      (ixOf N m).bind fun j => (cLs G sc n v1).bind fun a => (cPl G sc n m v2).bind fun b => (cPl G sc n m o).bind fun c =>
        if (decide (j ≠ 0) && decide (a.length ≤ 16) && decide (b.length ≤ 16) && decide (c.length ≤ 16)) = true then some (a ++ b ++ c) else none
    else none
  | _ => none
end
def bools (kv : Nat → Bool) (ks : List Nat) : List Bool := ks.map kv
theorem boolsV_eq {kv : Nat → Bool} {ks : List Nat} : boolsV kv ks = (bools kv ks).map V.bl := by simp [boolsV, bools, Function.comp_def]
theorem boolsV_app {kv : Nat → Bool} {a b : List Nat} : boolsV kv (a ++ b) = boolsV kv a ++ boolsV kv b := by simp [boolsV]
theorem _root_.L2.PSs.impK {X : Cx} {e : List Stmt} {t t' : TS} (h : PSs X e t) (i : ∀ E σ H, t' E σ H → t E σ H) : PSs X e t' := ⟨fun ps st sg Hh D I q => h.run ps st sg Hh D I (i D sg Hh q)⟩
theorem sw_noK {v : Expr} {t : Option Expr} {l : Nat} {env : PySem.Env} (h : noCompK v = true) : swapsWith v t l env = pure false := by cases v <;> first | rfl | cases h
section
variable {X : Cx} {G : Gb} {A : Ad} {n : Str} {c : Nat} {a : Addr} {oe : Obj} {kv : Nat → Bool}
/-- two assignments: a list, and a longer one -/
theorem pss_two {m : Str} {i j : Nat} {p1 p2 q1 q2 : Pos} {v1 v2 : Expr} {rest : List Stmt} {k1 k2 : List Nat} {t : TS} (hnd : X.N.Nodup) (hfn : ∀ y, X.fn y = true) (en : ExN X G A) (hi : X.N[i]? = some n) (hv : Vis X.env.scope n) (hmn : magic n = false) (hj : X.N[j]? = some m) (hlm : X.env.scope.names.lookup m = some .local) (hmm : magic m = false) (hij : i ≠ j)
    (hd : Held X a oe (A.cl c)) (hn1 : noCompK v1 = true) (hn2 : noCompK v2 = true) (h1 : cLs G X.env.scope n v1 = some k1) (l1 : k1.length ≤ 16) (e1 : Kinds X.K A c kv k1) (h2 : cPl G X.env.scope n m v2 = some k2) (l2 : k2.length ≤ 16) (e2 : Kinds X.K A c kv k2) (hr : PSs X rest t) :
    PSs X (.Assign [.Name m p1] v1 q1 :: .Assign [.Name m p2] v2 q2 :: rest) (fun D σ H => σ[i]? = some (some (.ref a)) ∧ j < σ.length ∧ ∀ σ' H' q, HX H H' → H' q = some (.lst (boolsV kv (k1 ++ k2))) → σ'[i]? = some (some (.ref a)) → σ'[j]? = some (some (.ref q)) → t D σ' H') := by
  have hvm : Vis X.env.scope m := .inl hlm
  have s1 := ps_set (pos := q1) (pos' := p1) hnd hj (.inl hlm) (pe_lsP en hi hv hmn hd h1 l1 e1) (sw_noK hn1) (.inl (hfn m))
  have s2 := ps_set (pos := q2) (pos' := p2) hnd hj (.inl hlm) (pe_plP en hi hv hmn hj hvm hmm hd h2 l2 e2) (sw_noK hn2) (.inl (hfn m))
  refine (pss_cons s1 (pss_cons s2 hr)).impK fun D σ H ⟨q1, q2, q3⟩ => ?_
  refine ⟨q1, fun H1 p1 x1 y1 z1 => ?_⟩
  have gi : ∀ (σ : L2.St) (v : V), σ[i]? = some (some (.ref a)) → (σ.set j (some v))[i]? = some (some (.ref a)) := fun σ v h => by rw [List.getElem?_set_ne (Ne.symm hij)]; exact h
  refine ⟨gi σ _ q1, p1, boolsV kv k1, by rw [List.getElem?_set_self q2], y1, by simp [boolsV]; omega, fun H2 p2 x2 y2 z2 => ?_⟩
  refine q3 _ H2 p2 (x1.trans x2) (by rw [boolsV_app]; exact y2) (gi _ _ (gi σ _ q1)) ?_
  rw [List.getElem?_set_self (by simpa using q2)]
theorem bm_base {G : Gb} {sc : Scope} {n m : Str} {o : Expr} {ks : List Nat} {f : Str} {env : PySem.Env} (h : cPl G sc n m o = some ks) : attributeBase o f env (eval o env) = eval o env := by
  unfold cPl at h
  split at h
  · rfl
  · cases h
theorem kinds_app {K : PySem.W.Frag} {ks1 ks2 : List Nat} (h : Kinds K A c kv (ks1 ++ ks2)) : Kinds K A c kv ks1 ∧ Kinds K A c kv ks2 := ⟨fun k hk => h k (List.mem_append_left _ hk), fun k hk => h k (List.mem_append_right _ hk)⟩
theorem pss_kinds (hnd : X.N.Nodup) (hfn : ∀ y, X.fn y = true) (en : ExN X G A) (hd : Held X a oe (A.cl c)) {body : List Stmt} {ks : List Nat} (h : cKinds G X.N X.env.scope n body = some ks) (hk : Kinds X.K A c kv ks) :
    PSs X body (fun D σ H => σ[0]? = some (some (.ref a)) ∧ σ.length = X.N.length ∧ ∀ H', HX H H' → D.rt (.int (trues (bools kv ks))) H') := by
  unfold cKinds at h
  split at h
  · rename_i m p1 v1 q1 m2 p2 v2 q2 o f ap jj cq cp rp
    obtain ⟨h1, h⟩ := iteO h
    simp only [Bool.and_eq_true, Bool.not_eq_true', decide_eq_true_eq] at h1
    obtain ⟨⟨⟨⟨⟨⟨⟨⟨⟨g1, g2⟩, g3⟩, g4⟩, g5⟩, g6⟩, g7⟩, g8⟩, g9⟩, g10⟩ := h1
    obtain ⟨j, hj, h⟩ := bindO h
    obtain ⟨k1, h1, h⟩ := bindO h
    obtain ⟨k2, h2, h⟩ := bindO h
    obtain ⟨k3, h3, h⟩ := bindO h
    obtain ⟨h4, h⟩ := iteO h
    cases h
    simp only [Bool.and_eq_true, decide_eq_true_eq] at h4
    obtain ⟨⟨⟨j0, l1⟩, l2⟩, l3⟩ := h4
    subst g1 g2
    obtain ⟨hk12, hk3⟩ := kinds_app hk
    obtain ⟨hk1, hk2⟩ := kinds_app hk12
    have hji := ixOf_some hj
    have r1 := pe_plP en g9 (.inl g10) g5 hji (.inl g3) g4 hd h3 l3 hk3
    have r2 := ps_ret (pos := rp) (pe_bm (apos := ap) (cpos := cp) PySem.F.plainAttrs_list PySem.F.slot_list_count PySem.F.type_list_count (mt_bcount (X := X)) r1 (pa_cons (e := .Constant (.bool true) jj cq) pe_bl pa_nil) (bm_base h3) (by rfl) g8 (by rfl) (by rfl))
    refine (pss_two hnd hfn en g9 (.inl g10) g5 hji g3 g4 (Ne.symm j0) hd g6 g7 h1 l1 hk1 h2 l2 hk2 (pss_one r2)).impK fun D σ H ⟨q1, q2, q3⟩ => ?_
    have hjl : j < X.N.length := (List.getElem?_eq_some_iff.mp hji).1
    refine ⟨q1, by rw [q2]; exact hjl, fun σ' H' q x y z1 z2 => ?_⟩
    refine ⟨z1, q, boolsV kv (k1 ++ k2), z2, y, by simp [boolsV]; omega, fun H2 p x2 y2 z3 => ?_⟩
    have e : boolsV kv (k1 ++ k2) ++ boolsV kv k3 = (bools kv (k1 ++ k2 ++ k3)).map V.bl := by rw [← boolsV_app, boolsV_eq]
    rw [e] at y2
    exact ⟨.inl ⟨rfl, _, SqL.of y2⟩, p, bools kv (k1 ++ k2 ++ k3), rfl, rfl, SqL.of y2, q3 _ (x.trans x2)⟩
  · cases h
/-- a suite that tells the list -/
def cSaid (G : Gb) (N : List Str) (sc : Scope) (n : Str) (i : Nat) : List Stmt → Option (Nat × List Nat)
  | [.Assign [.Name m p1] v1 q1, .Assign [.Name m2 p2] v2 q2, .Return (some o) rp] =>
    if (decide (m2 = m) && decide (sc.names.lookup m = some .local) && !magic m && !magic n && noCompK v1 && noCompK v2) = true then
      (ixOf N m).bind fun j => (cLs G sc n v1).bind fun a => (cPl G sc n m v2).bind fun b => (cPl G sc n m o).bind fun c =>
        if (decide (i ≠ j) && decide (a.length ≤ 16) && decide (b.length ≤ 16) && decide (c.length ≤ 16)) = true then some (j, a ++ b ++ c) else none
    else none
  | _ => none
theorem pss_said {i j : Nat} (hnd : X.N.Nodup) (hfn : ∀ y, X.fn y = true) (en : ExN X G A) (hi : X.N[i]? = some n) (hv : Vis X.env.scope n) (hd : Held X a oe (A.cl c)) {body : List Stmt} {ks : List Nat} (h : cSaid G X.N X.env.scope n i body = some (j, ks)) (hk : Kinds X.K A c kv ks) :
    PSs X body (fun D σ H => σ[i]? = some (some (.ref a)) ∧ j < σ.length ∧ ∀ H' q, HX H H' → H' q = some (.lst (boolsV kv ks)) → H q = none → D.rt (.ref q) H') := by
  unfold cSaid at h
  split at h
  · rename_i m p1 v1 q1 m2 p2 v2 q2 o rp
    obtain ⟨h1, h⟩ := iteO h
    simp only [Bool.and_eq_true, Bool.not_eq_true', decide_eq_true_eq] at h1
    obtain ⟨⟨⟨⟨⟨g1, g3⟩, g4⟩, g5⟩, g6⟩, g7⟩ := h1
    obtain ⟨jj, hj, h⟩ := bindO h
    obtain ⟨k1, h1, h⟩ := bindO h
    obtain ⟨k2, h2, h⟩ := bindO h
    obtain ⟨k3, h3, h⟩ := bindO h
    obtain ⟨h4, h⟩ := iteO h
    cases h
    simp only [Bool.and_eq_true, decide_eq_true_eq] at h4
    obtain ⟨⟨⟨j0, l1⟩, l2⟩, l3⟩ := h4
    subst g1
    obtain ⟨hk12, hk3⟩ := kinds_app hk
    obtain ⟨hk1, hk2⟩ := kinds_app hk12
    have hji := ixOf_some hj
    have r1 := ps_ret (pos := rp) (pe_plP en hi hv g5 hji (.inl g3) g4 hd h3 l3 hk3)
    refine (pss_two hnd hfn en hi hv g5 hji g3 g4 j0 hd g6 g7 h1 l1 hk1 h2 l2 hk2 (pss_one r1)).impK fun D σ H ⟨q1, q2, q3⟩ => ?_
    refine ⟨q1, q2, fun σ' H' q x y z1 z2 => ?_⟩
    refine ⟨z1, q, boolsV kv (k1 ++ k2), z2, y, by simp [boolsV]; omega, fun H2 p x2 y2 z3 => ?_⟩
    rw [← boolsV_app] at y2
    exact q3 _ p (x.trans x2) y2 (x.none z3)
  · cases h
end
/-- what holds of such a def -/
def KindOk (K : PySem.W.Frag) (mg : Str → Option Value) (G : Gb) (x : Str) (ks : List Nat) : Prop :=
  ∃ (f : Addr) (qual : Str) (st : Stmt) (fd : FuncData) (n : Str) (N : List Str), mg x = some (.ref f) ∧ Fun K x qual st f fd ∧ L2.Binds K fd [n] [] ∧ FnScope N [n] (defScope st) ∧ cKinds G N (defScope st) n (defBody st) = some ks
def noX : CXT := fun _ _ _ _ _ _ => False
section
variable {X : Cx} {G : Gb} {A : Ad} {c : Nat} {a : Addr} {oe : Obj} {kv : Nat → Bool}
theorem run_kinds (en : ExN X G A) (hd : Held X a oe (A.cl c)) (hdp : X.A.depth < recursionLimit) {qual x n : Str} {st : Stmt} {f : Addr} {fd : FuncData} {N : List Str} {ks : List Nat} (F : Fun X.K x qual st f fd) (hb : L2.Binds X.K fd [n] []) (S : FnScope N [n] (defScope st)) (h : cKinds G N (defScope st) n (defBody st) = some ks) (hk : Kinds X.K A c kv ks)
    {pins : List (Addr × Obj)} {σ : L2.St} {H : Hp} {s : Shared} {W : VK} (I : Inv X pins σ H s) (q : ∀ H', HX H H' → W (.int (trues (bools kv ks))) H') : wpAny (model X.prog X.w) X.A (call (.ref f) [.ref a]) (EP X pins σ W) X.xe s := by
  obtain ⟨oc, od, kV, doc, pm, an, cdv, ct, osl, e1, lk, hcd⟩ := F.ex
  subst e1
  have KX : X.K.In s.heap := I.kIn
  have bnd := hb s [.ref a] KX (by rfl)
  rw [List.append_nil] at bnd
  have P1 := I.pin (a, oe) (List.mem_append_left _ hd.pin)
  have hpin : L2H.PinOk X.stack H s (a, oe) := ⟨P1.1, P1.2.1, fun hm => (List.mem_cons.mp (I.stkSub a hm)).elim P1.2.2.1 P1.2.2.2.1, P1.2.2.2.2⟩
  have e0 := I.env0
  refine wpAny_call (codeAny_mono (R := CR noX X.stack X.prog X.w H s W (fun _ _ _ => False)) ?_ fun r s' hq => ?_)
  · have lim : s.heap.NoLimit := e0.mod.nolimit.keeps fun b o e => (e0.bs b o e).1
    refine codeAny_call_function hdp (KX _ _ lk) rfl S.co S.gen rfl (PySem.W.codeRec_of KX hcd) (bnd _ _ _ _ ?_)
    have hpar := S.par n (by simp)
    refine wpAny_newFunctionEnv_cells S.kind (fun y hy => ?_) fun env he s1 x => ?_
    · have hy1 : y.1 = n := by
        have : y ∈ [(n, (Value.ref a))] := hy
        rw [List.mem_singleton.mp this]
      rw [hy1]
      rcases hpar with z | z
      · exact .inl z
      · exact .inr ⟨z, PySem.W.cellsFrom_some _ _ _ (.inl z)⟩
    · subst he
      refine ⟨lim.keeps x.toInCall.keep, codeAny_func ?_⟩
      have I2 : Inv (L2H.cxH noX X.prog X.w X.K X.mg X.base N qual (defScope st) f cdv X.A X.stack s H (fun _ _ _ => False) (a, oe)) [] (L2.start N [.ref a]) H s1 := L2H.inv_startH S hpin e0 rfl (.cons rfl .nil) x
      have hd2 : Held (L2H.cxH noX X.prog X.w X.K X.mg X.base N qual (defScope st) f cdv X.A X.stack s H (fun _ _ _ => False) (a, oe)) a oe (A.cl c) := ⟨List.mem_cons_self, hd.zc, hd.fs, hd.cls⟩
      have bd := pss_kinds (X := L2H.cxH noX X.prog X.w X.K X.mg X.base N qual (defScope st) f cdv X.A X.stack s H (fun _ _ _ => False) (a, oe)) (G := G) (n := n) S.nd (fun _ => rfl) ⟨en.isi, en.ve, en.ke, en.exs⟩ hd2 h hk
      refine wpAny_mono (bd.run [] s1 (L2.start N [.ref a]) H { nx := fun _ _ => False, rt := W } I2 ⟨rfl, ?_, q⟩) (fun fl s' hs => ?_) fun e s' hs => hs
      · have hp := congrArg List.length S.pre
        rw [List.length_take] at hp
        simp [L2.start] at hp ⊢
        show _ = N.length
        omega
      · cases fl with
        | ret u =>
          obtain ⟨v, σ', H', J, rv, w⟩ := hs
          exact ⟨v, H', J.os, J.bare, J.base, J.hok, rv, w⟩
        | next =>
          obtain ⟨_, _, _, w⟩ := hs
          exact w.elim
        | brk =>
          obtain ⟨_, _, _, w⟩ := hs
          exact w.elim
        | cont =>
          obtain ⟨_, _, _, w⟩ := hs
          exact w.elim
  · match r, hq with
    | .ok (.ret u), hq => exact I.after hq
/-- such a call in a suite -/
theorem pe_kinds (en : ExN X G A) {i : Nat} {n0 x : Str} (hi : X.N[i]? = some n0) (hv : Vis X.env.scope n0) (hmn : magic n0 = false) (hg : Gl X x) (hmx : magic x = false) (hd : Held X a oe (A.cl c)) (hdp : X.A.depth < recursionLimit) {ks : List Nat} (F : KindOk X.K X.mg G x ks) (hk : Kinds X.K A c kv ks) {q p pos : Pos} :
    PE X (.Call (.Name x q) [.Name n0 p] [] pos) (fun σ H W => σ[i]? = some (some (.ref a)) ∧ ∀ H', HX H H' → W (.int (trues (bools kv ks))) H') := by
  obtain ⟨f, qual, st, fd, n, N, mg, F, hb, S, h⟩ := F
  obtain ⟨m1, m2, m3⟩ := magic_no hmn
  obtain ⟨w1, w2, w3⟩ := magic_no hmx
  refine ⟨fun pins s σ H W I ⟨q1, q2⟩ => ?_⟩
  refine wpAny_Call_Name_kw (ld_glob I hg mg ?_ w1)
  have ha : PA X [.Name n0 p] (tCons (tVar i) tNil) := pa_cons (pe_var hi hv m1 m2) pa_nil
  have run := ha.run pos pins s σ H (fun vs H1 => vs = [V.ref a] ∧ ∀ H', HX H1 H' → W (.int (trues (bools kv ks))) H') I ⟨.ref a, q1, rfl, q2⟩
  have he : starEach [Expr.Name n0 p] X.env = (false, eval (.Name n0 p) X.env) :: starEach [] X.env := by rfl
  have hpl : (backTo pos (starEach [] X.env)).any (·.1) = false := by rfl
  refine PySem.W.callWith_K (h₀ := X.base) I.ok.mod.kin F.kp (thn run fun us s1 hus => ?_) he hpl
  obtain ⟨vs, H1, I1, r, e, q3⟩ := hus
  refine ⟨I1.kIn, ?_⟩
  subst e
  match us, r with
  | [_], .cons r1 .nil =>
    cases r1
    exact run_kinds en hd hdp F hb S h hk I1 q3
end
theorem trues_eq {kv : Nat → Bool} : ∀ (ks : List Nat), trues (bools kv ks) = ((ks.filter kv).length : Nat)
  | [] => rfl
  | k :: ks => by
    have ih := trues_eq (kv := kv) ks
    unfold trues bools at ih ⊢
    rw [List.map_cons, List.map_cons, countIn, ih, List.filter_cons]
    cases h : kv k
    · have : same (.bool false) (.bool true) = false := by rfl
      rw [this]; simp
    · have : same (.bool true) (.bool true) = true := by rfl
      rw [this]; simp; omega
/-- isinstance(n, ..) and isinstance(n, ..) and kinds(n) == 1 -/
def cSuiteK (G : Gb) (sc : Scope) (n : Str) : List Stmt → Option (List Nat × List Nat)
  | [.Return (some (.BoolOp .And [a, b, .Compare (.Call (.Name x p1) [.Name y p2] [] p3) [.Eq] [.Constant (.int 1) j p4] p5] p6)) p7] =>
    if (decide (y = n) && glB sc x && !magic x) = true then (cIss G sc n [a, b]).bind fun ks => (G.knd.lookup x).map fun cs => (ks, cs) else none
  | _ => none
section
variable {X : Cx} {G : Gb} {A : Ad} {n : Str} {i c : Nat} {a : Addr} {oe : Obj} {pn : List (Addr × Obj)}
def tsK (K : PySem.W.Frag) (A : Ad) (i : Nat) (ks cs : List Nat) : Addr → Value → Option Addr → TS := fun a cls d D σ H => ∃ c kv, cls = .ref (A.cl c) ∧ d = none ∧ ExcC K (A.cl c) ∧ (∀ k ∈ ks, PySem.W.kitOne K (.ref (A.cl c)) (exV A k) = some true) ∧ Kinds K A c kv cs ∧ trues (bools kv cs) = 1 ∧ σ[i]? = some (some (.ref a)) ∧ ∀ H', HX H H' → D.rt (.bl true) H'
theorem pss_suiteK (en : ExN X G A) (hdp : X.A.depth < recursionLimit) (hkn : ∀ x ks, G.knd.lookup x = some ks → KindOk X.K X.mg G x ks) (hi : X.N[i]? = some n) (hv : Vis X.env.scope n) (hmn : magic n = false) {suite : List Stmt} {ks cs : List Nat} (h : cSuiteK G X.env.scope n suite = some (ks, cs)) (a : Addr) (oe : Obj) (cls : Value) (d : Option Addr) (pn : List (Addr × Obj)) (hz : Zc cls d oe) (hf : ∃ vs, oe.data = .fields vs) :
    PSs (X.suite a ((a, oe) :: pn)) suite (tsK X.K A i ks cs a cls d) := by
  unfold cSuiteK at h
  split at h
  · rename_i e1 e2 x p1 y p2 p3 jj p4 p5 p6 p7
    obtain ⟨h1, h⟩ := iteO h
    simp only [Bool.and_eq_true, decide_eq_true_eq, Bool.not_eq_true'] at h1
    obtain ⟨⟨g1, g2⟩, g3⟩ := h1
    subst g1
    obtain ⟨ks', h2, h⟩ := bindO h
    obtain ⟨cs', h3, h⟩ := mapO h
    cases h
    refine ⟨fun pins s σ H D I q => ?_⟩
    obtain ⟨c, kv, rfl, rfl, C, hk, hkn2, ht, q1, q2⟩ := q
    have hd : Held (X.suite a ((a, oe) :: pn)) a oe (A.cl c) := ⟨List.mem_cons_self, hz, hf, C⟩
    have en' : ExN (X.suite a ((a, oe) :: pn)) G A := ⟨en.isi, en.ve, en.ke, en.exs⟩
    obtain ⟨k1, h4, h5⟩ := bindO h2
    obtain ⟨r, h6, rfl⟩ := mapO h5
    obtain ⟨k2, h7, h8⟩ := bindO h6
    obtain ⟨r2, h9, rfl⟩ := mapO h8
    have a1 := pe_isP (X := X.suite a ((a, oe) :: pn)) (kv := fun _ => true) en' hi hv hmn h4 hd (hk k1 (by simp))
    have a2 := pe_isP (X := X.suite a ((a, oe) :: pn)) (kv := fun _ => true) en' hi hv hmn h7 hd (hk k2 (by simp))
    have a3 := pe_kinds (X := X.suite a ((a, oe) :: pn)) (q := p1) (p := p2) (pos := p3) en' hi hv hmn (glB_ok g2) g3 hd hdp (hkn x cs h3) hkn2
    have a4 := pe_cmpR (X := X.suite a ((a, oe) :: pn)) (pos := p5) (op_eq (X := X.suite a ((a, oe) :: pn))) a3 (pe_int (X := X.suite a ((a, oe) :: pn)) (i := 1) (j := jj) (pos := p4)) (nobehind _ (by decide) (by decide))
    have a5 := pe_and (pos := p6) a1 (pe_and (pos := p6) a2 (pe_one (op := .And) (pos := p6) a4))
    refine (pss_one (ps_ret (pos := p7) a5)).run pins s σ H D I ⟨q1, true, rfl, q1, true, rfl, q1, fun H' hx => ?_⟩
    exact ⟨rfl, by rw [ht]; exact q2 H' hx⟩
  · cases h
def tsL (K : PySem.W.Frag) (A : Ad) (i j : Nat) (cs : List Nat) : Addr → Value → Option Addr → TS := fun a cls d D σ H => ∃ c kv, cls = .ref (A.cl c) ∧ d = none ∧ ExcC K (A.cl c) ∧ Kinds K A c kv cs ∧ σ[i]? = some (some (.ref a)) ∧ j < σ.length ∧ ∀ H' q, HX H H' → H' q = some (.lst (boolsV kv cs)) → H q = none → D.rt (.ref q) H'
theorem pss_suiteL {j : Nat} (hnd : X.N.Nodup) (hfn : ∀ y, X.fn y = true) (en : ExN X G A) (hi : X.N[i]? = some n) (hv : Vis X.env.scope n) {suite : List Stmt} {cs : List Nat} (h : cSaid G X.N X.env.scope n i suite = some (j, cs)) (a : Addr) (oe : Obj) (cls : Value) (d : Option Addr) (pn : List (Addr × Obj)) (hz : Zc cls d oe) (hf : ∃ vs, oe.data = .fields vs) :
    PSs (X.suite a ((a, oe) :: pn)) suite (tsL X.K A i j cs a cls d) := by
  refine ⟨fun pins s σ H D I q => ?_⟩
  obtain ⟨c, kv, rfl, rfl, C, hk, q1, q2, q3⟩ := q
  have hd : Held (X.suite a ((a, oe) :: pn)) a oe (A.cl c) := ⟨List.mem_cons_self, hz, hf, C⟩
  have en' : ExN (X.suite a ((a, oe) :: pn)) G A := ⟨en.isi, en.ve, en.ke, en.exs⟩
  exact (pss_said (X := X.suite a ((a, oe) :: pn)) (i := i) hnd hfn en' hi hv hd h hk).run pins s σ H D I ⟨q1, q2, q3⟩
end
end MH
set_option Elab.async false
set_option linter.all false
set_option maxRecDepth 100000
/-! Statements. -/
namespace MH
open PySem L2 PyProof.Rows

def locB (sc : Scope) (x : Str) : Bool := match sc.names.lookup x with
  | some .local => true
  | some .cell => true
  | _ => false
theorem locB_ok {sc : Scope} {x : Str} (h : locB sc x = true) : L2.Loc sc x := by
  unfold locB at h
  unfold L2.Loc
  split at h
  · exact .inl (by assumption)
  · exact .inr (by assumption)
  · cases h
def localB (sc : Scope) (x : Str) : Bool := match sc.names.lookup x with
  | some .local => true
  | _ => false
theorem localB_ok {sc : Scope} {x : Str} (h : localB sc x = true) : sc.names.lookup x = some .local := by
  unfold localB at h
  split at h
  · assumption
  · cases h
def noComp : Expr → Bool
  | .ListComp _ _ _ _ => false
  | .SetComp _ _ _ _ => false
  | .DictComp _ _ _ _ _ => false
  | _ => true
def noTup : Expr → Bool
  | .Tuple _ _ _ => false
  | _ => true
def noSlice : Expr → Bool
  | .Slice _ _ _ _ => false
  | _ => true
section
variable (G : Gb) (N : List Str) (sc : Scope) (F : Nat)
def cSs (f : Stmt → Option Sm) : List Stmt → Option Sms
  | [] => some .nil
  | s :: r => (f s).bind fun x => (cSs f r).map (.cons x)
def cTg : Expr → Option Tg
  | .Name y _ => if locB sc y = true then (ixOf N y).map .v else none
  | .Subscript o i _ => if noSlice i = true then (cE G N F sc o).bind fun x => (cE G N F sc i).map (.s x) else none
  | _ => none
def cTgs : List Expr → Option (List Tg)
  | [] => some []
  | e :: r => (cTg G N sc F e).bind fun t => (cTgs r).map (t :: ·)
def cNms : List Expr → Option (List Nat)
  | [] => some []
  | .Name y _ :: r => if locB sc y = true then (ixOf N y).bind fun i => (cNms r).map (i :: ·) else none
  | _ => none
/-- name = value -/
def cAsg (y : Str) (py : Pos) (v : Expr) (pos : Pos) : Option Sm :=
  (ixOf N y).bind fun i => match v with
    | .ListComp elt gs scope p => if (localB sc y && (py.line == p.line) && !(scope.names.any fun (n, k) => n == y && (k == .local || k == .cell))) = true then (cE G N F sc (.ListComp elt gs scope p)).map (.setv i)
        else if (decide (sc.names.lookup y = some .cell)) = true then (cE G N F sc (.ListComp elt gs scope p)).map (.setv i) else none
    | .Dict [] [] _ => if locB sc y = true then some (.setv i (.dnew (G.tnames.contains y))) else none
    | v => if (locB sc y && noComp v) = true then (cE G N F sc v).map (.setv i) else none
def cRaise (o w : Option Expr) : Option Sm := match w with
  | none => (match o with
    | some (.Call (.Name x _) [.Constant (.str _) _ _] [] _) => if (!magic x && glB sc x) = true then (G.exs.lookup x).map .rse else none
    | _ => none)
  | _ => none
def cTry (f : Stmt → Option Sm) (body : List Stmt) (hds : List ExceptHandler) (els fin : List Stmt) : Option Sm :=
  match hds, els, fin with
  | [.ExceptHandler (some (.Name x _)) (some n) suite _], [], [] => if (localB sc n && !magic n && glB sc x && !magic x) = true then (G.exs.lookup x).bind fun k => (ixOf N n).bind fun i => (cSs f body).bind fun y => match cSuite G sc n suite with
      | some ks => some (.tri y k i ks)
      | none => match cSuiteK G sc n suite with
        | some (ks, cs) => some (.trk y k i ks cs)
        | none => (cSaid G N sc n i suite).map fun (j, cs) => .trl y k i j cs else none
  | h :: r, [], [] => (cHs G N sc (h :: r)).bind fun hs => (cSs f body).map fun y => .trm y hs
  | _, _, _ => none
def cSt : Nat → Stmt → Option Sm
  | 0, _ => none
  | m + 1, st => match st with
    | .Pass _ => some .pas
    | .Expr e _ => (match e with
      | .Constant (.str _) _ _ => some .pas
      | e => if noComp e = true then (cE G N F sc e).map .exp else none)
    | .Assign ts v pos => (match ts with
      | [.Name y py] => cAsg G N sc F y py v pos
      | [.Attribute o f _] => (ixOf G.attrs f).bind fun i => (cE G N F sc v).bind fun x => (cE G N F sc o).map fun y => .setf y i x
      | [.Subscript o i _] => if noSlice i = true then (cE G N F sc v).bind fun x => (cE G N F sc o).bind fun y => (cE G N F sc i).map fun z => .seti y z x else none
      | [.Tuple es _ _] => if (noTup v && noComp v) = true then (cE G N F sc v).bind fun x => (cTgs G N sc F es).map fun t => .unp t x else none
      | _ => none)
    | .Try body hds els fin _ => cTry G N sc (cSt m) body hds els fin
    | .If c a b _ => (cT G N F sc c).bind fun x => (cSs (cSt m) a).bind fun y => (cSs (cSt m) b).map fun z => .ite x y z
    | .For tg it b els _ => (match els with
      | [] => (cIter (cE G N F sc) sc it).bind fun x => (cSs (cSt m) b).bind fun y => (match tg with
        | .Name i _ => if locB sc i = true then (ixOf N i).map fun j => .fr x.1 (some j) [] x.2 y else none
        | .Tuple es _ _ => (cNms N sc es).map fun js => .fr x.1 none js x.2 y
        | _ => none)
      | _ => none)
    | .While c b els _ => (match els with
      | [] => (cT G N F sc c).bind fun x => (cSs (cSt m) b).map fun y => .whl x y
      | _ => none)
    | .Return o _ => (match o with
      | none => some .ret0
      | some e => (cE G N F sc e).map .ret)
    | .Raise o w _ => cRaise G sc o w
    | _ => none
end

/-- for statements: more of where the code stands -/
structure CtS (X : Cx) (G : Gb) (A : Ad) (T : Tab) (C : Nat → List D → S → K1 → XP → Prop) (k : Nat) (W : WX) : Prop extends Ctx X G A T C k W where
  po : PassesOwn (model X.prog X.w) X.A X.env X.xe
  kind : X.env.scope.kind = .function
  fnA : ∀ y, X.fn y = true
  exs : ∀ x c, G.exs.lookup x = some c → X.mg x = some (.ref (A.cl c)) ∧ PySem.W.keepIn X.K (.ref (A.cl c)) = true ∧ PySem.W.subIn X.K (.ref (A.cl c)) (.type "BaseException") = some true ∧ PySem.W.typeIn X.K (.ref (A.cl c)) = some (.type "type") ∧
    PySem.W.excIn X.K (A.cl c) [.type "ValueError", .type "Exception", .type "BaseException", .type "object"] "ValueError.__new__" = true
  stk : X.stack = X.env :: X.outer
  frm : X.env.frame = some X.env.locals
  en : ExN X G A
  exq : ∀ c k, T.sub c k = true → (k < 2000 → ExcQ X.K A c k) ∧ (2000 ≤ k → PySem.W.exmOne X.K (.ref (A.cl c)) (.ref (A.cl (k - 2000))) = some false ∧ PySem.W.kitOne X.K (.ref (A.cl c)) (.ref (A.cl (k - 2000))) = some false)
  knd : ∀ x ks, G.knd.lookup x = some ks → KindOk X.K X.mg G x ks
def XS (K : PySem.W.Frag) (G : Gb) (A : Ad) (W : WX) (s : S) (H : Hp) (Xa : XE) : Prop := ∀ c e' s' σ' H', Xa c e' s' → At K G A e' s' σ' H' → Sim s H s' H' → W (.ref (A.cl c)) none σ' H'
theorem XS.step {K : PySem.W.Frag} {G : Gb} {A : Ad} {W : WX} {s s1 : S} {H H1 : Hp} {Xa : XE} (x : XS K G A W s H Xa) (m : Sim s H s1 H1) : XS K G A W s1 H1 Xa := fun c e' s' σ' H' h1 h2 h3 => x c e' s' σ' H' h1 h2 (m.trans h3)
theorem XS.xl {K : PySem.W.Frag} {G : Gb} {A : Ad} {W : WX} {e : Env} {s : S} {σ : L2.St} {H : Hp} {Xa : XE} (x : XS K G A W s H Xa) (a : At K G A e s σ H) : XL K G A W s σ H (fun c => Xa c e) := fun c s' H' h1 h2 h3 => x c e s' σ H' h1 (a.step h2 h3) h3
section
variable (K : PySem.W.Frag) (G : Gb) (A : Ad) (T : Tab) (C : Nat → List D → S → K1 → XP → Prop) (W : WX)
def tS (x : Sm) : TS := fun E σ H => ∃ (e : Env) (s : S) (N : Env → S → Prop) (R : K1) (Xa : XE), At K G A e s σ H ∧ wS T C x e s N R Xa ∧ (∀ e' s' σ' H', N e' s' → At K G A e' s' σ' H' → Sim s H s' H' → E.nx σ' H') ∧ Post K G A s H R E.rt ∧ XS K G A W s H Xa
def tSs (x : Sms) : TS := fun E σ H => ∃ (e : Env) (s : S) (N : Env → S → Prop) (R : K1) (Xa : XE), At K G A e s σ H ∧ wSs T C x e s N R Xa ∧ (∀ e' s' σ' H', N e' s' → At K G A e' s' σ' H' → Sim s H s' H' → E.nx σ' H') ∧ Post K G A s H R E.rt ∧ XS K G A W s H Xa
end
section
variable {X : Cx} {G : Gb} {A : Ad} {T : Tab} {C : Nat → List D → S → K1 → XP → Prop} {k : Nat} {W : WX}
theorem _root_.L2.PS.imp {e : Stmt} {t t' : TS} (h : PS X e t) (i : ∀ E σ H, t' E σ H → t E σ H) : PS X e t' := ⟨fun pins s σ H D I q => h.run pins s σ H D I (i D σ H q)⟩
theorem _root_.L2.PSs.imp {e : List Stmt} {t t' : TS} (h : PSs X e t) (i : ∀ E σ H, t' E σ H → t E σ H) : PSs X e t' := ⟨fun pins s σ H D I q => h.run pins s σ H D I (i D σ H q)⟩
abbrev PSi (X : Cx) (G : Gb) (A : Ad) (T : Tab) (C : Nat → List D → S → K1 → XP → Prop) (W : WX) (e : Stmt) (x : Sm) : Prop := PS X e (tS X.K G A T C W x)
abbrev PSsi (X : Cx) (G : Gb) (A : Ad) (T : Tab) (C : Nat → List D → S → K1 → XP → Prop) (W : WX) (e : List Stmt) (x : Sms) : Prop := PSs X e (tSs X.K G A T C W x)
theorem nx_step {s s1 : S} {H H1 : Hp} {N : Env → S → Prop} {Q : L2.St → Hp → Prop} (h : ∀ e' s' σ' H', N e' s' → At X.K G A e' s' σ' H' → Sim s H s' H' → Q σ' H') (m : Sim s H s1 H1) : ∀ e' s' σ' H', N e' s' → At X.K G A e' s' σ' H' → Sim s1 H1 s' H' → Q σ' H' := fun e' s' σ' H' h1 h2 h3 => h e' s' σ' H' h1 h2 (m.trans h3)
theorem pss_ok {f : Stmt → Option Sm} (hf : ∀ e x, f e = some x → PSi X G A T C W e x) : ∀ {es : List Stmt} {xs : Sms}, cSs f es = some xs → PSsi X G A T C W es xs
  | [], xs, h => by
    cases h
    exact pss_nil.imp fun E σ H ⟨e, s, N, R, Xa, a, hw, hn, _⟩ => hn _ _ _ _ hw a (Sim.refl s H)
  | e :: es, xs, h => by
    obtain ⟨x, h1, h⟩ := bindO h
    obtain ⟨r, h2, rfl⟩ := mapO h
    refine (pss_cons (hf e x h1) (pss_ok hf h2)).imp fun E σ H ⟨e, s, N, R, Xa, a, hw, hn, hr, hx⟩ => ?_
    exact ⟨e, s, _, R, Xa, a, hw, fun e' s' σ' H' h1 h2 h3 => ⟨e', s', N, R, Xa, h2, h1, nx_step hn h3, hr.step h3, hx.step h3⟩, hr, hx⟩
theorem sw_attr {v o : Expr} {f : Str} {p : Pos} {l : Nat} {env : PySem.Env} : swapsWith v (some (.Attribute o f p)) l env = pure false := by cases v <;> rfl
theorem sw_sub {v o i : Expr} {p : Pos} {l : Nat} {env : PySem.Env} : swapsWith v (some (.Subscript o i p)) l env = pure false := by cases v <;> rfl
theorem sw_tup {v : Expr} {es : List Expr} {j : Nat} {p : Pos} {l : Nat} {env : PySem.Env} : swapsWith v (some (.Tuple es j p)) l env = pure false := by cases v <;> rfl
theorem sw_no {v : Expr} {t : Option Expr} {l : Nat} {env : PySem.Env} (h : noComp v = true) : swapsWith v t l env = pure false := by cases v <;> first | rfl | cases h
theorem sw_cell {v : Expr} {y : Str} {py : Pos} {l : Nat} {env : PySem.Env} (h : env.scope.names.lookup y = some .cell) : swapsWith v (some (.Name y py)) l env = pure false := by
  have ky : env.kindOf y = some .cell := h
  cases v <;> first
    | rfl
    | (unfold swapsWith
       simp only [ky]
       show pure (env.blockKind == ScopeKind.function && false && _ && _) = pure false
       rw [Bool.and_false, Bool.false_and, Bool.false_and])
theorem ps_expI {e : Expr} {x : Ex} {pos : Pos} (h : PEi X G A T C W e x) (hc : noComp e = true) : PSi X G A T C W (.Expr e pos) (.exp x) :=
  (ps_expr h (sw_no hc)).imp fun E σ H ⟨e, s, N, R, Xa, a, hw, hn, hr, hx⟩ => ⟨e, s, _, _, a, hw, fun d s1 v H1 hw1 r1 vr1 m1 => hn _ _ _ _ hw1 (a.step r1 m1) m1, hx.xl a⟩
theorem ps_retI {e : Expr} {x : Ex} {pos : Pos} (h : PEi X G A T C W e x) : PSi X G A T C W (.Return (some e) pos) (.ret x) :=
  (ps_ret h).imp fun E σ H ⟨e, s, N, R, Xa, a, hw, hn, hr, hx⟩ => ⟨e, s, _, _, a, hw, hr, hx.xl a⟩
theorem ps_ret0I {pos : Pos} : PSi X G A T C W (.Return none pos) .ret0 :=
  ps_retN.imp fun E σ H ⟨e, s, N, R, Xa, a, hw, hn, hr, hx⟩ => post0 hr a.rel .non hw
theorem ps_setI (c : Ctx X G A T C k W) {y : Str} {py pos : Pos} {i : Nat} {v : Expr} {x : Ex} (hi : X.N[i]? = some y) (hl : L2.Loc X.env.scope y) (hf : X.fn y = true ∨ X.env.scope.names.lookup y = some .local) (h : PEi X G A T C W v x) (hs : swapsWith v (some (.Name y py)) pos.line X.env = pure false) : PSi X G A T C W (.Assign [.Name y py] v pos) (.setv i x) :=
  (ps_set c.nd hi hl h hs hf).imp fun E σ H ⟨e, s, N, R, Xa, a, hw, hn, hr, hx⟩ => ⟨e, s, _, _, a, hw, fun d s1 v H1 hw1 r1 vr1 m1 => hn _ _ _ _ hw1 ⟨r1, (a.step r1 m1).env.set i vr1⟩ m1, hx.xl a⟩
theorem ps_setLcI {n : Nat} {N' : List Str} (c : CtS X G A T C k W) (hN : X.N = N') {y : Str} {py pos p : Pos} {i : Nat} {elt : Expr} {gs : List Comprehension} {scope : Scope} {x : Ex} (hi : X.N[i]? = some y) (hl : X.env.scope.names.lookup y = some .local) (hline : (py.line == p.line) = true) (hno : (scope.names.any fun (n, k) => n == y && (k == .local || k == .cell)) = false)
    (h : cE G N' (n + 1) X.env.scope (.ListComp elt gs scope p) = some x) : PSi X G A T C W (.Assign [.Name y py] (.ListComp elt gs scope p) pos) (.setv i x) := by
  obtain ⟨tg, iter, ifs, wi, g, tt, te, own, rfl, q1, q2, q3, q4, q5, q6, q7⟩ := lcE_ok (expr_ok n).1 (expr_ok n).2 c.toCtx hN h
  refine (ps_setLc c.calm c.nd hi hl (sw_true c.kind hl hline hno) q1 q2 q3 q4 q5 q6).imp fun E σ H ⟨e, s, N, R, Xa, a, hw, hn, hr, hx⟩ => ?_
  exact q7 _ _ _ ⟨e, s, _, _, a, hw, fun d s1 v H1 hw1 r1 vr1 m1 => hn _ _ _ _ hw1 ⟨r1, (a.step r1 m1).env.set i vr1⟩ m1, hx.xl a⟩
theorem ps_fldI (c : Ctx X G A T C k W) {o v : Expr} {f : Str} {p pos : Pos} {i : Nat} {x y : Ex} (hi : G.attrs[i]? = some f) (ho : PEi X G A T C W o y) (hv : PEi X G A T C W v x) : PSi X G A T C W (.Assign [.Attribute o f p] v pos) (.setf y i x) :=
  (ps_fld ho hv sw_attr).imp fun E σ H ⟨e, s, N, R, Xa, a, hw, hn, hr, hx⟩ => ⟨e, s, _, _, a, hw, fun d1 s1 v1 H1 hw1 r1 vr1 m1 =>
    ⟨e, s1, _, _, a.step r1 m1, hw1, fun d2 s2 v2 H2 hw2 r2 vr2 m2 => by
      obtain ⟨q, cc, fs, rfl, e2, e3, e4, hw3⟩ := hw2
      obtain ⟨dx, ws, g1, g2, g3⟩ := r2.ins e2
      have hfl := c.fc.tf cc i e3
      obtain ⟨k1, k2⟩ := c.fc.fld cc i f hfl hi
      have hlen : ws.length < 1000 := by rw [← Paired.length g2]; exact e4
      have vr1' := vr1.mono (m2.tl r1)
      have ro : RO X.K G A H2 (.ins cc (putA i d1 fs)) (.ins (A.cl cc) dx (putF f v1 ws)) := .ins (FR.put c.fc.nd g2 hi vr1') (fun p hp => by
        have : ∀ {l : List (Nat × D)}, p ∈ putA i d1 l → p ∈ l ∨ p.1 = i := by
          intro l
          induction l with
          | nil => intro h; exact .inr (by rw [List.mem_singleton.mp h])
          | cons q l ih =>
            intro h
            obtain ⟨g, w⟩ := q
            have h : p ∈ (if g = i then (g, d1) :: l else (g, w) :: putA i d1 l) := h
            split at h
            · rename_i hg
              rcases List.mem_cons.mp h with rfl | h
              · exact .inr hg
              · exact .inl (List.mem_cons_of_mem _ h)
            · rcases List.mem_cons.mp h with rfl | h
              · exact .inl List.mem_cons_self
              · rcases ih h with h | h
                · exact .inl (List.mem_cons_of_mem _ h)
                · exact .inr h
        rcases this hp with h | h
        · exact g3 p h
        · rw [h]; exact hfl)
      have m3 : Sim s2 H2 (up s2 q (.ins cc (putA i d1 fs))) (upd H2 q (.ins (A.cl cc) dx (putF f v1 ws))) := Sim.chg e2
      refine ⟨q, A.cl cc, dx, ws, vr2.ob_inv, g1, k1, k2, hlen, ?_⟩
      exact hn _ _ _ _ hw3 (a.step (r2.chg e2 ro) (m1.trans (m2.trans m3))) (m1.trans (m2.trans m3)), (hx.xl a).step m1⟩, hx.xl a⟩
theorem pg_subI (c : Ctx X G A T C k W) {o i : Expr} {x y : Ex} {pos : Pos} (ho : PEi X G A T C W o x) (hi : PEi X G A T C W i y) (hs : noSlice i = true) : PG X (.Subscript o i pos) (fun v σ H Q => ∃ (e : Env) (s : S) (d : D) (N : S → Prop) (Xa : XP), At X.K G A e s σ H ∧ VR X.K H d v ∧ wE T C x e s (fun a s1 => wE T C y e s1 (fun b s2 => setI a b d s2 N) Xa) Xa ∧ XL X.K G A W s σ H Xa ∧
    ∀ s' H', N s' → Rel X.K G A s' H' → Sim s H s' H' → Q σ H') := by
  have h := pg_sub (pos := pos) ho hi (setI_ok (G := G) (A := A) (by have := c.hu; omega)) (by cases i <;> first | (intro _; rfl) | cases hs)
  refine ⟨fun pins s σ H v u Q I r hw => h.run pins s σ H v u Q I r ?_⟩
  obtain ⟨e, st, d, N, Xa, a, vd, hw, hx, hn⟩ := hw
  refine ⟨e, st, _, Xa, a, hw, fun d1 s1 v1 H1 hw1 r1 vr1 m1 => ⟨e, s1, _, Xa, a.step r1 m1, hw1, fun d2 s2 v2 H2 hw2 r2 vr2 m2 => ?_, hx.step m1⟩, hx⟩
  exact ⟨d1, d2, d, s2, N, r2, vr1.mono (m2.tl r1), vr2, vd.mono ((m1.trans m2).tl a.rel), hw2, fun s' H' q1 q2 q3 => hn _ _ q1 q2 (m1.trans (m2.trans q3))⟩
theorem ps_subI (c : Ctx X G A T C k W) {o i v : Expr} {p pos : Pos} {x y z : Ex} (ho : PEi X G A T C W o y) (hi : PEi X G A T C W i z) (hv : PEi X G A T C W v x) (hs : noSlice i = true) : PSi X G A T C W (.Assign [.Subscript o i p] v pos) (.seti y z x) :=
  (ps_asg hv (pg_subI c ho hi hs) (by show swapsWith v (some (.Subscript o i p)) pos.line X.env = _; exact sw_sub) (by cases v <;> rfl) (by rfl)).imp fun E σ H ⟨e, s, N, R, Xa, a, hw, hn, hr, hx⟩ => ⟨e, s, _, _, a, hw, fun d1 s1 v1 H1 hw1 r1 vr1 m1 =>
    ⟨e, s1, d1, _, _, a.step r1 m1, vr1, hw1, (hx.xl a).step m1, fun s' H' q1 q2 q3 => hn _ _ _ _ q1 (a.step q2 (m1.trans q3)) (m1.trans q3)⟩, hx.xl a⟩
end
end MH
set_option Elab.async false
set_option linter.all false
set_option maxRecDepth 100000
/-! Statements, continued. -/
namespace MH
open PySem L2 PyProof.Rows
section
variable {X : Cx} {G : Gb} {A : Ad} {T : Tab} {C : Nat → List D → S → K1 → XP → Prop} {k : Nat} {W : WX} {N : List Str} {F : Nat}
def gTgs (K : PySem.W.Frag) (G : Gb) (A : Ad) (T : Tab) (C : Nat → List D → S → K1 → XP → Prop) (W : WX) (ts : List Tg) : TGs := fun vs σ H Q => ∃ (e : Env) (s : S) (ds : List D) (Nx : Env → S → Prop) (Xa : XE), At K G A e s σ H ∧ VRs K H ds vs ∧ wTgs T C ts ds e s Nx Xa ∧ XS K G A W s H Xa ∧ ∀ e' s' σ' H', Nx e' s' → At K G A e' s' σ' H' → Sim s H s' H' → Q σ' H'
theorem tg_plain {sc : Scope} {e : Expr} {t : Tg} {es : List Expr} {env : PySem.Env} (h : cTg G N sc F e = some t) : assignEach (e :: es) env = (false, assign e env) :: assignEach es env := by
  cases e <;> first | rfl | cases h
theorem tgs_ok (c : CtS X G A T C k W) (hN : X.N = N) : ∀ {es : List Expr} {ts : List Tg}, cTgs G N X.env.scope F es = some ts → PGs X es (gTgs X.K G A T C W ts) ∧ (assignEach es X.env).length = es.length ∧ (assignEach es X.env).findIdx? (·.1) = none ∧ ts.length = es.length
  | [], ts, h => by
    cases h
    refine ⟨⟨fun pins s σ H vs us Q I r hw => ?_⟩, rfl, rfl, rfl⟩
    obtain ⟨e, st, ds, Nx, Xa, a, vr, hw, hx, hn⟩ := hw
    cases ds with
    | cons _ _ => exact False.elim hw
    | nil =>
      cases vr
      exact pgs_nil.run pins s σ H [] us Q I r ⟨rfl, hn _ _ _ _ hw a (Sim.refl st H)⟩
  | e :: es, ts, h => by
    obtain ⟨t, h1, h⟩ := bindO h
    obtain ⟨tr, h2, rfl⟩ := mapO h
    obtain ⟨p1, p2, p3, p4⟩ := tgs_ok c hN h2
    have hpl := fun env => tg_plain (es := es) (env := env) h1
    refine ⟨?_, by rw [hpl]; simp [p2], by rw [hpl, List.findIdx?_cons]; simp [p3], by simp [p4]⟩
    cases e with
    | Name y p =>
      obtain ⟨h3, h⟩ := iteO (show (if locB X.env.scope y = true then (ixOf N y).map Tg.v else none) = some t from h1)
      obtain ⟨i, h4, rfl⟩ := mapO h
      have hg : PG X (.Name y p) (gName i) := pg_name c.nd (by rw [hN]; exact ixOf_some h4) (locB_ok h3) (.inl (c.fnA y))
      have hh := pgs_cons hg p1 (by rw [hpl]; rfl)
      refine ⟨fun pins s σ H vs us Q I r hw => hh.run pins s σ H vs us Q I r ?_⟩
      obtain ⟨e, st, ds, Nx, Xa, a, vr, hw, hx, hn⟩ := hw
      cases vr with
      | nil => exact False.elim hw
      | cons vd vr => exact ⟨_, _, rfl, e.set i (some _), st, _, Nx, Xa, ⟨a.rel, a.env.set i vd⟩, vr, hw, hx, hn⟩
    | Subscript o j p =>
      obtain ⟨h3, h⟩ := iteO (show (if noSlice j = true then (cE G N F X.env.scope o).bind fun x => (cE G N F X.env.scope j).map (Tg.s x) else none) = some t from h1)
      obtain ⟨x, h4, h⟩ := bindO h
      obtain ⟨y, h5, rfl⟩ := mapO h
      have ho := (expr_ok F).1 X W c.toCtx hN o x h4
      have hj := (expr_ok F).1 X W c.toCtx hN j y h5
      have hh := pgs_cons (pg_subI (pos := p) c.toCtx ho hj h3) p1 (by rw [hpl]; rfl)
      refine ⟨fun pins s σ H vs us Q I r hw => hh.run pins s σ H vs us Q I r ?_⟩
      obtain ⟨e, st, ds, Nx, Xa, a, vr, hw, hx, hn⟩ := hw
      cases vr with
      | nil => exact False.elim hw
      | cons vd vr =>
        exact ⟨_, _, rfl, e, st, _, _, _, a, vd, hw, hx.xl a, fun s' H' q1 q2 q3 => ⟨e, s', _, Nx, Xa, a.step q2 q3, vr.mono (q3.tl a.rel), q1, hx.step q3, nx_step hn q3⟩⟩
    | _ => cases h1
theorem pg_seq {es : List Expr} {j : Nat} {pos : Pos} {t : TGs} {n : Nat} (hc : X.calm = true) (h : PGs X es t) (hn : (assignEach es X.env).length = n) (hst : (assignEach es X.env).findIdx? (·.1) = none) :
    PG X (.Tuple es j pos) (fun v σ H Q => ∃ a xs, v = .ref a ∧ (SqL X.K H a xs ∨ SqT X.K H a xs) ∧ xs.length = n ∧ t xs σ H Q) := by
  refine ⟨fun pins s σ H v u Q I r hw => ?_⟩
  obtain ⟨a, xs, e, hs | hs, hl, hw⟩ := hw
  · exact (pg_unl hc h hn hst).run pins s σ H v u Q I r ⟨a, xs, e, hs, hl, hw⟩
  · exact (pg_tup hc h hn hst).run pins s σ H v u Q I r ⟨a, xs, e, hs, hl, hw⟩
theorem ps_unpI (c : CtS X G A T C k W) (hN : X.N = N) {es : List Expr} {ts : List Tg} {v : Expr} {x : Ex} {j : Nat} {p pos : Pos} (hv : PEi X G A T C W v x) (h : cTgs G N X.env.scope F es = some ts) (h1 : noTup v = true) (h2 : noComp v = true) : PSi X G A T C W (.Assign [.Tuple es j p] v pos) (.unp ts x) := by
  obtain ⟨p1, p2, p3, p4⟩ := tgs_ok c hN h
  refine (ps_asg hv (pg_seq (pos := p) (j := j) c.calm p1 p2 p3) (by show swapsWith v (some (.Tuple es j p)) pos.line X.env = _; exact sw_tup) (by cases v <;> first | rfl | cases h1) (by rfl)).imp fun E σ H ⟨e, s, N, R, Xa, a, hw, hn, hr, hx⟩ => ?_
  refine ⟨e, s, _, _, a, hw, fun d s1 v H1 hw1 r1 vr1 m1 => ?_, hx.xl a⟩
  obtain ⟨l, hl, hlen, hw1⟩ := hw1
  obtain ⟨b, xs, rfl, vr, hsq⟩ := seq_rd r1 vr1 hl
  exact ⟨b, xs, rfl, hsq, by rw [← vr.length, ← p4]; exact hlen, e, s1, l, _, Xa, a.step r1 m1, vr, hw1, hx.step m1, nx_step hn m1⟩
theorem ps_iteI {cc : Expr} {a b : List Stmt} {x : Ex} {y z : Sms} {pos : Pos} (hc : PTi X G A T C W cc x) (ha : PSsi X G A T C W a y) (hb : PSsi X G A T C W b z) : PSi X G A T C W (.If cc a b pos) (.ite x y z) :=
  (ps_if hc ha hb).imp fun E σ H ⟨e, s, N, R, Xa, a, hw, hn, hr, hx⟩ => ⟨e, s, _, _, a, hw, fun d s1 H1 hw1 r1 m1 => by
    obtain ⟨b, rfl, q⟩ := hw1
    refine ⟨b, rfl, ?_⟩
    cases b with
    | true =>
      have q : wSs T C y e s1 N R Xa := q
      exact ⟨e, s1, N, R, Xa, a.step r1 m1, q, nx_step hn m1, hr.step m1, hx.step m1⟩
    | false =>
      have q : wSs T C z e s1 N R Xa := q
      exact ⟨e, s1, N, R, Xa, a.step r1 m1, q, nx_step hn m1, hr.step m1, hx.step m1⟩, hx.xl a⟩
theorem ps_whlI (c : CtS X G A T C k W) {cc : Expr} {b : List Stmt} {x : Ex} {y : Sms} {pos : Pos} (hc : PTi X G A T C W cc x) (hb : PSsi X G A T C W b y) : PSi X G A T C W (.While cc b [] pos) (.whl x y) := by
  refine (ps_while c.po hc hb).imp fun E σ H ⟨e, s, N, R, Xa, a, hw, hn, hr, hx⟩ => ?_
  refine ⟨fun m σ' H' => ∃ e' s', At X.K G A e' s' σ' H' ∧ Sim s H s' H' ∧ wWh (fun e1 s1 Q => wE T C x e1 s1 (fun d s2 => ∃ k, d = .bl k ∧ Q k s2) (fun c => Xa c e1)) (fun e1 s1 N1 => wSs T C y e1 s1 N1 R Xa) m e' s' N, ⟨8, e, s, a, Sim.refl s H, hw⟩, ?_⟩
  rintro m σ' H' ⟨e', s', a', m', hw'⟩
  cases m with
  | zero => exact False.elim hw'
  | succ m =>
    refine ⟨e', s', _, _, a', hw', fun d s1 H1 hw1 r1 m1 => ?_, (hx.step m').xl a'⟩
    obtain ⟨b, rfl, q⟩ := hw1
    refine ⟨b, rfl, ?_⟩
    cases b with
    | true =>
      have q : wSs T C y e' s1 (fun e2 s2 => wWh _ _ m e2 s2 N) R Xa := q
      refine ⟨fun σ2 H2 => ∃ e2 s2, At X.K G A e2 s2 σ2 H2 ∧ Sim s H s2 H2 ∧ wWh _ _ m e2 s2 N, fun σ2 H2 h2 => ⟨m, Nat.lt_succ_self m, h2⟩, ?_⟩
      exact ⟨e', s1, _, R, Xa, a'.step r1 m1, q, fun e2 s2 σ2 H2 q1 q2 q3 => ⟨e2, s2, q2, m'.trans (m1.trans q3), q1⟩, hr.step (m'.trans m1), hx.step (m'.trans m1)⟩
    | false =>
      have q : N e' s1 := q
      exact hn _ _ _ _ q (a'.step r1 m1) (m'.trans m1)
theorem ps_rseI (c : CtS X G A T C k W) {x m : Str} {cc j : Nat} {p p2 p3 pos : Pos} (hx : G.exs.lookup x = some cc) (hm : magic x = false) (hg : Gl X x) : PSi X G A T C W (.Raise (some (.Call (.Name x p) [.Constant (.str m) j p2] [] p3)) none pos) (.rse cc) := by
  obtain ⟨m1, m2, m3⟩ := magic_no hm
  obtain ⟨g1, g2, g3, g4, g5⟩ := c.exs x cc hx
  refine (ps_raise c.calm c.tk (pmk_own PySem.F.excBase_ValueError g5 g1 g2 (raises_own g3 g4) hg m1)).imp fun E σ H ⟨e, s, N, R, Xa, a, hw, hn, hr, hx⟩ => ?_
  exact hx cc e s σ H hw a (Sim.refl s H)
/-! ### for -/
theorem nms_ok (c : CtS X G A T C k W) (hN : X.N = N) : ∀ {es : List Expr} {js : List Nat}, cNms N X.env.scope es = some js → PGs X es (fun vs σ H Q => ∃ (e : Env) (ds : List D) (e1 : Env), REnv X.K H e σ ∧ VRs X.K H ds vs ∧ sets js ds e = some e1 ∧ ∀ σ1, REnv X.K H e1 σ1 → Q σ1 H) ∧
    (assignEach es X.env).length = es.length ∧ (assignEach es X.env).findIdx? (·.1) = none ∧ js.length = es.length
  | [], js, h => by
    cases h
    refine ⟨⟨fun pins s σ H vs us Q I r hw => ?_⟩, rfl, rfl, rfl⟩
    obtain ⟨e, ds, e1, en, vr, hs, hq⟩ := hw
    cases vr with
    | cons _ _ => cases hs
    | nil =>
      cases hs
      exact pgs_nil.run pins s σ H [] us Q I r ⟨rfl, hq σ en⟩
  | e :: es, js, h => by
    cases e with
    | Name y p =>
      obtain ⟨h3, h⟩ := iteO (show (if locB X.env.scope y = true then (ixOf N y).bind fun i => (cNms N X.env.scope es).map (i :: ·) else none) = some js from h)
      obtain ⟨i, h4, h⟩ := bindO h
      obtain ⟨jr, h5, rfl⟩ := mapO h
      obtain ⟨p1, p2, p3, p4⟩ := nms_ok c hN h5
      have hg : PG X (.Name y p) (gName i) := pg_name c.nd (by rw [hN]; exact ixOf_some h4) (locB_ok h3) (.inl (c.fnA y))
      have hh := pgs_cons hg p1 (by rfl)
      refine ⟨⟨fun pins s σ H vs us Q I r hw => hh.run pins s σ H vs us Q I r ?_⟩, by show (_ :: assignEach es X.env).length = _; simp [p2], by show ((false, _) :: assignEach es X.env).findIdx? _ = _; rw [List.findIdx?_cons]; simp [p3], by simp [p4]⟩
      obtain ⟨e, ds, e1, en, vr, hs, hq⟩ := hw
      cases vr with
      | nil => cases hs
      | cons vd vr => exact ⟨_, _, rfl, _, _, e1, en.set i vd, vr, hs, hq⟩
    | _ => cases h
theorem sets_len : ∀ {js : List Nat} {ds : List D} {e e1 : Env}, sets js ds e = some e1 → js.length = ds.length
  | [], [], _, _, _ => rfl
  | j :: js, d :: ds, e, e1, h => by simp [sets_len (js := js) h]
  | [], _ :: _, _, _, h => by cases h
  | _ :: _, [], _, _, h => by cases h
theorem ps_frI (c : CtS X G A T C k W) {tg it : Expr} {b : List Stmt} {r : Bool} {x : Ex} {t : Option Nat} {js : List Nat} {y : Sms} {pos : Pos} {g : TG} (hi : PI X tg it (tIt X.K G A T C W r x)) (hf : ∀ x, foldedSetIterable it X.env x = pure x) (hg : PG X tg g) (hb : PSsi X G A T C W b y)
    (hgo : ∀ (e e1 : Env) (d : D) (v : V) (σ : L2.St) (H : Hp) (Q : L2.St → Hp → Prop), REnv X.K H e σ → VR X.K H d v → bindT t js d e = some e1 → (∀ σ1, REnv X.K H e1 σ1 → Q σ1 H) → g v σ H Q) :
    PSi X G A T C W (.For tg it b [] pos) (.fr r t js x y) := by
  refine (ps_for c.po c.calm hi hg hb hf).imp fun E σ H ⟨e, s, N, R, Xa, a, hw, hn, hr, hx⟩ => ?_
  refine ⟨e, s, _, _, a, hw, hx.xl a, ?_⟩
  intro d s1 v H1 l ok J hfor r1 vr1 m1 wk
  refine ⟨fun j m σ' H' => m = l.length - j ∧ j ≤ l.length ∧ ∃ e' s', At X.K G A e' s' σ' H' ∧ Sim s H s' H' ∧ VR X.K H' d v ∧ wFor (fun e1 s2 N1 => wSs T C y e1 s2 N1 R Xa) ok t js (l.drop j) e' s' N, ⟨l.length, by omega, Nat.zero_le _, e, s1, a.step r1 m1, m1, vr1, by rw [List.drop_zero]; exact hfor⟩, ?_⟩
  rintro j m σ' H' ⟨hm, hj, e', s', a', m', vd', hw'⟩
  by_cases hlt : j < l.length
  · obtain ⟨dj, hdj⟩ : ∃ dj, l[j]? = some dj := ⟨l[j], by simp [hlt]⟩
    have hdrop : l.drop j = dj :: l.drop (j + 1) := by
      rw [List.drop_eq_getElem_cons hlt]
      have : l[j] = dj := by
        rw [List.getElem?_eq_getElem hlt] at hdj
        exact Option.some.inj hdj
      rw [this]
    rw [hdrop] at hw'
    obtain ⟨hok, e1, he1, hw'⟩ := hw'
    obtain ⟨hgo1, hyl⟩ := wk.item s' H' j dj a'.rel vd' hok hdj
    refine .inr ⟨hgo1, fun σ2 H2 => ∃ e2 s2, At X.K G A e2 s2 σ2 H2 ∧ Sim s H s2 H2 ∧ VR X.K H2 d v ∧ wFor (fun e1 s2 N1 => wSs T C y e1 s2 N1 R Xa) ok t js (l.drop (j + 1)) e2 s2 N, fun σ2 H2 h2 => ⟨l.length - (j + 1), by omega, rfl, hlt, h2⟩, fun yv H2 hy => ?_⟩
    obtain ⟨eH, vy⟩ := hyl yv H2 hy
    subst eH
    refine hgo e' e1 dj yv σ' H2 _ a'.env vy he1 fun σ1 en1 => ?_
    exact ⟨e1, s', _, R, Xa, ⟨a'.rel, en1⟩, hw', fun e2 s2 σ2 H3 q1 q2 q3 => ⟨e2, s2, q2, m'.trans q3, vd'.mono (q3.tl a'.rel), q1⟩, hr.step m', hx.step m'⟩
  · have ej : j = l.length := by omega
    subst ej
    rw [List.drop_length] at hw'
    obtain ⟨hok, hw'⟩ := hw'
    exact .inl ⟨wk.stop s' H' _ a'.rel vd' hok (Nat.le_refl _), hn _ _ _ _ hw' a' m'⟩
theorem ps_tryI (c : CtS X G A T C k W) {x n : Str} {np pos pos' : Pos} {i kx : Nat} {ks : List Nat} {body suite : List Stmt} {y : Sms} (hi : X.N[i]? = some n) (hl : localB X.env.scope n = true) (hmn : magic n = false) (hg : glB X.env.scope x = true) (hmx : magic x = false)
    (hk : G.exs.lookup x = some kx) (hs : cSuite G X.env.scope n suite = some ks) (hb : ∀ {X' : Cx} {W' : WX}, CtS X' G A T C k W' → X'.N = X.N → X'.env = X.env → X'.K = X.K → PSsi X' G A T C W' body y) :
    PSi X G A T C W (.Try body [.ExceptHandler (some (.Name x np)) (some n) suite pos'] [] [] pos) (.tri y kx i ks) := by
  obtain ⟨b0, sr, rfl⟩ : ∃ b0 sr, suite = b0 :: sr := by cases suite with | nil => cases hs | cons a r => exact ⟨a, r, rfl⟩
  obtain ⟨m1, m2, m3⟩ := magic_no hmx
  obtain ⟨n1, n2⟩ := c.en.exs x kx hk
  have hln : X.env.scope.names.lookup n = some .local := localB_ok hl
  refine (ps_try_as (Wout := W) (tb := fun W' => tSs X.K G A T C W' y) (ts := tsE X.K A i ks) c.stk c.frm c.nd hi hln ⟨glB_ok hg, m1, .inl n1⟩ c.tk (fun W' pn xe tk po => ?_) (fun a oe cls d pn hz hf => pss_suite c.en hi (.inl hln) hmn hs a oe cls d pn hz hf)).imp fun E σ H ⟨e, s, N, R, Xa, a, hw, hn, hr, hx⟩ => ?_
  · exact hb (X' := X.tr pn xe) (W' := W') { calm := c.calm, nd := c.nd, room := c.room, tk := tk, fc := c.fc, po := po, kind := c.kind, fnA := c.fnA, exs := c.exs, stk := c.stk, frm := c.frm, en := ⟨c.en.isi, c.en.ve, c.en.ke, c.en.exs⟩, exq := c.exq, knd := c.knd } rfl rfl rfl
  · refine ⟨e, s, N, R, _, a, hw, hn, hr, fun cc e' s' σ' H' h1 h2 h3 => ?_⟩
    obtain ⟨q1, q2, q3, q4⟩ := h1
    have hb := q3
    have hq := (c.exq cc kx q2.2).1 q2.1
    refine ⟨true, hq.one (lt_ne n2).1, fun _ ad ha => ?_, fun z => by cases z⟩
    refine ⟨cc, rfl, rfl, hq.exc, fun k' hk' => ((c.exq cc k' (q3 k' hk').2).1 (q3 k' hk').1).kit, ?_, ?_⟩
    · rw [List.getElem?_set_self]
      rw [← h2.env.1]; exact q1
    · exact hr (.bl true) s' (.bl true) H' q4 h2.rel (.bl true) h3
theorem kinds_ok (c : CtS X G A T C k W) {cc : Nat} {kv : Nat → Bool} {cs : List Nat} (h : ∀ k' ∈ cs, kvOk T cc kv k') : Kinds X.K A cc kv cs := fun k' hk' => by
  rcases h k' hk' with ⟨e, h1, h2⟩ | ⟨e, h1, h2⟩
  · rw [e]; exact ((c.exq cc k' h2).1 h1).kit
  · have := ((c.exq cc (k' + 2000) h2).2 (by omega)).2
    rw [show k' + 2000 - 2000 = k' by omega] at this
    rw [e, exV, if_neg (lt_ne (show k' < kErr from h1)).1]; exact this
theorem HX.sim {s : S} {H H' : Hp} (x : HX H H') : Sim s H s H' := fun a u h n => ⟨n, x a u h⟩
theorem HX.tl {H H' : Hp} (x : HX H H') : TL H H' := ⟨fun a xs h => x a _ h, fun a o u h => x a _ h⟩
theorem HX.rel {K : PySem.W.Frag} {G : Gb} {A : Ad} {s : S} {H H' : Hp} (x : HX H H') (r : Rel K G A s H) : Rel K G A s H' := fun a o h => by
  obtain ⟨u, h1, h2⟩ := r a o h
  exact ⟨u, x a u h1, h2.mono x.tl⟩
theorem VRs.of_bls {K : PySem.W.Frag} {H : Hp} {kv : Nat → Bool} : ∀ (cs : List Nat), VRs K H (cs.map fun k => .bl (kv k)) (boolsV kv cs)
  | [] => .nil
  | c :: cs => .cons (.bl _) (VRs.of_bls cs)
theorem ps_trkI (c : CtS X G A T C k W) {x n : Str} {np pos pos' : Pos} {i kx : Nat} {ks cs : List Nat} {body suite : List Stmt} {y : Sms} (hi : X.N[i]? = some n) (hl : localB X.env.scope n = true) (hmn : magic n = false) (hg : glB X.env.scope x = true) (hmx : magic x = false)
    (hk : G.exs.lookup x = some kx) (hs : cSuiteK G X.env.scope n suite = some (ks, cs)) (hb : ∀ {X' : Cx} {W' : WX}, CtS X' G A T C k W' → X'.N = X.N → X'.env = X.env → X'.K = X.K → PSsi X' G A T C W' body y) :
    PSi X G A T C W (.Try body [.ExceptHandler (some (.Name x np)) (some n) suite pos'] [] [] pos) (.trk y kx i ks cs) := by
  obtain ⟨b0, sr, rfl⟩ : ∃ b0 sr, suite = b0 :: sr := by cases suite with | nil => cases hs | cons a r => exact ⟨a, r, rfl⟩
  obtain ⟨m1, m2, m3⟩ := magic_no hmx
  obtain ⟨n1, n2⟩ := c.en.exs x kx hk
  have hln : X.env.scope.names.lookup n = some .local := localB_ok hl
  have hdp : X.A.depth < recursionLimit := by have := c.room.dp; omega
  refine (ps_try_as (Wout := W) (tb := fun W' => tSs X.K G A T C W' y) (ts := tsK X.K A i ks cs) c.stk c.frm c.nd hi hln ⟨glB_ok hg, m1, .inl n1⟩ c.tk (fun W' pn xe tk po => ?_) (fun a oe cls d pn hz hf => pss_suiteK c.en hdp c.knd hi (.inl hln) hmn hs a oe cls d pn hz hf)).imp fun E σ H ⟨e, s, N, R, Xa, a, hw, hn, hr, hx⟩ => ?_
  · exact hb (X' := X.tr pn xe) (W' := W') { calm := c.calm, nd := c.nd, room := c.room, tk := tk, fc := c.fc, po := po, kind := c.kind, fnA := c.fnA, exs := c.exs, stk := c.stk, frm := c.frm, en := ⟨c.en.isi, c.en.ve, c.en.ke, c.en.exs⟩, exq := c.exq, knd := c.knd } rfl rfl rfl
  · refine ⟨e, s, N, R, _, a, hw, hn, hr, fun cc e' s' σ' H' h1 h2 h3 => ?_⟩
    obtain ⟨q1, q2, q3, ⟨kv, q4, q5⟩, q6⟩ := h1
    have hq := (c.exq cc kx q2.2).1 q2.1
    refine ⟨true, hq.one (lt_ne n2).1, fun _ ad ha => ?_, fun z => by cases z⟩
    refine ⟨cc, kv, rfl, rfl, hq.exc, fun k' hk' => ((c.exq cc k' (q3 k' hk').2).1 (q3 k' hk').1).kit, kinds_ok c q4, by rw [trues_eq, q5]; rfl, ?_, fun H'' hx2 => ?_⟩
    · rw [List.getElem?_set_self]
      rw [← h2.env.1]; exact q1
    · exact hr (.bl true) s' (.bl true) H'' q6 (hx2.rel h2.rel) (.bl true) (h3.trans hx2.sim)
theorem ps_trlI (c : CtS X G A T C k W) {x n : Str} {np pos pos' : Pos} {i j kx : Nat} {cs : List Nat} {body suite : List Stmt} {y : Sms} (hi : X.N[i]? = some n) (hl : localB X.env.scope n = true) (hg : glB X.env.scope x = true) (hmx : magic x = false)
    (hk : G.exs.lookup x = some kx) (hs : cSaid G X.N X.env.scope n i suite = some (j, cs)) (hb : ∀ {X' : Cx} {W' : WX}, CtS X' G A T C k W' → X'.N = X.N → X'.env = X.env → X'.K = X.K → PSsi X' G A T C W' body y) :
    PSi X G A T C W (.Try body [.ExceptHandler (some (.Name x np)) (some n) suite pos'] [] [] pos) (.trl y kx i j cs) := by
  obtain ⟨b0, sr, rfl⟩ : ∃ b0 sr, suite = b0 :: sr := by cases suite with | nil => cases hs | cons a r => exact ⟨a, r, rfl⟩
  obtain ⟨m1, m2, m3⟩ := magic_no hmx
  obtain ⟨n1, n2⟩ := c.en.exs x kx hk
  have hln : X.env.scope.names.lookup n = some .local := localB_ok hl
  refine (ps_try_as (Wout := W) (tb := fun W' => tSs X.K G A T C W' y) (ts := tsL X.K A i j cs) c.stk c.frm c.nd hi hln ⟨glB_ok hg, m1, .inl n1⟩ c.tk (fun W' pn xe tk po => ?_) (fun a oe cls d pn hz hf => pss_suiteL c.nd c.fnA c.en hi (.inl hln) hs a oe cls d pn hz hf)).imp fun E σ H ⟨e, s, N, R, Xa, a, hw, hn, hr, hx⟩ => ?_
  · exact hb (X' := X.tr pn xe) (W' := W') { calm := c.calm, nd := c.nd, room := c.room, tk := tk, fc := c.fc, po := po, kind := c.kind, fnA := c.fnA, exs := c.exs, stk := c.stk, frm := c.frm, en := ⟨c.en.isi, c.en.ve, c.en.ke, c.en.exs⟩, exq := c.exq, knd := c.knd } rfl rfl rfl
  · refine ⟨e, s, N, R, _, a, hw, hn, hr, fun cc e' s' σ' H' h1 h2 h3 => ?_⟩
    obtain ⟨q1, q2, kv, q4, q6⟩ := h1
    have hq := (c.exq cc kx q2.2).1 q2.1
    refine ⟨true, hq.one (lt_ne n2).1, fun _ ad ha => ?_, fun z => by cases z⟩
    refine ⟨cc, kv, rfl, rfl, hq.exc, kinds_ok c q4, ?_, ?_, fun H'' q hx2 hq2 hq3 => ?_⟩
    · rw [List.getElem?_set_self]
      rw [← h2.env.1]; exact q1.1
    · rw [List.length_set, ← h2.env.1]; exact q1.2
    · have fr := h2.rel.free hq3
      have ro : RO X.K G A H'' (.lst (cs.map fun k => .bl (kv k))) (.lst (boolsV kv cs)) := .lst (VRs.of_bls cs)
      refine hr (.ob q) (up s' q (.lst (cs.map fun k => .bl (kv k)))) (.ref q) H'' (q6 q fr) (fun b o hb2 => ?_) (.ob q) (h3.trans fun b u hb2 hb3 => ?_)
      · unfold up at hb2
        split at hb2
        · rename_i e1
          subst e1
          cases hb2
          exact ⟨_, hq2, ro⟩
        · exact hx2.rel h2.rel b o hb2
      · have hne : b ≠ q := fun e1 => by rw [e1, hq3] at hb2; cases hb2
        exact ⟨by unfold up; rw [if_neg hne]; exact hb3, hx2 b u hb2⟩
theorem wmany_ok (c : CtS X G A T C k W) {E : Ends} {s : S} {H : Hp} {R : K1} (hr : Post X.K G A s H R E.rt) : ∀ {hs : List (Nat × Ex)} (cc : Nat) (e' : MH.Env) (s' : S) (σ' : L2.St) (H' : Hp), wHs T C hs cc e' s' R → At X.K G A e' s' σ' H' → Sim s H s' H' →
    wMany X.K W E (hs.map fun h => (clV A h.1, tsH X.K G A T C h.2)) (.ref (A.cl cc)) none σ' H'
  | [], cc, e', s', σ', H', h1, h2, h3 => h1.elim
  | (kx, x) :: r, cc, e', s', σ', H', h1, h2, h3 => by
    rcases h1 with ⟨⟨q0, q1⟩, q2⟩ | ⟨⟨q1, q0⟩, q2⟩
    · have hq := (c.exq cc kx q1).1 (by omega)
      have ev : clV A kx = .ref (A.cl kx) := by unfold clV; rw [if_neg (lt_ne (show kx < kErr from q0)).2]
      refine ⟨true, by rw [ev]; exact hq.one (lt_ne (show kx < kErr from q0)).1, fun _ ad ha => ?_, fun z => by cases z⟩
      exact ⟨e', s', R, _, h2, q2, hr.step h3, .no⟩
    · have hq := (c.exq cc (kx + 2000) q1).2 (by omega)
      rw [show kx + 2000 - 2000 = kx by omega] at hq
      have ev : clV A kx = .ref (A.cl kx) := by unfold clV; rw [if_neg q0]
      refine ⟨false, by rw [ev]; exact hq.1, (fun z => by cases z), fun _ => ?_⟩
      exact wmany_ok c hr cc e' s' σ' H' q2 h2 h3
theorem ps_trmI (c : CtS X G A T C k W) {pos : Pos} {body : List Stmt} {h0 : ExceptHandler} {hds : List ExceptHandler} {hs : List (Nat × Ex)} {y : Sms} (hh : cHs G X.N X.env.scope (h0 :: hds) = some hs) (hb : ∀ {X' : Cx} {W' : WX}, CtS X' G A T C k W' → X'.N = X.N → X'.env = X.env → X'.K = X.K → PSsi X' G A T C W' body y) :
    PSi X G A T C W (.Try body (h0 :: hds) [] [] pos) (.trm y hs) := by
  have q1 := hds_ok (T := T) (C := C) c.toCtx.hu c.en hh
  refine (ps_try_many (Wout := W) (tb := fun W' => tSs X.K G A T C W' y) c.stk c.frm c.tk (fun W' pn xe tk po => ?_) q1).imp fun E σ H ⟨e, s, N, R, Xa, a, hw, hn, hr, hx⟩ => ?_
  · exact hb (X' := X.tr pn xe) (W' := W') { calm := c.calm, nd := c.nd, room := c.room, tk := tk, fc := c.fc, po := po, kind := c.kind, fnA := c.fnA, exs := c.exs, stk := c.stk, frm := c.frm, en := ⟨c.en.isi, c.en.ve, c.en.ke, c.en.exs⟩, exq := c.exq, knd := c.knd } rfl rfl rfl
  · exact ⟨e, s, N, R, _, a, hw, hn, hr, fun cc e' s' σ' H' h1 h2 h3 => wmany_ok c hr cc e' s' σ' H' h1 h2 h3⟩
theorem stmt_ok : ∀ (m : Nat) {X : Cx} {W : WX} (c : CtS X G A T C k W) (hN : X.N = N) (st : Stmt) (x : Sm), cSt G N X.env.scope F m st = some x → PSi X G A T C W st x
  | 0, X, W, c, hN, st, x, h => by cases h
  | m + 1, X, W, c, hN, st, x, h => by
    have ie : ∀ e x, cE G N F X.env.scope e = some x → PEi X G A T C W e x := (expr_ok F).1 X W c.toCtx hN
    have it : ∀ e x, cT G N F X.env.scope e = some x → PTi X G A T C W e x := (expr_ok F).2 X W c.toCtx hN
    have ib : ∀ {es : List Stmt} {xs : Sms}, cSs (cSt G N X.env.scope F m) es = some xs → PSsi X G A T C W es xs := fun {es xs} h => pss_ok (fun e x => stmt_ok m c hN e x) h
    cases st with
    | Pass p =>
      cases h
      exact ps_pass.imp fun E σ H ⟨e, s, N, R, Xa, a, hw, hn, hr, hx⟩ => hn _ _ _ _ hw a (Sim.refl s H)
    | Expr e p =>
      have gen : (if noComp e = true then (cE G N F X.env.scope e).map Sm.exp else none) = some x → PSi X G A T C W (.Expr e p) x := fun h => by
        obtain ⟨h1, h⟩ := iteO h
        obtain ⟨y, h2, rfl⟩ := mapO h
        exact ps_expI (ie _ _ h2) h1
      cases e with
      | Constant cst j q =>
        cases cst with
        | str z =>
          cases h
          exact ps_doc.imp fun E σ H ⟨e, s, N, R, Xa, a, hw, hn, hr, hx⟩ => hn _ _ _ _ hw a (Sim.refl s H)
        | _ => exact gen h
      | _ => exact gen h
    | Assign ts v pos =>
      cases ts with
      | nil => cases h
      | cons t tr =>
        cases tr with
        | cons _ _ => cases t <;> cases h
        | nil =>
          cases t with
          | Name y py =>
            have h : cAsg G N X.env.scope F y py v pos = some x := h
            obtain ⟨i, h1, h⟩ := bindO h
            have hi : X.N[i]? = some y := by rw [hN]; exact ixOf_some h1
            have gen : (if (locB X.env.scope y && noComp v) = true then (cE G N F X.env.scope v).map (Sm.setv i) else none) = some x → PSi X G A T C W (.Assign [.Name y py] v pos) x := fun h => by
              obtain ⟨h2, h⟩ := iteO h
              simp only [Bool.and_eq_true] at h2
              obtain ⟨z, h3, rfl⟩ := mapO h
              exact ps_setI c.toCtx hi (locB_ok h2.1) (.inl (c.fnA y)) (ie _ _ h3) (sw_no h2.2)
            split at h
            · rename_i elt gs scope p _
              split at h
              · rename_i h2
                simp only [Bool.and_eq_true, Bool.not_eq_true'] at h2
                obtain ⟨z, h3, rfl⟩ := mapO h
                cases F with
                | zero => cases h3
                | succ F => exact ps_setLcI c hN hi (localB_ok h2.1.1) h2.1.2 h2.2 h3
              · obtain ⟨h2, h⟩ := iteO h
                obtain ⟨z, h3, rfl⟩ := mapO h
                exact ps_setI c.toCtx hi (.inr (of_decide_eq_true h2)) (.inl (c.fnA y)) (ie _ _ h3) (sw_cell (of_decide_eq_true h2))
            · obtain ⟨h2, h⟩ := iteO h
              cases h
              exact ps_setI c.toCtx hi (locB_ok h2) (.inl (c.fnA y)) (pe_dnewI _) (sw_no (by rfl))
            · exact gen h
          | Attribute o f p =>
            obtain ⟨i, h1, h⟩ := bindO (show (ixOf G.attrs f).bind _ = some x from h)
            obtain ⟨y, h2, h⟩ := bindO h
            obtain ⟨z, h3, rfl⟩ := mapO h
            exact ps_fldI c.toCtx (ixOf_some h1) (ie _ _ h3) (ie _ _ h2)
          | Subscript o i p =>
            obtain ⟨h1, h⟩ := iteO (show (if noSlice i = true then _ else none) = some x from h)
            obtain ⟨y, h2, h⟩ := bindO h
            obtain ⟨z, h3, h⟩ := bindO h
            obtain ⟨w, h4, rfl⟩ := mapO h
            exact ps_subI c.toCtx (ie _ _ h3) (ie _ _ h4) (ie _ _ h2) h1
          | Tuple es j p =>
            obtain ⟨h1, h⟩ := iteO (show (if (noTup v && noComp v) = true then _ else none) = some x from h)
            simp only [Bool.and_eq_true] at h1
            obtain ⟨y, h2, h⟩ := bindO h
            obtain ⟨z, h3, rfl⟩ := mapO h
            exact ps_unpI c hN (ie _ _ h2) h3 h1.1 h1.2
          | _ => cases h
    | If cc a b p =>
      obtain ⟨y, h1, h⟩ := bindO (show (cT G N F X.env.scope cc).bind _ = some x from h)
      obtain ⟨z, h2, h⟩ := bindO h
      obtain ⟨w, h3, rfl⟩ := mapO h
      exact ps_iteI (it _ _ h1) (ib h2) (ib h3)
    | For tg iter b els p =>
      cases els with
      | cons _ _ => cases h
      | nil =>
        obtain ⟨y, h1, h⟩ := bindO (show (cIter (cE G N F X.env.scope) X.env.scope iter).bind _ = some x from h)
        obtain ⟨z, h2, h⟩ := bindO h
        obtain ⟨q1, q2⟩ := iter_ok (tg := tg) c.toCtx ie h1
        cases tg with
        | Name i ip =>
          obtain ⟨h3, h⟩ := iteO (show (if locB X.env.scope i = true then (ixOf N i).map fun j => Sm.fr y.1 (some j) [] y.2 z else none) = some x from h)
          obtain ⟨j, h4, rfl⟩ := mapO h
          refine ps_frI c q1 q2 (pg_name c.nd (by rw [hN]; exact ixOf_some h4) (locB_ok h3) (.inl (c.fnA i))) (ib h2) fun e e1 d v σ H Q en vd he hq => ?_
          cases he
          exact hq _ (en.set j vd)
        | Tuple es kk tp =>
          obtain ⟨js, h3, rfl⟩ := mapO (show (cNms N X.env.scope es).map (fun js => Sm.fr y.1 none js y.2 z) = some x from h)
          obtain ⟨p1, p2, p3, p4⟩ := nms_ok c hN h3
          refine ps_frI c q1 q2 (pg_seq c.calm p1 p2 p3) (ib h2) fun e e1 d v σ H Q en vd he hq => ?_
          cases d with
          | tup l =>
            obtain ⟨a, xs, rfl, ha, vr⟩ := vd.tup_inv
            have he : sets js l e = some e1 := he
            exact ⟨a, xs, rfl, .inr (SqT.of ha), by rw [← vr.length, ← p4, sets_len he], e, l, e1, en, vr, he, hq⟩
          | _ => cases he
        | _ => cases h
    | While cc b els p =>
      cases els with
      | cons _ _ => cases h
      | nil =>
        obtain ⟨y, h1, h⟩ := bindO (show (cT G N F X.env.scope cc).bind _ = some x from h)
        obtain ⟨z, h2, rfl⟩ := mapO h
        exact ps_whlI c (it _ _ h1) (ib h2)
    | Return o p =>
      cases o with
      | none => cases h; exact ps_ret0I
      | some e =>
        obtain ⟨y, h1, rfl⟩ := mapO (show (cE G N F X.env.scope e).map Sm.ret = some x from h)
        exact ps_retI (ie _ _ h1)
    | Try body hds els fin p =>
      have h : cTry G N X.env.scope (cSt G N X.env.scope F m) body hds els fin = some x := h
      unfold cTry at h
      split at h
      · obtain ⟨h1, h⟩ := iteO h
        simp only [Bool.and_eq_true, Bool.not_eq_true'] at h1
        obtain ⟨kx, h2, h⟩ := bindO h
        obtain ⟨i, h3, h⟩ := bindO h
        obtain ⟨y, h5, h⟩ := bindO h
        split at h
        · rename_i ks h4
          cases h
          refine ps_tryI c (by rw [hN]; exact ixOf_some h3) h1.1.1.1 h1.1.1.2 h1.1.2 h1.2 h2 h4 fun {X' W'} c' e1 e2 e3 => ?_
          exact pss_ok (fun e x hx => stmt_ok m c' (e1.trans hN) e x (by rw [e2]; exact hx)) h5
        · split at h
          · rename_i ks cs h4
            cases h
            refine ps_trkI c (by rw [hN]; exact ixOf_some h3) h1.1.1.1 h1.1.1.2 h1.1.2 h1.2 h2 h4 fun {X' W'} c' e1 e2 e3 => ?_
            exact pss_ok (fun e x hx => stmt_ok m c' (e1.trans hN) e x (by rw [e2]; exact hx)) h5
          · obtain ⟨⟨j, cs⟩, h4, rfl⟩ := mapO h
            refine ps_trlI c (by rw [hN]; exact ixOf_some h3) h1.1.1.1 h1.1.2 h1.2 h2 (by rw [hN]; exact h4) fun {X' W'} c' e1 e2 e3 => ?_
            exact pss_ok (fun e x hx => stmt_ok m c' (e1.trans hN) e x (by rw [e2]; exact hx)) h5
      · obtain ⟨hs, h1, h⟩ := bindO h
        obtain ⟨y, h5, rfl⟩ := mapO h
        refine ps_trmI c (by rw [hN]; exact h1) fun {X' W'} c' e1 e2 e3 => ?_
        exact pss_ok (fun e x hx => stmt_ok m c' (e1.trans hN) e x (by rw [e2]; exact hx)) h5
      · cases h
    | Raise o w p =>
      have h : cRaise G X.env.scope o w = some x := h
      unfold cRaise at h
      split at h
      · split at h
        · obtain ⟨h1, h⟩ := iteO h
          simp only [Bool.and_eq_true, Bool.not_eq_true'] at h1
          obtain ⟨cc, h2, rfl⟩ := mapO h
          exact ps_rseI c h2 h1.1 (glB_ok h1.2)
        · cases h
      · cases h
    | _ => cases h
end
end MH
set_option Elab.async false
set_option linter.all false
set_option maxRecDepth 100000
/-! Defs; the law's end. -/
namespace MH
open PySem L2 PyProof.Rows

/-- fuel: of expressions, of statements -/
abbrev fE : Nat := 40
abbrev fS : Nat := 20
/-- a def of the row and its clean form (where it has one) -/
def DefOk (K : PySem.W.Frag) (G : Gb) (T : Tab) (f : Nat) (a : Addr) : Prop :=
  ∃ (x qual : Str) (st : Stmt) (fd : FuncData) (N ps : List Str), Fun K x qual st a fd ∧ L2.Binds K fd ps [] ∧
    ∀ fn, T.fn f = some fn → FnScope N ps (defScope st) ∧ fn.np = ps.length ∧ fn.ns = N.length ∧ cSs (cSt G N (defScope st) fE fS) (defBody st) = some fn.body
structure RowF (K : PySem.W.Frag) (mg : Str → Option Value) (G : Gb) (A : Ad) (T : Tab) : Prop where
  fc : Facts K mg G A T fun f => DefOk K G T f (A.fn f)
  exs : ∀ x c, G.exs.lookup x = some c → mg x = some (.ref (A.cl c)) ∧ PySem.W.keepIn K (.ref (A.cl c)) = true ∧ PySem.W.subIn K (.ref (A.cl c)) (.type "BaseException") = some true ∧ PySem.W.typeIn K (.ref (A.cl c)) = some (.type "type") ∧
    PySem.W.excIn K (A.cl c) [.type "ValueError", .type "Exception", .type "BaseException", .type "object"] "ValueError.__new__" = true
  ve : mg "ValueError" = none
  ke : mg "KeyError" = none
  exn : ∀ x c, G.exs.lookup x = some c → c < kErr
  exq : ∀ c k, T.sub c k = true → (k < 2000 → ExcQ K A c k) ∧ (2000 ≤ k → PySem.W.exmOne K (.ref (A.cl c)) (.ref (A.cl (k - 2000))) = some false ∧ PySem.W.kitOne K (.ref (A.cl c)) (.ref (A.cl (k - 2000))) = some false)
  knd : ∀ x ks, G.knd.lookup x = some ks → KindOk K mg G x ks
theorem Facts.imp {K : PySem.W.Frag} {mg : Str → Option Value} {G : Gb} {A : Ad} {T : Tab} {ok ok' : Nat → Prop} (F : Facts K mg G A T ok) (h : ∀ f, ok f → ok' f) : Facts K mg G A T ok' :=
  ⟨F.nd, fun x f e => let ⟨a, b, c⟩ := F.fns x f e; ⟨a, b, h f c⟩, F.cls, fun c f e => let ⟨a, b, d⟩ := F.init c f e; ⟨a, h f b, d⟩, F.fld, F.tf, fun c m f x e1 e2 => let ⟨a, b, d⟩ := F.meth c m f x e1 e2; ⟨a, b, h f d⟩, F.blt, F.isi, F.rng, F.tys, F.cons⟩
section
variable {P : Program} {w : World} {K : PySem.W.Frag} {mg : Str → Option Value} {base : Heap} {G : Gb} {A : Ad} {T : Tab}
theorem start_env {H : Hp} {fn : Fn} {ds : List D} {vs : List V} {N : List Str} (vr : VRs K H ds vs) (hn : fn.ns = N.length) : REnv K H (start fn ds) (L2.start N vs) := by
  have hl := vr.length
  refine ⟨by simp [start, L2.start, hl, hn], fun i d h => ?_⟩
  unfold start at h
  unfold L2.start
  by_cases hi : i < ds.length
  · rw [List.getElem?_append_left (by simpa using hi), List.getElem?_map] at h
    cases e : ds[i]? with
    | none => rw [e] at h; cases h
    | some d' =>
      rw [e] at h; cases h
      obtain ⟨v, h1, h2⟩ := vr.get e
      refine ⟨v, ?_, h2⟩
      rw [List.getElem?_append_left (by simp; omega), List.getElem?_map, h1]; rfl
  · rw [List.getElem?_append_right (by simpa using hi)] at h
    rw [List.getElem?_replicate] at h
    split at h <;> cases h
/-- every def keeps its clean promise -/
theorem prog_ok (R : RowF K mg G A T) : ∀ n f, DefOk K G T f (A.fn f) → ∃ fd ps, FnOk P w K mg base (L2.CX P w) (2 * n) (A.fn f) fd ps (spC K G A (wCall T n f)) ∧ L2.Binds K fd ps []
  | 0, f, ⟨x, qual, st, fd, N, ps, F, hb, _⟩ => ⟨fd, ps, ⟨fun vs H Q E h => by obtain ⟨ds, s, P', Xa, _, _, hc, _⟩ := h; exact hc.elim, fun A' outer s H args us vs Q E _ _ _ _ h => by obtain ⟨ds, s, P', Xa, _, _, hc, _⟩ := h; exact hc.elim⟩, hb⟩
  | n + 1, f, ⟨x, qual, st, fd, N, ps, F, hb, hrow⟩ => by
    refine ⟨fd, ps, ?_, hb⟩
    cases hf : T.fn f with
    | none =>
      refine ⟨fun vs H Q E h => ?_, fun A' outer s H args us vs Q E _ _ _ _ h => ?_⟩
      · obtain ⟨ds, s, P', Xa, _, _, ⟨fn, hc, _⟩, _⟩ := h
        rw [hf] at hc; cases hc
      · obtain ⟨ds, s, P', Xa, _, _, ⟨fn, hc, _⟩, _⟩ := h
        rw [hf] at hc; cases hc
    | some fn =>
      obtain ⟨sc, h1, h2, h3⟩ := hrow fn hf
      have lvl : 2 * (n + 1) = (2 * n + 1) + 1 := by omega
      rw [lvl]
      refine F.okX sc (fun vs H Q E h => ?_) (fun cdv A' outer s H vs Q E hr h => ?_)
      · obtain ⟨ds, s, P', Xa, _, vr, ⟨fn', hc, hl, _⟩, _⟩ := h
        rw [hf] at hc; cases hc
        rw [← vr.length, hl, h1]
      · obtain ⟨ds, st0, P', Xa, rl, vr, ⟨fn', hc, hl, hw⟩, hp, hx⟩ := h
        rw [hf] at hc; cases hc
        have fc := R.fc.imp fun f hd => prog_ok R n f hd
        have c : CtS (cxOf (L2.CX P w) P w K mg base N qual (defScope st) (A.fn f) cdv A' outer s H E) G A T (wCall T n) (2 * n) (fun cls d _ H => E cls d H) :=
          { calm := rfl, nd := sc.nd, room := hr, tk := takes_of rfl rfl rfl rfl, fc := fc, po := passes_of rfl, kind := sc.kind, fnA := fun _ => rfl, exs := R.exs, stk := rfl, frm := rfl, en := ⟨R.fc.isi, R.ve, R.ke, fun x c h => ⟨(R.exs x c h).1, R.exn x c h⟩⟩, exq := R.exq, knd := R.knd }
        refine ⟨_, pss_ok (fun e x => stmt_ok (F := fE) fS c rfl e x) h3, ?_⟩
        exact ⟨start fn ds, st0, _, P', _, ⟨rl, start_env vr h2⟩, hw, fun e' s' σ' H' q1 q2 q3 => hp _ _ _ _ q1 q2.rel .non q3, hp, fun c e' s' σ' H' q1 q2 q3 => hx c s' H' q1 q2.rel q3⟩
end
theorem RoL_of {K : PySem.W.Frag} {H : Hp} {a : Addr} {xs : List V} (o : Only H) (h : SqL K H a xs) : RoL K H a xs := by
  rcases h with (h | h) | h
  · rcases o a with e | ⟨ob, ys, e⟩
    · rw [e] at h; cases h
    · rw [e] at h; cases h
  · exact .inl h
  · exact .inr h
/-- the law's end: its clean reading gives True -/
theorem law_end {l : PySem.W.OpenLaw} {q : Program} {loose : List Str} {XP' : (Str → Option Value) → Heap → Prop} {YP : World → Heap → Prop} {d : DefRec} {K : Params → PySem.W.Frag} {G : Gb} {T : Tab} {n f : Nat} {x : Str}
    (hn : l.most = some 63) (hdf : d.params.defaults = []) (hr : Room (2 * n) callerA)
    (hY : ∀ (w : World) (h : Heap), YP w h → (K w.params).In h)
    (rows : ∀ (w : World) (mg : Str → Option Value) (fa : Addr) (h : Heap), (K w.params).In h → h.Ns mainGlobals mg → mg d.name = some (.ref fa) →
      ∃ A fd, RowF (K w.params) mg G A T ∧ A.fn f = fa ∧ (∀ (s : Shared) (u : Value), BindsTo s fd ⟨[u], []⟩ [(x, u)]) ∧ (∃ qual st N, Fun (K w.params) d.name qual st fa fd ∧ L2.Binds (K w.params) fd [x] [] ∧
        ∀ fn, T.fn f = some fn → FnScope N [x] (defScope st) ∧ fn.np = 1 ∧ fn.ns = N.length ∧ cSs (cSt G N (defScope st) fE fS) (defBody st) = some fn.body))
    (main : ∀ ns : List Int, ns.length ≤ 63 → (∀ z ∈ ns, Builtin.Int.intBits z ≤ 1048576) → wCall T n f [.ro (ns.map .int)] (fun _ => none) (fun d _ => d = .bl true) (fun _ _ => False)) :
    PySem.W.WalkO q loose XP' YP l.row.toRowW d [] (fun f vs => PySem.call f vs) := by
  refine L2.walk_ofB (n := 63) (k := 2 * n) (x := x) (CX := fun w => L2.CX l.prog w) (sp := fun w => fun vs H Q _ => ∃ (a : Addr) (ns : List Int), vs = [.ref a] ∧ RoL (K w.params) H a (ns.map V.int) ∧ ns.length ≤ 63 ∧ (∀ z ∈ ns, Builtin.Int.intBits z ≤ 1048576) ∧ ∀ H', Q (.bl true) H') hn (by decide) hdf hr hY ?_ ?_ ?_
  · intro w mg fa h KX Gm hmg
    obtain ⟨A, fd, R, rfl, hbt, qual, st, N, Fu, hb, hrow⟩ := rows w mg fa h KX Gm hmg
    refine ⟨fd, hbt, fun base _ _ => ?_⟩
    -- the law itself, as the other defs
    cases n with
    | zero => exact absurd (main [] (by decide) (fun z hz => nomatch hz)) id
    | succ n =>
      have lvl : 2 * (n + 1) = (2 * n + 1) + 1 := by omega
      rw [lvl]
      cases hf : T.fn f with
      | none =>
        obtain ⟨fn, hc, _⟩ := main [] (by decide) (fun z hz => nomatch hz)
        rw [hf] at hc; cases hc
      | some fn =>
        obtain ⟨sc, h1, h2, h3⟩ := hrow fn hf
        refine Fu.okX sc (fun vs H Q E h => ?_) (fun cdv A' outer s H vs Q E hr h => ?_)
        · obtain ⟨a, ns, rfl, _⟩ := h
          rfl
        · obtain ⟨a, ns, rfl, hs, hl, hbits, hk⟩ := h
          obtain ⟨fn', hc, hlen, hw⟩ := main ns hl hbits
          rw [hf] at hc; cases hc
          have fc := R.fc.imp fun f hd => prog_ok (P := l.prog) (w := w) (base := base) R n f hd
          have c : CtS (cxOf (L2.CX l.prog w) l.prog w (K w.params) mg base N qual (defScope st) (A.fn f) cdv A' outer s H E) G A T (wCall T n) (2 * n) (fun cls d _ H => E cls d H) :=
            { calm := rfl, nd := sc.nd, room := hr, tk := takes_of rfl rfl rfl rfl, fc := fc, po := passes_of rfl, kind := sc.kind, fnA := fun _ => rfl, exs := R.exs, stk := rfl, frm := rfl, en := ⟨R.fc.isi, R.ve, R.ke, fun x c h => ⟨(R.exs x c h).1, R.exn x c h⟩⟩, exq := R.exq, knd := R.knd }
          refine ⟨_, pss_ok (fun e x => stmt_ok (F := fE) fS c rfl e x) h3, ?_⟩
          have vr : VRs (K w.params) H [.ro (ns.map .int)] [V.ref a] := .cons (.ro hs VRs.of_ints) .nil
          exact ⟨start fn [.ro (ns.map .int)], fun _ => none, _, _, _, ⟨fun a o e => (nomatch e), start_env vr h2⟩, hw, fun e' s' σ' H' q1 q2 q3 => (by cases q1), fun d s' v H' q1 q2 q3 q4 => (by subst q1; rw [q3.bl_inv]; exact hk H'), fun c e' s' σ' H' q1 q2 q3 => q1.elim⟩
  · intro w H a ns hl hb hO hS
    exact ⟨a, ns, rfl, RoL_of hO hS, hl, hb, fun _ => rfl⟩
  · intro w H s e s' h
    obtain ⟨_, _, _, _, _, _, _, _, _, _, _, _, z⟩ := h
    exact z.elim
end MH
set_option Elab.async false
set_option linter.all false
set_option maxRecDepth 100000
/-! Small words for the rows. -/
namespace MH
open PySem L2 PyProof.Rows
theorem defOk_mk {K : PySem.W.Frag} {G : Gb} {T : Tab} {f : Nat} {a : Addr} {fn : Fn} {x qual : Str} {st : Stmt} {fd : FuncData} {N ps : List Str} (hT : T.fn f = some fn) (F : Fun K x qual st a fd) (b : L2.Binds K fd ps []) (S : FnScope N ps (defScope st)) (h1 : fn.np = ps.length) (h2 : fn.ns = N.length)
    (h3 : cSs (cSt G N (defScope st) fE fS) (defBody st) = some fn.body) : DefOk K G T f a :=
  ⟨x, qual, st, fd, N, ps, F, b, fun fn' h => by rw [hT] at h; cases h; exact ⟨S, h1, h2, h3⟩⟩
theorem defOk_no {K : PySem.W.Frag} {G : Gb} {T : Tab} {f : Nat} {a : Addr} {x qual : Str} {st : Stmt} {fd : FuncData} {ps : List Str} (hT : T.fn f = none) (F : Fun K x qual st a fd) (b : L2.Binds K fd ps []) : DefOk K G T f a :=
  ⟨x, qual, st, fd, [], ps, F, b, fun fn' h => by rw [hT] at h; cases h⟩
/-- what holds of each pair -/
def AllP {α β : Type} (P : α → β → Prop) : List (α × β) → Prop
  | [] => True
  | p :: r => P p.1 p.2 ∧ AllP P r
theorem look_all {α β : Type} [BEq α] [LawfulBEq α] {P : α → β → Prop} : ∀ {l : List (α × β)}, AllP P l → ∀ x y, l.lookup x = some y → P x y
  | [], _, x, y, h => by cases h
  | (a, b) :: r, hp, x, y, h => by
    by_cases e : x = a
    · subst e
      rw [List.lookup_cons_self] at h
      cases h
      exact hp.1
    · rw [List.lookup_cons, (beq_eq_false_iff_ne.mpr e)] at h
      exact look_all hp.2 x y h
theorem fld_all {attrs : List Str} {P : Nat → Str → Prop} : ∀ {l : List (Nat × Nat)}, AllP (fun c f => ∀ x, attrs[f]? = some x → P c x) l → ∀ c f x, l.contains (c, f) = true → attrs[f]? = some x → P c x
  | [], _, c, f, x, h, _ => by cases h
  | (a, b) :: r, hp, c, f, x, h, hx => by
    by_cases e : (c, f) = (a, b)
    · cases e
      exact hp.1 x hx
    · have h' : r.contains (c, f) = true := by
        rw [List.contains_cons, (beq_eq_false_iff_ne.mpr e), Bool.false_or] at h
        exact h
      exact fld_all hp.2 c f x h' hx
theorem meth_all {attrs : List Str} {P : Nat → Nat → Str → Prop} {l : List ((Nat × Nat) × Nat)} (h : AllP (fun cm f => ∀ x, attrs[cm.2]? = some x → P cm.1 f x) l) : ∀ c m f x, l.lookup (c, m) = some f → attrs[m]? = some x → P c f x :=
  fun c m f x e hx => look_all h (c, m) f e x hx
theorem sub_all {P : Nat → Nat → Prop} : ∀ {l : List (Nat × Nat)}, AllP P l → ∀ c k, l.contains (c, k) = true → P c k
  | [], _, c, k, h => by cases h
  | (a, b) :: r, hp, c, k, h => by
    by_cases e : (c, k) = (a, b)
    · cases e
      exact hp.1
    · have h' : r.contains (c, k) = true := by
        rw [List.contains_cons, (beq_eq_false_iff_ne.mpr e), Bool.false_or] at h
        exact h
      exact sub_all hp.2 c k h'
theorem exm_own {K : PySem.W.Frag} {c k : Addr} (b : PySem.W.subIn K (.ref k) (.type "BaseException") = some true) (hd : PySem.W.hasDictIn K k = true) (t : PySem.W.typeIn K (.ref k) = some (.type "type")) (s : PySem.W.subIn K (.ref c) (.ref k) = some true) : PySem.W.exmOne K (.ref c) (.ref k) = some true :=
  PySem.W.exm_ref b hd t s
theorem exm_ownF {K : PySem.W.Frag} {c k : Addr} (b : PySem.W.subIn K (.ref k) (.type "BaseException") = some true) (hd : PySem.W.hasDictIn K k = true) (t : PySem.W.typeIn K (.ref k) = some (.type "type")) (s : PySem.W.subIn K (.ref c) (.ref k) = some false) : PySem.W.exmOne K (.ref c) (.ref k) = some false :=
  PySem.W.exm_ref b hd t s
theorem kit_own {K : PySem.W.Frag} {c k : Addr} (b : PySem.W.subIn K (.ref k) (.type "BaseException") = some true) (hd : PySem.W.hasDictIn K k = true) (t : PySem.W.typeIn K (.ref k) = some (.type "type")) (s : PySem.W.subIn K (.ref c) (.ref k) = some true) : PySem.W.kitOne K (.ref c) (.ref k) = some true := by
  have h := exm_own b hd t s
  unfold PySem.W.exmOne at h
  rw [b] at h
  unfold PySem.W.kitOne
  split
  · rfl
  · exact h
theorem kit_ownF {K : PySem.W.Frag} {c k : Addr} (b : PySem.W.subIn K (.ref k) (.type "BaseException") = some true) (hd : PySem.W.hasDictIn K k = true) (t : PySem.W.typeIn K (.ref k) = some (.type "type")) (s : PySem.W.subIn K (.ref c) (.ref k) = some false) (r : PySem.W.subIn K (.ref c) (.ref c) = some true) :
    PySem.W.exmOne K (.ref c) (.ref k) = some false ∧ PySem.W.kitOne K (.ref c) (.ref k) = some false := by
  have h := exm_ownF b hd t s
  refine ⟨h, ?_⟩
  unfold PySem.W.exmOne at h
  rw [b] at h
  unfold PySem.W.kitOne
  split
  · rename_i e
    have : (Value.ref c) = .ref k := eq_of_beq e
    rw [← this, r] at s
    cases s
  · exact h
theorem kit_val {K : PySem.W.Frag} {c : Addr} (s : PySem.W.subIn K (.ref c) (.type "ValueError") = some true) : PySem.W.kitOne K (.ref c) (.type "ValueError") = some true := by
  unfold PySem.W.kitOne
  split
  · rfl
  · show (if PySem.W.kitMeta "ValueError" = true then PySem.W.subIn K (.ref c) (.type "ValueError") else none) = some true
    rw [if_pos (by decide +kernel)]
    exact s
end MH
set_option Elab.async false
set_option linter.all false
set_option maxRecDepth 100000
/-! The clean defs of all laws (printed by gen.py). -/
namespace MH
open PySem L2

abbrev a_asking : Nat := 0
abbrev a_answers : Nat := 1
abbrev a_letter : Nat := 2
abbrev a_begin : Nat := 3
abbrev a_came : Nat := 4
abbrev a_number : Nat := 5
abbrev a_made : Nat := 6
abbrev a_asked : Nat := 7
abbrev a_closed : Nat := 8
abbrev a_has : Nat := 9
abbrev a_write : Nat := 10
abbrev a_owes : Nat := 11
abbrev a_nudge : Nat := 12
abbrev a_names : Nat := 13
abbrev a_known : Nat := 14
abbrev a_written : Nat := 15
abbrev a_laid : Nat := 16
abbrev a_fresh : Nat := 17
abbrev a_called : Nat := 18
abbrev a_parcel : Nat := 19
abbrev a_move : Nat := 20
abbrev a_sleep : Nat := 21
abbrev a_ledger : Nat := 22
abbrev a_letters : Nat := 23
abbrev a_home : Nat := 24
abbrev a_settle : Nat := 25
abbrev a_houses : Nat := 26
abbrev a_callers : Nat := 27
abbrev a_under_way : Nat := 28
abbrev a_rows : Nat := 29
abbrev a_need_caller : Nat := 30
abbrev a_need_house : Nat := 31
abbrev a_need_key : Nat := 32
abbrev a_need_place : Nat := 33
abbrev a_brought : Nat := 34
abbrev a_is_settled : Nat := 35
abbrev a_hand : Nat := 36
abbrev a_call : Nat := 37
abbrev a_again : Nat := 38
abbrev a_twice : Nat := 39
abbrev a_lose : Nat := 40
def attrs : List Str := [("asking" : Str), ("answers" : Str), ("letter" : Str), ("begin" : Str), ("came" : Str), ("number" : Str), ("made" : Str), ("asked" : Str), ("closed" : Str), ("has" : Str), ("write" : Str), ("owes" : Str), ("nudge" : Str), ("names" : Str), ("known" : Str), ("written" : Str), ("laid" : Str), ("fresh" : Str), ("called" : Str), ("parcel" : Str), ("move" : Str), ("sleep" : Str), ("ledger" : Str), ("letters" : Str), ("home" : Str), ("settle" : Str), ("houses" : Str), ("callers" : Str), ("under_way" : Str), ("rows" : Str), ("need_caller" : Str), ("need_house" : Str), ("need_key" : Str), ("need_place" : Str), ("brought" : Str), ("is_settled" : Str), ("hand" : Str), ("call" : Str), ("again" : Str), ("twice" : Str), ("lose" : Str)]
abbrev c_House : Nat := 0
abbrev c_Caller : Nat := 1
abbrev c_World : Nat := 2
abbrev x_MoveError : Nat := 10
abbrev x_BadWorld : Nat := 11
abbrev x_NoCaller : Nat := 12
abbrev x_NoHouse : Nat := 13
abbrev x_NoKey : Nat := 14
abbrev x_BadWish : Nat := 15
abbrev x_Busy : Nat := 16
abbrev x_Idle : Nat := 17
abbrev x_NotHere : Nat := 18
abbrev x_NoLetter : Nat := 19
def q_a : Str := "a"
def q_ab : Str := "ab"
def q_abc : Str := "abc"
def q_abcdefghi : Str := "abcdefghi"
def q_abcdefghijklmnopqrstuvwxyz : Str := "abcdefghijklmnopqrstuvwxyz"
def q_add : Str := "add"
def q_amount : Str := "amount"
def q_amounts : Str := "amounts"
def q_answer : Str := "answer"
def q_asked : Str := "asked"
def q_at : Str := "at"
def q_bc : Str := "bc"
def q_call : Str := "call"
def q_callers : Str := "callers"
def q_closed : Str := "closed"
def q_fresh : Str := "fresh"
def q_get : Str := "get"
def q_gone : Str := "gone"
def q_here : Str := "here"
def q_houses : Str := "houses"
def q_known : Str := "known"
def q_laid : Str := "laid"
def q_ledger : Str := "ledger"
def q_letters : Str := "letters"
def q_made : Str := "made"
def q_marks : Str := "marks"
def q_more : Str := "more"
def q_number : Str := "number"
def q_old : Str := "old"
def q_owed : Str := "owed"
def q_parcel : Str := "parcel"
def q_post : Str := "post"
def q_qwertyui : Str := "qwertyui"
def q_rows : Str := "rows"
def q_set : Str := "set"
def q_take : Str := "take"
def q_taken : Str := "taken"
def q_turn : Str := "turn"
def q_written : Str := "written"
def q_x : Str := "x"
abbrev f_is_whole : Nat := 0
abbrev f_is_wish : Nat := 1
abbrev f_need_wish : Nat := 2
abbrev f_done : Nat := 3
abbrev f_l_cell_at : Nat := 4
abbrev f_l_alike : Nat := 5
abbrev f_l_wish : Nat := 6
abbrev f_l_odd : Nat := 7
abbrev f_l_kinds_k01 : Nat := 8
abbrev f_l_refused : Nat := 9
abbrev f_law_k01 : Nat := 10
abbrev f_played : Nat := 11
abbrev f_l_keys : Nat := 12
abbrev f_l_done : Nat := 13
abbrev f_law_k02 : Nat := 14
abbrev f_l_stands : Nat := 15
abbrev f_law_k03 : Nat := 16
abbrev f_Caller_init : Nat := 17
abbrev f_Caller_begin : Nat := 18
abbrev f_Caller_letter : Nat := 19
abbrev f_Caller_came : Nat := 20
abbrev f_Caller_asking : Nat := 21
abbrev f_Caller_answers : Nat := 22
abbrev f__wall : Nat := 23
abbrev f_mark_of : Nat := 24
abbrev f_marked : Nat := 25
abbrev f_l_came : Nat := 26
abbrev f_law_k04 : Nat := 27
abbrev f_House_init : Nat := 28
abbrev f_House_has : Nat := 29
abbrev f_House_owes : Nat := 30
abbrev f_House_parcel : Nat := 31
abbrev f_House_came : Nat := 32
abbrev f_House_called : Nat := 33
abbrev f_House_move_k04 : Nat := 34
abbrev f_House_write : Nat := 35
abbrev f_House_sleep_k04 : Nat := 36
abbrev f_House_nudge : Nat := 37
abbrev f_l_marked : Nat := 38
abbrev f_l_last : Nat := 39
abbrev f_l_call : Nat := 40
abbrev f_l_wrote : Nat := 41
abbrev f_l_hop : Nat := 42
abbrev f_l_step : Nat := 43
abbrev f_law_k05 : Nat := 44
abbrev f_House_move : Nat := 45
abbrev f_House_sleep_k05 : Nat := 46
abbrev f_House_nudge_k05 : Nat := 47
abbrev f_l_new : Nat := 48
abbrev f_l_parcel : Nat := 49
abbrev f_l_called : Nat := 50
abbrev f_l_moved : Nat := 51
abbrev f_l_wrote_k06 : Nat := 52
abbrev f_l_slept : Nat := 53
abbrev f_l_nudged : Nat := 54
abbrev f_l_stands_k06 : Nat := 55
abbrev f_l_refused_k06 : Nat := 56
abbrev f_l_step_k06 : Nat := 57
abbrev f_law_k06 : Nat := 58
abbrev f_House_sleep : Nat := 59
abbrev f_l_marks_by : Nat := 60
abbrev f_l_comes : Nat := 61
abbrev f_l_step_k07 : Nat := 62
abbrev f_law_k07 : Nat := 63
abbrev f_is_key : Nat := 64
abbrev f_need_world : Nat := 65
abbrev f_l_whole : Nat := 66
abbrev f_l_kinds_k08 : Nat := 67
abbrev f_l_refused_k08 : Nat := 68
abbrev f_l_names : Nat := 69
abbrev f_l_odd_k08 : Nat := 70
abbrev f_l_good : Nat := 71
abbrev f_l_fresh : Nat := 72
abbrev f_l_no_key : Nat := 73
abbrev f_law_k08 : Nat := 74
abbrev f_House_move_k08 : Nat := 75
abbrev f_House_sleep_k08 : Nat := 76
abbrev f_World_init : Nat := 77
abbrev f_World_need_caller : Nat := 78
abbrev f_World_need_house : Nat := 79
abbrev f_World_need_key : Nat := 80
abbrev f_World_need_place : Nat := 81
abbrev f_World_call : Nat := 82
abbrev f_World_again : Nat := 83
abbrev f_World_letters : Nat := 84
abbrev f_World_brought : Nat := 85
abbrev f_World_hand : Nat := 86
abbrev f_World_twice : Nat := 87
abbrev f_World_lose_k08 : Nat := 88
abbrev f_World_home : Nat := 89
abbrev f_World_has : Nat := 90
abbrev f_World_move_k08 : Nat := 91
abbrev f_World_write : Nat := 92
abbrev f_World_sleep_k08 : Nat := 93
abbrev f_World_nudge : Nat := 94
abbrev f_World_ledger : Nat := 95
abbrev f_World_asking : Nat := 96
abbrev f_World_answers : Nat := 97
abbrev f_World_owes : Nat := 98
abbrev f_World_is_settled : Nat := 99
abbrev f_World_settle : Nat := 100
abbrev f_l_act : Nat := 101
abbrev f_l_said : Nat := 102
abbrev f_l_count : Nat := 103
abbrev f_l_key : Nat := 104
abbrev f_l_there : Nat := 105
abbrev f_l_due : Nat := 106
abbrev f_l_state : Nat := 107
abbrev f_law_k09 : Nat := 108
abbrev f_World_lose : Nat := 109
abbrev f_World_move : Nat := 110
abbrev f_World_sleep : Nat := 111
abbrev f_l_step_k10 : Nat := 112
abbrev f_law_k10 : Nat := 113
abbrev f_House_owes_k10 : Nat := 114
abbrev f_House_move_k10 : Nat := 115
abbrev f_House_nudge_k10 : Nat := 116
abbrev f_World_home_k10 : Nat := 117
abbrev f_World_move_k10 : Nat := 118
abbrev f_World_nudge_k10 : Nat := 119
abbrev f_World_owes_k10 : Nat := 120
abbrev f_World_is_settled_k10 : Nat := 121
abbrev f_World_settle_k10 : Nat := 122
abbrev f_l_brought : Nat := 123
abbrev f_l_written : Nat := 124
abbrev f_l_home : Nat := 125
abbrev f_l_owes : Nat := 126
abbrev f_l_rounds : Nat := 127
abbrev f_l_posted : Nat := 128
abbrev f_l_lettered : Nat := 129
abbrev f_l_refused_k11 : Nat := 130
abbrev f_l_nowhere : Nat := 131
abbrev f_l_step_k11 : Nat := 132
abbrev f_l_told : Nat := 133
abbrev f_l_due_k11 : Nat := 134
abbrev f_l_stands_k11 : Nat := 135
abbrev f_law_k11 : Nat := 136
abbrev f_l_deed : Nat := 137
abbrev f_l_at_home : Nat := 138
abbrev f_law_k12 : Nat := 139
abbrev f_Caller_answers_k12 : Nat := 140
abbrev f_World_answers_k12 : Nat := 141
abbrev f_World_is_settled_k12 : Nat := 142
abbrev f_World_settle_k12 : Nat := 143
abbrev f_l_ledger_right : Nat := 144
abbrev f_law_k13 : Nat := 145
abbrev f_Caller_answers_k13 : Nat := 146
abbrev f_World_answers_k13 : Nat := 147
abbrev f_World_is_settled_k13 : Nat := 148
abbrev f_World_settle_k13 : Nat := 149
abbrev f_l_calls_right : Nat := 150
abbrev f_l_closed : Nat := 151
abbrev f_l_in_time : Nat := 152
abbrev f_law_k14 : Nat := 153
abbrev f_World_is_settled_k14 : Nat := 154
abbrev f_World_settle_k14 : Nat := 155
abbrev f_l_is_settled : Nat := 156
abbrev f_l_all_told : Nat := 157
abbrev f_l_settles : Nat := 158
abbrev f_law_k15 : Nat := 159
def fn_is_whole : Fn := ⟨(1), (1), (.cons (.ret (.and (.isi (.loc 0) [.int]) (.not (.isi (.loc 0) [.bool])))) .nil)⟩
def fn_is_wish : Fn := ⟨(1), (1), (.cons (.ite (.or (.not (.isi (.loc 0) [.tuple])) (.or (.cmp .Eq (.blt .len (.cons (.loc 0) .nil)) (.int 0)) (.not (.isi (.idx (.loc 0) (.int 0)) [.str])))) (.cons (.ret (.bl false)) .nil) .nil) (.cons (.ite (.cmp .Eq (.idx (.loc 0) (.int 0)) (.str q_get)) (.cons (.ret (.cmp .Eq (.blt .len (.cons (.loc 0) .nil)) (.int 1))) .nil) .nil) (.cons (.ite (.or (.and (.cmp .NotEq (.idx (.loc 0) (.int 0)) (.str q_set)) (.cmp .NotEq (.idx (.loc 0) (.int 0)) (.str q_add))) (.cmp .NotEq (.blt .len (.cons (.loc 0) .nil)) (.int 2))) (.cons (.ret (.bl false)) .nil) .nil) (.cons (.ret (.and (.call f_is_whole (.cons (.idx (.loc 0) (.int 1)) .nil)) (.cmp .LtE (.blt .abs (.cons (.idx (.loc 0) (.int 1)) .nil)) (.int 1000000000000000000000000000000)))) .nil))))⟩
def fn_need_wish : Fn := ⟨(1), (1), (.cons (.ite (.not (.call f_is_wish (.cons (.loc 0) .nil))) (.cons (.rse x_BadWish) .nil) .nil) .nil)⟩
def fn_done : Fn := ⟨(2), (2), (.cons (.ite (.cmp .Eq (.idx (.loc 1) (.int 0)) (.str q_get)) (.cons (.ret (.tup (.cons (.loc 0) (.cons (.loc 0) .nil)))) .nil) .nil) (.cons (.ite (.cmp .Eq (.idx (.loc 1) (.int 0)) (.str q_set)) (.cons (.ret (.tup (.cons (.idx (.loc 1) (.int 1)) (.cons (.loc 0) .nil)))) .nil) .nil) (.cons (.ret (.tup (.cons (.bin .Add (.loc 0) (.idx (.loc 1) (.int 1))) (.cons (.bin .Add (.loc 0) (.idx (.loc 1) (.int 1))) .nil)))) .nil)))⟩
def fn_l_cell_at : Fn := ⟨(2), (2), (.cons (.ite (.cmp .Lt (.loc 1) (.blt .len (.cons (.loc 0) .nil))) (.cons (.ret (.idx (.loc 0) (.loc 1))) .nil) .nil) (.cons (.ret (.int 0)) .nil))⟩
def fn_l_alike : Fn := ⟨(2), (3), (.cons (.ite (.isi (.loc 1) [.list, .tuple]) (.cons (.ite (.or (.cmp .NotEq (.isi (.loc 1) [.list]) (.isi (.loc 0) [.list])) (.cmp .NotEq (.isi (.loc 1) [.tuple]) (.isi (.loc 0) [.tuple]))) (.cons (.ret (.bl false)) .nil) .nil) (.cons (.ite (.cmp .NotEq (.blt .len (.cons (.loc 0) .nil)) (.blt .len (.cons (.loc 1) .nil))) (.cons (.ret (.bl false)) .nil) .nil) (.cons (.ret (.blt .all (.cons (.lc true (.call f_l_alike (.cons (.idx (.loc 0) (.loc 2)) (.cons (.idx (.loc 1) (.loc 2)) .nil))) 2 (.blt .len (.cons (.loc 1) .nil)) .no) .nil))) .nil))) .nil) (.cons (.ite (.isi (.loc 1) [.str]) (.cons (.ret (.and (.isi (.loc 0) [.str]) (.cmp .Eq (.loc 0) (.loc 1)))) .nil) .nil) (.cons (.ret (.and (.isi (.loc 0) [.int]) (.and (.not (.isi (.loc 0) [.bool])) (.cmp .Eq (.loc 0) (.loc 1))))) .nil)))⟩
def fn_l_wish : Fn := ⟨(1), (2), (.cons (.setv 1 (.bin .Sub (.bin .Mod (.bin .FloorDiv (.loc 0) (.int 6)) (.int 7)) (.int 3))) (.cons (.ite (.cmp .Eq (.bin .Mod (.bin .FloorDiv (.loc 0) (.int 3)) (.int 2)) (.int 1)) (.cons (.setv 1 (.bin .Sub (.bin .Mod (.bin .FloorDiv (.loc 0) (.int 6)) (.bin .Add (.bin .Mult (.int 2) (.bin .Pow (.int 10) (.int 30))) (.int 1))) (.bin .Pow (.int 10) (.int 30)))) .nil) .nil) (.cons (.ret (.idx (.lst (.cons (.tup (.cons (.str q_get) .nil)) (.cons (.tup (.cons (.str q_set) (.cons (.loc 1) .nil))) (.cons (.tup (.cons (.str q_add) (.cons (.loc 1) .nil))) .nil)))) (.bin .Mod (.loc 0) (.int 3)))) .nil)))⟩
def fn_l_odd : Fn := ⟨(1), (3), (.cons (.setv 1 (.bin .Add (.bin .Add (.bin .Pow (.int 10) (.int 30)) (.int 1)) (.bin .Mod (.bin .FloorDiv (.loc 0) (.int 24)) (.bin .Pow (.int 10) (.int 40))))) (.cons (.setv 2 (.lst (.cons .non (.cons (.tup .nil) (.cons (.tup (.cons (.str q_get) (.cons (.int 1) .nil))) (.cons (.tup (.cons (.str q_set) .nil)) (.cons (.tup (.cons (.str q_add) .nil)) (.cons (.tup (.cons (.str q_set) (.cons (.bl true) .nil))) (.cons (.tup (.cons (.str q_add) (.cons (.bl false) .nil))) (.cons (.tup (.cons (.str q_set) (.cons .non .nil))) (.cons (.tup (.cons (.str q_add) (.cons (.str (PySem.Str.ofString "1")) .nil))) .nil))))))))))) (.cons (.setv 2 (.bin .Add (.loc 2) (.lst (.cons (.tup (.cons (.str q_set) (.cons (.loc 1) .nil))) (.cons (.tup (.cons (.str q_add) (.cons (.loc 1) .nil))) (.cons (.tup (.cons (.str q_set) (.cons (.neg (.loc 1)) .nil))) (.cons (.tup (.cons (.str q_add) (.cons (.neg (.loc 1)) .nil))) (.cons (.tup (.cons (.str q_set) (.cons (.int 1) (.cons (.int 2) .nil)))) (.cons (.tup (.cons (.str q_get) (.cons (.tup .nil) .nil))) (.cons (.lst (.cons (.str q_get) .nil)) .nil)))))))))) (.cons (.setv 2 (.bin .Add (.loc 2) (.lst (.cons (.lst (.cons (.str q_set) (.cons (.int 1) .nil))) (.cons (.str q_get) (.cons (.int 5) (.cons (.tup (.cons (.str (PySem.Str.ofString "Get")) .nil)) (.cons (.tup (.cons (.str q_take) (.cons (.int 1) .nil))) (.cons (.tup (.cons (.int 1) (.cons (.int 2) .nil))) (.cons (.tup (.cons (.tup (.cons (.str q_get) .nil)) .nil)) (.cons (.tup (.cons (.str q_set) (.cons (.tup (.cons (.int 1) .nil)) .nil))) .nil))))))))))) (.cons (.ret (.idx (.loc 2) (.bin .Mod (.loc 0) (.int 24)))) .nil)))))⟩
def fn_l_refused : Fn := ⟨(1), (2), (.cons (.trk (.cons (.exp (.call f_need_wish (.cons (.loc 0) .nil))) .nil) x_MoveError 1 [x_BadWish, 999] [x_BadWorld, x_NoCaller, x_NoHouse, x_NoKey, x_BadWish, x_Busy, x_Idle, x_NotHere, x_NoLetter]) (.cons (.ret (.bl false)) .nil))⟩
def fn_law_k01 : Fn := ⟨(1), (4), (.cons (.setv 1 (.call f_l_cell_at (.cons (.loc 0) (.cons (.int 0) .nil)))) (.cons (.ite (.cmp .Eq (.bin .Mod (.call f_l_cell_at (.cons (.loc 0) (.cons (.int 1) .nil))) (.int 2)) (.int 1)) (.cons (.setv 1 (.bin .Pow (.loc 1) (.int 5))) .nil) .nil) (.cons (.setv 2 (.call f_l_wish (.cons (.call f_l_cell_at (.cons (.loc 0) (.cons (.int 2) .nil))) .nil))) (.cons (.ite (.and (.cmp .Eq (.bin .Mod (.bin .FloorDiv (.call f_l_cell_at (.cons (.loc 0) (.cons (.int 1) .nil))) (.int 2)) (.int 4)) (.int 1)) (.cmp .Eq (.blt .len (.cons (.loc 2) .nil)) (.int 2))) (.cons (.setv 2 (.tup (.cons (.idx (.loc 2) (.int 0)) (.cons (.idx (.lst (.cons (.bin .Pow (.int 10) (.int 30)) (.cons (.neg (.bin .Pow (.int 10) (.int 30))) .nil))) (.bin .Mod (.bin .FloorDiv (.call f_l_cell_at (.cons (.loc 0) (.cons (.int 2) .nil))) (.int 6)) (.int 2))) .nil)))) .nil) .nil) (.cons (.setv 3 (.tup (.cons (.loc 1) (.cons (.loc 1) .nil)))) (.cons (.ite (.cmp .Eq (.idx (.loc 2) (.int 0)) (.str q_set)) (.cons (.setv 3 (.tup (.cons (.idx (.loc 2) (.int 1)) (.cons (.loc 1) .nil)))) .nil) .nil) (.cons (.ite (.cmp .Eq (.idx (.loc 2) (.int 0)) (.str q_add)) (.cons (.setv 3 (.tup (.cons (.bin .Add (.loc 1) (.idx (.loc 2) (.int 1))) (.cons (.bin .Add (.loc 1) (.idx (.loc 2) (.int 1))) .nil)))) .nil) .nil) (.cons (.ite (.or (.cmp .IsNot (.call f_need_wish (.cons (.loc 2) .nil)) .non) (.not (.call f_l_alike (.cons (.call f_done (.cons (.loc 1) (.cons (.loc 2) .nil))) (.cons (.loc 3) .nil))))) (.cons (.ret (.bl false)) .nil) .nil) (.cons (.ret (.call f_l_refused (.cons (.call f_l_odd (.cons (.call f_l_cell_at (.cons (.loc 0) (.cons (.int 3) .nil))) .nil)) .nil))) .nil)))))))))⟩
def fn_played : Fn := ⟨(2), (8), (.cons (.setv 2 (.dnew false)) (.cons (.fr false (some 3) [] (.loc 0) (.cons (.seti (.loc 2) (.loc 3) (.int 0)) .nil)) (.cons (.setv 4 (.lst .nil)) (.cons (.fr false none [3, 5] (.loc 1) (.cons (.unp [.v 6, .v 7] (.call f_done (.cons (.idx (.loc 2) (.loc 3)) (.cons (.loc 5) .nil)))) (.cons (.seti (.loc 2) (.loc 3) (.loc 6)) (.cons (.exp (.bm .append (.loc 4) (.cons (.loc 7) .nil))) .nil)))) (.cons (.ret (.loc 4)) .nil)))))⟩
def fn_l_keys : Fn := ⟨(1), (8), (.cons (.setv 1 (.str q_abcdefghijklmnopqrstuvwxyz)) (.cons (.setv 2 (.bin .Add (.int 1) (.bin .Mod (.loc 0) (.int 6)))) (.cons (.setv 3 (.bin .Mod (.bin .FloorDiv (.loc 0) (.int 6)) (.int 8))) (.cons (.setv 4 (.bin .Mod (.bin .FloorDiv (.loc 0) (.int 48)) (.bin .Add (.loc 3) (.int 1)))) (.cons (.setv 5 (.bin .FloorDiv (.loc 0) (.int 432))) (.cons (.setv 6 (.bm .join (.str (PySem.Str.ofString "")) (.cons (.lc true (.idx (.loc 1) (.bin .Mod (.bin .Add (.bin .FloorDiv (.loc 5) (.int 26)) (.bin .Mult (.int 5) (.loc 7))) (.int 26))) 7 (.loc 3) .no) .nil))) (.cons (.ite (.cmp .Eq (.bin .Mod (.loc 5) (.int 3)) (.int 1)) (.cons (.ret (.lc true (.slc (.bin .Add (.loc 6) (.str q_qwertyui)) .no (.yes (.bin .Add (.loc 7) (.int 1)))) 7 (.loc 2) .no)) .nil) .nil) (.cons (.ret (.lc true (.bin .Add (.bin .Add (.slc (.loc 6) .no (.yes (.loc 4))) (.idx (.loc 1) (.bin .Mod (.bin .Add (.loc 5) (.loc 7)) (.int 26)))) (.slc (.loc 6) (.yes (.loc 4)) .no)) 7 (.loc 2) .no)) .nil))))))))⟩
def fn_l_done : Fn := ⟨(2), (2), (.cons (.ite (.cmp .Eq (.idx (.loc 1) (.int 0)) (.str q_get)) (.cons (.ret (.tup (.cons (.loc 0) (.cons (.loc 0) .nil)))) .nil) .nil) (.cons (.ite (.cmp .Eq (.idx (.loc 1) (.int 0)) (.str q_set)) (.cons (.ret (.tup (.cons (.idx (.loc 1) (.int 1)) (.cons (.loc 0) .nil)))) .nil) .nil) (.cons (.ret (.tup (.cons (.bin .Add (.loc 0) (.idx (.loc 1) (.int 1))) (.cons (.bin .Add (.loc 0) (.idx (.loc 1) (.int 1))) .nil)))) .nil)))⟩
def fn_law_k02 : Fn := ⟨(1), (12), (.cons (.setv 1 (.call f_l_keys (.cons (.call f_l_cell_at (.cons (.loc 0) (.cons (.int 0) .nil))) .nil))) (.cons (.setv 2 (.lc false (.tup (.cons (.idx (.loc 1) (.bin .Mod (.bin .FloorDiv (.loc 11) (.int 5)) (.blt .len (.cons (.loc 1) .nil)))) (.cons (.call f_l_wish (.cons (.bin .FloorDiv (.bin .Mult (.bin .Add (.loc 11) (.int 3)) (.int 48271)) (.int 7)) .nil)) .nil))) 11 (.slc (.loc 0) (.yes (.int 1)) .no) .no)) (.cons (.setv 3 (.lst (.cons (.blt .list (.cons (.loc 1) .nil)) (.cons (.blt .list (.cons (.loc 2) .nil)) .nil)))) (.cons (.setv 4 (.call f_played (.cons (.idx (.loc 3) (.int 0)) (.cons (.idx (.loc 3) (.int 1)) .nil)))) (.cons (.setv 5 (.dnew false)) (.cons (.setv 6 (.lst .nil)) (.cons (.fr false none [7, 8] (.loc 2) (.cons (.unp [.v 9, .v 10] (.call f_l_done (.cons (.bm .get (.loc 5) (.cons (.loc 7) (.cons (.int 0) .nil))) (.cons (.loc 8) .nil)))) (.cons (.seti (.loc 5) (.loc 7) (.loc 9)) (.cons (.exp (.bm .append (.loc 6) (.cons (.loc 10) .nil))) .nil)))) (.cons (.ret (.and (.call f_l_alike (.cons (.loc 4) (.cons (.loc 6) .nil))) (.cmp .Eq (.loc 3) (.lst (.cons (.loc 1) (.cons (.loc 2) .nil)))))) .nil))))))))⟩
def fn_l_stands : Fn := ⟨(4), (6), (.cons (.ite (.or (.and (.cmp .Is (.loc 2) .non) (.cmp .IsNot (.mth a_asking (.loc 0) .nil) .non)) (.and (.cmp .IsNot (.loc 2) .non) (.not (.call f_l_alike (.cons (.mth a_asking (.loc 0) .nil) (.cons (.loc 2) .nil)))))) (.cons (.ret (.bl false)) .nil) .nil) (.cons (.setv 4 (.mth a_answers (.loc 0) .nil)) (.cons (.ite (.not (.call f_l_alike (.cons (.loc 4) (.cons (.loc 3) .nil)))) (.cons (.ret (.bl false)) .nil) .nil) (.cons (.exp (.bm .append (.loc 4) (.cons (.tup (.cons (.int 0) (.cons (.int 0) .nil))) .nil))) (.cons (.ite (.cmp .IsNot (.loc 2) .non) (.cons (.fr true (some 5) [] (.int 2) (.cons (.ite (.not (.call f_l_alike (.cons (.mth a_letter (.loc 0) (.cons (.loc 5) .nil)) (.cons (.bin .Add (.tup (.cons (.str q_call) (.cons (.loc 5) (.cons (.loc 1) .nil)))) (.loc 2)) .nil)))) (.cons (.ret (.bl false)) .nil) .nil) .nil)) .nil) .nil) (.cons (.ret (.call f_l_alike (.cons (.mth a_answers (.loc 0) .nil) (.cons (.loc 3) .nil)))) .nil))))))⟩
def fn_law_k03 : Fn := ⟨(1), (11), (.cons (.setv 1 (.bin .Mod (.call f_l_cell_at (.cons (.loc 0) (.cons (.int 0) .nil))) (.int 6))) (.cons (.setv 2 (.make c_Caller (.cons (.loc 1) .nil))) (.cons (.setv 3 (.make c_Caller (.cons (.bin .Mod (.call f_l_cell_at (.cons (.loc 0) (.cons (.int 1) .nil))) (.int 6)) .nil))) (.cons (.setv 4 (.int 0)) (.cons (.setv 5 .non) (.cons (.setv 6 (.lst .nil)) (.cons (.fr false (some 7) [] (.slc (.loc 0) (.yes (.int 2)) .no) (.cons (.setv 8 (.bin .FloorDiv (.loc 7) (.int 4))) (.cons (.ite (.and (.cmp .Is (.loc 5) .non) (.cmp .Gt (.bin .Mod (.loc 7) (.int 4)) (.int 0))) (.cons (.setv 4 (.bin .Add (.loc 4) (.int 1))) (.cons (.setv 5 (.tup (.cons (.loc 4) (.cons (.slc (.str q_abc) .no (.yes (.bin .Add (.int 1) (.bin .Mod (.loc 8) (.int 3))))) (.cons (.call f_l_wish (.cons (.bin .FloorDiv (.bin .Mult (.bin .Add (.loc 8) (.int 1)) (.int 48271)) (.int 5)) .nil)) .nil))))) (.cons (.ite (.not (.call f_l_alike (.cons (.mth a_begin (.loc 2) (.cons (.idx (.loc 5) (.int 1)) (.cons (.idx (.loc 5) (.int 2)) .nil))) (.cons (.loc 4) .nil)))) (.cons (.ret (.bl false)) .nil) .nil) .nil))) (.cons (.setv 9 (.idx (.lst (.cons (.loc 4) (.cons (.loc 4) (.cons (.bin .Sub (.loc 4) (.int 1)) (.cons (.bin .Add (.loc 4) (.int 1)) (.cons (.int 0) (.cons (.bin .Mod (.bin .FloorDiv (.loc 8) (.int 5)) (.bin .Add (.loc 4) (.int 3))) .nil))))))) (.bin .Mod (.loc 8) (.int 6)))) (.cons (.setv 10 (.bin .Mult (.bin .Mult (.loc 8) (.loc 8)) (.bin .Sub (.int 1) (.bin .Mult (.int 2) (.bin .Mod (.loc 8) (.int 2)))))) (.cons (.ite (.cmp .IsNot (.mth a_came (.loc 2) (.cons (.blt .max (.cons (.int 0) (.cons (.loc 9) .nil))) (.cons (.loc 10) .nil))) .non) (.cons (.ret (.bl false)) .nil) .nil) (.cons (.ite (.and (.cmp .IsNot (.loc 5) .non) (.cmp .Eq (.blt .max (.cons (.int 0) (.cons (.loc 9) .nil))) (.idx (.loc 5) (.int 0)))) (.cons (.exp (.bm .append (.loc 6) (.cons (.tup (.cons (.idx (.loc 5) (.int 0)) (.cons (.loc 10) .nil))) .nil))) (.cons (.setv 5 .non) .nil)) .nil) .nil))))) (.cons (.ite (.not (.call f_l_stands (.cons (.loc 2) (.cons (.loc 1) (.cons (.loc 5) (.cons (.loc 6) .nil)))))) (.cons (.ret (.bl false)) .nil) .nil) .nil)))) (.cons (.ret (.and (.cmp .Is (.mth a_asking (.loc 3) .nil) .non) (.cmp .Eq (.mth a_answers (.loc 3) .nil) (.lst .nil)))) .nil))))))))⟩
def fn_Caller_init : Fn := ⟨(2), (2), (.cons (.setf (.loc 0) a_number (.loc 1)) (.cons (.setf (.loc 0) a_made (.int 0)) (.cons (.setf (.loc 0) a_asked .non) (.cons (.setf (.loc 0) a_closed (.lst .nil)) .nil))))⟩
def fn_Caller_begin : Fn := ⟨(3), (3), (.cons (.setf (.loc 0) a_made (.bin .Add (.fld (.loc 0) a_made) (.int 1))) (.cons (.setf (.loc 0) a_asked (.tup (.cons (.fld (.loc 0) a_made) (.cons (.loc 1) (.cons (.loc 2) .nil))))) (.cons (.ret (.fld (.loc 0) a_made)) .nil)))⟩
def fn_Caller_letter : Fn := ⟨(2), (2), (.cons (.ret (.bin .Add (.tup (.cons (.str q_call) (.cons (.loc 1) (.cons (.fld (.loc 0) a_number) .nil)))) (.fld (.loc 0) a_asked))) .nil)⟩
def fn_Caller_came : Fn := ⟨(3), (3), (.cons (.ite (.and (.cmp .IsNot (.fld (.loc 0) a_asked) .non) (.cmp .Eq (.idx (.fld (.loc 0) a_asked) (.int 0)) (.loc 1))) (.cons (.setf (.loc 0) a_asked .non) (.cons (.exp (.bm .append (.fld (.loc 0) a_closed) (.cons (.tup (.cons (.loc 1) (.cons (.loc 2) .nil))) .nil))) .nil)) .nil) .nil)⟩
def fn_Caller_asking : Fn := ⟨(1), (1), (.cons (.ret (.fld (.loc 0) a_asked)) .nil)⟩
def fn_Caller_answers : Fn := ⟨(1), (1), (.cons (.ret (.blt .list (.cons (.fld (.loc 0) a_closed) .nil))) .nil)⟩
def fn__wall : Fn := ⟨(1), (1), (.cons (.whl (.bl true) (.cons .pas .nil)) .nil)⟩
def fn_mark_of : Fn := ⟨(2), (5), (.cons (.fr false none [2, 3, 4] (.loc 0) (.cons (.ite (.cmp .Eq (.loc 2) (.loc 1)) (.cons (.ret (.tup (.cons (.loc 3) (.cons (.loc 4) .nil)))) .nil) .nil) .nil)) (.cons (.ret (.tup (.cons (.int 0) (.cons (.int 0) .nil)))) .nil))⟩
def fn_marked : Fn := ⟨(4), (6), (.cons (.setv 4 (.lc false (.loc 5) 5 (.loc 0) (.yes (.cmp .NotEq (.idx (.loc 5) (.int 0)) (.loc 1))))) (.cons (.ret (.blt .tuple (.cons (.blt .sorted (.cons (.bin .Add (.loc 4) (.lst (.cons (.tup (.cons (.loc 1) (.cons (.loc 2) (.cons (.loc 3) .nil)))) .nil))) .nil)) .nil))) .nil))⟩
def fn_l_came : Fn := ⟨(5), (8), (.cons (.unp [.v 5, .v 6] (.bm .get (.idx (.loc 0) (.str q_marks)) (.cons (.tup (.cons (.loc 1) (.cons (.loc 3) .nil))) (.cons (.tup (.cons (.int 0) (.cons (.int 0) .nil))) .nil)))) (.cons (.ite (.cmp .Gt (.loc 5) (.loc 2)) (.cons .ret0 .nil) .nil) (.cons (.ite (.cmp .Lt (.loc 5) (.loc 2)) (.cons (.unp [.v 7, .v 6] (.call f_l_done (.cons (.bm .get (.idx (.loc 0) (.str q_amounts)) (.cons (.loc 3) (.cons (.int 0) .nil))) (.cons (.loc 4) .nil)))) (.cons (.seti (.idx (.loc 0) (.str q_amounts)) (.loc 3) (.loc 7)) (.cons (.seti (.idx (.loc 0) (.str q_marks)) (.tup (.cons (.loc 1) (.cons (.loc 3) .nil))) (.tup (.cons (.loc 2) (.cons (.loc 6) .nil)))) (.cons (.exp (.bm .append (.idx (.loc 0) (.str q_rows)) (.cons (.tup (.cons (.loc 1) (.cons (.loc 2) (.cons (.loc 3) (.cons (.loc 4) (.cons (.loc 6) .nil)))))) .nil))) .nil)))) .nil) (.cons (.exp (.bm .append (.idx (.loc 0) (.str q_letters)) (.cons (.tup (.cons (.str q_answer) (.cons (.loc 1) (.cons (.loc 2) (.cons (.loc 6) .nil))))) .nil))) .nil))))⟩
def fn_law_k04 : Fn := ⟨(1), (13), (.cons (.setv 1 (.blt .int (.cons (.cmp .Eq (.bin .Mod (.call f_l_cell_at (.cons (.loc 0) (.cons (.int 0) .nil))) (.int 5)) (.int 4)) .nil))) (.cons (.setv 2 (.call f_l_keys (.cons (.call f_l_cell_at (.cons (.loc 0) (.cons (.int 1) .nil))) .nil))) (.cons (.setv 3 (.make c_House (.cons (.loc 1) (.cons (.blt .list (.cons (.loc 2) .nil)) .nil)))) (.cons (.setv 4 (.disp [q_amounts, q_marks, q_rows, q_letters] (.cons (.dnew false) (.cons (.dnew true) (.cons (.lst .nil) (.cons (.lst .nil) .nil)))))) (.cons (.setv 5 (.lst (.cons (.int 0) (.cons (.int 0) (.cons (.int 0) (.cons (.int 0) (.cons (.int 0) (.cons (.int 0) .nil)))))))) (.cons (.fr false (some 6) [] (.slc (.loc 0) (.yes (.int 2)) .no) (.cons (.setv 7 (.bin .Mod (.loc 6) (.int 6))) (.cons (.setv 8 (.bin .FloorDiv (.loc 6) (.int 6))) (.cons (.setv 9 (.blt .max (.cons (.int 1) (.cons (.bin .Add (.idx (.loc 5) (.loc 7)) (.idx (.lst (.cons (.int 1) (.cons (.int 1) (.cons (.int 1) (.cons (.int 0) (.cons (.int 0) (.cons (.neg (.int 1)) (.cons (.bin .Add (.int 2) (.bin .Mod (.bin .FloorDiv (.loc 8) (.int 8)) (.int 8))) (.cons (.int 1) .nil))))))))) (.bin .Mod (.loc 8) (.int 8)))) .nil)))) (.cons (.seti (.loc 5) (.loc 7) (.blt .max (.cons (.idx (.loc 5) (.loc 7)) (.cons (.loc 9) .nil)))) (.cons (.setv 10 (.idx (.loc 2) (.bin .Mod (.bin .FloorDiv (.loc 8) (.int 3)) (.blt .len (.cons (.loc 2) .nil))))) (.cons (.setv 11 (.call f_l_wish (.cons (.bin .FloorDiv (.bin .Mult (.bin .Add (.loc 6) (.int 5)) (.int 48271)) (.int 11)) .nil))) (.cons (.ite (.cmp .IsNot (.mth a_came (.loc 3) (.cons (.tup (.cons (.str q_call) (.cons (.loc 1) (.cons (.loc 7) (.cons (.loc 9) (.cons (.loc 10) (.cons (.loc 11) .nil))))))) .nil)) .non) (.cons (.ret (.bl false)) .nil) .nil) (.cons (.ite (.cmp .Eq (.loc 1) (.int 0)) (.cons (.exp (.call f_l_came (.cons (.loc 4) (.cons (.loc 7) (.cons (.loc 9) (.cons (.loc 10) (.cons (.loc 11) .nil))))))) .nil) .nil) .nil))))))))) (.cons (.fr false (some 10) [] (.loc 2) (.cons (.setv 12 (.mth a_has (.loc 3) (.cons (.loc 10) .nil))) (.cons (.ite (.or (.not (.isi (.loc 12) [.bool])) (.cmp .NotEq (.loc 12) (.cmp .Eq (.loc 1) (.int 0)))) (.cons (.ret (.bl false)) .nil) .nil) .nil))) (.cons (.setv 12 (.mth a_write (.loc 3) .nil)) (.cons (.ite (.or (.not (.call f_l_alike (.cons (.loc 12) (.cons (.tup (.cons (.idx (.loc 4) (.str q_letters)) (.cons (.idx (.loc 4) (.str q_rows)) .nil))) .nil)))) (.cmp .NotEq (.mth a_owes (.loc 3) .nil) (.lst .nil))) (.cons (.ret (.bl false)) .nil) .nil) (.cons (.exp (.bm .append (.idx (.loc 12) (.int 0)) (.cons (.str q_more) .nil))) (.cons (.exp (.bm .append (.idx (.loc 12) (.int 1)) (.cons (.str q_more) .nil))) (.cons (.ret (.and (.call f_l_alike (.cons (.mth a_write (.loc 3) .nil) (.cons (.tup (.cons (.lst .nil) (.cons (.lst .nil) .nil))) .nil))) (.cmp .Eq (.mth a_nudge (.loc 3) .nil) (.lst .nil)))) .nil))))))))))))⟩
def fn_House_init : Fn := ⟨(3), (4), (.cons (.setf (.loc 0) a_number (.loc 1)) (.cons (.setf (.loc 0) a_names (.blt .list (.cons (.loc 2) .nil))) (.cons (.setf (.loc 0) a_known (.dnew false)) (.cons (.fr false (some 3) [] (.loc 2) (.cons (.seti (.fld (.loc 0) a_known) (.loc 3) (.ife (.cmp .Eq (.loc 1) (.int 0)) (.tup (.cons (.int 0) (.cons (.str q_here) (.cons (.int 0) (.cons (.tup .nil) .nil))))) (.tup (.cons (.neg (.int 1)) (.cons (.str q_gone) (.cons (.int 0) (.cons (.tup .nil) .nil))))))) .nil)) (.cons (.setf (.loc 0) a_written (.blt .dict (.cons (.fld (.loc 0) a_known) .nil))) (.cons (.setf (.loc 0) a_laid (.lst .nil)) (.cons (.setf (.loc 0) a_fresh (.lst .nil)) .nil)))))))⟩
def fn_House_has : Fn := ⟨(2), (2), (.cons (.ret (.cmp .Eq (.idx (.idx (.fld (.loc 0) a_known) (.loc 1)) (.int 1)) (.str q_here))) .nil)⟩
def fn_House_owes : Fn := ⟨(1), (2), (.cons (.ret (.lc false (.loc 1) 1 (.fld (.loc 0) a_names) (.yes (.cmp .Eq (.idx (.idx (.fld (.loc 0) a_known) (.loc 1)) (.int 1)) (.str q_owed))))) .nil)⟩
def fn_House_parcel : Fn := ⟨(3), (3), (.cons (.ret (.tup (.cons (.str q_parcel) (.cons (.bin .Sub (.int 1) (.fld (.loc 0) a_number)) (.cons (.loc 1) (.cons (.bin .Add (.idx (.loc 2) (.int 0)) (.int 1)) (.cons (.idx (.loc 2) (.int 2)) (.cons (.idx (.loc 2) (.int 3)) .nil)))))))) .nil)⟩
def fn_House_came : Fn := ⟨(2), (6), (.cons (.ite (.cmp .Eq (.idx (.loc 1) (.int 0)) (.str q_call)) (.cons (.exp (.mth a_called (.loc 0) (.cons (.idx (.loc 1) (.int 2)) (.cons (.idx (.loc 1) (.int 3)) (.cons (.idx (.loc 1) (.int 4)) (.cons (.idx (.loc 1) (.int 5)) .nil)))))) .nil) (.cons (.ite (.cmp .Eq (.idx (.loc 1) (.int 0)) (.str q_parcel)) (.cons (.ite (.cmp .Gt (.idx (.loc 1) (.int 3)) (.idx (.idx (.fld (.loc 0) a_known) (.idx (.loc 1) (.int 2))) (.int 0))) (.cons (.seti (.fld (.loc 0) a_known) (.idx (.loc 1) (.int 2)) (.tup (.cons (.idx (.loc 1) (.int 3)) (.cons (.str q_here) (.cons (.idx (.loc 1) (.int 4)) (.cons (.idx (.loc 1) (.int 5)) .nil)))))) .nil) .nil) (.cons (.exp (.bm .append (.fld (.loc 0) a_laid) (.cons (.tup (.cons (.str q_taken) (.cons (.bin .Sub (.int 1) (.fld (.loc 0) a_number)) (.cons (.idx (.loc 1) (.int 2)) (.cons (.idx (.loc 1) (.int 3)) .nil))))) .nil))) .nil)) (.cons (.unp [.v 2, .v 3, .v 4, .v 5] (.idx (.fld (.loc 0) a_known) (.idx (.loc 1) (.int 2)))) (.cons (.ite (.and (.cmp .Eq (.loc 3) (.str q_owed)) (.cmp .Eq (.bin .Add (.loc 2) (.int 1)) (.idx (.loc 1) (.int 3)))) (.cons (.seti (.fld (.loc 0) a_known) (.idx (.loc 1) (.int 2)) (.tup (.cons (.loc 2) (.cons (.str q_gone) (.cons (.int 0) (.cons (.tup .nil) .nil)))))) .nil) .nil) .nil))) .nil)) .nil)⟩
def fn_House_called : Fn := ⟨(5), (11), (.cons (.unp [.v 5, .v 6, .v 7, .v 8] (.idx (.fld (.loc 0) a_known) (.loc 3))) (.cons (.unp [.v 9, .v 10] (.call f_mark_of (.cons (.loc 8) (.cons (.loc 1) .nil)))) (.cons (.ite (.or (.cmp .NotEq (.loc 6) (.str q_here)) (.cmp .Gt (.loc 9) (.loc 2))) (.cons .ret0 .nil) .nil) (.cons (.ite (.cmp .Lt (.loc 9) (.loc 2)) (.cons (.unp [.v 7, .v 10] (.call f_done (.cons (.loc 7) (.cons (.loc 4) .nil)))) (.cons (.seti (.fld (.loc 0) a_known) (.loc 3) (.tup (.cons (.loc 5) (.cons (.str q_here) (.cons (.loc 7) (.cons (.call f_marked (.cons (.loc 8) (.cons (.loc 1) (.cons (.loc 2) (.cons (.loc 10) .nil))))) .nil)))))) (.cons (.exp (.bm .append (.fld (.loc 0) a_fresh) (.cons (.tup (.cons (.loc 1) (.cons (.loc 2) (.cons (.loc 3) (.cons (.loc 4) (.cons (.loc 10) .nil)))))) .nil))) .nil))) .nil) (.cons (.exp (.bm .append (.fld (.loc 0) a_laid) (.cons (.tup (.cons (.str q_answer) (.cons (.loc 1) (.cons (.loc 2) (.cons (.loc 10) .nil))))) .nil))) .nil)))))⟩
def fn_House_write : Fn := ⟨(1), (2), (.cons (.setf (.loc 0) a_written (.blt .dict (.cons (.fld (.loc 0) a_known) .nil))) (.cons (.setv 1 (.tup (.cons (.fld (.loc 0) a_laid) (.cons (.fld (.loc 0) a_fresh) .nil)))) (.cons (.setf (.loc 0) a_laid (.lst .nil)) (.cons (.setf (.loc 0) a_fresh (.lst .nil)) (.cons (.ret (.loc 1)) .nil)))))⟩
def fn_House_nudge : Fn := ⟨(1), (2), (.cons (.ret (.lc false (.mth a_parcel (.loc 0) (.cons (.loc 1) (.cons (.idx (.fld (.loc 0) a_written) (.loc 1)) .nil))) 1 (.fld (.loc 0) a_names) (.yes (.cmp .Eq (.idx (.idx (.fld (.loc 0) a_written) (.loc 1)) (.int 1)) (.str q_owed))))) .nil)⟩
def fn_l_marked : Fn := ⟨(4), (5), (.cons (.ret (.blt .tuple (.cons (.blt .sorted (.cons (.bin .Add (.lc false (.loc 4) 4 (.loc 0) (.yes (.cmp .NotEq (.idx (.loc 4) (.int 0)) (.loc 1)))) (.lst (.cons (.tup (.cons (.loc 1) (.cons (.loc 2) (.cons (.loc 3) .nil)))) .nil))) .nil)) .nil))) .nil)⟩
def fn_l_last : Fn := ⟨(2), (5), (.cons (.fr false none [2, 3, 4] (.loc 0) (.cons (.ite (.cmp .Eq (.loc 2) (.loc 1)) (.cons (.ret (.tup (.cons (.loc 3) (.cons (.loc 4) .nil)))) .nil) .nil) .nil)) (.cons (.ret (.tup (.cons (.int 0) (.cons (.int 0) .nil)))) .nil))⟩
def fn_l_call : Fn := ⟨(5), (11), (.cons (.setv 5 (.idx (.loc 2) (.str q_at))) (.cons (.setv 6 (.bin .Mod (.loc 3) (.int 6))) (.cons (.unp [.v 7, .v 8] (.call f_l_last (.cons (.idx (.loc 2) (.str q_marks)) (.cons (.loc 6) .nil)))) (.cons (.setv 9 (.blt .max (.cons (.int 1) (.cons (.bin .Add (.loc 7) (.idx (.lst (.cons (.int 1) (.cons (.int 1) (.cons (.int 0) (.cons (.int 2) (.cons (.bin .Sub (.int 0) (.int 1)) .nil)))))) (.bin .Mod (.bin .FloorDiv (.loc 3) (.int 6)) (.int 5)))) .nil)))) (.cons (.setv 10 (.call f_l_wish (.cons (.bin .FloorDiv (.bin .Mult (.bin .Add (.loc 4) (.int 5)) (.int 48271)) (.int 11)) .nil))) (.cons (.exp (.mth a_came (.idx (.loc 0) (.loc 5)) (.cons (.tup (.cons (.str q_call) (.cons (.loc 5) (.cons (.loc 6) (.cons (.loc 9) (.cons (.loc 1) (.cons (.loc 10) .nil))))))) .nil))) (.cons (.ite (.cmp .Lt (.loc 7) (.loc 9)) (.cons (.unp [.s (.loc 2) (.str q_amount), .v 8] (.call f_l_done (.cons (.idx (.loc 2) (.str q_amount)) (.cons (.loc 10) .nil)))) (.cons (.seti (.loc 2) (.str q_marks) (.call f_l_marked (.cons (.idx (.loc 2) (.str q_marks)) (.cons (.loc 6) (.cons (.loc 9) (.cons (.loc 8) .nil)))))) (.cons (.exp (.bm .append (.idx (.idx (.loc 2) (.str q_fresh)) (.loc 5)) (.cons (.tup (.cons (.loc 6) (.cons (.loc 9) (.cons (.loc 1) (.cons (.loc 10) (.cons (.loc 8) .nil)))))) .nil))) .nil))) .nil) (.cons (.ite (.cmp .LtE (.loc 7) (.loc 9)) (.cons (.exp (.bm .append (.idx (.idx (.loc 2) (.str q_laid)) (.loc 5)) (.cons (.tup (.cons (.str q_answer) (.cons (.loc 6) (.cons (.loc 9) (.cons (.loc 8) .nil))))) .nil))) .nil) .nil) .nil))))))))⟩
def fn_l_wrote : Fn := ⟨(3), (5), (.cons (.setv 3 (.mth a_write (.idx (.loc 0) (.loc 2)) .nil)) (.cons (.setv 4 (.tup (.cons (.idx (.idx (.loc 1) (.str q_laid)) (.loc 2)) (.cons (.idx (.idx (.loc 1) (.str q_fresh)) (.loc 2)) .nil)))) (.cons (.seti (.idx (.loc 1) (.str q_laid)) (.loc 2) (.lst .nil)) (.cons (.seti (.idx (.loc 1) (.str q_fresh)) (.loc 2) (.lst .nil)) (.cons (.ret (.call f_l_alike (.cons (.loc 3) (.cons (.loc 4) .nil)))) .nil)))))⟩
def fn_l_hop : Fn := ⟨(3), (5), (.cons (.setv 3 (.idx (.loc 2) (.str q_at))) (.cons (.exp (.mth a_move (.idx (.loc 0) (.loc 3)) (.cons (.loc 1) .nil))) (.cons (.seti (.loc 2) (.str q_turn) (.bin .Add (.idx (.loc 2) (.str q_turn)) (.int 1))) (.cons (.setv 4 (.tup (.cons (.str q_parcel) (.cons (.bin .Sub (.int 1) (.loc 3)) (.cons (.loc 1) (.cons (.idx (.loc 2) (.str q_turn)) (.cons (.idx (.loc 2) (.str q_amount)) (.cons (.idx (.loc 2) (.str q_marks)) .nil)))))))) (.cons (.exp (.bm .append (.idx (.idx (.loc 2) (.str q_laid)) (.loc 3)) (.cons (.loc 4) .nil))) (.cons (.ite (.not (.call f_l_wrote (.cons (.loc 0) (.cons (.loc 2) (.cons (.loc 3) .nil))))) (.cons (.ret (.bl false)) .nil) .nil) (.cons (.exp (.mth a_came (.idx (.loc 0) (.bin .Sub (.int 1) (.loc 3))) (.cons (.loc 4) .nil))) (.cons (.exp (.bm .append (.idx (.idx (.loc 2) (.str q_laid)) (.bin .Sub (.int 1) (.loc 3))) (.cons (.tup (.cons (.str q_taken) (.cons (.loc 3) (.cons (.loc 1) (.cons (.idx (.loc 2) (.str q_turn)) .nil))))) .nil))) (.cons (.seti (.idx (.loc 2) (.str q_owed)) (.loc 3) (.idx (.loc 2) (.str q_turn))) (.cons (.seti (.idx (.loc 2) (.str q_owed)) (.bin .Sub (.int 1) (.loc 3)) .non) (.cons (.seti (.loc 2) (.str q_at) (.bin .Sub (.int 1) (.loc 3))) (.cons (.exp (.bm .append (.idx (.loc 2) (.str q_old)) (.cons (.loc 4) .nil))) (.cons (.ret (.bl true)) .nil)))))))))))))⟩
def fn_l_step : Fn := ⟨(4), (8), (.cons (.setv 4 (.bin .FloorDiv (.loc 3) (.int 8))) (.cons (.ite (.cmp .Lt (.bin .Mod (.loc 3) (.int 8)) (.int 4)) (.cons (.exp (.call f_l_call (.cons (.loc 0) (.cons (.loc 1) (.cons (.loc 2) (.cons (.loc 4) (.cons (.loc 3) .nil))))))) .nil) (.cons (.ite (.cmp .Lt (.bin .Mod (.loc 3) (.int 8)) (.int 6)) (.cons (.ret (.call f_l_hop (.cons (.loc 0) (.cons (.loc 1) (.cons (.loc 2) .nil))))) .nil) (.cons (.ite (.cmp .Eq (.bin .Mod (.loc 3) (.int 8)) (.int 6)) (.cons (.setv 5 (.bin .Sub (.int 1) (.idx (.loc 2) (.str q_at)))) (.cons (.setv 6 (.bin .Sub (.idx (.loc 2) (.str q_turn)) (.idx (.lst (.cons (.int 0) (.cons (.int 0) (.cons (.int 1) (.cons (.int 2) (.cons (.bin .Sub (.int 0) (.int 1)) .nil)))))) (.bin .Mod (.loc 4) (.int 5))))) (.cons (.exp (.mth a_came (.idx (.loc 0) (.loc 5)) (.cons (.tup (.cons (.str q_taken) (.cons (.loc 5) (.cons (.loc 1) (.cons (.loc 6) .nil))))) .nil))) (.cons (.ite (.cmp .Eq (.idx (.idx (.loc 2) (.str q_owed)) (.loc 5)) (.loc 6)) (.cons (.seti (.idx (.loc 2) (.str q_owed)) (.loc 5) .non) .nil) .nil) .nil)))) (.cons (.ite (.cmp .NotEq (.idx (.loc 2) (.str q_old)) (.lst .nil)) (.cons (.setv 7 (.idx (.idx (.loc 2) (.str q_old)) (.bin .Mod (.loc 4) (.blt .len (.cons (.idx (.loc 2) (.str q_old)) .nil))))) (.cons (.exp (.mth a_came (.idx (.loc 0) (.idx (.loc 7) (.int 1))) (.cons (.loc 7) .nil))) (.cons (.exp (.bm .append (.idx (.idx (.loc 2) (.str q_laid)) (.idx (.loc 7) (.int 1))) (.cons (.tup (.cons (.str q_taken) (.cons (.bin .Sub (.int 1) (.idx (.loc 7) (.int 1))) (.cons (.loc 1) (.cons (.idx (.loc 7) (.int 3)) .nil))))) .nil))) .nil))) .nil) .nil)) .nil)) .nil)) (.cons (.ret (.bl true)) .nil)))⟩
def fn_law_k05 : Fn := ⟨(1), (8), (.cons (.setv 1 (.call f_l_keys (.cons (.call f_l_cell_at (.cons (.loc 0) (.cons (.int 0) .nil))) .nil))) (.cons (.setv 2 (.idx (.loc 1) (.bin .Mod (.call f_l_cell_at (.cons (.loc 0) (.cons (.int 1) .nil))) (.blt .len (.cons (.loc 1) .nil))))) (.cons (.setv 3 (.lst (.cons (.make c_House (.cons (.int 0) (.cons (.blt .list (.cons (.loc 1) .nil)) .nil))) (.cons (.make c_House (.cons (.int 1) (.cons (.blt .list (.cons (.loc 1) .nil)) .nil))) .nil)))) (.cons (.setv 4 (.disp [q_at, q_turn, q_amount, q_marks, q_owed, q_old] (.cons (.int 0) (.cons (.int 0) (.cons (.int 0) (.cons (.tup .nil) (.cons (.lst (.cons .non (.cons .non .nil))) (.cons (.lst .nil) .nil)))))))) (.cons (.seti (.loc 4) (.str q_laid) (.lst (.cons (.lst .nil) (.cons (.lst .nil) .nil)))) (.cons (.seti (.loc 4) (.str q_fresh) (.lst (.cons (.lst .nil) (.cons (.lst .nil) .nil)))) (.cons (.fr false (some 5) [] (.slc (.loc 0) (.yes (.int 2)) .no) (.cons (.ite (.not (.call f_l_step (.cons (.loc 3) (.cons (.loc 2) (.cons (.loc 4) (.cons (.loc 5) .nil)))))) (.cons (.ret (.bl false)) .nil) .nil) (.cons (.fr true (some 6) [] (.int 2) (.cons (.setv 7 (.bin .Mult (.lst (.cons (.loc 2) .nil)) (.blt .int (.cons (.cmp .IsNot (.idx (.idx (.loc 4) (.str q_owed)) (.loc 6)) .non) .nil)))) (.cons (.ite (.or (.cmp .NotEq (.mth a_has (.idx (.loc 3) (.loc 6)) (.cons (.loc 2) .nil)) (.cmp .Eq (.idx (.loc 4) (.str q_at)) (.loc 6))) (.cmp .NotEq (.mth a_owes (.idx (.loc 3) (.loc 6)) .nil) (.loc 7))) (.cons (.ret (.bl false)) .nil) .nil) .nil))) .nil))) (.cons (.ret (.and (.call f_l_wrote (.cons (.loc 3) (.cons (.loc 4) (.cons (.int 0) .nil)))) (.call f_l_wrote (.cons (.loc 3) (.cons (.loc 4) (.cons (.int 1) .nil)))))) .nil))))))))⟩
def fn_House_move : Fn := ⟨(2), (6), (.cons (.unp [.v 2, .v 3, .v 4, .v 5] (.idx (.fld (.loc 0) a_known) (.loc 1))) (.cons (.ite (.cmp .NotEq (.loc 3) (.str q_here)) (.cons (.rse x_NotHere) .nil) .nil) (.cons (.seti (.fld (.loc 0) a_known) (.loc 1) (.tup (.cons (.loc 2) (.cons (.str q_owed) (.cons (.loc 4) (.cons (.loc 5) .nil)))))) (.cons (.exp (.bm .append (.fld (.loc 0) a_laid) (.cons (.mth a_parcel (.loc 0) (.cons (.loc 1) (.cons (.idx (.fld (.loc 0) a_known) (.loc 1)) .nil))) .nil))) .nil))))⟩
def fn_l_new : Fn := ⟨(2), (5), (.cons (.setv 2 (.tup (.cons (.int 0) (.cons (.str q_here) (.cons (.int 0) (.cons (.tup .nil) .nil)))))) (.cons (.ite (.cmp .Eq (.loc 0) (.int 1)) (.cons (.setv 2 (.tup (.cons (.neg (.int 1)) (.cons (.str q_gone) (.cons (.int 0) (.cons (.tup .nil) .nil)))))) .nil) .nil) (.cons (.setv 3 (.dnew false)) (.cons (.fr false (some 4) [] (.loc 1) (.cons (.seti (.loc 3) (.loc 4) (.loc 2)) .nil)) (.cons (.ret (.disp [q_number, q_known, q_written, q_laid, q_fresh] (.cons (.loc 0) (.cons (.loc 3) (.cons (.blt .dict (.cons (.loc 3) .nil)) (.cons (.lst .nil) (.cons (.lst .nil) .nil))))))) .nil)))))⟩
def fn_l_parcel : Fn := ⟨(3), (3), (.cons (.ret (.tup (.cons (.str q_parcel) (.cons (.bin .Sub (.int 1) (.idx (.loc 0) (.str q_number))) (.cons (.loc 1) (.cons (.bin .Add (.idx (.loc 2) (.int 0)) (.int 1)) (.cons (.idx (.loc 2) (.int 2)) (.cons (.idx (.loc 2) (.int 3)) .nil)))))))) .nil)⟩
def fn_l_called : Fn := ⟨(5), (11), (.cons (.unp [.v 5, .v 6, .v 7, .v 8] (.idx (.idx (.loc 0) (.str q_known)) (.loc 3))) (.cons (.unp [.v 9, .v 10] (.call f_l_last (.cons (.loc 8) (.cons (.loc 1) .nil)))) (.cons (.ite (.or (.cmp .NotEq (.loc 6) (.str q_here)) (.cmp .Gt (.loc 9) (.loc 2))) (.cons .ret0 .nil) .nil) (.cons (.ite (.cmp .Lt (.loc 9) (.loc 2)) (.cons (.unp [.v 7, .v 10] (.call f_l_done (.cons (.loc 7) (.cons (.loc 4) .nil)))) (.cons (.seti (.idx (.loc 0) (.str q_known)) (.loc 3) (.tup (.cons (.loc 5) (.cons (.str q_here) (.cons (.loc 7) (.cons (.call f_l_marked (.cons (.loc 8) (.cons (.loc 1) (.cons (.loc 2) (.cons (.loc 10) .nil))))) .nil)))))) (.cons (.exp (.bm .append (.idx (.loc 0) (.str q_fresh)) (.cons (.tup (.cons (.loc 1) (.cons (.loc 2) (.cons (.loc 3) (.cons (.loc 4) (.cons (.loc 10) .nil)))))) .nil))) .nil))) .nil) (.cons (.exp (.bm .append (.idx (.loc 0) (.str q_laid)) (.cons (.tup (.cons (.str q_answer) (.cons (.loc 1) (.cons (.loc 2) (.cons (.loc 10) .nil))))) .nil))) .nil)))))⟩
def fn_l_moved : Fn := ⟨(2), (6), (.cons (.unp [.v 2, .v 3, .v 4, .v 5] (.idx (.idx (.loc 0) (.str q_known)) (.loc 1))) (.cons (.seti (.idx (.loc 0) (.str q_known)) (.loc 1) (.tup (.cons (.loc 2) (.cons (.str q_owed) (.cons (.loc 4) (.cons (.loc 5) .nil)))))) (.cons (.exp (.bm .append (.idx (.loc 0) (.str q_laid)) (.cons (.call f_l_parcel (.cons (.loc 0) (.cons (.loc 1) (.cons (.idx (.idx (.loc 0) (.str q_known)) (.loc 1)) .nil)))) .nil))) .nil)))⟩
def fn_l_wrote_k06 : Fn := ⟨(1), (2), (.cons (.seti (.loc 0) (.str q_written) (.blt .dict (.cons (.idx (.loc 0) (.str q_known)) .nil))) (.cons (.setv 1 (.tup (.cons (.idx (.loc 0) (.str q_laid)) (.cons (.idx (.loc 0) (.str q_fresh)) .nil)))) (.cons (.seti (.loc 0) (.str q_laid) (.lst .nil)) (.cons (.seti (.loc 0) (.str q_fresh) (.lst .nil)) (.cons (.ret (.loc 1)) .nil)))))⟩
def fn_l_slept : Fn := ⟨(1), (1), (.cons (.seti (.loc 0) (.str q_known) (.blt .dict (.cons (.idx (.loc 0) (.str q_written)) .nil))) (.cons (.seti (.loc 0) (.str q_laid) (.lst .nil)) (.cons (.seti (.loc 0) (.str q_fresh) (.lst .nil)) .nil)))⟩
def fn_l_nudged : Fn := ⟨(2), (3), (.cons (.ret (.lc false (.call f_l_parcel (.cons (.loc 0) (.cons (.loc 2) (.cons (.idx (.idx (.loc 0) (.str q_written)) (.loc 2)) .nil)))) 2 (.loc 1) (.yes (.cmp .Eq (.idx (.idx (.idx (.loc 0) (.str q_written)) (.loc 2)) (.int 1)) (.str q_owed))))) .nil)⟩
def fn_l_stands_k06 : Fn := ⟨(3), (6), (.cons (.fr false (some 3) [] (.loc 2) (.cons (.setv 4 (.mth a_has (.loc 0) (.cons (.loc 3) .nil))) (.cons (.ite (.or (.not (.isi (.loc 4) [.bool])) (.cmp .NotEq (.loc 4) (.cmp .Eq (.idx (.idx (.idx (.loc 1) (.str q_known)) (.loc 3)) (.int 1)) (.str q_here)))) (.cons (.ret (.bl false)) .nil) .nil) .nil))) (.cons (.setv 4 (.mth a_owes (.loc 0) .nil)) (.cons (.setv 5 (.lc false (.loc 3) 3 (.loc 2) (.yes (.cmp .Eq (.idx (.idx (.idx (.loc 1) (.str q_known)) (.loc 3)) (.int 1)) (.str q_owed))))) (.cons (.ite (.not (.call f_l_alike (.cons (.loc 4) (.cons (.loc 5) .nil)))) (.cons (.ret (.bl false)) .nil) .nil) (.cons (.exp (.bm .append (.loc 4) (.cons (.str q_more) .nil))) (.cons (.ret (.cmp .Eq (.mth a_owes (.loc 0) .nil) (.loc 5))) .nil))))))⟩
def fn_l_refused_k06 : Fn := ⟨(2), (3), (.cons (.tri (.cons (.exp (.mth a_move (.loc 0) (.cons (.loc 1) .nil))) .nil) x_NotHere 2 [x_MoveError, 999]) (.cons (.ret (.bl false)) .nil))⟩
def fn_l_step_k06 : Fn := ⟨(4), (11), (.cons (.setv 4 (.bin .FloorDiv (.loc 3) (.int 8))) (.cons (.setv 5 (.idx (.loc 2) (.bin .Mod (.loc 4) (.blt .len (.cons (.loc 2) .nil))))) (.cons (.ite (.cmp .Lt (.bin .Mod (.loc 3) (.int 8)) (.int 3)) (.cons (.setv 6 (.bin .Mod (.bin .FloorDiv (.loc 4) (.int 6)) (.int 6))) (.cons (.unp [.v 7, .v 8] (.call f_l_last (.cons (.idx (.idx (.idx (.loc 1) (.str q_known)) (.loc 5)) (.int 3)) (.cons (.loc 6) .nil)))) (.cons (.setv 9 (.blt .max (.cons (.int 1) (.cons (.bin .Add (.loc 7) (.idx (.lst (.cons (.int 1) (.cons (.int 1) (.cons (.int 0) (.cons (.int 2) (.cons (.bin .Sub (.int 0) (.int 1)) .nil)))))) (.bin .Mod (.bin .FloorDiv (.loc 4) (.int 36)) (.int 5)))) .nil)))) (.cons (.setv 10 (.call f_l_wish (.cons (.bin .FloorDiv (.bin .Mult (.bin .Add (.loc 3) (.int 5)) (.int 48271)) (.int 11)) .nil))) (.cons (.exp (.mth a_came (.loc 0) (.cons (.tup (.cons (.str q_call) (.cons (.int 0) (.cons (.loc 6) (.cons (.loc 9) (.cons (.loc 5) (.cons (.loc 10) .nil))))))) .nil))) (.cons (.exp (.call f_l_called (.cons (.loc 1) (.cons (.loc 6) (.cons (.loc 9) (.cons (.loc 5) (.cons (.loc 10) .nil))))))) .nil)))))) (.cons (.ite (.and (.cmp .Eq (.bin .Mod (.loc 3) (.int 8)) (.int 3)) (.cmp .NotEq (.idx (.idx (.idx (.loc 1) (.str q_known)) (.loc 5)) (.int 1)) (.str q_here))) (.cons (.ret (.call f_l_refused_k06 (.cons (.loc 0) (.cons (.loc 5) .nil)))) .nil) (.cons (.ite (.cmp .Eq (.bin .Mod (.loc 3) (.int 8)) (.int 3)) (.cons (.exp (.call f_l_moved (.cons (.loc 1) (.cons (.loc 5) .nil)))) (.cons (.ret (.cmp .Is (.mth a_move (.loc 0) (.cons (.loc 5) .nil)) .non)) .nil)) (.cons (.ite (.cmp .Lt (.bin .Mod (.loc 3) (.int 8)) (.int 6)) (.cons (.ret (.call f_l_alike (.cons (.mth a_write (.loc 0) .nil) (.cons (.call f_l_wrote_k06 (.cons (.loc 1) .nil)) .nil)))) .nil) (.cons (.ite (.cmp .Eq (.bin .Mod (.loc 3) (.int 8)) (.int 6)) (.cons (.exp (.call f_l_slept (.cons (.loc 1) .nil))) (.cons (.ret (.cmp .Is (.mth a_sleep (.loc 0) .nil) .non)) .nil)) (.cons (.ret (.call f_l_alike (.cons (.mth a_nudge (.loc 0) .nil) (.cons (.call f_l_nudged (.cons (.loc 1) (.cons (.loc 2) .nil))) .nil)))) .nil)) .nil)) .nil)) .nil)) .nil)) (.cons (.ret (.bl true)) .nil))))⟩
def fn_law_k06 : Fn := ⟨(1), (5), (.cons (.setv 1 (.call f_l_keys (.cons (.call f_l_cell_at (.cons (.loc 0) (.cons (.int 0) .nil))) .nil))) (.cons (.setv 2 (.make c_House (.cons (.int 0) (.cons (.blt .list (.cons (.loc 1) .nil)) .nil)))) (.cons (.setv 3 (.call f_l_new (.cons (.int 0) (.cons (.loc 1) .nil)))) (.cons (.fr false (some 4) [] (.slc (.loc 0) (.yes (.int 1)) .no) (.cons (.ite (.or (.not (.call f_l_step_k06 (.cons (.loc 2) (.cons (.loc 3) (.cons (.loc 1) (.cons (.loc 4) .nil)))))) (.not (.call f_l_stands_k06 (.cons (.loc 2) (.cons (.loc 3) (.cons (.loc 1) .nil)))))) (.cons (.ret (.bl false)) .nil) .nil) .nil)) (.cons (.ret (.call f_l_alike (.cons (.mth a_write (.loc 2) .nil) (.cons (.call f_l_wrote_k06 (.cons (.loc 3) .nil)) .nil)))) .nil)))))⟩
def fn_House_sleep : Fn := ⟨(1), (1), (.cons (.setf (.loc 0) a_known (.blt .dict (.cons (.fld (.loc 0) a_written) .nil))) (.cons (.setf (.loc 0) a_laid (.lst .nil)) (.cons (.setf (.loc 0) a_fresh (.lst .nil)) .nil)))⟩
def fn_l_marks_by : Fn := ⟨(1), (3), (.cons (.setv 1 (.lst .nil)) (.cons (.fr true (some 2) [] (.int 6) (.cons (.ite (.cmp .Eq (.bin .Mod (.bin .FloorDiv (.loc 0) (.idx (.lst (.cons (.int 1) (.cons (.int 2) (.cons (.int 4) (.cons (.int 8) (.cons (.int 16) (.cons (.int 32) .nil))))))) (.loc 2))) (.int 2)) (.int 1)) (.cons (.exp (.bm .append (.loc 1) (.cons (.tup (.cons (.loc 2) (.cons (.bin .Add (.int 1) (.bin .Mod (.bin .FloorDiv (.loc 0) (.bin .Add (.int 64) (.loc 2))) (.int 5))) (.cons (.bin .Sub (.bin .Mod (.bin .Add (.bin .FloorDiv (.loc 0) (.int 7)) (.loc 2)) (.int 39)) (.int 19)) .nil)))) .nil))) .nil) .nil) .nil)) (.cons (.ret (.blt .tuple (.cons (.loc 1) .nil))) .nil)))⟩
def fn_l_comes : Fn := ⟨(5), (17), (.cons (.setv 5 (.idx (.loc 1) (.str q_number))) (.cons (.unp [.v 6, .v 7, .v 8, .v 9] (.idx (.idx (.loc 1) (.str q_known)) (.loc 2))) (.cons (.setv 10 (.bin .Add (.loc 6) (.idx (.lst (.cons (.int 1) (.cons (.int 1) (.cons (.int 0) (.cons (.bin .Sub (.int 0) (.int 1)) (.cons (.int 2) (.cons (.int 3) (.cons (.int 1) (.cons (.bin .Sub (.int 0) (.int 2)) .nil))))))))) (.bin .Mod (.bin .FloorDiv (.loc 3) (.int 6)) (.int 8))))) (.cons (.ite (.cmp .Lt (.bin .Mod (.loc 4) (.int 12)) (.int 4)) (.cons (.setv 11 (.bin .Mod (.bin .FloorDiv (.loc 3) (.int 6)) (.int 6))) (.cons (.unp [.v 12, .v 13] (.call f_l_last (.cons (.loc 9) (.cons (.loc 11) .nil)))) (.cons (.setv 14 (.blt .max (.cons (.int 1) (.cons (.bin .Add (.loc 12) (.idx (.lst (.cons (.int 1) (.cons (.int 1) (.cons (.int 0) (.cons (.int 2) (.cons (.bin .Sub (.int 0) (.int 1)) .nil)))))) (.bin .Mod (.bin .FloorDiv (.loc 3) (.int 36)) (.int 5)))) .nil)))) (.cons (.setv 15 (.call f_l_wish (.cons (.bin .FloorDiv (.bin .Mult (.bin .Add (.loc 4) (.int 5)) (.int 48271)) (.int 11)) .nil))) (.cons (.exp (.mth a_came (.loc 0) (.cons (.tup (.cons (.str q_call) (.cons (.loc 5) (.cons (.loc 11) (.cons (.loc 14) (.cons (.loc 2) (.cons (.loc 15) .nil))))))) .nil))) (.cons (.exp (.call f_l_called (.cons (.loc 1) (.cons (.loc 11) (.cons (.loc 14) (.cons (.loc 2) (.cons (.loc 15) .nil))))))) .nil)))))) (.cons (.ite (.cmp .Lt (.bin .Mod (.loc 4) (.int 12)) (.int 6)) (.cons (.setv 16 (.tup (.cons (.loc 10) (.cons (.str q_here) (.cons (.bin .Sub (.bin .Mod (.bin .Add (.bin .Mult (.loc 4) (.int 48271)) (.int 7)) (.bin .Mult (.int 2) (.bin .Pow (.int 10) (.int 31)))) (.bin .Pow (.int 10) (.int 31))) (.cons (.call f_l_marks_by (.cons (.bin .FloorDiv (.loc 3) (.int 48)) .nil)) .nil)))))) (.cons (.exp (.mth a_came (.loc 0) (.cons (.tup (.cons (.str q_parcel) (.cons (.loc 5) (.cons (.loc 2) (.cons (.loc 10) (.cons (.idx (.loc 16) (.int 2)) (.cons (.idx (.loc 16) (.int 3)) .nil))))))) .nil))) (.cons (.ite (.cmp .Gt (.loc 10) (.loc 6)) (.cons (.seti (.idx (.loc 1) (.str q_known)) (.loc 2) (.loc 16)) .nil) .nil) (.cons (.exp (.bm .append (.idx (.loc 1) (.str q_laid)) (.cons (.tup (.cons (.str q_taken) (.cons (.bin .Sub (.int 1) (.loc 5)) (.cons (.loc 2) (.cons (.loc 10) .nil))))) .nil))) .nil)))) (.cons (.exp (.mth a_came (.loc 0) (.cons (.tup (.cons (.str q_taken) (.cons (.loc 5) (.cons (.loc 2) (.cons (.loc 10) .nil))))) .nil))) (.cons (.ite (.and (.cmp .Eq (.loc 7) (.str q_owed)) (.cmp .Eq (.loc 10) (.bin .Add (.loc 6) (.int 1)))) (.cons (.seti (.idx (.loc 1) (.str q_known)) (.loc 2) (.tup (.cons (.loc 6) (.cons (.str q_gone) (.cons (.int 0) (.cons (.tup .nil) .nil)))))) .nil) .nil) .nil))) .nil)) .nil))))⟩
def fn_l_step_k07 : Fn := ⟨(4), (6), (.cons (.setv 4 (.bin .FloorDiv (.loc 3) (.int 12))) (.cons (.setv 5 (.idx (.loc 2) (.bin .Mod (.loc 4) (.blt .len (.cons (.loc 2) .nil))))) (.cons (.ite (.cmp .Lt (.bin .Mod (.loc 3) (.int 12)) (.int 7)) (.cons (.exp (.call f_l_comes (.cons (.loc 0) (.cons (.loc 1) (.cons (.loc 5) (.cons (.loc 4) (.cons (.loc 3) .nil))))))) .nil) (.cons (.ite (.and (.cmp .Eq (.bin .Mod (.loc 3) (.int 12)) (.int 7)) (.cmp .Eq (.idx (.idx (.idx (.loc 1) (.str q_known)) (.loc 5)) (.int 1)) (.str q_here))) (.cons (.exp (.call f_l_moved (.cons (.loc 1) (.cons (.loc 5) .nil)))) (.cons (.ret (.cmp .Is (.mth a_move (.loc 0) (.cons (.loc 5) .nil)) .non)) .nil)) (.cons (.ite (.cmp .Lt (.bin .Mod (.loc 3) (.int 12)) (.int 10)) (.cons (.ret (.call f_l_alike (.cons (.mth a_write (.loc 0) .nil) (.cons (.call f_l_wrote_k06 (.cons (.loc 1) .nil)) .nil)))) .nil) (.cons (.ite (.cmp .Eq (.bin .Mod (.loc 3) (.int 12)) (.int 10)) (.cons (.exp (.call f_l_slept (.cons (.loc 1) .nil))) (.cons (.ret (.cmp .Is (.mth a_sleep (.loc 0) .nil) .non)) .nil)) (.cons (.ret (.call f_l_alike (.cons (.mth a_nudge (.loc 0) .nil) (.cons (.call f_l_nudged (.cons (.loc 1) (.cons (.loc 2) .nil))) .nil)))) .nil)) .nil)) .nil)) .nil)) (.cons (.ret (.bl true)) .nil))))⟩
def fn_law_k07 : Fn := ⟨(1), (7), (.cons (.setv 1 (.bin .Mod (.call f_l_cell_at (.cons (.loc 0) (.cons (.int 0) .nil))) (.int 2))) (.cons (.setv 2 (.call f_l_keys (.cons (.call f_l_cell_at (.cons (.loc 0) (.cons (.int 1) .nil))) .nil))) (.cons (.setv 3 (.blt .list (.cons (.loc 2) .nil))) (.cons (.setv 4 (.make c_House (.cons (.loc 1) (.cons (.loc 3) .nil)))) (.cons (.exp (.bm .append (.loc 3) (.cons (.str q_more) .nil))) (.cons (.setv 5 (.call f_l_new (.cons (.loc 1) (.cons (.loc 2) .nil)))) (.cons (.fr false (some 6) [] (.slc (.loc 0) (.yes (.int 2)) .no) (.cons (.ite (.or (.not (.call f_l_step_k07 (.cons (.loc 4) (.cons (.loc 5) (.cons (.loc 2) (.cons (.loc 6) .nil)))))) (.not (.call f_l_stands_k06 (.cons (.loc 4) (.cons (.loc 5) (.cons (.loc 2) .nil)))))) (.cons (.ret (.bl false)) .nil) .nil) .nil)) (.cons (.ret (.call f_l_alike (.cons (.mth a_write (.loc 4) .nil) (.cons (.call f_l_wrote_k06 (.cons (.loc 5) .nil)) .nil)))) .nil))))))))⟩
def fn_is_key : Fn := ⟨(1), (2), (.cons (.ite (.or (.not (.isi (.loc 0) [.str])) (.not (.chn .LtE .LtE (.int 1) (.blt .len (.cons (.loc 0) .nil)) (.int 8)))) (.cons (.ret (.bl false)) .nil) .nil) (.cons (.ret (.blt .all (.cons (.lc false (.cmp .In (.loc 1) (.str q_abcdefghijklmnopqrstuvwxyz)) 1 (.loc 0) .no) .nil))) .nil))⟩
def fn_need_world : Fn := ⟨(2), (4), (.cons (.ite (.or (.not (.isi (.loc 0) [.list])) (.or (.not (.chn .LtE .LtE (.int 1) (.blt .len (.cons (.loc 0) .nil)) (.int 6))) (.not (.blt .all (.cons (.lc false (.call f_is_key (.cons (.loc 3) .nil)) 3 (.loc 0) .no) .nil))))) (.cons (.rse x_BadWorld) .nil) .nil) (.cons (.fr true (some 2) [] (.blt .len (.cons (.loc 0) .nil)) (.cons (.ite (.cmp .In (.idx (.loc 0) (.loc 2)) (.slc (.loc 0) .no (.yes (.loc 2)))) (.cons (.rse x_BadWorld) .nil) .nil) .nil)) (.cons (.ite (.or (.not (.call f_is_whole (.cons (.loc 1) .nil))) (.not (.chn .LtE .LtE (.int 1) (.loc 1) (.int 6)))) (.cons (.rse x_BadWorld) .nil) .nil) .nil)))⟩
def fn_l_whole : Fn := ⟨(1), (1), (.cons (.ret (.and (.isi (.loc 0) [.int]) (.not (.isi (.loc 0) [.bool])))) .nil)⟩
def fn_l_refused_k08 : Fn := ⟨(2), (3), (.cons (.trk (.cons (.exp (.make c_World (.cons (.loc 0) (.cons (.loc 1) .nil)))) .nil) x_MoveError 2 [x_BadWorld, 999] [x_BadWorld, x_NoCaller, x_NoHouse, x_NoKey, x_BadWish, x_Busy, x_Idle, x_NotHere, x_NoLetter]) (.cons (.ret (.bl false)) .nil))⟩
def fn_l_names : Fn := ⟨(1), (7), (.cons (.setv 1 (.str q_abcdefghijklmnopqrstuvwxyz)) (.cons (.setv 2 (.bin .Mod (.bin .FloorDiv (.loc 0) (.int 9)) (.int 9))) (.cons (.setv 3 (.bin .Mod (.bin .FloorDiv (.loc 0) (.int 81)) (.bin .Add (.loc 2) (.int 1)))) (.cons (.setv 4 (.bin .FloorDiv (.loc 0) (.int 729))) (.cons (.setv 5 (.bm .join (.str (PySem.Str.ofString "")) (.cons (.lc true (.idx (.loc 1) (.bin .Mod (.bin .Add (.bin .FloorDiv (.loc 4) (.int 26)) (.bin .Mult (.int 5) (.loc 6))) (.int 26))) 6 (.loc 2) .no) .nil))) (.cons (.ret (.lc true (.bin .Add (.bin .Add (.slc (.loc 5) .no (.yes (.loc 3))) (.idx (.loc 1) (.bin .Mod (.bin .Add (.loc 4) (.loc 6)) (.int 26)))) (.slc (.loc 5) (.yes (.loc 3)) .no)) 6 (.bin .Mod (.loc 0) (.int 9)) .no)) .nil))))))⟩
def fn_l_odd_k08 : Fn := ⟨(2), (5), (.cons (.setv 2 (.str (PySem.Str.ofString " !\"#$&'()*+,-./0123456789:;<=>?@ABCDEFGHIJKLMNOPQRSTUVWXYZ[\\]^_`{|}~\n\t"))) (.cons (.setv 3 (.idx (.loc 2) (.bin .Mod (.bin .FloorDiv (.loc 0) (.int 12)) (.blt .len (.cons (.loc 2) .nil))))) (.cons (.setv 4 (.idx (.lst (.cons (.str (PySem.Str.ofString "")) (.cons .non (.cons (.int 5) (.cons (.lst (.cons (.str q_a) .nil)) (.cons (.tup (.cons (.str q_a) .nil)) (.cons (.str q_abcdefghi) (.cons (.loc 3) (.cons (.bin .Add (.str q_a) (.loc 3)) (.cons (.bin .Add (.loc 3) (.str q_bc)) (.cons (.bin .Add (.str q_ab) (.loc 3)) (.cons (.bl true) (.cons (.dnew false) .nil))))))))))))) (.bin .Mod (.loc 0) (.int 12)))) (.cons (.ite (.and (.cmp .Eq (.bin .Mod (.bin .FloorDiv (.loc 0) (.int 1009)) (.int 3)) (.int 1)) (.cmp .Gt (.blt .len (.cons (.loc 1) .nil)) (.int 0))) (.cons (.setv 4 (.idx (.loc 1) (.bin .Mod (.bin .FloorDiv (.loc 0) (.int 3027)) (.blt .len (.cons (.loc 1) .nil))))) .nil) .nil) (.cons (.ret (.loc 4)) .nil)))))⟩
def fn_l_good : Fn := ⟨(2), (4), (.cons (.ite (.or (.not (.isi (.loc 0) [.list])) (.not (.chn .LtE .LtE (.int 1) (.blt .len (.cons (.loc 0) .nil)) (.int 6)))) (.cons (.ret (.bl false)) .nil) .nil) (.cons (.fr true (some 2) [] (.blt .len (.cons (.loc 0) .nil)) (.cons (.ite (.or (.not (.isi (.idx (.loc 0) (.loc 2)) [.str])) (.or (.not (.chn .LtE .LtE (.int 1) (.blt .len (.cons (.idx (.loc 0) (.loc 2)) .nil)) (.int 8))) (.cmp .In (.idx (.loc 0) (.loc 2)) (.slc (.loc 0) .no (.yes (.loc 2)))))) (.cons (.ret (.bl false)) .nil) .nil) (.cons (.ite (.cmp .NotEq (.lc false (.loc 3) 3 (.idx (.loc 0) (.loc 2)) (.yes (.cmp .NotIn (.loc 3) (.str q_abcdefghijklmnopqrstuvwxyz)))) (.lst .nil)) (.cons (.ret (.bl false)) .nil) .nil) .nil))) (.cons (.ret (.and (.call f_l_whole (.cons (.loc 1) .nil)) (.chn .LtE .LtE (.int 1) (.loc 1) (.int 6)))) .nil)))⟩
def fn_l_fresh : Fn := ⟨(3), (6), (.cons (.ite (.or (.cmp .NotEq (.mth a_letters (.loc 0) .nil) (.lst .nil)) (.or (.cmp .NotEq (.mth a_ledger (.loc 0) .nil) (.lst .nil)) (.or (.cmp .NotEq (.mth a_owes (.loc 0) (.cons (.int 0) .nil)) (.lst .nil)) (.cmp .NotEq (.mth a_owes (.loc 0) (.cons (.int 1) .nil)) (.lst .nil))))) (.cons (.ret (.bl false)) .nil) .nil) (.cons (.fr false (some 3) [] (.loc 1) (.cons (.ite (.or (.not (.call f_l_whole (.cons (.mth a_home (.loc 0) (.cons (.loc 3) .nil)) .nil))) (.cmp .NotEq (.mth a_home (.loc 0) (.cons (.loc 3) .nil)) (.int 0))) (.cons (.ret (.bl false)) .nil) .nil) (.cons (.ite (.or (.cmp .IsNot (.mth a_has (.loc 0) (.cons (.int 0) (.cons (.loc 3) .nil))) (.bl true)) (.cmp .IsNot (.mth a_has (.loc 0) (.cons (.int 1) (.cons (.loc 3) .nil))) (.bl false))) (.cons (.ret (.bl false)) .nil) .nil) .nil))) (.cons (.fr true (some 4) [] (.loc 2) (.cons (.ite (.or (.cmp .IsNot (.mth a_asking (.loc 0) (.cons (.loc 4) .nil)) .non) (.cmp .NotEq (.mth a_answers (.loc 0) (.cons (.loc 4) .nil)) (.lst .nil))) (.cons (.ret (.bl false)) .nil) .nil) .nil)) (.cons (.setv 5 (.mth a_settle (.loc 0) .nil)) (.cons (.ret (.and (.call f_l_whole (.cons (.loc 5) .nil)) (.and (.cmp .Eq (.loc 5) (.int 0)) (.cmp .Eq (.mth a_letters (.loc 0) .nil) (.lst .nil))))) .nil)))))⟩
def fn_l_no_key : Fn := ⟨(2), (2), (.cons (.trm (.cons (.exp (.mth a_home (.loc 0) (.cons (.loc 1) .nil))) .nil) [(x_NoKey, (.bl true)), (998, (.bl false))]) (.cons (.ret (.bl false)) .nil))⟩
def fn_law_k08 : Fn := ⟨(1), (8), (.cons (.setv 1 (.call f_l_names (.cons (.call f_l_cell_at (.cons (.loc 0) (.cons (.int 0) .nil))) .nil))) (.cons (.setv 2 (.bin .Mod (.call f_l_cell_at (.cons (.loc 0) (.cons (.int 1) .nil))) (.int 8))) (.cons (.setv 3 (.call f_l_cell_at (.cons (.loc 0) (.cons (.int 2) .nil)))) (.cons (.ite (.cmp .Lt (.loc 2) (.int 3)) (.cons (.exp (.bm .insert (.loc 1) (.cons (.bin .Mod (.bin .FloorDiv (.call f_l_cell_at (.cons (.loc 0) (.cons (.int 1) .nil))) (.int 8)) (.bin .Add (.blt .len (.cons (.loc 1) .nil)) (.int 1))) (.cons (.call f_l_odd_k08 (.cons (.loc 3) (.cons (.loc 1) .nil))) .nil)))) .nil) .nil) (.cons (.setv 4 (.bin .Add (.int 1) (.bin .Mod (.call f_l_cell_at (.cons (.loc 0) (.cons (.int 3) .nil))) (.int 6)))) (.cons (.ite (.cmp .Eq (.bin .Mod (.bin .FloorDiv (.call f_l_cell_at (.cons (.loc 0) (.cons (.int 3) .nil))) (.int 6)) (.int 3)) (.int 1)) (.cons (.setv 5 (.bin .Add (.bin .Pow (.int 10) (.int 20)) (.bin .Mod (.loc 3) (.bin .Pow (.int 10) (.int 20))))) (.cons (.setv 4 (.idx (.lst (.cons (.neg (.int 2)) (.cons (.neg (.int 1)) (.cons (.int 0) (.cons (.int 7) (.cons (.int 8) (.cons (.int 9) (.cons (.bl true) (.cons (.bl false) (.cons .non (.cons (.str (PySem.Str.ofString "3")) (.cons (.loc 5) (.cons (.neg (.loc 5)) (.cons (.lst (.cons (.int 1) .nil)) .nil)))))))))))))) (.bin .Mod (.bin .FloorDiv (.call f_l_cell_at (.cons (.loc 0) (.cons (.int 3) .nil))) (.int 18)) (.int 13)))) .nil)) .nil) (.cons (.setv 6 (.loc 1)) (.cons (.ite (.cmp .Eq (.loc 2) (.int 3)) (.cons (.setv 6 (.idx (.lst (.cons (.blt .tuple (.cons (.loc 1) .nil)) (.cons .non (.cons (.str q_abc) (.cons (.dnew false) (.cons (.int 5) .nil)))))) (.bin .Mod (.loc 3) (.int 5)))) .nil) .nil) (.cons (.ite (.not (.call f_l_good (.cons (.loc 6) (.cons (.loc 4) .nil)))) (.cons (.ret (.call f_l_refused_k08 (.cons (.loc 6) (.cons (.loc 4) .nil)))) .nil) .nil) (.cons (.setv 6 (.blt .list (.cons (.loc 1) .nil))) (.cons (.setv 7 (.make c_World (.cons (.loc 6) (.cons (.loc 4) .nil)))) (.cons (.ite (.cmp .NotEq (.loc 6) (.loc 1)) (.cons (.ret (.bl false)) .nil) .nil) (.cons (.exp (.bm .append (.loc 6) (.cons (.str (PySem.Str.ofString "Later")) .nil))) (.cons (.ret (.and (.call f_l_no_key (.cons (.loc 7) (.cons (.str (PySem.Str.ofString "Later")) .nil))) (.call f_l_fresh (.cons (.loc 7) (.cons (.loc 1) (.cons (.loc 4) .nil)))))) .nil))))))))))))))⟩
def fn_World_init : Fn := ⟨(3), (4), (.cons (.exp (.call f_need_world (.cons (.loc 1) (.cons (.loc 2) .nil)))) (.cons (.setf (.loc 0) a_names (.blt .list (.cons (.loc 1) .nil))) (.cons (.setf (.loc 0) a_houses (.lst (.cons (.make c_House (.cons (.int 0) (.cons (.loc 1) .nil))) (.cons (.make c_House (.cons (.int 1) (.cons (.loc 1) .nil))) .nil)))) (.cons (.setf (.loc 0) a_callers (.lc true (.make c_Caller (.cons (.loc 3) .nil)) 3 (.loc 2) .no)) (.cons (.setf (.loc 0) a_under_way (.lst .nil)) (.cons (.setf (.loc 0) a_rows (.lst .nil)) .nil))))))⟩
def fn_World_need_caller : Fn := ⟨(2), (2), (.cons (.ite (.or (.not (.call f_is_whole (.cons (.loc 1) .nil))) (.not (.chn .LtE .Lt (.int 0) (.loc 1) (.blt .len (.cons (.fld (.loc 0) a_callers) .nil))))) (.cons (.rse x_NoCaller) .nil) .nil) (.cons (.ret (.idx (.fld (.loc 0) a_callers) (.loc 1))) .nil))⟩
def fn_World_need_house : Fn := ⟨(2), (2), (.cons (.ite (.or (.not (.call f_is_whole (.cons (.loc 1) .nil))) (.not (.chn .LtE .LtE (.int 0) (.loc 1) (.int 1)))) (.cons (.rse x_NoHouse) .nil) .nil) (.cons (.ret (.idx (.fld (.loc 0) a_houses) (.loc 1))) .nil))⟩
def fn_World_need_key : Fn := ⟨(2), (2), (.cons (.ite (.or (.not (.isi (.loc 1) [.str])) (.cmp .NotIn (.loc 1) (.fld (.loc 0) a_names))) (.cons (.rse x_NoKey) .nil) .nil) .nil)⟩
def fn_World_need_place : Fn := ⟨(2), (2), (.cons (.ite (.or (.not (.call f_is_whole (.cons (.loc 1) .nil))) (.not (.chn .LtE .Lt (.int 0) (.loc 1) (.blt .len (.cons (.fld (.loc 0) a_under_way) .nil))))) (.cons (.rse x_NoLetter) .nil) .nil) .nil)⟩
def fn_World_call : Fn := ⟨(5), (7), (.cons (.setv 5 (.mth a_need_caller (.loc 0) (.cons (.loc 1) .nil))) (.cons (.exp (.mth a_need_house (.loc 0) (.cons (.loc 2) .nil))) (.cons (.exp (.mth a_need_key (.loc 0) (.cons (.loc 3) .nil))) (.cons (.exp (.call f_need_wish (.cons (.loc 4) .nil))) (.cons (.ite (.cmp .IsNot (.mth a_asking (.loc 5) .nil) .non) (.cons (.rse x_Busy) .nil) .nil) (.cons (.setv 6 (.mth a_begin (.loc 5) (.cons (.loc 3) (.cons (.loc 4) .nil)))) (.cons (.exp (.bm .append (.fld (.loc 0) a_under_way) (.cons (.mth a_letter (.loc 5) (.cons (.loc 2) .nil)) .nil))) (.cons (.ret (.loc 6)) .nil))))))))⟩
def fn_World_again : Fn := ⟨(3), (4), (.cons (.setv 3 (.mth a_need_caller (.loc 0) (.cons (.loc 1) .nil))) (.cons (.exp (.mth a_need_house (.loc 0) (.cons (.loc 2) .nil))) (.cons (.ite (.cmp .Is (.mth a_asking (.loc 3) .nil) .non) (.cons (.rse x_Idle) .nil) .nil) (.cons (.exp (.bm .append (.fld (.loc 0) a_under_way) (.cons (.mth a_letter (.loc 3) (.cons (.loc 2) .nil)) .nil))) .nil))))⟩
def fn_World_letters : Fn := ⟨(1), (1), (.cons (.ret (.blt .list (.cons (.fld (.loc 0) a_under_way) .nil))) .nil)⟩
def fn_World_brought : Fn := ⟨(2), (2), (.cons (.ite (.cmp .Eq (.idx (.loc 1) (.int 0)) (.str q_answer)) (.cons (.exp (.mth a_came (.idx (.fld (.loc 0) a_callers) (.idx (.loc 1) (.int 1))) (.cons (.idx (.loc 1) (.int 2)) (.cons (.idx (.loc 1) (.int 3)) .nil)))) .nil) (.cons (.exp (.mth a_came (.idx (.fld (.loc 0) a_houses) (.idx (.loc 1) (.int 1))) (.cons (.loc 1) .nil))) .nil)) .nil)⟩
def fn_World_hand : Fn := ⟨(2), (2), (.cons (.exp (.mth a_need_place (.loc 0) (.cons (.loc 1) .nil))) (.cons (.exp (.mth a_brought (.loc 0) (.cons (.bm .pop (.fld (.loc 0) a_under_way) (.cons (.loc 1) .nil)) .nil))) .nil))⟩
def fn_World_twice : Fn := ⟨(2), (2), (.cons (.exp (.mth a_need_place (.loc 0) (.cons (.loc 1) .nil))) (.cons (.exp (.mth a_brought (.loc 0) (.cons (.idx (.fld (.loc 0) a_under_way) (.loc 1)) .nil))) .nil))⟩
def fn_World_home : Fn := ⟨(2), (3), (.cons (.exp (.mth a_need_key (.loc 0) (.cons (.loc 1) .nil))) (.cons (.fr false (some 2) [] (.fld (.loc 0) a_houses) (.cons (.ite (.mth a_has (.loc 2) (.cons (.loc 1) .nil)) (.cons (.ret (.fld (.loc 2) a_number)) .nil) .nil) .nil)) (.cons (.ret .non) .nil)))⟩
def fn_World_has : Fn := ⟨(3), (4), (.cons (.setv 3 (.mth a_need_house (.loc 0) (.cons (.loc 1) .nil))) (.cons (.exp (.mth a_need_key (.loc 0) (.cons (.loc 2) .nil))) (.cons (.ret (.mth a_has (.loc 3) (.cons (.loc 2) .nil))) .nil)))⟩
def fn_World_write : Fn := ⟨(2), (4), (.cons (.unp [.v 2, .v 3] (.mth a_write (.mth a_need_house (.loc 0) (.cons (.loc 1) .nil)) .nil)) (.cons (.exp (.bm .extend (.fld (.loc 0) a_under_way) (.cons (.loc 2) .nil))) (.cons (.exp (.bm .extend (.fld (.loc 0) a_rows) (.cons (.loc 3) .nil))) .nil)))⟩
def fn_World_nudge : Fn := ⟨(2), (2), (.cons (.exp (.bm .extend (.fld (.loc 0) a_under_way) (.cons (.mth a_nudge (.mth a_need_house (.loc 0) (.cons (.loc 1) .nil)) .nil) .nil))) .nil)⟩
def fn_World_ledger : Fn := ⟨(1), (1), (.cons (.ret (.blt .list (.cons (.fld (.loc 0) a_rows) .nil))) .nil)⟩
def fn_World_asking : Fn := ⟨(2), (2), (.cons (.ret (.mth a_asking (.mth a_need_caller (.loc 0) (.cons (.loc 1) .nil)) .nil)) .nil)⟩
def fn_World_answers : Fn := ⟨(2), (2), (.cons (.ret (.mth a_answers (.mth a_need_caller (.loc 0) (.cons (.loc 1) .nil)) .nil)) .nil)⟩
def fn_World_owes : Fn := ⟨(2), (2), (.cons (.ret (.mth a_owes (.mth a_need_house (.loc 0) (.cons (.loc 1) .nil)) .nil)) .nil)⟩
def fn_World_is_settled : Fn := ⟨(1), (2), (.cons (.fr false (some 1) [] (.fld (.loc 0) a_callers) (.cons (.ite (.cmp .IsNot (.mth a_asking (.loc 1) .nil) .non) (.cons (.ret (.bl false)) .nil) .nil) .nil)) (.cons (.ret (.and (.cmp .Eq (.mth a_owes (.loc 0) (.cons (.int 0) .nil)) (.lst .nil)) (.cmp .Eq (.mth a_owes (.loc 0) (.cons (.int 1) .nil)) (.lst .nil)))) .nil))⟩
def fn_World_settle : Fn := ⟨(1), (5), (.cons (.setv 1 (.int 0)) (.cons (.whl (.not (.mth a_is_settled (.loc 0) .nil)) (.cons (.setv 1 (.bin .Add (.loc 1) (.int 1))) (.cons (.fr true (some 2) [] (.int 2) (.cons (.exp (.mth a_write (.loc 0) (.cons (.loc 2) .nil))) .nil)) (.cons (.fr true (some 2) [] (.int 2) (.cons (.exp (.mth a_nudge (.loc 0) (.cons (.loc 2) .nil))) .nil)) (.cons (.fr false (some 3) [] (.fld (.loc 0) a_callers) (.cons (.ite (.cmp .IsNot (.mth a_asking (.loc 3) .nil) .non) (.cons (.exp (.bm .append (.fld (.loc 0) a_under_way) (.cons (.mth a_letter (.loc 3) (.cons (.int 0) .nil)) .nil))) (.cons (.exp (.bm .append (.fld (.loc 0) a_under_way) (.cons (.mth a_letter (.loc 3) (.cons (.int 1) .nil)) .nil))) .nil)) .nil) .nil)) (.cons (.fr true (some 4) [] (.blt .len (.cons (.fld (.loc 0) a_under_way) .nil)) (.cons (.exp (.mth a_hand (.loc 0) (.cons (.int 0) .nil))) .nil)) .nil)))))) (.cons (.ret (.loc 1)) .nil)))⟩
def fn_l_act : Fn := ⟨(7), (7), (.cons (.ite (.cmp .Eq (.loc 1) (.int 0)) (.cons (.ret (.mth a_call (.loc 0) (.cons (.loc 2) (.cons (.loc 3) (.cons (.loc 4) (.cons (.loc 5) .nil)))))) .nil) .nil) (.cons (.ite (.cmp .Eq (.loc 1) (.int 1)) (.cons (.ret (.mth a_again (.loc 0) (.cons (.loc 2) (.cons (.loc 3) .nil)))) .nil) .nil) (.cons (.ite (.cmp .Eq (.loc 1) (.int 2)) (.cons (.ret (.mth a_has (.loc 0) (.cons (.loc 3) (.cons (.loc 4) .nil)))) .nil) .nil) (.cons (.ite (.cmp .Eq (.loc 1) (.int 3)) (.cons (.ret (.mth a_move (.loc 0) (.cons (.loc 4) .nil))) .nil) .nil) (.cons (.ite (.cmp .Eq (.loc 1) (.int 4)) (.cons (.ret (.mth a_home (.loc 0) (.cons (.loc 4) .nil))) .nil) .nil) (.cons (.ite (.cmp .Eq (.loc 1) (.int 5)) (.cons (.ret (.mth a_write (.loc 0) (.cons (.loc 3) .nil))) .nil) .nil) (.cons (.ite (.cmp .Eq (.loc 1) (.int 6)) (.cons (.ret (.mth a_sleep (.loc 0) (.cons (.loc 3) .nil))) .nil) .nil) (.cons (.ite (.cmp .Eq (.loc 1) (.int 7)) (.cons (.ret (.mth a_nudge (.loc 0) (.cons (.loc 3) .nil))) .nil) .nil) (.cons (.ite (.cmp .Eq (.loc 1) (.int 8)) (.cons (.ret (.mth a_asking (.loc 0) (.cons (.loc 2) .nil))) .nil) .nil) (.cons (.ite (.cmp .Eq (.loc 1) (.int 9)) (.cons (.ret (.mth a_answers (.loc 0) (.cons (.loc 2) .nil))) .nil) .nil) (.cons (.ite (.cmp .Eq (.loc 1) (.int 10)) (.cons (.ret (.mth a_owes (.loc 0) (.cons (.loc 3) .nil))) .nil) .nil) (.cons (.ite (.cmp .Eq (.loc 1) (.int 11)) (.cons (.ret (.mth a_hand (.loc 0) (.cons (.loc 6) .nil))) .nil) .nil) (.cons (.ite (.cmp .Eq (.loc 1) (.int 12)) (.cons (.ret (.mth a_twice (.loc 0) (.cons (.loc 6) .nil))) .nil) .nil) (.cons (.ret (.mth a_lose (.loc 0) (.cons (.loc 6) .nil))) .nil))))))))))))))⟩
def fn_l_said : Fn := ⟨(3), (5), (.cons (.trl (.cons (.exp (.call f_l_act (.cons (.loc 0) (.cons (.loc 1) (.cons (.idx (.loc 2) (.int 0)) (.cons (.idx (.loc 2) (.int 1)) (.cons (.idx (.loc 2) (.int 2)) (.cons (.idx (.loc 2) (.int 3)) (.cons (.idx (.loc 2) (.int 4)) .nil))))))))) .nil) x_MoveError 3 4 [x_NoCaller, x_NoHouse, x_NoKey, x_BadWish, x_Busy, x_Idle, x_NotHere, x_NoLetter, x_BadWorld, 999]) (.cons (.ret (.bin .Mult (.lst (.cons (.bl false) .nil)) (.int 10))) .nil))⟩
def fn_l_count : Fn := ⟨(2), (3), (.cons (.setv 2 (.bin .Mod (.bin .FloorDiv (.loc 0) (.int 24)) (.bin .Pow (.int 10) (.int 30)))) (.cons (.ite (.cmp .Lt (.bin .Mod (.loc 0) (.int 3)) (.int 2)) (.cons (.ret (.bin .Mod (.bin .FloorDiv (.loc 0) (.int 3)) (.blt .max (.cons (.int 1) (.cons (.loc 1) .nil))))) .nil) .nil) (.cons (.ret (.idx (.lst (.cons (.bin .Sub (.neg (.int 1)) (.loc 2)) (.cons (.loc 1) (.cons (.bin .Add (.loc 1) (.loc 2)) (.cons (.bl true) (.cons (.bl false) (.cons .non (.cons (.str (PySem.Str.ofString "0")) (.cons (.lst (.cons (.int 0) .nil)) .nil))))))))) (.bin .Mod (.bin .FloorDiv (.loc 0) (.int 3)) (.int 8)))) .nil)))⟩
def fn_l_key : Fn := ⟨(2), (3), (.cons (.ite (.cmp .Lt (.bin .Mod (.loc 0) (.int 3)) (.int 2)) (.cons (.ret (.idx (.loc 1) (.bin .Mod (.bin .FloorDiv (.loc 0) (.int 3)) (.blt .len (.cons (.loc 1) .nil))))) .nil) .nil) (.cons (.setv 2 (.idx (.loc 1) (.bin .Mod (.bin .FloorDiv (.loc 0) (.int 30)) (.blt .len (.cons (.loc 1) .nil))))) (.cons (.ret (.idx (.lst (.cons (.str (PySem.Str.ofString "")) (.cons .non (.cons (.int 0) (.cons (.lst (.cons (.loc 2) .nil)) (.cons (.tup (.cons (.loc 2) .nil)) (.cons (.bin .Add (.loc 2) (.str q_x)) (.cons (.bin .Add (.str q_x) (.loc 2)) (.cons (.bm .upper (.loc 2) .nil) (.cons (.bl true) (.cons (.dnew false) .nil))))))))))) (.bin .Mod (.bin .FloorDiv (.loc 0) (.int 3)) (.int 10)))) .nil)))⟩
def fn_l_there : Fn := ⟨(2), (2), (.cons (.ret (.and (.isi (.loc 0) [.int]) (.and (.not (.isi (.loc 0) [.bool])) (.chn .LtE .Lt (.int 0) (.loc 0) (.loc 1))))) .nil)⟩
def fn_l_due : Fn := ⟨(5), (10), (.cons (.unp [.v 5, .v 6, .v 7, .v 8, .v 9] (.loc 1)) (.cons (.ite (.and (.cmp .In (.loc 0) (.tup (.cons (.int 0) (.cons (.int 1) (.cons (.int 8) (.cons (.int 9) .nil)))))) (.not (.call f_l_there (.cons (.loc 5) (.cons (.blt .len (.cons (.loc 3) .nil)) .nil))))) (.cons (.ret (.int 0)) .nil) .nil) (.cons (.ite (.and (.cmp .In (.loc 0) (.tup (.cons (.int 0) (.cons (.int 1) (.cons (.int 2) (.cons (.int 5) (.cons (.int 6) (.cons (.int 7) (.cons (.int 10) .nil))))))))) (.not (.call f_l_there (.cons (.loc 6) (.cons (.int 2) .nil))))) (.cons (.ret (.int 1)) .nil) .nil) (.cons (.ite (.and (.cmp .In (.loc 0) (.tup (.cons (.int 0) (.cons (.int 2) (.cons (.int 3) (.cons (.int 4) .nil)))))) (.or (.not (.isi (.loc 7) [.str])) (.cmp .NotIn (.loc 7) (.loc 2)))) (.cons (.ret (.int 2)) .nil) .nil) (.cons (.ite (.and (.cmp .Eq (.loc 0) (.int 0)) (.idx (.loc 4) (.int 2))) (.cons (.ret (.int 3)) .nil) .nil) (.cons (.ite (.and (.cmp .Eq (.loc 0) (.int 0)) (.idx (.loc 3) (.loc 5))) (.cons (.ret (.int 4)) .nil) .nil) (.cons (.ite (.and (.cmp .Eq (.loc 0) (.int 1)) (.not (.idx (.loc 3) (.loc 5)))) (.cons (.ret (.int 5)) .nil) .nil) (.cons (.ite (.and (.cmp .Eq (.loc 0) (.int 3)) (.cmp .Eq (.loc 7) (.idx (.loc 4) (.int 0)))) (.cons (.ret (.int 6)) .nil) .nil) (.cons (.ite (.and (.cmp .Gt (.loc 0) (.int 10)) (.not (.call f_l_there (.cons (.loc 9) (.cons (.idx (.loc 4) (.int 1)) .nil))))) (.cons (.ret (.int 7)) .nil) .nil) (.cons (.ret (.neg (.int 1))) .nil))))))))))⟩
def fn_l_state : Fn := ⟨(3), (6), (.cons (.setv 3 (.lst (.cons (.mth a_letters (.loc 0) .nil) (.cons (.mth a_ledger (.loc 0) .nil) (.cons (.mth a_owes (.loc 0) (.cons (.int 0) .nil)) (.cons (.mth a_owes (.loc 0) (.cons (.int 1) .nil)) .nil)))))) (.cons (.fr true (some 4) [] (.loc 2) (.cons (.exp (.bm .append (.loc 3) (.cons (.tup (.cons (.mth a_asking (.loc 0) (.cons (.loc 4) .nil)) (.cons (.mth a_answers (.loc 0) (.cons (.loc 4) .nil)) .nil))) .nil))) .nil)) (.cons (.fr false (some 5) [] (.loc 1) (.cons (.exp (.bm .append (.loc 3) (.cons (.tup (.cons (.mth a_home (.loc 0) (.cons (.loc 5) .nil)) (.cons (.mth a_has (.loc 0) (.cons (.int 0) (.cons (.loc 5) .nil))) (.cons (.mth a_has (.loc 0) (.cons (.int 1) (.cons (.loc 5) .nil))) .nil)))) .nil))) .nil)) (.cons (.ret (.loc 3)) .nil))))⟩
def fn_law_k09 : Fn := ⟨(1), (15), (.cons (.setv 1 (.call f_l_cell_at (.cons (.loc 0) (.cons (.int 0) .nil)))) (.cons (.setv 2 (.call f_l_keys (.cons (.bin .Add (.bin .Add (.bin .Sub (.loc 1) (.bin .Mod (.loc 1) (.int 6))) (.int 1)) (.bin .Mod (.loc 1) (.int 5))) .nil))) (.cons (.setv 3 (.bin .Add (.int 1) (.bin .Mod (.call f_l_cell_at (.cons (.loc 0) (.cons (.int 1) .nil))) (.int 6)))) (.cons (.setv 4 (.make c_World (.cons (.blt .list (.cons (.loc 2) .nil)) (.cons (.loc 3) .nil)))) (.cons (.setv 5 (.lst .nil)) (.cons (.fr true (some 6) [] (.loc 3) (.cons (.exp (.bm .append (.loc 5) (.cons (.cmp .Eq (.bin .Mod (.bin .FloorDiv (.bin .FloorDiv (.call f_l_cell_at (.cons (.loc 0) (.cons (.int 1) .nil))) (.int 6)) (.idx (.lst (.cons (.int 1) (.cons (.int 2) (.cons (.int 4) (.cons (.int 8) (.cons (.int 16) (.cons (.int 32) .nil))))))) (.loc 6))) (.int 2)) (.int 1)) .nil))) (.cons (.ite (.idx (.loc 5) (.loc 6)) (.cons (.exp (.mth a_call (.loc 4) (.cons (.loc 6) (.cons (.bin .Mod (.loc 6) (.int 2)) (.cons (.idx (.loc 2) (.bin .Mod (.loc 6) (.blt .len (.cons (.loc 2) .nil)))) (.cons (.tup (.cons (.str q_get) .nil)) .nil)))))) .nil) .nil) .nil))) (.cons (.setv 7 (.lst (.cons .non (.cons (.blt .len (.cons (.mth a_letters (.loc 4) .nil) .nil)) (.cons (.cmp .Eq (.bin .Mod (.call f_l_cell_at (.cons (.loc 0) (.cons (.int 3) .nil))) (.int 3)) (.int 1)) .nil))))) (.cons (.ite (.cmp .Eq (.bin .Mod (.call f_l_cell_at (.cons (.loc 0) (.cons (.int 2) .nil))) (.int 2)) (.int 1)) (.cons (.exp (.mth a_move (.loc 4) (.cons (.idx (.loc 2) (.int 0)) .nil))) (.cons (.seti (.loc 7) (.int 0) (.idx (.loc 2) (.int 0))) .nil)) .nil) (.cons (.setv 8 (.idx (.lst (.cons (.int 0) (.cons (.int 1) (.cons (.int 2) (.cons (.int 3) (.cons (.int 4) (.cons (.int 5) (.cons (.int 6) (.cons (.int 7) (.cons (.int 8) (.cons (.int 9) (.cons (.int 10) (.cons (.int 11) (.cons (.int 12) (.cons (.int 13) (.cons (.int 0) (.cons (.int 0) (.cons (.int 0) (.cons (.int 1) (.cons (.int 3) (.cons (.int 11) .nil))))))))))))))))))))) (.bin .Mod (.bin .FloorDiv (.call f_l_cell_at (.cons (.loc 0) (.cons (.int 2) .nil))) (.int 2)) (.int 20)))) (.cons (.setv 9 (.call f_l_wish (.cons (.call f_l_cell_at (.cons (.loc 0) (.cons (.int 6) .nil))) .nil))) (.cons (.ite (.idx (.loc 7) (.int 2)) (.cons (.setv 9 (.call f_l_odd (.cons (.call f_l_cell_at (.cons (.loc 0) (.cons (.int 6) .nil))) .nil))) .nil) .nil) (.cons (.setv 10 (.lst (.cons (.call f_l_count (.cons (.call f_l_cell_at (.cons (.loc 0) (.cons (.int 4) .nil))) (.cons (.loc 3) .nil))) (.cons (.call f_l_count (.cons (.call f_l_cell_at (.cons (.loc 0) (.cons (.int 5) .nil))) (.cons (.int 2) .nil))) .nil)))) (.cons (.setv 10 (.bin .Add (.loc 10) (.lst (.cons (.call f_l_key (.cons (.call f_l_cell_at (.cons (.loc 0) (.cons (.int 7) .nil))) (.cons (.loc 2) .nil))) (.cons (.loc 9) (.cons (.call f_l_count (.cons (.call f_l_cell_at (.cons (.loc 0) (.cons (.int 8) .nil))) (.cons (.idx (.loc 7) (.int 1)) .nil))) .nil)))))) (.cons (.setv 11 (.call f_l_due (.cons (.loc 8) (.cons (.loc 10) (.cons (.loc 2) (.cons (.loc 5) (.cons (.loc 7) .nil))))))) (.cons (.setv 12 (.call f_l_state (.cons (.loc 4) (.cons (.loc 2) (.cons (.loc 3) .nil))))) (.cons (.setv 13 (.call f_l_said (.cons (.loc 4) (.cons (.loc 8) (.cons (.loc 10) .nil))))) (.cons (.ite (.cmp .Lt (.loc 11) (.int 0)) (.cons (.ret (.cmp .Eq (.loc 13) (.bin .Mult (.lst (.cons (.bl false) .nil)) (.int 10)))) .nil) .nil) (.cons (.ite (.or (.cmp .NotEq (.loc 13) (.lc true (.or (.cmp .Eq (.loc 14) (.loc 11)) (.cmp .Eq (.loc 14) (.int 9))) 14 (.int 10) .no)) (.cmp .NotEq (.call f_l_state (.cons (.loc 4) (.cons (.loc 2) (.cons (.loc 3) .nil)))) (.loc 12))) (.cons (.ret (.bl false)) .nil) .nil) (.cons (.exp (.mth a_settle (.loc 4) .nil)) (.cons (.fr true (some 6) [] (.loc 3) (.cons (.ite (.cmp .NotEq (.mth a_call (.loc 4) (.cons (.loc 6) (.cons (.int 0) (.cons (.idx (.loc 2) (.int 0)) (.cons (.tup (.cons (.str q_get) .nil)) .nil))))) (.bin .Add (.int 1) (.blt .int (.cons (.idx (.loc 5) (.loc 6)) .nil)))) (.cons (.ret (.bl false)) .nil) .nil) .nil)) (.cons (.ret (.bl true)) .nil)))))))))))))))))))))⟩
def fn_World_lose : Fn := ⟨(2), (2), (.cons (.exp (.mth a_need_place (.loc 0) (.cons (.loc 1) .nil))) (.cons (.exp (.bm .pop (.fld (.loc 0) a_under_way) (.cons (.loc 1) .nil))) .nil))⟩
def fn_World_move : Fn := ⟨(2), (3), (.cons (.setv 2 (.mth a_home (.loc 0) (.cons (.loc 1) .nil))) (.cons (.ite (.cmp .Is (.loc 2) .non) (.cons (.rse x_NotHere) .nil) .nil) (.cons (.exp (.mth a_move (.idx (.fld (.loc 0) a_houses) (.loc 2)) (.cons (.loc 1) .nil))) .nil)))⟩
def fn_World_sleep : Fn := ⟨(2), (2), (.cons (.exp (.mth a_sleep (.mth a_need_house (.loc 0) (.cons (.loc 1) .nil)) .nil)) .nil)⟩
def fn_l_step_k10 : Fn := ⟨(5), (11), (.cons (.setv 5 (.bin .FloorDiv (.loc 4) (.int 8))) (.cons (.setv 6 (.bin .Mod (.loc 5) (.int 2))) (.cons (.setv 7 (.bin .Mod (.bin .FloorDiv (.loc 5) (.int 2)) (.blt .len (.cons (.loc 2) .nil)))) (.cons (.ite (.and (.cmp .Lt (.bin .Mod (.loc 4) (.int 8)) (.int 4)) (.cmp .Is (.idx (.loc 2) (.loc 7)) .non)) (.cons (.setv 8 (.idx (.loc 1) (.bin .Mod (.bin .FloorDiv (.loc 5) (.int 3)) (.blt .len (.cons (.loc 1) .nil))))) (.cons (.setv 9 (.call f_l_wish (.cons (.bin .FloorDiv (.bin .Mult (.bin .Add (.loc 4) (.int 5)) (.int 48271)) (.int 11)) .nil))) (.cons (.ite (.not (.call f_l_alike (.cons (.mth a_call (.loc 0) (.cons (.loc 7) (.cons (.loc 6) (.cons (.loc 8) (.cons (.loc 9) .nil))))) (.cons (.int 1) .nil)))) (.cons (.ret (.bl false)) .nil) .nil) (.cons (.seti (.loc 2) (.loc 7) (.tup (.cons (.int 1) (.cons (.loc 8) (.cons (.loc 9) .nil))))) (.cons (.exp (.bm .append (.loc 3) (.cons (.tup (.cons (.str q_call) (.cons (.loc 6) (.cons (.loc 7) (.cons (.int 1) (.cons (.loc 8) (.cons (.loc 9) .nil))))))) .nil))) .nil))))) (.cons (.ite (.cmp .Lt (.bin .Mod (.loc 4) (.int 8)) (.int 4)) (.cons (.exp (.bm .append (.loc 3) (.cons (.bin .Add (.tup (.cons (.str q_call) (.cons (.loc 6) (.cons (.loc 7) .nil)))) (.idx (.loc 2) (.loc 7))) .nil))) (.cons (.ret (.cmp .Is (.mth a_again (.loc 0) (.cons (.loc 7) (.cons (.loc 6) .nil))) .non)) .nil)) (.cons (.ite (.and (.cmp .Eq (.bin .Mod (.loc 4) (.int 8)) (.int 4)) (.cmp .NotEq (.loc 3) (.lst .nil))) (.cons (.setv 10 (.bin .Mod (.loc 5) (.blt .len (.cons (.loc 3) .nil)))) (.cons (.exp (.bm .pop (.loc 3) (.cons (.loc 10) .nil))) (.cons (.ret (.cmp .Is (.mth a_hand (.loc 0) (.cons (.loc 10) .nil)) .non)) .nil))) (.cons (.ite (.and (.cmp .Eq (.bin .Mod (.loc 4) (.int 8)) (.int 5)) (.cmp .NotEq (.loc 3) (.lst .nil))) (.cons (.ret (.cmp .Is (.mth a_twice (.loc 0) (.cons (.bin .Mod (.loc 5) (.blt .len (.cons (.loc 3) .nil))) .nil)) .non)) .nil) (.cons (.ite (.and (.cmp .Eq (.bin .Mod (.loc 4) (.int 8)) (.int 6)) (.cmp .NotEq (.loc 3) (.lst .nil))) (.cons (.setv 10 (.bin .Mod (.loc 5) (.blt .len (.cons (.loc 3) .nil)))) (.cons (.exp (.bm .pop (.loc 3) (.cons (.loc 10) .nil))) (.cons (.ret (.cmp .Is (.mth a_lose (.loc 0) (.cons (.loc 10) .nil)) .non)) .nil))) (.cons (.ite (.cmp .Eq (.bin .Mod (.loc 4) (.int 8)) (.int 7)) (.cons (.ret (.cmp .Is (.mth a_sleep (.loc 0) (.cons (.loc 6) .nil)) .non)) .nil) .nil) .nil)) .nil)) .nil)) .nil)) .nil)) (.cons (.ret (.bl true)) .nil)))))⟩
def fn_law_k10 : Fn := ⟨(1), (9), (.cons (.setv 1 (.call f_l_keys (.cons (.call f_l_cell_at (.cons (.loc 0) (.cons (.int 0) .nil))) .nil))) (.cons (.setv 2 (.lc true .non 7 (.bin .Add (.int 1) (.bin .Mod (.call f_l_cell_at (.cons (.loc 0) (.cons (.int 1) .nil))) (.int 6))) .no)) (.cons (.setv 3 (.make c_World (.cons (.blt .list (.cons (.loc 1) .nil)) (.cons (.blt .len (.cons (.loc 2) .nil)) .nil)))) (.cons (.setv 4 (.lst .nil)) (.cons (.fr false (some 5) [] (.slc (.loc 0) (.yes (.int 2)) .no) (.cons (.ite (.not (.call f_l_step_k10 (.cons (.loc 3) (.cons (.loc 1) (.cons (.loc 2) (.cons (.loc 4) (.cons (.loc 5) .nil))))))) (.cons (.ret (.bl false)) .nil) .nil) (.cons (.setv 6 (.mth a_letters (.loc 3) .nil)) (.cons (.ite (.or (.not (.call f_l_alike (.cons (.loc 6) (.cons (.loc 4) .nil)))) (.cmp .NotEq (.mth a_ledger (.loc 3) .nil) (.lst .nil))) (.cons (.ret (.bl false)) .nil) .nil) (.cons (.exp (.bm .append (.loc 6) (.cons (.str q_more) .nil))) (.cons (.fr true (some 7) [] (.blt .len (.cons (.loc 2) .nil)) (.cons (.setv 8 (.mth a_asking (.loc 3) (.cons (.loc 7) .nil))) (.cons (.ite (.or (.and (.cmp .Is (.idx (.loc 2) (.loc 7)) .non) (.cmp .IsNot (.loc 8) .non)) (.cmp .NotEq (.mth a_answers (.loc 3) (.cons (.loc 7) .nil)) (.lst .nil))) (.cons (.ret (.bl false)) .nil) .nil) (.cons (.ite (.and (.cmp .IsNot (.idx (.loc 2) (.loc 7)) .non) (.not (.call f_l_alike (.cons (.loc 8) (.cons (.idx (.loc 2) (.loc 7)) .nil))))) (.cons (.ret (.bl false)) .nil) .nil) .nil)))) .nil)))))) (.cons (.ret (.call f_l_alike (.cons (.mth a_letters (.loc 3) .nil) (.cons (.loc 4) .nil)))) .nil))))))⟩
def fn_l_brought : Fn := ⟨(2), (8), (.cons (.ite (.cmp .Eq (.idx (.loc 1) (.int 0)) (.str q_answer)) (.cons (.setv 2 (.idx (.idx (.loc 0) (.str q_callers)) (.idx (.loc 1) (.int 1)))) (.cons (.ite (.and (.cmp .IsNot (.idx (.loc 2) (.str q_asked)) .non) (.cmp .Eq (.idx (.idx (.loc 2) (.str q_asked)) (.int 0)) (.idx (.loc 1) (.int 2)))) (.cons (.seti (.loc 2) (.str q_asked) .non) (.cons (.exp (.bm .append (.idx (.loc 2) (.str q_closed)) (.cons (.tup (.cons (.idx (.loc 1) (.int 2)) (.cons (.idx (.loc 1) (.int 3)) .nil))) .nil))) .nil)) .nil) (.cons .ret0 .nil))) .nil) (.cons (.setv 3 (.idx (.idx (.loc 0) (.str q_houses)) (.idx (.loc 1) (.int 1)))) (.cons (.ite (.cmp .Eq (.idx (.loc 1) (.int 0)) (.str q_call)) (.cons (.exp (.call f_l_called (.cons (.loc 3) (.cons (.idx (.loc 1) (.int 2)) (.cons (.idx (.loc 1) (.int 3)) (.cons (.idx (.loc 1) (.int 4)) (.cons (.idx (.loc 1) (.int 5)) .nil))))))) (.cons .ret0 .nil)) .nil) (.cons (.unp [.v 4, .v 5, .v 6, .v 7] (.idx (.idx (.loc 3) (.str q_known)) (.idx (.loc 1) (.int 2)))) (.cons (.ite (.and (.cmp .Eq (.idx (.loc 1) (.int 0)) (.str q_taken)) (.and (.cmp .Eq (.loc 5) (.str q_owed)) (.cmp .Eq (.idx (.loc 1) (.int 3)) (.bin .Add (.loc 4) (.int 1))))) (.cons (.seti (.idx (.loc 3) (.str q_known)) (.idx (.loc 1) (.int 2)) (.tup (.cons (.loc 4) (.cons (.str q_gone) (.cons (.int 0) (.cons (.tup .nil) .nil)))))) .nil) .nil) (.cons (.ite (.cmp .Eq (.idx (.loc 1) (.int 0)) (.str q_parcel)) (.cons (.ite (.cmp .Gt (.idx (.loc 1) (.int 3)) (.loc 4)) (.cons (.seti (.idx (.loc 3) (.str q_known)) (.idx (.loc 1) (.int 2)) (.tup (.cons (.idx (.loc 1) (.int 3)) (.cons (.str q_here) (.cons (.idx (.loc 1) (.int 4)) (.cons (.idx (.loc 1) (.int 5)) .nil)))))) .nil) .nil) (.cons (.exp (.bm .append (.idx (.loc 3) (.str q_laid)) (.cons (.tup (.cons (.str q_taken) (.cons (.bin .Sub (.int 1) (.idx (.loc 1) (.int 1))) (.cons (.idx (.loc 1) (.int 2)) (.cons (.idx (.loc 1) (.int 3)) .nil))))) .nil))) .nil)) .nil) .nil))))))⟩
def fn_l_written : Fn := ⟨(2), (4), (.cons (.unp [.v 2, .v 3] (.call f_l_wrote_k06 (.cons (.idx (.idx (.loc 0) (.str q_houses)) (.loc 1)) .nil))) (.cons (.exp (.bm .extend (.idx (.loc 0) (.str q_post)) (.cons (.loc 2) .nil))) (.cons (.exp (.bm .extend (.idx (.loc 0) (.str q_ledger)) (.cons (.loc 3) .nil))) .nil)))⟩
def fn_l_home : Fn := ⟨(2), (3), (.cons (.fr true (some 2) [] (.int 2) (.cons (.ite (.cmp .Eq (.idx (.idx (.idx (.idx (.idx (.loc 0) (.str q_houses)) (.loc 2)) (.str q_known)) (.loc 1)) (.int 1)) (.str q_here)) (.cons (.ret (.loc 2)) .nil) .nil) .nil)) (.cons (.ret .non) .nil))⟩
def fn_l_owes : Fn := ⟨(3), (4), (.cons (.ret (.lc false (.loc 3) 3 (.loc 2) (.yes (.cmp .Eq (.idx (.idx (.idx (.idx (.idx (.loc 0) (.str q_houses)) (.loc 1)) (.str q_known)) (.loc 3)) (.int 1)) (.str q_owed))))) .nil)⟩
def fn_l_rounds : Fn := ⟨(2), (11), (.cons (.setv 2 (.int 0)) (.cons (.setv 3 (.lc false (.loc 10) 10 (.idx (.loc 0) (.str q_callers)) (.yes (.cmp .IsNot (.idx (.loc 10) (.str q_asked)) .non)))) (.cons (.setv 4 (.bin .Add (.call f_l_owes (.cons (.loc 0) (.cons (.int 0) (.cons (.loc 1) .nil)))) (.call f_l_owes (.cons (.loc 0) (.cons (.int 1) (.cons (.loc 1) .nil)))))) (.cons (.whl (.and (.cmp .Lt (.loc 2) (.int 5)) (.or (.cmp .NotEq (.loc 3) (.lst .nil)) (.cmp .NotEq (.loc 4) (.lst .nil)))) (.cons (.setv 2 (.bin .Add (.loc 2) (.int 1))) (.cons (.exp (.call f_l_written (.cons (.loc 0) (.cons (.int 0) .nil)))) (.cons (.exp (.call f_l_written (.cons (.loc 0) (.cons (.int 1) .nil)))) (.cons (.fr false (some 5) [] (.idx (.loc 0) (.str q_houses)) (.cons (.exp (.bm .extend (.idx (.loc 0) (.str q_post)) (.cons (.call f_l_nudged (.cons (.loc 5) (.cons (.loc 1) .nil))) .nil))) .nil)) (.cons (.fr true (some 6) [] (.blt .len (.cons (.idx (.loc 0) (.str q_callers)) .nil)) (.cons (.setv 7 (.idx (.idx (.idx (.loc 0) (.str q_callers)) (.loc 6)) (.str q_asked))) (.cons (.ite (.cmp .IsNot (.loc 7) .non) (.cons (.exp (.bm .extend (.idx (.loc 0) (.str q_post)) (.cons (.lst (.cons (.bin .Add (.tup (.cons (.str q_call) (.cons (.int 0) (.cons (.loc 6) .nil)))) (.loc 7)) (.cons (.bin .Add (.tup (.cons (.str q_call) (.cons (.int 1) (.cons (.loc 6) .nil)))) (.loc 7)) .nil))) .nil))) .nil) .nil) .nil))) (.cons (.setv 8 (.idx (.loc 0) (.str q_post))) (.cons (.seti (.loc 0) (.str q_post) (.lst .nil)) (.cons (.fr false (some 9) [] (.loc 8) (.cons (.exp (.call f_l_brought (.cons (.loc 0) (.cons (.loc 9) .nil)))) .nil)) (.cons (.setv 3 (.lc false (.loc 10) 10 (.idx (.loc 0) (.str q_callers)) (.yes (.cmp .IsNot (.idx (.loc 10) (.str q_asked)) .non)))) (.cons (.setv 4 (.bin .Add (.call f_l_owes (.cons (.loc 0) (.cons (.int 0) (.cons (.loc 1) .nil)))) (.call f_l_owes (.cons (.loc 0) (.cons (.int 1) (.cons (.loc 1) .nil)))))) .nil))))))))))) (.cons (.ret (.loc 2)) .nil)))))⟩
def fn_l_posted : Fn := ⟨(4), (8), (.cons (.setv 4 (.bin .FloorDiv (.loc 3) (.int 18))) (.cons (.setv 5 (.bin .Mod (.loc 4) (.int 2))) (.cons (.setv 6 (.bin .Mod (.bin .FloorDiv (.loc 4) (.int 2)) (.blt .len (.cons (.idx (.loc 1) (.str q_callers)) .nil)))) (.cons (.setv 7 (.idx (.idx (.loc 1) (.str q_callers)) (.loc 6))) (.cons (.ite (.cmp .IsNot (.idx (.loc 7) (.str q_asked)) .non) (.cons (.exp (.bm .append (.idx (.loc 1) (.str q_post)) (.cons (.bin .Add (.tup (.cons (.str q_call) (.cons (.loc 5) (.cons (.loc 6) .nil)))) (.idx (.loc 7) (.str q_asked))) .nil))) (.cons (.ret (.cmp .Is (.mth a_again (.loc 0) (.cons (.loc 6) (.cons (.loc 5) .nil))) .non)) .nil)) .nil) (.cons (.seti (.loc 7) (.str q_made) (.bin .Add (.idx (.loc 7) (.str q_made)) (.int 1))) (.cons (.seti (.loc 7) (.str q_asked) (.tup (.cons (.idx (.loc 7) (.str q_made)) (.cons (.idx (.loc 2) (.bin .Mod (.bin .FloorDiv (.loc 4) (.int 3)) (.blt .len (.cons (.loc 2) .nil)))) (.cons (.call f_l_wish (.cons (.bin .FloorDiv (.bin .Mult (.bin .Add (.loc 3) (.int 5)) (.int 48271)) (.int 11)) .nil)) .nil))))) (.cons (.exp (.bm .append (.idx (.loc 1) (.str q_post)) (.cons (.bin .Add (.tup (.cons (.str q_call) (.cons (.loc 5) (.cons (.loc 6) .nil)))) (.idx (.loc 7) (.str q_asked))) .nil))) (.cons (.ret (.call f_l_alike (.cons (.mth a_call (.loc 0) (.cons (.loc 6) (.cons (.loc 5) (.cons (.idx (.idx (.loc 7) (.str q_asked)) (.int 1)) (.cons (.idx (.idx (.loc 7) (.str q_asked)) (.int 2)) .nil))))) (.cons (.idx (.loc 7) (.str q_made)) .nil)))) .nil)))))))))⟩
def fn_l_lettered : Fn := ⟨(3), (7), (.cons (.setv 3 (.bin .FloorDiv (.loc 2) (.int 18))) (.cons (.setv 4 (.blt .len (.cons (.idx (.loc 1) (.str q_post)) .nil))) (.cons (.ite (.cmp .Eq (.loc 4) (.int 0)) (.cons (.ret (.bl true)) .nil) .nil) (.cons (.setv 5 (.idx (.lst (.cons (.int 0) (.cons (.bin .Sub (.loc 4) (.int 1)) (.cons (.bin .Mod (.loc 3) (.loc 4)) (.cons (.bin .Mod (.loc 3) (.loc 4)) (.cons (.bin .Mod (.loc 3) (.loc 4)) (.cons (.bin .Mod (.loc 3) (.loc 4)) .nil))))))) (.bin .Sub (.bin .Mod (.loc 2) (.int 18)) (.int 4)))) (.cons (.setv 6 (.idx (.idx (.loc 1) (.str q_post)) (.loc 5))) (.cons (.ite (.cmp .Eq (.bin .Mod (.loc 2) (.int 18)) (.int 8)) (.cons (.exp (.call f_l_brought (.cons (.loc 1) (.cons (.loc 6) .nil)))) (.cons (.ret (.cmp .Is (.mth a_twice (.loc 0) (.cons (.loc 5) .nil)) .non)) .nil)) .nil) (.cons (.exp (.bm .pop (.idx (.loc 1) (.str q_post)) (.cons (.loc 5) .nil))) (.cons (.ite (.cmp .Eq (.bin .Mod (.loc 2) (.int 18)) (.int 9)) (.cons (.ret (.cmp .Is (.mth a_lose (.loc 0) (.cons (.loc 5) .nil)) .non)) .nil) .nil) (.cons (.exp (.call f_l_brought (.cons (.loc 1) (.cons (.loc 6) .nil)))) (.cons (.ret (.cmp .Is (.mth a_hand (.loc 0) (.cons (.loc 5) .nil)) .non)) .nil))))))))))⟩
def fn_l_refused_k11 : Fn := ⟨(4), (7), (.cons (.setv 4 (.bin .Mod (.bin .FloorDiv (.loc 3) (.int 18)) (.blt .len (.cons (.idx (.loc 1) (.str q_callers)) .nil)))) (.cons (.setv 5 (.cmp .Is (.idx (.idx (.idx (.loc 1) (.str q_callers)) (.loc 4)) (.str q_asked)) .non)) (.cons (.setv 6 (.bin .Mod (.bin .FloorDiv (.loc 3) (.int 180)) (.int 5))) (.cons (.trm (.cons (.ite (.and (.cmp .Eq (.loc 6) (.int 0)) (.loc 5)) (.cons (.exp (.mth a_again (.loc 0) (.cons (.loc 4) (.cons (.int 0) .nil)))) .nil) (.cons (.ite (.cmp .Lt (.loc 6) (.int 2)) (.cons (.exp (.mth a_call (.loc 0) (.cons (.loc 4) (.cons (.int 0) (.cons (.idx (.loc 2) (.int 0)) (.cons (.idx (.lst (.cons (.tup (.cons (.str q_get) .nil)) (.cons (.tup (.cons (.str q_set) (.cons .non .nil))) .nil))) (.blt .int (.cons (.loc 5) .nil))) .nil)))))) .nil) (.cons (.ite (.cmp .Eq (.loc 6) (.int 2)) (.cons (.exp (.mth a_hand (.loc 0) (.cons (.blt .len (.cons (.idx (.loc 1) (.str q_post)) .nil)) .nil))) .nil) (.cons (.ite (.cmp .Eq (.loc 6) (.int 3)) (.cons (.exp (.mth a_twice (.loc 0) (.cons (.blt .len (.cons (.idx (.loc 1) (.str q_post)) .nil)) .nil))) .nil) (.cons (.exp (.mth a_lose (.loc 0) (.cons (.neg (.int 1)) .nil))) .nil)) .nil)) .nil)) .nil)) .nil) [(x_Idle, (.and (.cmp .Eq (.loc 6) (.int 0)) (.loc 5))), (x_BadWish, (.and (.cmp .Eq (.loc 6) (.int 1)) (.loc 5))), (x_Busy, (.and (.cmp .Lt (.loc 6) (.int 2)) (.not (.loc 5)))), (x_NoLetter, (.cmp .Gt (.loc 6) (.int 1)))]) (.cons (.ret (.bl false)) .nil)))))⟩
def fn_l_nowhere : Fn := ⟨(2), (2), (.cons (.trm (.cons (.exp (.mth a_move (.loc 0) (.cons (.loc 1) .nil))) .nil) [(x_NotHere, (.bl true))]) (.cons (.ret (.bl false)) .nil))⟩
def fn_l_step_k11 : Fn := ⟨(4), (7), (.cons (.setv 4 (.bin .Mod (.bin .FloorDiv (.loc 3) (.int 18)) (.int 2))) (.cons (.ite (.and (.cmp .Eq (.bin .Mod (.bin .FloorDiv (.loc 3) (.int 36)) (.int 5)) (.int 4)) (.not (.call f_l_refused_k11 (.cons (.loc 0) (.cons (.loc 1) (.cons (.loc 2) (.cons (.loc 3) .nil))))))) (.cons (.ret (.bl false)) .nil) .nil) (.cons (.ite (.cmp .Lt (.bin .Mod (.loc 3) (.int 18)) (.int 4)) (.cons (.ret (.call f_l_posted (.cons (.loc 0) (.cons (.loc 1) (.cons (.loc 2) (.cons (.loc 3) .nil)))))) .nil) .nil) (.cons (.ite (.cmp .Lt (.bin .Mod (.loc 3) (.int 18)) (.int 10)) (.cons (.ret (.call f_l_lettered (.cons (.loc 0) (.cons (.loc 1) (.cons (.loc 3) .nil))))) .nil) .nil) (.cons (.ite (.cmp .Lt (.bin .Mod (.loc 3) (.int 18)) (.int 12)) (.cons (.setv 5 (.idx (.loc 2) (.bin .Mod (.bin .FloorDiv (.loc 3) (.int 18)) (.blt .len (.cons (.loc 2) .nil))))) (.cons (.setv 6 (.call f_l_home (.cons (.loc 1) (.cons (.loc 5) .nil)))) (.cons (.ite (.cmp .Is (.loc 6) .non) (.cons (.ret (.call f_l_nowhere (.cons (.loc 0) (.cons (.loc 5) .nil)))) .nil) .nil) (.cons (.exp (.call f_l_moved (.cons (.idx (.idx (.loc 1) (.str q_houses)) (.loc 6)) (.cons (.loc 5) .nil)))) (.cons (.ret (.cmp .Is (.mth a_move (.loc 0) (.cons (.loc 5) .nil)) .non)) .nil))))) .nil) (.cons (.ite (.cmp .Lt (.bin .Mod (.loc 3) (.int 18)) (.int 15)) (.cons (.exp (.call f_l_written (.cons (.loc 1) (.cons (.loc 4) .nil)))) (.cons (.ret (.cmp .Is (.mth a_write (.loc 0) (.cons (.loc 4) .nil)) .non)) .nil)) .nil) (.cons (.ite (.cmp .Eq (.bin .Mod (.loc 3) (.int 18)) (.int 15)) (.cons (.exp (.call f_l_slept (.cons (.idx (.idx (.loc 1) (.str q_houses)) (.loc 4)) .nil))) (.cons (.ret (.cmp .Is (.mth a_sleep (.loc 0) (.cons (.loc 4) .nil)) .non)) .nil)) .nil) (.cons (.ite (.cmp .Eq (.bin .Mod (.loc 3) (.int 18)) (.int 16)) (.cons (.exp (.bm .extend (.idx (.loc 1) (.str q_post)) (.cons (.call f_l_nudged (.cons (.idx (.idx (.loc 1) (.str q_houses)) (.loc 4)) (.cons (.loc 2) .nil))) .nil))) (.cons (.ret (.cmp .Is (.mth a_nudge (.loc 0) (.cons (.loc 4) .nil)) .non)) .nil)) .nil) (.cons (.ret (.call f_l_alike (.cons (.mth a_settle (.loc 0) .nil) (.cons (.call f_l_rounds (.cons (.loc 1) (.cons (.loc 2) .nil))) .nil)))) .nil)))))))))⟩
def fn_l_told : Fn := ⟨(2), (4), (.cons (.setv 2 (.lst (.cons (.mth a_letters (.loc 0) .nil) (.cons (.mth a_ledger (.loc 0) .nil) (.cons (.mth a_owes (.loc 0) (.cons (.int 0) .nil)) (.cons (.mth a_owes (.loc 0) (.cons (.int 1) .nil)) .nil)))))) (.cons (.ret (.bin .Add (.loc 2) (.lc true (.mth a_answers (.loc 0) (.cons (.loc 3) .nil)) 3 (.loc 1) .no))) .nil))⟩
def fn_l_due_k11 : Fn := ⟨(2), (4), (.cons (.setv 2 (.lst (.cons (.blt .list (.cons (.idx (.loc 0) (.str q_post)) .nil)) (.cons (.blt .list (.cons (.idx (.loc 0) (.str q_ledger)) .nil)) (.cons (.call f_l_owes (.cons (.loc 0) (.cons (.int 0) (.cons (.loc 1) .nil)))) (.cons (.call f_l_owes (.cons (.loc 0) (.cons (.int 1) (.cons (.loc 1) .nil)))) .nil)))))) (.cons (.ret (.bin .Add (.loc 2) (.lc false (.blt .list (.cons (.idx (.loc 3) (.str q_closed)) .nil)) 3 (.idx (.loc 0) (.str q_callers)) .no))) .nil))⟩
def fn_l_stands_k11 : Fn := ⟨(3), (6), (.cons (.fr false (some 3) [] (.loc 2) (.cons (.setv 4 (.call f_l_home (.cons (.loc 1) (.cons (.loc 3) .nil)))) (.cons (.ite (.or (.cmp .NotEq (.mth a_home (.loc 0) (.cons (.loc 3) .nil)) (.loc 4)) (.or (.cmp .NotEq (.mth a_has (.loc 0) (.cons (.int 0) (.cons (.loc 3) .nil))) (.cmp .Eq (.loc 4) (.int 0))) (.cmp .NotEq (.mth a_has (.loc 0) (.cons (.int 1) (.cons (.loc 3) .nil))) (.cmp .Eq (.loc 4) (.int 1))))) (.cons (.ret (.bl false)) .nil) .nil) .nil))) (.cons (.fr true (some 5) [] (.blt .len (.cons (.idx (.loc 1) (.str q_callers)) .nil)) (.cons (.ite (.cmp .NotEq (.mth a_asking (.loc 0) (.cons (.loc 5) .nil)) (.idx (.idx (.idx (.loc 1) (.str q_callers)) (.loc 5)) (.str q_asked))) (.cons (.ret (.bl false)) .nil) .nil) .nil)) (.cons (.ret (.bl true)) .nil)))⟩
def fn_law_k11 : Fn := ⟨(1), (11), (.cons (.setv 1 (.call f_l_keys (.cons (.call f_l_cell_at (.cons (.loc 0) (.cons (.int 0) .nil))) .nil))) (.cons (.setv 2 (.bin .Add (.int 1) (.bin .Mod (.call f_l_cell_at (.cons (.loc 0) (.cons (.int 1) .nil))) (.int 6)))) (.cons (.setv 3 (.make c_World (.cons (.blt .list (.cons (.loc 1) .nil)) (.cons (.loc 2) .nil)))) (.cons (.setv 4 (.disp [q_houses, q_post, q_ledger] (.cons (.lst (.cons (.call f_l_new (.cons (.int 0) (.cons (.loc 1) .nil))) (.cons (.call f_l_new (.cons (.int 1) (.cons (.loc 1) .nil))) .nil))) (.cons (.lst .nil) (.cons (.lst .nil) .nil))))) (.cons (.seti (.loc 4) (.str q_callers) (.lc true (.disp [q_made, q_asked, q_closed] (.cons (.int 0) (.cons .non (.cons (.lst .nil) .nil)))) 10 (.loc 2) .no)) (.cons (.setv 5 (.lst .nil)) (.cons (.setv 6 (.lst .nil)) (.cons (.fr false (some 7) [] (.slc (.loc 0) (.yes (.int 2)) (.yes (.int 42))) (.cons (.ite (.or (.not (.call f_l_step_k11 (.cons (.loc 3) (.cons (.loc 4) (.cons (.loc 1) (.cons (.loc 7) .nil)))))) (.not (.call f_l_stands_k11 (.cons (.loc 3) (.cons (.loc 4) (.cons (.loc 1) .nil)))))) (.cons (.ret (.bl false)) .nil) .nil) (.cons (.setv 8 (.call f_l_due_k11 (.cons (.loc 4) (.cons (.loc 1) .nil)))) (.cons (.ite (.or (.cmp .NotEq (.call f_l_told (.cons (.loc 3) (.cons (.loc 2) .nil))) (.loc 8)) (.cmp .NotEq (.loc 5) (.loc 6))) (.cons (.ret (.bl false)) .nil) .nil) (.cons (.setv 5 (.call f_l_told (.cons (.loc 3) (.cons (.loc 2) .nil)))) (.cons (.fr false (some 9) [] (.bin .Add (.loc 5) (.loc 8)) (.cons (.exp (.bm .append (.loc 9) (.cons (.str q_more) .nil))) .nil)) (.cons (.setv 6 (.loc 8)) .nil))))))) (.cons (.ret (.call f_l_alike (.cons (.call f_l_told (.cons (.loc 3) (.cons (.loc 2) .nil))) (.cons (.call f_l_due_k11 (.cons (.loc 4) (.cons (.loc 1) .nil))) .nil)))) .nil)))))))))⟩
def fn_l_deed : Fn := ⟨(4), (10), (.cons (.setv 4 (.bin .FloorDiv (.loc 3) (.int 16))) (.cons (.setv 5 (.bin .Mod (.loc 4) (.int 2))) (.cons (.setv 6 (.blt .len (.cons (.mth a_letters (.loc 0) .nil) .nil))) (.cons (.ite (.cmp .Lt (.bin .Mod (.loc 3) (.int 16)) (.int 4)) (.cons (.setv 7 (.bin .Mod (.bin .FloorDiv (.loc 4) (.int 2)) (.loc 2))) (.cons (.ite (.cmp .IsNot (.mth a_asking (.loc 0) (.cons (.loc 7) .nil)) .non) (.cons (.exp (.mth a_again (.loc 0) (.cons (.loc 7) (.cons (.loc 5) .nil)))) (.cons (.ret .non) .nil)) .nil) (.cons (.setv 8 (.idx (.loc 1) (.bin .Mod (.bin .FloorDiv (.loc 4) (.int 3)) (.blt .len (.cons (.loc 1) .nil))))) (.cons (.setv 9 (.call f_l_wish (.cons (.bin .FloorDiv (.bin .Mult (.bin .Add (.loc 3) (.int 5)) (.int 48271)) (.int 11)) .nil))) (.cons (.ret (.tup (.cons (.loc 7) (.cons (.mth a_call (.loc 0) (.cons (.loc 7) (.cons (.loc 5) (.cons (.loc 8) (.cons (.loc 9) .nil))))) (.cons (.loc 8) (.cons (.loc 9) .nil)))))) .nil))))) .nil) (.cons (.ite (.and (.cmp .Lt (.bin .Mod (.loc 3) (.int 16)) (.int 8)) (.cmp .Gt (.loc 6) (.int 0))) (.cons (.exp (.mth a_hand (.loc 0) (.cons (.idx (.lst (.cons (.int 0) (.cons (.bin .Sub (.loc 6) (.int 1)) (.cons (.bin .Mod (.loc 4) (.loc 6)) (.cons (.bin .Mod (.loc 4) (.loc 6)) .nil))))) (.bin .Sub (.bin .Mod (.loc 3) (.int 16)) (.int 4))) .nil))) .nil) (.cons (.ite (.and (.cmp .Eq (.bin .Mod (.loc 3) (.int 16)) (.int 8)) (.cmp .Gt (.loc 6) (.int 0))) (.cons (.exp (.mth a_twice (.loc 0) (.cons (.bin .Mod (.loc 4) (.loc 6)) .nil))) .nil) (.cons (.ite (.and (.cmp .Eq (.bin .Mod (.loc 3) (.int 16)) (.int 9)) (.cmp .Gt (.loc 6) (.int 0))) (.cons (.exp (.mth a_lose (.loc 0) (.cons (.bin .Mod (.loc 4) (.loc 6)) .nil))) .nil) (.cons (.ite (.and (.cmp .Eq (.bin .Mod (.loc 3) (.int 16)) (.int 10)) (.cmp .IsNot (.mth a_home (.loc 0) (.cons (.idx (.loc 1) (.bin .Mod (.loc 4) (.blt .len (.cons (.loc 1) .nil)))) .nil)) .non)) (.cons (.exp (.mth a_move (.loc 0) (.cons (.idx (.loc 1) (.bin .Mod (.loc 4) (.blt .len (.cons (.loc 1) .nil)))) .nil))) .nil) (.cons (.ite (.cmp .Eq (.bin .Mod (.loc 3) (.int 16)) (.int 14)) (.cons (.exp (.mth a_sleep (.loc 0) (.cons (.loc 5) .nil))) .nil) (.cons (.ite (.cmp .Eq (.bin .Mod (.loc 3) (.int 16)) (.int 15)) (.cons (.exp (.mth a_nudge (.loc 0) (.cons (.loc 5) .nil))) .nil) (.cons (.ite (.cmp .Gt (.bin .Mod (.loc 3) (.int 16)) (.int 10)) (.cons (.exp (.mth a_write (.loc 0) (.cons (.loc 5) .nil))) .nil) .nil) .nil)) .nil)) .nil)) .nil)) .nil)) .nil)) (.cons (.ret .non) .nil))))))⟩
def fn_l_at_home : Fn := ⟨(2), (5), (.cons (.setv 2 (.lst (.cons (.mth a_has (.loc 0) (.cons (.int 0) (.cons (.loc 1) .nil))) (.cons (.mth a_has (.loc 0) (.cons (.int 1) (.cons (.loc 1) .nil))) .nil)))) (.cons (.setv 3 (.mth a_home (.loc 0) (.cons (.loc 1) .nil))) (.cons (.fr false (some 4) [] (.loc 2) (.cons (.ite (.not (.isi (.loc 4) [.bool])) (.cons (.ret (.bl false)) .nil) .nil) .nil)) (.cons (.ite (.cmp .Eq (.loc 2) (.lst (.cons (.bl true) (.cons (.bl true) .nil)))) (.cons (.ret (.bl false)) .nil) .nil) (.cons (.ite (.cmp .Eq (.loc 2) (.lst (.cons (.bl false) (.cons (.bl false) .nil)))) (.cons (.ret (.and (.cmp .Is (.loc 3) .non) (.or (.cmp .In (.loc 1) (.mth a_owes (.loc 0) (.cons (.int 0) .nil))) (.cmp .In (.loc 1) (.mth a_owes (.loc 0) (.cons (.int 1) .nil)))))) .nil) .nil) (.cons (.ret (.and (.call f_l_whole (.cons (.loc 3) .nil)) (.cmp .Eq (.loc 3) (.blt .int (.cons (.idx (.loc 2) (.int 1)) .nil))))) .nil))))))⟩
def fn_law_k12 : Fn := ⟨(1), (6), (.cons (.setv 1 (.call f_l_keys (.cons (.call f_l_cell_at (.cons (.loc 0) (.cons (.int 0) .nil))) .nil))) (.cons (.setv 2 (.bin .Add (.int 1) (.bin .Mod (.call f_l_cell_at (.cons (.loc 0) (.cons (.int 1) .nil))) (.int 6)))) (.cons (.setv 3 (.make c_World (.cons (.blt .list (.cons (.loc 1) .nil)) (.cons (.loc 2) .nil)))) (.cons (.fr false (some 4) [] (.slc (.loc 0) (.yes (.int 2)) (.yes (.int 62))) (.cons (.exp (.call f_l_deed (.cons (.loc 3) (.cons (.loc 1) (.cons (.loc 2) (.cons (.loc 4) .nil)))))) (.cons (.ite (.not (.blt .all (.cons (.lc false (.call f_l_at_home (.cons (.loc 3) (.cons (.loc 5) .nil))) 5 (.loc 1) .no) .nil))) (.cons (.ret (.bl false)) .nil) .nil) .nil))) (.cons (.ret (.bl true)) .nil)))))⟩
def fn_l_ledger_right : Fn := ⟨(2), (8), (.cons (.setv 2 (.mth a_ledger (.loc 0) .nil)) (.cons (.ite (.not (.isi (.loc 2) [.list])) (.cons (.ret (.bl false)) .nil) .nil) (.cons (.setv 3 (.dnew false)) (.cons (.setv 4 (.lst .nil)) (.cons (.fr false (some 5) [] (.loc 2) (.cons (.ite (.or (.not (.isi (.loc 5) [.tuple])) (.or (.cmp .NotEq (.blt .len (.cons (.loc 5) .nil)) (.int 5)) (.or (.cmp .NotIn (.slc (.loc 5) .no (.yes (.int 4))) (.loc 1)) (.cmp .In (.slc (.loc 5) .no (.yes (.int 2))) (.loc 4))))) (.cons (.ret (.bl false)) .nil) .nil) (.cons (.exp (.bm .append (.loc 4) (.cons (.slc (.loc 5) .no (.yes (.int 2))) .nil))) (.cons (.unp [.v 6, .v 7] (.call f_l_done (.cons (.bm .get (.loc 3) (.cons (.idx (.loc 5) (.int 2)) (.cons (.int 0) .nil))) (.cons (.idx (.loc 5) (.int 3)) .nil)))) (.cons (.seti (.loc 3) (.idx (.loc 5) (.int 2)) (.loc 6)) (.cons (.ite (.not (.call f_l_alike (.cons (.loc 5) (.cons (.bin .Add (.slc (.loc 5) .no (.yes (.int 4))) (.tup (.cons (.loc 7) .nil))) .nil)))) (.cons (.ret (.bl false)) .nil) .nil) .nil)))))) (.cons (.exp (.bm .append (.loc 2) (.cons (.str q_more) .nil))) (.cons (.ret (.cmp .Eq (.blt .len (.cons (.mth a_ledger (.loc 0) .nil) .nil)) (.blt .len (.cons (.loc 4) .nil)))) .nil)))))))⟩
def fn_law_k13 : Fn := ⟨(1), (7), (.cons (.setv 1 (.call f_l_keys (.cons (.call f_l_cell_at (.cons (.loc 0) (.cons (.int 0) .nil))) .nil))) (.cons (.setv 2 (.bin .Add (.int 1) (.bin .Mod (.call f_l_cell_at (.cons (.loc 0) (.cons (.int 1) .nil))) (.int 6)))) (.cons (.setv 3 (.make c_World (.cons (.blt .list (.cons (.loc 1) .nil)) (.cons (.loc 2) .nil)))) (.cons (.setv 4 (.lst .nil)) (.cons (.fr false (some 5) [] (.slc (.loc 0) (.yes (.int 2)) (.yes (.int 32))) (.cons (.exp (.bm .append (.loc 4) (.cons (.call f_l_deed (.cons (.loc 3) (.cons (.loc 1) (.cons (.loc 2) (.cons (.loc 5) .nil))))) .nil))) .nil)) (.cons (.ite (.not (.call f_l_ledger_right (.cons (.loc 3) (.cons (.loc 4) .nil)))) (.cons (.ret (.bl false)) .nil) .nil) (.cons (.setv 6 (.mth a_ledger (.loc 3) .nil)) (.cons (.fr false (some 5) [] (.slc (.loc 0) (.yes (.int 32)) (.yes (.int 62))) (.cons (.exp (.bm .append (.loc 4) (.cons (.call f_l_deed (.cons (.loc 3) (.cons (.loc 1) (.cons (.loc 2) (.cons (.loc 5) .nil))))) .nil))) .nil)) (.cons (.ret (.and (.call f_l_ledger_right (.cons (.loc 3) (.cons (.loc 4) .nil))) (.cmp .Eq (.slc (.mth a_ledger (.loc 3) .nil) .no (.yes (.blt .len (.cons (.loc 6) .nil)))) (.loc 6)))) .nil)))))))))⟩
def fn_l_calls_right : Fn := ⟨(3), (8), (.cons (.setv 3 (.lc false (.loc 7) 7 (.loc 2) (.yes (.cmp .Eq (.idx (.loc 7) (.int 0)) (.loc 1))))) (.cons (.setv 4 (.mth a_answers (.loc 0) (.cons (.loc 1) .nil))) (.cons (.setv 5 (.mth a_asking (.loc 0) (.cons (.loc 1) .nil))) (.cons (.ite (.or (.not (.isi (.loc 4) [.list])) (.cmp .NotEq (.blt .len (.cons (.loc 4) .nil)) (.bin .Sub (.blt .len (.cons (.loc 3) .nil)) (.blt .int (.cons (.cmp .IsNot (.loc 5) .non) .nil))))) (.cons (.ret (.bl false)) .nil) .nil) (.cons (.fr true (some 6) [] (.blt .len (.cons (.loc 3) .nil)) (.cons (.ite (.not (.call f_l_alike (.cons (.idx (.idx (.loc 3) (.loc 6)) (.int 1)) (.cons (.bin .Add (.loc 6) (.int 1)) .nil)))) (.cons (.ret (.bl false)) .nil) .nil) .nil)) (.cons (.fr true (some 6) [] (.blt .len (.cons (.loc 4) .nil)) (.cons (.ite (.or (.not (.isi (.idx (.loc 4) (.loc 6)) [.tuple])) (.not (.call f_l_alike (.cons (.idx (.loc 4) (.loc 6)) (.cons (.tup (.cons (.bin .Add (.loc 6) (.int 1)) (.cons (.idx (.idx (.loc 4) (.loc 6)) (.int 1)) .nil))) .nil))))) (.cons (.ret (.bl false)) .nil) .nil) .nil)) (.cons (.ret (.or (.cmp .Is (.loc 5) .non) (.call f_l_alike (.cons (.loc 5) (.cons (.slc (.idx (.loc 3) (.neg (.int 1))) (.yes (.int 1)) .no) .nil))))) .nil)))))))⟩
def fn_l_closed : Fn := ⟨(2), (6), (.cons (.setv 2 (.lst .nil)) (.cons (.fr true (some 3) [] (.loc 1) (.cons (.fr false none [4, 5] (.mth a_answers (.loc 0) (.cons (.loc 3) .nil)) (.cons (.exp (.bm .append (.loc 2) (.cons (.tup (.cons (.loc 3) (.cons (.loc 4) .nil))) .nil))) .nil)) .nil)) (.cons (.ret (.loc 2)) .nil)))⟩
def fn_l_in_time : Fn := ⟨(4), (11), (.cons (.setv 4 (.dnew true)) (.cons (.setv 5 (.mth a_ledger (.loc 0) .nil)) (.cons (.fr true (some 6) [] (.blt .len (.cons (.loc 5) .nil)) (.cons (.seti (.loc 4) (.slc (.idx (.loc 5) (.loc 6)) .no (.yes (.int 2))) (.loc 6)) .nil)) (.cons (.fr true (some 7) [] (.loc 1) (.cons (.fr false none [8, 9] (.mth a_answers (.loc 0) (.cons (.loc 7) .nil)) (.cons (.ite (.or (.cmp .NotIn (.tup (.cons (.loc 7) (.cons (.loc 8) .nil))) (.loc 4)) (.not (.call f_l_alike (.cons (.idx (.idx (.loc 5) (.idx (.loc 4) (.tup (.cons (.loc 7) (.cons (.loc 8) .nil))))) (.int 4)) (.cons (.loc 9) .nil))))) (.cons (.ret (.bl false)) .nil) .nil) .nil)) .nil)) (.cons (.fr true (some 6) [] (.blt .len (.cons (.loc 2) .nil)) (.cons (.fr false (some 10) [] (.idx (.loc 3) (.loc 6)) (.cons (.ite (.and (.cmp .In (.slc (.idx (.loc 2) (.loc 6)) .no (.yes (.int 2))) (.loc 4)) (.cmp .GtE (.idx (.loc 4) (.loc 10)) (.idx (.loc 4) (.slc (.idx (.loc 2) (.loc 6)) .no (.yes (.int 2)))))) (.cons (.ret (.bl false)) .nil) .nil) .nil)) .nil)) (.cons (.ret (.bl true)) .nil))))))⟩
def fn_law_k14 : Fn := ⟨(1), (10), (.cons (.setv 1 (.call f_l_keys (.cons (.call f_l_cell_at (.cons (.loc 0) (.cons (.int 0) .nil))) .nil))) (.cons (.setv 2 (.bin .Add (.int 1) (.bin .Mod (.call f_l_cell_at (.cons (.loc 0) (.cons (.int 1) .nil))) (.int 6)))) (.cons (.setv 3 (.make c_World (.cons (.blt .list (.cons (.loc 1) .nil)) (.cons (.loc 2) .nil)))) (.cons (.setv 4 (.lst .nil)) (.cons (.setv 5 (.lst .nil)) (.cons (.fr false (some 6) [] (.slc (.loc 0) (.yes (.int 2)) (.yes (.int 62))) (.cons (.setv 7 (.call f_l_closed (.cons (.loc 3) (.cons (.loc 2) .nil)))) (.cons (.setv 8 (.call f_l_deed (.cons (.loc 3) (.cons (.loc 1) (.cons (.loc 2) (.cons (.loc 6) .nil)))))) (.cons (.ite (.cmp .IsNot (.loc 8) .non) (.cons (.exp (.bm .append (.loc 4) (.cons (.loc 8) .nil))) (.cons (.exp (.bm .append (.loc 5) (.cons (.loc 7) .nil))) .nil)) .nil) (.cons (.ite (.not (.blt .all (.cons (.lc true (.call f_l_calls_right (.cons (.loc 3) (.cons (.loc 9) (.cons (.loc 4) .nil)))) 9 (.loc 2) .no) .nil))) (.cons (.ret (.bl false)) .nil) .nil) .nil))))) (.cons (.ret (.call f_l_in_time (.cons (.loc 3) (.cons (.loc 2) (.cons (.loc 4) (.cons (.loc 5) .nil)))))) .nil)))))))⟩
def fn_l_is_settled : Fn := ⟨(2), (3), (.cons (.ite (.or (.cmp .NotEq (.mth a_owes (.loc 0) (.cons (.int 0) .nil)) (.lst .nil)) (.cmp .NotEq (.mth a_owes (.loc 0) (.cons (.int 1) .nil)) (.lst .nil))) (.cons (.ret (.bl false)) .nil) .nil) (.cons (.ret (.cmp .Eq (.lc true (.loc 2) 2 (.loc 1) (.yes (.cmp .IsNot (.mth a_asking (.loc 0) (.cons (.loc 2) .nil)) .non))) (.lst .nil))) .nil))⟩
def fn_l_all_told : Fn := ⟨(4), (11), (.cons (.fr false (some 4) [] (.loc 1) (.cons (.ite (.cmp .Eq (.mth a_has (.loc 0) (.cons (.int 0) (.cons (.loc 4) .nil))) (.mth a_has (.loc 0) (.cons (.int 1) (.cons (.loc 4) .nil)))) (.cons (.ret (.bl false)) .nil) .nil) .nil)) (.cons (.setv 5 (.mth a_ledger (.loc 0) .nil)) (.cons (.setv 6 (.lc false (.loc 9) 9 (.loc 3) (.yes (.cmp .IsNot (.loc 9) .non)))) (.cons (.ite (.cmp .NotEq (.blt .len (.cons (.loc 5) .nil)) (.blt .len (.cons (.loc 6) .nil))) (.cons (.ret (.bl false)) .nil) .nil) (.cons (.fr true (some 7) [] (.loc 2) (.cons (.setv 8 (.lc false (.tup (.cons (.idx (.loc 10) (.int 1)) (.cons (.idx (.loc 10) (.int 4)) .nil))) 10 (.loc 5) (.yes (.cmp .Eq (.idx (.loc 10) (.int 0)) (.loc 7))))) (.cons (.ite (.or (.cmp .NotEq (.mth a_answers (.loc 0) (.cons (.loc 7) .nil)) (.loc 8)) (.cmp .NotEq (.blt .len (.cons (.loc 8) .nil)) (.blt .len (.cons (.lc false (.loc 9) 9 (.loc 6) (.yes (.cmp .Eq (.idx (.loc 9) (.int 0)) (.loc 7)))) .nil)))) (.cons (.ret (.bl false)) .nil) .nil) .nil))) (.cons (.ret (.cmp .Eq (.lc false (.loc 9) 9 (.loc 6) (.yes (.cmp .NotIn (.loc 9) (.lc false (.slc (.loc 10) .no (.yes (.int 4))) 10 (.loc 5) .no)))) (.lst .nil))) .nil))))))⟩
def fn_l_settles : Fn := ⟨(4), (8), (.cons (.setv 4 (.call f_l_is_settled (.cons (.loc 0) (.cons (.loc 2) .nil)))) (.cons (.setv 5 (.mth a_settle (.loc 0) .nil)) (.cons (.ite (.or (.not (.call f_l_whole (.cons (.loc 5) .nil))) (.or (.not (.chn .LtE .LtE (.int 0) (.loc 5) (.int 2))) (.cmp .NotEq (.cmp .Eq (.loc 5) (.int 0)) (.loc 4)))) (.cons (.ret (.bl false)) .nil) .nil) (.cons (.ite (.not (.call f_l_is_settled (.cons (.loc 0) (.cons (.loc 2) .nil)))) (.cons (.ret (.bl false)) .nil) .nil) (.cons (.setv 6 (.mth a_letters (.loc 0) .nil)) (.cons (.setv 7 (.mth a_ledger (.loc 0) .nil)) (.cons (.ite (.or (.cmp .NotEq (.mth a_settle (.loc 0) .nil) (.int 0)) (.or (.cmp .NotEq (.mth a_letters (.loc 0) .nil) (.loc 6)) (.cmp .NotEq (.mth a_ledger (.loc 0) .nil) (.loc 7)))) (.cons (.ret (.bl false)) .nil) .nil) (.cons (.ret (.or (.cmp .Eq (.loc 5) (.int 0)) (.call f_l_all_told (.cons (.loc 0) (.cons (.loc 1) (.cons (.loc 2) (.cons (.loc 3) .nil))))))) .nil))))))))⟩
def fn_law_k15 : Fn := ⟨(1), (6), (.cons (.setv 1 (.call f_l_keys (.cons (.call f_l_cell_at (.cons (.loc 0) (.cons (.int 0) .nil))) .nil))) (.cons (.setv 2 (.bin .Add (.int 1) (.bin .Mod (.call f_l_cell_at (.cons (.loc 0) (.cons (.int 1) .nil))) (.int 6)))) (.cons (.setv 3 (.make c_World (.cons (.blt .list (.cons (.loc 1) .nil)) (.cons (.loc 2) .nil)))) (.cons (.setv 4 (.lst .nil)) (.cons (.fr false (some 5) [] (.slc (.loc 0) (.yes (.int 2)) (.yes (.int 62))) (.cons (.exp (.bm .append (.loc 4) (.cons (.call f_l_deed (.cons (.loc 3) (.cons (.loc 1) (.cons (.loc 2) (.cons (.loc 5) .nil))))) .nil))) .nil)) (.cons (.ite (.not (.call f_l_settles (.cons (.loc 3) (.cons (.loc 1) (.cons (.loc 2) (.cons (.loc 4) .nil)))))) (.cons (.ret (.bl false)) .nil) .nil) (.cons (.fr false (some 5) [] (.slc (.loc 0) (.yes (.int 2)) (.yes (.int 32))) (.cons (.exp (.bm .append (.loc 4) (.cons (.call f_l_deed (.cons (.loc 3) (.cons (.loc 1) (.cons (.loc 2) (.cons (.loc 5) .nil))))) .nil))) .nil)) (.cons (.ret (.call f_l_settles (.cons (.loc 3) (.cons (.loc 1) (.cons (.loc 2) (.cons (.loc 4) .nil)))))) .nil))))))))⟩
end MH
set_option Elab.async false
set_option linter.all false
set_option maxRecDepth 100000
/-! Words for clean readings: values of pure expressions, owned cells, steps. -/
namespace MH
open PySem L2

def oB (o : Option D) (f : D → Option D) : Option D := match o with
  | some d => f d
  | none => none
@[simp] theorem oB_some {d : D} {f : D → Option D} : oB (some d) f = f d := rfl
@[simp] theorem oB_none {f : D → Option D} : oB none f = none := rfl
def pBin (op : Operator) (x y : D) : Option D := match op, x, y with
  | .Add, .int i, .int j => some (.int (i + j))
  | .Add, .str i, .str j => if i.length + j.length ≤ sizeLine then some (.str (i ++ j)) else none
  | .Add, .tup l, .tup m => if l.length + m.length ≤ sizeLine then some (.tup (l ++ m)) else none
  | .Sub, .int i, .int j => some (.int (i - j))
  | .Mult, .int i, .int j => if (Builtin.Int.intBits i ≤ 64 ∨ Builtin.Int.intBits j ≤ 64) ∨ (Builtin.Int.intBits i ≤ 2 ^ 20 ∧ Builtin.Int.intBits j ≤ 2 ^ 20) then some (.int (i * j)) else none
  | .FloorDiv, .int i, .int j => if 0 < j ∧ j < 1073741824 then some (.int (i / j)) else none
  | .Mod, .int i, .int j => if 0 < j then some (.int (i % j)) else none
  | .Pow, .int i, .int j => if 0 ≤ j ∧ (Builtin.Int.intBits i : Int) * j ≤ 2 ^ 27 then some (.int (i ^ j.toNat)) else none
  | _, _, _ => none
def pIn (neg : Bool) (x y : D) (s : S) : Option D := match y with
  | .str z => match x with
    | .str ⟨a⟩ => match a.toList with
      | [c] => some (.bl (if neg then !decide (c ∈ z.cps.toList) else decide (c ∈ z.cps.toList)))
      | _ => none
    | _ => none
  | .ob a => match dGet s a x with
    | some r => some (.bl (if neg then !r.isSome else r.isSome))
    | none => none
  | _ => none
def pInt2 (p : Int → Int → Bool) (x y : D) : Option D := match x, y with
  | .int i, .int j => some (.bl (p i j))
  | _, _ => none
def pIs (neg : Bool) (x y : D) : Option D := match y with
  | .non => some (.bl (if neg then !isNon x else isNon x))
  | .bl b => match x with
    | .bl a => some (.bl (if neg then !decide (a = b) else decide (a = b)))
    | _ => none
  | _ => none
def pCmp (op : CmpOp) (x y : D) (s : S) : Option D := match op with
  | .Eq => (eqS x y).map .bl
  | .NotEq => (eqS x y).map fun b => .bl !b
  | .Lt => pInt2 (fun i j => decide (i < j)) x y
  | .LtE => pInt2 (fun i j => decide (i ≤ j)) x y
  | .Gt => pInt2 (fun i j => decide (j < i)) x y
  | .GtE => pInt2 (fun i j => decide (j ≤ i)) x y
  | .Is => pIs false x y
  | .IsNot => pIs true x y
  | .In => pIn false x y s
  | .NotIn => pIn true x y s
def pIdx (x y : D) (s : S) : Option D := match x with
  | .str z => match y with
    | .int i => if z.length ≤ sizeLine then (atI z.cps.toList i).map fun c => .str ⟨#[c]⟩ else none
    | _ => none
  | .ob a => match s a with
    | some (.lst l) => match y with
      | .int i => atD l i
      | _ => none
    | _ => match dGet s a y with
      | some r => r
      | none => none
  | .tup l => match y with
    | .int i => atD l i
    | _ => none
  | .ro l => match y with
    | .int i => atD l i
    | _ => none
  | _ => none
def pFld (x : D) (f : Nat) (s : S) : Option D := match x with
  | .ob p => match s p with
    | some (.ins _ fs) => fs.lookup f
    | _ => none
  | _ => none
def pLen (x : D) (s : S) : Option D := match x with
  | .str z => if z.length ≤ sizeLine then some (.int z.length) else none
  | x => (seqOf s x).map fun l => .int l.length
def pB (o : Option D) (f : Bool → Option D) : Option D := match o with
  | some (.bl b) => f b
  | _ => none
@[simp] theorem pB_bl {b : Bool} {f : Bool → Option D} : pB (some (.bl b)) f = f b := rfl
def pSlc (x : D) (lo hi : Option Int) : Option D := match x with
  | .str z => if z.length ≤ sizeLine then some (.str (cutS z lo hi)) else none
  | .tup l => some (.tup (cutD l lo hi))
  | _ => none
def pBlt (b : Blt) (xs : List D) (s : S) : Option D := match b, xs with
  | .len, [x] => pLen x s
  | .max, [.int i, .int j] => some (.int (if j > i then j else i))
  | .int, [.int i] => some (.int i)
  | .int, [.bl k] => some (.int (if k then 1 else 0))
  | .abs, [.int i] => some (.int (if i < 0 then -i else i))
  | _, _ => none
def pBm (m : Bm) (x : D) (xs : List D) (s : S) : Option D := match m, x, xs with
  | .get, .ob a, [k, d] => match s a with
    | some (.dK _) => (dGet s a k).map fun r => r.getD d
    | some (.dT _) => (dGet s a k).map fun r => r.getD d
    | _ => none
  | .join, .str z, [.ob a] => match s a with
    | some (.lst l) => match strsD l with
      | some ys => if (ys.map (·.length + z.length)).sum ≤ 16777216 then some (.str (Txt.join z ys)) else none
      | none => none
    | _ => none
  | .upper, .str z, [] => if z.length ≤ 5592405 then some (.str (Txt.upper z)) else none
  | _, _, _ => none
mutual
def evP : Ex → Env → S → Option D
  | .loc i, e, _ => match e[i]? with
    | some (some d) => some d
    | _ => none
  | .int i, _, _ => some (.int i)
  | .str x, _, _ => some (.str x)
  | .bl b, _, _ => some (.bl b)
  | .non, _, _ => some .non
  | .tup es, e, s => match evPs es e s with
    | some ds => if ds.length ≤ 1000 then some (.tup ds) else none
    | none => none
  | .fld a f, e, s => oB (evP a e s) fun x => pFld x f s
  | .idx a b, e, s => oB (evP a e s) fun x => oB (evP b e s) fun y => pIdx x y s
  | .slc a lo hi, e, s => oB (evP a e s) fun x => match evO lo e s with
    | some l => match evO hi e s with
      | some h => pSlc x l h
      | none => none
    | none => none
  | .bin op a b, e, s => oB (evP a e s) fun x => oB (evP b e s) fun y => pBin op x y
  | .neg a, e, s => match evP a e s with
    | some (.int i) => some (.int (-i))
    | _ => none
  | .not a, e, s => pB (evP a e s) fun b => some (.bl !b)
  | .and a b, e, s => pB (evP a e s) fun k => if k = true then pB (evP b e s) fun j => some (.bl j) else some (.bl false)
  | .or a b, e, s => pB (evP a e s) fun k => if k = true then some (.bl true) else pB (evP b e s) fun j => some (.bl j)
  | .ife c a b, e, s => pB (evP c e s) fun k => if k = true then evP a e s else evP b e s
  | .cmp op a b, e, s => oB (evP a e s) fun x => oB (evP b e s) fun y => pCmp op x y s
  | .chn op op' a b c, e, s => oB (evP a e s) fun x => oB (evP b e s) fun y => pB (pCmp op x y s) fun k => if k = true then oB (evP c e s) fun z => pCmp op' y z s else some (.bl false)
  | .blt b es, e, s => match evPs es e s with
    | some ds => pBlt b ds s
    | none => none
  | .bm m o es, e, s => oB (evP o e s) fun x => match evPs es e s with
    | some ds => pBm m x ds s
    | none => none
  | .isi a ts, e, s => oB (evP a e s) fun x => (isTs s x ts).map .bl
  | _, _, _ => none
def evPs : Exs → Env → S → Option (List D)
  | .nil, _, _ => some []
  | .cons a r, e, s => match evP a e s with
    | some d => match evPs r e s with
      | some ds => some (d :: ds)
      | none => none
    | none => none
def evO : Exo → Env → S → Option (Option Int)
  | .no, _, _ => some none
  | .yes a, e, s => match evP a e s with
    | some (.int i) => some (some i)
    | _ => none
end
theorem oB_inv {o : Option D} {f : D → Option D} {d : D} (h : oB o f = some d) : ∃ x, o = some x ∧ f x = some d := by
  cases o with
  | none => cases h
  | some x => exact ⟨x, rfl, h⟩
theorem pB_inv {o : Option D} {f : Bool → Option D} {d : D} (h : pB o f = some d) : ∃ b, o = some (.bl b) ∧ f b = some d := by
  cases o with
  | none => cases h
  | some x => cases x with
    | bl b => exact ⟨b, rfl, h⟩
    | _ => cases h
theorem iteS {α : Type} {c : Prop} [Decidable c] {a d : α} (h : (if c then some a else none) = some d) : c ∧ a = d := by
  by_cases hc : c
  · rw [if_pos hc] at h; exact ⟨hc, Option.some.inj h⟩
  · rw [if_neg hc] at h; cases h
theorem pBin_ok {op : Operator} {x y d : D} {s : S} {Q : K1} (h : pBin op x y = some d) (q : Q d s) : rBin op x y s Q := by
  unfold pBin at h
  split at h
  · cases h; exact q
  · obtain ⟨hc, rfl⟩ := iteS h; exact ⟨hc, q⟩
  · obtain ⟨hc, rfl⟩ := iteS h; exact ⟨hc, q⟩
  · cases h; exact q
  · obtain ⟨hc, rfl⟩ := iteS h; exact ⟨hc, q⟩
  · obtain ⟨hc, rfl⟩ := iteS h; exact ⟨hc, q⟩
  · obtain ⟨hc, rfl⟩ := iteS h; exact ⟨hc, q⟩
  · obtain ⟨hc, rfl⟩ := iteS h; exact ⟨hc, q⟩
  · cases h
theorem pInt2_ok {p : Int → Int → Bool} {x y d : D} {s : S} {Q : K1} (h : pInt2 p x y = some d) (q : Q d s) : rInt2 p x y s Q := by
  unfold pInt2 at h
  split at h
  · cases h; exact q
  · cases h
theorem pIn_ok {neg : Bool} {x y d : D} {s : S} {Q : K1} (h : pIn neg x y s = some d) (q : Q d s) : rIn neg x y s Q := by
  unfold pIn at h
  split at h
  · split at h
    · split at h
      · rename_i z _ a _ c e
        cases h
        refine ⟨c, ?_, q⟩
        congr 2
        exact Array.toList_inj.mp e
      · cases h
    · cases h
  · split at h
    · rename_i e
      cases h
      exact .inl ⟨_, e, q⟩
    · cases h
  · cases h
theorem pIs_ok {neg : Bool} {x y d : D} {s : S} {Q : K1} (h : pIs neg x y = some d) (q : Q d s) : rIs neg x y s Q := by
  unfold pIs at h
  split at h
  · cases h; exact q
  · split at h
    · cases h; exact ⟨_, rfl, q⟩
    · cases h
  · cases h
theorem pCmp_ok {op : CmpOp} {x y d : D} {s : S} {Q : K1} (h : pCmp op x y s = some d) (q : Q d s) : rCmp op x y s Q := by
  cases op with
  | Eq =>
    have h : (eqS x y).map D.bl = some d := h
    show rEq false x y s Q
    unfold rEq
    cases e : eqS x y with
    | none => rw [e] at h; cases h
    | some b => rw [e] at h; cases h; exact q
  | NotEq =>
    have h : (eqS x y).map (fun b => D.bl !b) = some d := h
    show rEq true x y s Q
    unfold rEq
    cases e : eqS x y with
    | none => rw [e] at h; cases h
    | some b => rw [e] at h; cases h; exact q
  | Lt => exact pInt2_ok h q
  | LtE => exact pInt2_ok h q
  | Gt => exact pInt2_ok h q
  | GtE => exact pInt2_ok h q
  | Is => exact pIs_ok h q
  | IsNot => exact pIs_ok h q
  | In => exact pIn_ok h q
  | NotIn => exact pIn_ok h q
theorem pIdx_ok {x y d : D} {s : S} {Q : K1} (h : pIdx x y s = some d) (q : Q d s) : rIdx x y s Q := by
  unfold pIdx at h
  unfold rIdx
  cases x with
  | str z =>
    cases y with
    | int i =>
      by_cases hc : z.length ≤ sizeLine
      · simp only [if_pos hc] at h
        cases e : atI z.cps.toList i with
        | none => rw [e] at h; cases h
        | some c => rw [e] at h; cases h; exact ⟨i, c, rfl, hc, e, q⟩
      · simp only [if_neg hc] at h; cases h
    | _ => cases h
  | tup l =>
    cases y with
    | int i => exact ⟨i, d, rfl, h, q⟩
    | _ => cases h
  | ro l =>
    cases y with
    | int i => exact ⟨i, d, rfl, h, q⟩
    | _ => cases h
  | ob a =>
    simp only at h ⊢
    split at h
    · rename_i l e
      try rw [e]
      cases y with
      | int i => exact ⟨i, d, rfl, h, q⟩
      | _ => cases h
    · rename_i e
      split at h
      · rename_i r e2
        subst h
        first
        | exact ⟨d, e2, q⟩
        | (split
           · rename_i l e3; exact absurd e3 (e l)
           · exact ⟨d, e2, q⟩)
      · cases h
  | _ => cases h
theorem pBlt_ok {b : Blt} {xs : List D} {d : D} {s : S} {Q : K1} (h : pBlt b xs s = some d) (q : Q d s) : rBlt b xs s Q := by
  unfold pBlt at h
  split at h
  · rename_i x
    unfold pLen at h
    split at h
    · obtain ⟨hc, rfl⟩ := iteS h; exact ⟨hc, q⟩
    · rename_i hx
      cases e : seqOf s x with
      | none => rw [e] at h; cases h
      | some l =>
        rw [e] at h; cases h
        cases x with
        | str z => exact absurd rfl (hx z)
        | _ => exact ⟨l, e, q⟩
  · cases h; exact q
  · cases h; exact q
  · cases h; exact q
  · cases h; exact q
  · cases h
theorem pBm_ok {m : Bm} {x : D} {xs : List D} {d : D} {s : S} {Q : K1} (h : pBm m x xs s = some d) (q : Q d s) : bmOk m x s ∧ rBm m x xs s Q := by
  unfold pBm at h
  split at h
  · rename_i a k d'
    split at h
    · rename_i kvs e
      cases e2 : dGet s a k with
      | none => rw [e2] at h; cases h
      | some r => rw [e2] at h; cases h; exact ⟨⟨a, rfl, .inl ⟨kvs, e⟩⟩, r, e2, q⟩
    · rename_i kvs e
      cases e2 : dGet s a k with
      | none => rw [e2] at h; cases h
      | some r => rw [e2] at h; cases h; exact ⟨⟨a, rfl, .inr ⟨kvs, e⟩⟩, r, e2, q⟩
    · cases h
  · rename_i z a
    split at h
    · rename_i l e
      split at h
      · rename_i ys e2
        obtain ⟨hc, rfl⟩ := iteS h
        exact ⟨⟨z, rfl⟩, l, ys, e, e2, hc, q⟩
      · cases h
    · cases h
  · obtain ⟨hc, rfl⟩ := iteS h
    exact ⟨⟨_, rfl⟩, hc, q⟩
  · cases h
section
variable {T : Tab} {C : Nat → List D → S → K1 → XP → Prop} {X : XP} {e : Env} {s : S}
mutual
theorem wE_ev : ∀ {x : Ex} {Q : K1} {d : D}, evP x e s = some d → Q d s → wE T C x e s Q X
  | .loc i, Q, d, h, q => by
    have h : (match e[i]? with | some (some d) => some d | _ => none) = some d := h
    split at h
    · rename_i d' e1
      cases h
      exact ⟨_, e1, q⟩
    · cases h
  | .int i, Q, d, h, q => by cases h; exact q
  | .str i, Q, d, h, q => by cases h; exact q
  | .bl i, Q, d, h, q => by cases h; exact q
  | .non, Q, d, h, q => by cases h; exact q
  | .tup es, Q, d, h, q => by
    have h : (match evPs es e s with | some ds => if ds.length ≤ 1000 then some (D.tup ds) else none | none => none) = some d := h
    split at h
    · rename_i ds e1
      obtain ⟨hc, rfl⟩ := iteS h
      exact wEs_ev e1 ⟨Nat.le_trans hc (by rw [PySem.sizeLine_eq]; decide), q⟩
    · cases h
  | .fld a f, Q, d, h, q => by
    obtain ⟨x, h1, h2⟩ := oB_inv (show oB (evP a e s) (fun x => pFld x f s) = some d from h)
    refine wE_ev (x := a) h1 ?_
    unfold pFld at h2
    split at h2
    · rename_i p
      split at h2
      · rename_i c fs e1
        exact ⟨p, c, fs, d, rfl, e1, h2, q⟩
      · cases h2
    · cases h2
  | .idx a b, Q, d, h, q => by
    obtain ⟨x, h1, h⟩ := oB_inv (show oB (evP a e s) _ = some d from h)
    obtain ⟨y, h2, h⟩ := oB_inv h
    exact wE_ev (x := a) h1 (wE_ev (x := b) h2 (pIdx_ok h q))
  | .slc a lo hi, Q, d, h, q => by
    obtain ⟨x, h1, h⟩ := oB_inv (show oB (evP a e s) _ = some d from h)
    split at h
    · rename_i l e1
      split at h
      · rename_i u e2
        refine wE_ev (x := a) h1 (wO_ev e1 (wO_ev e2 ?_))
        unfold pSlc at h
        split at h
        · obtain ⟨hc, rfl⟩ := iteS h; exact ⟨hc, q⟩
        · cases h; exact q
        · cases h
      · cases h
    · cases h
  | .bin op a b, Q, d, h, q => by
    obtain ⟨x, h1, h⟩ := oB_inv (show oB (evP a e s) _ = some d from h)
    obtain ⟨y, h2, h⟩ := oB_inv h
    exact wE_ev (x := a) h1 (wE_ev (x := b) h2 (pBin_ok h q))
  | .neg a, Q, d, h, q => by
    have h : (match evP a e s with | some (.int i) => some (D.int (-i)) | _ => none) = some d := h
    split at h
    · rename_i i e1
      cases h
      exact wE_ev (x := a) e1 ⟨i, rfl, q⟩
    · cases h
  | .not a, Q, d, h, q => by
    obtain ⟨b, h1, h⟩ := pB_inv (show pB (evP a e s) _ = some d from h)
    cases h
    exact wE_ev (x := a) h1 ⟨b, rfl, q⟩
  | .and a b, Q, d, h, q => by
    obtain ⟨k, h1, h⟩ := pB_inv (show pB (evP a e s) _ = some d from h)
    refine wE_ev (x := a) h1 ⟨k, rfl, ?_⟩
    cases k with
    | true =>
      obtain ⟨j, h2, h⟩ := pB_inv (show pB (evP b e s) _ = some d from h)
      cases h
      exact wE_ev (x := b) h2 ⟨⟨j, rfl⟩, q⟩
    | false => cases h; exact q
  | .or a b, Q, d, h, q => by
    obtain ⟨k, h1, h⟩ := pB_inv (show pB (evP a e s) _ = some d from h)
    refine wE_ev (x := a) h1 ⟨k, rfl, ?_⟩
    cases k with
    | false =>
      obtain ⟨j, h2, h⟩ := pB_inv (show pB (evP b e s) _ = some d from h)
      cases h
      exact wE_ev (x := b) h2 ⟨⟨j, rfl⟩, q⟩
    | true => cases h; exact q
  | .ife c a b, Q, d, h, q => by
    obtain ⟨k, h1, h⟩ := pB_inv (show pB (evP c e s) _ = some d from h)
    refine wE_ev (x := c) h1 ⟨k, rfl, ?_⟩
    cases k with
    | true => exact wE_ev (x := a) h q
    | false => exact wE_ev (x := b) h q
  | .cmp op a b, Q, d, h, q => by
    obtain ⟨x, h1, h⟩ := oB_inv (show oB (evP a e s) _ = some d from h)
    obtain ⟨y, h2, h⟩ := oB_inv h
    exact wE_ev (x := a) h1 (wE_ev (x := b) h2 (pCmp_ok h q))
  | .chn op op' a b c, Q, d, h, q => by
    obtain ⟨x, h1, h⟩ := oB_inv (show oB (evP a e s) _ = some d from h)
    obtain ⟨y, h2, h⟩ := oB_inv h
    obtain ⟨k, h3, h⟩ := pB_inv h
    refine wE_ev (x := a) h1 (wE_ev (x := b) h2 (pCmp_ok h3 ⟨k, rfl, ?_⟩))
    cases k with
    | true =>
      obtain ⟨z, h4, h⟩ := oB_inv (show oB (evP c e s) _ = some d from h)
      exact wE_ev (x := c) h4 (pCmp_ok h q)
    | false => cases h; exact q
  | .blt b es, Q, d, h, q => by
    have h : (match evPs es e s with | some ds => pBlt b ds s | none => none) = some d := h
    split at h
    · rename_i ds e1
      exact wEs_ev e1 (pBlt_ok h q)
    · cases h
  | .bm m o es, Q, d, h, q => by
    obtain ⟨x, h1, h⟩ := oB_inv (show oB (evP o e s) _ = some d from h)
    split at h
    · rename_i ds e1
      obtain ⟨h3, h4⟩ := pBm_ok h q
      exact wE_ev (x := o) h1 ⟨h3, wEs_ev e1 h4⟩
    · cases h
  | .isi a ts, Q, d, h, q => by
    obtain ⟨x, h1, h⟩ := oB_inv (show oB (evP a e s) _ = some d from h)
    cases e1 : isTs s x ts with
    | none => rw [e1] at h; cases h
    | some b => rw [e1] at h; cases h; exact wE_ev (x := a) h1 ⟨b, e1, q⟩
  | .lst es, Q, d, h, q => by cases h
  | .dnew t, Q, d, h, q => by cases h
  | .disp ks es, Q, d, h, q => by cases h
  | .call f es, Q, d, h, q => by cases h
  | .make f es, Q, d, h, q => by cases h
  | .mth f o es, Q, d, h, q => by cases h
  | .isx a c, Q, d, h, q => by cases h
  | .lc r a i it c, Q, d, h, q => by cases h
theorem wEs_ev : ∀ {x : Exs} {Q : List D → S → Prop} {ds : List D}, evPs x e s = some ds → Q ds s → wEs T C x e s Q X
  | .nil, Q, d, h, q => by cases h; exact q
  | .cons a r, Q, d, h, q => by
    have h : (match evP a e s with | some d => (match evPs r e s with | some ds => some (d :: ds) | none => none) | none => none) = some d := h
    split at h
    · rename_i d' e1
      split at h
      · rename_i ds e2
        cases h
        exact wE_ev (x := a) e1 (wEs_ev e2 q)
      · cases h
    · cases h
theorem wO_ev : ∀ {x : Exo} {Q : Option Int → S → Prop} {o : Option Int}, evO x e s = some o → Q o s → wO T C x e s Q X
  | .no, Q, d, h, q => by cases h; exact q
  | .yes a, Q, d, h, q => by
    have h : (match evP a e s with | some (.int i) => some (some i) | _ => none) = some d := h
    split at h
    · rename_i i e1
      cases h
      exact wE_ev (x := a) e1 ⟨i, rfl, q⟩
    · cases h
end
end

/-! ### owned cells -/
abbrev Cell := Addr × O
def Gets (s : S) : List Cell → Prop
  | [] => True
  | c :: L => s c.1 = some c.2 ∧ Gets s L
structure Own (s : S) (L : List Cell) : Prop where
  g : Gets s L
  nd : (L.map (·.1)).Nodup
theorem gets_mem {s : S} : ∀ {L : List Cell}, Gets s L ↔ ∀ c ∈ L, s c.1 = some c.2
  | [] => ⟨fun _ c h => (nomatch h), fun _ => trivial⟩
  | c :: L => by
    unfold Gets
    rw [gets_mem (L := L)]
    simp
theorem Own.nil {s : S} : Own s [] := ⟨trivial, List.nodup_nil⟩
theorem Own.perm {s : S} {L M : List Cell} (o : Own s L) (p : L.Perm M) : Own s M :=
  ⟨gets_mem.mpr fun c h => gets_mem.mp o.g c (p.mem_iff.mpr h), (p.map _).nodup_iff.mp o.nd⟩
theorem Own.tail {s : S} {c : Cell} {L : List Cell} (o : Own s (c :: L)) : Own s L := ⟨o.g.2, (List.nodup_cons.mp o.nd).2⟩
theorem Own.head {s : S} {c : Cell} {L : List Cell} (o : Own s (c :: L)) : s c.1 = some c.2 := o.g.1
theorem Own.mem {s : S} {L : List Cell} (o : Own s L) {a : Addr} {u : O} (h : (a, u) ∈ L) : s a = some u := gets_mem.mp o.g _ h
theorem Own.new {s : S} {L : List Cell} (o : Own s L) {p : Addr} {u : O} (h : s p = none) : Own (up s p u) ((p, u) :: L) := by
  have hn : p ∉ L.map (·.1) := fun hm => by
    obtain ⟨c, hc, e⟩ := List.mem_map.mp hm
    have := gets_mem.mp o.g c hc
    rw [e, h] at this; cases this
  refine ⟨⟨up_same, gets_mem.mpr fun c hc => ?_⟩, List.nodup_cons.mpr ⟨hn, o.nd⟩⟩
  rw [up_ne (fun e => hn (List.mem_map.mpr ⟨c, hc, e⟩))]
  exact gets_mem.mp o.g c hc
/-- the cell in front is changed -/
theorem Own.set {s : S} {L : List Cell} {p : Addr} {u u' : O} (o : Own s ((p, u) :: L)) : Own (up s p u') ((p, u') :: L) := by
  have h := List.nodup_cons.mp o.nd
  refine ⟨⟨up_same, gets_mem.mpr fun c hc => ?_⟩, List.nodup_cons.mpr h⟩
  rw [up_ne (fun e => h.1 (List.mem_map.mpr ⟨c, hc, e⟩))]
  exact gets_mem.mp o.g.2 c hc
/-- a cell somewhere is changed -/
inductive Repl (p : Addr) (u u' : O) : List Cell → List Cell → Prop where
  | here {L : List Cell} : Repl p u u' ((p, u) :: L) ((p, u') :: L)
  | there {c : Cell} {L M : List Cell} : Repl p u u' L M → Repl p u u' (c :: L) (c :: M)
theorem Repl.keys {p : Addr} {u u' : O} {L M : List Cell} (r : Repl p u u' L M) : M.map (·.1) = L.map (·.1) := by
  induction r with
  | here => rfl
  | there _ ih => simp [ih]
theorem Repl.mem {p : Addr} {u u' : O} {L M : List Cell} (r : Repl p u u' L M) : (p, u) ∈ L := by
  induction r with
  | here => exact List.mem_cons_self
  | there _ ih => exact List.mem_cons_of_mem _ ih
theorem Own.repl {s : S} {p : Addr} {u u' : O} {L M : List Cell} (o : Own s L) (r : Repl p u u' L M) : Own (up s p u') M := by
  induction r with
  | here => exact o.set
  | @there c L M r ih =>
    have h := List.nodup_cons.mp o.nd
    have ne : c.1 ≠ p := fun e => h.1 (List.mem_map.mpr ⟨_, r.mem, e.symm⟩)
    have i := ih o.tail
    exact ⟨⟨by rw [up_ne ne]; exact o.head, i.g⟩, List.nodup_cons.mpr ⟨by rw [r.keys]; exact h.1, i.nd⟩⟩
/-- only more is known -/
def Ext (s s' : S) : Prop := ∀ a o, s a = some o → s' a = some o
theorem Ext.refl (s : S) : Ext s s := fun _ _ h => h
theorem Ext.trans {s s1 s2 : S} (a : Ext s s1) (b : Ext s1 s2) : Ext s s2 := fun x o h => b x o (a x o h)
theorem Ext.new {s : S} {p : Addr} {o : O} (h : s p = none) : Ext s (up s p o) := fun a u e => by
  rw [up_ne (fun q => by rw [q, h] at e; cases e)]; exact e
theorem Own.ext {s s' : S} {L : List Cell} (o : Own s L) (x : Ext s s') : Own s' L := ⟨gets_mem.mpr fun c h => x _ _ (gets_mem.mp o.g c h), o.nd⟩
theorem Ext.dGet {s s' : S} (x : Ext s s') {a : Addr} {k : D} {r : Option D} (h : dGet s a k = some r) : MH.dGet s' a k = some r := by
  unfold MH.dGet at h ⊢
  cases e : s a with
  | none => rw [e] at h; cases h
  | some o => rw [x a o e]; rw [e] at h; exact h
mutual
theorem Snap.ext {s s' : S} (x : Ext s s') : ∀ {d : D} {p : PyData}, Snap s d p → Snap s' d p
  | _, _, .non => .non
  | _, _, .bl b => .bl b
  | _, _, .int b => .int b
  | _, _, .str b => .str b
  | _, _, .tup h => .tup (Snaps.ext x h)
  | _, _, .lst h1 h2 => .lst (x _ _ h1) (Snaps.ext x h2)
theorem Snaps.ext {s s' : S} (x : Ext s s') : ∀ {d : List D} {p : List PyData}, Snaps s d p → Snaps s' d p
  | _, _, .nil => .nil
  | _, _, .cons h1 h2 => .cons (Snap.ext x h1) (Snaps.ext x h2)
end
end MH
set_option Elab.async false
set_option linter.all false
set_option maxRecDepth 100000
/-! Steps of the walk. -/
namespace MH
open PySem L2
section
variable {T : Tab} {C : Nat → List D → S → K1 → XP → Prop}
theorem wSs_cons {a : Sm} {r : Sms} {e : Env} {s : S} {N : Env → S → Prop} {R : K1} {X : XE}
    (h : ∀ N' : Env → S → Prop, (∀ e1 s1, wSs T C r e1 s1 N R X → N' e1 s1) → wS T C a e s N' R X) : wSs T C (.cons a r) e s N R X :=
  h _ fun _ _ h => h
end
theorem up_app {s : S} {p q : Addr} {o : O} : up s p o q = if q = p then some o else s q := rfl
@[simp] theorem up_same' {s : S} {p : Addr} {o : O} : up s p o p = some o := up_same
theorem wFor_inv {f : Env → S → (Env → S → Prop) → Prop} {ok : S → Prop} {t : Option Nat} {ts : List Nat} {N : Env → S → Prop} {l : List D} {e : Env} {s : S}
    (I : List D → Env → S → Prop) (h0 : I [] e s)
    (hs : ∀ pre x post e s (K : Env → S → Prop), l = pre ++ x :: post → I pre e s → (∀ e' s', I (pre ++ [x]) e' s' → K e' s') → ok s ∧ ∃ e1, bindT t ts x e = some e1 ∧ f e1 s K)
    (hN : ∀ e s, I l e s → ok s ∧ N e s) : wFor f ok t ts l e s N := by
  suffices ∀ (post pre : List D) e s, l = pre ++ post → I pre e s → wFor f ok t ts post e s N from this l [] e s rfl h0
  intro post
  induction post with
  | nil => intro pre e s hl hi; rw [List.append_nil] at hl; subst hl; exact hN e s hi
  | cons x post ih =>
    intro pre e s hl hi
    exact hs pre x post e s _ hl hi fun e2 s2 h => ih (pre ++ [x]) e2 s2 (by rw [hl]; simp) h
theorem wFor_map {α : Type} {f : Env → S → (Env → S → Prop) → Prop} {ok : S → Prop} {t : Option Nat} {ts : List Nat} {N : Env → S → Prop} (as : List α) (g : α → D) {e : Env} {s : S}
    (I : List α → Env → S → Prop) (h0 : I [] e s)
    (hs : ∀ pre x post e s (K : Env → S → Prop), as = pre ++ x :: post → I pre e s → (∀ e' s', I (pre ++ [x]) e' s' → K e' s') → ok s ∧ ∃ e1, bindT t ts (g x) e = some e1 ∧ f e1 s K)
    (hN : ∀ e s, I as e s → ok s ∧ N e s) : wFor f ok t ts (as.map g) e s N := by
  suffices ∀ (post pre : List α) e s, as = pre ++ post → I pre e s → wFor f ok t ts (post.map g) e s N from this as [] e s rfl h0
  intro post
  induction post with
  | nil => intro pre e s hl hi; rw [List.append_nil] at hl; subst hl; exact hN e s hi
  | cons x post ih =>
    intro pre e s hl hi
    exact hs pre x post e s _ hl hi fun e2 s2 h => ih (pre ++ [x]) e2 s2 (by rw [hl]; simp) h
theorem wItems_inv {f : D → S → (Option D → S → Prop) → Prop} {ok : S → Prop} {Q : List D → S → Prop} {l : List D} {s : S}
    (I : List D → List D → S → Prop) (h0 : I [] [] s)
    (hs : ∀ pre x post acc s (K : Option D → S → Prop), l = pre ++ x :: post → I pre acc s →
      (∀ d s', I (pre ++ [x]) (acc ++ [d]) s' → K (some d) s') → (∀ s', I (pre ++ [x]) acc s' → K none s') → ok s ∧ f x s K)
    (hN : ∀ acc s, I l acc s → ok s ∧ Q acc s) : wItems f ok l [] s Q := by
  suffices ∀ (post pre acc : List D) s, l = pre ++ post → I pre acc s → wItems f ok post acc s Q from this l [] [] s rfl h0
  intro post
  induction post with
  | nil => intro pre acc s hl hi; rw [List.append_nil] at hl; subst hl; exact hN acc s hi
  | cons x post ih =>
    intro pre acc s hl hi
    refine hs pre x post acc s _ hl hi (fun d s2 h => ?_) fun s2 h => ?_
    · exact ih (pre ++ [x]) (acc ++ [d]) s2 (by rw [hl]; simp) h
    · exact ih (pre ++ [x]) acc s2 (by rw [hl]; simp) h
/-- each item gives one element, and only more is known -/
theorem wItems_map {α : Type} {f : D → S → (Option D → S → Prop) → Prop} {ok : S → Prop} {Q : List D → S → Prop} (as : List α) (g h : α → D) {s : S}
    (hk : ∀ s', Ext s s' → ok s')
    (hs : ∀ a s' (K : Option D → S → Prop), a ∈ as → Ext s s' → (∀ s2, Ext s' s2 → K (some (h a)) s2) → f (g a) s' K)
    (hN : ∀ s', Ext s s' → Q (as.map h) s') : wItems f ok (as.map g) [] s Q := by
  suffices ∀ (post pre : List α) s', as = pre ++ post → Ext s s' → wItems f ok (post.map g) (pre.map h) s' Q from this as [] s rfl (Ext.refl s)
  intro post
  induction post with
  | nil => intro pre s' hl hi; rw [List.append_nil] at hl; subst hl; exact ⟨hk _ hi, hN _ hi⟩
  | cons x post ih =>
    intro pre s' hl hi
    refine ⟨hk _ hi, hs x s' _ (by rw [hl]; simp) hi fun s2 h2 => ?_⟩
    have := ih (pre ++ [x]) s2 (by rw [hl]; simp) (hi.trans h2)
    rw [List.map_append] at this
    exact this
/-- each item gives one element or none -/
theorem wItems_fil {α : Type} {f : D → S → (Option D → S → Prop) → Prop} {ok : S → Prop} {Q : List D → S → Prop} (as : List α) (g : α → D) (h : α → Option D) {s : S}
    (hk : ∀ s', Ext s s' → ok s')
    (hs : ∀ a s' (K : Option D → S → Prop), a ∈ as → Ext s s' → (∀ s2, Ext s' s2 → K (h a) s2) → f (g a) s' K)
    (hN : ∀ s', Ext s s' → Q (as.filterMap h) s') : wItems f ok (as.map g) [] s Q := by
  suffices ∀ (post pre : List α) s', as = pre ++ post → Ext s s' → wItems f ok (post.map g) (pre.filterMap h) s' Q from this as [] s rfl (Ext.refl s)
  intro post
  induction post with
  | nil => intro pre s' hl hi; rw [List.append_nil] at hl; subst hl; exact ⟨hk _ hi, hN _ hi⟩
  | cons x post ih =>
    intro pre s' hl hi
    refine ⟨hk _ hi, hs x s' _ (by rw [hl]; simp) hi fun s2 h2 => ?_⟩
    have := ih (pre ++ [x]) s2 (by rw [hl]; simp) (hi.trans h2)
    rw [List.filterMap_append] at this
    cases e : h x with
    | none => simp only [e, List.filterMap_cons, List.filterMap_nil, List.append_nil] at this; exact this
    | some d => simp only [e, List.filterMap_cons, List.filterMap_nil] at this; exact this
theorem Own.newX {s s' : S} {L : List Cell} (o : Own s L) {p : Addr} {u : O} (h : s p = none) (x : Ext s s') (e : s' p = some u) : Own s' ((p, u) :: L) := by
  have hn : p ∉ L.map (·.1) := fun hm => by
    obtain ⟨c, hc, e⟩ := List.mem_map.mp hm
    have := gets_mem.mp o.g c hc
    rw [e, h] at this; cases this
  exact ⟨⟨e, (o.ext x).g⟩, List.nodup_cons.mpr ⟨hn, o.nd⟩⟩
theorem Ext.upn {s s1 : S} {p : Addr} {o : O} (x : Ext s s1) (h : s p = none) : Ext s (MH.up s1 p o) := fun a u e => by
  rw [up_ne (fun q => by rw [q, h] at e; cases e)]; exact x a u e
theorem Ext.no {s s1 : S} {p : Addr} (x : Ext s s1) (h : s1 p = none) : s p = none := by
  cases e : s p with
  | none => rfl
  | some o => rw [x p o e] at h; cases h
/-- counting cells -/
noncomputable def cnt (a : Cell) : List Cell → Nat
  | [] => 0
  | c :: L => (@ite Nat (c = a) (Classical.propDecidable _) 1 0) + cnt a L
noncomputable def one (a c : Cell) : Nat := @ite Nat (c = a) (Classical.propDecidable _) 1 0
theorem cnt_nil {a : Cell} : cnt a [] = 0 := rfl
theorem cnt_cons {a c : Cell} {L : List Cell} : cnt a (c :: L) = one a c + cnt a L := rfl
theorem cnt_app {a : Cell} {L M : List Cell} : cnt a (L ++ M) = cnt a L + cnt a M := by
  induction L with
  | nil => show cnt a M = 0 + cnt a M; omega
  | cons c L ih => rw [List.cons_append, cnt_cons, cnt_cons, ih, Nat.add_assoc]
theorem cnt_count {a : Cell} {L : List Cell} [DecidableEq Cell] : cnt a L = List.count a L := by
  induction L with
  | nil => rfl
  | cons c L ih =>
    rw [cnt_cons, ih, List.count_cons, one]
    by_cases h : c = a
    · simp [h]; omega
    · simp [h]
theorem Own.mv {s : S} {L M : List Cell} (o : Own s L) (h : ∀ a, cnt a L = cnt a M) : Own s M := by
  classical
  exact o.perm ((@List.perm_iff_count Cell instBEqOfDecidableEq inferInstance L M).mpr fun a => by have := h a; rw [cnt_count, cnt_count] at this; exact this)
theorem Own.swap {s : S} {a b : Cell} {L : List Cell} (o : Own s (a :: b :: L)) : Own s (b :: a :: L) := o.perm (List.Perm.swap _ _ _)
theorem Own.shift {s : S} {a : Cell} {L M : List Cell} (o : Own s (a :: (L ++ M))) : Own s (L ++ (a :: M)) := o.perm List.perm_middle.symm
theorem Own.unshift {s : S} {a : Cell} {L M : List Cell} (o : Own s (L ++ (a :: M))) : Own s (a :: (L ++ M)) := o.perm List.perm_middle
/-- forgetting cells -/
theorem Own.drop {s : S} {L M : List Cell} (o : Own s (L ++ M)) : Own s M := by
  induction L with
  | nil => exact o
  | cons c L ih => exact ih o.tail
theorem gets_app {s : S} : ∀ {L M : List Cell}, Gets s (L ++ M) ↔ Gets s L ∧ Gets s M
  | [], M => by simp [Gets]
  | c :: L, M => by
    show (s c.1 = some c.2 ∧ Gets s (L ++ M)) ↔ (s c.1 = some c.2 ∧ Gets s L) ∧ Gets s M
    rw [gets_app (L := L) (M := M)]; exact and_assoc.symm
@[simp] theorem le_line {n : Nat} : n ≤ sizeLine ↔ n ≤ 16777216 := by rw [PySem.sizeLine_eq]
@[simp] theorem lt_line {n : Nat} : n < sizeLine ↔ n < 16777216 := by rw [PySem.sizeLine_eq]
theorem mul_r {i j : Int} (h : Builtin.Int.intBits j ≤ 64) : mulOk i j := .inl (.inr h)
theorem mul_l {i j : Int} (h : Builtin.Int.intBits i ≤ 64) : mulOk i j := .inl (.inl h)
@[simp] theorem mul_48271 {i : Int} : mulOk i 48271 := mul_r (by decide)
@[simp] theorem mul_2 {i : Int} : mulOk 2 i := mul_l (by decide)
@[simp] theorem mul_5 {i : Int} : mulOk 5 i := mul_l (by decide)
@[simp] theorem bits_10 : Builtin.Int.intBits 10 = 4 := by decide
end MH
set_option Elab.async false
set_option linter.all false
set_option maxRecDepth 100000
/-! Step equations (printed by genw3.py). -/
namespace MH
open PySem L2
def alloc (s : S) (o : O) (Q : K1) : Prop := ∀ p, s p = none → Q (.ob p) (up s p o)
def ifB (d : D) (A B : Prop) : Prop := ∃ k, d = .bl k ∧ if k = true then A else B
@[simp ↓] theorem ifB_bl {b : Bool} {A B : Prop} : ifB (.bl b) A B = if b = true then A else B := propext ⟨fun ⟨k, h, q⟩ => by cases h; exact q, fun q => ⟨b, rfl, q⟩⟩
def boolQ (Q : K1) : K1 := fun y s => (∃ j, y = .bl j) ∧ Q y s
@[simp ↓] theorem boolQ_bl {b : Bool} {Q : K1} {s : S} : boolQ Q (.bl b) s = Q (.bl b) s := propext ⟨fun h => h.2, fun h => ⟨⟨b, rfl⟩, h⟩⟩
def notQ (Q : K1) : K1 := fun x s => ∃ b, x = .bl b ∧ Q (.bl (!b)) s
@[simp ↓] theorem notQ_bl {b : Bool} {Q : K1} {s : S} : notQ Q (.bl b) s = Q (.bl !b) s := propext ⟨fun ⟨k, h, q⟩ => by cases h; exact q, fun q => ⟨b, rfl, q⟩⟩
def negQ (Q : K1) : K1 := fun x s => ∃ b, x = .int b ∧ Q (.int (-b)) s
@[simp ↓] theorem negQ_int {b : Int} {Q : K1} {s : S} : negQ Q (.int b) s = Q (.int (-b)) s := propext ⟨fun ⟨k, h, q⟩ => by cases h; exact q, fun q => ⟨b, rfl, q⟩⟩
def look : List (Nat × D) → Nat → (D → Prop) → Prop
  | [], _, _ => False
  | (g, w) :: r, f, k => if g = f then k w else look r f k
@[simp ↓] theorem look_cons {g f : Nat} {w : D} {r : List (Nat × D)} {k : D → Prop} : look ((g, w) :: r) f k = if g = f then k w else look r f k := rfl
theorem look_ok : ∀ {fs : List (Nat × D)} {f : Nat} {k : D → Prop}, look fs f k ↔ ∃ v, fs.lookup f = some v ∧ k v
  | [], f, k => by simp [look]
  | (g, w) :: r, f, k => by
    rw [look_cons, List.lookup_cons]
    by_cases h : g = f
    · subst h; simp
    · have : (f == g) = false := by simp; exact fun e => h e.symm
      rw [if_neg h, this]; exact look_ok
def fldQ (f : Nat) (Q : K1) : K1 := fun x s => ∃ p c fs v, x = .ob p ∧ s p = some (.ins c fs) ∧ fs.lookup f = some v ∧ Q v s
theorem fldQ_of {f : Nat} {Q : K1} {s : S} {p : Addr} {c : Nat} {fs : List (Nat × D)} (h : s p = some (.ins c fs)) : fldQ f Q (.ob p) s = look fs f fun v => Q v s :=
  propext ⟨fun ⟨p', c', fs', v, h1, h2, h3, h4⟩ => by cases h1; rw [h] at h2; cases h2; exact look_ok.mpr ⟨v, h3, h4⟩, fun h1 => by
    obtain ⟨v, h2, h3⟩ := look_ok.mp h1; exact ⟨p, c, fs, v, rfl, h, h2, h3⟩⟩
def mthQ (T : Tab) (m : Nat) (k : Nat → S → Prop) : K1 := fun x s => ∃ p c fs f, x = .ob p ∧ s p = some (.ins c fs) ∧ fs.lookup m = none ∧ T.meth c m = some f ∧ k f s
theorem mthQ_of {T : Tab} {m : Nat} {k : Nat → S → Prop} {s : S} {p : Addr} {c f : Nat} {fs : List (Nat × D)} (h : s p = some (.ins c fs)) (hm : T.meth c m = some f) (hl : fs.lookup m = none) : mthQ T m k (.ob p) s = k f s :=
  propext ⟨fun ⟨p', c', fs', v, h1, h2, h3, h4, h5⟩ => by cases h1; rw [h] at h2; cases h2; rw [hm] at h4; cases h4; exact h5, fun h1 => ⟨p, c, fs, f, rfl, h, hl, hm, h1⟩⟩
def setfQ (T : Tab) (f : Nat) (d : D) (K : S → Prop) : K1 := fun x s => ∃ p c fs, x = .ob p ∧ s p = some (.ins c fs) ∧ T.fld c f = true ∧ fs.length < 1000 ∧ K (up s p (.ins c (putA f d fs)))
theorem setfQ_of {T : Tab} {f : Nat} {d : D} {K : S → Prop} {s : S} {p : Addr} {c : Nat} {fs : List (Nat × D)} (h : s p = some (.ins c fs)) :
    setfQ T f d K (.ob p) s = (T.fld c f = true ∧ fs.length < 1000 ∧ K (up s p (.ins c (putA f d fs)))) :=
  propext ⟨fun ⟨p', c', fs', h1, h2, h3, h4, h5⟩ => by cases h1; rw [h] at h2; cases h2; exact ⟨h3, h4, h5⟩, fun ⟨h1, h2, h3⟩ => ⟨p, c, fs, rfl, h, h1, h2, h3⟩⟩
theorem seq_of {s : S} {p : Addr} {l : List D} (h : s p = some (.lst l)) : seqOf s (.ob p) = some l := by
  show (match s p with | some (.lst l) => some l | _ => none) = some l
  rw [h]
def putQ (K : D → Prop) (o : Option D) : Prop := ∃ v, o = some v ∧ K v
@[simp] theorem putQ_some {K : D → Prop} {v : D} : putQ K (some v) = K v := propext ⟨fun ⟨w, h, q⟩ => by cases h; exact q, fun q => ⟨v, rfl, q⟩⟩
section
variable {T : Tab} {C : Nat → List D → S → K1 → XP → Prop} {e : Env} {s : S} {Q : K1} {X : XP} {N : Env → S → Prop} {R : K1} {Y : XE}

@[simp ↓] theorem wE_loc0 {d : D} : wE T C (.loc 0) (some d :: e) s Q X = Q d s := propext ⟨fun ⟨_, h, q⟩ => by cases h; exact q, fun q => ⟨d, rfl, q⟩⟩
@[simp ↓] theorem wS_setv0 {y : Option D} {a : Ex} : wS T C (.setv 0 a) (y :: e) s N R Y = wE T C a (y :: e) s (fun d s1 => N (some d :: e) s1) (fun c => Y c (y :: e)) := rfl
@[simp ↓] theorem wE_loc1 {x0 : Option D} {d : D} : wE T C (.loc 1) (x0 :: some d :: e) s Q X = Q d s := propext ⟨fun ⟨_, h, q⟩ => by cases h; exact q, fun q => ⟨d, rfl, q⟩⟩
@[simp ↓] theorem wS_setv1 {x0 : Option D} {y : Option D} {a : Ex} : wS T C (.setv 1 a) (x0 :: y :: e) s N R Y = wE T C a (x0 :: y :: e) s (fun d s1 => N (x0 :: some d :: e) s1) (fun c => Y c (x0 :: y :: e)) := rfl
@[simp ↓] theorem wE_loc2 {x0 x1 : Option D} {d : D} : wE T C (.loc 2) (x0 :: x1 :: some d :: e) s Q X = Q d s := propext ⟨fun ⟨_, h, q⟩ => by cases h; exact q, fun q => ⟨d, rfl, q⟩⟩
@[simp ↓] theorem wS_setv2 {x0 x1 : Option D} {y : Option D} {a : Ex} : wS T C (.setv 2 a) (x0 :: x1 :: y :: e) s N R Y = wE T C a (x0 :: x1 :: y :: e) s (fun d s1 => N (x0 :: x1 :: some d :: e) s1) (fun c => Y c (x0 :: x1 :: y :: e)) := rfl
@[simp ↓] theorem wE_loc3 {x0 x1 x2 : Option D} {d : D} : wE T C (.loc 3) (x0 :: x1 :: x2 :: some d :: e) s Q X = Q d s := propext ⟨fun ⟨_, h, q⟩ => by cases h; exact q, fun q => ⟨d, rfl, q⟩⟩
@[simp ↓] theorem wS_setv3 {x0 x1 x2 : Option D} {y : Option D} {a : Ex} : wS T C (.setv 3 a) (x0 :: x1 :: x2 :: y :: e) s N R Y = wE T C a (x0 :: x1 :: x2 :: y :: e) s (fun d s1 => N (x0 :: x1 :: x2 :: some d :: e) s1) (fun c => Y c (x0 :: x1 :: x2 :: y :: e)) := rfl
@[simp ↓] theorem wE_loc4 {x0 x1 x2 x3 : Option D} {d : D} : wE T C (.loc 4) (x0 :: x1 :: x2 :: x3 :: some d :: e) s Q X = Q d s := propext ⟨fun ⟨_, h, q⟩ => by cases h; exact q, fun q => ⟨d, rfl, q⟩⟩
@[simp ↓] theorem wS_setv4 {x0 x1 x2 x3 : Option D} {y : Option D} {a : Ex} : wS T C (.setv 4 a) (x0 :: x1 :: x2 :: x3 :: y :: e) s N R Y = wE T C a (x0 :: x1 :: x2 :: x3 :: y :: e) s (fun d s1 => N (x0 :: x1 :: x2 :: x3 :: some d :: e) s1) (fun c => Y c (x0 :: x1 :: x2 :: x3 :: y :: e)) := rfl
@[simp ↓] theorem wE_loc5 {x0 x1 x2 x3 x4 : Option D} {d : D} : wE T C (.loc 5) (x0 :: x1 :: x2 :: x3 :: x4 :: some d :: e) s Q X = Q d s := propext ⟨fun ⟨_, h, q⟩ => by cases h; exact q, fun q => ⟨d, rfl, q⟩⟩
@[simp ↓] theorem wS_setv5 {x0 x1 x2 x3 x4 : Option D} {y : Option D} {a : Ex} : wS T C (.setv 5 a) (x0 :: x1 :: x2 :: x3 :: x4 :: y :: e) s N R Y = wE T C a (x0 :: x1 :: x2 :: x3 :: x4 :: y :: e) s (fun d s1 => N (x0 :: x1 :: x2 :: x3 :: x4 :: some d :: e) s1) (fun c => Y c (x0 :: x1 :: x2 :: x3 :: x4 :: y :: e)) := rfl
@[simp ↓] theorem wE_loc6 {x0 x1 x2 x3 x4 x5 : Option D} {d : D} : wE T C (.loc 6) (x0 :: x1 :: x2 :: x3 :: x4 :: x5 :: some d :: e) s Q X = Q d s := propext ⟨fun ⟨_, h, q⟩ => by cases h; exact q, fun q => ⟨d, rfl, q⟩⟩
@[simp ↓] theorem wS_setv6 {x0 x1 x2 x3 x4 x5 : Option D} {y : Option D} {a : Ex} : wS T C (.setv 6 a) (x0 :: x1 :: x2 :: x3 :: x4 :: x5 :: y :: e) s N R Y = wE T C a (x0 :: x1 :: x2 :: x3 :: x4 :: x5 :: y :: e) s (fun d s1 => N (x0 :: x1 :: x2 :: x3 :: x4 :: x5 :: some d :: e) s1) (fun c => Y c (x0 :: x1 :: x2 :: x3 :: x4 :: x5 :: y :: e)) := rfl
@[simp ↓] theorem wE_loc7 {x0 x1 x2 x3 x4 x5 x6 : Option D} {d : D} : wE T C (.loc 7) (x0 :: x1 :: x2 :: x3 :: x4 :: x5 :: x6 :: some d :: e) s Q X = Q d s := propext ⟨fun ⟨_, h, q⟩ => by cases h; exact q, fun q => ⟨d, rfl, q⟩⟩
@[simp ↓] theorem wS_setv7 {x0 x1 x2 x3 x4 x5 x6 : Option D} {y : Option D} {a : Ex} : wS T C (.setv 7 a) (x0 :: x1 :: x2 :: x3 :: x4 :: x5 :: x6 :: y :: e) s N R Y = wE T C a (x0 :: x1 :: x2 :: x3 :: x4 :: x5 :: x6 :: y :: e) s (fun d s1 => N (x0 :: x1 :: x2 :: x3 :: x4 :: x5 :: x6 :: some d :: e) s1) (fun c => Y c (x0 :: x1 :: x2 :: x3 :: x4 :: x5 :: x6 :: y :: e)) := rfl
@[simp ↓] theorem wE_loc8 {x0 x1 x2 x3 x4 x5 x6 x7 : Option D} {d : D} : wE T C (.loc 8) (x0 :: x1 :: x2 :: x3 :: x4 :: x5 :: x6 :: x7 :: some d :: e) s Q X = Q d s := propext ⟨fun ⟨_, h, q⟩ => by cases h; exact q, fun q => ⟨d, rfl, q⟩⟩
@[simp ↓] theorem wS_setv8 {x0 x1 x2 x3 x4 x5 x6 x7 : Option D} {y : Option D} {a : Ex} : wS T C (.setv 8 a) (x0 :: x1 :: x2 :: x3 :: x4 :: x5 :: x6 :: x7 :: y :: e) s N R Y = wE T C a (x0 :: x1 :: x2 :: x3 :: x4 :: x5 :: x6 :: x7 :: y :: e) s (fun d s1 => N (x0 :: x1 :: x2 :: x3 :: x4 :: x5 :: x6 :: x7 :: some d :: e) s1) (fun c => Y c (x0 :: x1 :: x2 :: x3 :: x4 :: x5 :: x6 :: x7 :: y :: e)) := rfl
@[simp ↓] theorem wE_loc9 {x0 x1 x2 x3 x4 x5 x6 x7 x8 : Option D} {d : D} : wE T C (.loc 9) (x0 :: x1 :: x2 :: x3 :: x4 :: x5 :: x6 :: x7 :: x8 :: some d :: e) s Q X = Q d s := propext ⟨fun ⟨_, h, q⟩ => by cases h; exact q, fun q => ⟨d, rfl, q⟩⟩
@[simp ↓] theorem wS_setv9 {x0 x1 x2 x3 x4 x5 x6 x7 x8 : Option D} {y : Option D} {a : Ex} : wS T C (.setv 9 a) (x0 :: x1 :: x2 :: x3 :: x4 :: x5 :: x6 :: x7 :: x8 :: y :: e) s N R Y = wE T C a (x0 :: x1 :: x2 :: x3 :: x4 :: x5 :: x6 :: x7 :: x8 :: y :: e) s (fun d s1 => N (x0 :: x1 :: x2 :: x3 :: x4 :: x5 :: x6 :: x7 :: x8 :: some d :: e) s1) (fun c => Y c (x0 :: x1 :: x2 :: x3 :: x4 :: x5 :: x6 :: x7 :: x8 :: y :: e)) := rfl
@[simp ↓] theorem wE_loc10 {x0 x1 x2 x3 x4 x5 x6 x7 x8 x9 : Option D} {d : D} : wE T C (.loc 10) (x0 :: x1 :: x2 :: x3 :: x4 :: x5 :: x6 :: x7 :: x8 :: x9 :: some d :: e) s Q X = Q d s := propext ⟨fun ⟨_, h, q⟩ => by cases h; exact q, fun q => ⟨d, rfl, q⟩⟩
@[simp ↓] theorem wS_setv10 {x0 x1 x2 x3 x4 x5 x6 x7 x8 x9 : Option D} {y : Option D} {a : Ex} : wS T C (.setv 10 a) (x0 :: x1 :: x2 :: x3 :: x4 :: x5 :: x6 :: x7 :: x8 :: x9 :: y :: e) s N R Y = wE T C a (x0 :: x1 :: x2 :: x3 :: x4 :: x5 :: x6 :: x7 :: x8 :: x9 :: y :: e) s (fun d s1 => N (x0 :: x1 :: x2 :: x3 :: x4 :: x5 :: x6 :: x7 :: x8 :: x9 :: some d :: e) s1) (fun c => Y c (x0 :: x1 :: x2 :: x3 :: x4 :: x5 :: x6 :: x7 :: x8 :: x9 :: y :: e)) := rfl
@[simp ↓] theorem wE_loc11 {x0 x1 x2 x3 x4 x5 x6 x7 x8 x9 x10 : Option D} {d : D} : wE T C (.loc 11) (x0 :: x1 :: x2 :: x3 :: x4 :: x5 :: x6 :: x7 :: x8 :: x9 :: x10 :: some d :: e) s Q X = Q d s := propext ⟨fun ⟨_, h, q⟩ => by cases h; exact q, fun q => ⟨d, rfl, q⟩⟩
@[simp ↓] theorem wS_setv11 {x0 x1 x2 x3 x4 x5 x6 x7 x8 x9 x10 : Option D} {y : Option D} {a : Ex} : wS T C (.setv 11 a) (x0 :: x1 :: x2 :: x3 :: x4 :: x5 :: x6 :: x7 :: x8 :: x9 :: x10 :: y :: e) s N R Y = wE T C a (x0 :: x1 :: x2 :: x3 :: x4 :: x5 :: x6 :: x7 :: x8 :: x9 :: x10 :: y :: e) s (fun d s1 => N (x0 :: x1 :: x2 :: x3 :: x4 :: x5 :: x6 :: x7 :: x8 :: x9 :: x10 :: some d :: e) s1) (fun c => Y c (x0 :: x1 :: x2 :: x3 :: x4 :: x5 :: x6 :: x7 :: x8 :: x9 :: x10 :: y :: e)) := rfl
@[simp ↓] theorem wE_loc12 {x0 x1 x2 x3 x4 x5 x6 x7 x8 x9 x10 x11 : Option D} {d : D} : wE T C (.loc 12) (x0 :: x1 :: x2 :: x3 :: x4 :: x5 :: x6 :: x7 :: x8 :: x9 :: x10 :: x11 :: some d :: e) s Q X = Q d s := propext ⟨fun ⟨_, h, q⟩ => by cases h; exact q, fun q => ⟨d, rfl, q⟩⟩
@[simp ↓] theorem wS_setv12 {x0 x1 x2 x3 x4 x5 x6 x7 x8 x9 x10 x11 : Option D} {y : Option D} {a : Ex} : wS T C (.setv 12 a) (x0 :: x1 :: x2 :: x3 :: x4 :: x5 :: x6 :: x7 :: x8 :: x9 :: x10 :: x11 :: y :: e) s N R Y = wE T C a (x0 :: x1 :: x2 :: x3 :: x4 :: x5 :: x6 :: x7 :: x8 :: x9 :: x10 :: x11 :: y :: e) s (fun d s1 => N (x0 :: x1 :: x2 :: x3 :: x4 :: x5 :: x6 :: x7 :: x8 :: x9 :: x10 :: x11 :: some d :: e) s1) (fun c => Y c (x0 :: x1 :: x2 :: x3 :: x4 :: x5 :: x6 :: x7 :: x8 :: x9 :: x10 :: x11 :: y :: e)) := rfl
@[simp ↓] theorem wE_loc13 {x0 x1 x2 x3 x4 x5 x6 x7 x8 x9 x10 x11 x12 : Option D} {d : D} : wE T C (.loc 13) (x0 :: x1 :: x2 :: x3 :: x4 :: x5 :: x6 :: x7 :: x8 :: x9 :: x10 :: x11 :: x12 :: some d :: e) s Q X = Q d s := propext ⟨fun ⟨_, h, q⟩ => by cases h; exact q, fun q => ⟨d, rfl, q⟩⟩
@[simp ↓] theorem wS_setv13 {x0 x1 x2 x3 x4 x5 x6 x7 x8 x9 x10 x11 x12 : Option D} {y : Option D} {a : Ex} : wS T C (.setv 13 a) (x0 :: x1 :: x2 :: x3 :: x4 :: x5 :: x6 :: x7 :: x8 :: x9 :: x10 :: x11 :: x12 :: y :: e) s N R Y = wE T C a (x0 :: x1 :: x2 :: x3 :: x4 :: x5 :: x6 :: x7 :: x8 :: x9 :: x10 :: x11 :: x12 :: y :: e) s (fun d s1 => N (x0 :: x1 :: x2 :: x3 :: x4 :: x5 :: x6 :: x7 :: x8 :: x9 :: x10 :: x11 :: x12 :: some d :: e) s1) (fun c => Y c (x0 :: x1 :: x2 :: x3 :: x4 :: x5 :: x6 :: x7 :: x8 :: x9 :: x10 :: x11 :: x12 :: y :: e)) := rfl
@[simp ↓] theorem wE_loc14 {x0 x1 x2 x3 x4 x5 x6 x7 x8 x9 x10 x11 x12 x13 : Option D} {d : D} : wE T C (.loc 14) (x0 :: x1 :: x2 :: x3 :: x4 :: x5 :: x6 :: x7 :: x8 :: x9 :: x10 :: x11 :: x12 :: x13 :: some d :: e) s Q X = Q d s := propext ⟨fun ⟨_, h, q⟩ => by cases h; exact q, fun q => ⟨d, rfl, q⟩⟩
@[simp ↓] theorem wS_setv14 {x0 x1 x2 x3 x4 x5 x6 x7 x8 x9 x10 x11 x12 x13 : Option D} {y : Option D} {a : Ex} : wS T C (.setv 14 a) (x0 :: x1 :: x2 :: x3 :: x4 :: x5 :: x6 :: x7 :: x8 :: x9 :: x10 :: x11 :: x12 :: x13 :: y :: e) s N R Y = wE T C a (x0 :: x1 :: x2 :: x3 :: x4 :: x5 :: x6 :: x7 :: x8 :: x9 :: x10 :: x11 :: x12 :: x13 :: y :: e) s (fun d s1 => N (x0 :: x1 :: x2 :: x3 :: x4 :: x5 :: x6 :: x7 :: x8 :: x9 :: x10 :: x11 :: x12 :: x13 :: some d :: e) s1) (fun c => Y c (x0 :: x1 :: x2 :: x3 :: x4 :: x5 :: x6 :: x7 :: x8 :: x9 :: x10 :: x11 :: x12 :: x13 :: y :: e)) := rfl
@[simp ↓] theorem wE_loc15 {x0 x1 x2 x3 x4 x5 x6 x7 x8 x9 x10 x11 x12 x13 x14 : Option D} {d : D} : wE T C (.loc 15) (x0 :: x1 :: x2 :: x3 :: x4 :: x5 :: x6 :: x7 :: x8 :: x9 :: x10 :: x11 :: x12 :: x13 :: x14 :: some d :: e) s Q X = Q d s := propext ⟨fun ⟨_, h, q⟩ => by cases h; exact q, fun q => ⟨d, rfl, q⟩⟩
@[simp ↓] theorem wS_setv15 {x0 x1 x2 x3 x4 x5 x6 x7 x8 x9 x10 x11 x12 x13 x14 : Option D} {y : Option D} {a : Ex} : wS T C (.setv 15 a) (x0 :: x1 :: x2 :: x3 :: x4 :: x5 :: x6 :: x7 :: x8 :: x9 :: x10 :: x11 :: x12 :: x13 :: x14 :: y :: e) s N R Y = wE T C a (x0 :: x1 :: x2 :: x3 :: x4 :: x5 :: x6 :: x7 :: x8 :: x9 :: x10 :: x11 :: x12 :: x13 :: x14 :: y :: e) s (fun d s1 => N (x0 :: x1 :: x2 :: x3 :: x4 :: x5 :: x6 :: x7 :: x8 :: x9 :: x10 :: x11 :: x12 :: x13 :: x14 :: some d :: e) s1) (fun c => Y c (x0 :: x1 :: x2 :: x3 :: x4 :: x5 :: x6 :: x7 :: x8 :: x9 :: x10 :: x11 :: x12 :: x13 :: x14 :: y :: e)) := rfl
@[simp ↓] theorem wE_loc16 {x0 x1 x2 x3 x4 x5 x6 x7 x8 x9 x10 x11 x12 x13 x14 x15 : Option D} {d : D} : wE T C (.loc 16) (x0 :: x1 :: x2 :: x3 :: x4 :: x5 :: x6 :: x7 :: x8 :: x9 :: x10 :: x11 :: x12 :: x13 :: x14 :: x15 :: some d :: e) s Q X = Q d s := propext ⟨fun ⟨_, h, q⟩ => by cases h; exact q, fun q => ⟨d, rfl, q⟩⟩
@[simp ↓] theorem wS_setv16 {x0 x1 x2 x3 x4 x5 x6 x7 x8 x9 x10 x11 x12 x13 x14 x15 : Option D} {y : Option D} {a : Ex} : wS T C (.setv 16 a) (x0 :: x1 :: x2 :: x3 :: x4 :: x5 :: x6 :: x7 :: x8 :: x9 :: x10 :: x11 :: x12 :: x13 :: x14 :: x15 :: y :: e) s N R Y = wE T C a (x0 :: x1 :: x2 :: x3 :: x4 :: x5 :: x6 :: x7 :: x8 :: x9 :: x10 :: x11 :: x12 :: x13 :: x14 :: x15 :: y :: e) s (fun d s1 => N (x0 :: x1 :: x2 :: x3 :: x4 :: x5 :: x6 :: x7 :: x8 :: x9 :: x10 :: x11 :: x12 :: x13 :: x14 :: x15 :: some d :: e) s1) (fun c => Y c (x0 :: x1 :: x2 :: x3 :: x4 :: x5 :: x6 :: x7 :: x8 :: x9 :: x10 :: x11 :: x12 :: x13 :: x14 :: x15 :: y :: e)) := rfl
@[simp ↓] theorem wE_loc17 {x0 x1 x2 x3 x4 x5 x6 x7 x8 x9 x10 x11 x12 x13 x14 x15 x16 : Option D} {d : D} : wE T C (.loc 17) (x0 :: x1 :: x2 :: x3 :: x4 :: x5 :: x6 :: x7 :: x8 :: x9 :: x10 :: x11 :: x12 :: x13 :: x14 :: x15 :: x16 :: some d :: e) s Q X = Q d s := propext ⟨fun ⟨_, h, q⟩ => by cases h; exact q, fun q => ⟨d, rfl, q⟩⟩
@[simp ↓] theorem wS_setv17 {x0 x1 x2 x3 x4 x5 x6 x7 x8 x9 x10 x11 x12 x13 x14 x15 x16 : Option D} {y : Option D} {a : Ex} : wS T C (.setv 17 a) (x0 :: x1 :: x2 :: x3 :: x4 :: x5 :: x6 :: x7 :: x8 :: x9 :: x10 :: x11 :: x12 :: x13 :: x14 :: x15 :: x16 :: y :: e) s N R Y = wE T C a (x0 :: x1 :: x2 :: x3 :: x4 :: x5 :: x6 :: x7 :: x8 :: x9 :: x10 :: x11 :: x12 :: x13 :: x14 :: x15 :: x16 :: y :: e) s (fun d s1 => N (x0 :: x1 :: x2 :: x3 :: x4 :: x5 :: x6 :: x7 :: x8 :: x9 :: x10 :: x11 :: x12 :: x13 :: x14 :: x15 :: x16 :: some d :: e) s1) (fun c => Y c (x0 :: x1 :: x2 :: x3 :: x4 :: x5 :: x6 :: x7 :: x8 :: x9 :: x10 :: x11 :: x12 :: x13 :: x14 :: x15 :: x16 :: y :: e)) := rfl
@[simp ↓] theorem wE_loc18 {x0 x1 x2 x3 x4 x5 x6 x7 x8 x9 x10 x11 x12 x13 x14 x15 x16 x17 : Option D} {d : D} : wE T C (.loc 18) (x0 :: x1 :: x2 :: x3 :: x4 :: x5 :: x6 :: x7 :: x8 :: x9 :: x10 :: x11 :: x12 :: x13 :: x14 :: x15 :: x16 :: x17 :: some d :: e) s Q X = Q d s := propext ⟨fun ⟨_, h, q⟩ => by cases h; exact q, fun q => ⟨d, rfl, q⟩⟩
@[simp ↓] theorem wS_setv18 {x0 x1 x2 x3 x4 x5 x6 x7 x8 x9 x10 x11 x12 x13 x14 x15 x16 x17 : Option D} {y : Option D} {a : Ex} : wS T C (.setv 18 a) (x0 :: x1 :: x2 :: x3 :: x4 :: x5 :: x6 :: x7 :: x8 :: x9 :: x10 :: x11 :: x12 :: x13 :: x14 :: x15 :: x16 :: x17 :: y :: e) s N R Y = wE T C a (x0 :: x1 :: x2 :: x3 :: x4 :: x5 :: x6 :: x7 :: x8 :: x9 :: x10 :: x11 :: x12 :: x13 :: x14 :: x15 :: x16 :: x17 :: y :: e) s (fun d s1 => N (x0 :: x1 :: x2 :: x3 :: x4 :: x5 :: x6 :: x7 :: x8 :: x9 :: x10 :: x11 :: x12 :: x13 :: x14 :: x15 :: x16 :: x17 :: some d :: e) s1) (fun c => Y c (x0 :: x1 :: x2 :: x3 :: x4 :: x5 :: x6 :: x7 :: x8 :: x9 :: x10 :: x11 :: x12 :: x13 :: x14 :: x15 :: x16 :: x17 :: y :: e)) := rfl
@[simp ↓] theorem wE_loc19 {x0 x1 x2 x3 x4 x5 x6 x7 x8 x9 x10 x11 x12 x13 x14 x15 x16 x17 x18 : Option D} {d : D} : wE T C (.loc 19) (x0 :: x1 :: x2 :: x3 :: x4 :: x5 :: x6 :: x7 :: x8 :: x9 :: x10 :: x11 :: x12 :: x13 :: x14 :: x15 :: x16 :: x17 :: x18 :: some d :: e) s Q X = Q d s := propext ⟨fun ⟨_, h, q⟩ => by cases h; exact q, fun q => ⟨d, rfl, q⟩⟩
@[simp ↓] theorem wS_setv19 {x0 x1 x2 x3 x4 x5 x6 x7 x8 x9 x10 x11 x12 x13 x14 x15 x16 x17 x18 : Option D} {y : Option D} {a : Ex} : wS T C (.setv 19 a) (x0 :: x1 :: x2 :: x3 :: x4 :: x5 :: x6 :: x7 :: x8 :: x9 :: x10 :: x11 :: x12 :: x13 :: x14 :: x15 :: x16 :: x17 :: x18 :: y :: e) s N R Y = wE T C a (x0 :: x1 :: x2 :: x3 :: x4 :: x5 :: x6 :: x7 :: x8 :: x9 :: x10 :: x11 :: x12 :: x13 :: x14 :: x15 :: x16 :: x17 :: x18 :: y :: e) s (fun d s1 => N (x0 :: x1 :: x2 :: x3 :: x4 :: x5 :: x6 :: x7 :: x8 :: x9 :: x10 :: x11 :: x12 :: x13 :: x14 :: x15 :: x16 :: x17 :: x18 :: some d :: e) s1) (fun c => Y c (x0 :: x1 :: x2 :: x3 :: x4 :: x5 :: x6 :: x7 :: x8 :: x9 :: x10 :: x11 :: x12 :: x13 :: x14 :: x15 :: x16 :: x17 :: x18 :: y :: e)) := rfl
@[simp ↓] theorem wE_loc20 {x0 x1 x2 x3 x4 x5 x6 x7 x8 x9 x10 x11 x12 x13 x14 x15 x16 x17 x18 x19 : Option D} {d : D} : wE T C (.loc 20) (x0 :: x1 :: x2 :: x3 :: x4 :: x5 :: x6 :: x7 :: x8 :: x9 :: x10 :: x11 :: x12 :: x13 :: x14 :: x15 :: x16 :: x17 :: x18 :: x19 :: some d :: e) s Q X = Q d s := propext ⟨fun ⟨_, h, q⟩ => by cases h; exact q, fun q => ⟨d, rfl, q⟩⟩
@[simp ↓] theorem wS_setv20 {x0 x1 x2 x3 x4 x5 x6 x7 x8 x9 x10 x11 x12 x13 x14 x15 x16 x17 x18 x19 : Option D} {y : Option D} {a : Ex} : wS T C (.setv 20 a) (x0 :: x1 :: x2 :: x3 :: x4 :: x5 :: x6 :: x7 :: x8 :: x9 :: x10 :: x11 :: x12 :: x13 :: x14 :: x15 :: x16 :: x17 :: x18 :: x19 :: y :: e) s N R Y = wE T C a (x0 :: x1 :: x2 :: x3 :: x4 :: x5 :: x6 :: x7 :: x8 :: x9 :: x10 :: x11 :: x12 :: x13 :: x14 :: x15 :: x16 :: x17 :: x18 :: x19 :: y :: e) s (fun d s1 => N (x0 :: x1 :: x2 :: x3 :: x4 :: x5 :: x6 :: x7 :: x8 :: x9 :: x10 :: x11 :: x12 :: x13 :: x14 :: x15 :: x16 :: x17 :: x18 :: x19 :: some d :: e) s1) (fun c => Y c (x0 :: x1 :: x2 :: x3 :: x4 :: x5 :: x6 :: x7 :: x8 :: x9 :: x10 :: x11 :: x12 :: x13 :: x14 :: x15 :: x16 :: x17 :: x18 :: x19 :: y :: e)) := rfl
@[simp ↓] theorem wE_loc21 {x0 x1 x2 x3 x4 x5 x6 x7 x8 x9 x10 x11 x12 x13 x14 x15 x16 x17 x18 x19 x20 : Option D} {d : D} : wE T C (.loc 21) (x0 :: x1 :: x2 :: x3 :: x4 :: x5 :: x6 :: x7 :: x8 :: x9 :: x10 :: x11 :: x12 :: x13 :: x14 :: x15 :: x16 :: x17 :: x18 :: x19 :: x20 :: some d :: e) s Q X = Q d s := propext ⟨fun ⟨_, h, q⟩ => by cases h; exact q, fun q => ⟨d, rfl, q⟩⟩
@[simp ↓] theorem wS_setv21 {x0 x1 x2 x3 x4 x5 x6 x7 x8 x9 x10 x11 x12 x13 x14 x15 x16 x17 x18 x19 x20 : Option D} {y : Option D} {a : Ex} : wS T C (.setv 21 a) (x0 :: x1 :: x2 :: x3 :: x4 :: x5 :: x6 :: x7 :: x8 :: x9 :: x10 :: x11 :: x12 :: x13 :: x14 :: x15 :: x16 :: x17 :: x18 :: x19 :: x20 :: y :: e) s N R Y = wE T C a (x0 :: x1 :: x2 :: x3 :: x4 :: x5 :: x6 :: x7 :: x8 :: x9 :: x10 :: x11 :: x12 :: x13 :: x14 :: x15 :: x16 :: x17 :: x18 :: x19 :: x20 :: y :: e) s (fun d s1 => N (x0 :: x1 :: x2 :: x3 :: x4 :: x5 :: x6 :: x7 :: x8 :: x9 :: x10 :: x11 :: x12 :: x13 :: x14 :: x15 :: x16 :: x17 :: x18 :: x19 :: x20 :: some d :: e) s1) (fun c => Y c (x0 :: x1 :: x2 :: x3 :: x4 :: x5 :: x6 :: x7 :: x8 :: x9 :: x10 :: x11 :: x12 :: x13 :: x14 :: x15 :: x16 :: x17 :: x18 :: x19 :: x20 :: y :: e)) := rfl
@[simp ↓] theorem wE_loc22 {x0 x1 x2 x3 x4 x5 x6 x7 x8 x9 x10 x11 x12 x13 x14 x15 x16 x17 x18 x19 x20 x21 : Option D} {d : D} : wE T C (.loc 22) (x0 :: x1 :: x2 :: x3 :: x4 :: x5 :: x6 :: x7 :: x8 :: x9 :: x10 :: x11 :: x12 :: x13 :: x14 :: x15 :: x16 :: x17 :: x18 :: x19 :: x20 :: x21 :: some d :: e) s Q X = Q d s := propext ⟨fun ⟨_, h, q⟩ => by cases h; exact q, fun q => ⟨d, rfl, q⟩⟩
@[simp ↓] theorem wS_setv22 {x0 x1 x2 x3 x4 x5 x6 x7 x8 x9 x10 x11 x12 x13 x14 x15 x16 x17 x18 x19 x20 x21 : Option D} {y : Option D} {a : Ex} : wS T C (.setv 22 a) (x0 :: x1 :: x2 :: x3 :: x4 :: x5 :: x6 :: x7 :: x8 :: x9 :: x10 :: x11 :: x12 :: x13 :: x14 :: x15 :: x16 :: x17 :: x18 :: x19 :: x20 :: x21 :: y :: e) s N R Y = wE T C a (x0 :: x1 :: x2 :: x3 :: x4 :: x5 :: x6 :: x7 :: x8 :: x9 :: x10 :: x11 :: x12 :: x13 :: x14 :: x15 :: x16 :: x17 :: x18 :: x19 :: x20 :: x21 :: y :: e) s (fun d s1 => N (x0 :: x1 :: x2 :: x3 :: x4 :: x5 :: x6 :: x7 :: x8 :: x9 :: x10 :: x11 :: x12 :: x13 :: x14 :: x15 :: x16 :: x17 :: x18 :: x19 :: x20 :: x21 :: some d :: e) s1) (fun c => Y c (x0 :: x1 :: x2 :: x3 :: x4 :: x5 :: x6 :: x7 :: x8 :: x9 :: x10 :: x11 :: x12 :: x13 :: x14 :: x15 :: x16 :: x17 :: x18 :: x19 :: x20 :: x21 :: y :: e)) := rfl
@[simp ↓] theorem wE_loc23 {x0 x1 x2 x3 x4 x5 x6 x7 x8 x9 x10 x11 x12 x13 x14 x15 x16 x17 x18 x19 x20 x21 x22 : Option D} {d : D} : wE T C (.loc 23) (x0 :: x1 :: x2 :: x3 :: x4 :: x5 :: x6 :: x7 :: x8 :: x9 :: x10 :: x11 :: x12 :: x13 :: x14 :: x15 :: x16 :: x17 :: x18 :: x19 :: x20 :: x21 :: x22 :: some d :: e) s Q X = Q d s := propext ⟨fun ⟨_, h, q⟩ => by cases h; exact q, fun q => ⟨d, rfl, q⟩⟩
@[simp ↓] theorem wS_setv23 {x0 x1 x2 x3 x4 x5 x6 x7 x8 x9 x10 x11 x12 x13 x14 x15 x16 x17 x18 x19 x20 x21 x22 : Option D} {y : Option D} {a : Ex} : wS T C (.setv 23 a) (x0 :: x1 :: x2 :: x3 :: x4 :: x5 :: x6 :: x7 :: x8 :: x9 :: x10 :: x11 :: x12 :: x13 :: x14 :: x15 :: x16 :: x17 :: x18 :: x19 :: x20 :: x21 :: x22 :: y :: e) s N R Y = wE T C a (x0 :: x1 :: x2 :: x3 :: x4 :: x5 :: x6 :: x7 :: x8 :: x9 :: x10 :: x11 :: x12 :: x13 :: x14 :: x15 :: x16 :: x17 :: x18 :: x19 :: x20 :: x21 :: x22 :: y :: e) s (fun d s1 => N (x0 :: x1 :: x2 :: x3 :: x4 :: x5 :: x6 :: x7 :: x8 :: x9 :: x10 :: x11 :: x12 :: x13 :: x14 :: x15 :: x16 :: x17 :: x18 :: x19 :: x20 :: x21 :: x22 :: some d :: e) s1) (fun c => Y c (x0 :: x1 :: x2 :: x3 :: x4 :: x5 :: x6 :: x7 :: x8 :: x9 :: x10 :: x11 :: x12 :: x13 :: x14 :: x15 :: x16 :: x17 :: x18 :: x19 :: x20 :: x21 :: x22 :: y :: e)) := rfl

@[simp ↓] theorem wE_int {i : Int} : wE T C (.int i) e s Q X = Q (.int i) s := rfl
@[simp ↓] theorem wE_str {i : Str} : wE T C (.str i) e s Q X = Q (.str i) s := rfl
@[simp ↓] theorem wE_bl {i : Bool} : wE T C (.bl i) e s Q X = Q (.bl i) s := rfl
@[simp ↓] theorem wE_non : wE T C .non e s Q X = Q .non s := rfl
@[simp ↓] theorem wE_tup {es : Exs} : wE T C (.tup es) e s Q X = wEs T C es e s (fun ds s1 => ds.length ≤ sizeLine ∧ Q (.tup ds) s1) X := rfl
@[simp ↓] theorem wE_lst {es : Exs} : wE T C (.lst es) e s Q X = wEs T C es e s (fun ds s1 => ds.length ≤ sizeLine ∧ alloc s1 (.lst ds) Q) X := rfl
@[simp ↓] theorem wE_dnewT : wE T C (.dnew true) e s Q X = alloc s (.dT []) Q := rfl
@[simp ↓] theorem wE_dnewK : wE T C (.dnew false) e s Q X = alloc s (.dK []) Q := rfl
@[simp ↓] theorem wE_disp {ks : List Str} {es : Exs} : wE T C (.disp ks es) e s Q X = wEs T C es e s (fun ds s1 => ks.length = ds.length ∧ ds.length ≤ 15 ∧ ks.Nodup ∧ alloc s1 (.dK ((ks.map Sum.inr).zip ds)) Q) X := rfl
@[simp ↓] theorem wE_fld {a : Ex} {f : Nat} : wE T C (.fld a f) e s Q X = wE T C a e s (fun x s1 => fldQ f Q x s1) X := rfl
@[simp ↓] theorem wE_idx {a b : Ex} : wE T C (.idx a b) e s Q X = wE T C a e s (fun x s1 => wE T C b e s1 (fun y s2 => rIdx x y s2 Q) X) X := rfl
@[simp ↓] theorem wE_slc {a : Ex} {lo hi : Exo} : wE T C (.slc a lo hi) e s Q X = wE T C a e s (fun x s1 => wO T C lo e s1 (fun l s2 => wO T C hi e s2 (fun h s3 => rSlc x l h s3 Q) X) X) X := rfl
@[simp ↓] theorem wE_bin {op : Operator} {a b : Ex} : wE T C (.bin op a b) e s Q X = wE T C a e s (fun x s1 => wE T C b e s1 (fun y s2 => rBin op x y s2 Q) X) X := rfl
@[simp ↓] theorem wE_neg {a : Ex} : wE T C (.neg a) e s Q X = wE T C a e s (fun x s1 => negQ Q x s1) X := rfl
@[simp ↓] theorem wE_not {a : Ex} : wE T C (.not a) e s Q X = wE T C a e s (fun x s1 => notQ Q x s1) X := rfl
@[simp ↓] theorem wE_and {a b : Ex} : wE T C (.and a b) e s Q X = wE T C a e s (fun x s1 => ifB x (wE T C b e s1 (fun y s2 => boolQ Q y s2) X) (Q (.bl false) s1)) X := rfl
@[simp ↓] theorem wE_or {a b : Ex} : wE T C (.or a b) e s Q X = wE T C a e s (fun x s1 => ifB x (Q (.bl true) s1) (wE T C b e s1 (fun y s2 => boolQ Q y s2) X)) X := rfl
@[simp ↓] theorem wE_ife {c a b : Ex} : wE T C (.ife c a b) e s Q X = wE T C c e s (fun x s1 => ifB x (wE T C a e s1 Q X) (wE T C b e s1 Q X)) X := rfl
@[simp ↓] theorem wE_cmp {op : CmpOp} {a b : Ex} : wE T C (.cmp op a b) e s Q X = wE T C a e s (fun x s1 => wE T C b e s1 (fun y s2 => rCmp op x y s2 Q) X) X := rfl
@[simp ↓] theorem wE_chn {op op' : CmpOp} {a b c : Ex} : wE T C (.chn op op' a b c) e s Q X = wE T C a e s (fun x s1 => wE T C b e s1 (fun y s2 => rCmp op x y s2 fun z s3 => ifB z (wE T C c e s3 (fun w s4 => rCmp op' y w s4 Q) X) (Q (.bl false) s3)) X) X := rfl
@[simp ↓] theorem wE_call {f : Nat} {es : Exs} : wE T C (.call f es) e s Q X = wEs T C es e s (fun ds s1 => C f ds s1 Q X) X := rfl
@[simp ↓] theorem wE_mth {m : Nat} {o : Ex} {es : Exs} : wE T C (.mth m o es) e s Q X = wE T C o e s (fun x s1 => mthQ T m (fun f s1 => wEs T C es e s1 (fun ds s2 => C f (x :: ds) s2 Q X) X) x s1) X := rfl
@[simp ↓] theorem wE_blt {b : Blt} {es : Exs} : wE T C (.blt b es) e s Q X = wEs T C es e s (fun ds s1 => rBlt b ds s1 Q) X := rfl
@[simp ↓] theorem wE_bm {m : Bm} {o : Ex} {es : Exs} : wE T C (.bm m o es) e s Q X = wE T C o e s (fun x s1 => bmOk m x s1 ∧ wEs T C es e s1 (fun ds s2 => rBm m x ds s2 Q) X) X := rfl
@[simp ↓] theorem wE_isi {a : Ex} {ts : List Ty} : wE T C (.isi a ts) e s Q X = wE T C a e s (fun x s1 => putQ (fun y => Q y s1) ((isTs s1 x ts).map .bl)) X := by
  show wE T C a e s _ X = _
  congr 1; funext x s1
  cases h : isTs s1 x ts <;> simp [putQ, h]
@[simp ↓] theorem wEs_nil {Q : List D → S → Prop} : wEs T C .nil e s Q X = Q [] s := rfl
@[simp ↓] theorem wEs_cons {a : Ex} {r : Exs} {Q : List D → S → Prop} : wEs T C (.cons a r) e s Q X = wE T C a e s (fun x s1 => wEs T C r e s1 (fun xs s2 => Q (x :: xs) s2) X) X := rfl
@[simp ↓] theorem wO_no {Q : Option Int → S → Prop} : wO T C .no e s Q X = Q none s := rfl
def intO (Q : Option Int → S → Prop) : K1 := fun x s => ∃ i, x = .int i ∧ Q (some i) s
@[simp ↓] theorem intO_int {Q : Option Int → S → Prop} {i : Int} : intO Q (.int i) s = Q (some i) s := propext ⟨fun ⟨k, h, q⟩ => by cases h; exact q, fun q => ⟨i, rfl, q⟩⟩
@[simp ↓] theorem wO_yes {a : Ex} {Q : Option Int → S → Prop} : wO T C (.yes a) e s Q X = wE T C a e s (fun x s1 => intO Q x s1) X := rfl
@[simp ↓] theorem wB_no {Q : Bool → S → Prop} : wB T C .no e s Q = Q true s := rfl
def blO (Q : Bool → S → Prop) : K1 := fun x s => ∃ i, x = .bl i ∧ Q i s
@[simp ↓] theorem blO_bl {Q : Bool → S → Prop} {i : Bool} : blO Q (.bl i) s = Q i s := propext ⟨fun ⟨k, h, q⟩ => by cases h; exact q, fun q => ⟨i, rfl, q⟩⟩
@[simp ↓] theorem wB_yes {a : Ex} {Q : Bool → S → Prop} : wB T C (.yes a) e s Q = wE T C a e s (fun x s1 => blO Q x s1) (fun _ _ => False) := rfl
@[simp ↓] theorem wS_pas : wS T C .pas e s N R Y = N e s := rfl
@[simp ↓] theorem wS_exp {a : Ex} : wS T C (.exp a) e s N R Y = wE T C a e s (fun _ s1 => N e s1) (fun c => Y c e) := rfl
@[simp ↓] theorem wS_setf {o a : Ex} {f : Nat} : wS T C (.setf o f a) e s N R Y = wE T C a e s (fun d s1 => wE T C o e s1 (fun x s2 => setfQ T f d (fun s3 => N e s3) x s2) (fun c => Y c e)) (fun c => Y c e) := rfl
@[simp ↓] theorem wS_seti {o i a : Ex} : wS T C (.seti o i a) e s N R Y = wE T C a e s (fun d s1 => wE T C o e s1 (fun x s2 => wE T C i e s2 (fun y s3 => setI x y d s3 fun s4 => N e s4) (fun c => Y c e)) (fun c => Y c e)) (fun c => Y c e) := rfl
def unpQ (T : Tab) (C : Nat → List D → S → K1 → XP → Prop) (ts : List Tg) (e : Env) (N : Env → S → Prop) (Y : XE) : K1 := fun d s1 => ∃ l, seqOf s1 d = some l ∧ l.length = ts.length ∧ wTgs T C ts l e s1 N Y
@[simp ↓] theorem wS_unp {ts : List Tg} {a : Ex} : wS T C (.unp ts a) e s N R Y = wE T C a e s (fun d s1 => unpQ T C ts e N Y d s1) (fun c => Y c e) := rfl
@[simp ↓] theorem unpQ_tup {ts : List Tg} {l : List D} : unpQ T C ts e N Y (.tup l) s = (l.length = ts.length ∧ wTgs T C ts l e s N Y) := propext ⟨fun ⟨l', h, a, b⟩ => by cases h; exact ⟨a, b⟩, fun ⟨a, b⟩ => ⟨l, rfl, a, b⟩⟩
theorem unpQ_of {ts : List Tg} {l : List D} {p : Addr} (h : s p = some (.lst l)) : unpQ T C ts e N Y (.ob p) s = (l.length = ts.length ∧ wTgs T C ts l e s N Y) :=
  propext ⟨fun ⟨l', h1, a, b⟩ => by rw [seq_of h] at h1; cases h1; exact ⟨a, b⟩, fun ⟨a, b⟩ => ⟨l, seq_of h, a, b⟩⟩
@[simp ↓] theorem wTgs_nil : wTgs T C [] [] e s N Y = N e s := rfl
@[simp ↓] theorem wTgs_s {o i : Ex} {ts : List Tg} {d : D} {ds : List D} : wTgs T C (.s o i :: ts) (d :: ds) e s N Y = wE T C o e s (fun x s1 => wE T C i e s1 (fun y s2 => setI x y d s2 fun s3 => wTgs T C ts ds e s3 N Y) (fun c => Y c e)) (fun c => Y c e) := rfl
@[simp ↓] theorem wS_ite {c : Ex} {a b : Sms} : wS T C (.ite c a b) e s N R Y = wE T C c e s (fun d s1 => ifB d (wSs T C a e s1 N R Y) (wSs T C b e s1 N R Y)) (fun c => Y c e) := rfl
@[simp ↓] theorem wS_fr {r : Bool} {t : Option Nat} {ts : List Nat} {it : Ex} {b : Sms} : wS T C (.fr r t ts it b) e s N R Y = wE T C it e s (fun x s1 => itemsOf r x s1 fun l ok => wFor (fun e1 s2 N1 => wSs T C b e1 s2 N1 R Y) ok t ts l e s1 N) (fun c => Y c e) := rfl
@[simp ↓] theorem wS_ret {a : Ex} : wS T C (.ret a) e s N R Y = wE T C a e s R (fun c => Y c e) := rfl
@[simp ↓] theorem wS_ret0 : wS T C .ret0 e s N R Y = R .non s := rfl
@[simp ↓] theorem wS_rse {c : Nat} : wS T C (.rse c) e s N R Y = Y c e s := rfl
theorem wSs_nil : wSs T C .nil e s N R Y = N e s := rfl
theorem wSs_cons' {a : Sm} {r : Sms} : wSs T C (.cons a r) e s N R Y = wS T C a e s (fun e1 s1 => wSs T C r e1 s1 N R Y) R Y := rfl

@[simp ↓] theorem wTgs_v0 {y : Option D} {ts : List Tg} {d : D} {ds : List D} : wTgs T C (.v 0 :: ts) (d :: ds) (y :: e) s N Y = wTgs T C ts ds (some d :: e) s N Y := rfl
@[simp ↓] theorem wTgs_v1 {x0 : Option D} {y : Option D} {ts : List Tg} {d : D} {ds : List D} : wTgs T C (.v 1 :: ts) (d :: ds) (x0 :: y :: e) s N Y = wTgs T C ts ds (x0 :: some d :: e) s N Y := rfl
@[simp ↓] theorem wTgs_v2 {x0 x1 : Option D} {y : Option D} {ts : List Tg} {d : D} {ds : List D} : wTgs T C (.v 2 :: ts) (d :: ds) (x0 :: x1 :: y :: e) s N Y = wTgs T C ts ds (x0 :: x1 :: some d :: e) s N Y := rfl
@[simp ↓] theorem wTgs_v3 {x0 x1 x2 : Option D} {y : Option D} {ts : List Tg} {d : D} {ds : List D} : wTgs T C (.v 3 :: ts) (d :: ds) (x0 :: x1 :: x2 :: y :: e) s N Y = wTgs T C ts ds (x0 :: x1 :: x2 :: some d :: e) s N Y := rfl
@[simp ↓] theorem wTgs_v4 {x0 x1 x2 x3 : Option D} {y : Option D} {ts : List Tg} {d : D} {ds : List D} : wTgs T C (.v 4 :: ts) (d :: ds) (x0 :: x1 :: x2 :: x3 :: y :: e) s N Y = wTgs T C ts ds (x0 :: x1 :: x2 :: x3 :: some d :: e) s N Y := rfl
@[simp ↓] theorem wTgs_v5 {x0 x1 x2 x3 x4 : Option D} {y : Option D} {ts : List Tg} {d : D} {ds : List D} : wTgs T C (.v 5 :: ts) (d :: ds) (x0 :: x1 :: x2 :: x3 :: x4 :: y :: e) s N Y = wTgs T C ts ds (x0 :: x1 :: x2 :: x3 :: x4 :: some d :: e) s N Y := rfl
@[simp ↓] theorem wTgs_v6 {x0 x1 x2 x3 x4 x5 : Option D} {y : Option D} {ts : List Tg} {d : D} {ds : List D} : wTgs T C (.v 6 :: ts) (d :: ds) (x0 :: x1 :: x2 :: x3 :: x4 :: x5 :: y :: e) s N Y = wTgs T C ts ds (x0 :: x1 :: x2 :: x3 :: x4 :: x5 :: some d :: e) s N Y := rfl
@[simp ↓] theorem wTgs_v7 {x0 x1 x2 x3 x4 x5 x6 : Option D} {y : Option D} {ts : List Tg} {d : D} {ds : List D} : wTgs T C (.v 7 :: ts) (d :: ds) (x0 :: x1 :: x2 :: x3 :: x4 :: x5 :: x6 :: y :: e) s N Y = wTgs T C ts ds (x0 :: x1 :: x2 :: x3 :: x4 :: x5 :: x6 :: some d :: e) s N Y := rfl
@[simp ↓] theorem wTgs_v8 {x0 x1 x2 x3 x4 x5 x6 x7 : Option D} {y : Option D} {ts : List Tg} {d : D} {ds : List D} : wTgs T C (.v 8 :: ts) (d :: ds) (x0 :: x1 :: x2 :: x3 :: x4 :: x5 :: x6 :: x7 :: y :: e) s N Y = wTgs T C ts ds (x0 :: x1 :: x2 :: x3 :: x4 :: x5 :: x6 :: x7 :: some d :: e) s N Y := rfl
@[simp ↓] theorem wTgs_v9 {x0 x1 x2 x3 x4 x5 x6 x7 x8 : Option D} {y : Option D} {ts : List Tg} {d : D} {ds : List D} : wTgs T C (.v 9 :: ts) (d :: ds) (x0 :: x1 :: x2 :: x3 :: x4 :: x5 :: x6 :: x7 :: x8 :: y :: e) s N Y = wTgs T C ts ds (x0 :: x1 :: x2 :: x3 :: x4 :: x5 :: x6 :: x7 :: x8 :: some d :: e) s N Y := rfl
@[simp ↓] theorem wTgs_v10 {x0 x1 x2 x3 x4 x5 x6 x7 x8 x9 : Option D} {y : Option D} {ts : List Tg} {d : D} {ds : List D} : wTgs T C (.v 10 :: ts) (d :: ds) (x0 :: x1 :: x2 :: x3 :: x4 :: x5 :: x6 :: x7 :: x8 :: x9 :: y :: e) s N Y = wTgs T C ts ds (x0 :: x1 :: x2 :: x3 :: x4 :: x5 :: x6 :: x7 :: x8 :: x9 :: some d :: e) s N Y := rfl
@[simp ↓] theorem wTgs_v11 {x0 x1 x2 x3 x4 x5 x6 x7 x8 x9 x10 : Option D} {y : Option D} {ts : List Tg} {d : D} {ds : List D} : wTgs T C (.v 11 :: ts) (d :: ds) (x0 :: x1 :: x2 :: x3 :: x4 :: x5 :: x6 :: x7 :: x8 :: x9 :: x10 :: y :: e) s N Y = wTgs T C ts ds (x0 :: x1 :: x2 :: x3 :: x4 :: x5 :: x6 :: x7 :: x8 :: x9 :: x10 :: some d :: e) s N Y := rfl
@[simp ↓] theorem wTgs_v12 {x0 x1 x2 x3 x4 x5 x6 x7 x8 x9 x10 x11 : Option D} {y : Option D} {ts : List Tg} {d : D} {ds : List D} : wTgs T C (.v 12 :: ts) (d :: ds) (x0 :: x1 :: x2 :: x3 :: x4 :: x5 :: x6 :: x7 :: x8 :: x9 :: x10 :: x11 :: y :: e) s N Y = wTgs T C ts ds (x0 :: x1 :: x2 :: x3 :: x4 :: x5 :: x6 :: x7 :: x8 :: x9 :: x10 :: x11 :: some d :: e) s N Y := rfl
@[simp ↓] theorem wTgs_v13 {x0 x1 x2 x3 x4 x5 x6 x7 x8 x9 x10 x11 x12 : Option D} {y : Option D} {ts : List Tg} {d : D} {ds : List D} : wTgs T C (.v 13 :: ts) (d :: ds) (x0 :: x1 :: x2 :: x3 :: x4 :: x5 :: x6 :: x7 :: x8 :: x9 :: x10 :: x11 :: x12 :: y :: e) s N Y = wTgs T C ts ds (x0 :: x1 :: x2 :: x3 :: x4 :: x5 :: x6 :: x7 :: x8 :: x9 :: x10 :: x11 :: x12 :: some d :: e) s N Y := rfl
@[simp ↓] theorem wTgs_v14 {x0 x1 x2 x3 x4 x5 x6 x7 x8 x9 x10 x11 x12 x13 : Option D} {y : Option D} {ts : List Tg} {d : D} {ds : List D} : wTgs T C (.v 14 :: ts) (d :: ds) (x0 :: x1 :: x2 :: x3 :: x4 :: x5 :: x6 :: x7 :: x8 :: x9 :: x10 :: x11 :: x12 :: x13 :: y :: e) s N Y = wTgs T C ts ds (x0 :: x1 :: x2 :: x3 :: x4 :: x5 :: x6 :: x7 :: x8 :: x9 :: x10 :: x11 :: x12 :: x13 :: some d :: e) s N Y := rfl
@[simp ↓] theorem wTgs_v15 {x0 x1 x2 x3 x4 x5 x6 x7 x8 x9 x10 x11 x12 x13 x14 : Option D} {y : Option D} {ts : List Tg} {d : D} {ds : List D} : wTgs T C (.v 15 :: ts) (d :: ds) (x0 :: x1 :: x2 :: x3 :: x4 :: x5 :: x6 :: x7 :: x8 :: x9 :: x10 :: x11 :: x12 :: x13 :: x14 :: y :: e) s N Y = wTgs T C ts ds (x0 :: x1 :: x2 :: x3 :: x4 :: x5 :: x6 :: x7 :: x8 :: x9 :: x10 :: x11 :: x12 :: x13 :: x14 :: some d :: e) s N Y := rfl
@[simp ↓] theorem wTgs_v16 {x0 x1 x2 x3 x4 x5 x6 x7 x8 x9 x10 x11 x12 x13 x14 x15 : Option D} {y : Option D} {ts : List Tg} {d : D} {ds : List D} : wTgs T C (.v 16 :: ts) (d :: ds) (x0 :: x1 :: x2 :: x3 :: x4 :: x5 :: x6 :: x7 :: x8 :: x9 :: x10 :: x11 :: x12 :: x13 :: x14 :: x15 :: y :: e) s N Y = wTgs T C ts ds (x0 :: x1 :: x2 :: x3 :: x4 :: x5 :: x6 :: x7 :: x8 :: x9 :: x10 :: x11 :: x12 :: x13 :: x14 :: x15 :: some d :: e) s N Y := rfl
@[simp ↓] theorem wTgs_v17 {x0 x1 x2 x3 x4 x5 x6 x7 x8 x9 x10 x11 x12 x13 x14 x15 x16 : Option D} {y : Option D} {ts : List Tg} {d : D} {ds : List D} : wTgs T C (.v 17 :: ts) (d :: ds) (x0 :: x1 :: x2 :: x3 :: x4 :: x5 :: x6 :: x7 :: x8 :: x9 :: x10 :: x11 :: x12 :: x13 :: x14 :: x15 :: x16 :: y :: e) s N Y = wTgs T C ts ds (x0 :: x1 :: x2 :: x3 :: x4 :: x5 :: x6 :: x7 :: x8 :: x9 :: x10 :: x11 :: x12 :: x13 :: x14 :: x15 :: x16 :: some d :: e) s N Y := rfl
@[simp ↓] theorem wTgs_v18 {x0 x1 x2 x3 x4 x5 x6 x7 x8 x9 x10 x11 x12 x13 x14 x15 x16 x17 : Option D} {y : Option D} {ts : List Tg} {d : D} {ds : List D} : wTgs T C (.v 18 :: ts) (d :: ds) (x0 :: x1 :: x2 :: x3 :: x4 :: x5 :: x6 :: x7 :: x8 :: x9 :: x10 :: x11 :: x12 :: x13 :: x14 :: x15 :: x16 :: x17 :: y :: e) s N Y = wTgs T C ts ds (x0 :: x1 :: x2 :: x3 :: x4 :: x5 :: x6 :: x7 :: x8 :: x9 :: x10 :: x11 :: x12 :: x13 :: x14 :: x15 :: x16 :: x17 :: some d :: e) s N Y := rfl
@[simp ↓] theorem wTgs_v19 {x0 x1 x2 x3 x4 x5 x6 x7 x8 x9 x10 x11 x12 x13 x14 x15 x16 x17 x18 : Option D} {y : Option D} {ts : List Tg} {d : D} {ds : List D} : wTgs T C (.v 19 :: ts) (d :: ds) (x0 :: x1 :: x2 :: x3 :: x4 :: x5 :: x6 :: x7 :: x8 :: x9 :: x10 :: x11 :: x12 :: x13 :: x14 :: x15 :: x16 :: x17 :: x18 :: y :: e) s N Y = wTgs T C ts ds (x0 :: x1 :: x2 :: x3 :: x4 :: x5 :: x6 :: x7 :: x8 :: x9 :: x10 :: x11 :: x12 :: x13 :: x14 :: x15 :: x16 :: x17 :: x18 :: some d :: e) s N Y := rfl
@[simp ↓] theorem wTgs_v20 {x0 x1 x2 x3 x4 x5 x6 x7 x8 x9 x10 x11 x12 x13 x14 x15 x16 x17 x18 x19 : Option D} {y : Option D} {ts : List Tg} {d : D} {ds : List D} : wTgs T C (.v 20 :: ts) (d :: ds) (x0 :: x1 :: x2 :: x3 :: x4 :: x5 :: x6 :: x7 :: x8 :: x9 :: x10 :: x11 :: x12 :: x13 :: x14 :: x15 :: x16 :: x17 :: x18 :: x19 :: y :: e) s N Y = wTgs T C ts ds (x0 :: x1 :: x2 :: x3 :: x4 :: x5 :: x6 :: x7 :: x8 :: x9 :: x10 :: x11 :: x12 :: x13 :: x14 :: x15 :: x16 :: x17 :: x18 :: x19 :: some d :: e) s N Y := rfl
@[simp ↓] theorem wTgs_v21 {x0 x1 x2 x3 x4 x5 x6 x7 x8 x9 x10 x11 x12 x13 x14 x15 x16 x17 x18 x19 x20 : Option D} {y : Option D} {ts : List Tg} {d : D} {ds : List D} : wTgs T C (.v 21 :: ts) (d :: ds) (x0 :: x1 :: x2 :: x3 :: x4 :: x5 :: x6 :: x7 :: x8 :: x9 :: x10 :: x11 :: x12 :: x13 :: x14 :: x15 :: x16 :: x17 :: x18 :: x19 :: x20 :: y :: e) s N Y = wTgs T C ts ds (x0 :: x1 :: x2 :: x3 :: x4 :: x5 :: x6 :: x7 :: x8 :: x9 :: x10 :: x11 :: x12 :: x13 :: x14 :: x15 :: x16 :: x17 :: x18 :: x19 :: x20 :: some d :: e) s N Y := rfl
@[simp ↓] theorem wTgs_v22 {x0 x1 x2 x3 x4 x5 x6 x7 x8 x9 x10 x11 x12 x13 x14 x15 x16 x17 x18 x19 x20 x21 : Option D} {y : Option D} {ts : List Tg} {d : D} {ds : List D} : wTgs T C (.v 22 :: ts) (d :: ds) (x0 :: x1 :: x2 :: x3 :: x4 :: x5 :: x6 :: x7 :: x8 :: x9 :: x10 :: x11 :: x12 :: x13 :: x14 :: x15 :: x16 :: x17 :: x18 :: x19 :: x20 :: x21 :: y :: e) s N Y = wTgs T C ts ds (x0 :: x1 :: x2 :: x3 :: x4 :: x5 :: x6 :: x7 :: x8 :: x9 :: x10 :: x11 :: x12 :: x13 :: x14 :: x15 :: x16 :: x17 :: x18 :: x19 :: x20 :: x21 :: some d :: e) s N Y := rfl
@[simp ↓] theorem wTgs_v23 {x0 x1 x2 x3 x4 x5 x6 x7 x8 x9 x10 x11 x12 x13 x14 x15 x16 x17 x18 x19 x20 x21 x22 : Option D} {y : Option D} {ts : List Tg} {d : D} {ds : List D} : wTgs T C (.v 23 :: ts) (d :: ds) (x0 :: x1 :: x2 :: x3 :: x4 :: x5 :: x6 :: x7 :: x8 :: x9 :: x10 :: x11 :: x12 :: x13 :: x14 :: x15 :: x16 :: x17 :: x18 :: x19 :: x20 :: x21 :: x22 :: y :: e) s N Y = wTgs T C ts ds (x0 :: x1 :: x2 :: x3 :: x4 :: x5 :: x6 :: x7 :: x8 :: x9 :: x10 :: x11 :: x12 :: x13 :: x14 :: x15 :: x16 :: x17 :: x18 :: x19 :: x20 :: x21 :: x22 :: some d :: e) s N Y := rfl

@[simp] theorem ty_int_int : (Ty.int == Ty.int) = true := rfl
@[simp] theorem ty_int_bool : (Ty.int == Ty.bool) = false := rfl
@[simp] theorem ty_int_str : (Ty.int == Ty.str) = false := rfl
@[simp] theorem ty_int_tuple : (Ty.int == Ty.tuple) = false := rfl
@[simp] theorem ty_int_list : (Ty.int == Ty.list) = false := rfl
@[simp] theorem ty_bool_int : (Ty.bool == Ty.int) = false := rfl
@[simp] theorem ty_bool_bool : (Ty.bool == Ty.bool) = true := rfl
@[simp] theorem ty_bool_str : (Ty.bool == Ty.str) = false := rfl
@[simp] theorem ty_bool_tuple : (Ty.bool == Ty.tuple) = false := rfl
@[simp] theorem ty_bool_list : (Ty.bool == Ty.list) = false := rfl
@[simp] theorem ty_str_int : (Ty.str == Ty.int) = false := rfl
@[simp] theorem ty_str_bool : (Ty.str == Ty.bool) = false := rfl
@[simp] theorem ty_str_str : (Ty.str == Ty.str) = true := rfl
@[simp] theorem ty_str_tuple : (Ty.str == Ty.tuple) = false := rfl
@[simp] theorem ty_str_list : (Ty.str == Ty.list) = false := rfl
@[simp] theorem ty_tuple_int : (Ty.tuple == Ty.int) = false := rfl
@[simp] theorem ty_tuple_bool : (Ty.tuple == Ty.bool) = false := rfl
@[simp] theorem ty_tuple_str : (Ty.tuple == Ty.str) = false := rfl
@[simp] theorem ty_tuple_tuple : (Ty.tuple == Ty.tuple) = true := rfl
@[simp] theorem ty_tuple_list : (Ty.tuple == Ty.list) = false := rfl
@[simp] theorem ty_list_int : (Ty.list == Ty.int) = false := rfl
@[simp] theorem ty_list_bool : (Ty.list == Ty.bool) = false := rfl
@[simp] theorem ty_list_str : (Ty.list == Ty.str) = false := rfl
@[simp] theorem ty_list_tuple : (Ty.list == Ty.tuple) = false := rfl
@[simp] theorem ty_list_list : (Ty.list == Ty.list) = true := rfl
/-! primitives -/
theorem atD_nat {l : List D} {n : Nat} {v : D} (h : l[n]? = some v) : atD l (n : Int) = some v := by
  obtain ⟨hl, hv⟩ := List.getElem?_eq_some_iff.mp h
  unfold atD atI
  have : ixN l.length (n : Int) = some n := by unfold ixN; rw [if_pos (by omega), if_pos (by simpa using hl)]; simp
  rw [this]; exact h
@[simp ↓] theorem rAddI {i j : Int} : rBin .Add (.int i) (.int j) s Q = Q (.int (i + j)) s := rfl
@[simp ↓] theorem rAddS {i j : Str} : rBin .Add (.str i) (.str j) s Q = (i.length + j.length ≤ sizeLine ∧ Q (.str (i ++ j)) s) := rfl
@[simp ↓] theorem rAddT {i j : List D} : rBin .Add (.tup i) (.tup j) s Q = (i.length + j.length ≤ sizeLine ∧ Q (.tup (i ++ j)) s) := rfl
theorem rAddL_of {p q : Addr} {l m : List D} (h : s p = some (.lst l)) (h2 : s q = some (.lst m)) : rBin .Add (.ob p) (.ob q) s Q = (l.length + m.length ≤ sizeLine ∧ alloc s (.lst (l ++ m)) Q) :=
  propext ⟨fun ⟨l', m', a, b, c, d⟩ => by rw [h] at a; cases a; rw [h2] at b; cases b; exact ⟨c, d⟩, fun ⟨c, d⟩ => ⟨l, m, h, h2, c, d⟩⟩
@[simp ↓] theorem rSubI {i j : Int} : rBin .Sub (.int i) (.int j) s Q = Q (.int (i - j)) s := rfl
@[simp ↓] theorem rMulI {i j : Int} : rBin .Mult (.int i) (.int j) s Q = (mulOk i j ∧ Q (.int (i * j)) s) := rfl
theorem rMulL_of {p : Addr} {l : List D} {k : Int} (h : s p = some (.lst l)) : rBin .Mult (.ob p) (.int k) s Q = (-(2 ^ 63) ≤ k ∧ k < 2 ^ 63 ∧ l.length * k.toNat ≤ sizeLine ∧ alloc s (.lst (List.replicate k.toNat l).flatten) Q) :=
  propext ⟨fun ⟨l', a, c, d, f, g⟩ => by rw [h] at a; cases a; exact ⟨c, d, f, g⟩, fun ⟨c, d, f, g⟩ => ⟨l, h, c, d, f, g⟩⟩
@[simp ↓] theorem rDivI {i j : Int} : rBin .FloorDiv (.int i) (.int j) s Q = ((0 < j ∧ j < 1073741824) ∧ Q (.int (i / j)) s) := rfl
@[simp ↓] theorem rModI {i j : Int} : rBin .Mod (.int i) (.int j) s Q = (0 < j ∧ Q (.int (i % j)) s) := rfl
@[simp ↓] theorem rPow30 : rBin .Pow (.int 10) (.int 30) s Q = Q (.int 1000000000000000000000000000000) s := by
  show ((0 ≤ (30 : Int) ∧ (Builtin.Int.intBits 10 : Int) * 30 ≤ 2 ^ 27) ∧ Q (.int (10 ^ 30)) s) = _
  apply propext; constructor
  · exact fun h => h.2
  · exact fun h => ⟨⟨by decide, by decide⟩, h⟩
@[simp ↓] theorem rPow31 : rBin .Pow (.int 10) (.int 31) s Q = Q (.int 10000000000000000000000000000000) s := by
  show ((0 ≤ (31 : Int) ∧ (Builtin.Int.intBits 10 : Int) * 31 ≤ 2 ^ 27) ∧ Q (.int (10 ^ 31)) s) = _
  apply propext; constructor
  · exact fun h => h.2
  · exact fun h => ⟨⟨by decide, by decide⟩, h⟩
@[simp ↓] theorem rEqI {i j : Int} : rCmp .Eq (.int i) (.int j) s Q = Q (.bl (decide (i = j))) s := rfl
@[simp ↓] theorem rEqS {i j : Str} : rCmp .Eq (.str i) (.str j) s Q = Q (.bl (decide (i = j))) s := rfl
@[simp ↓] theorem rEqB {i j : Bool} : rCmp .Eq (.bl i) (.bl j) s Q = Q (.bl (decide (i = j))) s := rfl
@[simp ↓] theorem rEqNI {i : Int} : rCmp .Eq .non (.int i) s Q = Q (.bl false) s := rfl
@[simp ↓] theorem rNeI {i j : Int} : rCmp .NotEq (.int i) (.int j) s Q = Q (.bl !(decide (i = j))) s := rfl
@[simp ↓] theorem rNeS {i j : Str} : rCmp .NotEq (.str i) (.str j) s Q = Q (.bl !(decide (i = j))) s := rfl
@[simp ↓] theorem rNeB {i j : Bool} : rCmp .NotEq (.bl i) (.bl j) s Q = Q (.bl !(decide (i = j))) s := rfl
@[simp ↓] theorem rNeNN : rCmp .NotEq .non .non s Q = Q (.bl !true) s := rfl
@[simp ↓] theorem rNeIN {i : Int} : rCmp .NotEq (.int i) .non s Q = Q (.bl !false) s := rfl
@[simp ↓] theorem rNeNI {i : Int} : rCmp .NotEq .non (.int i) s Q = Q (.bl !false) s := rfl
@[simp ↓] theorem rLt {i j : Int} : rCmp .Lt (.int i) (.int j) s Q = Q (.bl (decide (i < j))) s := rfl
@[simp ↓] theorem rLe {i j : Int} : rCmp .LtE (.int i) (.int j) s Q = Q (.bl (decide (i ≤ j))) s := rfl
@[simp ↓] theorem rGt {i j : Int} : rCmp .Gt (.int i) (.int j) s Q = Q (.bl (decide (j < i))) s := rfl
@[simp ↓] theorem rGe {i j : Int} : rCmp .GtE (.int i) (.int j) s Q = Q (.bl (decide (j ≤ i))) s := rfl
@[simp ↓] theorem rIsN {x : D} : rCmp .Is x .non s Q = Q (.bl (isNon x)) s := rfl
@[simp ↓] theorem rIsNotN {x : D} : rCmp .IsNot x .non s Q = Q (.bl (!isNon x)) s := rfl
@[simp ↓] theorem rInS {c : Nat} {z : Str} : rCmp .In (.str ⟨#[c]⟩) (.str z) s Q = Q (.bl (decide (c ∈ z.cps.toList))) s := propext ⟨fun ⟨c', h, q⟩ => by cases h; exact q, fun q => ⟨c, rfl, q⟩⟩

@[simp] theorem at0 {v : D} {r : List D} : atD (v :: r) 0 = some v := atD_nat (n := 0) rfl
@[simp ↓] theorem rIdxT0 {v : D} {r : List D} : rIdx (.tup (v :: r)) (.int 0) s Q = Q v s := propext ⟨fun ⟨i, v, h, a, q⟩ => by cases h; rw [at0] at a; cases a; exact q, fun q => ⟨0, v, rfl, at0, q⟩⟩
@[simp] theorem at1 {x0 : D} {v : D} {r : List D} : atD (x0 :: v :: r) 1 = some v := atD_nat (n := 1) rfl
@[simp ↓] theorem rIdxT1 {x0 : D} {v : D} {r : List D} : rIdx (.tup (x0 :: v :: r)) (.int 1) s Q = Q v s := propext ⟨fun ⟨i, v, h, a, q⟩ => by cases h; rw [at1] at a; cases a; exact q, fun q => ⟨1, v, rfl, at1, q⟩⟩
@[simp] theorem at2 {x0 x1 : D} {v : D} {r : List D} : atD (x0 :: x1 :: v :: r) 2 = some v := atD_nat (n := 2) rfl
@[simp ↓] theorem rIdxT2 {x0 x1 : D} {v : D} {r : List D} : rIdx (.tup (x0 :: x1 :: v :: r)) (.int 2) s Q = Q v s := propext ⟨fun ⟨i, v, h, a, q⟩ => by cases h; rw [at2] at a; cases a; exact q, fun q => ⟨2, v, rfl, at2, q⟩⟩
@[simp] theorem at3 {x0 x1 x2 : D} {v : D} {r : List D} : atD (x0 :: x1 :: x2 :: v :: r) 3 = some v := atD_nat (n := 3) rfl
@[simp ↓] theorem rIdxT3 {x0 x1 x2 : D} {v : D} {r : List D} : rIdx (.tup (x0 :: x1 :: x2 :: v :: r)) (.int 3) s Q = Q v s := propext ⟨fun ⟨i, v, h, a, q⟩ => by cases h; rw [at3] at a; cases a; exact q, fun q => ⟨3, v, rfl, at3, q⟩⟩
@[simp] theorem at4 {x0 x1 x2 x3 : D} {v : D} {r : List D} : atD (x0 :: x1 :: x2 :: x3 :: v :: r) 4 = some v := atD_nat (n := 4) rfl
@[simp ↓] theorem rIdxT4 {x0 x1 x2 x3 : D} {v : D} {r : List D} : rIdx (.tup (x0 :: x1 :: x2 :: x3 :: v :: r)) (.int 4) s Q = Q v s := propext ⟨fun ⟨i, v, h, a, q⟩ => by cases h; rw [at4] at a; cases a; exact q, fun q => ⟨4, v, rfl, at4, q⟩⟩
@[simp] theorem at5 {x0 x1 x2 x3 x4 : D} {v : D} {r : List D} : atD (x0 :: x1 :: x2 :: x3 :: x4 :: v :: r) 5 = some v := atD_nat (n := 5) rfl
@[simp ↓] theorem rIdxT5 {x0 x1 x2 x3 x4 : D} {v : D} {r : List D} : rIdx (.tup (x0 :: x1 :: x2 :: x3 :: x4 :: v :: r)) (.int 5) s Q = Q v s := propext ⟨fun ⟨i, v, h, a, q⟩ => by cases h; rw [at5] at a; cases a; exact q, fun q => ⟨5, v, rfl, at5, q⟩⟩
@[simp] theorem at6 {x0 x1 x2 x3 x4 x5 : D} {v : D} {r : List D} : atD (x0 :: x1 :: x2 :: x3 :: x4 :: x5 :: v :: r) 6 = some v := atD_nat (n := 6) rfl
@[simp ↓] theorem rIdxT6 {x0 x1 x2 x3 x4 x5 : D} {v : D} {r : List D} : rIdx (.tup (x0 :: x1 :: x2 :: x3 :: x4 :: x5 :: v :: r)) (.int 6) s Q = Q v s := propext ⟨fun ⟨i, v, h, a, q⟩ => by cases h; rw [at6] at a; cases a; exact q, fun q => ⟨6, v, rfl, at6, q⟩⟩

theorem rIdxL_of {p : Addr} {l : List D} {i : Int} (h : s p = some (.lst l)) : rIdx (.ob p) (.int i) s Q = putQ (fun v => Q v s) (atD l i) := by
  unfold rIdx; simp only [h]
  exact propext ⟨fun ⟨i', v, h1, a, q⟩ => by cases h1; exact ⟨v, a, q⟩, fun ⟨v, a, q⟩ => ⟨i, v, rfl, a, q⟩⟩
@[simp ↓] theorem rIdxR {l : List D} {i : Int} : rIdx (.ro l) (.int i) s Q = putQ (fun v => Q v s) (atD l i) := 
  propext ⟨fun ⟨i', v, h1, a, q⟩ => by cases h1; exact ⟨v, a, q⟩, fun ⟨v, a, q⟩ => ⟨i, v, rfl, a, q⟩⟩
theorem rIdxT {l : List D} {i : Int} : rIdx (.tup l) (.int i) s Q = putQ (fun v => Q v s) (atD l i) := 
  propext ⟨fun ⟨i', v, h1, a, q⟩ => by cases h1; exact ⟨v, a, q⟩, fun ⟨v, a, q⟩ => ⟨i, v, rfl, a, q⟩⟩
theorem rIdxK_of {p : Addr} {kvs : List (Key × D)} {x : Str} (h : s p = some (.dK kvs)) : rIdx (.ob p) (.str x) s Q = putQ (fun v => Q v s) (valD kvs (.inr x)) := by
  unfold rIdx; simp only [h, dGet]
  exact propext ⟨fun ⟨v, h1, q⟩ => ⟨v, by simpa [keyD] using h1, q⟩, fun ⟨v, a, q⟩ => ⟨v, by simp [keyD, a], q⟩⟩
theorem rIdxD_of {p : Addr} {kvs : List (List Key × D)} {l : List D} (h : s p = some (.dT kvs)) : rIdx (.ob p) (.tup l) s Q = putQ (fun v => Q v s) ((keysD l).bind (valD kvs)) := by
  unfold rIdx; simp only [h, dGet]
  exact propext ⟨fun ⟨v, h1, q⟩ => ⟨v, by cases h2 : keysD l <;> simp_all, q⟩, fun ⟨v, a, q⟩ => ⟨v, by cases h2 : keysD l <;> simp_all, q⟩⟩
@[simp] theorem valD_nil {κ : Type} [DecidableEq κ] {k : κ} : valD ([] : List (κ × D)) k = none := rfl
@[simp] theorem valD_cons {κ : Type} [DecidableEq κ] {k j : κ} {v : D} {r : List (κ × D)} : valD ((j, v) :: r) k = if j = k then some v else valD r k := rfl
@[simp ↓] theorem rLenS {z : Str} : rBlt .len [.str z] s Q = (z.length ≤ sizeLine ∧ Q (.int z.length) s) := rfl
@[simp ↓] theorem rLenT {l : List D} : rBlt .len [.tup l] s Q = Q (.int l.length) s := propext ⟨fun ⟨l', h, q⟩ => by cases h; exact q, fun q => ⟨l, rfl, q⟩⟩
@[simp ↓] theorem rLenR {l : List D} : rBlt .len [.ro l] s Q = Q (.int l.length) s := propext ⟨fun ⟨l', h, q⟩ => by cases h; exact q, fun q => ⟨l, rfl, q⟩⟩
theorem rLenL_of {p : Addr} {l : List D} (h : s p = some (.lst l)) : rBlt .len [.ob p] s Q = Q (.int l.length) s :=
  propext ⟨fun ⟨l', h1, q⟩ => by rw [seq_of h] at h1; cases h1; exact q, fun q => ⟨l, seq_of h, q⟩⟩
theorem rListL_of {p : Addr} {l : List D} (h : s p = some (.lst l)) : rBlt .list [.ob p] s Q = alloc s (.lst l) Q :=
  propext ⟨fun ⟨l', h1, q⟩ => by rw [seq_of h] at h1; cases h1; exact q, fun q => ⟨l, seq_of h, q⟩⟩
theorem rTupleL_of {p : Addr} {l : List D} (h : s p = some (.lst l)) : rBlt .tuple [.ob p] s Q = Q (.tup l) s :=
  propext ⟨fun ⟨l', h1, q⟩ => by rw [h] at h1; cases h1; exact q, fun q => ⟨l, h, q⟩⟩
theorem rDict_of {p : Addr} {l : List (Key × D)} (h : s p = some (.dK l)) : rBlt .dict [.ob p] s Q = alloc s (.dK l) Q :=
  propext ⟨fun ⟨l', h1, q⟩ => by rw [h] at h1; cases h1; exact q, fun q => ⟨l, h, q⟩⟩
theorem rAll_of {p : Addr} {l : List Bool} (h : s p = some (.lst (l.map .bl))) : rBlt .all [.ob p] s Q = Q (.bl (l.all id)) s :=
  propext ⟨fun ⟨l', h1, q⟩ => by
    rw [h] at h1
    have h1 := Option.some.inj h1
    injection h1 with h1
    have : l = l' := (List.map_inj_right (fun a b e => by injection e)).mp h1
    subst this; exact q, fun q => ⟨l, h, q⟩⟩
@[simp ↓] theorem rMax {i j : Int} : rBlt .max [.int i, .int j] s Q = Q (.int (if j > i then j else i)) s := rfl
@[simp ↓] theorem rIntB {k : Bool} : rBlt .int [.bl k] s Q = Q (.int (if k then 1 else 0)) s := rfl
@[simp ↓] theorem rIntI {k : Int} : rBlt .int [.int k] s Q = Q (.int k) s := rfl
@[simp ↓] theorem rAbs {i : Int} : rBlt .abs [.int i] s Q = Q (.int (if i < 0 then -i else i)) s := rfl
@[simp ↓] theorem rSlcS {z : Str} {lo hi : Option Int} : rSlc (.str z) lo hi s Q = (z.length ≤ sizeLine ∧ Q (.str (cutS z lo hi)) s) := rfl
@[simp ↓] theorem rSlcT {z : List D} {lo hi : Option Int} : rSlc (.tup z) lo hi s Q = Q (.tup (cutD z lo hi)) s := rfl
@[simp ↓] theorem rSlcR {z : List D} {lo hi : Option Int} : rSlc (.ro z) lo hi s Q = alloc s (.lst (cutD z lo hi)) Q := rfl
theorem rSlcL_of {p : Addr} {l : List D} {lo hi : Option Int} (h : s p = some (.lst l)) : rSlc (.ob p) lo hi s Q = alloc s (.lst (cutD l lo hi)) Q :=
  propext ⟨fun ⟨l', h1, q⟩ => by rw [h] at h1; cases h1; exact q, fun q => ⟨l, h, q⟩⟩
theorem rApp_of {p : Addr} {l : List D} {y : D} (h : s p = some (.lst l)) : rBm .append (.ob p) [y] s Q = (l.length < sizeLine ∧ Q .non (up s p (.lst (l ++ [y])))) :=
  propext ⟨fun ⟨l', h1, q⟩ => by rw [h] at h1; cases h1; exact q, fun q => ⟨l, h, q⟩⟩
theorem rExt_of {p q : Addr} {l m : List D} (h : s p = some (.lst l)) (h2 : s q = some (.lst m)) : rBm .extend (.ob p) [.ob q] s Q = (l.length + m.length ≤ sizeLine ∧ Q .non (up s p (.lst (l ++ m)))) :=
  propext ⟨fun ⟨l', m', h1, h3, q⟩ => by rw [h] at h1; cases h1; rw [h2] at h3; cases h3; exact q, fun q => ⟨l, m, h, h2, q⟩⟩
theorem rGetK_of {p : Addr} {kvs : List (Key × D)} {x : Str} {d : D} (h : s p = some (.dK kvs)) : rBm .get (.ob p) [.str x, d] s Q = Q ((valD kvs (.inr x)).getD d) s := by
  unfold rBm; simp only [dGet, h, keyD]
  exact propext ⟨fun ⟨r, h1, q⟩ => by simp at h1; subst h1; exact q, fun q => ⟨_, rfl, q⟩⟩
theorem rGetT_of {p : Addr} {kvs : List (List Key × D)} {l : List D} {d : D} {k : List Key} (h : s p = some (.dT kvs)) (hk : keysD l = some k) : rBm .get (.ob p) [.tup l, d] s Q = Q ((valD kvs k).getD d) s := by
  unfold rBm; simp only [dGet, h, hk]
  exact propext ⟨fun ⟨r, h1, q⟩ => by simp at h1; subst h1; exact q, fun q => ⟨_, rfl, q⟩⟩
theorem bmApp_of {p : Addr} {l : List D} (h : s p = some (.lst l)) : bmOk .append (.ob p) s = True := eq_true ⟨p, l, rfl, h⟩
theorem bmExt_of {p : Addr} {l : List D} (h : s p = some (.lst l)) : bmOk .extend (.ob p) s = True := eq_true ⟨p, l, rfl, h⟩
theorem bmPop_of {p : Addr} {l : List D} (h : s p = some (.lst l)) : bmOk .pop (.ob p) s = True := eq_true ⟨p, l, rfl, h⟩
theorem bmIns_of {p : Addr} {l : List D} (h : s p = some (.lst l)) : bmOk .insert (.ob p) s = True := eq_true ⟨p, l, rfl, h⟩
theorem bmGetK_of {p : Addr} {l : List (Key × D)} (h : s p = some (.dK l)) : bmOk .get (.ob p) s = True := eq_true ⟨p, rfl, .inl ⟨l, h⟩⟩
theorem bmGetT_of {p : Addr} {l : List (List Key × D)} (h : s p = some (.dT l)) : bmOk .get (.ob p) s = True := eq_true ⟨p, rfl, .inr ⟨l, h⟩⟩
@[simp ↓] theorem bmJoin {z : Str} : bmOk .join (.str z) s = True := eq_true ⟨z, rfl⟩
theorem setIK_of {p : Addr} {l : List (Key × D)} {x : Str} {v : D} {K : S → Prop} (h : s p = some (.dK l)) : setI (.ob p) (.str x) v s K = (l.length < sizeLine ∧ K (up s p (.dK (putD l (.inr x) v)))) := by
  unfold setI; simp only [h]
  exact propext ⟨fun ⟨k, h1, a, q⟩ => by cases h1; exact ⟨a, q⟩, fun ⟨a, q⟩ => ⟨_, rfl, a, q⟩⟩
theorem setIT_of {p : Addr} {l : List (List Key × D)} {xs : List D} {v : D} {K : S → Prop} (h : s p = some (.dT l)) {k : List Key} (hk : keysD xs = some k) : setI (.ob p) (.tup xs) v s K = (l.length < sizeLine ∧ K (up s p (.dT (putD l k v)))) := by
  unfold setI; simp only [h]
  exact propext ⟨fun ⟨l', k', h1, h2, a, q⟩ => by cases h1; rw [hk] at h2; cases h2; exact ⟨a, q⟩, fun ⟨a, q⟩ => ⟨_, _, rfl, hk, a, q⟩⟩
theorem setIL_of {p : Addr} {l : List D} {i : Int} {v : D} {K : S → Prop} (h : s p = some (.lst l)) : setI (.ob p) (.int i) v s K = (∃ j, ixN l.length i = some j ∧ K (up s p (.lst (l.set j v)))) := by
  unfold setI; simp only [h]
  exact propext ⟨fun ⟨k, j, h1, a, q⟩ => by cases h1; exact ⟨j, a, q⟩, fun ⟨j, a, q⟩ => ⟨_, j, rfl, a, q⟩⟩
@[simp ↓] theorem itT {l : List D} {K : List D → (S → Prop) → Prop} : itemsOf false (.tup l) s K = K l (fun _ => True) := by
  have : (fun s' : S => seqOf s' (.tup l) = some l) = fun _ => True := by funext s'; exact eq_true rfl
  rw [← this]
  refine propext ⟨fun h => ?_, fun q => .inl ⟨l, rfl, q⟩⟩
  rcases h with ⟨l', h, q⟩ | ⟨z, h, q⟩
  · cases h; exact q
  · cases h
@[simp ↓] theorem itS {z : Str} {K : List D → (S → Prop) → Prop} : itemsOf false (.str z) s K = K (z.cps.toList.map fun c => .str ⟨#[c]⟩) (fun _ => True) := by
  refine propext ⟨fun h => ?_, fun q => .inr ⟨z, rfl, q⟩⟩
  rcases h with ⟨l', h, q⟩ | ⟨z, h, q⟩
  · cases h
  · cases h; exact q
theorem itL_of {p : Addr} {l : List D} {K : List D → (S → Prop) → Prop} (h : s p = some (.lst l)) : itemsOf false (.ob p) s K = K l (fun s' => s' p = some (.lst l)) := by
  have : (fun s' : S => seqOf s' (.ob p) = some l) = fun s' => s' p = some (.lst l) := by
    funext s'; apply propext
    constructor
    · intro h
      have h : (match s' p with | some (.lst l) => some l | _ => none) = some l := h
      split at h
      · rename_i h2; cases h; exact h2
      · cases h
    · intro h; exact seq_of h
  rw [← this]
  refine propext ⟨fun h1 => ?_, fun q => .inl ⟨l, seq_of h, q⟩⟩
  rcases h1 with ⟨l', h1, q⟩ | ⟨z, h1, q⟩
  · rw [seq_of h] at h1; cases h1; exact q
  · cases h1
@[simp ↓] theorem itR {n : Int} {K : List D → (S → Prop) → Prop} : itemsOf true (.int n) s K = (0 ≤ n ∧ n < 2 ^ 62 ∧ K ((List.range n.toNat).map fun k => .int (k : Nat)) fun _ => True) :=
  propext ⟨fun ⟨l', h, q⟩ => by cases h; exact q, fun q => ⟨n, rfl, q⟩⟩
theorem wE_lc {r : Bool} {elt it : Ex} {i : Nat} {c : Exo} : wE T C (.lc r elt i it c) e s Q X = wE T C it e s (fun x s1 => itemsOf r x s1 fun l ok => l.length ≤ sizeLine ∧
      wItems (fun d s2 K => wB T C c (e.set i (some d)) s2 fun b s3 => if b = true then wE T C elt (e.set i (some d)) s3 (fun y s4 => K (some y) s4) (fun _ _ => False) else K none s3) ok l [] s1
        fun acc s5 => alloc s5 (.lst acc) Q) X := rfl
theorem ins_of {p : Addr} {c : Nat} {fs : List (Nat × D)} (h : s p = some (.ins c fs)) :
    (∀ f Q, fldQ f Q (.ob p) s = look fs f fun v => Q v s) ∧ (∀ T f d K, setfQ T f d K (.ob p) s = (T.fld c f = true ∧ fs.length < 1000 ∧ K (up s p (.ins c (putA f d fs))))) := ⟨fun _ _ => fldQ_of h, fun _ _ _ _ => setfQ_of h⟩
theorem lst_of {p : Addr} {l : List D} (h : s p = some (.lst l)) :
    (∀ i Q, rIdx (.ob p) (.int i) s Q = putQ (fun v => Q v s) (atD l i)) ∧ (∀ Q, rBlt .len [.ob p] s Q = Q (.int l.length) s) ∧ (∀ Q, rBlt .list [.ob p] s Q = alloc s (.lst l) Q) ∧
    (∀ Q, rBlt .tuple [.ob p] s Q = Q (.tup l) s) ∧ (∀ lo hi Q, rSlc (.ob p) lo hi s Q = alloc s (.lst (cutD l lo hi)) Q) ∧ (∀ y Q, rBm .append (.ob p) [y] s Q = (l.length < sizeLine ∧ Q .non (up s p (.lst (l ++ [y]))))) ∧
    bmOk .append (.ob p) s = True ∧ bmOk .extend (.ob p) s = True ∧ bmOk .pop (.ob p) s = True ∧ bmOk .insert (.ob p) s = True ∧
    (∀ i v K, setI (.ob p) (.int i) v s K = (∃ j, ixN l.length i = some j ∧ K (up s p (.lst (l.set j v))))) ∧ (∀ K, itemsOf false (.ob p) s K = K l (fun s' => s' p = some (.lst l))) ∧
    (∀ T C ts e N Y, unpQ T C ts e N Y (.ob p) s = (l.length = ts.length ∧ wTgs T C ts l e s N Y)) ∧
    (∀ k Q, rBin .Mult (.ob p) (.int k) s Q = (-(2 ^ 63) ≤ k ∧ k < 2 ^ 63 ∧ l.length * k.toNat ≤ sizeLine ∧ alloc s (.lst (List.replicate k.toNat l).flatten) Q)) :=
  ⟨fun _ _ => rIdxL_of h, fun _ => rLenL_of h, fun _ => rListL_of h, fun _ => rTupleL_of h, fun _ _ _ => rSlcL_of h, fun _ _ => rApp_of h, bmApp_of h, bmExt_of h, bmPop_of h, bmIns_of h,
    fun _ _ _ => setIL_of h, fun _ => itL_of h, fun _ _ _ _ _ _ => unpQ_of h, fun _ _ => rMulL_of h⟩
theorem dct_of {p : Addr} {kvs : List (List Key × D)} (h : s p = some (.dT kvs)) :
    (∀ (c : Int) (k : Str) d Q, rBm .get (.ob p) [.tup [.int c, .str k], d] s Q = Q ((valD kvs [.inl c, .inr k]).getD d) s) ∧ bmOk .get (.ob p) s = True ∧
    (∀ (c : Int) (k : Str) v K, setI (.ob p) (.tup [.int c, .str k]) v s K = (kvs.length < sizeLine ∧ K (up s p (.dT (putD kvs [.inl c, .inr k] v))))) ∧
    (∀ (c k : Int) v K, setI (.ob p) (.tup [.int c, .int k]) v s K = (kvs.length < sizeLine ∧ K (up s p (.dT (putD kvs [.inl c, .inl k] v))))) ∧
    (∀ (c k : Int) Q, rIdx (.ob p) (.tup [.int c, .int k]) s Q = putQ (fun v => Q v s) (valD kvs [.inl c, .inl k])) :=
  ⟨fun _ _ _ _ => rGetT_of h rfl, bmGetT_of h, fun _ _ _ _ => setIT_of h rfl, fun _ _ _ _ => setIT_of h rfl, fun _ _ _ => rIdxD_of h⟩
theorem dic_of {p : Addr} {kvs : List (Key × D)} (h : s p = some (.dK kvs)) :
    (∀ x Q, rIdx (.ob p) (.str x) s Q = putQ (fun v => Q v s) (valD kvs (.inr x))) ∧ (∀ Q, rBlt .dict [.ob p] s Q = alloc s (.dK kvs) Q) ∧
    (∀ x d Q, rBm .get (.ob p) [.str x, d] s Q = Q ((valD kvs (.inr x)).getD d) s) ∧ bmOk .get (.ob p) s = True ∧
    (∀ x v K, setI (.ob p) (.str x) v s K = (kvs.length < sizeLine ∧ K (up s p (.dK (putD kvs (.inr x) v))))) :=
  ⟨fun _ _ => rIdxK_of h, fun _ => rDict_of h, fun _ _ _ => rGetK_of h, bmGetK_of h, fun _ _ _ => setIK_of h⟩
end
end MH
set_option Elab.async false
set_option linter.all false
set_option maxRecDepth 100000
/-! The plain model and the shared functions. -/
namespace MH
open PySem L2
inductive Wish where
  | get | set (i : Int) | add (i : Int)
  deriving DecidableEq
def Wish.d : Wish → D
  | .get => .tup [.str q_get]
  | .set i => .tup [.str q_set, .int i]
  | .add i => .tup [.str q_add, .int i]
def wishNum (i : Int) : Int := if i / 3 % 2 = 1 then i / 6 % 2000000000000000000000000000001 - 1000000000000000000000000000000 else i / 6 % 7 - 3
def wishOf (i : Int) : Wish := if i % 3 = 0 then .get else if i % 3 = 1 then .set (wishNum i) else .add (wishNum i)
def doneW (a : Int) : Wish → Int × Int
  | .get => (a, a)
  | .set i => (i, a)
  | .add i => (a + i, a + i)
@[simp] theorem q1 : (q_set = q_get) = False := by decide
@[simp] theorem q2 : (q_add = q_get) = False := by decide
@[simp] theorem q3 : (q_add = q_set) = False := by decide
def cellAt (ns : List Int) (k : Nat) : Int := ns.getD k 0
theorem Ext.up {s s1 : S} {p : Addr} {o : O} (x : Ext s s1) (h : s1 p = none) : Ext s (MH.up s1 p o) := x.trans (.new h)
@[simp] theorem bits_10' : (Builtin.Int.intBits 10 : Int) = 4 := by decide
theorem mod3 (i : Int) : i % 3 = 0 ∨ i % 3 = 1 ∨ i % 3 = 2 := by omega
theorem l_wish_ok {T : Tab} {n : Nat} (h : T.fn f_l_wish = some fn_l_wish) {i : Int} {s : S} {Q : K1} {X : XP} (hQ : ∀ s', Ext s s' → Q (wishOf i).d s') :
    wCall T (n + 1) f_l_wish [.int i] s Q X := by
  refine ⟨fn_l_wish, h, rfl, ?_⟩
  simp only [fn_l_wish, start, List.map, List.length, List.replicate, List.cons_append, List.nil_append]
  simp [↓wSs_cons', ↓wSs_nil]
  split <;> rename_i hc <;> (
    intro p hp
    rcases mod3 i with e | e | e <;> rw [e] <;>
    · rw [rIdxL_of up_same]
      refine ⟨_, rfl, ?_⟩
      have := hQ _ (Ext.new (o := (.lst [.tup [.str q_get], .tup [.str q_set, .int (wishNum i)], .tup [.str q_add, .int (wishNum i)]])) hp)
      simpa [wishOf, wishNum, hc, e, Wish.d] using this)
theorem done_ok {T : Tab} {n : Nat} (h : T.fn f_done = some fn_done) {i : Int} {w : Wish} {s : S} {Q : K1} {X : XP} (hQ : Q (.tup [.int (doneW i w).1, .int (doneW i w).2]) s) :
    wCall T (n + 1) f_done [.int i, w.d] s Q X := by
  refine ⟨fn_done, h, rfl, ?_⟩
  simp only [fn_done, start, List.map, List.length, List.replicate, List.cons_append, List.nil_append]
  cases w <;> simpa [↓wSs_cons', ↓wSs_nil, Wish.d, doneW] using hQ
theorem l_done_ok {T : Tab} {n : Nat} (h : T.fn f_l_done = some fn_l_done) {i : Int} {w : Wish} {s : S} {Q : K1} {X : XP} (hQ : Q (.tup [.int (doneW i w).1, .int (doneW i w).2]) s) :
    wCall T (n + 1) f_l_done [.int i, w.d] s Q X := by
  refine ⟨fn_l_done, h, rfl, ?_⟩
  simp only [fn_l_done, start, List.map, List.length, List.replicate, List.cons_append, List.nil_append]
  cases w <;> simpa [↓wSs_cons', ↓wSs_nil, Wish.d, doneW] using hQ
theorem l_cell_at_ok {T : Tab} {n : Nat} (h : T.fn f_l_cell_at = some fn_l_cell_at) {ns : List Int} {k : Nat} {s : S} {Q : K1} {X : XP} (hQ : Q (.int (cellAt ns k)) s) :
    wCall T (n + 1) f_l_cell_at [.ro (ns.map .int), .int k] s Q X := by
  refine ⟨fn_l_cell_at, h, rfl, ?_⟩
  simp only [fn_l_cell_at, start, List.map, List.length, List.replicate, List.cons_append, List.nil_append]
  simp [↓wSs_cons', ↓wSs_nil]
  split
  · rename_i hc
    refine ⟨.int (cellAt ns k), ?_, hQ⟩
    refine atD_nat ?_
    simp [cellAt, List.getElem?_eq_getElem hc]
  · rename_i hc
    have : cellAt ns k = 0 := by simp only [cellAt]; rw [List.getD_eq_getElem?_getD, List.getElem?_eq_none (by omega)]; rfl
    rw [← this]; exact hQ
end MH
set_option Elab.async false
set_option linter.all false
set_option maxRecDepth 100000
/-! The keys of a law. -/
namespace MH
open PySem L2
def mkS (l : List Nat) : Str := ⟨l.toArray⟩
theorem mkS_app {l m : List Nat} : mkS l ++ mkS m = mkS (l ++ m) := by
  show Str.append _ _ = _
  simp [mkS, Str.append]
@[simp] theorem mkS_len {l : List Nat} : (mkS l).length = l.length := by simp [mkS, Str.length]
theorem mkS_cut {l : List Nat} {k : Int} (h : 0 ≤ k) : cutS (mkS l) none (some k) = mkS (l.take k.toNat) := by
  simp only [cutS, mkS, HT.sIx, Str.length, List.size_toArray, Nat.sub_zero, List.drop_zero]
  rw [if_neg (by omega)]
  simp [List.take_eq_take_iff]
theorem mkS_cut2 {l : List Nat} {k : Int} (h : 0 ≤ k) : cutS (mkS l) (some k) none = mkS (l.drop k.toNat) := by
  simp only [cutS, mkS, HT.sIx, Str.length, List.size_toArray, Nat.sub_zero, List.drop_zero]
  rw [if_neg (by omega)]
  simp only [Str.mk.injEq, Array.mk.injEq]
  rw [List.take_of_length_le (by simp)]
  by_cases h2 : k.toNat ≤ l.length
  · rw [Nat.min_eq_left h2]
  · rw [Nat.min_eq_right (by omega), List.drop_eq_nil_of_le (Nat.le_refl _), List.drop_eq_nil_of_le (by omega)]
theorem mkS_inj {l m : List Nat} (h : mkS l = mkS m) : l = m := by
  have := congrArg (fun x : Str => x.cps.toList) h
  simpa [mkS] using this
def abcL : List Nat := (List.range 26).map (97 + ·)
theorem abc_eq : q_abcdefghijklmnopqrstuvwxyz = mkS abcL := by decide +kernel
theorem qw_eq : q_qwertyui = mkS [113, 119, 101, 114, 116, 121, 117, 105] := by decide +kernel
theorem abc_at {s : S} {Q : K1} {j : Int} (h : 0 ≤ j ∧ j < 26) (q : Q (.str (mkS [97 + j.toNat])) s) : rIdx (.str (mkS abcL)) (.int j) s Q := by
  refine ⟨j, 97 + j.toNat, rfl, by simp [abcL], ?_, q⟩
  have hl : (mkS abcL).cps.toList = abcL := by simp [mkS]
  have ha : abcL.length = 26 := by simp [abcL]
  rw [hl]
  unfold atI ixN
  rw [ha, if_pos h.1, if_pos (by omega)]
  show abcL[j.toNat]? = _
  have : j.toNat < 26 := by omega
  simp [abcL, this]
theorem glued_fold : ∀ (l : List Nat) (a : Array Nat), (l.map fun c => mkS [c]).foldl (fun acc p => acc ++ (PySem.Str.ofString "").cps ++ p.cps) a = a ++ l.toArray
  | [], a => by simp
  | c :: l, a => by
    have e : (PySem.Str.ofString "").cps = #[] := by decide +kernel
    rw [List.map_cons, List.foldl_cons, glued_fold l, e]
    simp [mkS, Array.append_assoc]
theorem glued_nil (l : List Nat) : Txt.join (PySem.Str.ofString "") (l.map fun c => mkS [c]) = mkS l := by
  cases l with
  | nil => rfl
  | cons c l =>
    show (⟨List.foldl _ _ ((List.map _ l))⟩ : Str) = _
    rw [glued_fold]
    simp [mkS]
theorem strsD_map {α : Type} (f : α → Str) : ∀ l : List α, strsD (l.map fun a => D.str (f a)) = some (l.map f)
  | [] => rfl
  | a :: l => by show (strsD (l.map fun a => D.str (f a))).map _ = _; rw [strsD_map f l]; rfl
def restL (i : Int) : List Nat := (List.range (i / 6 % 8).toNat).map fun (k : Nat) => 97 + ((i / 432 / 26 + 5 * (k : Int)) % 26).toNat
def keysL (i : Int) : List (List Nat) :=
  if i / 432 % 3 = 1 then (List.range (1 + i % 6).toNat).map fun (k : Nat) => (restL i ++ [113, 119, 101, 114, 116, 121, 117, 105]).take (k + 1)
  else (List.range (1 + i % 6).toNat).map fun (k : Nat) => (restL i).take (i / 48 % (i / 6 % 8 + 1)).toNat ++ [97 + ((i / 432 + (k : Int)) % 26).toNat] ++ (restL i).drop (i / 48 % (i / 6 % 8 + 1)).toNat
def keysOf (i : Int) : List Str := (keysL i).map mkS
theorem l_keys_ok {T : Tab} {n : Nat} (h : T.fn f_l_keys = some fn_l_keys) {i : Int} {s : S} {Q : K1} {X : XP}
    (hQ : ∀ p s1 s', Ext s s1 → s1 p = none → s' = up s1 p (.lst ((keysOf i).map .str)) → Q (.ob p) s') : wCall T (n + 1) f_l_keys [.int i] s Q X := by
  refine ⟨fn_l_keys, h, rfl, ?_⟩
  simp only [fn_l_keys, start, List.map, List.length, List.replicate, List.cons_append, List.nil_append, abc_eq, qw_eq]
  iterate 5
    refine wSs_cons fun N' hN => ?_
    simp
    try (refine ⟨by omega, ?_⟩)
    apply hN; clear hN N'
  refine wSs_cons fun N' hN => ?_
  simp [wE_lc]
  refine ⟨by omega, by omega, by omega, ?_⟩
  have e0 : (i / 6 % 8).toNat = (i / 6 % 8).toNat := rfl
  refine wItems_map (List.range (i / 6 % 8).toNat) (fun (k : Nat) => D.int (k : Nat)) (fun (k : Nat) => D.str (mkS [97 + ((i / 432 / 26 + 5 * (k : Int)) % 26).toNat])) (fun _ _ => trivial) ?_ ?_
  · intro k s1 K hk e1 hK
    simp
    exact abc_at (by omega) (hK _ (Ext.refl _))
  intro s1 x1 p hp
  refine ⟨_, _, up_same, strsD_map _ _, by
    have : (PySem.Str.ofString "").length = 0 := by decide +kernel
    rw [List.map_map, this]; simp [Function.comp_def, List.map_const']; omega, ?_⟩
  apply hN; clear hN N'
  have x2 := x1.up (o := .lst (List.map (fun (k : Nat) => D.str (mkS [97 + ((i / 432 / 26 + 5 * (k : Int)) % 26).toNat])) (List.range (i / 6 % 8).toNat))) hp
  generalize up s1 p _ = s2 at x2 ⊢
  have e : Txt.join (PySem.Str.ofString "") (List.map (fun k : Nat => mkS [97 + ((i / 432 / 26 + 5 * (k : Int)) % 26).toNat]) (List.range (i / 6 % 8).toNat)) = mkS (restL i) := by
    rw [← glued_nil, restL, List.map_map]; rfl
  rw [e]
  have hr : (restL i).length = (i / 6 % 8).toNat := by simp [restL]
  refine wSs_cons fun N' hN => ?_
  simp [wE_lc, mkS_app, hr]
  split
  · rename_i hc
    refine wSs_cons fun N' hN => ?_
    simp [wE_lc, mkS_app, hr]
    refine ⟨by omega, by omega, by omega, ?_⟩
    refine wItems_map (List.range (1 + i % 6).toNat) (fun (k : Nat) => D.int (k : Nat)) (fun (k : Nat) => D.str (mkS ((restL i ++ [113, 119, 101, 114, 116, 121, 117, 105]).take (k + 1)))) (fun _ _ => trivial) ?_ ?_
    · intro k s1 K hk e1 hK
      simp [mkS_app, hr]
      rw [mkS_cut (by omega), show ((k : Int) + 1).toNat = k + 1 by omega]
      exact ⟨by omega, hK _ (Ext.refl _)⟩
    · intro s3 x3 p hp
      refine hQ p s3 _ (x2.trans x3) hp ?_
      simp [keysOf, keysL, hc]; rfl
  · rename_i hc
    apply hN; clear hN N'
    refine wSs_cons fun N' hN => ?_
    simp [wE_lc, mkS_app, hr]
    refine ⟨by omega, by omega, by omega, ?_⟩
    refine wItems_map (List.range (1 + i % 6).toNat) (fun (k : Nat) => D.int (k : Nat)) (fun (k : Nat) => D.str (mkS ((restL i).take (i / 48 % (i / 6 % 8 + 1)).toNat ++ [97 + ((i / 432 + (k : Int)) % 26).toNat] ++ (restL i).drop (i / 48 % (i / 6 % 8 + 1)).toNat))) (fun _ _ => trivial) ?_ ?_
    · intro k s1 K hk e1 hK
      simp [mkS_app, hr]
      have h0 : 0 ≤ i / 48 % (i / 6 % 8 + 1) := Int.emod_nonneg _ (by omega)
      have h1 : i / 48 % (i / 6 % 8 + 1) < (i / 6 % 8 + 1) := Int.emod_lt_of_pos _ (by omega)
      rw [mkS_cut h0, mkS_cut2 h0]
      refine ⟨by omega, abc_at (by omega) ?_⟩
      simp only [rAddS, mkS_app, mkS_len, List.length_take, List.length_append, List.length_drop, hr, List.length_singleton, le_line]
      exact ⟨by omega, by omega, by omega, hK _ (Ext.refl _)⟩
    · intro s3 x3 p hp
      refine hQ p s3 _ (x2.trans x3) hp ?_
      simp [keysOf, keysL, hc]; rfl
structure KeysOk (ks : List Str) : Prop where
  ne : 1 ≤ ks.length
  le : ks.length ≤ 6
  nd : ks.Nodup
  key : ∀ k ∈ ks, 1 ≤ k.length ∧ k.length ≤ 8 ∧ ∀ c ∈ k.cps.toList, 97 ≤ c ∧ c < 123
theorem restL_len (i : Int) : (restL i).length = (i / 6 % 8).toNat := by simp [restL]
theorem restL_mem (i : Int) : ∀ c ∈ restL i, 97 ≤ c ∧ c < 123 := by
  intro c hc
  obtain ⟨k, _, rfl⟩ := List.mem_map.mp hc
  omega
theorem keysOf_ok (i : Int) : KeysOk (keysOf i) := by
  have hl : (keysL i).length = (1 + i % 6).toNat := by unfold keysL; split <;> simp
  refine ⟨by simp [keysOf, hl]; omega, by simp [keysOf, hl]; omega, ?_, ?_⟩
  · rw [keysOf]
    refine List.Pairwise.map _ (R := (· ≠ ·)) (fun a b h e => h (mkS_inj e)) ?_
    unfold keysL
    split
    · rename_i hc
      refine List.pairwise_map.mpr ?_
      refine List.Pairwise.imp_of_mem ?_ (List.nodup_range (n := (1 + i % 6).toNat))
      intro a b ha hb hne e
      have := congrArg List.length e
      simp [restL_len] at this
      rw [List.mem_range] at ha hb
      omega
    · rename_i hc
      refine List.pairwise_map.mpr ?_
      refine List.Pairwise.imp_of_mem ?_ (List.nodup_range (n := (1 + i % 6).toNat))
      intro a b ha hb hne e
      rw [List.mem_range] at ha hb
      simp only [List.append_assoc, List.append_cancel_left_eq, List.singleton_append, List.cons.injEq] at e
      omega
  · intro k hk
    obtain ⟨l, hl, rfl⟩ := List.mem_map.mp hk
    have hm : (mkS l).cps.toList = l := by simp [mkS]
    rw [hm, mkS_len]
    unfold keysL at hl
    split at hl
    · obtain ⟨j, hj, rfl⟩ := List.mem_map.mp hl
      rw [List.mem_range] at hj
      simp [restL_len]
      refine ⟨?_, fun c hc => ?_⟩
      · omega
      rcases List.mem_append.mp (List.mem_of_mem_take hc) with h | h
      · exact restL_mem i c h
      · simp at h; omega
    · obtain ⟨j, hj, rfl⟩ := List.mem_map.mp hl
      rw [List.mem_range] at hj
      refine ⟨?_, ?_, fun c hc => ?_⟩
      · simp
        omega
      · have h1 : i / 48 % (i / 6 % 8 + 1) < (i / 6 % 8 + 1) := Int.emod_lt_of_pos _ (by omega)
        simp [restL_len]; omega
      simp only [List.append_assoc, List.mem_append, List.mem_singleton] at hc
      rcases hc with h | h | h
      · exact restL_mem i c (List.mem_of_mem_take h)
      · omega
      · exact restL_mem i c (List.mem_of_mem_drop h)
end MH
set_option Elab.async false
set_option linter.all false
set_option maxRecDepth 100000
/-! Alike: two things of the same data. -/
namespace MH
open PySem L2
inductive Lf : Nat → PyData → Prop where
  | int {n : Nat} (i : Int) : Lf (n + 1) (.int i)
  | str {n : Nat} (x : Str) : Lf (n + 1) (.str x)
  | tup {n : Nat} {ds : List PyData} : (∀ d ∈ ds, Lf n d) → ds.length ≤ 16777216 → Lf (n + 1) (.tuple ds)
  | lst {n : Nat} {ds : List PyData} : (∀ d ∈ ds, Lf n d) → ds.length ≤ 16777216 → Lf (n + 1) (.list ds)
theorem Snaps.len {s : S} : ∀ {l : List D} {ds : List PyData}, Snaps s l ds → l.length = ds.length
  | _, _, .nil => rfl
  | _, _, .cons _ h => by simp [h.len]
theorem Snaps.get {s : S} : ∀ {l : List D} {ds : List PyData}, Snaps s l ds → ∀ {k : Nat} (h : k < ds.length), ∃ v, l[k]? = some v ∧ Snap s v ds[k]
  | _, _, .nil, k, h => by simp at h
  | _, _, .cons a r, 0, h => ⟨_, rfl, a⟩
  | _, _, .cons a r, k + 1, h => by
    obtain ⟨v, h1, h2⟩ := r.get (k := k) (by simpa using h)
    exact ⟨v, by simpa using h1, by simpa using h2⟩
/-- the loop of alike -/
theorem alike_all {T : Tab} {n d : Nat} {X : XP} {x y : D} {l m : List D} {ds : List PyData} {s : S} {Q : K1}
    (ih : ∀ t, t ∈ ds → ∀ (x y : D) (s : S) (Q : K1), Snap s x t → Snap s y t → (∀ s', Ext s s' → Q (.bl true) s') → wCall T (n + d) f_l_alike [x, y] s Q (fun _ _ => False))
    (hl : Snaps s l ds) (hm : Snaps s m ds) (hx : ∀ s' (i : Int) Q, Ext s s' → rIdx x (.int i) s' Q = putQ (fun v => Q v s') (atD l i))
    (hy : ∀ s' (i : Int) Q, Ext s s' → rIdx y (.int i) s' Q = putQ (fun v => Q v s') (atD m i)) (hle : ds.length ≤ 16777216) (hQ : ∀ s', Ext s s' → Q (.bl true) s')
    (hb : ∀ Q, rBlt .len [y] s Q = Q (.int ds.length) s) :
    wE T (wCall T (n + d)) (.blt .all (.cons (.lc true (.call f_l_alike (.cons (.idx (.loc 0) (.loc 2)) (.cons (.idx (.loc 1) (.loc 2)) .nil))) 2 (.blt .len (.cons (.loc 1) .nil)) .no) .nil))
      [some x, some y, none] s Q X := by
  simp [wE_lc, hb]
  refine ⟨by omega, by omega, ?_⟩
  refine wItems_map (List.range ds.length) (fun (k : Nat) => D.int (k : Nat)) (fun _ => D.bl true) (fun _ _ => trivial) ?_ ?_
  · intro k s1 K hk x1 hK
    have hk : k < ds.length := List.mem_range.mp hk
    obtain ⟨v, v1, v2⟩ := hl.get hk
    obtain ⟨w, w1, w2⟩ := hm.get hk
    simp [hx _ _ _ x1, hy _ _ _ x1, atD_nat v1, atD_nat w1]
    exact ih _ (List.getElem_mem hk) v w s1 _ (v2.ext x1) (w2.ext x1) fun s2 x2 => hK s2 x2
  · intro s1 x1 p hp
    have e : List.map (fun _ => D.bl true) (List.range ds.length) = (List.replicate ds.length true).map .bl := by simp [List.map_const']
    rw [e, rAll_of up_same]
    have : (List.replicate ds.length true).all id = true := by simp
    rw [this]
    exact hQ _ (x1.up hp)
theorem alike_ok {T : Tab} (h : T.fn f_l_alike = some fn_l_alike) {n : Nat} : ∀ (d : Nat) {X : XP} {t : PyData}, Lf d t → ∀ {x y : D} {s : S} {Q : K1},
    Snap s x t → Snap s y t → (∀ s', Ext s s' → Q (.bl true) s') → wCall T (n + d) f_l_alike [x, y] s Q X := by
  intro d
  induction d with
  | zero => intro X t ht; cases ht
  | succ d ih =>
    intro X t ht x y s Q hx hy hQ
    refine ⟨fn_l_alike, h, rfl, ?_⟩
    simp only [fn_l_alike, start, List.map, List.length, List.replicate, List.cons_append, List.nil_append]
    cases ht with
    | int i =>
      cases hx; cases hy
      simp [↓wSs_cons', ↓wSs_nil, isTs, isT]
      exact hQ s (Ext.refl s)
    | str i =>
      cases hx; cases hy
      simp [↓wSs_cons', ↓wSs_nil, isTs, isT]
      exact hQ s (Ext.refl s)
    | tup hd hle =>
      rename_i ds
      cases hx with
      | tup hl =>
        rename_i l
        cases hy with
        | tup hm =>
          rename_i m
          refine wSs_cons fun N' hN => ?_
          simp [isTs, isT]; clear hN
          refine wSs_cons fun N' hN => ?_
          simp [isTs, isT]; apply hN; clear hN
          refine wSs_cons fun N' hN => ?_
          simp [hl.len, hm.len]; apply hN; clear hN
          refine wSs_cons fun N' hN => ?_
          rw [wS_ret]
          exact alike_all (fun t ht x y s Q a b c => ih (hd t ht) a b c) hl hm (fun s' i Q _ => rIdxT) (fun s' i Q _ => rIdxT) hle hQ (fun Q => by rw [rLenT, hm.len])
    | lst hd hle =>
      rename_i ds
      cases hx with
      | lst ha hl =>
        rename_i a l
        cases hy with
        | lst hb hm =>
          rename_i b m
          refine wSs_cons fun N' hN => ?_
          simp [isTs, isT, ha, hb]; clear hN
          refine wSs_cons fun N' hN => ?_
          simp [isTs, isT, ha, hb]; apply hN; clear hN
          refine wSs_cons fun N' hN => ?_
          simp [↓lst_of ha, ↓lst_of hb, hl.len, hm.len]; apply hN; clear hN
          refine wSs_cons fun N' hN => ?_
          rw [wS_ret]
          exact alike_all (fun t ht x y s Q a b c => ih (hd t ht) a b c) hl hm (fun s' i Q x => rIdxL_of (x _ _ ha)) (fun s' i Q x => rIdxL_of (x _ _ hb)) hle hQ (fun Q => by rw [rLenL_of hb, hm.len])
end MH
set_option Elab.async false
set_option linter.all false
set_option maxRecDepth 100000
/-! Marks: a caller's last call. -/
namespace MH
open PySem L2
abbrev J3 := Int × Int × Int
def mD (t : J3) : D := .tup [.int t.1, .int t.2.1, .int t.2.2]
def le3 (x y : J3) : Bool := !lexI [y.1, y.2.1, y.2.2] [x.1, x.2.1, x.2.2]
theorem le3_iff {x y : J3} : le3 x y = true ↔ ¬ (y.1 < x.1 ∨ (y.1 = x.1 ∧ (y.2.1 < x.2.1 ∨ (y.2.1 = x.2.1 ∧ y.2.2 < x.2.2)))) := by
  simp only [le3, lexI, Bool.not_eq_true', ← Bool.not_eq_true]
  by_cases h1 : y.1 = x.1 <;> by_cases h2 : y.2.1 = x.2.1 <;> by_cases h3 : y.2.2 = x.2.2 <;> simp [h1, h2, h3]
def sortM (ts : List J3) : List J3 := ts.mergeSort le3
theorem sortM_is {us ts : List J3} (p : us.Perm ts) (w : us.Pairwise fun x y => lexI [y.1, y.2.1, y.2.2] [x.1, x.2.1, x.2.2] = false) : us = sortM ts := by
  refine List.Perm.eq_of_pairwise (le := fun x y => le3 x y = true) ?_ ?_ ?_ (p.trans (List.mergeSort_perm ts le3).symm)
  · intro a b _ _ h1 h2
    rw [le3_iff] at h1 h2
    obtain ⟨a1, a2, a3⟩ := a
    obtain ⟨b1, b2, b3⟩ := b
    simp only [Prod.mk.injEq] at *
    omega
  · exact w.imp fun h => by simp [le3, h]
  · refine List.pairwise_mergeSort (fun a b c h1 h2 => ?_) (fun a b => ?_) ts
    · rw [le3_iff] at *; omega
    · rw [Bool.or_eq_true, le3_iff, le3_iff]; omega
def markOf : List J3 → Int → Int × Int
  | [], _ => (0, 0)
  | t :: r, c => if t.1 = c then t.2 else markOf r c
def markedM (m : List J3) (c n t : Int) : List J3 := sortM (m.filter (fun x => decide (x.1 ≠ c)) ++ [(c, n, t)])
theorem markOf_skip : ∀ {pre post : List J3} {c : Int}, (∀ t ∈ pre, t.1 ≠ c) → markOf (pre ++ post) c = markOf post c
  | [], _, _, _ => rfl
  | t :: pre, post, c, h => by
    show (if t.1 = c then t.2 else markOf (pre ++ post) c) = _
    rw [if_neg (h t (by simp)), markOf_skip fun u hu => h u (by simp [hu])]
section
variable {T : Tab} {n : Nat} {m : List J3} {c : Int} {s : S} {Q : K1} {X : XP}
theorem mark_of_body (hQ : Q (.tup [.int (markOf m c).1, .int (markOf m c).2]) s) :
    wSs T (wCall T n) fn_mark_of.body (start fn_mark_of [.tup (m.map mD), .int c]) s (fun _ s' => Q .non s') Q (fun c _ => X c) := by
  simp only [fn_mark_of, start, List.map, List.length, List.replicate, List.cons_append, List.nil_append]
  refine wSs_cons fun N' hN => ?_
  simp
  refine wFor_map m mD (fun pre e s1 => s1 = s ∧ (∃ x y z, e = [some (.tup (m.map mD)), some (.int c), x, y, z]) ∧ ∀ t ∈ pre, t.1 ≠ c) ⟨rfl, ⟨_, _, _, rfl⟩, by simp⟩ ?_ ?_
  · intro pre t post e s1 K hm ⟨hs, ⟨x, y, z, he⟩, hp⟩ hK
    subst hs he
    refine ⟨trivial, _, rfl, ?_⟩
    simp [↓wSs_cons', ↓wSs_nil]
    split
    · rename_i ht
      have : markOf m c = t.2 := by rw [hm, markOf_skip hp, markOf, if_pos ht]
      rw [this] at hQ
      exact hQ
    · rename_i ht
      exact hK _ _ ⟨rfl, ⟨_, _, _, rfl⟩, fun u hu => by
        rcases List.mem_append.mp hu with h | h
        · exact hp _ h
        · rw [List.mem_singleton.mp h]; exact ht⟩
  · intro e s1 ⟨hs, ⟨x, y, z, he⟩, hp⟩
    subst hs he
    refine ⟨trivial, hN _ _ ?_⟩
    clear hN N'
    have : markOf m c = (0, 0) := by have := markOf_skip (post := []) hp; rw [List.append_nil] at this; rw [this]; rfl
    rw [this] at hQ
    simpa [↓wSs_cons', ↓wSs_nil] using hQ
theorem mark_of_ok (h : T.fn f_mark_of = some fn_mark_of) (hQ : Q (.tup [.int (markOf m c).1, .int (markOf m c).2]) s) :
    wCall T (n + 1) f_mark_of [.tup (m.map mD), .int c] s Q X := ⟨fn_mark_of, h, rfl, mark_of_body hQ⟩
theorem l_last_ok (h : T.fn f_l_last = some fn_l_last) (hQ : Q (.tup [.int (markOf m c).1, .int (markOf m c).2]) s) :
    wCall T (n + 1) f_l_last [.tup (m.map mD), .int c] s Q X := by
  refine ⟨fn_l_last, h, rfl, ?_⟩
  exact mark_of_body hQ
theorem marks_tail {s2 : S} {p q : Addr} {k t : Int} (hm : m.length ≤ 1000) (x2 : Ext s s2) (hp : s2 p = some (.lst ((m.filter fun x => decide (x.1 ≠ c)).map mD))) (hq : s2 q = none)
    (hQ : ∀ s', Ext s s' → Q (.tup ((markedM m c k t).map mD)) s') :
    rBin .Add (.ob p) (.ob q) (up s2 q (.lst [.tup [.int c, .int k, .int t]])) (fun x s1 => rBlt .sorted [x] s1 fun x s1 => rBlt .tuple [x] s1 Q) := by
  have hl : (m.filter fun x => decide (x.1 ≠ c)).length ≤ 1000 := Nat.le_trans (List.length_filter_le _ _) hm
  have hpq : p ≠ q := fun e => by rw [← e, hp] at hq; cases hq
  rw [rAddL_of (by rw [up_ne hpq]; exact hp) up_same]
  refine ⟨by simp only [List.length_map, List.length_singleton, le_line]; omega, fun r hr => ?_⟩
  have x3 := x2.up (o := .lst [.tup [.int c, .int k, .int t]]) hq
  have x4 := x3.up (o := .lst ((m.filter fun x => decide (x.1 ≠ c)).map mD ++ [.tup [.int c, .int k, .int t]])) hr
  have e2 : (m.filter fun x => decide (x.1 ≠ c)).map mD ++ [.tup [.int c, .int k, .int t]] = (m.filter (fun x => decide (x.1 ≠ c)) ++ [(c, k, t)]).map mD := by simp [mD]
  rw [e2] at x4 ⊢
  refine ⟨m.filter (fun x => decide (x.1 ≠ c)) ++ [(c, k, t)], up_same, fun us o pu pw ho => ?_⟩
  rw [sortM_is pu pw]
  refine (rTupleL_of up_same).mpr ?_
  exact hQ _ (x4.up ho)
theorem others_eq : List.filterMap (fun t : J3 => if t.1 = c then none else some (mD t)) m = (m.filter fun x => decide (x.1 ≠ c)).map mD := by
  rw [← List.filterMap_eq_map, List.filterMap_filter]
  congr 1; funext t
  by_cases hc : t.1 = c <;> simp [hc]
theorem marked_ok (h : T.fn f_marked = some fn_marked) {k t : Int} (hm : m.length ≤ 1000) (hQ : ∀ s', Ext s s' → Q (.tup ((markedM m c k t).map mD)) s') :
    wCall T (n + 1) f_marked [.tup (m.map mD), .int c, .int k, .int t] s Q X := by
  refine ⟨fn_marked, h, rfl, ?_⟩
  simp only [fn_marked, start, List.map, List.length, List.replicate, List.cons_append, List.nil_append]
  refine wSs_cons fun N' hN => ?_
  simp [wE_lc]
  refine ⟨by omega, ?_⟩
  refine wItems_fil m mD (fun t => if t.1 = c then none else some (mD t)) (fun _ _ => trivial) ?_ ?_
  · intro u s1 K hu x1 hK
    by_cases hc : u.1 = c <;> simp [hc, mD] at hK ⊢ <;> exact hK _ (Ext.refl _)
  intro s1 x1 p hp
  apply hN; clear hN N'
  rw [others_eq]
  refine wSs_cons fun N' hN => ?_
  simp only [↓wS_ret, ↓wE_blt, ↓wEs_cons, ↓wE_bin, ↓wE_loc4, ↓wE_lst, ↓wE_tup, ↓wE_loc1, ↓wE_loc2, ↓wE_loc3, ↓wEs_nil]
  exact ⟨by simp, by simp, fun q hq => marks_tail hm (x1.up hp) up_same hq hQ⟩
theorem l_marked_ok (h : T.fn f_l_marked = some fn_l_marked) {k t : Int} (hm : m.length ≤ 1000) (hQ : ∀ s', Ext s s' → Q (.tup ((markedM m c k t).map mD)) s') :
    wCall T (n + 1) f_l_marked [.tup (m.map mD), .int c, .int k, .int t] s Q X := by
  refine ⟨fn_l_marked, h, rfl, ?_⟩
  simp only [fn_l_marked, start, List.map, List.length, List.replicate, List.cons_append, List.nil_append]
  refine wSs_cons fun N' hN => ?_
  simp only [↓wS_ret, ↓wE_blt, ↓wEs_cons, ↓wE_bin, ↓wE_lc, ↓wE_loc0, ↓itT]
  refine ⟨by simp; omega, ?_⟩
  refine wItems_fil m mD (fun t => if t.1 = c then none else some (mD t)) (fun _ _ => trivial) ?_ ?_
  · intro u s1 K hu x1 hK
    by_cases hc : u.1 = c <;> simp [hc, mD] at hK ⊢ <;> exact hK _ (Ext.refl _)
  intro s1 x1 p hp
  rw [others_eq]
  simp only [↓wE_lst, ↓wEs_cons, ↓wE_tup, ↓wE_loc1, ↓wE_loc2, ↓wE_loc3, ↓wEs_nil]
  exact ⟨by simp, by simp, fun q hq => marks_tail hm (x1.up hp) up_same hq hQ⟩
end
end MH
set_option Elab.async false
set_option linter.all false
set_option maxRecDepth 100000
/-! Dicts by functions. -/
namespace MH
open PySem L2
section
variable {α κ : Type} [DecidableEq α] [DecidableEq κ]
def dmap (g : α → κ) (ks : List α) (f : α → D) : List (κ × D) := ks.map fun k => (g k, f k)
def fput (f : α → D) (k : α) (v : D) : α → D := fun j => if j = k then v else f j
theorem dmap_len {g : α → κ} {ks : List α} {f : α → D} : (dmap g ks f).length = ks.length := by simp [dmap]
theorem valD_dmap {g : α → κ} (hg : ∀ a b, g a = g b → a = b) {f : α → D} : ∀ {ks : List α} {k : α}, valD (dmap g ks f) (g k) = if k ∈ ks then some (f k) else none
  | [], k => by simp [dmap]
  | j :: ks, k => by
    have ih := valD_dmap hg (f := f) (ks := ks) (k := k)
    rw [dmap] at ih ⊢
    rw [List.map_cons, valD_cons, ih]
    by_cases e : j = k
    · subst e; simp
    · have h2 : ¬ g j = g k := fun h => e (hg _ _ h)
      have h3 : ¬ k = j := fun h => e h.symm
      simp [h2, h3]
theorem putD_mem {g : α → κ} (hg : ∀ a b, g a = g b → a = b) {f : α → D} {ks : List α} {k : α} {v : D} (h : k ∈ ks) : putD (dmap g ks f) (g k) v = dmap g ks (fput f k v) := by
  unfold putD
  rw [if_pos]
  · simp only [dmap, List.map_map]
    refine List.map_congr_left fun j hj => ?_
    by_cases e : j = k
    · subst e; simp [fput]
    · have h2 : ¬ g j = g k := fun h => e (hg _ _ h)
      simp [fput, e, h2]
  · simp only [dmap, List.any_map, List.any_eq_true]
    exact ⟨k, h, by simp⟩
theorem putD_new {g : α → κ} (hg : ∀ a b, g a = g b → a = b) {f : α → D} {ks : List α} {k : α} {v : D} (h : k ∉ ks) : putD (dmap g ks f) (g k) v = dmap g (ks ++ [k]) (fput f k v) := by
  unfold putD
  rw [if_neg]
  · simp only [dmap, List.map_append, List.map_cons, List.map_nil]
    congr 1
    · refine List.map_congr_left fun j hj => ?_
      have : j ≠ k := fun e => h (e ▸ hj)
      simp [fput, this]
    · simp [fput]
  · simp only [dmap, List.any_map, List.any_eq_true]
    rintro ⟨j, hj, e⟩
    have : g j = g k := by simpa using e
    exact h (hg _ _ this ▸ hj)
/-- some keys, each told once -/
theorem putD_any {g : α → κ} (hg : ∀ a b, g a = g b → a = b) {f : α → D} {ks : List α} {k : α} {v : D} (h : ks.Nodup) :
    ∃ ks', ks'.Nodup ∧ ks'.length ≤ ks.length + 1 ∧ (∀ j, j ∈ ks' ↔ j ∈ ks ∨ j = k) ∧ putD (dmap g ks f) (g k) v = dmap g ks' (fput f k v) := by
  by_cases hk : k ∈ ks
  · exact ⟨ks, h, by omega, fun j => ⟨.inl, fun e => by rcases e with e | e <;> simp_all⟩, putD_mem hg hk⟩
  · refine ⟨ks ++ [k], ?_, by simp, fun j => by simp, putD_new hg hk⟩
    rw [List.nodup_append]
    exact ⟨h, by simp, fun a ha b hb => by rw [List.mem_singleton.mp hb]; exact fun e => hk (e ▸ ha)⟩
theorem dmap_congr {g : α → κ} {ks : List α} {f f' : α → D} (h : ∀ k ∈ ks, f k = f' k) : dmap g ks f = dmap g ks f' := List.map_congr_left fun k hk => by rw [h k hk]
end
def kS : Str → Key := Sum.inr
theorem kS_inj (a b : Str) (h : kS a = kS b) : a = b := by cases h; rfl
@[simp] theorem valD_inr {f : Str → D} {ks : List Str} {k : Str} : valD (dmap kS ks f) (Sum.inr k) = if k ∈ ks then some (f k) else none := valD_dmap kS_inj
theorem putD_inr {f : Str → D} {ks : List Str} {k : Str} {v : D} (h : k ∈ ks) : putD (dmap kS ks f) (Sum.inr k) v = dmap kS ks (fput f k v) := putD_mem kS_inj h
@[simp] theorem dmap_len' {f : Str → D} {ks : List Str} : (dmap kS ks f).length = ks.length := dmap_len
end MH
set_option Elab.async false
set_option linter.all false
set_option maxRecDepth 100000
/-! Data trees: equal ones. -/
namespace MH
open PySem L2
inductive Pd : Nat → PyData → Prop where
  | non {n : Nat} : Pd n .none
  | bl {n : Nat} (b : Bool) : Pd n (.bool b)
  | int {n : Nat} (i : Int) : Pd n (.int i)
  | str {n : Nat} {x : Str} : PyData.strOk x = true → Pd n (.str x)
  | tup {n : Nat} {ds : List PyData} : (∀ d ∈ ds, Pd n d) → Pd (n + 1) (.tuple ds)
  | lst {n : Nat} {ds : List PyData} : (∀ d ∈ ds, Pd n d) → Pd (n + 1) (.list ds)
theorem depthAll_le {n : Nat} : ∀ {ds : List PyData}, (∀ d ∈ ds, d.depth ≤ n) → PyData.depthAll ds ≤ n
  | [], _ => by simp [PyData.depthAll]
  | d :: ds, h => by
    rw [PyData.depthAll]
    have := h d (by simp)
    have := depthAll_le fun e he => h e (List.mem_cons_of_mem d he)
    omega
theorem canAll {ds : List PyData} : (∀ d ∈ ds, d.canLay0 = true) → PyData.canLayAll0 ds = true := by
  induction ds with
  | nil => intro _; simp [PyData.canLayAll0]
  | cons d ds ih =>
    intro h
    rw [PyData.canLayAll0, h d (by simp), ih fun e he => h e (List.mem_cons_of_mem d he)]; rfl
theorem Pd.both {n : Nat} {d : PyData} (h : Pd n d) : d.canLay0 = true ∧ d.depth ≤ n := by
  induction h with
  | tup _ ih => exact ⟨by rw [PyData.canLay0]; exact canAll fun d hd => (ih d hd).1, by rw [PyData.depth]; exact Nat.succ_le_succ (depthAll_le fun d hd => (ih d hd).2)⟩
  | lst _ ih => exact ⟨by rw [PyData.canLay0]; exact canAll fun d hd => (ih d hd).1, by rw [PyData.depth]; exact Nat.succ_le_succ (depthAll_le fun d hd => (ih d hd).2)⟩
  | str hx => exact ⟨by simp [PyData.canLay0, hx], by simp [PyData.depth]⟩
  | _ => exact ⟨by simp [PyData.canLay0], by simp [PyData.depth]⟩
theorem Pd.shaped {n : Nat} {d : PyData} (h : Pd n d) (hn : n ≤ 64) : SeqAt.shaped d = true := by
  have := h.both
  simp [SeqAt.shaped, this.1]; omega
theorem eqvAll_self {ds : List PyData} : (∀ d ∈ ds, PyData.eqv d d = true) → PyData.eqvAll ds ds = true := by
  induction ds with
  | nil => intro _; simp [PyData.eqvAll]
  | cons d ds ih =>
    intro h
    rw [PyData.eqvAll, h d (by simp), ih fun e he => h e (List.mem_cons_of_mem d he)]; rfl
theorem Pd.eqv {n : Nat} {d : PyData} (h : Pd n d) : PyData.eqv d d = true := by
  induction h with
  | tup _ ih => rw [PyData.eqv]; exact eqvAll_self ih
  | lst _ ih => rw [PyData.eqv]; exact eqvAll_self ih
  | _ => simp [PyData.eqv]
/-- two lists of the same data are equal -/
theorem rEq_same {a b : Addr} {s : S} {Q : K1} {d : PyData} {n : Nat} (h : Pd n d) (hn : n ≤ 64) (ha : Snap s (.ob a) d) (hb : Snap s (.ob b) d) (q : Q (.bl true) s) : rCmp .Eq (.ob a) (.ob b) s Q :=
  .inl ⟨d, d, ha, hb, h.shaped hn, h.shaped hn, by rw [h.eqv]; exact q⟩
theorem rNe_same {a b : Addr} {s : S} {Q : K1} {d : PyData} {n : Nat} (h : Pd n d) (hn : n ≤ 64) (ha : Snap s (.ob a) d) (hb : Snap s (.ob b) d) (q : Q (.bl false) s) : rCmp .NotEq (.ob a) (.ob b) s Q :=
  .inl ⟨d, d, ha, hb, h.shaped hn, h.shaped hn, by rw [h.eqv]; exact q⟩
/-- a list of anything beside an empty one -/
theorem rNe_nil {a b : Addr} {s : S} {Q : K1} {l : List D} (ha : s a = some (.lst l)) (hb : s b = some (.lst [])) (q : Q (.bl (!l.isEmpty)) s) : rCmp .NotEq (.ob a) (.ob b) s Q := by
  cases l with
  | nil => exact rNe_same (d := .list []) (n := 1) (.lst (by simp)) (by omega) (.lst ha .nil) (.lst hb .nil) q
  | cons d r => exact .inr ⟨rfl, a, b, d :: r, rfl, rfl, ha, hb, by simp, q⟩
theorem Snaps.map {α : Type} {s : S} {f : α → D} {g : α → PyData} : ∀ {l : List α}, (∀ a ∈ l, Snap s (f a) (g a)) → Snaps s (l.map f) (l.map g)
  | [], _ => .nil
  | a :: l, h => .cons (h a (by simp)) (Snaps.map fun b hb => h b (by simp [hb]))
theorem cutD_drop {l : List D} {k : Nat} : cutD l (some (k : Int)) none = l.drop k := by
  simp only [cutD, HT.sIx_nat, HT.sIx_none]
  by_cases h : k ≤ l.length
  · rw [Nat.min_eq_left h, List.take_of_length_le (by simp)]
  · rw [Nat.min_eq_right (by omega), Nat.sub_self, List.take_zero, List.drop_eq_nil_of_le (by omega)]
theorem cutD_take {l : List D} {k : Nat} : cutD l none (some (k : Int)) = l.take k := by
  simp only [cutD, HT.sIx_nat, HT.sIx_none, Nat.sub_zero, List.drop_zero]
  by_cases h : k ≤ l.length
  · rw [Nat.min_eq_left h]
  · rw [Nat.min_eq_right (by omega), List.take_of_length_le (by omega), List.take_of_length_le (by omega)]
theorem cutD_mid {l : List D} {j k : Nat} (h : j ≤ k) : cutD l (some (j : Int)) (some (k : Int)) = (l.drop j).take (k - j) := by
  simp only [cutD, HT.sIx_nat]
  by_cases h1 : k ≤ l.length
  · rw [Nat.min_eq_left h1, Nat.min_eq_left (by omega)]
  · rw [Nat.min_eq_right (by omega : l.length ≤ k)]
    by_cases h2 : j ≤ l.length
    · rw [Nat.min_eq_left h2]
      rw [List.take_of_length_le (by simp), List.take_of_length_le (by simp; omega)]
    · rw [Nat.min_eq_right (by omega)]; simp [List.drop_eq_nil_of_le (show l.length ≤ j by omega)]
def Wish.p : Wish → PyData
  | .get => .tuple [.str q_get]
  | .set i => .tuple [.str q_set, .int i]
  | .add i => .tuple [.str q_add, .int i]
theorem Wish.snap {s : S} (w : Wish) : Snap s w.d w.p := by
  cases w with
  | get => exact .tup (.cons (.str _) .nil)
  | set i => exact .tup (.cons (.str _) (.cons (.int _) .nil))
  | add i => exact .tup (.cons (.str _) (.cons (.int _) .nil))
theorem Wish.lf (w : Wish) {n : Nat} : Lf (n + 2) w.p := by
  cases w with
  | get => exact .tup (by simp; exact .str _) (by simp)
  | set i => exact .tup (by simp; exact ⟨.str _, .int _⟩) (by simp)
  | add i => exact .tup (by simp; exact ⟨.str _, .int _⟩) (by simp)
theorem pdAll {n : Nat} {ds : List PyData} (h : ∀ d ∈ ds, Pd n d) : Pd (n + 1) (.tuple ds) := .tup h
theorem ok_get : PyData.strOk q_get = true := by decide +kernel
theorem ok_set : PyData.strOk q_set = true := by decide +kernel
theorem ok_add : PyData.strOk q_add = true := by decide +kernel
theorem Wish.pd (w : Wish) {n : Nat} : Pd (n + 1) w.p := by
  cases w with
  | get => exact .tup (by simp; exact .str ok_get)
  | set i => exact .tup (by simp; exact ⟨.str ok_set, .int _⟩)
  | add i => exact .tup (by simp; exact ⟨.str ok_add, .int _⟩)
end MH
set_option Elab.async false
set_option linter.all false
set_option maxRecDepth 100000
/-! Callers. -/
namespace MH
open PySem L2
abbrev Ask := Int × Str × Wish
structure CM where
  num : Int
  made : Int
  asked : Option Ask
  closed : List (Int × Int)
def askD : Option Ask → D
  | none => .non
  | some a => .tup [.int a.1, .str a.2.1, a.2.2.d]
def closedD (t : Int × Int) : D := .tup [.int t.1, .int t.2]
def callerFs (c : CM) (cl : Addr) : List (Nat × D) := [(a_number, .int c.num), (a_made, .int c.made), (a_asked, askD c.asked), (a_closed, .ob cl)]
def callerCells (p cl : Addr) (c : CM) : List Cell := [(p, .ins c_Caller (callerFs c cl)), (cl, .lst (c.closed.map closedD))]
def CM.new (k : Int) : CM := ⟨k, 0, none, []⟩
def CM.begin (c : CM) (k : Str) (w : Wish) : CM := { c with made := c.made + 1, asked := some (c.made + 1, k, w) }
def CM.came (c : CM) (n t : Int) : CM :=
  match c.asked with
  | some a => if a.1 = n then { c with asked := none, closed := c.closed ++ [(n, t)] } else c
  | none => c
@[simp ↓] theorem cf_number {c : CM} {cl : Addr} {k : D → Prop} : look (callerFs c cl) a_number k = k (.int c.num) := rfl
@[simp ↓] theorem cf_made {c : CM} {cl : Addr} {k : D → Prop} : look (callerFs c cl) a_made k = k (.int c.made) := rfl
@[simp ↓] theorem cf_asked {c : CM} {cl : Addr} {k : D → Prop} : look (callerFs c cl) a_asked k = k (askD c.asked) := rfl
@[simp ↓] theorem cf_closed {c : CM} {cl : Addr} {k : D → Prop} : look (callerFs c cl) a_closed k = k (.ob cl) := rfl
@[simp] theorem cf_len {c : CM} {cl : Addr} : (callerFs c cl).length = 4 := rfl
@[simp] theorem cf_put_made {c : CM} {cl : Addr} {i : Int} : putA a_made (.int i) (callerFs c cl) = callerFs { c with made := i } cl := rfl
@[simp] theorem cf_put_asked {c : CM} {cl : Addr} {o : Ask} : putA a_asked (.tup [.int o.1, .str o.2.1, o.2.2.d]) (callerFs c cl) = callerFs { c with asked := some o } cl := rfl
@[simp] theorem cf_put_none {c : CM} {cl : Addr} : putA a_asked .non (callerFs c cl) = callerFs { c with asked := none } cl := rfl
@[simp] theorem isNon_ask {o : Option Ask} : isNon (askD o) = o.isNone := by cases o <;> rfl
section
variable {T : Tab} {n : Nat} {s : S} {Q : K1} {X : XP} {F : List Cell} {p cl : Addr} {c : CM}
theorem Caller_init_ok (h : T.fn f_Caller_init = some fn_Caller_init) (hf : ∀ f, f ∈ [a_number, a_made, a_asked, a_closed] → T.fld c_Caller f = true) {k : Int}
    (o : Own s ((p, .ins c_Caller []) :: F)) (hQ : ∀ cl s', Own s' (callerCells p cl (.new k) ++ F) → Q .non s') : wCall T (n + 1) f_Caller_init [.ob p, .int k] s Q X := by
  refine ⟨fn_Caller_init, h, rfl, ?_⟩
  simp only [fn_Caller_init, start, List.map, List.length, List.replicate, List.cons_append, List.nil_append]
  have w : ∀ f, f ∈ [a_number, a_made, a_asked, a_closed] → ∀ (fs : List (Nat × D)) (d : D) s F K, fs.length < 1000 → Own s ((p, .ins c_Caller fs) :: F) → (∀ s', Own s' ((p, .ins c_Caller (putA f d fs)) :: F) → K s') → setfQ T f d K (.ob p) s := by
    intro f hm fs d s F K hl o hK
    rw [setfQ_of o.head]
    exact ⟨hf f hm, hl, hK _ o.set⟩
  refine wSs_cons fun N' hN => ?_
  simp
  refine w _ (by simp) _ _ _ _ _ (by simp) o fun s1 o1 => ?_
  apply hN; clear hN N'
  refine wSs_cons fun N' hN => ?_
  simp
  refine w _ (by simp) _ _ _ _ _ (by exact (by decide : (1 : Nat) < 1000)) o1 fun s2 o2 => ?_
  apply hN; clear hN N'
  refine wSs_cons fun N' hN => ?_
  simp
  refine w _ (by simp) _ _ _ _ _ (by exact (by decide : (2 : Nat) < 1000)) o2 fun s3 o3 => ?_
  apply hN; clear hN N'
  refine wSs_cons fun N' hN => ?_
  simp
  intro cl hcl
  have o4 := (o3.new (u := .lst []) hcl).swap
  generalize up s3 cl _ = s4 at o4 ⊢
  refine w _ (by simp) _ _ _ _ _ (by exact (by decide : (3 : Nat) < 1000)) o4 fun s5 o5 => ?_
  apply hN; clear hN N'
  exact hQ cl s5 o5
theorem Caller_begin_ok (h : T.fn f_Caller_begin = some fn_Caller_begin) (hf : ∀ f, f ∈ [a_number, a_made, a_asked, a_closed] → T.fld c_Caller f = true) {k : Str} {w : Wish}
    (o : Own s (callerCells p cl c ++ F)) (hQ : ∀ s', Own s' (callerCells p cl (c.begin k w) ++ F) → Q (.int (c.made + 1)) s') : wCall T (n + 1) f_Caller_begin [.ob p, .str k, w.d] s Q X := by
  refine ⟨fn_Caller_begin, h, rfl, ?_⟩
  simp only [fn_Caller_begin, start, List.map, List.length, List.replicate, List.cons_append, List.nil_append]
  refine wSs_cons fun N' hN => ?_
  simp [↓ins_of o.head]
  refine ⟨hf _ (by simp), ?_⟩
  apply hN; clear hN N'
  have o2 := o.repl (.here (u' := .ins c_Caller (callerFs { c with made := c.made + 1 } cl)))
  generalize up s p _ = s2 at o2 ⊢
  refine wSs_cons fun N' hN => ?_
  simp [↓ins_of o2.head]
  refine ⟨hf _ (by simp), ?_⟩
  apply hN; clear hN N'
  have o3 := o2.repl (.here (u' := .ins c_Caller (callerFs (c.begin k w) cl)))
  rw [show putA a_asked (.tup [.int (c.made + 1), .str k, w.d]) (callerFs { c with made := c.made + 1 } cl) = callerFs (c.begin k w) cl from rfl]
  generalize up s2 p _ = s3 at o3 ⊢
  simp [↓wSs_cons', ↓wSs_nil, ↓ins_of o3.head]
  exact hQ _ o3
theorem Caller_letter_ok (h : T.fn f_Caller_letter = some fn_Caller_letter) {a : Ask} {i : Int} (ha : c.asked = some a)
    (o : Own s (callerCells p cl c ++ F)) (hQ : Q (.tup [.str q_call, .int i, .int c.num, .int a.1, .str a.2.1, a.2.2.d]) s) : wCall T (n + 1) f_Caller_letter [.ob p, .int i] s Q X := by
  refine ⟨fn_Caller_letter, h, rfl, ?_⟩
  simp only [fn_Caller_letter, start, List.map, List.length, List.replicate, List.cons_append, List.nil_append]
  simp [↓wSs_cons', ↓wSs_nil, ↓ins_of o.head, ha, askD]
  exact hQ
theorem Caller_asking_ok (h : T.fn f_Caller_asking = some fn_Caller_asking)
    (o : Own s (callerCells p cl c ++ F)) (hQ : Q (askD c.asked) s) : wCall T (n + 1) f_Caller_asking [.ob p] s Q X := by
  refine ⟨fn_Caller_asking, h, rfl, ?_⟩
  simp only [fn_Caller_asking, start, List.map, List.length, List.replicate, List.cons_append, List.nil_append]
  simp [↓wSs_cons', ↓wSs_nil, ↓ins_of o.head]
  exact hQ
theorem Caller_answers_ok (h : T.fn f_Caller_answers = some fn_Caller_answers)
    (o : Own s (callerCells p cl c ++ F)) (hQ : ∀ q s', Own s' ((q, .lst (c.closed.map closedD)) :: (callerCells p cl c ++ F)) → Q (.ob q) s') : wCall T (n + 1) f_Caller_answers [.ob p] s Q X := by
  refine ⟨fn_Caller_answers, h, rfl, ?_⟩
  simp only [fn_Caller_answers, start, List.map, List.length, List.replicate, List.cons_append, List.nil_append]
  simp [↓wSs_cons', ↓wSs_nil, ↓ins_of o.head, ↓lst_of o.tail.head]
  exact fun q hq => hQ q _ (o.new hq)
theorem Caller_came_ok (h : T.fn f_Caller_came = some fn_Caller_came) (hf : ∀ f, f ∈ [a_number, a_made, a_asked, a_closed] → T.fld c_Caller f = true) {k t : Int}
    (o : Own s (callerCells p cl c ++ F)) (hl : c.closed.length ≤ 10000000) (hQ : ∀ s', Own s' (callerCells p cl (c.came k t) ++ F) → Q .non s') : wCall T (n + 1) f_Caller_came [.ob p, .int k, .int t] s Q X := by
  refine ⟨fn_Caller_came, h, rfl, ?_⟩
  simp only [fn_Caller_came, start, List.map, List.length, List.replicate, List.cons_append, List.nil_append]
  cases ha : c.asked with
  | none =>
    have e : c.came k t = c := by simp [CM.came, ha]
    rw [e] at hQ
    simp [↓wSs_cons', ↓wSs_nil, ↓ins_of o.head, ha, askD]
    exact hQ _ o
  | some a =>
    refine wSs_cons fun N' hN => ?_
    simp [↓ins_of o.head, ha, askD]
    by_cases hk : a.1 = k
    · have e : c.came k t = { c with asked := none, closed := c.closed ++ [(k, t)] } := by simp [CM.came, ha, hk]
      rw [e] at hQ
      rw [if_pos hk]
      refine wSs_cons fun N2 hN2 => ?_
      simp [↓ins_of o.head]
      refine ⟨hf _ (by simp), ?_⟩
      apply hN2; clear hN2 N2
      have o2 := o.repl (.here (u' := .ins c_Caller (callerFs { c with asked := none } cl)))
      generalize up s p _ = s2 at o2 ⊢
      refine wSs_cons fun N2 hN2 => ?_
      simp [↓ins_of o2.head, ↓lst_of o2.tail.head]
      refine ⟨by omega, ?_⟩
      apply hN2; clear hN2 N2
      have o3 := o2.repl (.there (.here (u' := .lst (c.closed.map closedD ++ [.tup [.int k, .int t]]))))
      generalize up s2 cl _ = s3 at o3 ⊢
      rw [wSs_nil]
      apply hN
      rw [wSs_nil]
      refine hQ _ ?_
      have : (c.closed ++ [(k, t)]).map closedD = c.closed.map closedD ++ [.tup [.int k, .int t]] := by simp [closedD]
      rw [callerCells, this]
      exact o3
    · have e : c.came k t = c := by simp [CM.came, ha, hk]
      rw [e] at hQ
      rw [if_neg hk, wSs_nil]
      apply hN
      rw [wSs_nil]
      exact hQ _ o
end
end MH
set_option Elab.async false
set_option linter.all false
set_option maxRecDepth 100000
/-! Shared by the laws. -/
namespace MH
open PySem L2
theorem KeysOk.strOk {ks : List Str} (h : KeysOk ks) : ∀ k ∈ ks, PyData.strOk k = true := by
  intro k hk
  simp only [PyData.strOk, Array.all_eq_true', decide_eq_true_eq]
  intro c hc
  have := (h.key k hk).2.2 c (by simpa using hc)
  omega
theorem key_at {ks : List Str} (h : 1 ≤ ks.length) {i : Int} : ∃ k, k ∈ ks ∧ ks.getD (i % (ks.length : Int)).toNat default = k ∧ ks[(i % (ks.length : Int)).toNat]? = some k ∧
    atD (ks.map .str) (i % (ks.length : Int)) = some (.str k) := by
  have h0 : 0 ≤ i % (ks.length : Int) := Int.emod_nonneg _ (by omega)
  have h1 : i % (ks.length : Int) < ks.length := Int.emod_lt_of_pos _ (by omega)
  have h2 : (i % (ks.length : Int)).toNat < ks.length := by omega
  refine ⟨ks[(i % (ks.length : Int)).toNat], List.getElem_mem h2, ?_, List.getElem?_eq_getElem h2, ?_⟩
  · rw [List.getD_eq_getElem?_getD, List.getElem?_eq_getElem h2]; rfl
  · have := atD_nat (l := ks.map D.str) (n := (i % (ks.length : Int)).toNat) (v := .str ks[(i % (ks.length : Int)).toNat]) (by rw [List.getElem?_map, List.getElem?_eq_getElem h2]; rfl)
    rwa [Int.toNat_of_nonneg h0] at this
def askP (a : Ask) : PyData := .tuple [.int a.1, .str a.2.1, a.2.2.p]
theorem ask_snap {s : S} {a : Ask} : Snap s (askD (some a)) (askP a) := .tup (.cons (.int _) (.cons (.str _) (.cons a.2.2.snap .nil)))
theorem ask_lf {a : Ask} {n : Nat} : Lf (n + 3) (askP a) := .tup (by simp; exact ⟨.int _, .str _, a.2.2.lf⟩) (by simp)
def closedP (t : Int × Int) : PyData := .tuple [.int t.1, .int t.2]
theorem closed_snap {s : S} {t : Int × Int} : Snap s (closedD t) (closedP t) := .tup (.cons (.int _) (.cons (.int _) .nil))
theorem closed_lf {t : Int × Int} {n : Nat} : Lf (n + 2) (closedP t) := .tup (by simp; exact ⟨.int _, .int _⟩) (by simp)
theorem closeds_snap {s : S} {a : Addr} {l : List (Int × Int)} (h : s a = some (.lst (l.map closedD))) : Snap s (.ob a) (.list (l.map closedP)) := .lst h (Snaps.map fun _ _ => closed_snap)
theorem closeds_lf {l : List (Int × Int)} {n : Nat} (h : l.length ≤ 1000000) : Lf (n + 3) (.list (l.map closedP)) := .lst (fun d hd => by obtain ⟨t, _, rfl⟩ := List.mem_map.mp hd; exact closed_lf) (by simp; omega)
theorem at_ints {l : List D} {i : Int} (hl : ∀ d ∈ l, ∃ j, d = .int j) (h0 : 0 ≤ i) (h1 : i < l.length) : ∃ w, atD l i = some (.int w) := by
  have h2 : i.toNat < l.length := by omega
  obtain ⟨j, hj⟩ := hl _ (List.getElem_mem h2)
  refine ⟨j, ?_⟩
  have := atD_nat (l := l) (n := i.toNat) (v := .int j) (by rw [List.getElem?_eq_getElem h2, hj])
  rwa [Int.toNat_of_nonneg h0] at this
section
variable {T : Tab} {n : Nat} {s : S} {Q : K1} {X : XP}
theorem Own.pickB {s : S} {A B L : List Cell} (o : Own s (A ++ (B ++ L))) : Own s (B ++ (A ++ L)) := o.mv fun a => by simp only [cnt_app]; omega
theorem l_cell_at_ok0 (h : T.fn f_l_cell_at = some fn_l_cell_at) {ns : List Int} (hQ : Q (.int (cellAt ns 0)) s) : wCall T (n + 1) f_l_cell_at [.ro (ns.map .int), .int 0] s Q X := l_cell_at_ok (k := 0) h hQ
theorem l_cell_at_ok1 (h : T.fn f_l_cell_at = some fn_l_cell_at) {ns : List Int} (hQ : Q (.int (cellAt ns 1)) s) : wCall T (n + 1) f_l_cell_at [.ro (ns.map .int), .int 1] s Q X := l_cell_at_ok (k := 1) h hQ
end
end MH
set_option Elab.async false
set_option linter.all false
set_option maxRecDepth 100000
/-! Houses. -/
namespace MH
open PySem L2
inductive St where
  | here | owed | gone
  deriving DecidableEq
def St.q : St → Str
  | .here => q_here
  | .owed => q_owed
  | .gone => q_gone
@[simp] theorem St.here_iff {t : St} : t.q = q_here ↔ t = .here := by cases t <;> decide
@[simp] theorem St.owed_iff {t : St} : t.q = q_owed ↔ t = .owed := by cases t <;> decide
structure Row where
  turn : Int
  st : St
  amt : Int
  marks : List J3
def marksD (m : List J3) : D := .tup (m.map mD)
def Row.d (r : Row) : D := .tup [.int r.turn, .str r.st.q, .int r.amt, marksD r.marks]
inductive Letter where
  | call (h c n : Int) (k : Str) (w : Wish)
  | answer (c n t : Int)
  | parcel (h : Int) (k : Str) (turn amt : Int) (marks : List J3)
  | taken (h : Int) (k : Str) (turn : Int)
def Letter.d : Letter → D
  | .call h c n k w => .tup [.str q_call, .int h, .int c, .int n, .str k, w.d]
  | .answer c n t => .tup [.str q_answer, .int c, .int n, .int t]
  | .parcel h k t a m => .tup [.str q_parcel, .int h, .str k, .int t, .int a, marksD m]
  | .taken h k t => .tup [.str q_taken, .int h, .str k, .int t]
structure LR where
  c : Int
  n : Int
  k : Str
  w : Wish
  t : Int
def LR.d (r : LR) : D := .tup [.int r.c, .int r.n, .str r.k, r.w.d, .int r.t]
structure HM where
  num : Int
  known : Str → Row
  written : Str → Row
  laid : List Letter
  fresh : List LR
def fset (f : Str → Row) (k : Str) (r : Row) : Str → Row := fun j => if j = k then r else f j
def rowsD (f : Str → Row) : Str → D := fun k => (f k).d
theorem fput_rows {f : Str → Row} {k : Str} {r : Row} : fput (rowsD f) k r.d = rowsD (fset f k r) := by
  funext j; simp only [fput, rowsD, fset]; split <;> rfl
def Row.first (num : Int) : Row := if num = 0 then ⟨0, .here, 0, []⟩ else ⟨-1, .gone, 0, []⟩
def HM.new (num : Int) : HM := ⟨num, fun _ => .first num, fun _ => .first num, [], []⟩
def HM.called (h : HM) (c n : Int) (k : Str) (w : Wish) : HM :=
  if (h.known k).st ≠ .here ∨ (markOf (h.known k).marks c).1 > n then h
  else if (markOf (h.known k).marks c).1 < n then
    { h with
      known := fset h.known k ⟨(h.known k).turn, .here, (doneW (h.known k).amt w).1, markedM (h.known k).marks c n (doneW (h.known k).amt w).2⟩
      fresh := h.fresh ++ [⟨c, n, k, w, (doneW (h.known k).amt w).2⟩]
      laid := h.laid ++ [.answer c n (doneW (h.known k).amt w).2] }
  else { h with laid := h.laid ++ [.answer c n (markOf (h.known k).marks c).2] }
def HM.parcelOf (h : HM) (k : Str) (r : Row) : Letter := .parcel (1 - h.num) k (r.turn + 1) r.amt r.marks
def HM.moved (h : HM) (k : Str) : HM :=
  { h with
    known := fset h.known k { h.known k with st := .owed }
    laid := h.laid ++ [h.parcelOf k (h.known k)] }
def HM.gotParcel (h : HM) (k : Str) (turn amt : Int) (marks : List J3) : HM :=
  { h with
    known := if turn > (h.known k).turn then fset h.known k ⟨turn, .here, amt, marks⟩ else h.known
    laid := h.laid ++ [.taken (1 - h.num) k turn] }
def HM.gotTaken (h : HM) (k : Str) (turn : Int) : HM :=
  if (h.known k).st = .owed ∧ (h.known k).turn + 1 = turn then { h with known := fset h.known k ⟨(h.known k).turn, .gone, 0, []⟩ } else h
def HM.wrote (h : HM) : HM := { h with written := h.known, laid := [], fresh := [] }
def HM.slept (h : HM) : HM := { h with known := h.written, laid := [], fresh := [] }
def HM.nudged (h : HM) (ks : List Str) : List Letter := ks.filterMap fun k => if (h.written k).st = .owed then some (h.parcelOf k (h.written k)) else none
def HM.owes (h : HM) (ks : List Str) : List Str := ks.filter fun k => decide ((h.known k).st = .owed)
structure HB where
  self : Addr
  nm : Addr
  kn : Addr
  wr : Addr
  la : Addr
  fr : Addr
def houseFs (h : HM) (b : HB) : List (Nat × D) := [(a_number, .int h.num), (a_names, .ob b.nm), (a_known, .ob b.kn), (a_written, .ob b.wr), (a_laid, .ob b.la), (a_fresh, .ob b.fr)]
def houseCells (b : HB) (ks : List Str) (h : HM) : List Cell :=
  [(b.self, .ins c_House (houseFs h b)), (b.nm, .lst (ks.map .str)), (b.kn, .dK (dmap kS ks (rowsD h.known))), (b.wr, .dK (dmap kS ks (rowsD h.written))),
    (b.la, .lst (h.laid.map Letter.d)), (b.fr, .lst (h.fresh.map LR.d))]
section
variable {h : HM} {b : HB} {k : D → Prop}
@[simp ↓] theorem hf_number : look (houseFs h b) a_number k = k (.int h.num) := rfl
@[simp ↓] theorem hf_names : look (houseFs h b) a_names k = k (.ob b.nm) := rfl
@[simp ↓] theorem hf_known : look (houseFs h b) a_known k = k (.ob b.kn) := rfl
@[simp ↓] theorem hf_written : look (houseFs h b) a_written k = k (.ob b.wr) := rfl
@[simp ↓] theorem hf_laid : look (houseFs h b) a_laid k = k (.ob b.la) := rfl
@[simp ↓] theorem hf_fresh : look (houseFs h b) a_fresh k = k (.ob b.fr) := rfl
@[simp] theorem hf_len : (houseFs h b).length = 6 := rfl
@[simp] theorem hf_put_known {a : Addr} : putA a_known (.ob a) (houseFs h b) = houseFs h { b with kn := a } := rfl
@[simp] theorem hf_put_written {a : Addr} : putA a_written (.ob a) (houseFs h b) = houseFs h { b with wr := a } := rfl
@[simp] theorem hf_put_laid {a : Addr} : putA a_laid (.ob a) (houseFs h b) = houseFs h { b with la := a } := rfl
@[simp] theorem hf_put_fresh {a : Addr} : putA a_fresh (.ob a) (houseFs h b) = houseFs h { b with fr := a } := rfl
end
@[simp] theorem qa1 : (q_answer = q_call) = False := by decide
@[simp] theorem qa2 : (q_answer = q_parcel) = False := by decide
@[simp] theorem qa3 : (q_parcel = q_call) = False := by decide
@[simp] theorem qa4 : (q_taken = q_call) = False := by decide
@[simp] theorem qa5 : (q_taken = q_parcel) = False := by decide
@[simp] theorem qa6 : (q_answer = q_taken) = False := by decide
@[simp] theorem qa7 : (q_call = q_answer) = False := by decide
@[simp] theorem qa8 : (q_parcel = q_answer) = False := by decide
@[simp] theorem qa9 : (q_taken = q_answer) = False := by decide
@[simp] theorem qa10 : (q_call = q_parcel) = False := by decide
@[simp] theorem qa11 : (q_call = q_taken) = False := by decide
@[simp] theorem qa12 : (q_parcel = q_taken) = False := by decide
structure HouseTab (T : Tab) : Prop where
  mark_of : T.fn f_mark_of = some fn_mark_of
  marked : T.fn f_marked = some fn_marked
  done : T.fn f_done = some fn_done
  fld : ∀ f, f ∈ [a_number, a_names, a_known, a_written, a_laid, a_fresh] → T.fld c_House f = true
  called : T.meth c_House a_called = some f_House_called
  fcalled : T.fn f_House_called = some fn_House_called
section
variable {T : Tab} {n : Nat} {s : S} {Q : K1} {X : XP} {F : List Cell} {b : HB} {ks : List Str} {h : HM}
theorem House_has_ok (hf : T.fn f_House_has = some fn_House_has) {k : Str} (hk : k ∈ ks) (o : Own s (houseCells b ks h ++ F)) (hQ : Q (.bl (decide ((h.known k).st = .here))) s) :
    wCall T (n + 1) f_House_has [.ob b.self, .str k] s Q X := by
  refine ⟨fn_House_has, hf, rfl, ?_⟩
  simp only [fn_House_has, start, List.map, List.length, List.replicate, List.cons_append, List.nil_append]
  simp [↓wSs_cons', ↓wSs_nil, ↓ins_of o.head, ↓dic_of o.tail.tail.head, hk, rowsD, Row.d]
  exact hQ
theorem House_called_ok (t : HouseTab T) {c i : Int} {k : Str} {w : Wish} (hk : k ∈ ks) (hm : (h.known k).marks.length ≤ 1000) (hl : h.laid.length ≤ 10000000) (hfr : h.fresh.length ≤ 10000000) (hks : ks.length ≤ 1000)
    (o : Own s (houseCells b ks h ++ F)) (hQ : ∀ s', Own s' (houseCells b ks (h.called c i k w) ++ F) → Q .non s') : wCall T (n + 2) f_House_called [.ob b.self, .int c, .int i, .str k, w.d] s Q X := by
  refine ⟨fn_House_called, t.fcalled, rfl, ?_⟩
  simp only [fn_House_called, start, List.map, List.length, List.replicate, List.cons_append, List.nil_append]
  refine wSs_cons fun N' hN => ?_
  simp [↓ins_of o.head, ↓dic_of o.tail.tail.head, hk, rowsD, Row.d]
  apply hN; clear hN N'
  refine wSs_cons fun N' hN => ?_
  simp only [marksD]
  try simp
  refine mark_of_ok t.mark_of ?_
  try simp
  apply hN; clear hN N'
  refine wSs_cons fun N' hN => ?_
  try simp
  unfold HM.called at hQ
  by_cases h1 : (h.known k).st = .here
  · by_cases h2 : i < (markOf (h.known k).marks c).1
    · rw [if_pos (.inr h2)] at hQ
      simp [h1, h2, ↓wSs_cons', ↓wSs_nil]
      exact hQ _ o
    · have h3 : ¬ ((h.known k).st ≠ .here ∨ (markOf (h.known k).marks c).1 > i) := by simp [h1]; omega
      rw [if_neg h3] at hQ
      simp [h1, h2]
      rw [wSs_nil]
      apply hN; clear hN N'
      refine wSs_cons fun N' hN => ?_
      try simp
      by_cases h4 : (markOf (h.known k).marks c).1 < i
      · rw [if_pos h4] at hQ ⊢
        refine wSs_cons fun N2 hN2 => ?_
        try simp
        refine done_ok t.done ?_
        try simp
        apply hN2; clear hN2 N2
        refine wSs_cons fun N2 hN2 => ?_
        try simp
        refine marked_ok t.marked hm fun s1 x1 => ?_
        have o1 := o.ext x1
        generalize (doneW (h.known k).amt w).1 = a' at hQ ⊢
        generalize (doneW (h.known k).amt w).2 = t' at hQ ⊢
        have e1 : fput (rowsD h.known) k (.tup [.int (h.known k).turn, .str q_here, .int a', .tup ((markedM (h.known k).marks c i t').map mD)]) = rowsD (fset h.known k ⟨(h.known k).turn, .here, a', markedM (h.known k).marks c i t'⟩) := fput_rows (r := ⟨(h.known k).turn, .here, a', markedM (h.known k).marks c i t'⟩)
        simp [↓ins_of o1.head, ↓dic_of o1.tail.tail.head, putD_inr hk, e1]
        generalize fset h.known k ⟨(h.known k).turn, .here, a', markedM (h.known k).marks c i t'⟩ = kn' at hQ ⊢
        clear e1
        refine ⟨by omega, ?_⟩
        have o2 := o1.repl (.there (.there (.here (u' := .dK (dmap kS ks (rowsD kn'))))))
        generalize up s1 b.kn _ = s2 at o2 ⊢
        apply hN2; clear hN2 N2
        refine wSs_cons fun N2 hN2 => ?_
        simp [↓ins_of o2.head, ↓lst_of o2.tail.tail.tail.tail.tail.head]
        refine ⟨by omega, ?_⟩
        have o3 := o2.repl (.there (.there (.there (.there (.there (.here (u' := .lst (h.fresh.map LR.d ++ [.tup [.int c, .int i, .str k, w.d, .int t']]))))))))
        generalize up s2 b.fr _ = s3 at o3 ⊢
        apply hN2; clear hN2 N2
        rw [wSs_nil]
        apply hN; clear hN N'
        simp [↓wSs_cons', ↓wSs_nil, ↓ins_of o3.head, ↓lst_of o3.tail.tail.tail.tail.head]
        refine ⟨by omega, hQ _ ?_⟩
        have o4 := o3.repl (.there (.there (.there (.there (.here (u' := .lst (h.laid.map Letter.d ++ [.tup [.str q_answer, .int c, .int i, .int t']])))))))
        simpa [houseCells, houseFs, LR.d, Letter.d] using o4
      · rw [if_neg h4] at hQ ⊢
        rw [wSs_nil]
        apply hN; clear hN N'
        simp [↓wSs_cons', ↓wSs_nil, ↓ins_of o.head, ↓lst_of o.tail.tail.tail.tail.head]
        refine ⟨by omega, hQ _ ?_⟩
        have o2 := o.repl (.there (.there (.there (.there (.here (u' := .lst (h.laid.map Letter.d ++ [(Letter.answer c i (markOf (h.known k).marks c).2).d])))))))
        simpa [houseCells, houseFs, Letter.d] using o2
  · rw [if_pos (.inl h1)] at hQ
    simp [h1, ↓wSs_cons', ↓wSs_nil]
    exact hQ _ o
theorem House_owes_ok (hf : T.fn f_House_owes = some fn_House_owes) (hks : ks.length ≤ 1000) (o : Own s (houseCells b ks h ++ F))
    (hQ : ∀ q s', Own s' ((q, .lst ((h.owes ks).map .str)) :: (houseCells b ks h ++ F)) → Q (.ob q) s') : wCall T (n + 1) f_House_owes [.ob b.self] s Q X := by
  refine ⟨fn_House_owes, hf, rfl, ?_⟩
  simp only [fn_House_owes, start, List.map, List.length, List.replicate, List.cons_append, List.nil_append]
  simp [↓wSs_cons', ↓wSs_nil, wE_lc, ↓ins_of o.head, ↓lst_of o.tail.head]
  refine ⟨by omega, ?_⟩
  refine wItems_fil ks D.str (fun k => if (h.known k).st = .owed then some (.str k) else none) (fun s' x => x _ _ o.tail.head) ?_ ?_
  · intro k s1 K hk x1 hK
    have o1 := o.ext x1
    by_cases hc : (h.known k).st = .owed <;> simp [hc] at hK <;> simp [↓ins_of o1.head, ↓dic_of o1.tail.tail.head, hk, rowsD, Row.d, hc] <;> exact hK _ (Ext.refl _)
  intro s1 x1 q hq
  have e : List.filterMap (fun k => if (h.known k).st = .owed then some (D.str k) else none) ks = (h.owes ks).map .str := by
    rw [HM.owes, ← List.filterMap_eq_map, List.filterMap_filter]
    congr 1; funext k
    by_cases hc : (h.known k).st = .owed <;> simp [hc]
  rw [e]
  exact hQ q _ ((o.ext x1).new hq)
theorem House_parcel_ok (hf : T.fn f_House_parcel = some fn_House_parcel) {k : Str} {r : Row} (o : Own s (houseCells b ks h ++ F)) (hQ : Q (h.parcelOf k r).d s) :
    wCall T (n + 1) f_House_parcel [.ob b.self, .str k, r.d] s Q X := by
  refine ⟨fn_House_parcel, hf, rfl, ?_⟩
  simp only [fn_House_parcel, start, List.map, List.length, List.replicate, List.cons_append, List.nil_append]
  simpa [↓wSs_cons', ↓wSs_nil, ↓ins_of o.head, Row.d, HM.parcelOf, Letter.d] using hQ
theorem House_nudge_ok (hf : T.fn f_House_nudge = some fn_House_nudge) (mp : T.meth c_House a_parcel = some f_House_parcel) (fp : T.fn f_House_parcel = some fn_House_parcel) (hks : ks.length ≤ 1000) (o : Own s (houseCells b ks h ++ F))
    (hQ : ∀ q s', Own s' ((q, .lst ((h.nudged ks).map Letter.d)) :: (houseCells b ks h ++ F)) → Q (.ob q) s') : wCall T (n + 2) f_House_nudge [.ob b.self] s Q X := by
  refine ⟨fn_House_nudge, hf, rfl, ?_⟩
  simp only [fn_House_nudge, start, List.map, List.length, List.replicate, List.cons_append, List.nil_append]
  simp [↓wSs_cons', ↓wSs_nil, wE_lc, ↓ins_of o.head, ↓lst_of o.tail.head]
  refine ⟨by omega, ?_⟩
  refine wItems_fil ks D.str (fun k => if (h.written k).st = .owed then some (h.parcelOf k (h.written k)).d else none) (fun s' x => x _ _ o.tail.head) ?_ ?_
  · intro k s1 K hk x1 hK
    have o1 := o.ext x1
    by_cases hc : (h.written k).st = .owed
    · simp [hc] at hK
      simp [↓ins_of o1.head, ↓dic_of o1.tail.tail.tail.head, ↓mthQ_of o1.head mp rfl, hk, rowsD, Row.d, hc]
      have := House_parcel_ok (n := n) (X := fun _ _ => False) (Q := fun y s4 => K (some y) s4) fp (k := k) (r := h.written k) o1 (hK _ (Ext.refl _))
      rw [Row.d, hc] at this
      exact this
    · simp [hc] at hK
      simp [↓ins_of o1.head, ↓dic_of o1.tail.tail.tail.head, hk, rowsD, Row.d, hc]
      exact hK _ (Ext.refl _)
  intro s1 x1 q hq
  have e : List.filterMap (fun k => if (h.written k).st = .owed then some (h.parcelOf k (h.written k)).d else none) ks = (h.nudged ks).map Letter.d := by
    rw [HM.nudged, List.map_filterMap]
    congr 1; funext k
    by_cases hc : (h.written k).st = .owed <;> simp [hc]
  rw [e]
  exact hQ q _ ((o.ext x1).new hq)
theorem House_move_ok (t : HouseTab T) (hf : T.fn f_House_move = some fn_House_move) (mp : T.meth c_House a_parcel = some f_House_parcel) (fp : T.fn f_House_parcel = some fn_House_parcel) {k : Str} (hk : k ∈ ks) (hks : ks.length ≤ 1000)
    (hh : (h.known k).st = .here) (hl : h.laid.length ≤ 10000000) (o : Own s (houseCells b ks h ++ F)) (hQ : ∀ s', Own s' (houseCells b ks (h.moved k) ++ F) → Q .non s') : wCall T (n + 2) f_House_move [.ob b.self, .str k] s Q X := by
  refine ⟨fn_House_move, hf, rfl, ?_⟩
  simp only [fn_House_move, start, List.map, List.length, List.replicate, List.cons_append, List.nil_append]
  refine wSs_cons fun N' hN => ?_
  simp [↓ins_of o.head, ↓dic_of o.tail.tail.head, hk, rowsD, Row.d]
  apply hN; clear hN N'
  refine wSs_cons fun N' hN => ?_
  simp [hh, ↓wSs_nil]
  apply hN; clear hN N'
  refine wSs_cons fun N' hN => ?_
  have e1 : fput (rowsD h.known) k (.tup [.int (h.known k).turn, .str q_owed, .int (h.known k).amt, marksD (h.known k).marks]) = rowsD (fset h.known k { h.known k with st := .owed }) := fput_rows (r := { h.known k with st := .owed })
  simp [↓ins_of o.head, ↓dic_of o.tail.tail.head, putD_inr hk, e1]
  refine ⟨by omega, ?_⟩
  have o1 := o.repl (.there (.there (.here (u' := .dK (dmap kS ks (rowsD (fset h.known k { h.known k with st := .owed })))))))
  generalize up s b.kn _ = s1 at o1 ⊢
  apply hN; clear hN N'
  have o2 : Own s1 (houseCells b ks { h with known := fset h.known k { h.known k with st := .owed } } ++ F) := o1
  have e2 : rowsD (fset h.known k { h.known k with st := .owed }) k = Row.d { h.known k with st := .owed } := by simp [rowsD, fset]
  refine wSs_cons fun N' hN => ?_
  simp [↓ins_of o2.head, ↓lst_of o2.tail.tail.tail.tail.head, ↓mthQ_of o2.head mp rfl, ↓dic_of o2.tail.tail.head, hk, e2]
  refine House_parcel_ok fp o2 ?_
  simp [↓lst_of o2.tail.tail.tail.tail.head]
  refine ⟨by omega, ?_⟩
  have o3 := o2.repl (.there (.there (.there (.there (.here (u' := .lst (h.laid.map Letter.d ++ [(h.parcelOf k (h.known k)).d])))))))
  apply hN
  rw [wSs_nil]
  refine hQ _ ?_
  simpa [houseCells, houseFs, HM.moved, HM.parcelOf] using o3
theorem House_write_ok (t : HouseTab T) (hf : T.fn f_House_write = some fn_House_write) (o : Own s (houseCells b ks h ++ F))
    (hQ : ∀ b' s', b'.self = b.self → Own s' (houseCells b' ks h.wrote ++ ((b.la, .lst (h.laid.map Letter.d)) :: (b.fr, .lst (h.fresh.map LR.d)) :: F)) → Q (.tup [.ob b.la, .ob b.fr]) s') : wCall T (n + 1) f_House_write [.ob b.self] s Q X := by
  refine ⟨fn_House_write, hf, rfl, ?_⟩
  simp only [fn_House_write, start, List.map, List.length, List.replicate, List.cons_append, List.nil_append]
  simp only [houseCells, List.cons_append, List.nil_append] at o
  refine wSs_cons fun N' hN => ?_
  simp [↓ins_of o.head, ↓dic_of o.tail.tail.head]
  intro wr hwr
  have o1 := (o.new (u := .dK (dmap kS ks (rowsD h.known))) hwr).swap
  generalize up s wr _ = s1 at o1 ⊢
  simp [↓ins_of o1.head]
  refine ⟨t.fld _ (by simp), ?_⟩
  have o2 := o1.repl (.here (u' := .ins c_House (houseFs h { b with wr := wr })))
  generalize up s1 b.self _ = s2 at o2 ⊢
  apply hN; clear hN N'
  refine wSs_cons fun N' hN => ?_
  simp [↓ins_of o2.head]
  apply hN; clear hN N'
  refine wSs_cons fun N' hN => ?_
  try simp
  intro la hla
  have o3 := (o2.new (u := .lst []) hla).swap
  generalize up s2 la _ = s3 at o3 ⊢
  simp [↓ins_of o3.head]
  refine ⟨t.fld _ (by simp), ?_⟩
  have o4 := o3.repl (.here (u' := .ins c_House (houseFs h { b with wr := wr, la := la })))
  generalize up s3 b.self _ = s4 at o4 ⊢
  apply hN; clear hN N'
  refine wSs_cons fun N' hN => ?_
  try simp
  intro fr hfr
  have o5 := (o4.new (u := .lst []) hfr).swap
  generalize up s4 fr _ = s5 at o5 ⊢
  simp [↓ins_of o5.head]
  refine ⟨t.fld _ (by simp), ?_⟩
  have o6 := o5.repl (.here (u' := .ins c_House (houseFs h { b with wr := wr, la := la, fr := fr })))
  generalize up s5 b.self _ = s6 at o6 ⊢
  apply hN; clear hN N'
  simp [↓wSs_cons', ↓wSs_nil]
  refine hQ { b with wr := wr, la := la, fr := fr } _ rfl ?_
  have o7 := o6.mv (M := [(b.self, .ins c_House (houseFs h { b with wr := wr, la := la, fr := fr })), (b.nm, .lst (ks.map .str)), (b.kn, .dK (dmap kS ks (rowsD h.known))), (wr, .dK (dmap kS ks (rowsD h.known))), (la, .lst []), (fr, .lst [])] ++
    ((b.la, .lst (h.laid.map Letter.d)) :: (b.fr, .lst (h.fresh.map LR.d)) :: F) ++ [(b.wr, .dK (dmap kS ks (rowsD h.written)))]) (fun a => by simp only [cnt_app, cnt_cons, cnt_nil]; omega)
  exact (o7.mv (M := [(b.wr, .dK (dmap kS ks (rowsD h.written)))] ++ (houseCells { b with wr := wr, la := la, fr := fr } ks h.wrote ++ ((b.la, .lst (h.laid.map Letter.d)) :: (b.fr, .lst (h.fresh.map LR.d)) :: F))) (fun a => by
    simp only [houseCells, HM.wrote, houseFs, cnt_app, cnt_cons, cnt_nil, List.map_nil]; omega)).drop
theorem House_sleep_ok (t : HouseTab T) (hf : T.fn f_House_sleep = some fn_House_sleep) (o : Own s (houseCells b ks h ++ F))
    (hQ : ∀ b' s', b'.self = b.self → Own s' (houseCells b' ks h.slept ++ F) → Q .non s') : wCall T (n + 1) f_House_sleep [.ob b.self] s Q X := by
  refine ⟨fn_House_sleep, hf, rfl, ?_⟩
  simp only [fn_House_sleep, start, List.map, List.length, List.replicate, List.cons_append, List.nil_append]
  simp only [houseCells, List.cons_append, List.nil_append] at o
  refine wSs_cons fun N' hN => ?_
  simp [↓ins_of o.head, ↓dic_of o.tail.tail.tail.head]
  intro kn hkn
  have o1 := (o.new (u := .dK (dmap kS ks (rowsD h.written))) hkn).swap
  generalize up s kn _ = s1 at o1 ⊢
  simp [↓ins_of o1.head]
  refine ⟨t.fld _ (by simp), ?_⟩
  have o2 := o1.repl (.here (u' := .ins c_House (houseFs h { b with kn := kn })))
  generalize up s1 b.self _ = s2 at o2 ⊢
  apply hN; clear hN N'
  refine wSs_cons fun N' hN => ?_
  try simp
  intro la hla
  have o3 := (o2.new (u := .lst []) hla).swap
  generalize up s2 la _ = s3 at o3 ⊢
  simp [↓ins_of o3.head]
  refine ⟨t.fld _ (by simp), ?_⟩
  have o4 := o3.repl (.here (u' := .ins c_House (houseFs h { b with kn := kn, la := la })))
  generalize up s3 b.self _ = s4 at o4 ⊢
  apply hN; clear hN N'
  refine wSs_cons fun N' hN => ?_
  try simp
  intro fr hfr
  have o5 := (o4.new (u := .lst []) hfr).swap
  generalize up s4 fr _ = s5 at o5 ⊢
  simp [↓ins_of o5.head]
  refine ⟨t.fld _ (by simp), ?_⟩
  have o6 := o5.repl (.here (u' := .ins c_House (houseFs h { b with kn := kn, la := la, fr := fr })))
  generalize up s5 b.self _ = s6 at o6 ⊢
  apply hN; clear hN N'
  rw [wSs_nil]
  refine hQ { b with kn := kn, la := la, fr := fr } _ rfl ?_
  exact (o6.mv (M := [(b.kn, .dK (dmap kS ks (rowsD h.known))), (b.la, .lst (h.laid.map Letter.d)), (b.fr, .lst (h.fresh.map LR.d))] ++ (houseCells { b with kn := kn, la := la, fr := fr } ks h.slept ++ F)) (fun a => by
    simp only [houseCells, HM.slept, houseFs, cnt_app, cnt_cons, cnt_nil, List.map_nil]; omega)).drop
/-- a letter that a house takes -/
def HM.came (h : HM) : Letter → HM
  | .call _ c n k w => h.called c n k w
  | .parcel _ k t a m => h.gotParcel k t a m
  | .taken _ k t => h.gotTaken k t
  | .answer _ _ _ => h
def Letter.fits (ks : List Str) : Letter → Prop
  | .call _ _ _ k _ => k ∈ ks
  | .parcel _ k _ _ _ => k ∈ ks
  | .taken _ k _ => k ∈ ks
  | .answer _ _ _ => False
theorem House_came_ok (t : HouseTab T) (hf : T.fn f_House_came = some fn_House_came) {l : Letter} (hk : l.fits ks) (hm : ∀ k ∈ ks, (h.known k).marks.length ≤ 1000) (hl : h.laid.length ≤ 10000000) (hfr : h.fresh.length ≤ 10000000) (hks : ks.length ≤ 1000)
    (o : Own s (houseCells b ks h ++ F)) (hQ : ∀ s', Own s' (houseCells b ks (h.came l) ++ F) → Q .non s') : wCall T (n + 3) f_House_came [.ob b.self, l.d] s Q X := by
  refine ⟨fn_House_came, hf, rfl, ?_⟩
  simp only [fn_House_came, start, List.map, List.length, List.replicate, List.cons_append, List.nil_append]
  cases l with
  | call hh c i k w =>
    have hk : k ∈ ks := hk
    refine wSs_cons fun N' hN => ?_
    simp [Letter.d]
    refine wSs_cons fun N2 hN2 => ?_
    simp [↓mthQ_of o.head t.called rfl]
    refine House_called_ok t hk (hm k hk) hl hfr hks o fun s2 o2 => ?_
    try simp
    apply hN2
    rw [wSs_nil]
    apply hN
    rw [wSs_nil]
    exact hQ _ o2
  | answer c i u => exact absurd hk id
  | parcel hh k tn am ms =>
    have hk : k ∈ ks := hk
    refine wSs_cons fun N' hN => ?_
    simp [Letter.d]
    refine wSs_cons fun N2 hN2 => ?_
    simp
    refine wSs_cons fun N3 hN3 => ?_
    simp [↓ins_of o.head, ↓dic_of o.tail.tail.head, hk, rowsD, Row.d]
    have fin : ∀ (kn' : Str → Row) s1, kn' = (h.gotParcel k tn am ms).known → Own s1 (houseCells b ks { h with known := kn' } ++ F) → N3 [some (.ob b.self), some (.tup [.str q_parcel, .int hh, .str k, .int tn, .int am, marksD ms]), none, none, none, none] s1 := by
      intro kn' s1 e o1
      apply hN3
      refine wSs_cons fun N4 hN4 => ?_
      simp [↓ins_of o1.head, ↓lst_of o1.tail.tail.tail.tail.head]
      refine ⟨by omega, ?_⟩
      have o2 := o1.repl (.there (.there (.there (.there (.here (u' := .lst (h.laid.map Letter.d ++ [.tup [.str q_taken, .int (1 - h.num), .str k, .int tn]])))))))
      generalize up s1 b.la _ = s2 at o2 ⊢
      apply hN4
      rw [wSs_nil]
      apply hN2
      rw [wSs_nil]
      apply hN
      rw [wSs_nil]
      refine hQ _ ?_
      rw [e] at o2
      simpa [houseCells, houseFs, HM.came, HM.gotParcel, Letter.d] using o2
    clear hN3 hN2 hN
    by_cases hgt : (h.known k).turn < tn
    · rw [if_pos hgt]
      refine wSs_cons fun N4 hN4 => ?_
      have e1 : fput (rowsD h.known) k (.tup [.int tn, .str q_here, .int am, marksD ms]) = rowsD (fset h.known k ⟨tn, .here, am, ms⟩) := fput_rows (r := ⟨tn, .here, am, ms⟩)
      simp [↓ins_of o.head, ↓dic_of o.tail.tail.head, putD_inr hk, e1]
      refine ⟨by omega, ?_⟩
      have o1 := o.repl (.there (.there (.here (u' := .dK (dmap kS ks (rowsD (fset h.known k ⟨tn, .here, am, ms⟩)))))))
      apply hN4
      rw [wSs_nil]
      exact fin (fset h.known k ⟨tn, .here, am, ms⟩) _ (by simp [HM.gotParcel, hgt]) o1
    · rw [if_neg hgt, wSs_nil]
      exact fin h.known _ (by simp [HM.gotParcel, hgt]) o
  | taken hh k tn =>
    have hk : k ∈ ks := hk
    refine wSs_cons fun N' hN => ?_
    simp [Letter.d]
    refine wSs_cons fun N2 hN2 => ?_
    simp
    refine wSs_cons fun N3 hN3 => ?_
    simp [↓ins_of o.head, ↓dic_of o.tail.tail.head, hk, rowsD, Row.d]
    apply hN3; clear hN3
    refine wSs_cons fun N3 hN3 => ?_
    try simp
    have fin : ∀ (kn' : Str → Row) s1, kn' = (h.gotTaken k tn).known → Own s1 (houseCells b ks { h with known := kn' } ++ F) → N3 [some (.ob b.self), some (.tup [.str q_taken, .int hh, .str k, .int tn]), some (.int (h.known k).turn), some (.str (h.known k).st.q), some (.int (h.known k).amt), some (marksD (h.known k).marks)] s1 := by
      intro kn' s1 e o1
      apply hN3
      rw [wSs_nil]
      apply hN2
      rw [wSs_nil]
      apply hN
      rw [wSs_nil]
      refine hQ _ ?_
      have : h.came (.taken hh k tn) = { h with known := kn' } := by
        show h.gotTaken k tn = _
        rw [e]; unfold HM.gotTaken; split <;> rfl
      rw [this]; exact o1
    clear hN3 hN2 hN
    by_cases hs : (h.known k).st = .owed
    · by_cases ht : (h.known k).turn + 1 = tn
      · simp [hs, ht]
        refine wSs_cons fun N4 hN4 => ?_
        have e1 : fput (rowsD h.known) k (.tup [.int (h.known k).turn, .str q_gone, .int 0, .tup []]) = rowsD (fset h.known k ⟨(h.known k).turn, .gone, 0, []⟩) := fput_rows (r := ⟨(h.known k).turn, .gone, 0, []⟩)
        simp [↓ins_of o.head, ↓dic_of o.tail.tail.head, putD_inr hk, e1]
        refine ⟨by omega, ?_⟩
        have o1 := o.repl (.there (.there (.here (u' := .dK (dmap kS ks (rowsD (fset h.known k ⟨(h.known k).turn, .gone, 0, []⟩)))))))
        apply hN4
        rw [wSs_nil]
        have := fin (fset h.known k ⟨(h.known k).turn, .gone, 0, []⟩) _ (by simp [HM.gotTaken, hs, ht]) o1
        rw [hs] at this
        exact this
      · simp [hs, ht, ↓wSs_nil]
        have := fin h.known s (by simp [HM.gotTaken, ht]) o
        rw [hs] at this
        exact this
    · simp [hs, ↓wSs_nil]
      exact fin h.known _ (by simp [HM.gotTaken, hs]) o
theorem House_init_ok (t : HouseTab T) (hf : T.fn f_House_init = some fn_House_init) {p ak : Addr} {num : Int} (hnum : num = 0 ∨ num = 1) (nd : ks.Nodup) (hks : ks.length ≤ 1000)
    (o : Own s ((p, .ins c_House []) :: F)) (ha : (ak, .lst (ks.map .str)) ∈ F)
    (hQ : ∀ b s', b.self = p → Own s' (houseCells b ks (.new num) ++ F) → Q .non s') : wCall T (n + 1) f_House_init [.ob p, .int num, .ob ak] s Q X := by
  refine ⟨fn_House_init, hf, rfl, ?_⟩
  simp only [fn_House_init, start, List.map, List.length, List.replicate, List.cons_append, List.nil_append]
  have w : ∀ f, f ∈ [a_number, a_names, a_known, a_written, a_laid, a_fresh] → ∀ (fs : List (Nat × D)) (d : D) s F K, fs.length < 1000 → Own s ((p, .ins c_House fs) :: F) → (∀ s', Own s' ((p, .ins c_House (putA f d fs)) :: F) → K s') → setfQ T f d K (.ob p) s := by
    intro f hm fs d s F K hl o hK
    rw [setfQ_of o.head]
    exact ⟨t.fld f hm, hl, hK _ o.set⟩
  refine wSs_cons fun N' hN => ?_
  try simp
  refine w _ (by simp) _ _ _ _ _ (by simp) o fun s1 o1 => ?_
  apply hN; clear hN N'
  refine wSs_cons fun N' hN => ?_
  simp [↓lst_of (o1.mem (List.mem_cons_of_mem _ ha))]
  intro nm hnm
  have o2 := (o1.new (u := .lst (ks.map .str)) hnm).swap
  generalize up s1 nm _ = s2 at o2 ⊢
  refine w _ (by simp) _ _ _ _ _ (by exact (by decide : (1 : Nat) < 1000)) o2 fun s3 o3 => ?_
  apply hN; clear hN N'
  refine wSs_cons fun N' hN => ?_
  try simp
  intro kn hkn
  have o4 := (o3.new (u := .dK []) hkn).swap
  generalize up s3 kn _ = s4 at o4 ⊢
  refine w _ (by simp) _ _ _ _ _ (by exact (by decide : (2 : Nat) < 1000)) o4 fun s5 o5 => ?_
  apply hN; clear hN N' o1 o2 o3 o4 hnm hkn
  have hl3 : ∀ k, look (putA a_known (.ob kn) (putA a_names (.ob nm) (putA a_number (.int num) []))) a_known k = k (.ob kn) := fun _ => rfl
  generalize hfs : putA a_known (.ob kn) (putA a_names (.ob nm) (putA a_number (.int num) [])) = fs at o5 hl3
  refine wSs_cons fun N' hN => ?_
  simp [↓lst_of (o5.mem (show (ak, O.lst (ks.map .str)) ∈ _ from by simp [ha]))]
  refine wFor_map ks D.str (fun pre e s => Own s ((p, .ins c_House fs) :: (kn, .dK (dmap kS pre (rowsD fun _ => .first num))) :: (nm, .lst (ks.map .str)) :: F) ∧ ∃ x3, e = [some (.ob p), some (.int num), some (.ob ak), x3])
    ⟨o5, _, rfl⟩ ?_ ?_
  · intro pre k post e s6 K hm ⟨o6, x3, he⟩ hK
    subst he
    refine ⟨o6.mem (by simp [ha]), _, rfl, ?_⟩
    have hlen : pre.length < 1000 := by have := congrArg List.length hm; simp at this; omega
    have hn : k ∉ pre := by
      rw [hm, List.nodup_append] at nd
      exact fun h => nd.2.2 k h k (by simp) rfl
    have fin : ∀ d, d = (Row.first num).d → Own (up s6 kn (.dK (putD (dmap kS pre (rowsD fun _ => .first num)) (.inr k) d))) ((p, .ins c_House fs) :: (kn, .dK (dmap kS (pre ++ [k]) (rowsD fun _ => .first num))) :: (nm, .lst (ks.map .str)) :: F) := by
      intro d hd
      have e : putD (dmap kS pre (rowsD fun _ => .first num)) (.inr k) d = dmap kS (pre ++ [k]) (rowsD fun _ => .first num) := by
        rw [show (Sum.inr k : Key) = kS k from rfl, putD_new kS_inj hn]
        exact dmap_congr fun j _ => by simp only [fput, rowsD]; split <;> simp [hd]
      rw [e]
      exact o6.repl (.there .here)
    simp only [↓wSs_cons', ↓wSs_nil]
    rcases hnum with e | e
    · subst e
      simp [↓fldQ_of o6.head, ↓hl3, ↓dic_of o6.tail.head]
      exact ⟨by omega, hK _ _ ⟨fin _ rfl, _, rfl⟩⟩
    · subst e
      simp [↓fldQ_of o6.head, ↓hl3, ↓dic_of o6.tail.head]
      exact ⟨by omega, hK _ _ ⟨fin _ rfl, _, rfl⟩⟩
  · intro e s6 ⟨o6, x3, he⟩
    subst he
    refine ⟨o6.mem (by simp [ha]), ?_⟩
    apply hN; clear hN N'
    refine wSs_cons fun N' hN => ?_
    simp [↓fldQ_of o6.head, ↓hl3, ↓dic_of o6.tail.head]
    intro wr hwr
    have o7 := (o6.new (u := .dK (dmap kS ks (rowsD fun _ => .first num))) hwr).swap
    generalize up s6 wr _ = s7 at o7 ⊢
    subst hfs
    refine w _ (by simp) _ _ _ _ _ (by exact (by decide : (3 : Nat) < 1000)) o7 fun s8 o8 => ?_
    apply hN; clear hN N'
    refine wSs_cons fun N' hN => ?_
    try simp
    intro la hla
    have o9 := (o8.new (u := .lst []) hla).swap
    generalize up s8 la _ = s9 at o9 ⊢
    refine w _ (by simp) _ _ _ _ _ (by exact (by decide : (4 : Nat) < 1000)) o9 fun s10 o10 => ?_
    apply hN; clear hN N'
    refine wSs_cons fun N' hN => ?_
    try simp
    intro fr hfr
    have o11 := (o10.new (u := .lst []) hfr).swap
    generalize up s10 fr _ = s11 at o11 ⊢
    refine w _ (by simp) _ _ _ _ _ (by exact (by decide : (5 : Nat) < 1000)) o11 fun s12 o12 => ?_
    apply hN; clear hN N'
    refine hQ ⟨p, nm, kn, wr, la, fr⟩ _ rfl ?_
    have o13 : Own s12 ((p, .ins c_House (houseFs (.new num) ⟨p, nm, kn, wr, la, fr⟩)) :: (fr, .lst []) :: (la, .lst []) :: (wr, .dK (dmap kS ks (rowsD fun _ => .first num))) :: (kn, .dK (dmap kS ks (rowsD fun _ => .first num))) :: (nm, .lst (ks.map .str)) :: F) := o12
    exact o13.mv fun a => by simp only [houseCells, HM.new, cnt_app, cnt_cons, cnt_nil, List.map_nil]; omega
end
end MH
set_option Elab.async false
set_option linter.all false
set_option maxRecDepth 100000
/-! Letters and rows as data; what marks tell. -/
namespace MH
open PySem L2
def mP (t : J3) : PyData := .tuple [.int t.1, .int t.2.1, .int t.2.2]
def marksP (m : List J3) : PyData := .tuple (m.map mP)
theorem mD_snap {s : S} {t : J3} : Snap s (mD t) (mP t) := .tup (.cons (.int _) (.cons (.int _) (.cons (.int _) .nil)))
theorem marks_snap {s : S} {m : List J3} : Snap s (marksD m) (marksP m) := .tup (Snaps.map fun _ _ => mD_snap)
theorem marks_lf {m : List J3} {n : Nat} (h : m.length ≤ 1000) : Lf (n + 3) (marksP m) :=
  .tup (fun d hd => by obtain ⟨t, _, rfl⟩ := List.mem_map.mp hd; exact .tup (by simp; exact ⟨.int _, .int _, .int _⟩) (by simp)) (by simp; omega)
def Letter.p : Letter → PyData
  | .call h c n k w => .tuple [.str q_call, .int h, .int c, .int n, .str k, w.p]
  | .answer c n t => .tuple [.str q_answer, .int c, .int n, .int t]
  | .parcel h k t a m => .tuple [.str q_parcel, .int h, .str k, .int t, .int a, marksP m]
  | .taken h k t => .tuple [.str q_taken, .int h, .str k, .int t]
theorem Letter.snap {s : S} (l : Letter) : Snap s l.d l.p := by
  cases l with
  | call h c n k w => exact .tup (.cons (.str _) (.cons (.int _) (.cons (.int _) (.cons (.int _) (.cons (.str _) (.cons w.snap .nil))))))
  | answer c n t => exact .tup (.cons (.str _) (.cons (.int _) (.cons (.int _) (.cons (.int _) .nil))))
  | parcel h k t a m => exact .tup (.cons (.str _) (.cons (.int _) (.cons (.str _) (.cons (.int _) (.cons (.int _) (.cons marks_snap .nil))))))
  | taken h k t => exact .tup (.cons (.str _) (.cons (.int _) (.cons (.str _) (.cons (.int _) .nil))))
def Letter.short : Letter → Prop
  | .parcel _ _ _ _ m => m.length ≤ 1000
  | _ => True
theorem Letter.lf {n : Nat} (l : Letter) (h : l.short) : Lf (n + 4) l.p := by
  cases l with
  | call h c n k w => exact .tup (by simp; exact ⟨.str _, .int _, .int _, .int _, .str _, w.lf⟩) (by simp)
  | answer c n t => exact .tup (by simp; exact ⟨.str _, .int _, .int _, .int _⟩) (by simp)
  | parcel hh k t a m => exact .tup (by simp; exact ⟨.str _, .int _, .str _, .int _, .int _, marks_lf h⟩) (by simp)
  | taken h k t => exact .tup (by simp; exact ⟨.str _, .int _, .str _, .int _⟩) (by simp)
def LR.p (r : LR) : PyData := .tuple [.int r.c, .int r.n, .str r.k, r.w.p, .int r.t]
theorem LR.snap {s : S} (r : LR) : Snap s r.d r.p := .tup (.cons (.int _) (.cons (.int _) (.cons (.str _) (.cons r.w.snap (.cons (.int _) .nil)))))
theorem LR.lf {n : Nat} (r : LR) : Lf (n + 3) r.p := .tup (by simp; exact ⟨.int _, .int _, .str _, r.w.lf, .int _⟩) (by simp)
theorem letters_snap {s : S} {a : Addr} {l : List Letter} (h : s a = some (.lst (l.map Letter.d))) : Snap s (.ob a) (.list (l.map Letter.p)) := .lst h (Snaps.map fun l _ => l.snap)
theorem lrs_snap {s : S} {a : Addr} {l : List LR} (h : s a = some (.lst (l.map LR.d))) : Snap s (.ob a) (.list (l.map LR.p)) := .lst h (Snaps.map fun l _ => l.snap)
theorem letters_lf {n : Nat} {l : List Letter} (h : ∀ x ∈ l, x.short) (hl : l.length ≤ 10000000) : Lf (n + 5) (.list (l.map Letter.p)) :=
  .lst (fun d hd => by obtain ⟨x, hx, rfl⟩ := List.mem_map.mp hd; exact x.lf (h x hx)) (by simp; omega)
theorem lrs_lf {n : Nat} {l : List LR} (hl : l.length ≤ 10000000) : Lf (n + 4) (.list (l.map LR.p)) :=
  .lst (fun d hd => by obtain ⟨x, hx, rfl⟩ := List.mem_map.mp hd; exact x.lf) (by simp; omega)
/-! marks -/
theorem markOf_none : ∀ {m : List J3} {c : Int}, (∀ t ∈ m, t.1 ≠ c) → markOf m c = (0, 0)
  | [], _, _ => rfl
  | t :: m, c, h => by rw [markOf, if_neg (h t (by simp)), markOf_none fun u hu => h u (by simp [hu])]
theorem markOf_mem : ∀ {m : List J3} {c : Int} {x : Int × Int}, (m.map (·.1)).Nodup → (c, x) ∈ m → markOf m c = x
  | t :: m, c, x, nd, h => by
    rw [List.map_cons, List.nodup_cons] at nd
    rw [markOf]
    by_cases e : t.1 = c
    · rw [if_pos e]
      rcases List.mem_cons.mp h with h | h
      · rw [← h]
      · exact absurd (List.mem_map.mpr ⟨_, h, e.symm⟩) nd.1
    · rw [if_neg e]
      rcases List.mem_cons.mp h with h | h
      · rw [← h] at e; exact absurd rfl e
      · exact markOf_mem nd.2 h
structure MarksOk (m : List J3) : Prop where
  nd : (m.map (·.1)).Nodup
  rng : ∀ t ∈ m, 0 ≤ t.1 ∧ t.1 < 6
theorem sortM_perm (m : List J3) : (sortM m).Perm m := List.mergeSort_perm m le3
theorem marked_perm {m : List J3} {c n t : Int} : (markedM m c n t).Perm (m.filter (fun x => decide (x.1 ≠ c)) ++ [(c, n, t)]) := sortM_perm _
theorem MarksOk.marked {m : List J3} (h : MarksOk m) {c n t : Int} (hc : 0 ≤ c ∧ c < 6) : MarksOk (markedM m c n t) := by
  refine ⟨?_, fun u hu => ?_⟩
  · refine (marked_perm.map (·.1)).nodup_iff.mpr ?_
    rw [List.map_append, List.nodup_append]
    refine ⟨h.nd.sublist (List.filter_sublist.map _), by simp, fun a ha b hb => ?_⟩
    obtain ⟨u, hu, rfl⟩ := List.mem_map.mp ha
    have := (List.mem_filter.mp hu).2
    simp at hb this
    rw [hb]; exact this
  · rcases List.mem_append.mp (marked_perm.mem_iff.mp hu) with h2 | h2
    · exact h.rng u (List.mem_filter.mp h2).1
    · rw [List.mem_singleton.mp h2]; exact hc
theorem markOf_marked {m : List J3} (h : MarksOk m) {c n t : Int} (hc : 0 ≤ c ∧ c < 6) (d : Int) : markOf (markedM m c n t) d = if d = c then (n, t) else markOf m d := by
  have h2 := h.marked (n := n) (t := t) hc
  by_cases e : d = c
  · subst e
    rw [if_pos rfl]
    exact markOf_mem h2.nd (marked_perm.mem_iff.mpr (by simp))
  · rw [if_neg e]
    by_cases hd : ∃ x, (d, x) ∈ m
    · obtain ⟨x, hx⟩ := hd
      rw [markOf_mem h.nd hx]
      exact markOf_mem h2.nd (marked_perm.mem_iff.mpr (by simp [hx, e]))
    · rw [markOf_none (m := m) fun u hu e2 => hd ⟨u.2, by rw [← e2]; exact hu⟩]
      refine markOf_none fun u hu e2 => ?_
      rcases List.mem_append.mp (marked_perm.mem_iff.mp hu) with h3 | h3
      · exact hd ⟨u.2, by rw [← e2]; exact (List.mem_filter.mp h3).1⟩
      · rw [List.mem_singleton.mp h3] at e2; exact e e2.symm
theorem nodup_below : ∀ (k : Nat) (l : List Int), l.Nodup → (∀ x ∈ l, 0 ≤ x ∧ x < k) → l.length ≤ k
  | 0, l, nd, h => by
    cases l with
    | nil => simp
    | cons x l => have := h x (by simp); omega
  | k + 1, l, nd, h => by
    have h1 := nodup_below k (l.filter fun x => decide (x ≠ k)) (nd.sublist List.filter_sublist) fun x hx => by
      obtain ⟨a, b⟩ := List.mem_filter.mp hx
      have := h x a
      simp at b
      omega
    have h2 : l.length ≤ (l.filter fun x => decide (x ≠ (k : Int))).length + 1 := by
      clear h h1
      induction l with
      | nil => simp
      | cons y l ih =>
        rw [List.nodup_cons] at nd
        by_cases e : y = k
        · have : l.filter (fun x => decide (x ≠ (k : Int))) = l := List.filter_eq_self.mpr fun x hx => by
            simp; rintro rfl; exact nd.1 (e ▸ hx)
          rw [List.filter_cons_of_neg (by simp [e]), this]; simp
        · rw [List.filter_cons_of_pos (by simp [e])]
          have := ih nd.2
          simp only [List.length_cons]; omega
    omega
theorem MarksOk.len {m : List J3} (h : MarksOk m) : m.length ≤ 6 := by
  have := nodup_below 6 (m.map (·.1)) h.nd fun x hx => by
    obtain ⟨t, ht, rfl⟩ := List.mem_map.mp hx
    exact h.rng t ht
  simpa using this
theorem MarksOk.nil : MarksOk [] := ⟨by simp, by simp⟩
end MH
set_option Elab.async false
set_option linter.all false
set_option maxRecDepth 100000
/-! A house's tables, as a law keeps them. -/
namespace MH
open PySem L2
def tab5 (i : Int) (kn wr la fr : Addr) : List (Key × D) := [(.inr q_number, .int i), (.inr q_known, .ob kn), (.inr q_written, .ob wr), (.inr q_laid, .ob la), (.inr q_fresh, .ob fr)]
section
variable {i : Int} {kn wr la fr a : Addr}
@[simp] theorem t5_number : valD (tab5 i kn wr la fr) (.inr q_number) = some (.int i) := rfl
@[simp] theorem t5_known : valD (tab5 i kn wr la fr) (.inr q_known) = some (.ob kn) := rfl
@[simp] theorem t5_written : valD (tab5 i kn wr la fr) (.inr q_written) = some (.ob wr) := rfl
@[simp] theorem t5_laid : valD (tab5 i kn wr la fr) (.inr q_laid) = some (.ob la) := rfl
@[simp] theorem t5_fresh : valD (tab5 i kn wr la fr) (.inr q_fresh) = some (.ob fr) := rfl
@[simp] theorem t5_put_known : putD (tab5 i kn wr la fr) (.inr q_known) (.ob a) = tab5 i a wr la fr := rfl
@[simp] theorem t5_put_written : putD (tab5 i kn wr la fr) (.inr q_written) (.ob a) = tab5 i kn a la fr := rfl
@[simp] theorem t5_put_laid : putD (tab5 i kn wr la fr) (.inr q_laid) (.ob a) = tab5 i kn wr a fr := rfl
@[simp] theorem t5_put_fresh : putD (tab5 i kn wr la fr) (.inr q_fresh) (.ob a) = tab5 i kn wr la a := rfl
@[simp] theorem t5_len : (tab5 i kn wr la fr).length = 5 := rfl
end
structure TB where
  ow : Addr
  kn : Addr
  wr : Addr
  la : Addr
  fr : Addr
def tabCells (b : TB) (ks : List Str) (h : HM) : List Cell :=
  [(b.ow, .dK (tab5 h.num b.kn b.wr b.la b.fr)), (b.kn, .dK (dmap kS ks (rowsD h.known))), (b.wr, .dK (dmap kS ks (rowsD h.written))), (b.la, .lst (h.laid.map Letter.d)), (b.fr, .lst (h.fresh.map LR.d))]
structure TabTab (T : Tab) : Prop where
  last : T.fn f_l_last = some fn_l_last
  marked : T.fn f_l_marked = some fn_l_marked
  done : T.fn f_l_done = some fn_l_done
  parcel : T.fn f_l_parcel = some fn_l_parcel
  called : T.fn f_l_called = some fn_l_called
  moved : T.fn f_l_moved = some fn_l_moved
  wrote : T.fn f_l_wrote_k06 = some fn_l_wrote_k06
  slept : T.fn f_l_slept = some fn_l_slept
  nudged : T.fn f_l_nudged = some fn_l_nudged
  new : T.fn f_l_new = some fn_l_new
section
variable {T : Tab} {n : Nat} {s : S} {Q : K1} {X : XP} {F : List Cell} {b : TB} {ks : List Str} {h : HM}
theorem l_parcel_ok (t : TabTab T) {k : Str} {r : Row} (o : Own s (tabCells b ks h ++ F)) (hQ : Q (h.parcelOf k r).d s) :
    wCall T (n + 1) f_l_parcel [.ob b.ow, .str k, r.d] s Q X := by
  refine ⟨fn_l_parcel, t.parcel, rfl, ?_⟩
  simp only [fn_l_parcel, start, List.map, List.length, List.replicate, List.cons_append, List.nil_append]
  simpa [↓wSs_cons', ↓wSs_nil, ↓dic_of o.head, Row.d, HM.parcelOf, Letter.d] using hQ
theorem l_called_ok (t : TabTab T) {c i : Int} {k : Str} {w : Wish} (hk : k ∈ ks) (hm : (h.known k).marks.length ≤ 1000) (hl : h.laid.length ≤ 10000000) (hfr : h.fresh.length ≤ 10000000) (hks : ks.length ≤ 1000)
    (o : Own s (tabCells b ks h ++ F)) (hQ : ∀ s', Own s' (tabCells b ks (h.called c i k w) ++ F) → Q .non s') : wCall T (n + 2) f_l_called [.ob b.ow, .int c, .int i, .str k, w.d] s Q X := by
  refine ⟨fn_l_called, t.called, rfl, ?_⟩
  simp only [fn_l_called, start, List.map, List.length, List.replicate, List.cons_append, List.nil_append]
  refine wSs_cons fun N' hN => ?_
  simp [↓dic_of o.head, ↓dic_of o.tail.head, hk, rowsD, Row.d]
  apply hN; clear hN N'
  refine wSs_cons fun N' hN => ?_
  simp only [marksD]
  try simp
  refine l_last_ok t.last ?_
  try simp
  apply hN; clear hN N'
  refine wSs_cons fun N' hN => ?_
  try simp
  unfold HM.called at hQ
  by_cases h1 : (h.known k).st = .here
  · by_cases h2 : i < (markOf (h.known k).marks c).1
    · rw [if_pos (.inr h2)] at hQ
      simp [h1, h2, ↓wSs_cons', ↓wSs_nil]
      exact hQ _ o
    · have h3 : ¬ ((h.known k).st ≠ .here ∨ (markOf (h.known k).marks c).1 > i) := by simp [h1]; omega
      rw [if_neg h3] at hQ
      simp [h1, h2]
      rw [wSs_nil]
      apply hN; clear hN N'
      refine wSs_cons fun N' hN => ?_
      try simp
      by_cases h4 : (markOf (h.known k).marks c).1 < i
      · rw [if_pos h4] at hQ ⊢
        refine wSs_cons fun N2 hN2 => ?_
        try simp
        refine l_done_ok t.done ?_
        try simp
        apply hN2; clear hN2 N2
        refine wSs_cons fun N2 hN2 => ?_
        try simp
        refine l_marked_ok t.marked hm fun s1 x1 => ?_
        have o1 := o.ext x1
        generalize (doneW (h.known k).amt w).1 = a' at hQ ⊢
        generalize (doneW (h.known k).amt w).2 = t' at hQ ⊢
        have e1 : fput (rowsD h.known) k (.tup [.int (h.known k).turn, .str q_here, .int a', .tup ((markedM (h.known k).marks c i t').map mD)]) = rowsD (fset h.known k ⟨(h.known k).turn, .here, a', markedM (h.known k).marks c i t'⟩) := fput_rows (r := ⟨(h.known k).turn, .here, a', markedM (h.known k).marks c i t'⟩)
        simp [↓dic_of o1.head, ↓dic_of o1.tail.head, putD_inr hk, e1]
        generalize fset h.known k ⟨(h.known k).turn, .here, a', markedM (h.known k).marks c i t'⟩ = kn' at hQ ⊢
        clear e1
        refine ⟨by omega, ?_⟩
        have o2 := o1.repl (.there (.here (u' := .dK (dmap kS ks (rowsD kn')))))
        generalize up s1 b.kn _ = s2 at o2 ⊢
        apply hN2; clear hN2 N2
        refine wSs_cons fun N2 hN2 => ?_
        simp [↓dic_of o2.head, ↓lst_of o2.tail.tail.tail.tail.head]
        refine ⟨by omega, ?_⟩
        have o3 := o2.repl (.there (.there (.there (.there (.here (u' := .lst (h.fresh.map LR.d ++ [.tup [.int c, .int i, .str k, w.d, .int t']])))))))
        generalize up s2 b.fr _ = s3 at o3 ⊢
        apply hN2; clear hN2 N2
        rw [wSs_nil]
        apply hN; clear hN N'
        simp [↓wSs_cons', ↓wSs_nil, ↓dic_of o3.head, ↓lst_of o3.tail.tail.tail.head]
        refine ⟨by omega, hQ _ ?_⟩
        have o4 := o3.repl (.there (.there (.there (.here (u' := .lst (h.laid.map Letter.d ++ [.tup [.str q_answer, .int c, .int i, .int t']]))))))
        simpa [tabCells, LR.d, Letter.d] using o4
      · rw [if_neg h4] at hQ ⊢
        rw [wSs_nil]
        apply hN; clear hN N'
        simp [↓wSs_cons', ↓wSs_nil, ↓dic_of o.head, ↓lst_of o.tail.tail.tail.head]
        refine ⟨by omega, hQ _ ?_⟩
        have o2 := o.repl (.there (.there (.there (.here (u' := .lst (h.laid.map Letter.d ++ [(Letter.answer c i (markOf (h.known k).marks c).2).d]))))))
        simpa [tabCells, Letter.d] using o2
  · rw [if_pos (.inl h1)] at hQ
    simp [h1, ↓wSs_cons', ↓wSs_nil]
    exact hQ _ o
theorem l_moved_ok (t : TabTab T) {k : Str} (hk : k ∈ ks) (hks : ks.length ≤ 1000) (hl : h.laid.length ≤ 10000000) (o : Own s (tabCells b ks h ++ F)) (hQ : ∀ s', Own s' (tabCells b ks (h.moved k) ++ F) → Q .non s') :
    wCall T (n + 2) f_l_moved [.ob b.ow, .str k] s Q X := by
  refine ⟨fn_l_moved, t.moved, rfl, ?_⟩
  simp only [fn_l_moved, start, List.map, List.length, List.replicate, List.cons_append, List.nil_append]
  refine wSs_cons fun N' hN => ?_
  simp [↓dic_of o.head, ↓dic_of o.tail.head, hk, rowsD, Row.d]
  apply hN; clear hN N'
  refine wSs_cons fun N' hN => ?_
  have e1 : fput (rowsD h.known) k (.tup [.int (h.known k).turn, .str q_owed, .int (h.known k).amt, marksD (h.known k).marks]) = rowsD (fset h.known k { h.known k with st := .owed }) := fput_rows (r := { h.known k with st := .owed })
  simp [↓dic_of o.head, ↓dic_of o.tail.head, putD_inr hk, e1]
  refine ⟨by omega, ?_⟩
  have o1 := o.repl (.there (.here (u' := .dK (dmap kS ks (rowsD (fset h.known k { h.known k with st := .owed }))))))
  generalize up s b.kn _ = s1 at o1 ⊢
  apply hN; clear hN N'
  have o2 : Own s1 (tabCells b ks { h with known := fset h.known k { h.known k with st := .owed } } ++ F) := o1
  have e2 : rowsD (fset h.known k { h.known k with st := .owed }) k = Row.d { h.known k with st := .owed } := by simp [rowsD, fset]
  refine wSs_cons fun N' hN => ?_
  simp [↓dic_of o2.head, ↓lst_of o2.tail.tail.tail.head, ↓dic_of o2.tail.head, hk, e2]
  refine l_parcel_ok t o2 ?_
  simp [↓lst_of o2.tail.tail.tail.head]
  refine ⟨by omega, ?_⟩
  have o3 := o2.repl (.there (.there (.there (.here (u' := .lst (h.laid.map Letter.d ++ [(h.parcelOf k (h.known k)).d]))))))
  apply hN
  rw [wSs_nil]
  refine hQ _ ?_
  simpa [tabCells, HM.moved, HM.parcelOf] using o3
theorem l_wrote_ok (t : TabTab T) (o : Own s (tabCells b ks h ++ F))
    (hQ : ∀ b' s', b'.ow = b.ow → Own s' (tabCells b' ks h.wrote ++ ((b.la, .lst (h.laid.map Letter.d)) :: (b.fr, .lst (h.fresh.map LR.d)) :: F)) → Q (.tup [.ob b.la, .ob b.fr]) s') : wCall T (n + 1) f_l_wrote_k06 [.ob b.ow] s Q X := by
  refine ⟨fn_l_wrote_k06, t.wrote, rfl, ?_⟩
  simp only [fn_l_wrote_k06, start, List.map, List.length, List.replicate, List.cons_append, List.nil_append]
  simp only [tabCells, List.cons_append, List.nil_append] at o
  refine wSs_cons fun N' hN => ?_
  simp [↓dic_of o.head, ↓dic_of o.tail.head]
  intro wr hwr
  have o1 := (o.new (u := .dK (dmap kS ks (rowsD h.known))) hwr).swap
  generalize up s wr _ = s1 at o1 ⊢
  simp [↓dic_of o1.head]
  have o2 := o1.repl (.here (u' := .dK (tab5 h.num b.kn wr b.la b.fr)))
  generalize up s1 b.ow _ = s2 at o2 ⊢
  apply hN; clear hN N'
  refine wSs_cons fun N' hN => ?_
  simp [↓dic_of o2.head]
  apply hN; clear hN N'
  refine wSs_cons fun N' hN => ?_
  try simp
  intro la hla
  have o3 := (o2.new (u := .lst []) hla).swap
  generalize up s2 la _ = s3 at o3 ⊢
  simp [↓dic_of o3.head]
  have o4 := o3.repl (.here (u' := .dK (tab5 h.num b.kn wr la b.fr)))
  generalize up s3 b.ow _ = s4 at o4 ⊢
  apply hN; clear hN N'
  refine wSs_cons fun N' hN => ?_
  try simp
  intro fr hfr
  have o5 := (o4.new (u := .lst []) hfr).swap
  generalize up s4 fr _ = s5 at o5 ⊢
  simp [↓dic_of o5.head]
  have o6 := o5.repl (.here (u' := .dK (tab5 h.num b.kn wr la fr)))
  generalize up s5 b.ow _ = s6 at o6 ⊢
  apply hN; clear hN N'
  simp [↓wSs_cons', ↓wSs_nil]
  refine hQ { b with wr := wr, la := la, fr := fr } _ rfl ?_
  exact (o6.mv (M := [(b.wr, .dK (dmap kS ks (rowsD h.written)))] ++ (tabCells { b with wr := wr, la := la, fr := fr } ks h.wrote ++ ((b.la, .lst (h.laid.map Letter.d)) :: (b.fr, .lst (h.fresh.map LR.d)) :: F))) (fun a => by
    simp only [tabCells, HM.wrote, cnt_app, cnt_cons, cnt_nil, List.map_nil]; omega)).drop
theorem l_slept_ok (t : TabTab T) (o : Own s (tabCells b ks h ++ F))
    (hQ : ∀ b' s', b'.ow = b.ow → Own s' (tabCells b' ks h.slept ++ F) → Q .non s') : wCall T (n + 1) f_l_slept [.ob b.ow] s Q X := by
  refine ⟨fn_l_slept, t.slept, rfl, ?_⟩
  simp only [fn_l_slept, start, List.map, List.length, List.replicate, List.cons_append, List.nil_append]
  simp only [tabCells, List.cons_append, List.nil_append] at o
  refine wSs_cons fun N' hN => ?_
  simp [↓dic_of o.head, ↓dic_of o.tail.tail.head]
  intro kn hkn
  have o1 := (o.new (u := .dK (dmap kS ks (rowsD h.written))) hkn).swap
  generalize up s kn _ = s1 at o1 ⊢
  simp [↓dic_of o1.head]
  have o2 := o1.repl (.here (u' := .dK (tab5 h.num kn b.wr b.la b.fr)))
  generalize up s1 b.ow _ = s2 at o2 ⊢
  apply hN; clear hN N'
  refine wSs_cons fun N' hN => ?_
  try simp
  intro la hla
  have o3 := (o2.new (u := .lst []) hla).swap
  generalize up s2 la _ = s3 at o3 ⊢
  simp [↓dic_of o3.head]
  have o4 := o3.repl (.here (u' := .dK (tab5 h.num kn b.wr la b.fr)))
  generalize up s3 b.ow _ = s4 at o4 ⊢
  apply hN; clear hN N'
  refine wSs_cons fun N' hN => ?_
  try simp
  intro fr hfr
  have o5 := (o4.new (u := .lst []) hfr).swap
  generalize up s4 fr _ = s5 at o5 ⊢
  simp [↓dic_of o5.head]
  have o6 := o5.repl (.here (u' := .dK (tab5 h.num kn b.wr la fr)))
  generalize up s5 b.ow _ = s6 at o6 ⊢
  apply hN; clear hN N'
  rw [wSs_nil]
  refine hQ { b with kn := kn, la := la, fr := fr } _ rfl ?_
  exact (o6.mv (M := [(b.kn, .dK (dmap kS ks (rowsD h.known))), (b.la, .lst (h.laid.map Letter.d)), (b.fr, .lst (h.fresh.map LR.d))] ++ (tabCells { b with kn := kn, la := la, fr := fr } ks h.slept ++ F)) (fun a => by
    simp only [tabCells, HM.slept, cnt_app, cnt_cons, cnt_nil, List.map_nil]; omega)).drop
theorem l_nudged_ok (t : TabTab T) {ak : Addr} (hks : ks.length ≤ 1000) (o : Own s (tabCells b ks h ++ F)) (ha : (ak, .lst (ks.map .str)) ∈ F)
    (hQ : ∀ q s', Own s' ((q, .lst ((h.nudged ks).map Letter.d)) :: (tabCells b ks h ++ F)) → Q (.ob q) s') : wCall T (n + 2) f_l_nudged [.ob b.ow, .ob ak] s Q X := by
  refine ⟨fn_l_nudged, t.nudged, rfl, ?_⟩
  simp only [fn_l_nudged, start, List.map, List.length, List.replicate, List.cons_append, List.nil_append]
  have l1 : s ak = some (.lst (ks.map .str)) := o.mem (by simp [ha])
  simp [↓wSs_cons', ↓wSs_nil, wE_lc, ↓lst_of l1]
  refine ⟨by omega, ?_⟩
  refine wItems_fil ks D.str (fun k => if (h.written k).st = .owed then some (h.parcelOf k (h.written k)).d else none) (fun s' x => x _ _ l1) ?_ ?_
  · intro k s1 K hk x1 hK
    have o1 := o.ext x1
    by_cases hc : (h.written k).st = .owed
    · simp [hc] at hK
      simp [↓dic_of o1.head, ↓dic_of o1.tail.tail.head, hk, rowsD, Row.d, hc]
      have := l_parcel_ok (n := n) (X := fun _ _ => False) (Q := fun y s4 => K (some y) s4) t (k := k) (r := h.written k) o1 (hK _ (Ext.refl _))
      rw [Row.d, hc] at this
      exact this
    · simp [hc] at hK
      simp [↓dic_of o1.head, ↓dic_of o1.tail.tail.head, hk, rowsD, Row.d, hc]
      exact hK _ (Ext.refl _)
  intro s1 x1 q hq
  have e : List.filterMap (fun k => if (h.written k).st = .owed then some (h.parcelOf k (h.written k)).d else none) ks = (h.nudged ks).map Letter.d := by
    rw [HM.nudged, List.map_filterMap]
    congr 1; funext k
    by_cases hc : (h.written k).st = .owed <;> simp [hc]
  rw [e]
  exact hQ q _ ((o.ext x1).new hq)
theorem l_new_ok (t : TabTab T) {ak : Addr} {num : Int} (hnum : num = 0 ∨ num = 1) (nd : ks.Nodup) (hks : ks.length ≤ 1000) (o : Own s F) (ha : (ak, .lst (ks.map .str)) ∈ F)
    (hQ : ∀ b s', Own s' (tabCells b ks (.new num) ++ F) → Q (.ob b.ow) s') : wCall T (n + 1) f_l_new [.int num, .ob ak] s Q X := by
  refine ⟨fn_l_new, t.new, rfl, ?_⟩
  simp only [fn_l_new, start, List.map, List.length, List.replicate, List.cons_append, List.nil_append]
  refine wSs_cons fun N' hN => ?_
  try simp
  apply hN; clear hN N'
  refine wSs_cons fun N' hN => ?_
  have step : N' [some (.int num), some (.ob ak), some (Row.first num).d, none, none] s := by
    apply hN; clear hN
    refine wSs_cons fun N' hN => ?_
    try simp
    intro kn hkn
    have o1 := o.new (u := .dK []) hkn
    generalize up s kn _ = s1 at o1 ⊢
    apply hN; clear hN N'
    refine wSs_cons fun N' hN => ?_
    simp [↓lst_of (o1.mem (List.mem_cons_of_mem _ ha))]
    refine wFor_map ks D.str (fun pre e s => Own s ((kn, .dK (dmap kS pre (rowsD fun _ => .first num))) :: F) ∧ ∃ x4, e = [some (.int num), some (.ob ak), some (Row.first num).d, some (.ob kn), x4]) ⟨o1, _, rfl⟩ ?_ ?_
    · intro pre k post e s6 K hm ⟨o6, x4, he⟩ hK
      subst he
      refine ⟨o6.mem (by simp [ha]), _, rfl, ?_⟩
      have hlen : pre.length < 1000 := by have := congrArg List.length hm; simp at this; omega
      have hn : k ∉ pre := by
        rw [hm, List.nodup_append] at nd
        exact fun h => nd.2.2 k h k (by simp) rfl
      have e : putD (dmap kS pre (rowsD fun _ => .first num)) (.inr k) (Row.first num).d = dmap kS (pre ++ [k]) (rowsD fun _ => .first num) := by
        rw [show (Sum.inr k : Key) = kS k from rfl, putD_new kS_inj hn]
        exact dmap_congr fun j _ => by simp only [fput, rowsD]; split <;> simp
      simp [↓wSs_cons', ↓wSs_nil, ↓dic_of o6.head, e]
      exact ⟨by omega, hK _ _ ⟨o6.repl .here, _, rfl⟩⟩
    · intro e s6 ⟨o6, x4, he⟩
      subst he
      refine ⟨o6.mem (by simp [ha]), ?_⟩
      apply hN; clear hN N'
      refine wSs_cons fun N' hN => ?_
      simp [↓dic_of o6.head]
      intro wr hwr
      have o7 := o6.new (u := .dK (dmap kS ks (rowsD fun _ => .first num))) hwr
      generalize up s6 wr _ = s7 at o7 ⊢
      intro la hla
      have o8 := o7.new (u := .lst []) hla
      generalize up s7 la _ = s8 at o8 ⊢
      intro fr hfr
      have o9 := o8.new (u := .lst []) hfr
      generalize up s8 fr _ = s9 at o9 ⊢
      refine ⟨by decide +kernel, fun ow how => ?_⟩
      have o10 := o9.new (u := .dK (tab5 num kn wr la fr)) how
      refine hQ ⟨ow, kn, wr, la, fr⟩ _ (o10.mv fun a => ?_)
      simp only [tabCells, HM.new, cnt_app, cnt_cons, cnt_nil, List.map_nil]; omega
  clear hN
  rcases hnum with e | e
  · subst e
    simp [↓wSs_nil]
    exact step
  · subst e
    try simp
    refine wSs_cons fun N2 hN2 => ?_
    try simp
    apply hN2
    rw [wSs_nil]
    exact step
theorem strs_snap {s : S} {a : Addr} {l : List Str} (h : s a = some (.lst (l.map .str))) : Snap s (.ob a) (.list (l.map .str)) := .lst h (Snaps.map fun k _ => .str k)
theorem strs_lf {m : Nat} {l : List Str} (h : l.length ≤ 1000) : Lf (m + 2) (.list (l.map .str)) := .lst (fun d hd => by obtain ⟨t, _, rfl⟩ := List.mem_map.mp hd; exact .str _) (by simp; omega)
theorem strs_pd {m : Nat} {l : List Str} (h : ∀ k ∈ l, PyData.strOk k = true) : Pd (m + 1) (.list (l.map .str)) := .lst fun d hd => by obtain ⟨t, ht, rfl⟩ := List.mem_map.mp hd; exact .str (h t ht)
theorem stands_ok (hf : T.fn f_l_stands_k06 = some fn_l_stands_k06) (ha : T.fn f_l_alike = some fn_l_alike) (m2 : T.meth c_House a_has = some f_House_has) (g2 : T.fn f_House_has = some fn_House_has)
    (m4 : T.meth c_House a_owes = some f_House_owes) (g4 : T.fn f_House_owes = some fn_House_owes) {hb : HB} {ak : Addr} (ko : KeysOk ks)
    (o : Own s (houseCells hb ks h ++ (tabCells b ks h ++ F))) (hk : (ak, .lst (ks.map .str)) ∈ F) (hQ : ∀ s', Own s' (houseCells hb ks h ++ (tabCells b ks h ++ F)) → Q (.bl true) s') :
    wCall T (n + 6) f_l_stands_k06 [.ob hb.self, .ob b.ow, .ob ak] s Q X := by
  refine ⟨fn_l_stands_k06, hf, rfl, ?_⟩
  simp only [fn_l_stands_k06, start, List.map, List.length, List.replicate, List.cons_append, List.nil_append]
  have hks : ks.length ≤ 1000 := by have := ko.le; omega
  refine wSs_cons fun N' hN => ?_
  have l1 : s ak = some (.lst (ks.map .str)) := o.mem (by simp [hk])
  simp [↓lst_of l1]
  refine wFor_map ks D.str (fun pre e s' => s' = s ∧ ∃ x3 x4, e = [some (.ob hb.self), some (.ob b.ow), some (.ob ak), x3, x4, none]) ⟨rfl, _, _, rfl⟩ ?_ ?_
  · intro pre k post e s' K hm ⟨hs, x3, x4, he⟩ hK
    subst hs he
    refine ⟨l1, _, rfl, ?_⟩
    have hkm : k ∈ ks := by rw [hm]; simp
    refine wSs_cons fun N2 hN2 => ?_
    simp [↓mthQ_of o.head m2 rfl]
    refine House_has_ok g2 hkm o ?_
    try simp
    apply hN2; clear hN2 N2
    refine wSs_cons fun N2 hN2 => ?_
    have ot := o.pickB
    simp [isTs, isT, ↓dic_of ot.head, ↓dic_of ot.tail.head, hkm, rowsD, Row.d]
    rw [wSs_nil]
    apply hN2
    rw [wSs_nil]
    exact hK _ _ ⟨rfl, _, _, rfl⟩
  · intro e s' ⟨hs, x3, x4, he⟩
    subst hs he
    refine ⟨l1, ?_⟩
    apply hN; clear hN N'
    refine wSs_cons fun N' hN => ?_
    simp [↓mthQ_of o.head m4 rfl]
    refine House_owes_ok g4 hks o fun q s2 o2 => ?_
    try simp
    apply hN; clear hN N'
    refine wSs_cons fun N' hN => ?_
    have l2 : s2 ak = some (.lst (ks.map .str)) := o2.mem (by simp [hk])
    simp [wE_lc, ↓lst_of l2]
    refine ⟨by omega, ?_⟩
    refine wItems_fil ks D.str (fun k => if (h.known k).st = .owed then some (.str k) else none) (fun s' x => x _ _ l2) ?_ ?_
    · intro k s1 K hkm x1 hK
      have o3 := (o2.ext x1).tail.pickB
      by_cases hc : (h.known k).st = .owed <;> simp [hc] at hK <;> simp [↓dic_of o3.head, ↓dic_of o3.tail.head, hkm, rowsD, Row.d, hc] <;> exact hK _ (Ext.refl _)
    intro s3 x3' q2 hq2
    have e : List.filterMap (fun k => if (h.known k).st = .owed then some (D.str k) else none) ks = (h.owes ks).map .str := by
      rw [HM.owes, ← List.filterMap_eq_map, List.filterMap_filter]
      congr 1; funext k
      by_cases hc : (h.known k).st = .owed <;> simp [hc]
    rw [e]
    have o3 := (o2.ext x3').new (u := .lst ((h.owes ks).map .str)) hq2
    generalize up s3 q2 _ = s4 at o3 ⊢
    have hol : (h.owes ks).length ≤ 1000 := Nat.le_trans (List.length_filter_le _ _) hks
    have hop : ∀ k ∈ h.owes ks, PyData.strOk k = true := fun k hk => ko.strOk k (List.mem_filter.mp hk).1
    apply hN; clear hN N'
    refine wSs_cons fun N' hN => ?_
    try simp
    refine alike_ok ha (n := n + 3) 2 (strs_lf hol) (strs_snap o3.tail.head) (strs_snap o3.head) fun s5 x5 => ?_
    have o4 := (o3.ext x5).swap
    try simp
    rw [wSs_nil]
    apply hN; clear hN N'
    refine wSs_cons fun N' hN => ?_
    simp [↓lst_of o4.head]
    refine ⟨by omega, ?_⟩
    have o5 := (o4.repl (.here (u' := .lst ((h.owes ks).map .str ++ [.str q_more])))).tail
    generalize up s5 q _ = s6 at o5 ⊢
    apply hN; clear hN N'
    refine wSs_cons fun N' hN => ?_
    have o6 := o5.shift
    simp [↓mthQ_of o6.head m4 rfl]
    refine House_owes_ok g4 hks o6 fun q3 s7 o7 => ?_
    try simp
    refine rEq_same (strs_pd (m := 4) hop) (by omega) (strs_snap o7.head) (strs_snap (o7.mem (by simp))) ?_
    try simp
    exact hQ _ o7.tail.unshift.tail
end
end MH
set_option Elab.async false
set_option linter.all false
set_option maxRecDepth 100000
/-! law k07: a house, whatever comes. -/
namespace MH
open PySem L2
structure HOk (m : Nat) (h : HM) : Prop where
  l1 : h.laid.length ≤ m
  l2 : h.fresh.length ≤ m
  mk1 : ∀ k, MarksOk (h.known k).marks
  mk2 : ∀ k, MarksOk (h.written k).marks
  sh : ∀ x ∈ h.laid, x.short
theorem HOk.up {m m' : Nat} {h : HM} (o : HOk m h) (l : m ≤ m') : HOk m' h := ⟨Nat.le_trans o.l1 l, Nat.le_trans o.l2 l, o.mk1, o.mk2, o.sh⟩
theorem short_app {l : List Letter} {x : Letter} (h : ∀ y ∈ l, y.short) (hx : x.short) : ∀ y ∈ l ++ [x], y.short := fun y hy => by
  rcases List.mem_append.mp hy with h1 | h1
  · exact h y h1
  · rw [List.mem_singleton.mp h1]; exact hx
theorem fset_marks {f : Str → Row} {k : Str} {r : Row} (h : ∀ j, MarksOk (f j).marks) (hr : MarksOk r.marks) : ∀ j, MarksOk (fset f k r j).marks := fun j => by
  simp only [fset]; split
  · exact hr
  · exact h j
theorem HOk.called {m : Nat} {h : HM} (o : HOk m h) {c i : Int} {k : Str} {w : Wish} (hc : 0 ≤ c ∧ c < 6) : HOk (m + 1) (h.called c i k w) := by
  have l1 := o.l1
  have l2 := o.l2
  unfold HM.called
  split
  · exact o.up (by omega)
  · split
    · exact ⟨by simp; omega, by simp; omega, fset_marks o.mk1 ((o.mk1 k).marked hc), o.mk2, short_app o.sh trivial⟩
    · exact ⟨by simp; omega, by simp; omega, o.mk1, o.mk2, short_app o.sh trivial⟩
theorem HOk.gotParcel {m : Nat} {h : HM} (o : HOk m h) {k : Str} {t a : Int} {ms : List J3} (hm : MarksOk ms) : HOk (m + 1) (h.gotParcel k t a ms) := by
  have l1 := o.l1
  have l2 := o.l2
  refine ⟨by simp [HM.gotParcel]; omega, by simp [HM.gotParcel]; omega, ?_, o.mk2, short_app o.sh trivial⟩
  simp only [HM.gotParcel]; split
  · exact fset_marks o.mk1 hm
  · exact o.mk1
theorem HOk.gotTaken {m : Nat} {h : HM} (o : HOk m h) {k : Str} {t : Int} : HOk m (h.gotTaken k t) := by
  unfold HM.gotTaken; split
  · exact ⟨o.l1, o.l2, fset_marks o.mk1 .nil, o.mk2, o.sh⟩
  · exact o
theorem HOk.moved {m : Nat} {h : HM} (o : HOk m h) {k : Str} : HOk (m + 1) (h.moved k) := by
  have l1 := o.l1
  have l2 := o.l2
  exact ⟨by simp [HM.moved]; omega, by simp [HM.moved]; omega, fset_marks o.mk1 (o.mk1 k), o.mk2, short_app o.sh (by show (h.known k).marks.length ≤ 1000; have := (o.mk1 k).len; omega)⟩
theorem HOk.wrote {m : Nat} {h : HM} (o : HOk m h) : HOk 0 h.wrote := ⟨by simp [HM.wrote], by simp [HM.wrote], o.mk1, o.mk1, by simp [HM.wrote]⟩
theorem HOk.slept {m : Nat} {h : HM} (o : HOk m h) : HOk 0 h.slept := ⟨by simp [HM.slept], by simp [HM.slept], o.mk2, o.mk2, by simp [HM.slept]⟩
theorem HOk.new {num : Int} : HOk 0 (.new num) := by
  have : ∀ k : Str, MarksOk (Row.first num).marks := fun _ => by unfold Row.first; split <;> exact .nil
  exact ⟨by simp [HM.new], by simp [HM.new], this, this, by simp [HM.new]⟩
theorem called_num {h : HM} {c i : Int} {k : Str} {w : Wish} : (h.called c i k w).num = h.num := by unfold HM.called; split <;> (try split) <;> rfl
theorem gotTaken_num {h : HM} {k : Str} {t : Int} : (h.gotTaken k t).num = h.num := by unfold HM.gotTaken; split <;> rfl
theorem nudged_short {m : Nat} {h : HM} (o : HOk m h) (ks : List Str) : ∀ x ∈ h.nudged ks, x.short := fun x hx => by
  obtain ⟨k, _, hk⟩ := List.mem_filterMap.mp hx
  split at hk
  · cases hk; show (h.written k).marks.length ≤ 1000; have := (o.mk2 k).len; omega
  · cases hk
structure HouseBase (T : Tab) : Prop extends HouseTab T where
  m1 : T.meth c_House a_came = some f_House_came
  g1 : T.fn f_House_came = some fn_House_came
  m2 : T.meth c_House a_has = some f_House_has
  g2 : T.fn f_House_has = some fn_House_has
  m3 : T.meth c_House a_write = some f_House_write
  g3 : T.fn f_House_write = some fn_House_write
  m6 : T.meth c_House a_parcel = some f_House_parcel
  g6 : T.fn f_House_parcel = some fn_House_parcel
  m8 : T.meth c_House a_sleep = some f_House_sleep
  g8 : T.fn f_House_sleep = some fn_House_sleep
structure HouseAll (T : Tab) : Prop extends HouseBase T where
  m4 : T.meth c_House a_owes = some f_House_owes
  g4 : T.fn f_House_owes = some fn_House_owes
  m5 : T.meth c_House a_nudge = some f_House_nudge
  g5 : T.fn f_House_nudge = some fn_House_nudge
  m7 : T.meth c_House a_move = some f_House_move
  g7 : T.fn f_House_move = some fn_House_move
section
variable {T : Tab} {n : Nat} {s : S} {Q : K1} {X : XP} {F : List Cell} {b : TB} {hb : HB} {ks : List Str} {h : HM}
theorem at_pow {i : Int} (h0 : 0 ≤ i) (h1 : i < 6) : ∃ w, atD [.int 1, .int 2, .int 4, .int 8, .int 16, .int 32] i = some (.int w) ∧ 0 < w ∧ w < 1073741824 := by
  have : i = 0 ∨ i = 1 ∨ i = 2 ∨ i = 3 ∨ i = 4 ∨ i = 5 := by omega
  rcases this with e | e | e | e | e | e <;> subst e <;> simp
theorem l_marks_by_ok (hf : T.fn f_l_marks_by = some fn_l_marks_by) {i : Int} (hQ : ∀ ms s', MarksOk ms → Ext s s' → Q (marksD ms) s') : wCall T (n + 1) f_l_marks_by [.int i] s Q X := by
  refine ⟨fn_l_marks_by, hf, rfl, ?_⟩
  simp only [fn_l_marks_by, start, List.map, List.length, List.replicate, List.cons_append, List.nil_append]
  refine wSs_cons fun N' hN => ?_
  try simp
  intro p hp
  apply hN; clear hN N'
  refine wSs_cons fun N' hN => ?_
  try simp
  refine wFor_map (List.range 6) (fun (k : Nat) => D.int (k : Nat)) (fun pre e s1 => Ext s s1 ∧ (∃ ms : List J3, s1 p = some (.lst (ms.map mD)) ∧ ms.length ≤ pre.length ∧ (ms.map (·.1)).Nodup ∧ ∀ t ∈ ms, 0 ≤ t.1 ∧ t.1 < pre.length) ∧ ∃ x2, e = [some (.int i), some (.ob p), x2])
    ⟨Ext.new hp, ⟨[], up_same, by simp, by simp, by simp⟩, _, rfl⟩ ?_ ?_
  · intro pre k post e s1 K hm ⟨x1, ⟨ms, e1, hl, nd, rg⟩, x2, he⟩ hK
    subst he
    refine ⟨trivial, _, rfl, ?_⟩
    have hk : k = pre.length ∧ k < 6 := by
      have h1 : (List.range 6)[pre.length]? = some k := by rw [hm]; simp
      have h2 := List.getElem?_eq_some_iff.mp h1
      obtain ⟨h3, h4⟩ := h2
      simp at h3 h4
      omega
    obtain ⟨w, w1, w2, w3⟩ := at_pow (i := (k : Int)) (by omega) (by omega)
    refine wSs_cons fun N2 hN2 => ?_
    simp
    intro q hq
    rw [rIdxL_of up_same, w1]
    have x3 := x1.up (o := .lst [.int 1, .int 2, .int 4, .int 8, .int 16, .int 32]) hq
    have hpq : p ≠ q := fun e => by rw [← e, e1] at hq; cases hq
    have e2 : up s1 q (.lst [.int 1, .int 2, .int 4, .int 8, .int 16, .int 32]) p = some (.lst (ms.map mD)) := by rw [up_ne hpq]; exact e1
    generalize up s1 q _ = s2 at x3 e2 ⊢
    simp [w2, w3]
    by_cases hc : i / w % 2 = 1
    · rw [if_pos hc]
      refine wSs_cons fun N3 hN3 => ?_
      have h64 : (0 : Int) < 64 + k ∧ (64 : Int) + k < 1073741824 := by omega
      simp [↓lst_of e2, h64]
      refine ⟨by omega, ?_⟩
      apply hN3
      rw [wSs_nil]
      apply hN2
      rw [wSs_nil]
      refine hK _ _ ⟨x3.upn (Ext.refl s |>.no (by
        cases e3 : s p with
        | none => rfl
        | some o => exact absurd hp (by rw [e3]; simp))), ⟨ms ++ [((k : Int), 1 + i / (64 + k) % 5, (i / 7 + k) % 39 - 19)], ?_, by simp; omega, ?_, ?_⟩, _, rfl⟩
      · rw [up_same]; simp [mD]
      · rw [List.map_append, List.nodup_append]
        refine ⟨nd, by simp, fun a ha b hb => ?_⟩
        obtain ⟨u, hu, rfl⟩ := List.mem_map.mp ha
        have := rg u hu
        simp at hb
        omega
      · intro u hu
        rcases List.mem_append.mp hu with hu | hu
        · have := rg u hu; simp; omega
        · rw [List.mem_singleton.mp hu]; simp; omega
    · rw [if_neg hc, wSs_nil]
      apply hN2
      rw [wSs_nil]
      exact hK _ _ ⟨x3, ⟨ms, e2, by simp; omega, nd, fun u hu => by have := rg u hu; simp; omega⟩, _, rfl⟩
  · intro e s1 ⟨x1, ⟨ms, e1, hl, nd, rg⟩, x2, he⟩
    subst he
    refine ⟨trivial, ?_⟩
    apply hN; clear hN N'
    simp [↓wSs_cons', ↓wSs_nil, ↓lst_of e1]
    exact hQ ms s1 ⟨nd, fun t ht => by have := rg t ht; simp at this; omega⟩ x1
theorem Own.setB {A B L : List Cell} (o : Own s (A ++ (B ++ L))) : Own s (B ++ (A ++ L)) := o.pickB
theorem l_comes_ok (hf : T.fn f_l_comes = some fn_l_comes) (hw : T.fn f_l_wish = some fn_l_wish) (hb' : T.fn f_l_marks_by = some fn_l_marks_by) (H : HouseAll T) (B : TabTab T) {m : Nat} (ok : HOk m h) (hm : m ≤ 1000) (hks : ks.length ≤ 1000)
    {k : Str} (hk : k ∈ ks) {more cell : Int} (o : Own s (houseCells hb ks h ++ (tabCells b ks h ++ F)))
    (hQ : ∀ h' s' , HOk (m + 1) h' → h'.num = h.num → Own s' (houseCells hb ks h' ++ (tabCells b ks h' ++ F)) → Q .non s') : wCall T (n + 4) f_l_comes [.ob hb.self, .ob b.ow, .str k, .int more, .int cell] s Q X := by
  refine ⟨fn_l_comes, hf, rfl, ?_⟩
  simp only [fn_l_comes, start, List.map, List.length, List.replicate, List.cons_append, List.nil_append]
  have ot := o.pickB
  have l1 := ok.l1
  have l2 := ok.l2
  have hml : ∀ j, (h.known j).marks.length ≤ 1000 := fun j => by have := (ok.mk1 j).len; omega
  refine wSs_cons fun N' hN => ?_
  simp [↓dic_of ot.head]
  apply hN; clear hN N'
  refine wSs_cons fun N' hN => ?_
  simp [↓dic_of ot.head, ↓dic_of ot.tail.head, hk, rowsD, Row.d]
  apply hN; clear hN N'
  refine wSs_cons fun N' hN => ?_
  simp
  intro q hq
  obtain ⟨wh, hwh⟩ := at_ints (l := [.int 1, .int 1, .int 0, .int (-1), .int 2, .int 3, .int 1, .int (-2)]) (i := more / 6 % 8) (by simp) (by omega) (by simp; omega)
  rw [rIdxL_of up_same, hwh]
  have o1 := (o.new (u := .lst [.int 1, .int 1, .int 0, .int (-1), .int 2, .int 3, .int 1, .int (-2)]) hq).tail
  generalize up s q _ = s1 at o1 ⊢
  try simp
  apply hN; clear hN N' hwh hq ot o
  generalize (h.known k).turn + wh = other
  refine wSs_cons fun N' hN => ?_
  have fin : ∀ e s2 h', HOk (m + 1) h' → h'.num = h.num → Own s2 (houseCells hb ks h' ++ (tabCells b ks h' ++ F)) → N' e s2 := by
    intro e s2 h' a1 a2 a3
    apply hN; rw [wSs_nil]
    exact hQ h' s2 a1 a2 a3
  clear hN
  try simp
  by_cases c4 : cell % 12 < 4
  · rw [if_pos c4]
    refine wSs_cons fun N2 hN2 => ?_
    try simp
    apply hN2; clear hN2 N2
    have hc0 : 0 ≤ more / 6 % 6 := by omega
    have hc1 : more / 6 % 6 < 6 := by omega
    generalize more / 6 % 6 = c at hc0 hc1 ⊢
    refine wSs_cons fun N2 hN2 => ?_
    simp only [marksD]
    try simp
    refine l_last_ok B.last ?_
    try simp
    apply hN2; clear hN2 N2
    refine wSs_cons fun N2 hN2 => ?_
    try simp
    intro q hq
    obtain ⟨wh, hwh⟩ := at_ints (l := [.int 1, .int 1, .int 0, .int 2, .int (-1)]) (i := more / 36 % 5) (by simp) (by omega) (by simp; omega)
    rw [rIdxL_of up_same, hwh]
    have o2 := (o1.new (u := .lst [.int 1, .int 1, .int 0, .int 2, .int (-1)]) hq).tail
    generalize up s1 q _ = s2 at o2 ⊢
    try simp
    apply hN2; clear hN2 N2 hwh hq o1
    generalize (if 1 < (markOf (h.known k).marks c).1 + wh then (markOf (h.known k).marks c).1 + wh else 1) = count
    refine wSs_cons fun N2 hN2 => ?_
    try simp
    refine l_wish_ok hw fun s3 x3 => ?_
    have o3 := o2.ext x3
    try simp
    apply hN2; clear hN2 N2 o2 x3
    generalize wishOf ((cell + 5) * 48271 / 11) = w
    refine wSs_cons fun N2 hN2 => ?_
    simp [↓mthQ_of o3.head H.m1 rfl]
    refine House_came_ok H.toHouseTab H.g1 (l := .call h.num c count k w) hk (fun j _ => hml j) (by omega) (by omega) hks o3 fun s4 o4 => ?_
    try simp
    apply hN2; clear hN2 N2 o3
    refine wSs_cons fun N2 hN2 => ?_
    try simp
    refine l_called_ok B hk (hml k) (by omega) (by omega) hks o4.pickB fun s5 o5 => ?_
    try simp
    apply hN2
    rw [wSs_nil]
    exact fin _ _ (h.called c count k w) (ok.called ⟨hc0, hc1⟩) called_num o5.pickB
  · rw [if_neg c4]
    refine wSs_cons fun N2 hN2 => ?_
    have fin2 : ∀ e s2 h', HOk (m + 1) h' → h'.num = h.num → Own s2 (houseCells hb ks h' ++ (tabCells b ks h' ++ F)) → N2 e s2 := by
      intro e s2 h' a1 a2 a3
      apply hN2; rw [wSs_nil]
      exact fin e s2 h' a1 a2 a3
    clear hN2 fin
    try simp
    by_cases c6 : cell % 12 < 6
    · rw [if_pos c6]
      refine wSs_cons fun N3 hN3 => ?_
      simp
      refine l_marks_by_ok hb' fun ms s2 mo x2 => ?_
      have o2 := o1.ext x2
      try simp
      apply hN3; clear hN3 N3 o1 x2
      generalize (cell * 48271 + 7) % 20000000000000000000000000000000 - 10000000000000000000000000000000 = am
      refine wSs_cons fun N3 hN3 => ?_
      simp [↓mthQ_of o2.head H.m1 rfl]
      refine House_came_ok H.toHouseTab H.g1 (l := .parcel h.num k other am ms) hk (fun j _ => hml j) (by omega) (by omega) hks o2 fun s3 o3 => ?_
      try simp
      apply hN3; clear hN3 N3 o2
      have o4 := o3.pickB
      refine wSs_cons fun N3 hN3 => ?_
      try simp
      have fin3 : ∀ e s4 kn', kn' = (h.gotParcel k other am ms).known → Own s4 (tabCells b ks { h with known := kn' } ++ (houseCells hb ks (h.came (.parcel h.num k other am ms)) ++ F)) →
          e = [some (.ob hb.self), some (.ob b.ow), some (.str k), some (.int more), some (.int cell), some (.int h.num), some (.int (h.known k).turn), some (.str (h.known k).st.q), some (.int (h.known k).amt), some (marksD (h.known k).marks), some (.int other), none, none, none, none, none, some (.tup [.int other, .str q_here, .int am, marksD ms])] → N3 e s4 := by
        intro e s4 kn' ek o5 he
        subst he
        apply hN3
        refine wSs_cons fun N4 hN4 => ?_
        simp [↓dic_of o5.head, ↓lst_of o5.tail.tail.tail.head]
        refine ⟨by omega, ?_⟩
        have o6 := o5.repl (.there (.there (.there (.here (u' := .lst (h.laid.map Letter.d ++ [.tup [.str q_taken, .int (1 - h.num), .str k, .int other]]))))))
        generalize up s4 b.la _ = s5 at o6 ⊢
        apply hN4
        rw [wSs_nil]
        refine fin2 _ _ (h.gotParcel k other am ms) (ok.gotParcel mo) rfl (Own.pickB ?_)
        rw [ek] at o6
        simpa [tabCells, HM.gotParcel, HM.came, Letter.d] using o6
      clear hN3 fin2
      by_cases hgt : (h.known k).turn < other
      · rw [if_pos hgt]
        refine wSs_cons fun N4 hN4 => ?_
        have e1 : fput (rowsD h.known) k (.tup [.int other, .str q_here, .int am, marksD ms]) = rowsD (fset h.known k ⟨other, .here, am, ms⟩) := fput_rows (r := ⟨other, .here, am, ms⟩)
        simp [↓dic_of o4.head, ↓dic_of o4.tail.head, putD_inr hk, e1]
        refine ⟨by omega, ?_⟩
        have o5 := o4.repl (.there (.here (u' := .dK (dmap kS ks (rowsD (fset h.known k ⟨other, .here, am, ms⟩))))))
        apply hN4
        rw [wSs_nil]
        exact fin3 _ _ (fset h.known k ⟨other, .here, am, ms⟩) (by simp [HM.gotParcel, hgt]) o5 rfl
      · rw [if_neg hgt, wSs_nil]
        exact fin3 _ _ h.known (by simp [HM.gotParcel, hgt]) o4 rfl
    · rw [if_neg c6]
      refine wSs_cons fun N3 hN3 => ?_
      simp [↓mthQ_of o1.head H.m1 rfl]
      refine House_came_ok H.toHouseTab H.g1 (l := .taken h.num k other) hk (fun j _ => hml j) (by omega) (by omega) hks o1 fun s3 o3 => ?_
      try simp
      apply hN3; clear hN3 N3 o1
      have o4 := o3.pickB
      have hok : HOk (m + 1) (h.gotTaken k other) := (ok.gotTaken).up (by omega)
      refine wSs_cons fun N3 hN3 => ?_
      have fin3 : ∀ e s4 kn', { h with known := kn' } = h.gotTaken k other → Own s4 (tabCells b ks { h with known := kn' } ++ (houseCells hb ks (h.came (.taken h.num k other)) ++ F)) → N3 e s4 := by
        intro e s4 kn' ek o5
        apply hN3
        rw [wSs_nil]
        refine fin2 _ _ (h.gotTaken k other) hok gotTaken_num (Own.pickB ?_)
        rw [ek] at o5
        exact o5
      clear hN3 fin2
      try simp
      by_cases hs : (h.known k).st = .owed
      · by_cases ht : other = (h.known k).turn + 1
        · simp [hs, ht]
          refine wSs_cons fun N4 hN4 => ?_
          have e1 : fput (rowsD h.known) k (.tup [.int (h.known k).turn, .str q_gone, .int 0, .tup []]) = rowsD (fset h.known k ⟨(h.known k).turn, .gone, 0, []⟩) := fput_rows (r := ⟨(h.known k).turn, .gone, 0, []⟩)
          simp [↓dic_of o4.head, ↓dic_of o4.tail.head, putD_inr hk, e1]
          refine ⟨by omega, ?_⟩
          have o5 := o4.repl (.there (.here (u' := .dK (dmap kS ks (rowsD (fset h.known k ⟨(h.known k).turn, .gone, 0, []⟩))))))
          apply hN4
          rw [wSs_nil]
          exact fin3 _ _ (fset h.known k ⟨(h.known k).turn, .gone, 0, []⟩) (by simp [HM.gotTaken, hs, ht]) o5
        · simp [hs, ht, ↓wSs_nil]
          exact fin3 _ _ h.known (by simp [HM.gotTaken, Ne.symm ht]) o4
      · simp [hs, ↓wSs_nil]
        exact fin3 _ _ h.known (by simp [HM.gotTaken, hs]) o4
theorem pair_snap {s : S} {la lb : Addr} {l : List Letter} {r : List LR} (h1 : s la = some (.lst (l.map Letter.d))) (h2 : s lb = some (.lst (r.map LR.d))) : Snap s (.tup [.ob la, .ob lb]) (.tuple [.list (l.map Letter.p), .list (r.map LR.p)]) :=
  .tup (.cons (letters_snap h1) (.cons (lrs_snap h2) .nil))
theorem pair_lf {l : List Letter} {r : List LR} {m : Nat} (h : ∀ x ∈ l, x.short) (hl : l.length ≤ 10000000) (hr : r.length ≤ 10000000) : Lf (m + 6) (.tuple [.list (l.map Letter.p), .list (r.map LR.p)]) :=
  .tup (by simp; exact ⟨letters_lf h hl, lrs_lf hr⟩) (by simp)
/-- the house writes and the tables write: what is posted is alike -/
theorem wrote_both (ha : T.fn f_l_alike = some fn_l_alike) (H : HouseAll T) (B : TabTab T) {m : Nat} (ok : HOk m h) (hm : m ≤ 10000) {e : Env} {x y : Ex}
    (o : Own s (houseCells hb ks h ++ (tabCells b ks h ++ F)))
    (hx : ∀ s' K, Own s' (houseCells hb ks h ++ (tabCells b ks h ++ F)) → wE T (wCall T (n + 7)) x e s' K X = K (.ob hb.self) s')
    (hy : ∀ s' K (b' : TB) (hb' : HB) (F' : List Cell), b'.ow = b.ow → wE T (wCall T (n + 7)) y e s' K X = K (.ob b.ow) s')
    (hQ : ∀ hb' b' s', hb'.self = hb.self → b'.ow = b.ow → Own s' (houseCells hb' ks h.wrote ++ (tabCells b' ks h.wrote ++ F)) → Q (.bl true) s') :
    wE T (wCall T (n + 7)) (.call f_l_alike (.cons (.mth a_write x .nil) (.cons (.call f_l_wrote_k06 (.cons y .nil)) .nil))) e s Q X := by
  simp only [↓wE_call, ↓wEs_cons, ↓wE_mth]
  rw [hx s _ o]
  simp only [↓mthQ_of o.head H.m3 rfl, ↓wEs_nil]
  refine House_write_ok H.toHouseTab H.g3 o fun hb2 s2 hs2 o2 => ?_
  rw [hy s2 _ b hb F rfl]
  have o3 := o2.mv (M := tabCells b ks h ++ ((hb.la, .lst (h.laid.map Letter.d)) :: (hb.fr, .lst (h.fresh.map LR.d)) :: (houseCells hb2 ks h.wrote ++ F))) (fun a => by simp only [cnt_app, cnt_cons]; omega)
  refine l_wrote_ok B o3 fun b2 s3 hs3 o4 => ?_
  have l1 := ok.l1
  have l2 := ok.l2
  refine alike_ok ha (n := n + 1) 6 (pair_lf (l := h.laid) (r := h.fresh) ok.sh (by omega) (by omega)) (pair_snap (la := hb.la) (lb := hb.fr) (o4.mem (by simp)) (o4.mem (by simp))) (pair_snap (la := b.la) (lb := b.fr) (o4.mem (by simp)) (o4.mem (by simp))) fun s4 x4 => ?_
  have o5 := (o4.ext x4).mv (M := [(b.la, .lst (h.laid.map Letter.d)), (b.fr, .lst (h.fresh.map LR.d)), (hb.la, .lst (h.laid.map Letter.d)), (hb.fr, .lst (h.fresh.map LR.d))] ++ (houseCells hb2 ks h.wrote ++ (tabCells b2 ks h.wrote ++ F))) (fun a => by simp only [cnt_app, cnt_cons, cnt_nil]; omega)
  exact hQ hb2 b2 s4 hs2 hs3 o5.drop
theorem l_step7_ok (hf : T.fn f_l_step_k07 = some fn_l_step_k07) (hcs : T.fn f_l_comes = some fn_l_comes) (ha : T.fn f_l_alike = some fn_l_alike) (hw : T.fn f_l_wish = some fn_l_wish) (hb' : T.fn f_l_marks_by = some fn_l_marks_by) (H : HouseAll T) (B : TabTab T)
    {m : Nat} (ok : HOk m h) (hm : m ≤ 1000) (ko : KeysOk ks) {ak : Addr} {cell : Int} (hk : (ak, .lst (ks.map .str)) ∈ F) (o : Own s (houseCells hb ks h ++ (tabCells b ks h ++ F)))
    (hQ : ∀ hb' b' h' s' , HOk (m + 1) h' → h'.num = h.num → hb'.self = hb.self → b'.ow = b.ow → Own s' (houseCells hb' ks h' ++ (tabCells b' ks h' ++ F)) → Q (.bl true) s') :
    wCall T (n + 8) f_l_step_k07 [.ob hb.self, .ob b.ow, .ob ak, .int cell] s Q X := by
  refine ⟨fn_l_step_k07, hf, rfl, ?_⟩
  simp only [fn_l_step_k07, start, List.map, List.length, List.replicate, List.cons_append, List.nil_append]
  have hks : ks.length ≤ 1000 := by have := ko.le; omega
  have hk1 := ko.ne
  have l1 := ok.l1
  have l2 := ok.l2
  have la : s ak = some (.lst (ks.map .str)) := o.mem (by simp [hk])
  refine wSs_cons fun N' hN => ?_
  try simp
  apply hN; clear hN N'
  generalize cell / 12 = more
  obtain ⟨k, k1, k2, k3, k4⟩ := key_at (i := more) ko.ne
  refine wSs_cons fun N' hN => ?_
  simp [↓lst_of la]
  refine ⟨by omega, ?_⟩
  rw [k4]
  try simp
  apply hN; clear hN N' k2 k3 k4
  refine wSs_cons fun N' hN => ?_
  have fin : ∀ e hb' b' h' s', HOk (m + 1) h' → h'.num = h.num → hb'.self = hb.self → b'.ow = b.ow → Own s' (houseCells hb' ks h' ++ (tabCells b' ks h' ++ F)) → N' e s' := by
    intro e hb' b' h' s' a1 a2 a3 a4 a5
    apply hN
    simp [↓wSs_cons', ↓wSs_nil]
    exact hQ hb' b' h' s' a1 a2 a3 a4 a5
  clear hN
  try simp
  by_cases c7 : cell % 12 < 7
  · rw [if_pos c7]
    refine wSs_cons fun N2 hN2 => ?_
    try simp
    refine l_comes_ok (n := n + 3) hcs hw hb' H B ok hm hks k1 o fun h' s' a1 a2 a3 => ?_
    apply hN2
    rw [wSs_nil]
    exact fin _ hb b h' s' a1 a2 rfl rfl a3
  · rw [if_neg c7]
    refine wSs_cons fun N2 hN2 => ?_
    have ot := o.pickB
    have fin2 : ∀ e hb' b' h' s', HOk (m + 1) h' → h'.num = h.num → hb'.self = hb.self → b'.ow = b.ow → Own s' (houseCells hb' ks h' ++ (tabCells b' ks h' ++ F)) → N2 e s' := by
      intro e hb' b' h' s' a1 a2 a3 a4 a5
      apply hN2
      rw [wSs_nil]
      exact fin e hb' b' h' s' a1 a2 a3 a4 a5
    -- what comes when the key is not moved
    have rest : wSs T (wCall T (n + 7)) (match fn_l_step_k07.body with
        | .cons _ (.cons _ (.cons (.ite _ _ (.cons (.ite _ _ b) _)) _)) => b
        | _ => .nil) [some (.ob hb.self), some (.ob b.ow), some (.ob ak), some (.int cell), some (.int more), some (.str k)] s N2 Q (fun c x => X c) := by
      clear hN2 fin2
      simp only [fn_l_step_k07]
      refine wSs_cons fun N3 hN3 => ?_
      try simp
      by_cases c10 : cell % 12 < 10
      · rw [if_pos c10]
        refine wSs_cons fun N4 hN4 => ?_
        rw [wS_ret]
        refine wrote_both (n := n) ha H B ok (by omega) o (fun s' K o' => by simp) (fun s' K b' hb' F' e => by simp) fun hb2 b2 s2 a1 a2 a3 => ?_
        exact hQ hb2 b2 _ s2 (ok.wrote.up (by omega)) rfl a1 a2 a3
      · rw [if_neg c10]
        refine wSs_cons fun N4 hN4 => ?_
        try simp
        by_cases c11 : cell % 12 = 10
        · rw [if_pos c11]
          refine wSs_cons fun N5 hN5 => ?_
          try simp
          refine l_slept_ok B ot fun b2 s2 hs2 o2 => ?_
          apply hN5; clear hN5
          refine wSs_cons fun N5 hN5 => ?_
          have o3 := o2.pickB
          simp [↓mthQ_of o3.head H.m8 rfl]
          refine House_sleep_ok H.toHouseTab H.g8 o3 fun hb2 s3 hs3 o4 => ?_
          simp [isNon]
          exact hQ hb2 b2 _ s3 (ok.slept.up (by omega)) rfl hs3 hs2 o4
        · rw [if_neg c11]
          refine wSs_cons fun N5 hN5 => ?_
          simp [↓mthQ_of o.head H.m5 rfl]
          refine House_nudge_ok H.g5 H.m6 H.g6 hks o fun q s2 o2 => ?_
          try simp
          have o3 := o2.mv (M := tabCells b ks h ++ ((q, .lst ((h.nudged ks).map Letter.d)) :: (houseCells hb ks h ++ F))) (fun a => by simp only [cnt_app, cnt_cons]; omega)
          refine l_nudged_ok B hks o3 (by simp [hk]) fun q2 s3 o4 => ?_
          try simp
          have hnl : (h.nudged ks).length ≤ 1000 := Nat.le_trans (List.length_filterMap_le _ _) hks
          refine alike_ok ha (n := n + 1) 6 (letters_lf (nudged_short ok ks) (by omega)) (letters_snap (o4.mem (by simp))) (letters_snap o4.head) fun s4 x4 => ?_
          have o5 := (o4.ext x4).mv (M := [(q2, .lst ((h.nudged ks).map Letter.d)), (q, .lst ((h.nudged ks).map Letter.d))] ++ (houseCells hb ks h ++ (tabCells b ks h ++ F))) (fun a => by simp only [cnt_app, cnt_cons, cnt_nil]; omega)
          exact hQ hb b h s4 (ok.up (by omega)) rfl rfl rfl o5.drop
    simp [↓dic_of ot.head, ↓dic_of ot.tail.head, k1, rowsD, Row.d]
    by_cases c8 : cell % 12 = 7
    · rw [if_pos c8]
      by_cases hst : (h.known k).st = .here
      · rw [if_pos hst]
        refine wSs_cons fun N3 hN3 => ?_
        try simp
        refine l_moved_ok B k1 hks (by omega) ot fun s2 o2 => ?_
        apply hN3; clear hN3 N3
        refine wSs_cons fun N3 hN3 => ?_
        have o3 := o2.pickB
        simp [↓mthQ_of o3.head H.m7 rfl]
        refine House_move_ok H.toHouseTab H.g7 H.m6 H.g6 k1 hks hst (by omega) o3 fun s3 o4 => ?_
        simp [isNon]
        exact hQ hb b _ s3 ok.moved rfl rfl rfl o4
      · rw [if_neg hst]
        exact rest
    · rw [if_neg c8]
      exact rest
theorem law_k07_ok (h : T.fn f_law_k07 = some fn_law_k07) (h0 : T.fn f_l_cell_at = some fn_l_cell_at) (hf : T.fn f_l_step_k07 = some fn_l_step_k07) (hst : T.fn f_l_stands_k06 = some fn_l_stands_k06) (hcs : T.fn f_l_comes = some fn_l_comes) (ha : T.fn f_l_alike = some fn_l_alike)
    (hw : T.fn f_l_wish = some fn_l_wish) (hkk : T.fn f_l_keys = some fn_l_keys) (hb' : T.fn f_l_marks_by = some fn_l_marks_by) (H : HouseAll T) (B : TabTab T) (hi : T.init c_House = some f_House_init) (gi : T.fn f_House_init = some fn_House_init)
    {ns : List Int} (hns : ns.length ≤ 63) (hQ : ∀ s', Q (.bl true) s') : wCall T (n + 9) f_law_k07 [.ro (ns.map .int)] s Q X := by
  refine ⟨fn_law_k07, h, rfl, ?_⟩
  simp only [fn_law_k07, start, List.map, List.length, List.replicate, List.cons_append, List.nil_append]
  generalize hro : D.ro (ns.map .int) = ro
  refine wSs_cons fun N' hN => ?_
  try simp
  subst hro
  refine l_cell_at_ok0 h0 ?_
  try simp
  apply hN; clear hN N'
  have hnum : cellAt ns 0 % 2 = 0 ∨ cellAt ns 0 % 2 = 1 := by omega
  generalize cellAt ns 0 % 2 = num at hnum ⊢
  refine wSs_cons fun N' hN => ?_
  try simp
  refine l_cell_at_ok1 h0 ?_
  try simp
  refine l_keys_ok hkk fun ak s0 s1 x0 n0 e1 => ?_
  have ko := keysOf_ok (cellAt ns 1)
  generalize keysOf (cellAt ns 1) = ks at ko e1
  have o1 : Own s1 [(ak, .lst (ks.map .str))] := by rw [e1]; exact Own.nil.new n0
  clear x0 n0 e1
  have lk := ko.ne
  have lk2 := ko.le
  apply hN; clear hN N'
  refine wSs_cons fun N' hN => ?_
  simp [↓lst_of o1.head]
  intro ak2 hak2
  have o2 := o1.new (u := .lst (ks.map .str)) hak2
  generalize up s1 ak2 _ = s2 at o2 ⊢
  apply hN; clear hN N' o1 hak2
  refine wSs_cons fun N' hN => ?_
  simp [wE]
  refine ⟨_, hi, fun p hp => ?_⟩
  have o3 := o2.new (u := .ins c_House []) hp
  generalize up s2 p _ = s3 at o3 ⊢
  refine House_init_ok H.toHouseTab gi hnum ko.nd (by omega) o3 (by simp) fun hb s4 hb1 o4 => ?_
  try simp
  subst hb1
  apply hN; clear hN N' o2 o3 hp
  refine wSs_cons fun N' hN => ?_
  have l2 : s4 ak2 = some (.lst (ks.map .str)) := o4.mem (by simp)
  simp [↓lst_of l2]
  refine ⟨by omega, ?_⟩
  have o5 := o4.unshift.repl (.here (u' := .lst (ks.map .str ++ [.str q_more])))
  generalize up s4 ak2 _ = s5 at o5 ⊢
  have o6 := o5.tail
  apply hN; clear hN N' l2 o4 o5
  refine wSs_cons fun N' hN => ?_
  try simp
  refine l_new_ok B hnum ko.nd (by omega) o6 (by simp) fun b s6 o7 => ?_
  have o8 := o7.pickB
  try simp
  apply hN; clear hN N' o6 o7
  refine wSs_cons fun N' hN => ?_
  try simp
  intro ac hac
  have e2 : cutD (ns.map .int) (some 2) none = (ns.drop 2).map .int := by rw [show (2 : Int) = ((2 : Nat) : Int) from rfl, cutD_drop, List.map_drop]
  rw [e2]
  have o9 := o8.new (u := .lst ((ns.drop 2).map .int)) hac
  generalize up s6 ac _ = s7 at o9 ⊢
  clear o8 hac e2
  have o10 := o9.mv (M := houseCells hb ks (.new num) ++ (tabCells b ks (.new num) ++ [(ak, .lst (ks.map .str)), (ac, .lst ((ns.drop 2).map .int))])) (fun a => by simp only [cnt_app, cnt_cons, cnt_nil]; omega)
  simp only [↓itL_of o9.head]
  refine wFor_map (ns.drop 2) D.int (fun pre e s => ∃ hb' b' h', hb'.self = hb.self ∧ b'.ow = b.ow ∧ HOk pre.length h' ∧ Own s (houseCells hb' ks h' ++ (tabCells b' ks h' ++ [(ak, .lst (ks.map .str)), (ac, .lst ((ns.drop 2).map .int))])) ∧
      ∃ x6, e = [some (.ro (ns.map .int)), some (.int num), some (.ob ak), some (.ob ak2), some (.ob hb.self), some (.ob b.ow), x6]) ⟨hb, b, .new num, rfl, rfl, .new, o10, _, rfl⟩ ?_ ?_
  · intro pre cell post e s K hm ⟨hb2, b2, h2, a1, a2, ok, o, x6, he⟩ hK
    subst he
    have hlen : pre.length < 63 := by have := congrArg List.length hm; simp at this; omega
    refine ⟨o.mem (by simp), _, rfl, ?_⟩
    refine wSs_cons fun N2 hN2 => ?_
    try simp
    rw [← a1, ← a2]
    refine l_step7_ok hf hcs ha hw hb' H B ok (by omega) ko (by simp) o fun hb3 b3 h3 s3 ok3 _ c1 c2 o3 => ?_
    try simp
    rw [← c1, ← c2]
    refine stands_ok (n := n + 2) hst ha H.m2 H.g2 H.m4 H.g4 ko o3 (by simp) fun s4 o4 => ?_
    try simp
    rw [wSs_nil]
    apply hN2
    rw [wSs_nil]
    exact hK _ _ ⟨hb3, b3, h3, c1.trans a1, c2.trans a2, by simpa using ok3, o4, _, by rw [c1, c2, a1, a2]⟩
  · intro e s ⟨hb2, b2, h2, a1, a2, ok, o, x6, he⟩
    subst he
    refine ⟨o.mem (by simp), ?_⟩
    apply hN; clear hN N'
    refine wSs_cons fun N' hN => ?_
    rw [wS_ret, ← a1, ← a2]
    refine wrote_both (n := n + 1) ha H B ok (by simp; omega) o (fun s' K o' => by simp) (fun s' K b' hb' F' e => by simp) fun hb2 b2 s2 a1 a2 a3 => hQ _
end
end MH
set_option Elab.async false
set_option linter.all false
set_option maxRecDepth 100000
/-! The world. -/
namespace MH
open PySem L2
structure WM where
  h0 : HM
  h1 : HM
  cs : List CM
  post : List Letter
  ledger : List LR
structure WB where
  self : Addr
  nm : Addr
  hl : Addr
  cl : Addr
  uw : Addr
  rw : Addr
  b0 : HB
  b1 : HB
  ca : List (Addr × Addr)
def WM.hs (w : WM) (i : Int) : HM := if i = 0 then w.h0 else w.h1
def WM.setH (w : WM) (i : Int) (h : HM) : WM := if i = 0 then { w with h0 := h } else { w with h1 := h }
def WB.bs (b : WB) (i : Int) : HB := if i = 0 then b.b0 else b.b1
def WB.setB (b : WB) (i : Int) (h : HB) : WB := if i = 0 then { b with b0 := h } else { b with b1 := h }
def worldFs (b : WB) : List (Nat × D) := [(a_names, .ob b.nm), (a_houses, .ob b.hl), (a_callers, .ob b.cl), (a_under_way, .ob b.uw), (a_rows, .ob b.rw)]
def callersCells : List (Addr × Addr) → List CM → List Cell
  | a :: as, c :: cs => callerCells a.1 a.2 c ++ callersCells as cs
  | _, _ => []
def callerObs (ca : List (Addr × Addr)) : List D := ca.map fun a => .ob a.1
def worldTop (b : WB) (ks : List Str) (w : WM) : List Cell :=
  [(b.self, .ins c_World (worldFs b)), (b.nm, .lst (ks.map .str)), (b.hl, .lst [.ob b.b0.self, .ob b.b1.self]), (b.cl, .lst (callerObs b.ca)), (b.uw, .lst (w.post.map Letter.d)), (b.rw, .lst (w.ledger.map LR.d))]
def worldCells (b : WB) (ks : List Str) (w : WM) : List Cell := worldTop b ks w ++ (houseCells b.b0 ks w.h0 ++ (houseCells b.b1 ks w.h1 ++ callersCells b.ca w.cs))
section
variable {b : WB} {k : D → Prop} {a : Addr}
@[simp ↓] theorem wf_names : look (worldFs b) a_names k = k (.ob b.nm) := rfl
@[simp ↓] theorem wf_houses : look (worldFs b) a_houses k = k (.ob b.hl) := rfl
@[simp ↓] theorem wf_callers : look (worldFs b) a_callers k = k (.ob b.cl) := rfl
@[simp ↓] theorem wf_under_way : look (worldFs b) a_under_way k = k (.ob b.uw) := rfl
@[simp ↓] theorem wf_rows : look (worldFs b) a_rows k = k (.ob b.rw) := rfl
end
/-- all but house i -/
def restH (i : Int) (b : WB) (ks : List Str) (w : WM) : List Cell := worldTop b ks w ++ (houseCells (b.bs (1 - i)) ks (w.hs (1 - i)) ++ callersCells b.ca w.cs)
theorem takeH {s : S} {i : Int} {b : WB} {ks : List Str} {w : WM} {F : List Cell} (hi : i = 0 ∨ i = 1) (o : Own s (worldCells b ks w ++ F)) :
    Own s (houseCells (b.bs i) ks (w.hs i) ++ (restH i b ks w ++ F)) := by
  refine o.mv fun a => ?_
  rcases hi with e | e <;> subst e <;> simp [worldCells, restH, WB.bs, WM.hs, cnt_app] <;> omega
theorem putH {s : S} {i : Int} {b : WB} {ks : List Str} {w : WM} {F : List Cell} {hb : HB} {h : HM} (hi : i = 0 ∨ i = 1) (e : hb.self = (b.bs i).self) (o : Own s (houseCells hb ks h ++ (restH i b ks w ++ F))) :
    Own s (worldCells (b.setB i hb) ks (w.setH i h) ++ F) := by
  refine o.mv fun a => ?_
  rcases hi with e2 | e2 <;> subst e2
  · have e : hb.self = b.b0.self := e
    have et : worldTop (b.setB 0 hb) ks (w.setH 0 h) = worldTop b ks w := by simp [worldTop, WB.setB, WM.setH, worldFs, e]
    simp only [worldCells, restH, cnt_app, et]
    simp [WB.bs, WM.hs, WB.setB, WM.setH]; omega
  · have e : hb.self = b.b1.self := e
    have et : worldTop (b.setB 1 hb) ks (w.setH 1 h) = worldTop b ks w := by simp [worldTop, WB.setB, WM.setH, worldFs, e]
    simp only [worldCells, restH, cnt_app, et]
    simp [WB.bs, WM.hs, WB.setB, WM.setH]; omega
/-- all but caller j -/
def restC (j : Nat) (b : WB) (ks : List Str) (w : WM) : List Cell := worldTop b ks w ++ (houseCells b.b0 ks w.h0 ++ (houseCells b.b1 ks w.h1 ++ callersCells (b.ca.eraseIdx j) (w.cs.eraseIdx j)))
theorem cnt_callers {x : Cell} : ∀ {ca : List (Addr × Addr)} {cs : List CM} {j : Nat} {a : Addr × Addr} {c : CM}, ca[j]? = some a → cs[j]? = some c →
    cnt x (callersCells ca cs) = cnt x (callerCells a.1 a.2 c) + cnt x (callersCells (ca.eraseIdx j) (cs.eraseIdx j))
  | [], _, j, a, c, h, _ => by simp at h
  | _ :: _, [], j, a, c, _, h => by simp at h
  | a' :: ca, c' :: cs, 0, a, c, h1, h2 => by
    simp at h1 h2
    subst h1 h2
    simp [callersCells, cnt_app]
  | a' :: ca, c' :: cs, j + 1, a, c, h1, h2 => by
    have := cnt_callers (x := x) (ca := ca) (cs := cs) (j := j) (a := a) (c := c) (by simpa using h1) (by simpa using h2)
    simp only [callersCells, cnt_app, this, List.eraseIdx_cons_succ]
    omega
theorem takeC {s : S} {j : Nat} {b : WB} {ks : List Str} {w : WM} {F : List Cell} {a : Addr × Addr} {c : CM} (ha : b.ca[j]? = some a) (hc : w.cs[j]? = some c) (o : Own s (worldCells b ks w ++ F)) :
    Own s (callerCells a.1 a.2 c ++ (restC j b ks w ++ F)) := by
  refine o.mv fun x => ?_
  simp only [worldCells, restC, cnt_app, cnt_callers ha hc]; omega
theorem putC {s : S} {j : Nat} {b : WB} {ks : List Str} {w : WM} {F : List Cell} {a : Addr × Addr} {c : CM} (ha : b.ca[j]? = some a) (hj : j < w.cs.length) (o : Own s (callerCells a.1 a.2 c ++ (restC j b ks w ++ F))) :
    Own s (worldCells b ks { w with cs := w.cs.set j c } ++ F) := by
  refine o.mv fun x => ?_
  have hc : (w.cs.set j c)[j]? = some c := by simp [hj]
  have he : (w.cs.set j c).eraseIdx j = w.cs.eraseIdx j := by
    apply List.ext_getElem?
    intro i
    simp only [List.getElem?_eraseIdx, List.getElem?_set]
    split
    · rw [if_neg (by omega)]
    · rw [if_neg (by omega)]
  simp only [worldCells, restC, cnt_app, cnt_callers ha hc, he]
  show _ = cnt x (worldTop b ks w) + _ + _
  omega
structure WorldTab (T : Tab) : Prop where
  nc : T.meth c_World a_need_caller = some f_World_need_caller
  fnc : T.fn f_World_need_caller = some fn_World_need_caller
  nh : T.meth c_World a_need_house = some f_World_need_house
  fnh : T.fn f_World_need_house = some fn_World_need_house
  nk : T.meth c_World a_need_key = some f_World_need_key
  fnk : T.fn f_World_need_key = some fn_World_need_key
  np : T.meth c_World a_need_place = some f_World_need_place
  fnp : T.fn f_World_need_place = some fn_World_need_place
  whole : T.fn f_is_whole = some fn_is_whole
section
variable {T : Tab} {n : Nat} {s : S} {Q : K1} {X : XP} {F : List Cell} {b : WB} {ks : List Str} {w : WM}
theorem is_whole_ok (h : T.fn f_is_whole = some fn_is_whole) {i : Int} (hQ : Q (.bl true) s) : wCall T (n + 1) f_is_whole [.int i] s Q X := by
  refine ⟨fn_is_whole, h, rfl, ?_⟩
  simp only [fn_is_whole, start, List.map, List.length, List.replicate, List.cons_append, List.nil_append]
  simp [↓wSs_cons', ↓wSs_nil, isTs, isT]
  exact hQ
theorem need_caller_ok (t : WorldTab T) {j : Nat} {a : Addr × Addr} (ha : b.ca[j]? = some a) (o : Own s (worldCells b ks w ++ F)) (hQ : Q (.ob a.1) s) : wCall T (n + 2) f_World_need_caller [.ob b.self, .int j] s Q X := by
  refine ⟨fn_World_need_caller, t.fnc, rfl, ?_⟩
  simp only [fn_World_need_caller, start, List.map, List.length, List.replicate, List.cons_append, List.nil_append]
  have hj : j < b.ca.length := (List.getElem?_eq_some_iff.mp ha).1
  refine wSs_cons fun N' hN => ?_
  try simp
  refine is_whole_ok t.whole ?_
  simp [↓ins_of o.head, ↓lst_of o.tail.tail.tail.head, callerObs, hj]
  rw [wSs_nil]
  apply hN; clear hN N'
  have e : atD (callerObs b.ca) (j : Int) = some (.ob a.1) := atD_nat (by simp [callerObs, ha])
  simp [↓wSs_cons', ↓wSs_nil, ↓ins_of o.head, ↓lst_of o.tail.tail.tail.head, e]
  exact hQ
theorem need_house_ok (t : WorldTab T) {i : Int} (hi : i = 0 ∨ i = 1) (o : Own s (worldCells b ks w ++ F)) (hQ : Q (.ob (b.bs i).self) s) : wCall T (n + 2) f_World_need_house [.ob b.self, .int i] s Q X := by
  refine ⟨fn_World_need_house, t.fnh, rfl, ?_⟩
  simp only [fn_World_need_house, start, List.map, List.length, List.replicate, List.cons_append, List.nil_append]
  refine wSs_cons fun N' hN => ?_
  try simp
  refine is_whole_ok t.whole ?_
  rcases hi with e | e <;> subst e <;> (
    try simp
    try rw [wSs_nil]
    apply hN; clear hN N'
    simp [↓wSs_cons', ↓wSs_nil, ↓ins_of o.head, ↓lst_of o.tail.tail.head]
    exact hQ)
theorem any_str {k : Str} {ks : List Str} (h : k ∈ ks) : ((ks.map PyData.str).any fun z => PyData.eqv z (.str k)) = true := by
  rw [List.any_map, List.any_eq_true]
  exact ⟨k, h, by simp [PyData.eqv]⟩
theorem need_key_ok (t : WorldTab T) (ko : KeysOk ks) {k : Str} (hk : k ∈ ks) (o : Own s (worldCells b ks w ++ F)) (hQ : Q .non s) : wCall T (n + 2) f_World_need_key [.ob b.self, .str k] s Q X := by
  refine ⟨fn_World_need_key, t.fnk, rfl, ?_⟩
  simp only [fn_World_need_key, start, List.map, List.length, List.replicate, List.cons_append, List.nil_append]
  refine wSs_cons fun N' hN => ?_
  simp [isTs, isT, ↓ins_of o.head]
  refine .inr ⟨.str k, ks.map .str, .str k, strs_snap o.tail.head, (Pd.str (n := 3) (ko.strOk k hk)).shaped (by omega), (strs_pd (m := 3) ko.strOk).shaped (by omega), ?_⟩
  rw [any_str hk]
  simp
  rw [wSs_nil]
  apply hN
  rw [wSs_nil]
  exact hQ
theorem need_place_ok (t : WorldTab T) {j : Nat} (hj : j < w.post.length) (o : Own s (worldCells b ks w ++ F)) (hQ : Q .non s) : wCall T (n + 2) f_World_need_place [.ob b.self, .int j] s Q X := by
  refine ⟨fn_World_need_place, t.fnp, rfl, ?_⟩
  simp only [fn_World_need_place, start, List.map, List.length, List.replicate, List.cons_append, List.nil_append]
  refine wSs_cons fun N' hN => ?_
  try simp
  refine is_whole_ok t.whole ?_
  simp [↓ins_of o.head, ↓lst_of o.tail.tail.tail.tail.head, hj]
  rw [wSs_nil]
  apply hN
  rw [wSs_nil]
  exact hQ
end
end MH
set_option Elab.async false
set_option linter.all false
set_option maxRecDepth 100000
/-! What the world does. -/
namespace MH
open PySem L2
def Wish.ok : Wish → Prop
  | .get => True
  | .set i => -1000000000000000000000000000000 ≤ i ∧ i ≤ 1000000000000000000000000000000
  | .add i => -1000000000000000000000000000000 ≤ i ∧ i ≤ 1000000000000000000000000000000
theorem wishOf_ok (i : Int) : (wishOf i).ok := by
  have : -1000000000000000000000000000000 ≤ wishNum i ∧ wishNum i ≤ 1000000000000000000000000000000 := by
    unfold wishNum; split <;> omega
  unfold wishOf; split
  · trivial
  · split <;> exact this
def WM.cm (w : WM) (j : Nat) : CM := w.cs.getD j (.new 0)
theorem WM.cm_some {w : WM} {j : Nat} (h : j < w.cs.length) : w.cs[j]? = some (w.cm j) := by
  simp [WM.cm, List.getD_eq_getElem?_getD, List.getElem?_eq_getElem h]
def askL (i num : Int) (a : Ask) : Letter := .call i num a.1 a.2.1 a.2.2
def WM.call (w : WM) (j : Nat) (i : Int) (k : Str) (wi : Wish) : WM :=
  { w with cs := w.cs.set j ((w.cm j).begin k wi), post := w.post ++ [.call i (w.cm j).num ((w.cm j).made + 1) k wi] }
def WM.again (w : WM) (j : Nat) (i : Int) : WM :=
  match (w.cm j).asked with
  | some a => { w with post := w.post ++ [askL i (w.cm j).num a] }
  | none => w
def WM.brought (w : WM) : Letter → WM
  | .answer c n t => { w with cs := w.cs.set c.toNat ((w.cm c.toNat).came n t) }
  | .call i c n k wi => w.setH i ((w.hs i).came (.call i c n k wi))
  | .parcel i k t a m => w.setH i ((w.hs i).came (.parcel i k t a m))
  | .taken i k t => w.setH i ((w.hs i).came (.taken i k t))
def WM.lose (w : WM) (j : Nat) : WM := { w with post := w.post.eraseIdx j }
def WM.write (w : WM) (i : Int) : WM := { w.setH i (w.hs i).wrote with post := w.post ++ (w.hs i).laid, ledger := w.ledger ++ (w.hs i).fresh }
def WM.nudge (w : WM) (ks : List Str) (i : Int) : WM := { w with post := w.post ++ (w.hs i).nudged ks }
def WM.sleep (w : WM) (i : Int) : WM := w.setH i (w.hs i).slept
/-- a letter that may lie in the post -/
def Letter.okIn (ks : List Str) (m : Nat) : Letter → Prop
  | .answer c _ _ => 0 ≤ c ∧ c < m
  | .call i c _ k _ => (i = 0 ∨ i = 1) ∧ (0 ≤ c ∧ c < m) ∧ k ∈ ks
  | .parcel i k _ _ ms => (i = 0 ∨ i = 1) ∧ k ∈ ks ∧ MarksOk ms
  | .taken i k _ => (i = 0 ∨ i = 1) ∧ k ∈ ks
structure CallTab (T : Tab) : Prop where
  fld : ∀ f, f ∈ [a_number, a_made, a_asked, a_closed] → T.fld c_Caller f = true
  m1 : T.meth c_Caller a_asking = some f_Caller_asking
  g1 : T.fn f_Caller_asking = some fn_Caller_asking
  m3 : T.meth c_Caller a_letter = some f_Caller_letter
  g3 : T.fn f_Caller_letter = some fn_Caller_letter
  m4 : T.meth c_Caller a_begin = some f_Caller_begin
  g4 : T.fn f_Caller_begin = some fn_Caller_begin
  m5 : T.meth c_Caller a_came = some f_Caller_came
  g5 : T.fn f_Caller_came = some fn_Caller_came
section
variable {T : Tab} {n : Nat} {s : S} {Q : K1} {X : XP} {F : List Cell} {b : WB} {ks : List Str} {w : WM}
theorem need_wish_ok (h1 : T.fn f_need_wish = some fn_need_wish) (h2 : T.fn f_is_wish = some fn_is_wish) (h3 : T.fn f_is_whole = some fn_is_whole) {wi : Wish} (hw : wi.ok) (hQ : Q .non s) : wCall T (n + 3) f_need_wish [wi.d] s Q X := by
  refine ⟨fn_need_wish, h1, rfl, ?_⟩
  simp only [fn_need_wish, start, List.map, List.length, List.replicate, List.cons_append, List.nil_append]
  refine wSs_cons fun N' hN => ?_
  try simp
  have : ∀ K : K1, K (.bl true) s → wCall T (n + 2) f_is_wish [wi.d] s K X := by
    intro K hK
    refine ⟨fn_is_wish, h2, rfl, ?_⟩
    simp only [fn_is_wish, start, List.map, List.length, List.replicate, List.cons_append, List.nil_append]
    cases wi with
    | get => simpa [↓wSs_cons', ↓wSs_nil, isTs, isT, Wish.d] using hK
    | set i =>
      have hw : -1000000000000000000000000000000 ≤ i ∧ i ≤ 1000000000000000000000000000000 := hw
      simp [↓wSs_cons', ↓wSs_nil, isTs, isT, Wish.d]
      refine is_whole_ok h3 ?_
      have : (if i < 0 then -i else i) ≤ 1000000000000000000000000000000 := by split <;> omega
      simp [this]; exact hK
    | add i =>
      have hw : -1000000000000000000000000000000 ≤ i ∧ i ≤ 1000000000000000000000000000000 := hw
      simp [↓wSs_cons', ↓wSs_nil, isTs, isT, Wish.d]
      refine is_whole_ok h3 ?_
      have : (if i < 0 then -i else i) ≤ 1000000000000000000000000000000 := by split <;> omega
      simp [this]; exact hK
  refine this _ ?_
  try simp
  rw [wSs_nil]
  apply hN
  rw [wSs_nil]
  exact hQ
theorem World_letters_ok (h : T.fn f_World_letters = some fn_World_letters) (o : Own s (worldCells b ks w ++ F)) (hQ : ∀ q s', Own s' ((q, .lst (w.post.map Letter.d)) :: (worldCells b ks w ++ F)) → Q (.ob q) s') :
    wCall T (n + 1) f_World_letters [.ob b.self] s Q X := by
  refine ⟨fn_World_letters, h, rfl, ?_⟩
  simp only [fn_World_letters, start, List.map, List.length, List.replicate, List.cons_append, List.nil_append]
  simp [↓wSs_cons', ↓wSs_nil, ↓ins_of o.head, ↓lst_of o.tail.tail.tail.tail.head]
  exact fun q hq => hQ q _ (o.new hq)
theorem World_ledger_ok (h : T.fn f_World_ledger = some fn_World_ledger) (o : Own s (worldCells b ks w ++ F)) (hQ : ∀ q s', Own s' ((q, .lst (w.ledger.map LR.d)) :: (worldCells b ks w ++ F)) → Q (.ob q) s') :
    wCall T (n + 1) f_World_ledger [.ob b.self] s Q X := by
  refine ⟨fn_World_ledger, h, rfl, ?_⟩
  simp only [fn_World_ledger, start, List.map, List.length, List.replicate, List.cons_append, List.nil_append]
  simp [↓wSs_cons', ↓wSs_nil, ↓ins_of o.head, ↓lst_of o.tail.tail.tail.tail.tail.head]
  exact fun q hq => hQ q _ (o.new hq)
theorem World_asking_ok (t : WorldTab T) (C : CallTab T) (h : T.fn f_World_asking = some fn_World_asking) {j : Nat} (hj : j < w.cs.length) (hl : b.ca.length = w.cs.length) (o : Own s (worldCells b ks w ++ F)) (hQ : Q (askD (w.cm j).asked) s) :
    wCall T (n + 3) f_World_asking [.ob b.self, .int j] s Q X := by
  refine ⟨fn_World_asking, h, rfl, ?_⟩
  simp only [fn_World_asking, start, List.map, List.length, List.replicate, List.cons_append, List.nil_append]
  obtain ⟨a, ha⟩ : ∃ a, b.ca[j]? = some a := ⟨_, List.getElem?_eq_getElem (by omega)⟩
  have oc := takeC ha (WM.cm_some hj) o
  simp [↓wSs_cons', ↓wSs_nil, ↓mthQ_of o.head t.nc rfl]
  refine need_caller_ok t ha o ?_
  simp [↓mthQ_of oc.head C.m1 rfl]
  exact Caller_asking_ok C.g1 oc hQ
theorem World_answers_ok (t : WorldTab T) (C2 : T.meth c_Caller a_answers = some f_Caller_answers) (D2 : T.fn f_Caller_answers = some fn_Caller_answers) (h : T.fn f_World_answers = some fn_World_answers) {j : Nat} (hj : j < w.cs.length) (hl : b.ca.length = w.cs.length) (o : Own s (worldCells b ks w ++ F))
    (hQ : ∀ q s', Own s' ((q, .lst ((w.cm j).closed.map closedD)) :: (worldCells b ks w ++ F)) → Q (.ob q) s') : wCall T (n + 3) f_World_answers [.ob b.self, .int j] s Q X := by
  refine ⟨fn_World_answers, h, rfl, ?_⟩
  simp only [fn_World_answers, start, List.map, List.length, List.replicate, List.cons_append, List.nil_append]
  obtain ⟨a, ha⟩ : ∃ a, b.ca[j]? = some a := ⟨_, List.getElem?_eq_getElem (by omega)⟩
  have oc := takeC ha (WM.cm_some hj) o
  simp [↓wSs_cons', ↓wSs_nil, ↓mthQ_of o.head t.nc rfl]
  refine need_caller_ok t ha o ?_
  simp [↓mthQ_of oc.head C2 rfl]
  refine Caller_answers_ok D2 oc fun q s' o' => hQ q s' (o'.mv fun x => ?_)
  simp only [restC, worldCells, cnt_app, cnt_cons, cnt_callers ha (WM.cm_some hj)]; omega
theorem World_owes_okm (t : WorldTab T) (m4 : T.meth c_House a_owes = some f_House_owes) (g4 : T.fn f_House_owes = some fn_House_owes) (h : T.fn f_World_owes = some fn_World_owes) {i : Int} (hi : i = 0 ∨ i = 1) (hks : ks.length ≤ 1000) (o : Own s (worldCells b ks w ++ F))
    (hQ : ∀ q s', Own s' ((q, .lst (((w.hs i).owes ks).map .str)) :: (worldCells b ks w ++ F)) → Q (.ob q) s') : wCall T (n + 3) f_World_owes [.ob b.self, .int i] s Q X := by
  refine ⟨fn_World_owes, h, rfl, ?_⟩
  simp only [fn_World_owes, start, List.map, List.length, List.replicate, List.cons_append, List.nil_append]
  have oh := takeH hi o
  simp [↓wSs_cons', ↓wSs_nil, ↓mthQ_of o.head t.nh rfl]
  refine need_house_ok t hi o ?_
  simp [↓mthQ_of oh.head m4 rfl]
  refine House_owes_ok g4 hks oh fun q s' o' => hQ q s' (o'.mv fun x => ?_)
  rcases hi with e | e <;> subst e <;> simp [restH, worldCells, cnt_app, cnt_cons, WB.bs, WM.hs] <;> omega
theorem World_owes_ok (t : WorldTab T) (H : HouseAll T) (h : T.fn f_World_owes = some fn_World_owes) {i : Int} (hi : i = 0 ∨ i = 1) (hks : ks.length ≤ 1000) (o : Own s (worldCells b ks w ++ F))
    (hQ : ∀ q s', Own s' ((q, .lst (((w.hs i).owes ks).map .str)) :: (worldCells b ks w ++ F)) → Q (.ob q) s') : wCall T (n + 3) f_World_owes [.ob b.self, .int i] s Q X :=
  World_owes_okm t H.m4 H.g4 h hi hks o hQ
theorem World_has_okm (t : WorldTab T) (m2 : T.meth c_House a_has = some f_House_has) (g2 : T.fn f_House_has = some fn_House_has) (h : T.fn f_World_has = some fn_World_has) {i : Int} (hi : i = 0 ∨ i = 1) (ko : KeysOk ks) {k : Str} (hk : k ∈ ks) (o : Own s (worldCells b ks w ++ F))
    (hQ : Q (.bl (decide (((w.hs i).known k).st = .here))) s) : wCall T (n + 3) f_World_has [.ob b.self, .int i, .str k] s Q X := by
  refine ⟨fn_World_has, h, rfl, ?_⟩
  simp only [fn_World_has, start, List.map, List.length, List.replicate, List.cons_append, List.nil_append]
  have oh := takeH hi o
  refine wSs_cons fun N' hN => ?_
  simp [↓mthQ_of o.head t.nh rfl]
  refine need_house_ok t hi o ?_
  try simp
  apply hN; clear hN N'
  refine wSs_cons fun N' hN => ?_
  simp [↓mthQ_of o.head t.nk rfl]
  refine need_key_ok t ko hk o ?_
  apply hN; clear hN N'
  simp [↓wSs_cons', ↓wSs_nil, ↓mthQ_of oh.head m2 rfl]
  exact House_has_ok g2 hk oh hQ
theorem World_has_ok (t : WorldTab T) (H : HouseBase T) (h : T.fn f_World_has = some fn_World_has) {i : Int} (hi : i = 0 ∨ i = 1) (ko : KeysOk ks) {k : Str} (hk : k ∈ ks) (o : Own s (worldCells b ks w ++ F))
    (hQ : Q (.bl (decide (((w.hs i).known k).st = .here))) s) : wCall T (n + 3) f_World_has [.ob b.self, .int i, .str k] s Q X :=
  World_has_okm t H.m2 H.g2 h hi ko hk o hQ
end
end MH
set_option Elab.async false
set_option linter.all false
set_option maxRecDepth 100000
/-! What the world does: letters come, houses write. -/
namespace MH
open PySem L2
structure WTab (T : Tab) : Prop extends WorldTab T where
  H : HouseBase T
  C : CallTab T
  wish1 : T.fn f_need_wish = some fn_need_wish
  wish2 : T.fn f_is_wish = some fn_is_wish
  mbr : T.meth c_World a_brought = some f_World_brought
  fbr : T.fn f_World_brought = some fn_World_brought
/-- bounds that make every step go through -/
structure WBd (m : Nat) (b : WB) (ks : List Str) (w : WM) : Prop where
  ca : b.ca.length = w.cs.length
  k0 : HOk m w.h0
  k1 : HOk m w.h1
  post : w.post.length ≤ m
  led : w.ledger.length ≤ m
  cl : ∀ j, (w.cm j).closed.length ≤ m
theorem WBd.hs {m : Nat} {b : WB} {ks : List Str} {w : WM} (o : WBd m b ks w) (i : Int) : HOk m (w.hs i) := by
  unfold WM.hs; split
  · exact o.k0
  · exact o.k1
section
variable {T : Tab} {n : Nat} {s : S} {Q : K1} {X : XP} {F : List Cell} {b : WB} {ks : List Str} {w : WM}
theorem setB_self {b : WB} {i : Int} {h : HB} : (b.setB i h).self = b.self := by unfold WB.setB; split <;> rfl
theorem setB_ca {b : WB} {i : Int} {h : HB} : (b.setB i h).ca = b.ca := by unfold WB.setB; split <;> rfl
theorem setH_cs {w : WM} {i : Int} {h : HM} : (w.setH i h).cs = w.cs := by unfold WM.setH; split <;> rfl
theorem setH_post {w : WM} {i : Int} {h : HM} : (w.setH i h).post = w.post := by unfold WM.setH; split <;> rfl
theorem setH_ledger {w : WM} {i : Int} {h : HM} : (w.setH i h).ledger = w.ledger := by unfold WM.setH; split <;> rfl
theorem setB_same {b : WB} {i : Int} {h : HB} (hi : i = 0 ∨ i = 1) (e : h = b.bs i) : b.setB i h = b := by
  subst e; unfold WB.setB WB.bs; split <;> rfl
theorem World_brought_ok (t : WTab T) {m : Nat} (bd : WBd m b ks w) (hm : m ≤ 1000000) (ko : KeysOk ks) {x : Letter} (hx : x.okIn ks w.cs.length) (o : Own s (worldCells b ks w ++ F))
    (hQ : ∀ s', Own s' (worldCells b ks (w.brought x) ++ F) → Q .non s') : wCall T (n + 4) f_World_brought [.ob b.self, x.d] s Q X := by
  refine ⟨fn_World_brought, t.fbr, rfl, ?_⟩
  simp only [fn_World_brought, start, List.map, List.length, List.replicate, List.cons_append, List.nil_append]
  have hks : ks.length ≤ 1000 := by have := ko.le; omega
  have house : ∀ (y : Letter) (i : Int), (i = 0 ∨ i = 1) → y.fits ks → w.brought y = w.setH i ((w.hs i).came y) → ∀ (K : K1), (∀ s', Own s' (worldCells b ks (w.brought y) ++ F) → K .non s') → wCall T (n + 3) f_House_came [.ob (b.bs i).self, y.d] s K X := by
    intro y i hi hf hy K hK
    have oh := takeH hi o
    have hh := bd.hs i
    refine House_came_ok t.H.toHouseTab t.H.g1 hf (fun k _ => by have := (hh.mk1 k).len; omega) (by have := hh.l1; omega) (by have := hh.l2; omega) hks oh fun s' o' => ?_
    refine hK s' ?_
    rw [hy]
    have := putH (hb := b.bs i) hi rfl o'
    rwa [setB_same hi rfl] at this
  refine wSs_cons fun N' hN => ?_
  cases x with
  | answer c i u =>
    have hx : 0 ≤ c ∧ c < (w.cs.length : Int) := hx
    have hj : c.toNat < w.cs.length := by omega
    obtain ⟨a, ha⟩ : ∃ a, b.ca[c.toNat]? = some a := ⟨_, List.getElem?_eq_getElem (by have := bd.ca; omega)⟩
    have oc := takeC ha (WM.cm_some hj) o
    simp [Letter.d]
    refine wSs_cons fun N2 hN2 => ?_
    have e : atD (callerObs b.ca) c = some (.ob a.1) := by
      have := atD_nat (l := callerObs b.ca) (n := c.toNat) (v := .ob a.1) (by simp [callerObs, ha])
      rwa [Int.toNat_of_nonneg hx.1] at this
    simp [↓ins_of o.head, ↓lst_of o.tail.tail.tail.head, e, ↓mthQ_of oc.head t.C.m5 rfl]
    refine Caller_came_ok t.C.g5 t.C.fld oc (by have := bd.cl c.toNat; omega) fun s' o' => ?_
    try simp
    apply hN2
    rw [wSs_nil]
    apply hN
    rw [wSs_nil]
    exact hQ s' (putC ha hj o')
  | call i c k' k wi =>
    obtain ⟨hi, hc, hk⟩ := hx
    have oh := takeH hi o
    have hh := house (.call i c k' k wi) i hi hk rfl
    simp [Letter.d]
    refine wSs_cons fun N2 hN2 => ?_
    have e : atD [D.ob b.b0.self, .ob b.b1.self] i = some (.ob (b.bs i).self) := by rcases hi with e | e <;> subst e <;> simp [WB.bs]
    simp [↓ins_of o.head, ↓lst_of o.tail.tail.head, e, ↓mthQ_of oh.head t.H.m1 rfl]
    refine hh _ fun s' o' => ?_
    try simp
    apply hN2
    rw [wSs_nil]
    apply hN
    rw [wSs_nil]
    exact hQ s' o'
  | parcel i k tn am ms =>
    obtain ⟨hi, hk, hms⟩ := hx
    have oh := takeH hi o
    have hh := house (.parcel i k tn am ms) i hi hk rfl
    simp [Letter.d]
    refine wSs_cons fun N2 hN2 => ?_
    have e : atD [D.ob b.b0.self, .ob b.b1.self] i = some (.ob (b.bs i).self) := by rcases hi with e | e <;> subst e <;> simp [WB.bs]
    simp [↓ins_of o.head, ↓lst_of o.tail.tail.head, e, ↓mthQ_of oh.head t.H.m1 rfl]
    refine hh _ fun s' o' => ?_
    try simp
    apply hN2
    rw [wSs_nil]
    apply hN
    rw [wSs_nil]
    exact hQ s' o'
  | taken i k tn =>
    obtain ⟨hi, hk⟩ := hx
    have oh := takeH hi o
    have hh := house (.taken i k tn) i hi hk rfl
    simp [Letter.d]
    refine wSs_cons fun N2 hN2 => ?_
    have e : atD [D.ob b.b0.self, .ob b.b1.self] i = some (.ob (b.bs i).self) := by rcases hi with e | e <;> subst e <;> simp [WB.bs]
    simp [↓ins_of o.head, ↓lst_of o.tail.tail.head, e, ↓mthQ_of oh.head t.H.m1 rfl]
    refine hh _ fun s' o' => ?_
    try simp
    apply hN2
    rw [wSs_nil]
    apply hN
    rw [wSs_nil]
    exact hQ s' o'
theorem World_twice_ok (t : WTab T) (h : T.fn f_World_twice = some fn_World_twice) {m : Nat} (bd : WBd m b ks w) (hm : m ≤ 1000000) (ko : KeysOk ks) {j : Nat} {x : Letter} (hj : w.post[j]? = some x) (hx : x.okIn ks w.cs.length) (o : Own s (worldCells b ks w ++ F))
    (hQ : ∀ s', Own s' (worldCells b ks (w.brought x) ++ F) → Q .non s') : wCall T (n + 5) f_World_twice [.ob b.self, .int j] s Q X := by
  refine ⟨fn_World_twice, h, rfl, ?_⟩
  simp only [fn_World_twice, start, List.map, List.length, List.replicate, List.cons_append, List.nil_append]
  refine wSs_cons fun N' hN => ?_
  simp [↓mthQ_of o.head t.np rfl]
  refine need_place_ok t.toWorldTab (List.getElem?_eq_some_iff.mp hj).1 o ?_
  apply hN; clear hN N'
  refine wSs_cons fun N' hN => ?_
  have e : atD (w.post.map Letter.d) (j : Int) = some x.d := atD_nat (by simp [hj])
  simp [↓mthQ_of o.head t.mbr rfl, ↓ins_of o.head, ↓lst_of o.tail.tail.tail.tail.head, e]
  refine World_brought_ok t bd hm ko hx o fun s' o' => ?_
  apply hN
  rw [wSs_nil]
  exact hQ s' o'
theorem post_pop {l : List Letter} {j : Nat} {x : Letter} (hj : l[j]? = some x) (hl : l.length ≤ 1000000) {p : Addr} {K : K1} (h : s p = some (.lst (l.map Letter.d))) (hK : K x.d (up s p (.lst ((l.eraseIdx j).map Letter.d)))) : rBm .pop (.ob p) [.int (j : Int)] s K := by
  have := (List.getElem?_eq_some_iff.mp hj).1
  refine ⟨l.map Letter.d, x.d, h, by omega, by omega, by simp [hj], ?_⟩
  have e : (l.map Letter.d).eraseIdx ((j : Int).toNat) = (l.eraseIdx j).map Letter.d := by
    rw [Int.toNat_natCast, List.eraseIdx_eq_take_drop_succ, List.eraseIdx_eq_take_drop_succ, List.map_append, List.map_take, List.map_drop]
  rw [e]; exact hK
theorem World_lose_ok (t : WTab T) (h : T.fn f_World_lose = some fn_World_lose) {m : Nat} (bd : WBd m b ks w) (hm : m ≤ 1000000) {j : Nat} {x : Letter} (hj : w.post[j]? = some x) (o : Own s (worldCells b ks w ++ F))
    (hQ : ∀ s', Own s' (worldCells b ks (w.lose j) ++ F) → Q .non s') : wCall T (n + 5) f_World_lose [.ob b.self, .int j] s Q X := by
  refine ⟨fn_World_lose, h, rfl, ?_⟩
  simp only [fn_World_lose, start, List.map, List.length, List.replicate, List.cons_append, List.nil_append]
  have hp := bd.post
  refine wSs_cons fun N' hN => ?_
  simp [↓mthQ_of o.head t.np rfl]
  refine need_place_ok t.toWorldTab (List.getElem?_eq_some_iff.mp hj).1 o ?_
  apply hN; clear hN N'
  refine wSs_cons fun N' hN => ?_
  simp [↓ins_of o.head, ↓lst_of o.tail.tail.tail.tail.head]
  refine post_pop hj (by omega) o.tail.tail.tail.tail.head ?_
  have o2 := o.repl (.there (.there (.there (.there (.here (u' := .lst ((w.post.eraseIdx j).map Letter.d)))))))
  apply hN
  rw [wSs_nil]
  exact hQ _ o2
theorem World_hand_ok (t : WTab T) (h : T.fn f_World_hand = some fn_World_hand) {m : Nat} (bd : WBd m b ks w) (hm : m ≤ 1000000) (ko : KeysOk ks) {j : Nat} {x : Letter} (hj : w.post[j]? = some x) (hx : x.okIn ks w.cs.length) (o : Own s (worldCells b ks w ++ F))
    (hQ : ∀ s', Own s' (worldCells b ks ((w.lose j).brought x) ++ F) → Q .non s') : wCall T (n + 5) f_World_hand [.ob b.self, .int j] s Q X := by
  refine ⟨fn_World_hand, h, rfl, ?_⟩
  simp only [fn_World_hand, start, List.map, List.length, List.replicate, List.cons_append, List.nil_append]
  have hp := bd.post
  refine wSs_cons fun N' hN => ?_
  simp [↓mthQ_of o.head t.np rfl]
  refine need_place_ok t.toWorldTab (List.getElem?_eq_some_iff.mp hj).1 o ?_
  apply hN; clear hN N'
  refine wSs_cons fun N' hN => ?_
  simp [↓mthQ_of o.head t.mbr rfl, ↓ins_of o.head, ↓lst_of o.tail.tail.tail.tail.head]
  refine post_pop hj (by omega) o.tail.tail.tail.tail.head ?_
  have o2 := o.repl (.there (.there (.there (.there (.here (u' := .lst ((w.post.eraseIdx j).map Letter.d)))))))
  generalize up s b.uw _ = s2 at o2 ⊢
  have o3 : Own s2 (worldCells b ks (w.lose j) ++ F) := o2
  have bd2 : WBd m b ks (w.lose j) := ⟨bd.ca, bd.k0, bd.k1, Nat.le_trans (List.length_eraseIdx_le _ _) bd.post, bd.led, bd.cl⟩
  refine World_brought_ok t bd2 hm ko hx o3 fun s' o' => ?_
  apply hN
  rw [wSs_nil]
  exact hQ s' o'
theorem World_sleep_ok (t : WTab T) (h : T.fn f_World_sleep = some fn_World_sleep) {i : Int} (hi : i = 0 ∨ i = 1) (o : Own s (worldCells b ks w ++ F))
    (hQ : ∀ b' s', b'.self = b.self → b'.ca = b.ca → Own s' (worldCells b' ks (w.sleep i) ++ F) → Q .non s') : wCall T (n + 3) f_World_sleep [.ob b.self, .int i] s Q X := by
  refine ⟨fn_World_sleep, h, rfl, ?_⟩
  simp only [fn_World_sleep, start, List.map, List.length, List.replicate, List.cons_append, List.nil_append]
  have oh := takeH hi o
  refine wSs_cons fun N' hN => ?_
  simp [↓mthQ_of o.head t.nh rfl]
  refine need_house_ok t.toWorldTab hi o ?_
  simp [↓mthQ_of oh.head t.H.m8 rfl]
  refine House_sleep_ok t.H.toHouseTab t.H.g8 oh fun hb s' e o' => ?_
  try simp
  apply hN
  rw [wSs_nil]
  exact hQ (b.setB i hb) s' setB_self setB_ca (putH hi e o')
theorem World_write_ok (t : WTab T) (h : T.fn f_World_write = some fn_World_write) {m : Nat} (bd : WBd m b ks w) (hm : m ≤ 1000000) {i : Int} (hi : i = 0 ∨ i = 1) (o : Own s (worldCells b ks w ++ F))
    (hQ : ∀ b' s', b'.self = b.self → b'.ca = b.ca → Own s' (worldCells b' ks (w.write i) ++ F) → Q .non s') : wCall T (n + 3) f_World_write [.ob b.self, .int i] s Q X := by
  refine ⟨fn_World_write, h, rfl, ?_⟩
  simp only [fn_World_write, start, List.map, List.length, List.replicate, List.cons_append, List.nil_append]
  have oh := takeH hi o
  have hh := bd.hs i
  have hl1 := hh.l1
  have hl2 := hh.l2
  have hp := bd.post
  have hld := bd.led
  refine wSs_cons fun N' hN => ?_
  simp [↓mthQ_of o.head t.nh rfl]
  refine need_house_ok t.toWorldTab hi o ?_
  simp [↓mthQ_of oh.head t.H.m3 rfl]
  refine House_write_ok t.H.toHouseTab t.H.g3 oh fun hb s2 e o2 => ?_
  try simp
  apply hN; clear hN N'
  have o3 := o2.mv (M := houseCells hb ks (w.hs i).wrote ++ (restH i b ks w ++ (((b.bs i).la, .lst ((w.hs i).laid.map Letter.d)) :: ((b.bs i).fr, .lst ((w.hs i).fresh.map LR.d)) :: F))) (fun a => by simp only [cnt_app, cnt_cons]; omega)
  have o4 := putH hi e o3
  have hs : (b.setB i hb).self = b.self := setB_self
  have hca : (b.setB i hb).ca = b.ca := setB_ca
  generalize b.setB i hb = b2 at o4 hs hca
  rw [← hs]
  refine wSs_cons fun N' hN => ?_
  have l1 : s2 (b.bs i).la = some (.lst ((w.hs i).laid.map Letter.d)) := o4.mem (by simp)
  have l2 : s2 b2.uw = some (.lst ((w.setH i (w.hs i).wrote).post.map Letter.d)) := o4.tail.tail.tail.tail.head
  simp [↓ins_of o4.head, ↓lst_of l2, ↓rExt_of l2 l1, setH_post]
  refine ⟨by omega, ?_⟩
  have o5 := o4.repl (.there (.there (.there (.there (.here (u' := .lst (w.post.map Letter.d ++ (w.hs i).laid.map Letter.d)))))))
  generalize up s2 b2.uw _ = s3 at o5 ⊢
  apply hN; clear hN N'
  have o6 : Own s3 (worldCells b2 ks { w.setH i (w.hs i).wrote with post := w.post ++ (w.hs i).laid } ++ (((b.bs i).la, .lst ((w.hs i).laid.map Letter.d)) :: ((b.bs i).fr, .lst ((w.hs i).fresh.map LR.d)) :: F)) := by
    rw [worldCells, worldTop, List.map_append]; exact o5
  refine wSs_cons fun N' hN => ?_
  have l1 : s3 (b.bs i).fr = some (.lst ((w.hs i).fresh.map LR.d)) := o6.mem (by simp)
  have l2 : s3 b2.rw = some (.lst (w.ledger.map LR.d)) := by have := o6.tail.tail.tail.tail.tail.head; simp only [setH_ledger] at this; exact this
  simp [↓ins_of o6.head, ↓lst_of l2, ↓rExt_of l2 l1]
  refine ⟨by omega, ?_⟩
  have o7 := o6.repl (.there (.there (.there (.there (.there (.here (u' := .lst (w.ledger.map LR.d ++ (w.hs i).fresh.map LR.d))))))))
  generalize up s3 b2.rw _ = s4 at o7 ⊢
  apply hN
  rw [wSs_nil]
  have o8 : Own s4 (worldCells b2 ks (w.write i) ++ (((b.bs i).la, .lst ((w.hs i).laid.map Letter.d)) :: ((b.bs i).fr, .lst ((w.hs i).fresh.map LR.d)) :: F)) := by
    rw [worldCells, worldTop, WM.write, List.map_append, List.map_append]
    rw [List.map_append] at o7
    exact o7
  exact hQ b2 s4 hs hca (o8.unshift.tail.unshift.tail)
theorem World_nudge_ok (t : WTab T) (H : HouseAll T) (h : T.fn f_World_nudge = some fn_World_nudge) {m : Nat} (bd : WBd m b ks w) (hm : m ≤ 1000000) (hks : ks.length ≤ 1000) {i : Int} (hi : i = 0 ∨ i = 1) (o : Own s (worldCells b ks w ++ F))
    (hQ : ∀ s', Own s' (worldCells b ks (w.nudge ks i) ++ F) → Q .non s') : wCall T (n + 4) f_World_nudge [.ob b.self, .int i] s Q X := by
  refine ⟨fn_World_nudge, h, rfl, ?_⟩
  simp only [fn_World_nudge, start, List.map, List.length, List.replicate, List.cons_append, List.nil_append]
  have oh := takeH hi o
  have hp := bd.post
  refine wSs_cons fun N' hN => ?_
  simp [↓ins_of o.head, ↓lst_of o.tail.tail.tail.tail.head, ↓mthQ_of o.head t.nh rfl]
  refine need_house_ok t.toWorldTab hi o ?_
  simp [↓mthQ_of oh.head H.m5 rfl]
  refine House_nudge_ok H.g5 H.m6 H.g6 hks oh fun q s2 o2 => ?_
  have hnl : ((w.hs i).nudged ks).length ≤ 1000 := Nat.le_trans (List.length_filterMap_le _ _) hks
  have o3 : Own s2 ((q, .lst (((w.hs i).nudged ks).map Letter.d)) :: (worldCells b ks w ++ F)) := o2.mv fun x => by
    rcases hi with e | e <;> subst e <;> simp [restH, worldCells, cnt_app, cnt_cons, WB.bs, WM.hs] <;> omega
  have l2 : s2 b.uw = some (.lst (w.post.map Letter.d)) := o3.mem (by simp [worldCells, worldTop])
  simp [↓rExt_of l2 o3.head]
  refine ⟨by omega, ?_⟩
  have o4 := o3.tail.repl (.there (.there (.there (.there (.here (u' := .lst (w.post.map Letter.d ++ ((w.hs i).nudged ks).map Letter.d)))))))
  apply hN
  rw [wSs_nil]
  refine hQ _ ?_
  rw [worldCells, worldTop, WM.nudge, List.map_append]
  exact o4
end
end MH
set_option Elab.async false
set_option linter.all false
set_option maxRecDepth 100000
/-! What the world does: calls, moves; a new world. -/
namespace MH
open PySem L2
def WM.home (w : WM) (k : Str) : D := if (w.h0.known k).st = .here then .int w.h0.num else if (w.h1.known k).st = .here then .int w.h1.num else .non
section
variable {T : Tab} {n : Nat} {s : S} {Q : K1} {X : XP} {F : List Cell} {b : WB} {ks : List Str} {w : WM}
theorem World_call_ok (t : WTab T) (h : T.fn f_World_call = some fn_World_call) {m : Nat} (bd : WBd m b ks w) (hm : m ≤ 1000000) (ko : KeysOk ks) {j : Nat} (hj : j < w.cs.length) {i : Int} (hi : i = 0 ∨ i = 1) {k : Str} (hk : k ∈ ks) {wi : Wish} (hw : wi.ok)
    (ha0 : (w.cm j).asked = none) (o : Own s (worldCells b ks w ++ F)) (hQ : ∀ s', Own s' (worldCells b ks (w.call j i k wi) ++ F) → Q (.int ((w.cm j).made + 1)) s') :
    wCall T (n + 4) f_World_call [.ob b.self, .int j, .int i, .str k, wi.d] s Q X := by
  refine ⟨fn_World_call, h, rfl, ?_⟩
  simp only [fn_World_call, start, List.map, List.length, List.replicate, List.cons_append, List.nil_append]
  obtain ⟨a, ha⟩ : ∃ a, b.ca[j]? = some a := ⟨_, List.getElem?_eq_getElem (by have := bd.ca; omega)⟩
  have oc := takeC ha (WM.cm_some hj) o
  have hp := bd.post
  refine wSs_cons fun N' hN => ?_
  simp [↓mthQ_of o.head t.nc rfl]
  refine need_caller_ok t.toWorldTab ha o ?_
  try simp
  apply hN; clear hN N'
  refine wSs_cons fun N' hN => ?_
  simp [↓mthQ_of o.head t.nh rfl]
  refine need_house_ok t.toWorldTab hi o ?_
  apply hN; clear hN N'
  refine wSs_cons fun N' hN => ?_
  simp [↓mthQ_of o.head t.nk rfl]
  refine need_key_ok t.toWorldTab ko hk o ?_
  apply hN; clear hN N'
  refine wSs_cons fun N' hN => ?_
  try simp
  refine need_wish_ok t.wish1 t.wish2 t.whole hw ?_
  apply hN; clear hN N'
  refine wSs_cons fun N' hN => ?_
  simp [↓mthQ_of oc.head t.C.m1 rfl]
  refine Caller_asking_ok t.C.g1 oc ?_
  simp [ha0]
  rw [wSs_nil]
  apply hN; clear hN N'
  refine wSs_cons fun N' hN => ?_
  simp [↓mthQ_of oc.head t.C.m4 rfl]
  refine Caller_begin_ok t.C.g4 t.C.fld oc fun s2 o2 => ?_
  try simp
  apply hN; clear hN N'
  have o3 := putC ha hj o2
  refine wSs_cons fun N' hN => ?_
  simp [↓ins_of o3.head, ↓lst_of o3.tail.tail.tail.tail.head, ↓mthQ_of o2.head t.C.m3 rfl]
  refine Caller_letter_ok t.C.g3 (a := ((w.cm j).made + 1, k, wi)) rfl o2 ?_
  simp [↓lst_of o3.tail.tail.tail.tail.head]
  refine ⟨by omega, ?_⟩
  have o4 := o3.repl (.there (.there (.there (.there (.here (u' := .lst (w.post.map Letter.d ++ [(Letter.call i (w.cm j).num ((w.cm j).made + 1) k wi).d])))))))
  apply hN; clear hN N'
  simp [↓wSs_cons', ↓wSs_nil]
  refine hQ _ ?_
  rw [worldCells, worldTop, WM.call, List.map_append]
  exact o4
theorem World_again_ok (t : WTab T) (h : T.fn f_World_again = some fn_World_again) {m : Nat} (bd : WBd m b ks w) (hm : m ≤ 1000000) {j : Nat} (hj : j < w.cs.length) {i : Int} (hi : i = 0 ∨ i = 1) {a0 : Ask}
    (ha0 : (w.cm j).asked = some a0) (o : Own s (worldCells b ks w ++ F)) (hQ : ∀ s', Own s' (worldCells b ks (w.again j i) ++ F) → Q .non s') :
    wCall T (n + 4) f_World_again [.ob b.self, .int j, .int i] s Q X := by
  refine ⟨fn_World_again, h, rfl, ?_⟩
  simp only [fn_World_again, start, List.map, List.length, List.replicate, List.cons_append, List.nil_append]
  obtain ⟨a, ha⟩ : ∃ a, b.ca[j]? = some a := ⟨_, List.getElem?_eq_getElem (by have := bd.ca; omega)⟩
  have oc := takeC ha (WM.cm_some hj) o
  have hp := bd.post
  refine wSs_cons fun N' hN => ?_
  simp [↓mthQ_of o.head t.nc rfl]
  refine need_caller_ok t.toWorldTab ha o ?_
  try simp
  apply hN; clear hN N'
  refine wSs_cons fun N' hN => ?_
  simp [↓mthQ_of o.head t.nh rfl]
  refine need_house_ok t.toWorldTab hi o ?_
  apply hN; clear hN N'
  refine wSs_cons fun N' hN => ?_
  simp [↓mthQ_of oc.head t.C.m1 rfl]
  refine Caller_asking_ok t.C.g1 oc ?_
  simp [ha0]
  rw [wSs_nil]
  apply hN; clear hN N'
  refine wSs_cons fun N' hN => ?_
  simp [↓ins_of o.head, ↓lst_of o.tail.tail.tail.tail.head, ↓mthQ_of oc.head t.C.m3 rfl]
  refine Caller_letter_ok t.C.g3 ha0 oc ?_
  simp [↓lst_of o.tail.tail.tail.tail.head]
  refine ⟨by omega, ?_⟩
  have o4 := o.repl (.there (.there (.there (.there (.here (u' := .lst (w.post.map Letter.d ++ [(askL i (w.cm j).num a0).d])))))))
  apply hN
  rw [wSs_nil]
  refine hQ _ ?_
  rw [WM.again, ha0]
  show Own _ (worldCells b ks { w with post := w.post ++ [askL i (w.cm j).num a0] } ++ F)
  rw [worldCells, worldTop, List.map_append]
  exact o4
theorem World_home_okm (t : WorldTab T) (m2 : T.meth c_House a_has = some f_House_has) (g2 : T.fn f_House_has = some fn_House_has) (h : T.fn f_World_home = some fn_World_home) (ko : KeysOk ks) {k : Str} (hk : k ∈ ks) (o : Own s (worldCells b ks w ++ F)) (hQ : Q (w.home k) s) :
    wCall T (n + 3) f_World_home [.ob b.self, .str k] s Q X := by
  refine ⟨fn_World_home, h, rfl, ?_⟩
  simp only [fn_World_home, start, List.map, List.length, List.replicate, List.cons_append, List.nil_append]
  have o0 := takeH (i := 0) (.inl rfl) o
  have o1 := takeH (i := 1) (.inr rfl) o
  have e0 : b.bs 0 = b.b0 := rfl
  have e1 : b.bs 1 = b.b1 := rfl
  have e2 : w.hs 0 = w.h0 := rfl
  have e3 : w.hs 1 = w.h1 := rfl
  rw [e0, e2] at o0
  rw [e1, e3] at o1
  refine wSs_cons fun N' hN => ?_
  simp [↓mthQ_of o.head t.nk rfl]
  refine need_key_ok t ko hk o ?_
  apply hN; clear hN N'
  refine wSs_cons fun N' hN => ?_
  simp [↓ins_of o.head, ↓lst_of o.tail.tail.head]
  unfold WM.home at hQ
  refine ⟨o.tail.tail.head, _, rfl, ?_⟩
  refine wSs_cons fun N2 hN2 => ?_
  simp [↓mthQ_of o0.head m2 rfl]
  refine House_has_ok g2 hk o0 ?_
  try simp
  by_cases h0 : (w.h0.known k).st = .here
  · rw [if_pos h0] at hQ ⊢
    simpa [↓wSs_cons', ↓wSs_nil, ↓ins_of o0.head] using hQ
  · rw [if_neg h0] at hQ ⊢
    rw [wSs_nil]
    apply hN2; clear hN2 N2
    rw [wSs_nil]
    refine ⟨o.tail.tail.head, _, rfl, ?_⟩
    refine wSs_cons fun N2 hN2 => ?_
    simp [↓mthQ_of o1.head m2 rfl]
    refine House_has_ok g2 hk o1 ?_
    try simp
    by_cases h1 : (w.h1.known k).st = .here
    · rw [if_pos h1] at hQ ⊢
      simpa [↓wSs_cons', ↓wSs_nil, ↓ins_of o1.head] using hQ
    · rw [if_neg h1] at hQ ⊢
      rw [wSs_nil]
      apply hN2; clear hN2 N2
      rw [wSs_nil]
      refine ⟨o.tail.tail.head, ?_⟩
      apply hN
      simpa [↓wSs_cons', ↓wSs_nil] using hQ
theorem World_home_ok (t : WTab T) (h : T.fn f_World_home = some fn_World_home) (ko : KeysOk ks) {k : Str} (hk : k ∈ ks) (o : Own s (worldCells b ks w ++ F)) (hQ : Q (w.home k) s) :
    wCall T (n + 3) f_World_home [.ob b.self, .str k] s Q X :=
  World_home_okm t.toWorldTab t.H.m2 t.H.g2 h ko hk o hQ
end
end MH
set_option Elab.async false
set_option linter.all false
set_option maxRecDepth 100000
/-! A new world. -/
namespace MH
open PySem L2
section
variable {T : Tab} {n : Nat} {s : S} {Q : K1} {X : XP} {F : List Cell} {b : WB} {ks : List Str} {w : WM}
theorem is_key_ok (h : T.fn f_is_key = some fn_is_key) {k : Str} (hk : 1 ≤ k.length ∧ k.length ≤ 8 ∧ ∀ c ∈ k.cps.toList, 97 ≤ c ∧ c < 123) (hQ : ∀ s', Ext s s' → Q (.bl true) s') : wCall T (n + 1) f_is_key [.str k] s Q X := by
  refine ⟨fn_is_key, h, rfl, ?_⟩
  simp only [fn_is_key, start, List.map, List.length, List.replicate, List.cons_append, List.nil_append, abc_eq]
  have h1 : (1 : Int) ≤ (k.length : Int) := by omega
  have h2 : (k.length : Int) ≤ 8 := by omega
  have h3 : k.length ≤ 16777216 := by omega
  refine wSs_cons fun N' hN => ?_
  simp [isTs, isT, h1, h2, h3]
  rw [wSs_nil]
  apply hN; clear hN N'
  refine wSs_cons fun N' hN => ?_
  simp [wE_lc]
  refine ⟨by show k.cps.size ≤ _; exact h3, ?_⟩
  have e0 : List.map (fun c => D.str ⟨#[c]⟩) k.cps.toList = k.cps.toList.map (fun c => D.str ⟨#[c]⟩) := rfl
  refine wItems_map k.cps.toList (fun c => D.str ⟨#[c]⟩) (fun _ => D.bl true) (fun _ _ => trivial) ?_ ?_
  · intro c s1 K hc x1 hK
    have := hk.2.2 c hc
    have hm : c ∈ (mkS abcL).cps.toList := by
      simp [mkS, abcL]; exact ⟨c - 97, by omega, by omega⟩
    simp [hm]
    exact hK _ (Ext.refl _)
  · intro s1 x1 p hp
    have e : List.map (fun _ => D.bl true) k.cps.toList = (List.replicate k.cps.toList.length true).map .bl := by simp [List.map_const']
    rw [e]
    refine (rAll_of up_same).mpr ?_
    have : (List.replicate k.cps.toList.length true).all id = true := by simp
    rw [this]
    exact hQ _ (x1.up hp)
theorem need_world_ok (h : T.fn f_need_world = some fn_need_world) (h1 : T.fn f_is_key = some fn_is_key) (h2 : T.fn f_is_whole = some fn_is_whole) (ko : KeysOk ks) {ak : Addr} {c : Int} (hc : 1 ≤ c ∧ c ≤ 6)
    (l1 : s ak = some (.lst (ks.map .str))) (hQ : ∀ s', Ext s s' → Q .non s') : wCall T (n + 2) f_need_world [.ob ak, .int c] s Q X := by
  refine ⟨fn_need_world, h, rfl, ?_⟩
  simp only [fn_need_world, start, List.map, List.length, List.replicate, List.cons_append, List.nil_append]
  have k1 : (1 : Int) ≤ (ks.length : Int) := by have := ko.ne; omega
  have k2 : (ks.length : Int) ≤ 6 := by have := ko.le; omega
  refine wSs_cons fun N' hN => ?_
  simp [isTs, isT, l1, ↓lst_of l1, k1, k2, wE_lc]
  refine ⟨by omega, ?_⟩
  refine wItems_map ks D.str (fun _ => D.bl true) (fun s' x => x _ _ l1) ?_ ?_
  · intro k s1 K hk x1 hK
    try simp
    exact is_key_ok h1 (ko.key k hk) fun s' x => hK s' x
  intro s1 x1 p hp
  have e : List.map (fun _ => D.bl true) ks = (List.replicate ks.length true).map .bl := by simp [List.map_const']
  rw [e]
  refine (rAll_of up_same).mpr ?_
  have : (List.replicate ks.length true).all id = true := by simp
  rw [this]
  have x2 := x1.up (o := .lst ((List.replicate ks.length true).map .bl)) hp
  generalize up s1 p _ = s2 at x2 ⊢
  simp
  rw [wSs_nil]
  apply hN; clear hN N'
  refine wSs_cons fun N' hN => ?_
  simp [↓lst_of (x2 _ _ l1)]
  refine ⟨by omega, ?_⟩
  refine wFor_map (List.range ks.length) (fun (k : Nat) => D.int (k : Nat)) (fun _ e s' => Ext s s' ∧ ∃ x2, e = [some (.ob ak), some (.int c), x2, none]) ⟨x2, _, rfl⟩ ?_ ?_
  · intro pre k post e s3 K hm ⟨x3, y, he⟩ hK
    subst he
    refine ⟨trivial, _, rfl, ?_⟩
    have hk : k < ks.length := List.mem_range.mp (by rw [hm]; simp)
    have l3 := x3 _ _ l1
    refine wSs_cons fun N2 hN2 => ?_
    have e1 : atD (ks.map .str) (k : Int) = some (.str ks[k]) := atD_nat (by simp [List.getElem?_eq_getElem hk])
    simp [↓lst_of l3, e1]
    intro q hq
    have x4 := x3.up (o := .lst (cutD (ks.map .str) none (some (k : Int)))) hq
    have l4 : up s3 q (.lst (cutD (ks.map .str) none (some (k : Int)))) q = some (.lst ((ks.take k).map .str)) := by rw [up_same, cutD_take, List.map_take]
    generalize up s3 q _ = s4 at x4 l4 ⊢
    have hpd : ∀ j ∈ ks.take k, PyData.strOk j = true := fun j hj => ko.strOk j (List.mem_of_mem_take hj)
    refine .inr ⟨.str ks[k], (ks.take k).map .str, .str _, strs_snap l4, (Pd.str (n := 3) (ko.strOk _ (List.getElem_mem hk))).shaped (by omega), (strs_pd (m := 3) hpd).shaped (by omega), ?_⟩
    have hany : ((ks.take k).map PyData.str).any (fun z => PyData.eqv z (.str ks[k])) = false := by
      rw [List.any_map, List.any_eq_false]
      intro j hj
      simp [PyData.eqv]
      intro e
      obtain ⟨i, hi, e2⟩ := List.getElem_of_mem hj
      have hi2 : i < k := by simp at hi; omega
      rw [List.getElem_take] at e2
      have h7 := (List.pairwise_iff_getElem.mp ko.nd) i k (by omega) hk hi2
      first
      | exact h7 (e2.trans e)
      | exact h7 (e2.trans e.symm)
    rw [hany]
    simp
    rw [wSs_nil]
    apply hN2
    rw [wSs_nil]
    exact hK _ _ ⟨x4, _, rfl⟩
  · intro e s3 ⟨x3, y, he⟩
    subst he
    refine ⟨trivial, ?_⟩
    apply hN; clear hN N'
    refine wSs_cons fun N' hN => ?_
    try simp
    refine is_whole_ok h2 ?_
    simp [hc.1, hc.2]
    rw [if_neg (by omega)]
    try rw [wSs_nil]
    apply hN
    rw [wSs_nil]
    exact hQ _ x3
theorem wE_make {C : Nat → List D → S → K1 → XP → Prop} {c : Nat} {es : Exs} {e : Env} : wE T C (.make c es) e s Q X = wEs T C es e s (fun ds s1 => ∃ f, T.init c = some f ∧ ∀ p, s1 p = none → C f (.ob p :: ds) (up s1 p (.ins c [])) (fun d s2 => d = .non ∧ Q (.ob p) s2) X) X := rfl
def newCallers (c : Nat) : List CM := (List.range c).map fun (k : Nat) => .new k
def WM.new (c : Nat) : WM := ⟨.new 0, .new 1, newCallers c, [], []⟩
theorem cnt_callers_app {x : Cell} : ∀ {ca : List (Addr × Addr)} {cs : List CM} {a : Addr × Addr} {c : CM}, ca.length = cs.length →
    cnt x (callersCells (ca ++ [a]) (cs ++ [c])) = cnt x (callersCells ca cs) + cnt x (callerCells a.1 a.2 c)
  | [], [], a, c, _ => by simp [callersCells, cnt_app, cnt_nil]
  | [], _ :: _, a, c, h => by simp at h
  | _ :: _, [], a, c, h => by simp at h
  | a' :: ca, c' :: cs, a, c, h => by
    have := cnt_callers_app (x := x) (ca := ca) (cs := cs) (a := a) (c := c) (by simpa using h)
    simp only [List.cons_append, callersCells, cnt_app, this]; omega
theorem World_init_okm (t : WorldTab T) (tH : HouseTab T) (tf : ∀ f, f ∈ [a_number, a_made, a_asked, a_closed] → T.fld c_Caller f = true) (h : T.fn f_World_init = some fn_World_init) (h0 : T.fn f_need_world = some fn_need_world) (h1 : T.fn f_is_key = some fn_is_key) (hi : T.init c_House = some f_House_init) (gi : T.fn f_House_init = some fn_House_init)
    (hi2 : T.init c_Caller = some f_Caller_init) (gi2 : T.fn f_Caller_init = some fn_Caller_init) (fw : ∀ f, f ∈ [a_names, a_houses, a_callers, a_under_way, a_rows] → T.fld c_World f = true) (ko : KeysOk ks) {p ak : Addr} {c : Nat} (hc : 1 ≤ c ∧ c ≤ 6)
    (o : Own s ((p, .ins c_World []) :: F)) (ha : (ak, .lst (ks.map .str)) ∈ F) (hQ : ∀ b s', b.self = p → b.ca.length = c → Own s' (worldCells b ks (.new c) ++ F) → Q .non s') :
    wCall T (n + 3) f_World_init [.ob p, .ob ak, .int c] s Q X := by
  refine ⟨fn_World_init, h, rfl, ?_⟩
  simp only [fn_World_init, start, List.map, List.length, List.replicate, List.cons_append, List.nil_append]
  have hks : ks.length ≤ 1000 := by have := ko.le; omega
  have w : ∀ f, f ∈ [a_names, a_houses, a_callers, a_under_way, a_rows] → ∀ (fs : List (Nat × D)) (d : D) s F K, fs.length < 1000 → Own s ((p, .ins c_World fs) :: F) → (∀ s', Own s' ((p, .ins c_World (putA f d fs)) :: F) → K s') → setfQ T f d K (.ob p) s := by
    intro f hm fs d s F K hl o hK
    rw [setfQ_of o.head]
    exact ⟨fw f hm, hl, hK _ o.set⟩
  refine wSs_cons fun N' hN => ?_
  try simp
  refine need_world_ok h0 h1 t.whole ko (by omega) (o.mem (by simp [ha])) fun s1 x1 => ?_
  have o1 := o.ext x1
  apply hN; clear hN N'
  refine wSs_cons fun N' hN => ?_
  simp [↓lst_of (o1.mem (List.mem_cons_of_mem _ ha))]
  intro nm hnm
  have o2 := (o1.new (u := .lst (ks.map .str)) hnm).swap
  generalize up s1 nm _ = s2 at o2 ⊢
  refine w _ (by simp) _ _ _ _ _ (by simp) o2 fun s3 o3 => ?_
  apply hN; clear hN N' o1 o2 hnm x1
  refine wSs_cons fun N' hN => ?_
  simp [wE_make]
  refine ⟨_, hi, fun q0 hq0 => ?_⟩
  have o4 := o3.new (u := .ins c_House []) hq0
  generalize up s3 q0 _ = s4 at o4 ⊢
  refine House_init_ok tH gi (.inl rfl) ko.nd hks o4 (by simp [ha]) fun b0 s5 e0 o5 => ?_
  try simp
  refine ⟨_, hi, fun q1 hq1 => ?_⟩
  have o6 := o5.new (u := .ins c_House []) hq1
  generalize up s5 q1 _ = s6 at o6 ⊢
  refine House_init_ok tH gi (.inr rfl) ko.nd hks o6 (by simp [ha]) fun b1 s7 e1 o7 => ?_
  try simp
  intro hl hhl
  have o8 := (o7.new (u := .lst [.ob q0, .ob q1]) hhl).mv (M := (p, .ins c_World (putA a_names (.ob nm) [])) :: (hl, .lst [.ob q0, .ob q1]) :: (nm, .lst (ks.map .str)) :: (houseCells b0 ks (.new 0) ++ (houseCells b1 ks (.new 1) ++ F))) (fun a => by simp only [cnt_app, cnt_cons]; omega)
  generalize up s7 hl _ = s8 at o8 ⊢
  refine w _ (by simp) _ _ _ _ _ (by exact (by decide : (1 : Nat) < 1000)) o8 fun s9 o9 => ?_
  apply hN; clear hN N' o3 o4 o5 o6 o7 o8 hq0 hq1 hhl
  refine wSs_cons fun N' hN => ?_
  have hfs : ∃ fs, fs = putA a_houses (.ob hl) (putA a_names (.ob nm) []) := ⟨_, rfl⟩
  obtain ⟨fs, hfs⟩ := hfs
  rw [← hfs] at o9
  simp [wE_lc, wE_make]
  refine ⟨by omega, by omega, ?_⟩
  refine wItems_inv (fun pre acc s => ∃ ca, acc = callerObs ca ∧ ca.length = pre.length ∧ Own s (callersCells ca (newCallers pre.length) ++ ((p, .ins c_World fs) :: (hl, .lst [.ob q0, .ob q1]) :: (nm, .lst (ks.map .str)) :: (houseCells b0 ks (.new 0) ++ (houseCells b1 ks (.new 1) ++ F)))))
    ⟨[], rfl, rfl, o9⟩ ?_ ?_
  · intro pre x post acc s K hm ⟨ca, e2, e3, o10⟩ hK _
    refine ⟨trivial, ?_⟩
    have hx : x = .int (pre.length : Nat) := by
      have h2 : (List.map (fun (k : Nat) => D.int (k : Nat)) (List.range c))[pre.length]? = some x := by rw [hm]; simp
      rw [List.getElem?_map] at h2
      cases h3 : (List.range c)[pre.length]? with
      | none => rw [h3] at h2; cases h2
      | some y =>
        rw [h3] at h2
        obtain ⟨h4, h5⟩ := List.getElem?_eq_some_iff.mp h3
        simp at h5 h2
        rw [← h2, h5]
    subst hx
    try simp
    refine ⟨_, hi2, fun q hq => ?_⟩
    have o11 := o10.new (u := .ins c_Caller []) hq
    generalize up s q _ = s2 at o11 ⊢
    refine Caller_init_ok gi2 tf o11 fun cl s3 o12 => ?_
    try simp
    refine hK (.ob q) s3 ⟨ca ++ [(q, cl)], by simp [e2, callerObs], by simp [e3], o12.mv fun y => ?_⟩
    have hn : newCallers (pre.length + 1) = newCallers pre.length ++ [.new (pre.length : Nat)] := by simp [newCallers, List.range_succ]
    have hnl : ca.length = (newCallers pre.length).length := by simp [newCallers, e3]
    simp only [List.length_append, List.length_singleton, hn, cnt_app, cnt_callers_app hnl]
    omega
  · intro acc s10 ⟨ca, e2, e3, o10⟩
    refine ⟨trivial, fun cl hcl => ?_⟩
    have hlen : ca.length = c := by rw [e3]; simp
    have e4 : (List.map (fun (k : Nat) => D.int (k : Nat)) (List.range c)).length = c := by simp
    subst e2
    have o11 := (o10.new (u := .lst (callerObs ca)) hcl).mv (M := (p, .ins c_World fs) :: (cl, .lst (callerObs ca)) :: (hl, .lst [.ob q0, .ob q1]) :: (nm, .lst (ks.map .str)) :: (houseCells b0 ks (.new 0) ++ (houseCells b1 ks (.new 1) ++ (callersCells ca (newCallers c) ++ F)))) (fun a => by
      simp only [cnt_app, cnt_cons, e4]; omega)
    generalize up s10 cl _ = s11 at o11 ⊢
    rw [hfs] at o11
    refine w _ (by simp) _ _ _ _ _ (by exact (by decide : (2 : Nat) < 1000)) o11 fun s12 o12 => ?_
    apply hN; clear hN N'
    refine wSs_cons fun N' hN => ?_
    try simp
    intro uw huw
    have o13 := (o12.new (u := .lst []) huw).swap
    generalize up s12 uw _ = s13 at o13 ⊢
    refine w _ (by simp) _ _ _ _ _ (by exact (by decide : (3 : Nat) < 1000)) o13 fun s14 o14 => ?_
    apply hN; clear hN N'
    refine wSs_cons fun N' hN => ?_
    try simp
    intro rw' hrw
    have o15 := (o14.new (u := .lst []) hrw).swap
    generalize up s14 rw' _ = s15 at o15 ⊢
    refine w _ (by simp) _ _ _ _ _ (by exact (by decide : (4 : Nat) < 1000)) o15 fun s16 o16 => ?_
    apply hN
    rw [wSs_nil]
    refine hQ ⟨p, nm, hl, cl, uw, rw', b0, b1, ca⟩ s16 rfl hlen ?_
    have o17 : Own s16 ((p, .ins c_World (worldFs ⟨p, nm, hl, cl, uw, rw', b0, b1, ca⟩)) :: (rw', .lst []) :: (uw, .lst []) :: (cl, .lst (callerObs ca)) :: (hl, .lst [.ob q0, .ob q1]) :: (nm, .lst (ks.map .str)) :: (houseCells b0 ks (.new 0) ++ (houseCells b1 ks (.new 1) ++ (callersCells ca (newCallers c) ++ F)))) := o16
    refine o17.mv fun a => ?_
    simp only [worldCells, worldTop, WM.new, cnt_app, cnt_cons, cnt_nil, List.map_nil, e0, e1]
    omega
theorem World_init_ok (t : WTab T) (h : T.fn f_World_init = some fn_World_init) (h0 : T.fn f_need_world = some fn_need_world) (h1 : T.fn f_is_key = some fn_is_key) (hi : T.init c_House = some f_House_init) (gi : T.fn f_House_init = some fn_House_init)
    (hi2 : T.init c_Caller = some f_Caller_init) (gi2 : T.fn f_Caller_init = some fn_Caller_init) (fw : ∀ f, f ∈ [a_names, a_houses, a_callers, a_under_way, a_rows] → T.fld c_World f = true) (ko : KeysOk ks) {p ak : Addr} {c : Nat} (hc : 1 ≤ c ∧ c ≤ 6)
    (o : Own s ((p, .ins c_World []) :: F)) (ha : (ak, .lst (ks.map .str)) ∈ F) (hQ : ∀ b s', b.self = p → b.ca.length = c → Own s' (worldCells b ks (.new c) ++ F) → Q .non s') :
    wCall T (n + 3) f_World_init [.ob p, .ob ak, .int c] s Q X :=
  World_init_okm t.toWorldTab t.H.toHouseTab t.C.fld h h0 h1 hi gi hi2 gi2 fw ko hc o ha hQ
end
end MH
set_option Elab.async false
set_option linter.all false
set_option maxRecDepth 100000
/-! What the world does: moves, settling. -/
namespace MH
open PySem L2
def WM.move (w : WM) (k : Str) : WM := if (w.h0.known k).st = .here then { w with h0 := w.h0.moved k } else { w with h1 := w.h1.moved k }
section
variable {T : Tab} {n : Nat} {s : S} {Q : K1} {X : XP} {F : List Cell} {b : WB} {ks : List Str} {w : WM}
theorem World_move_ok (t : WTab T) (H : HouseAll T) (h : T.fn f_World_move = some fn_World_move) (mh : T.meth c_World a_home = some f_World_home) (gh : T.fn f_World_home = some fn_World_home) {m : Nat} (bd : WBd m b ks w) (hm : m ≤ 1000000) (ko : KeysOk ks) {k : Str} (hk : k ∈ ks)
    (n0 : w.h0.num = 0) (n1 : w.h1.num = 1) (hh : (w.h0.known k).st = .here ∨ (w.h1.known k).st = .here) (o : Own s (worldCells b ks w ++ F)) (hQ : ∀ s', Own s' (worldCells b ks (w.move k) ++ F) → Q .non s') :
    wCall T (n + 4) f_World_move [.ob b.self, .str k] s Q X := by
  refine ⟨fn_World_move, h, rfl, ?_⟩
  simp only [fn_World_move, start, List.map, List.length, List.replicate, List.cons_append, List.nil_append]
  have hks : ks.length ≤ 1000 := by have := ko.le; omega
  have l0 := bd.k0.l1
  have l1 := bd.k1.l1
  refine wSs_cons fun N' hN => ?_
  simp [↓mthQ_of o.head mh rfl]
  refine World_home_ok t gh ko hk o ?_
  try simp
  apply hN; clear hN N'
  refine wSs_cons fun N' hN => ?_
  unfold WM.move at hQ
  unfold WM.home
  by_cases h0 : (w.h0.known k).st = .here
  · rw [if_pos h0] at hQ ⊢
    rw [n0]
    simp [isNon]
    rw [wSs_nil]
    apply hN; clear hN N'
    have oh := takeH (i := 0) (.inl rfl) o
    refine wSs_cons fun N' hN => ?_
    have e0 : b.bs 0 = b.b0 := rfl
    have e2 : w.hs 0 = w.h0 := rfl
    rw [e0, e2] at oh
    simp [↓ins_of o.head, ↓lst_of o.tail.tail.head, ↓mthQ_of oh.head H.m7 rfl]
    refine House_move_ok H.toHouseTab H.g7 H.m6 H.g6 hk hks h0 (by omega) oh fun s' o' => ?_
    apply hN
    rw [wSs_nil]
    have := putH (hb := b.b0) (i := 0) (.inl rfl) rfl o'
    exact hQ s' this
  · rw [if_neg h0] at hQ ⊢
    have h1 : (w.h1.known k).st = .here := by rcases hh with h | h; exact absurd h h0; exact h
    rw [if_pos h1, n1]
    simp [isNon]
    rw [wSs_nil]
    apply hN; clear hN N'
    have oh := takeH (i := 1) (.inr rfl) o
    refine wSs_cons fun N' hN => ?_
    have e0 : b.bs 1 = b.b1 := rfl
    have e2 : w.hs 1 = w.h1 := rfl
    rw [e0, e2] at oh
    simp [↓ins_of o.head, ↓lst_of o.tail.tail.head, ↓mthQ_of oh.head H.m7 rfl]
    refine House_move_ok H.toHouseTab H.g7 H.m6 H.g6 hk hks h1 (by omega) oh fun s' o' => ?_
    apply hN
    rw [wSs_nil]
    have := putH (hb := b.b1) (i := 1) (.inr rfl) rfl o'
    exact hQ s' this
def WM.settledB (w : WM) (ks : List Str) : Bool := w.cs.all (fun c => c.asked.isNone) && ((w.h0.owes ks).isEmpty && (w.h1.owes ks).isEmpty)
theorem owes_ok {ks : List Str} (ko : KeysOk ks) (h : HM) : ∀ k ∈ h.owes ks, PyData.strOk k = true := fun k hk => ko.strOk k (List.mem_filter.mp hk).1
/-- a list beside an empty one -/
theorem rEq_empty {a q : Addr} {s : S} {Q : K1} {ds : List PyData} {n : Nat} (h : Pd n (.list ds)) (hn : n ≤ 64) (ha : Snap s (.ob a) (.list ds)) (hq : s q = some (.lst [])) (hQ : Q (.bl ds.isEmpty) s) : rCmp .Eq (.ob a) (.ob q) s Q := by
  refine .inl ⟨.list ds, .list [], ha, .lst hq .nil, h.shaped hn, (Pd.lst (n := 1) (by simp)).shaped (by omega), ?_⟩
  have : PyData.eqv (.list ds) (.list []) = ds.isEmpty := by cases ds <;> simp [PyData.eqv, PyData.eqvAll]
  show Q (.bl (PyData.eqv (.list ds) (.list []))) s
  rw [this]; exact hQ
theorem World_is_settled_okm (t : WorldTab T) (C : CallTab T) (m4 : T.meth c_House a_owes = some f_House_owes) (g4 : T.fn f_House_owes = some fn_House_owes) (h : T.fn f_World_is_settled = some fn_World_is_settled) (mo : T.meth c_World a_owes = some f_World_owes) (go : T.fn f_World_owes = some fn_World_owes) (ko : KeysOk ks) (hca : b.ca.length = w.cs.length)
    (o : Own s (worldCells b ks w ++ F)) (hQ : ∀ s', Own s' (worldCells b ks w ++ F) → Q (.bl (w.settledB ks)) s') : wCall T (n + 4) f_World_is_settled [.ob b.self] s Q X := by
  refine ⟨fn_World_is_settled, h, rfl, ?_⟩
  simp only [fn_World_is_settled, start, List.map, List.length, List.replicate, List.cons_append, List.nil_append]
  have hks : ks.length ≤ 1000 := by have := ko.le; omega
  refine wSs_cons fun N' hN => ?_
  simp [↓ins_of o.head, ↓lst_of o.tail.tail.tail.head]
  refine wFor_map b.ca (fun a => D.ob a.1) (fun pre e s' => s' = s ∧ (∀ j, j < pre.length → (w.cm j).asked = none) ∧ ∃ x1, e = [some (.ob b.self), x1]) ⟨rfl, by simp, _, rfl⟩ ?_ ?_
  · intro pre a post e s' K hm ⟨hs, hp, x1, he⟩ hK
    subst hs he
    refine ⟨o.tail.tail.tail.head, _, rfl, ?_⟩
    have ha : b.ca[pre.length]? = some a := by rw [hm]; simp
    have hj : pre.length < w.cs.length := by rw [← hca, hm]; simp
    have oc := takeC ha (WM.cm_some hj) o
    refine wSs_cons fun N2 hN2 => ?_
    simp [↓mthQ_of oc.head C.m1 rfl]
    refine Caller_asking_ok C.g1 oc ?_
    try simp
    by_cases hn : (w.cm pre.length).asked = none
    · simp [hn, ↓wSs_nil]
      apply hN2; rw [wSs_nil]
      refine hK _ _ ⟨rfl, fun j hj2 => ?_, _, rfl⟩
      simp at hj2
      by_cases e : j = pre.length
      · rw [e]; exact hn
      · exact hp j (by omega)
    · have hf : w.settledB ks = false := by
        unfold WM.settledB
        have : w.cs.all (fun c => c.asked.isNone) = false := by
          rw [List.all_eq_false]
          refine ⟨w.cm pre.length, List.mem_of_getElem? (WM.cm_some hj), by simp [Option.isNone_iff_eq_none]; exact hn⟩
        rw [this]; rfl
      rw [hf] at hQ
      simp [hn, ↓wSs_cons', ↓wSs_nil]
      exact hQ _ o
  · intro e s' ⟨hs, hp, x1, he⟩
    subst hs he
    refine ⟨o.tail.tail.tail.head, ?_⟩
    apply hN; clear hN N'
    have hall : w.cs.all (fun c => c.asked.isNone) = true := by
      rw [List.all_eq_true]
      intro c hc
      obtain ⟨j, hj, e⟩ := List.getElem_of_mem hc
      have := hp j (by omega)
      rw [WM.cm, List.getD_eq_getElem?_getD, List.getElem?_eq_getElem hj] at this
      rw [← e]; simpa using this
    refine wSs_cons fun N' hN => ?_
    simp [↓mthQ_of o.head mo rfl]
    refine World_owes_okm t m4 g4 go (.inl rfl) hks o fun q s2 o2 => ?_
    try simp
    intro q2 hq2
    have o3 := o2.new (u := .lst []) hq2
    generalize up s2 q2 _ = s3 at o3 ⊢
    refine rEq_empty (strs_pd (m := 4) (owes_ok ko (w.hs 0))) (by omega) (strs_snap o3.tail.head) o3.head ?_
    have e0 : (((w.hs 0).owes ks).map PyData.str).isEmpty = (w.h0.owes ks).isEmpty := by show ((w.h0.owes ks).map PyData.str).isEmpty = _; cases w.h0.owes ks <;> rfl
    rw [e0]
    unfold WM.settledB at hQ
    rw [hall] at hQ
    have o4 := o3.tail.tail
    cases h0 : (w.h0.owes ks).isEmpty with
    | false =>
      rw [h0] at hQ
      simp
      exact hQ _ o4
    | true =>
      rw [h0] at hQ
      simp [↓mthQ_of o4.head mo rfl]
      refine World_owes_okm t m4 g4 go (.inr rfl) hks o4 fun q s4 o5 => ?_
      try simp
      intro q3 hq3
      have o6 := o5.new (u := .lst []) hq3
      generalize up s4 q3 _ = s5 at o6 ⊢
      refine rEq_empty (strs_pd (m := 4) (owes_ok ko (w.hs 1))) (by omega) (strs_snap o6.tail.head) o6.head ?_
      have e1 : (((w.hs 1).owes ks).map PyData.str).isEmpty = (w.h1.owes ks).isEmpty := by show ((w.h1.owes ks).map PyData.str).isEmpty = _; cases w.h1.owes ks <;> rfl
      rw [e1]
      try simp
      exact hQ _ o6.tail.tail
theorem World_is_settled_ok (t : WTab T) (H : HouseAll T) (h : T.fn f_World_is_settled = some fn_World_is_settled) (mo : T.meth c_World a_owes = some f_World_owes) (go : T.fn f_World_owes = some fn_World_owes) (ko : KeysOk ks) (hca : b.ca.length = w.cs.length)
    (o : Own s (worldCells b ks w ++ F)) (hQ : ∀ s', Own s' (worldCells b ks w ++ F) → Q (.bl (w.settledB ks)) s') : wCall T (n + 4) f_World_is_settled [.ob b.self] s Q X :=
  World_is_settled_okm t.toWorldTab t.C H.m4 H.g4 h mo go ko hca o hQ
end
end MH
set_option Elab.async false
set_option linter.all false
set_option maxRecDepth 100000
/-! Words on letters as data. -/
namespace MH
open PySem L2
theorem WM.cm_set {w : WM} {j i : Nat} {c : CM} (h : j < w.cs.length) : ({ w with cs := w.cs.set j c } : WM).cm i = if i = j then c else w.cm i := by
  unfold WM.cm
  simp only [List.getD_eq_getElem?_getD, List.getElem?_set]
  by_cases e : j = i
  · subst e; simp [h]
  · simp [e, Ne.symm e]
theorem ok_call : PyData.strOk q_call = true := by decide +kernel
theorem ok_answer : PyData.strOk q_answer = true := by decide +kernel
theorem ok_parcel : PyData.strOk q_parcel = true := by decide +kernel
theorem ok_taken : PyData.strOk q_taken = true := by decide +kernel
theorem marks_pd {m : List J3} {n : Nat} : Pd (n + 2) (marksP m) := .tup fun d hd => by
  obtain ⟨t, _, rfl⟩ := List.mem_map.mp hd
  exact .tup (by simp; exact ⟨.int _, .int _, .int _⟩)
theorem Letter.pd {n k : Nat} {ks : List Str} (ko : KeysOk ks) {l : Letter} (h : l.okIn ks k) : Pd (n + 3) l.p := by
  cases l with
  | call i c m k w => exact .tup (by simp; exact ⟨.str ok_call, .int _, .int _, .int _, .str (ko.strOk _ h.2.2), w.pd⟩)
  | answer c m t => exact .tup (by simp; exact ⟨.str ok_answer, .int _, .int _, .int _⟩)
  | parcel i k t a ms => exact .tup (by simp; exact ⟨.str ok_parcel, .int _, .str (ko.strOk _ h.2.1), .int _, .int _, marks_pd⟩)
  | taken i k t => exact .tup (by simp; exact ⟨.str ok_taken, .int _, .str (ko.strOk _ h.2), .int _⟩)
theorem letters_pd {n k : Nat} {ks : List Str} (ko : KeysOk ks) {l : List Letter} (h : ∀ x ∈ l, x.okIn ks k) : Pd (n + 4) (.list (l.map Letter.p)) :=
  .lst fun d hd => by obtain ⟨x, hx, rfl⟩ := List.mem_map.mp hd; exact Letter.pd ko (h x hx)
/-- a list beside an empty one -/
theorem rNe_empty {a q : Addr} {s : S} {Q : K1} {ds : List PyData} {n : Nat} (h : Pd n (.list ds)) (hn : n ≤ 64) (ha : Snap s (.ob a) (.list ds)) (hq : s q = some (.lst [])) (hQ : Q (.bl (!ds.isEmpty)) s) : rCmp .NotEq (.ob a) (.ob q) s Q := by
  refine .inl ⟨.list ds, .list [], ha, .lst hq .nil, h.shaped hn, (Pd.lst (n := 1) (by simp)).shaped (by omega), ?_⟩
  have : PyData.eqv (.list ds) (.list []) = ds.isEmpty := by cases ds <;> simp [PyData.eqv, PyData.eqvAll]
  rw [this]; exact hQ
end MH
set_option Elab.async false
set_option linter.all false
set_option maxRecDepth 100000
/-! Deeds of a world, and what they keep within bounds. -/
namespace MH
open PySem L2
abbrev Call := Int × Int × Str × Wish
def callD : Option Call → D
  | none => .non
  | some c => .tup [.int c.1, .int c.2.1, .str c.2.2.1, c.2.2.2.d]
inductive Step (ks : List Str) (w : WM) : WM → Option Call → Prop
  | idle : Step ks w w none
  | call {j : Nat} {i : Int} {k : Str} {wi : Wish} : j < w.cs.length → (i = 0 ∨ i = 1) → k ∈ ks → wi.ok → (w.cm j).asked = none → Step ks w (w.call j i k wi) (some ((j : Int), (w.cm j).made + 1, k, wi))
  | again {j : Nat} {i : Int} {a : Ask} : j < w.cs.length → (i = 0 ∨ i = 1) → (w.cm j).asked = some a → Step ks w (w.again j i) none
  | hand {j : Nat} {x : Letter} : w.post[j]? = some x → Step ks w ((w.lose j).brought x) none
  | twice {j : Nat} {x : Letter} : w.post[j]? = some x → Step ks w (w.brought x) none
  | lose {j : Nat} {x : Letter} : w.post[j]? = some x → Step ks w (w.lose j) none
  | move {k : Str} : k ∈ ks → ((w.h0.known k).st = .here ∨ (w.h1.known k).st = .here) → Step ks w (w.move k) none
  | sleep {i : Int} : (i = 0 ∨ i = 1) → Step ks w (w.sleep i) none
  | nudge {i : Int} : (i = 0 ∨ i = 1) → Step ks w (w.nudge ks i) none
  | write {i : Int} : (i = 0 ∨ i = 1) → Step ks w (w.write i) none
theorem okIn_short {ks : List Str} {m : Nat} {x : Letter} (h : x.okIn ks m) : x.short := by
  cases x with
  | parcel i k t a ms => have := h.2.2.len; show ms.length ≤ 1000; omega
  | call => trivial
  | answer => trivial
  | taken => trivial
/-- a house within bounds -/
structure HGood (ks : List Str) (m : Nat) (h : HM) : Prop where
  num : h.num = 0 ∨ h.num = 1
  mk1 : ∀ k, MarksOk (h.known k).marks
  mk2 : ∀ k, MarksOk (h.written k).marks
  laid : ∀ x ∈ h.laid, x.okIn ks m
theorem HGood.ok {ks : List Str} {m n : Nat} {h : HM} (o : HGood ks m h) (h1 : h.laid.length ≤ n) (h2 : h.fresh.length ≤ n) : HOk n h :=
  ⟨h1, h2, o.mk1, o.mk2, fun x hx => okIn_short (o.laid x hx)⟩
theorem okIn_app {ks : List Str} {m : Nat} {l : List Letter} {y : Letter} (h : ∀ x ∈ l, x.okIn ks m) (hy : y.okIn ks m) : ∀ x ∈ l ++ [y], x.okIn ks m := fun x hx => by
  rcases List.mem_append.mp hx with h1 | h1
  · exact h x h1
  · rw [List.mem_singleton.mp h1]; exact hy
theorem other01 {i : Int} (h : i = 0 ∨ i = 1) : (1 - i = 0 ∨ 1 - i = 1) := by omega
theorem HGood.came {ks : List Str} {m : Nat} {h : HM} (o : HGood ks m h) (hm : m ≤ 6) {x : Letter} (hx : x.okIn ks m) :
    HGood ks m (h.came x) ∧ (h.came x).laid.length ≤ h.laid.length + 1 ∧ (h.came x).fresh.length ≤ h.fresh.length + 1 ∧ (h.came x).num = h.num := by
  cases x with
  | answer c n t => exact ⟨o, by simp [HM.came], by simp [HM.came], rfl⟩
  | call i c n k wi =>
    obtain ⟨hi, hc, hk⟩ := hx
    have hc6 : 0 ≤ c ∧ c < 6 := by omega
    show HGood ks m (h.called c n k wi) ∧ (h.called c n k wi).laid.length ≤ _ ∧ (h.called c n k wi).fresh.length ≤ _ ∧ (h.called c n k wi).num = _
    unfold HM.called
    split
    · exact ⟨o, by omega, by omega, rfl⟩
    · split
      · exact ⟨⟨o.num, fset_marks o.mk1 ((o.mk1 k).marked hc6), o.mk2, okIn_app o.laid hc⟩, by simp, by simp, rfl⟩
      · exact ⟨⟨o.num, o.mk1, o.mk2, okIn_app o.laid hc⟩, by simp, by simp, rfl⟩
  | parcel i k t a ms =>
    obtain ⟨hi, hk, hms⟩ := hx
    refine ⟨⟨o.num, ?_, o.mk2, okIn_app o.laid ⟨other01 o.num, hk⟩⟩, by simp [HM.came, HM.gotParcel], by simp [HM.came, HM.gotParcel], rfl⟩
    simp only [HM.came, HM.gotParcel]; split
    · exact fset_marks o.mk1 hms
    · exact o.mk1
  | taken i k t =>
    show HGood ks m (h.gotTaken k t) ∧ (h.gotTaken k t).laid.length ≤ _ ∧ (h.gotTaken k t).fresh.length ≤ _ ∧ (h.gotTaken k t).num = _
    unfold HM.gotTaken
    split
    · exact ⟨⟨o.num, fset_marks o.mk1 .nil, o.mk2, o.laid⟩, by simp, by simp, rfl⟩
    · exact ⟨o, by omega, by omega, rfl⟩
theorem HGood.moved {ks : List Str} {m : Nat} {h : HM} (o : HGood ks m h) {k : Str} (hk : k ∈ ks) : HGood ks m (h.moved k) :=
  ⟨o.num, fset_marks o.mk1 (o.mk1 k), o.mk2, okIn_app o.laid ⟨other01 o.num, hk, o.mk1 k⟩⟩
theorem HGood.wrote {ks : List Str} {m : Nat} {h : HM} (o : HGood ks m h) : HGood ks m h.wrote := ⟨o.num, o.mk1, o.mk1, by simp [HM.wrote]⟩
theorem HGood.slept {ks : List Str} {m : Nat} {h : HM} (o : HGood ks m h) : HGood ks m h.slept := ⟨o.num, o.mk2, o.mk2, by simp [HM.slept]⟩
theorem HGood.nudged {ks : List Str} {m : Nat} {h : HM} (o : HGood ks m h) : ∀ x ∈ h.nudged ks, x.okIn ks m := fun x hx => by
  obtain ⟨k, hk, e⟩ := List.mem_filterMap.mp hx
  split at e
  · cases e; exact ⟨other01 o.num, hk, o.mk2 k⟩
  · cases e
/-- a world within bounds -/
structure WInv (p l : Nat) (ks : List Str) (w : WM) : Prop where
  c6 : w.cs.length ≤ 6
  k6 : ks.length ≤ 6
  n0 : w.h0.num = 0
  n1 : w.h1.num = 1
  g0 : HGood ks w.cs.length w.h0
  g1 : HGood ks w.cs.length w.h1
  post : ∀ x ∈ w.post, x.okIn ks w.cs.length
  num : ∀ j, j < w.cs.length → (w.cm j).num = j
  ask : ∀ j a, (w.cm j).asked = some a → a.2.1 ∈ ks
  pot : w.post.length + w.h0.laid.length + w.h1.laid.length ≤ p
  led : w.ledger.length + w.h0.fresh.length + w.h1.fresh.length ≤ l
  cl : ∀ j, (w.cm j).closed.length ≤ l
section
variable {p l m : Nat} {ks : List Str} {w : WM} {b : WB}
theorem WInv.up (o : WInv p l ks w) {p' l' : Nat} (h1 : p ≤ p') (h2 : l ≤ l') : WInv p' l' ks w :=
  ⟨o.c6, o.k6, o.n0, o.n1, o.g0, o.g1, o.post, o.num, o.ask, Nat.le_trans o.pot h1, Nat.le_trans o.led h2, fun j => Nat.le_trans (o.cl j) h2⟩
theorem WInv.bd (o : WInv p l ks w) (h : b.ca.length = w.cs.length) : WBd (p + l) b ks w := by
  have h1 := o.pot
  have h2 := o.led
  exact ⟨h, o.g0.ok (by omega) (by omega), o.g1.ok (by omega) (by omega), by omega, by omega, fun j => by have := o.cl j; omega⟩
theorem WInv.call (o : WInv p l ks w) {j : Nat} {i : Int} {k : Str} {wi : Wish} (hj : j < w.cs.length) (hi : i = 0 ∨ i = 1) (hk : k ∈ ks) : WInv (p + 1) l ks (w.call j i k wi) := by
  have hc : ∀ t, (w.call j i k wi).cm t = if t = j then (w.cm j).begin k wi else w.cm t := fun t => WM.cm_set (w := w) hj
  have hl : (w.call j i k wi).cs.length = w.cs.length := by simp [WM.call]
  have h1 := o.pot
  have h2 := o.led
  refine ⟨by rw [hl]; exact o.c6, o.k6, o.n0, o.n1, by rw [hl]; exact o.g0, by rw [hl]; exact o.g1, ?_, ?_, ?_, ?_, o.led, ?_⟩
  · rw [hl]; exact okIn_app o.post ⟨hi, by rw [o.num j hj]; omega, hk⟩
  · intro t ht
    rw [hl] at ht
    rw [hc]; split
    · rename_i e; subst e; exact o.num t hj
    · exact o.num t ht
  · intro t a ht
    rw [hc] at ht; split at ht
    · cases ht; exact hk
    · exact o.ask t a ht
  · show (w.post ++ [_]).length + w.h0.laid.length + w.h1.laid.length ≤ p + 1
    simp; omega
  · intro t
    rw [hc]; split
    · exact o.cl j
    · exact o.cl t
theorem WInv.posted (o : WInv p l ks w) {xs : List Letter} (hx : ∀ x ∈ xs, x.okIn ks w.cs.length) : WInv (p + xs.length) l ks { w with post := w.post ++ xs } := by
  have h1 := o.pot
  refine ⟨o.c6, o.k6, o.n0, o.n1, o.g0, o.g1, ?_, o.num, o.ask, ?_, o.led, o.cl⟩
  · intro x hx'
    rcases List.mem_append.mp hx' with h | h
    · exact o.post x h
    · exact hx x h
  · show (w.post ++ xs).length + w.h0.laid.length + w.h1.laid.length ≤ p + xs.length
    simp; omega
theorem again_eq {w : WM} {j : Nat} {i : Int} {a : Ask} (ha : (w.cm j).asked = some a) : w.again j i = { w with post := w.post ++ [askL i (w.cm j).num a] } := by simp [WM.again, ha]
theorem WInv.again (o : WInv p l ks w) {j : Nat} {i : Int} {a : Ask} (hj : j < w.cs.length) (hi : i = 0 ∨ i = 1) (ha : (w.cm j).asked = some a) : WInv (p + 1) l ks (w.again j i) := by
  rw [again_eq ha]
  refine o.posted (xs := [askL i (w.cm j).num a]) fun x hx => ?_
  rw [List.mem_singleton.mp hx, o.num j hj]
  exact ⟨hi, by omega, o.ask j a ha⟩
theorem WInv.lose (o : WInv p l ks w) (j : Nat) : WInv p l ks (w.lose j) := by
  have h1 := o.pot
  have := List.length_eraseIdx_le w.post j
  exact ⟨o.c6, o.k6, o.n0, o.n1, o.g0, o.g1, fun x hx => o.post x (List.mem_of_mem_eraseIdx hx), o.num, o.ask, by show (w.post.eraseIdx j).length + w.h0.laid.length + w.h1.laid.length ≤ _; omega, o.led, o.cl⟩
theorem WInv.lose1 (o : WInv (p + 1) l ks w) {j : Nat} {x : Letter} (hj : w.post[j]? = some x) : WInv p l ks (w.lose j) := by
  have h1 := o.pot
  have h3 := (List.getElem?_eq_some_iff.mp hj).1
  have : (w.post.eraseIdx j).length = w.post.length - 1 := by rw [List.length_eraseIdx, if_pos h3]
  exact ⟨o.c6, o.k6, o.n0, o.n1, o.g0, o.g1, fun x hx => o.post x (List.mem_of_mem_eraseIdx hx), o.num, o.ask, by show (w.post.eraseIdx j).length + w.h0.laid.length + w.h1.laid.length ≤ _; omega, o.led, o.cl⟩
theorem WInv.hs (o : WInv p l ks w) (i : Int) : HGood ks w.cs.length (w.hs i) := by
  unfold WM.hs; split
  · exact o.g0
  · exact o.g1
/-- a house is changed -/
theorem WInv.setH (o : WInv p l ks w) {i : Int} {h : HM} (hi : i = 0 ∨ i = 1) (hg : HGood ks w.cs.length h) (hn : h.num = (w.hs i).num) {p' l' : Nat} (h1 : h.laid.length ≤ (w.hs i).laid.length + p') (h2 : h.fresh.length ≤ (w.hs i).fresh.length + l') : WInv (p + p') (l + l') ks (w.setH i h) := by
  have a1 := o.pot
  have a2 := o.led
  rcases hi with e | e <;> subst e
  · have h1 : h.laid.length ≤ w.h0.laid.length + p' := h1
    have h2 : h.fresh.length ≤ w.h0.fresh.length + l' := h2
    exact ⟨o.c6, o.k6, hn.trans o.n0, o.n1, hg, o.g1, o.post, o.num, o.ask, by show w.post.length + h.laid.length + w.h1.laid.length ≤ _; omega, by show w.ledger.length + h.fresh.length + w.h1.fresh.length ≤ _; omega, fun j => Nat.le_trans (o.cl j) (by omega)⟩
  · have h1 : h.laid.length ≤ w.h1.laid.length + p' := h1
    have h2 : h.fresh.length ≤ w.h1.fresh.length + l' := h2
    exact ⟨o.c6, o.k6, o.n0, hn.trans o.n1, o.g0, hg, o.post, o.num, o.ask, by show w.post.length + w.h0.laid.length + h.laid.length ≤ _; omega, by show w.ledger.length + w.h0.fresh.length + h.fresh.length ≤ _; omega, fun j => Nat.le_trans (o.cl j) (by omega)⟩
theorem came_closed {c : CM} {n t : Int} : (c.came n t).closed.length ≤ c.closed.length + 1 := by
  unfold CM.came; split
  · split
    · simp
    · omega
  · omega
theorem came_asked {c : CM} {n t : Int} {a : Ask} (h : (c.came n t).asked = some a) : c.asked = some a := by
  unfold CM.came at h; split at h
  · split at h
    · cases h
    · exact h
  · exact h
theorem came_num {c : CM} {n t : Int} : (c.came n t).num = c.num := by
  unfold CM.came; split
  · split <;> rfl
  · rfl
theorem WInv.brought (o : WInv p l ks w) {x : Letter} (hx : x.okIn ks w.cs.length) : WInv (p + 1) (l + 1) ks (w.brought x) := by
  have house : ∀ i, (i = 0 ∨ i = 1) → w.brought x = w.setH i ((w.hs i).came x) → WInv (p + 1) (l + 1) ks (w.brought x) := by
    intro i hi e
    obtain ⟨a, b, c, d⟩ := (o.hs i).came o.c6 hx
    rw [e]; exact o.setH hi a d b c
  cases x with
  | answer c n t =>
    have hx : 0 ≤ c ∧ c < (w.cs.length : Int) := hx
    have hj : c.toNat < w.cs.length := by omega
    have hc : ∀ i, (w.brought (.answer c n t)).cm i = if i = c.toNat then (w.cm c.toNat).came n t else w.cm i := fun i => WM.cm_set (w := w) hj
    have hl : (w.brought (.answer c n t)).cs.length = w.cs.length := by simp [WM.brought]
    have a1 := o.pot
    have a2 := o.led
    refine ⟨by rw [hl]; exact o.c6, o.k6, o.n0, o.n1, by rw [hl]; exact o.g0, by rw [hl]; exact o.g1, by rw [hl]; exact o.post, ?_, ?_, Nat.le_trans o.pot (by omega), Nat.le_trans o.led (by omega), ?_⟩
    · intro i hi
      rw [hl] at hi
      rw [hc]; split
      · rename_i e; subst e; rw [came_num]; exact o.num _ hj
      · exact o.num i hi
    · intro i a ha
      rw [hc] at ha; split at ha
      · exact o.ask _ a (came_asked ha)
      · exact o.ask i a ha
    · intro i
      rw [hc]; split
      · have := came_closed (c := w.cm c.toNat) (n := n) (t := t)
        have := o.cl c.toNat
        omega
      · have := o.cl i; omega
  | call i c k' k wi => exact house i hx.1 rfl
  | parcel i k tn am ms => exact house i hx.1 rfl
  | taken i k tn => exact house i hx.1 rfl
theorem WInv.sleep (o : WInv p l ks w) {i : Int} (hi : i = 0 ∨ i = 1) : WInv p l ks (w.sleep i) :=
  o.setH hi (p' := 0) (l' := 0) (o.hs i).slept rfl (by simp [HM.slept]) (by simp [HM.slept])
theorem WInv.move (o : WInv p l ks w) {k : Str} (hk : k ∈ ks) : WInv (p + 1) l ks (w.move k) := by
  unfold WM.move; split
  · exact o.setH (i := 0) (p' := 1) (l' := 0) (.inl rfl) (o.g0.moved hk) rfl (by simp [HM.moved, WM.hs]) (by simp [HM.moved, WM.hs])
  · exact o.setH (i := 1) (p' := 1) (l' := 0) (.inr rfl) (o.g1.moved hk) rfl (by simp [HM.moved, WM.hs]) (by simp [HM.moved, WM.hs])
theorem nudged_len {h : HM} {ks : List Str} : (h.nudged ks).length ≤ ks.length := List.length_filterMap_le _ _
theorem WInv.nudge (o : WInv p l ks w) (i : Int) : WInv (p + 6) l ks (w.nudge ks i) := by
  have := o.posted (xs := (w.hs i).nudged ks) (o.hs i).nudged
  exact this.up (by have := nudged_len (h := w.hs i) (ks := ks); have := o.k6; omega) (by omega)
theorem WInv.write (o : WInv p l ks w) {i : Int} (hi : i = 0 ∨ i = 1) : WInv p l ks (w.write i) := by
  have a1 := o.pot
  have a2 := o.led
  have a3 := (o.hs i).laid
  have app : ∀ (l1 l2 : List Letter), (∀ x ∈ l1, x.okIn ks w.cs.length) → (∀ x ∈ l2, x.okIn ks w.cs.length) → ∀ x ∈ l1 ++ l2, x.okIn ks w.cs.length := by
    intro l1 l2 h1 h2 x hx
    rcases List.mem_append.mp hx with h | h
    · exact h1 x h
    · exact h2 x h
  rcases hi with e | e <;> subst e
  · refine ⟨o.c6, o.k6, o.n0, o.n1, o.g0.wrote, o.g1, app _ _ o.post a3, o.num, o.ask, ?_, ?_, o.cl⟩
    · show (w.post ++ w.h0.laid).length + 0 + w.h1.laid.length ≤ p
      simp; omega
    · show (w.ledger ++ w.h0.fresh).length + 0 + w.h1.fresh.length ≤ l
      simp; omega
  · refine ⟨o.c6, o.k6, o.n0, o.n1, o.g0, o.g1.wrote, app _ _ o.post a3, o.num, o.ask, ?_, ?_, o.cl⟩
    · show (w.post ++ w.h1.laid).length + w.h0.laid.length + 0 ≤ p
      simp; omega
    · show (w.ledger ++ w.h1.fresh).length + w.h0.fresh.length + 0 ≤ l
      simp; omega
theorem brought_cs {x : Letter} : (w.brought x).cs.length = w.cs.length := by
  cases x <;> simp [WM.brought, setH_cs]
theorem WInv.step (o : WInv p l ks w) {w' : WM} {r : Option Call} (h : Step ks w w' r) : WInv (p + 6) (l + 1) ks w' := by
  cases h with
  | idle => exact o.up (by omega) (by omega)
  | call h1 h2 h3 h4 h5 => exact (o.call h1 h2 h3).up (by omega) (by omega)
  | again h1 h2 h3 => exact (o.again h1 h2 h3).up (by omega) (by omega)
  | @hand j x h1 => exact ((o.lose j).brought (o.post x (List.mem_of_getElem? h1))).up (by omega) (by omega)
  | @twice j x h1 => exact (o.brought (o.post x (List.mem_of_getElem? h1))).up (by omega) (by omega)
  | @lose j x h1 => exact (o.lose j).up (by omega) (by omega)
  | move h1 _ => exact (o.move h1).up (by omega) (by omega)
  | sleep h1 => exact (o.sleep h1).up (by omega) (by omega)
  | @nudge i h1 => exact (o.nudge i).up (by omega) (by omega)
  | write h1 => exact (o.write h1).up (by omega) (by omega)
theorem move_cs {k : Str} : (w.move k).cs = w.cs := by unfold WM.move; split <;> rfl
theorem Step.cs {w' : WM} {r : Option Call} (h : Step ks w w' r) : w'.cs.length = w.cs.length := by
  cases h with
  | idle => rfl
  | call => simp [WM.call]
  | again _ _ h => rw [again_eq h]
  | @hand j x _ => exact brought_cs
  | twice => exact brought_cs
  | lose => rfl
  | move => rw [move_cs]
  | sleep => simp [WM.sleep, setH_cs]
  | nudge => rfl
  | write => simp [WM.write, setH_cs]
theorem WInv.new {c : Nat} (hc : c ≤ 6) (hk : ks.length ≤ 6) : WInv 0 0 ks (.new c) := by
  have hj : ∀ j, j < c → (WM.new c).cm j = .new j := fun j hj => by simp [WM.new, WM.cm, newCallers, List.getD_eq_getElem?_getD, hj]
  have hj2 : ∀ j, ¬ j < c → (WM.new c).cm j = .new 0 := fun j hj => by simp [WM.new, WM.cm, newCallers, List.getD_eq_getElem?_getD, hj]
  have hl : (WM.new c).cs.length = c := by simp [WM.new, newCallers]
  have hm : ∀ n : Int, ∀ k : Str, MarksOk (Row.first n).marks := fun n _ => by unfold Row.first; split <;> exact .nil
  refine ⟨by rw [hl]; exact hc, hk, rfl, rfl, ⟨.inl rfl, hm 0, hm 0, by simp [WM.new, HM.new]⟩, ⟨.inr rfl, hm 1, hm 1, by simp [WM.new, HM.new]⟩, by simp [WM.new], ?_, ?_, by simp [WM.new, HM.new], by simp [WM.new, HM.new], ?_⟩
  · intro j h
    rw [hj j (by rw [hl] at h; exact h)]; rfl
  · intro j a h
    by_cases e : j < c
    · rw [hj j e] at h; cases h
    · rw [hj2 j e] at h; cases h
  · intro j
    by_cases e : j < c
    · rw [hj j e]; simp [CM.new]
    · rw [hj2 j e]; simp [CM.new]
end
end MH
set_option Elab.async false
set_option linter.all false
set_option maxRecDepth 100000
/-! What two houses keep of a key: where it is, and what stands in the ledger. -/
namespace MH
open PySem L2
def rk (k : Str) (l : List LR) : List LR := l.filter fun r => decide (r.k = k)
theorem rk_app {k : Str} {a b : List LR} : rk k (a ++ b) = rk k a ++ rk k b := by simp [rk]
@[simp] theorem rk_nil {k : Str} : rk k [] = [] := rfl
theorem rk_one {k : Str} {r : LR} (h : r.k = k) : rk k [r] = [r] := by simp [rk, h]
theorem rk_off {k : Str} {r : LR} (h : r.k ≠ k) : rk k [r] = [] := by simp [rk, h]
/-- the amount behind rows, done one by one -/
def pAmt (l : List LR) : Int := l.foldl (fun a r => (doneW a r.w).1) 0
def pLast (c : Int) (l : List LR) : Int × Int := l.foldl (fun x r => if r.c = c then (r.n, r.t) else x) (0, 0)
theorem pAmt_snoc {l : List LR} {r : LR} : pAmt (l ++ [r]) = (doneW (pAmt l) r.w).1 := by simp [pAmt]
theorem pLast_snoc {c : Int} {l : List LR} {r : LR} : pLast c (l ++ [r]) = if r.c = c then (r.n, r.t) else pLast c l := by simp [pLast]
def RowOk (l : List LR) (r : Row) : Prop := r.amt = pAmt l ∧ ∀ c, markOf r.marks c = pLast c l
inductive TellOk : List LR → Prop
  | nil : TellOk []
  | snoc {l : List LR} {r : LR} : TellOk l → r.t = (doneW (pAmt l) r.w).2 → (pLast r.c l).1 < r.n → TellOk (l ++ [r])
/-- house L is ahead with key k, house M behind -/
structure Lead (k : Str) (L M : HM) (post : List Letter) (led : List LR) (t : Int) : Prop where
  num : M.num = 1 - L.num
  lw : (L.written k).turn = t
  mw : (M.written k).turn = t - 1
  lws : (L.written k).st ≠ .gone
  mws : (M.written k).st ≠ .here
  lk : (L.known k).turn = t
  lks : (L.known k).st ≠ .gone
  lo : (L.written k).st = .owed → L.known k = L.written k ∧ rk k L.fresh = []
  ms : ((M.known k).turn = t - 1 ∧ (M.known k).st ≠ .here ∧ rk k M.fresh = []) ∨
    ((M.known k).turn = t + 1 ∧ (M.known k).st ≠ .gone ∧ (L.written k).st = .owed ∧ RowOk (rk k led ++ rk k M.fresh) (M.known k) ∧ TellOk (rk k led ++ rk k M.fresh))
  dw : RowOk (rk k led) (L.written k)
  dk : RowOk (rk k led ++ rk k L.fresh) (L.known k)
  tw : TellOk (rk k led)
  tk : TellOk (rk k led ++ rk k L.fresh)
  pL : ∀ u a m, Letter.parcel L.num k u a m ∈ post → u ≤ t
  pM : ∀ u a m, Letter.parcel M.num k u a m ∈ post → u ≤ t - 1 ∨ (u = t + 1 ∧ (L.written k).st = .owed ∧ a = (L.written k).amt ∧ m = (L.written k).marks)
  tL : ∀ u, Letter.taken L.num k u ∈ post → u ≤ t - 1
  tM : ∀ u, Letter.taken M.num k u ∈ post → u ≤ t
  lp : ∀ i u a m, Letter.parcel i k u a m ∈ L.laid → i = M.num ∧ (u ≤ t - 1 ∨ (u = t + 1 ∧ (L.known k).st = .owed ∧ a = (L.known k).amt ∧ m = (L.known k).marks))
  lt : ∀ i u, Letter.taken i k u ∈ L.laid → i = M.num ∧ u ≤ t
  mp : ∀ i u a m, Letter.parcel i k u a m ∈ M.laid → i = L.num ∧ (u ≤ t ∨ (u = t + 2 ∧ (M.known k).turn = t + 1 ∧ (M.known k).st = .owed ∧ a = (M.known k).amt ∧ m = (M.known k).marks))
  mt : ∀ i u, Letter.taken i k u ∈ M.laid → i = L.num ∧ (u ≤ t - 1 ∨ (u = t + 1 ∧ (M.known k).turn = t + 1))
section
variable {k : Str} {L M : HM} {post : List Letter} {led : List LR} {t : Int}
theorem Lead.sub (h : Lead k L M post led t) {p' : List Letter} (hs : ∀ x ∈ p', x ∈ post) : Lead k L M p' led t :=
  { h with
    pL := fun u a m hx => h.pL u a m (hs _ hx)
    pM := fun u a m hx => h.pM u a m (hs _ hx)
    tL := fun u hx => h.tL u (hs _ hx)
    tM := fun u hx => h.tM u (hs _ hx) }
theorem memA {x y : Letter} {l : List Letter} (h : x ∈ l ++ [y]) : x ∈ l ∨ x = y := by simpa using h
/-- letters that tell nothing of where the key is -/
def Letter.idle (k : Str) : Letter → Prop
  | .parcel _ k' _ _ _ => k' ≠ k
  | .taken _ k' _ => k' ≠ k
  | _ => True
theorem idle_p {k : Str} {i u a : Int} {m : List J3} (h : (Letter.parcel i k u a m).idle k) : False := h rfl
theorem idle_t {k : Str} {i u : Int} (h : (Letter.taken i k u).idle k) : False := h rfl
/-- a house's part that tells of k stays -/
theorem Lead.sameL (h : Lead k L M post led t) {L' : HM} (hn : L'.num = L.num) (h1 : L'.known k = L.known k) (h2 : L'.written k = L.written k) (h3 : rk k L'.fresh = rk k L.fresh) (h4 : ∀ x ∈ L'.laid, x ∈ L.laid ∨ x.idle k) : Lead k L' M post led t := by
  refine ⟨by rw [hn]; exact h.num, by rw [h2]; exact h.lw, h.mw, by rw [h2]; exact h.lws, h.mws, by rw [h1]; exact h.lk, by rw [h1]; exact h.lks, by rw [h1, h2, h3]; exact h.lo, by rw [h2]; exact h.ms,
    by rw [h2]; exact h.dw, by rw [h3, h1]; exact h.dk, h.tw, by rw [h3]; exact h.tk, by rw [hn]; exact h.pL, by rw [h2]; exact h.pM, by rw [hn]; exact h.tL, h.tM, ?_, ?_, by rw [hn]; exact h.mp, by rw [hn]; exact h.mt⟩
  · intro i u a m hx
    rw [h1]
    rcases h4 _ hx with hx | hx
    · exact h.lp i u a m hx
    · exact (idle_p hx).elim
  · intro i u hx
    rcases h4 _ hx with hx | hx
    · exact h.lt i u hx
    · exact (idle_t hx).elim
theorem Lead.sameM (h : Lead k L M post led t) {M' : HM} (hn : M'.num = M.num) (h1 : M'.known k = M.known k) (h2 : M'.written k = M.written k) (h3 : rk k M'.fresh = rk k M.fresh) (h4 : ∀ x ∈ M'.laid, x ∈ M.laid ∨ x.idle k) : Lead k L M' post led t := by
  refine ⟨by rw [hn]; exact h.num, h.lw, by rw [h2]; exact h.mw, h.lws, by rw [h2]; exact h.mws, h.lk, h.lks, h.lo, by rw [h1, h3]; exact h.ms,
    h.dw, h.dk, h.tw, h.tk, h.pL, by rw [hn]; exact h.pM, h.tL, by rw [hn]; exact h.tM, by rw [hn]; exact h.lp, by rw [hn]; exact h.lt, ?_, ?_⟩
  · intro i u a m hx
    rw [h1]
    rcases h4 _ hx with hx | hx
    · exact h.mp i u a m hx
    · exact (idle_p hx).elim
  · intro i u hx
    rw [h1]
    rcases h4 _ hx with hx | hx
    · exact h.mt i u hx
    · exact (idle_t hx).elim
theorem mem_idle {l : List Letter} {y : Letter} (hy : y.idle k) : ∀ x ∈ l ++ [y], x ∈ l ∨ x.idle k := fun x hx => by
  rcases memA hx with h | h
  · exact .inl h
  · rw [h]; exact .inr hy
theorem RowOk.call {rows : List LR} {r : Row} (h : RowOk rows r) (hm : MarksOk r.marks) {c n : Int} {k : Str} {wi : Wish} (hc : 0 ≤ c ∧ c < 6) (tn : Int) (st : St) :
    RowOk (rows ++ [⟨c, n, k, wi, (doneW r.amt wi).2⟩]) ⟨tn, st, (doneW r.amt wi).1, markedM r.marks c n (doneW r.amt wi).2⟩ := by
  refine ⟨by rw [pAmt_snoc, ← h.1], fun d => ?_⟩
  rw [pLast_snoc, markOf_marked hm hc, h.2 d]
  by_cases e : d = c
  · subst e; simp
  · simp [e, Ne.symm e]
theorem Lead.calledL (h : Lead k L M post led t) (hm : MarksOk (L.known k).marks) {c n : Int} {k' : Str} {wi : Wish} (hc : 0 ≤ c ∧ c < 6) : Lead k (L.called c n k' wi) M post led t := by
  unfold HM.called
  split
  · exact h
  · rename_i hno
    have hno := not_or.mp hno
    have hh : (L.known k').st = .here := Classical.not_not.mp hno.1
    split
    · rename_i hlt
      by_cases e : k' = k
      · subst e
        have hw : (L.written k').st ≠ .owed := fun e => by rw [(h.lo e).1, e] at hh; cases hh
        have hlast := h.dk.2 c
        refine { h with lk := ?_, lks := ?_, lo := fun e => absurd e hw, dk := ?_, tk := ?_, lp := ?_, lt := ?_ }
        · simp [fset]; exact h.lk
        · simp [fset]
        · show RowOk (rk k' led ++ rk k' (L.fresh ++ [_])) (fset L.known k' _ k')
          rw [rk_app, rk_one (by rfl), ← List.append_assoc]
          simp only [fset, if_pos]
          exact h.dk.call hm hc _ _
        · show TellOk (rk k' led ++ rk k' (L.fresh ++ [_]))
          rw [rk_app, rk_one (by rfl), ← List.append_assoc]
          refine h.tk.snoc (by rw [← h.dk.1]) ?_
          show (pLast c _).1 < n
          rw [← hlast]; exact hlt
        · intro i u a m hx
          rcases memA hx with hx | hx
          · have := h.lp i u a m hx
            refine ⟨this.1, .inl ?_⟩
            rcases this.2 with h2 | h2
            · exact h2
            · rw [hh] at h2; cases h2.2.1
          · cases hx
        · intro i u hx
          rcases memA hx with hx | hx
          · exact h.lt i u hx
          · cases hx
      · refine h.sameL rfl ?_ rfl ?_ (mem_idle (by trivial))
        · simp [fset, Ne.symm e]
        · rw [rk_app, rk_off (by exact e), List.append_nil]
    · exact h.sameL rfl rfl rfl rfl (mem_idle (by trivial))
theorem Lead.calledM (h : Lead k L M post led t) (hm : MarksOk (M.known k).marks) {c n : Int} {k' : Str} {wi : Wish} (hc : 0 ≤ c ∧ c < 6) : Lead k L (M.called c n k' wi) post led t := by
  unfold HM.called
  split
  · exact h
  · rename_i hno
    have hno := not_or.mp hno
    have hh : (M.known k').st = .here := Classical.not_not.mp hno.1
    split
    · rename_i hlt
      by_cases e : k' = k
      · subst e
        rcases h.ms with h1 | ⟨h1, h2, h3, h4, h5⟩
        · exact absurd hh h1.2.1
        have hlast := h4.2 c
        refine { h with ms := .inr ⟨?_, ?_, h3, ?_, ?_⟩, mp := ?_, mt := ?_ }
        · simp [fset]; exact h1
        · simp [fset]
        · show RowOk (rk k' led ++ rk k' (M.fresh ++ [_])) (fset M.known k' _ k')
          rw [rk_app, rk_one (by rfl), ← List.append_assoc]
          simp only [fset, if_pos]
          exact h4.call hm hc _ _
        · show TellOk (rk k' led ++ rk k' (M.fresh ++ [_]))
          rw [rk_app, rk_one (by rfl), ← List.append_assoc]
          refine h5.snoc (by rw [← h4.1]) ?_
          show (pLast c _).1 < n
          rw [← hlast]; exact hlt
        · intro i u a m hx
          rcases memA hx with hx | hx
          · have := h.mp i u a m hx
            refine ⟨this.1, .inl ?_⟩
            rcases this.2 with h2 | h2
            · exact h2
            · rw [hh] at h2; cases h2.2.2.1
          · cases hx
        · intro i u hx
          rcases memA hx with hx | hx
          · have := h.mt i u hx
            refine ⟨this.1, ?_⟩
            simp only [fset, if_pos]
            exact this.2
          · cases hx
      · refine h.sameM rfl ?_ rfl ?_ (mem_idle (by trivial))
        · simp [fset, Ne.symm e]
        · rw [rk_app, rk_off (by exact e), List.append_nil]
    · exact h.sameM rfl rfl rfl rfl (mem_idle (by trivial))
theorem Lead.gotParcelL (h : Lead k L M post led t) {k' : Str} {u a : Int} {m : List J3} (hx : Letter.parcel L.num k' u a m ∈ post) : Lead k (L.gotParcel k' u a m) M post led t := by
  unfold HM.gotParcel
  by_cases e : k' = k
  · subst e
    have hu := h.pL u a m hx
    rw [if_neg (by have := h.lk; omega)]
    refine { h with lp := ?_, lt := ?_ }
    · intro i u' a' m' hx'
      rcases memA hx' with hx' | hx'
      · exact h.lp i u' a' m' hx'
      · cases hx'
    · intro i u' hx'
      rcases memA hx' with hx' | hx'
      · exact h.lt i u' hx'
      · cases hx'
        exact ⟨h.num.symm, hu⟩
  · refine h.sameL rfl ?_ rfl rfl (mem_idle (by exact e))
    show (if u > (L.known k').turn then fset L.known k' ⟨u, .here, a, m⟩ else L.known) k = _
    split
    · simp [fset, Ne.symm e]
    · rfl
theorem Lead.gotParcelM (h : Lead k L M post led t) {k' : Str} {u a : Int} {m : List J3} (hx : Letter.parcel M.num k' u a m ∈ post) : Lead k L (M.gotParcel k' u a m) post led t := by
  have hn := h.num
  unfold HM.gotParcel
  by_cases e : k' = k
  · subst e
    rcases h.pM u a m hx with hu | ⟨hu, h1, h2, h3⟩
    · have : ¬ u > (M.known k').turn := by rcases h.ms with h | h <;> omega
      rw [if_neg this]
      refine { h with mp := ?_, mt := ?_ }
      · intro i u' a' m' hx'
        rcases memA hx' with hx' | hx'
        · exact h.mp i u' a' m' hx'
        · cases hx'
      · intro i u' hx'
        rcases memA hx' with hx' | hx'
        · exact h.mt i u' hx'
        · cases hx'
          exact ⟨by omega, .inl hu⟩
    · rcases h.ms with ⟨h4, h5, h6⟩ | h4
      · rw [if_pos (by omega)]
        refine { h with ms := .inr ⟨?_, ?_, h1, ?_, ?_⟩, mp := ?_, mt := ?_ }
        · simp [fset]; exact hu
        · simp [fset]
        · show RowOk (rk k' led ++ rk k' M.fresh) (fset M.known k' _ k')
          rw [h6, List.append_nil]
          simp only [fset, if_pos]
          exact ⟨h2.trans h.dw.1, fun c => by rw [h3]; exact h.dw.2 c⟩
        · show TellOk (rk k' led ++ rk k' M.fresh)
          rw [h6, List.append_nil]; exact h.tw
        · intro i u' a' m' hx'
          rcases memA hx' with hx' | hx'
          · have := h.mp i u' a' m' hx'
            refine ⟨this.1, .inl ?_⟩
            rcases this.2 with h7 | h7
            · exact h7
            · omega
          · cases hx'
        · intro i u' hx'
          have et : (fset M.known k' ⟨u, .here, a, m⟩ k').turn = t + 1 := by simp [fset]; exact hu
          rcases memA hx' with hx' | hx'
          · have := h.mt i u' hx'
            refine ⟨this.1, ?_⟩
            rcases this.2 with h7 | h7
            · exact .inl h7
            · omega
          · cases hx'
            exact ⟨by omega, .inr ⟨hu, et⟩⟩
      · rw [if_neg (by omega)]
        refine { h with mp := ?_, mt := ?_ }
        · intro i u' a' m' hx'
          rcases memA hx' with hx' | hx'
          · exact h.mp i u' a' m' hx'
          · cases hx'
        · intro i u' hx'
          rcases memA hx' with hx' | hx'
          · exact h.mt i u' hx'
          · cases hx'
            exact ⟨by omega, .inr ⟨hu, h4.1⟩⟩
  · refine h.sameM rfl ?_ rfl rfl (mem_idle (by exact e))
    show (if u > (M.known k').turn then fset M.known k' ⟨u, .here, a, m⟩ else M.known) k = _
    split
    · simp [fset, Ne.symm e]
    · rfl
theorem Lead.gotTakenL (h : Lead k L M post led t) {k' : Str} {u : Int} (hx : Letter.taken L.num k' u ∈ post) : Lead k (L.gotTaken k' u) M post led t := by
  unfold HM.gotTaken
  split
  · rename_i hc
    by_cases e : k' = k
    · subst e
      have := h.tL u hx
      have := h.lk
      omega
    · exact h.sameL rfl (by simp [fset, Ne.symm e]) rfl rfl fun x hx => .inl hx
  · exact h
theorem Lead.gotTakenM (h : Lead k L M post led t) {k' : Str} {u : Int} (hx : Letter.taken M.num k' u ∈ post) : Lead k L (M.gotTaken k' u) post led t := by
  unfold HM.gotTaken
  split
  · rename_i hc
    by_cases e : k' = k
    · subst e
      have hu := h.tM u hx
      rcases h.ms with ⟨h4, h5, h6⟩ | h4
      · refine { h with ms := .inl ⟨?_, ?_, h6⟩, mp := ?_, mt := ?_ }
        · simp [fset]; exact h4
        · simp [fset]
        · intro i u' a' m' hx'
          have := h.mp i u' a' m' hx'
          refine ⟨this.1, .inl ?_⟩
          rcases this.2 with h7 | h7
          · exact h7
          · omega
        · intro i u' hx'
          have := h.mt i u' hx'
          refine ⟨this.1, .inl ?_⟩
          rcases this.2 with h7 | h7
          · exact h7
          · omega
      · omega
    · exact h.sameM rfl (by simp [fset, Ne.symm e]) rfl rfl fun x hx => .inl hx
  · exact h
theorem Lead.movedL (h : Lead k L M post led t) {k' : Str} (hh : (L.known k').st = .here) : Lead k (L.moved k') M post led t := by
  have hn := h.num
  unfold HM.moved HM.parcelOf
  by_cases e : k' = k
  · subst e
    have hw : (L.written k').st ≠ .owed := fun e => by rw [(h.lo e).1, e] at hh; cases hh
    have hlk := h.lk
    refine { h with lk := ?_, lks := ?_, lo := fun e => absurd e hw, dk := ?_, lp := ?_, lt := ?_ }
    · simp [fset]; exact h.lk
    · simp [fset]
    · show RowOk _ (fset L.known k' _ k')
      simp only [fset, if_pos]
      exact h.dk
    · intro i u a m hx
      rcases memA hx with hx | hx
      · have := h.lp i u a m hx
        refine ⟨this.1, .inl ?_⟩
        rcases this.2 with h2 | h2
        · exact h2
        · rw [hh] at h2; cases h2.2.1
      · cases hx
        refine ⟨hn.symm, .inr ⟨by omega, ?_, ?_, ?_⟩⟩ <;> simp [fset]
    · intro i u hx
      rcases memA hx with hx | hx
      · exact h.lt i u hx
      · cases hx
  · exact h.sameL rfl (by simp [fset, Ne.symm e]) rfl rfl (mem_idle (by exact e))
theorem Lead.movedM (h : Lead k L M post led t) {k' : Str} (hh : (M.known k').st = .here) : Lead k L (M.moved k') post led t := by
  have hn := h.num
  unfold HM.moved HM.parcelOf
  by_cases e : k' = k
  · subst e
    rcases h.ms with h1 | ⟨h1, h2, h3, h4, h5⟩
    · exact absurd hh h1.2.1
    refine { h with ms := .inr ⟨?_, ?_, h3, ?_, h5⟩, mp := ?_, mt := ?_ }
    · simp [fset]; exact h1
    · simp [fset]
    · show RowOk _ (fset M.known k' _ k')
      simp only [fset, if_pos]
      exact h4
    · intro i u a m hx
      rcases memA hx with hx | hx
      · have := h.mp i u a m hx
        refine ⟨this.1, .inl ?_⟩
        rcases this.2 with h2 | h2
        · exact h2
        · rw [hh] at h2; cases h2.2.2.1
      · cases hx
        refine ⟨by omega, .inr ⟨by omega, ?_, ?_, ?_, ?_⟩⟩ <;> simp [fset]
        exact h1
    · intro i u hx
      rcases memA hx with hx | hx
      · have := h.mt i u hx
        refine ⟨this.1, ?_⟩
        simp only [fset, if_pos]
        exact this.2
      · cases hx
  · exact h.sameM rfl (by simp [fset, Ne.symm e]) rfl rfl (mem_idle (by exact e))
theorem Lead.sleptL (h : Lead k L M post led t) : Lead k L.slept M post led t := by
  unfold HM.slept
  refine { h with lk := h.lw, lks := h.lws, lo := fun _ => ⟨rfl, rfl⟩, dk := ?_, tk := ?_, lp := ?_, lt := ?_ }
  · rw [rk_nil, List.append_nil]; exact h.dw
  · rw [rk_nil, List.append_nil]; exact h.tw
  · intro i u a m hx; cases hx
  · intro i u hx; cases hx
theorem Lead.sleptM (h : Lead k L M post led t) : Lead k L M.slept post led t := by
  unfold HM.slept
  refine { h with ms := .inl ⟨h.mw, h.mws, rfl⟩, mp := ?_, mt := ?_ }
  · intro i u a m hx; cases hx
  · intro i u hx; cases hx
theorem Lead.wroteL (h : Lead k L M post led t) : Lead k L.wrote M (post ++ L.laid) (led ++ L.fresh) t := by
  have hn := h.num
  have keep : (L.written k).st = .owed → rk k (led ++ L.fresh) = rk k led ∧ L.known k = L.written k := fun e => by
    rw [rk_app, (h.lo e).2, List.append_nil]; exact ⟨rfl, (h.lo e).1⟩
  unfold HM.wrote
  refine ⟨h.num, h.lk, h.mw, h.lks, h.mws, h.lk, h.lks, fun _ => ⟨rfl, rfl⟩, ?_, ?_, ?_, ?_, ?_, ?_, ?_, ?_, ?_, ?_, ?_, h.mp, h.mt⟩
  · rcases h.ms with h1 | ⟨h1, h2, h3, h4, h5⟩
    · exact .inl h1
    · obtain ⟨k1, k2⟩ := keep h3
      refine .inr ⟨h1, h2, ?_, ?_, ?_⟩
      · show (L.known k).st = .owed; rw [k2]; exact h3
      · rw [k1]; exact h4
      · rw [k1]; exact h5
  · rw [rk_app]; exact h.dk
  · rw [rk_nil, List.append_nil, rk_app]; exact h.dk
  · rw [rk_app]; exact h.tk
  · rw [rk_nil, List.append_nil, rk_app]; exact h.tk
  · intro u a m hx
    rcases List.mem_append.mp hx with hx | hx
    · exact h.pL u a m hx
    · have := (h.lp _ u a m hx).1
      show u ≤ t
      have e1 : L.num = M.num := this
      omega
  · intro u a m hx
    rcases List.mem_append.mp hx with hx | hx
    · rcases h.pM u a m hx with h1 | ⟨h1, h2, h3, h4⟩
      · exact .inl h1
      · obtain ⟨k1, k2⟩ := keep h2
        refine .inr ⟨h1, ?_, ?_, ?_⟩
        · show (L.known k).st = .owed; rw [k2]; exact h2
        · show a = (L.known k).amt; rw [k2]; exact h3
        · show m = (L.known k).marks; rw [k2]; exact h4
    · exact (h.lp _ u a m hx).2
  · intro u hx
    rcases List.mem_append.mp hx with hx | hx
    · exact h.tL u hx
    · have e1 : L.num = M.num := (h.lt _ u hx).1
      omega
  · intro u hx
    rcases List.mem_append.mp hx with hx | hx
    · exact h.tM u hx
    · exact (h.lt _ u hx).2
  · intro i u a m hx; cases hx
  · intro i u hx; cases hx
theorem Lead.wroteM (h : Lead k L M post led t) : Lead k L M.wrote (post ++ M.laid) (led ++ M.fresh) t ∨ Lead k M.wrote L (post ++ M.laid) (led ++ M.fresh) (t + 1) := by
  have hn := h.num
  unfold HM.wrote
  rcases h.ms with ⟨h1, h2, h3⟩ | ⟨h1, h2, h3, h4, h5⟩
  · left
    have hk : rk k (led ++ M.fresh) = rk k led := by rw [rk_app, h3, List.append_nil]
    refine ⟨h.num, h.lw, h1, h.lws, h2, h.lk, h.lks, h.lo, .inl ⟨h1, h2, rfl⟩, by rw [hk]; exact h.dw, by rw [hk]; exact h.dk, by rw [hk]; exact h.tw, by rw [hk]; exact h.tk, ?_, ?_, ?_, ?_, h.lp, h.lt, ?_, ?_⟩
    · intro u a m hx
      rcases List.mem_append.mp hx with hx | hx
      · exact h.pL u a m hx
      · rcases (h.mp _ u a m hx).2 with h4 | h4
        · exact h4
        · omega
    · intro u a m hx
      rcases List.mem_append.mp hx with hx | hx
      · exact h.pM u a m hx
      · have e1 : M.num = L.num := (h.mp _ u a m hx).1
        omega
    · intro u hx
      rcases List.mem_append.mp hx with hx | hx
      · exact h.tL u hx
      · rcases (h.mt _ u hx).2 with h4 | h4
        · exact h4
        · omega
    · intro u hx
      rcases List.mem_append.mp hx with hx | hx
      · exact h.tM u hx
      · have e1 : M.num = L.num := (h.mt _ u hx).1
        omega
    · intro i u a m hx; cases hx
    · intro i u hx; cases hx
  · right
    obtain ⟨k1, k2⟩ := h.lo h3
    have hlk := h.lk
    have hlw := h.lw
    refine ⟨show L.num = 1 - M.num by omega, h1, by omega, h2, by rw [h3]; decide, h1, h2, fun _ => ⟨rfl, rfl⟩, .inl ⟨by omega, by rw [k1, h3]; decide, k2⟩, by rw [rk_app]; exact h4, by rw [rk_nil, List.append_nil, rk_app]; exact h4,
      by rw [rk_app]; exact h5, by rw [rk_nil, List.append_nil, rk_app]; exact h5, ?_, ?_, ?_, ?_, ?_, ?_, ?_, ?_⟩
    · intro u a m hx
      rcases List.mem_append.mp hx with hx | hx
      · rcases h.pM u a m hx with h6 | h6 <;> omega
      · have e1 : M.num = L.num := (h.mp _ u a m hx).1
        omega
    · intro u a m hx
      rcases List.mem_append.mp hx with hx | hx
      · have := h.pL u a m hx
        exact .inl (by omega)
      · rcases (h.mp _ u a m hx).2 with h6 | ⟨h6, h7, h8, h9, h10⟩
        · exact .inl (by omega)
        · exact .inr ⟨by omega, h8, h9, h10⟩
    · intro u hx
      rcases List.mem_append.mp hx with hx | hx
      · have := h.tM u hx; omega
      · have e1 : M.num = L.num := (h.mt _ u hx).1
        omega
    · intro u hx
      rcases List.mem_append.mp hx with hx | hx
      · have := h.tL u hx; omega
      · rcases (h.mt _ u hx).2 with h6 | h6 <;> omega
    · intro i u a m hx; cases hx
    · intro i u hx; cases hx
    · intro i u a m hx
      have := h.lp i u a m hx
      refine ⟨this.1, .inl ?_⟩
      rcases this.2 with h6 | h6 <;> omega
    · intro i u hx
      have := h.lt i u hx
      exact ⟨this.1, .inl (by omega)⟩
theorem nudged_mem {h : HM} {ks : List Str} {x : Letter} (hx : x ∈ h.nudged ks) : ∃ k ∈ ks, (h.written k).st = .owed ∧ x = h.parcelOf k (h.written k) := by
  obtain ⟨k, hk, e⟩ := List.mem_filterMap.mp hx
  split at e
  · rename_i ho; cases e; exact ⟨k, hk, ho, rfl⟩
  · cases e
theorem Lead.nudgedL (h : Lead k L M post led t) {ks : List Str} : Lead k L M (post ++ L.nudged ks) led t := by
  have hn := h.num
  have hlw := h.lw
  refine { h with pL := ?_, pM := ?_, tL := ?_, tM := ?_ }
  · intro u a m hx
    rcases List.mem_append.mp hx with hx | hx
    · exact h.pL u a m hx
    · obtain ⟨k', _, h1, h2⟩ := nudged_mem hx
      unfold HM.parcelOf at h2
      injection h2 with a1 a2 a3 a4 a5
      omega
  · intro u a m hx
    rcases List.mem_append.mp hx with hx | hx
    · exact h.pM u a m hx
    · obtain ⟨k', _, h1, h2⟩ := nudged_mem hx
      unfold HM.parcelOf at h2
      injection h2 with a1 a2 a3 a4 a5
      subst a2
      exact .inr ⟨by omega, h1, a4, a5⟩
  · intro u hx
    rcases List.mem_append.mp hx with hx | hx
    · exact h.tL u hx
    · obtain ⟨k', _, h1, h2⟩ := nudged_mem hx
      cases h2
  · intro u hx
    rcases List.mem_append.mp hx with hx | hx
    · exact h.tM u hx
    · obtain ⟨k', _, h1, h2⟩ := nudged_mem hx
      cases h2
theorem Lead.nudgedM (h : Lead k L M post led t) {ks : List Str} : Lead k L M (post ++ M.nudged ks) led t := by
  have hn := h.num
  have hmw := h.mw
  refine { h with pL := ?_, pM := ?_, tL := ?_, tM := ?_ }
  · intro u a m hx
    rcases List.mem_append.mp hx with hx | hx
    · exact h.pL u a m hx
    · obtain ⟨k', _, h1, h2⟩ := nudged_mem hx
      unfold HM.parcelOf at h2
      injection h2 with a1 a2 a3 a4 a5
      subst a2
      omega
  · intro u a m hx
    rcases List.mem_append.mp hx with hx | hx
    · exact h.pM u a m hx
    · obtain ⟨k', _, h1, h2⟩ := nudged_mem hx
      unfold HM.parcelOf at h2
      injection h2 with a1 a2 a3 a4 a5
      omega
  · intro u hx
    rcases List.mem_append.mp hx with hx | hx
    · exact h.tL u hx
    · obtain ⟨k', _, h1, h2⟩ := nudged_mem hx
      cases h2
  · intro u hx
    rcases List.mem_append.mp hx with hx | hx
    · exact h.tM u hx
    · obtain ⟨k', _, h1, h2⟩ := nudged_mem hx
      cases h2
theorem Lead.posted (h : Lead k L M post led t) {xs : List Letter} (hx : ∀ x ∈ xs, x.idle k) : Lead k L M (post ++ xs) led t := by
  refine { h with pL := ?_, pM := ?_, tL := ?_, tM := ?_ }
  · intro u a m h1
    rcases List.mem_append.mp h1 with h1 | h1
    · exact h.pL u a m h1
    · exact (idle_p (hx _ h1)).elim
  · intro u a m h1
    rcases List.mem_append.mp h1 with h1 | h1
    · exact h.pM u a m h1
    · exact (idle_p (hx _ h1)).elim
  · intro u h1
    rcases List.mem_append.mp h1 with h1 | h1
    · exact h.tL u h1
    · exact (idle_t (hx _ h1)).elim
  · intro u h1
    rcases List.mem_append.mp h1 with h1 | h1
    · exact h.tM u h1
    · exact (idle_t (hx _ h1)).elim
theorem Lead.new : Lead k (.new 0) (.new 1) [] [] 0 := by
  refine ⟨rfl, rfl, rfl, (by simp [HM.new, Row.first]), (by simp [HM.new, Row.first]), rfl, (by simp [HM.new, Row.first]), (fun e => by simp [HM.new, Row.first] at e), .inl ⟨rfl, (by simp [HM.new, Row.first]), rfl⟩, ⟨rfl, fun _ => rfl⟩, ⟨rfl, fun _ => rfl⟩, .nil, .nil, ?_, ?_, ?_, ?_, ?_, ?_, ?_, ?_⟩ <;> simp [HM.new]
end
/-- the houses keep key k right -/
def KI (k : Str) (A B : HM) (post : List Letter) (led : List LR) : Prop := ∃ t, Lead k A B post led t ∨ Lead k B A post led t
section
variable {k : Str} {A B : HM} {post : List Letter} {led : List LR}
theorem KI.symm (h : KI k A B post led) : KI k B A post led := by
  obtain ⟨t, h | h⟩ := h
  · exact ⟨t, .inr h⟩
  · exact ⟨t, .inl h⟩
theorem KI.sub (h : KI k A B post led) {p' : List Letter} (hs : ∀ x ∈ p', x ∈ post) : KI k A B p' led := by
  obtain ⟨t, h | h⟩ := h
  · exact ⟨t, .inl (h.sub hs)⟩
  · exact ⟨t, .inr (h.sub hs)⟩
theorem KI.posted (h : KI k A B post led) {xs : List Letter} (hs : ∀ x ∈ xs, x.idle k) : KI k A B (post ++ xs) led := by
  obtain ⟨t, h | h⟩ := h
  · exact ⟨t, .inl (h.posted hs)⟩
  · exact ⟨t, .inr (h.posted hs)⟩
/-- a letter in the post comes to A -/
theorem KI.came (h : KI k A B post led) (hm : MarksOk (A.known k).marks) {m : Nat} {ks : List Str} (hm6 : m ≤ 6) {x : Letter} (hx : x ∈ post) (hok : x.okIn ks m)
    (hto : ∀ i c n k w, x = .call i c n k w → i = A.num) (hto2 : ∀ i k u a ms, x = .parcel i k u a ms → i = A.num) (hto3 : ∀ i k u, x = .taken i k u → i = A.num) : KI k (A.came x) B post led := by
  cases x with
  | answer c n t => exact h
  | call i c n k' wi =>
    have hc := hok.2.1
    have hc6 : 0 ≤ c ∧ c < 6 := by omega
    obtain ⟨t, h | h⟩ := h
    · exact ⟨t, .inl (h.calledL hm hc6)⟩
    · exact ⟨t, .inr (h.calledM hm hc6)⟩
  | parcel i k' u a ms =>
    have e := hto2 i k' u a ms rfl
    subst e
    obtain ⟨t, h | h⟩ := h
    · exact ⟨t, .inl (h.gotParcelL hx)⟩
    · exact ⟨t, .inr (h.gotParcelM hx)⟩
  | taken i k' u =>
    have e := hto3 i k' u rfl
    subst e
    obtain ⟨t, h | h⟩ := h
    · exact ⟨t, .inl (h.gotTakenL hx)⟩
    · exact ⟨t, .inr (h.gotTakenM hx)⟩
theorem KI.moved (h : KI k A B post led) {k' : Str} (hh : (A.known k').st = .here) : KI k (A.moved k') B post led := by
  obtain ⟨t, h | h⟩ := h
  · exact ⟨t, .inl (h.movedL hh)⟩
  · exact ⟨t, .inr (h.movedM hh)⟩
theorem KI.slept (h : KI k A B post led) : KI k A.slept B post led := by
  obtain ⟨t, h | h⟩ := h
  · exact ⟨t, .inl h.sleptL⟩
  · exact ⟨t, .inr h.sleptM⟩
theorem KI.wrote (h : KI k A B post led) : KI k A.wrote B (post ++ A.laid) (led ++ A.fresh) := by
  obtain ⟨t, h | h⟩ := h
  · exact ⟨t, .inl h.wroteL⟩
  · rcases h.wroteM with h | h
    · exact ⟨t, .inr h⟩
    · exact ⟨t + 1, .inl h⟩
theorem KI.nudged (h : KI k A B post led) {ks : List Str} : KI k A B (post ++ A.nudged ks) led := by
  obtain ⟨t, h | h⟩ := h
  · exact ⟨t, .inl h.nudgedL⟩
  · exact ⟨t, .inr h.nudgedM⟩
theorem KI.never (h : KI k A B post led) : ¬ ((A.known k).st = .here ∧ (B.known k).st = .here) := by
  obtain ⟨t, h | h⟩ := h
  · rintro ⟨a, b⟩
    rcases h.ms with h1 | h1
    · exact h1.2.1 b
    · rw [(h.lo h1.2.2.1).1, h1.2.2.1] at a; cases a
  · rintro ⟨a, b⟩
    rcases h.ms with h1 | h1
    · exact h1.2.1 a
    · rw [(h.lo h1.2.2.1).1, h1.2.2.1] at b; cases b
theorem KI.some (h : KI k A B post led) (h1 : (A.known k).st ≠ .here) (h2 : (B.known k).st ≠ .here) : (A.known k).st = .owed ∨ (B.known k).st = .owed := by
  obtain ⟨t, h | h⟩ := h
  · have := h.lks
    left; cases e : (A.known k).st <;> simp_all
  · have := h.lks
    right; cases e : (B.known k).st <;> simp_all
end
/-- every key is kept right -/
def PI (w : WM) : Prop := ∀ k, KI k w.h0 w.h1 w.post w.ledger
section
variable {p l : Nat} {ks : List Str} {w : WM}
theorem PI.call (o : PI w) (j : Nat) (i : Int) (k : Str) (wi : Wish) : PI (w.call j i k wi) := fun k' => (o k').posted (xs := [_]) fun x hx => by rw [List.mem_singleton.mp hx]; trivial
theorem PI.again (o : PI w) (j : Nat) (i : Int) : PI (w.again j i) := fun k' => by
  unfold WM.again; split
  · exact (o k').posted (xs := [_]) fun x hx => by rw [List.mem_singleton.mp hx]; trivial
  · exact o k'
theorem PI.lose (o : PI w) (j : Nat) : PI (w.lose j) := fun k => (o k).sub fun x hx => List.mem_of_mem_eraseIdx hx
theorem PI.brought (o : PI w) (v : WInv p l ks w) {x : Letter} (hx : x ∈ w.post) : PI (w.brought x) := by
  have hok := v.post x hx
  have house : ∀ i, (i = 0 ∨ i = 1) → w.brought x = w.setH i ((w.hs i).came x) → (∀ i' c n k w, x = .call i' c n k w → i' = i) → (∀ i' k u a ms, x = .parcel i' k u a ms → i' = i) → (∀ i' k u, x = .taken i' k u → i' = i) → PI (w.brought x) := by
    intro i hi e h1 h2 h3 k
    rw [e]
    rcases hi with e | e <;> subst e
    · exact (o k).came (v.g0.mk1 k) v.c6 hx hok (by rw [v.n0]; exact h1) (by rw [v.n0]; exact h2) (by rw [v.n0]; exact h3)
    · exact ((o k).symm.came (v.g1.mk1 k) v.c6 hx hok (by rw [v.n1]; exact h1) (by rw [v.n1]; exact h2) (by rw [v.n1]; exact h3)).symm
  cases x with
  | answer c n t => exact fun k => o k
  | call i c k' k wi => exact house i hok.1 rfl (fun _ _ _ _ _ h => by cases h; rfl) (fun _ _ _ _ _ h => by cases h) (fun _ _ _ h => by cases h)
  | parcel i k tn am ms => exact house i hok.1 rfl (fun _ _ _ _ _ h => by cases h) (fun _ _ _ _ _ h => by cases h; rfl) (fun _ _ _ h => by cases h)
  | taken i k tn => exact house i hok.1 rfl (fun _ _ _ _ _ h => by cases h) (fun _ _ _ _ _ h => by cases h) (fun _ _ _ h => by cases h; rfl)
theorem brought_lose {j : Nat} {x : Letter} : (w.lose j).brought x = (w.brought x).lose j := by
  cases x with
  | answer c n t => rfl
  | call i c k' k wi => simp only [WM.brought, WM.setH, WM.hs, WM.lose]; split <;> rfl
  | parcel i k tn am ms => simp only [WM.brought, WM.setH, WM.hs, WM.lose]; split <;> rfl
  | taken i k tn => simp only [WM.brought, WM.setH, WM.hs, WM.lose]; split <;> rfl
theorem PI.move (o : PI w) {k : Str} (hh : (w.h0.known k).st = .here ∨ (w.h1.known k).st = .here) : PI (w.move k) := fun k' => by
  unfold WM.move; split
  · rename_i h; exact (o k').moved h
  · rename_i h
    exact ((o k').symm.moved (by rcases hh with h1 | h1; exact absurd h1 h; exact h1)).symm
theorem PI.sleep (o : PI w) {i : Int} (hi : i = 0 ∨ i = 1) : PI (w.sleep i) := fun k => by
  rcases hi with e | e <;> subst e
  · exact (o k).slept
  · exact (o k).symm.slept.symm
theorem PI.nudge (o : PI w) {i : Int} (hi : i = 0 ∨ i = 1) : PI (w.nudge ks i) := fun k => by
  rcases hi with e | e <;> subst e
  · exact (o k).nudged
  · exact (o k).symm.nudged.symm
theorem PI.write (o : PI w) {i : Int} (hi : i = 0 ∨ i = 1) : PI (w.write i) := fun k => by
  rcases hi with e | e <;> subst e
  · exact (o k).wrote
  · exact (o k).symm.wrote.symm
theorem PI.step (o : PI w) (v : WInv p l ks w) {w' : WM} {r : Option Call} (h : Step ks w w' r) : PI w' := by
  cases h with
  | idle => exact o
  | call h1 h2 h3 h4 h5 => exact o.call _ _ _ _
  | again h1 h2 h3 => exact o.again _ _
  | @hand j x h1 => rw [brought_lose]; exact (o.brought v (List.mem_of_getElem? h1)).lose j
  | @twice j x h1 => exact o.brought v (List.mem_of_getElem? h1)
  | @lose j x h1 => exact o.lose j
  | move h1 h2 => exact o.move h2
  | sleep h1 => exact o.sleep h1
  | @nudge i h1 => exact o.nudge h1
  | write h1 => exact o.write h1
theorem PI.new {c : Nat} : PI (.new c) := fun k => ⟨0, .inl Lead.new⟩
end
end MH
set_option Elab.async false
set_option linter.all false
set_option maxRecDepth 100000
/-! One deed of the laws over the whole world. -/
namespace MH
open PySem L2
structure WAll (T : Tab) : Prop extends WTab T where
  HA : HouseAll T
  ma : T.meth c_World a_call = some f_World_call
  fa : T.fn f_World_call = some fn_World_call
  mb : T.meth c_World a_again = some f_World_again
  fb : T.fn f_World_again = some fn_World_again
  mc : T.meth c_World a_hand = some f_World_hand
  fc : T.fn f_World_hand = some fn_World_hand
  md : T.meth c_World a_twice = some f_World_twice
  fd : T.fn f_World_twice = some fn_World_twice
  me : T.meth c_World a_lose = some f_World_lose
  fe : T.fn f_World_lose = some fn_World_lose
  mf : T.meth c_World a_sleep = some f_World_sleep
  ff : T.fn f_World_sleep = some fn_World_sleep
  mg : T.meth c_World a_nudge = some f_World_nudge
  fg : T.fn f_World_nudge = some fn_World_nudge
  mh : T.meth c_World a_write = some f_World_write
  fh : T.fn f_World_write = some fn_World_write
  mi : T.meth c_World a_move = some f_World_move
  fi : T.fn f_World_move = some fn_World_move
  mj : T.meth c_World a_home = some f_World_home
  fj : T.fn f_World_home = some fn_World_home
  mlt : T.meth c_World a_letters = some f_World_letters
  fk : T.fn f_World_letters = some fn_World_letters
  ml : T.meth c_World a_asking = some f_World_asking
  fl : T.fn f_World_asking = some fn_World_asking
section
variable {T : Tab} {n : Nat} {s : S} {Q : K1} {X : XP} {F : List Cell} {b : WB} {ks : List Str} {w : WM} {p l : Nat}
theorem l_deed_ok (t : WAll T) (hf : T.fn f_l_deed = some fn_l_deed) (hw : T.fn f_l_wish = some fn_l_wish) (ko : KeysOk ks) (v : WInv p l ks w) (hp : p ≤ 100000) (hl : l ≤ 100000) (hca : b.ca.length = w.cs.length) (hc1 : 1 ≤ w.cs.length)
    {ak : Addr} {cell : Int} (o : Own s (worldCells b ks w ++ F)) (hak : (ak, .lst (ks.map .str)) ∈ F)
    (hQ : ∀ b' w' r s', b'.self = b.self → b'.ca = b.ca → Step ks w w' r → Own s' (worldCells b' ks w' ++ F) → Q (callD r) s') :
    wCall T (n + 6) f_l_deed [.ob b.self, .ob ak, .int (w.cs.length : Nat), .int cell] s Q X := by
  refine ⟨fn_l_deed, hf, rfl, ?_⟩
  simp only [fn_l_deed, start, List.map, List.length, List.replicate, List.cons_append, List.nil_append]
  have hk1 := ko.ne
  have bd := v.bd (b := b) hca
  have hks : ks.length ≤ 1000 := by have := ko.le; omega
  refine wSs_cons fun N' hN => ?_
  try simp
  apply hN; clear hN N'
  have hc0 : 0 ≤ cell % 16 ∧ cell % 16 < 16 := by omega
  generalize cell / 16 = more
  refine wSs_cons fun N' hN => ?_
  try simp
  apply hN; clear hN N'
  have hi : more % 2 = 0 ∨ more % 2 = 1 := by omega
  generalize more % 2 = i at hi ⊢
  refine wSs_cons fun N' hN => ?_
  simp [↓mthQ_of o.head t.mlt rfl]
  refine World_letters_ok t.fk o fun q s1 o1 => ?_
  simp [↓lst_of o1.head]
  apply hN; clear hN N'
  have o := o1.tail
  clear o1
  have lc : s1 ak = some (.lst (ks.map .str)) := o.mem (by simp [hak])
  generalize hlen : w.post.length = len
  obtain ⟨k, k1, k2, k3, k4⟩ := key_at (i := more) ko.ne
  have stay := hQ b w none s1 rfl rfl .idle o
  generalize hc : cell % 16 = c at hc0
  by_cases c4 : c < 4
  · have hj0 : 0 ≤ more / 2 % (w.cs.length : Int) := Int.emod_nonneg _ (by omega)
    have hj1 : more / 2 % (w.cs.length : Int) < w.cs.length := Int.emod_lt_of_pos _ (by omega)
    obtain ⟨j, hj⟩ : ∃ j : Nat, more / 2 % (w.cs.length : Int) = j := ⟨(more / 2 % (w.cs.length : Int)).toNat, by omega⟩
    refine wSs_cons fun N' hN => ?_
    simp [hc, c4]
    clear hN
    refine wSs_cons fun N2 hN2 => ?_
    try simp
    refine ⟨by omega, ?_⟩
    rw [hj] at hj0 hj1 ⊢
    have hj2 : j < w.cs.length := by omega
    clear hj hj0 hj1
    apply hN2; clear hN2 N2
    refine wSs_cons fun N2 hN2 => ?_
    simp [↓mthQ_of o.head t.ml rfl]
    refine World_asking_ok (n := n + 2) t.toWorldTab t.C t.fl hj2 hca o ?_
    cases ha : (w.cm j).asked with
    | some a =>
      simp [askD, isNon]
      refine wSs_cons fun N3 hN3 => ?_
      simp [↓mthQ_of o.head t.mb rfl]
      refine World_again_ok (n := n + 1) t.toWTab t.fb bd (by omega) hj2 hi ha o fun s2 o2 => ?_
      apply hN3
      simp [↓wSs_cons', ↓wSs_nil]
      exact hQ b _ none s2 rfl rfl (.again hj2 hi ha) o2
    | none =>
      simp [askD, isNon]
      rw [wSs_nil]
      apply hN2; clear hN2 N2
      obtain ⟨k', k1', k2', k3', k4'⟩ := key_at (i := more / 3) ko.ne
      refine wSs_cons fun N2 hN2 => ?_
      simp [↓lst_of lc]
      refine ⟨by omega, ?_⟩
      rw [k4']
      try simp
      apply hN2; clear hN2 N2
      refine wSs_cons fun N2 hN2 => ?_
      try simp
      refine l_wish_ok hw fun s2 x2 => ?_
      have o2 := o.ext x2
      try simp
      apply hN2; clear hN2 N2
      have hwo := wishOf_ok ((cell + 5) * 48271 / 11)
      generalize wishOf ((cell + 5) * 48271 / 11) = wi at hwo ⊢
      refine wSs_cons fun N2 hN2 => ?_
      simp [↓mthQ_of o2.head t.ma rfl]
      refine World_call_ok (n := n + 1) t.toWTab t.fa bd (by omega) ko hj2 hi k1' hwo ha o2 fun s3 o3 => ?_
      try simp
      exact hQ b _ _ s3 rfl rfl (.call hj2 hi k1' hwo ha) o3
  refine wSs_cons fun N' hN => ?_
  simp [hc, c4]
  rw [wSs_nil]
  apply hN; clear hN N'
  have idleL : ∀ {X : Prop}, (len = 0 → X) → (0 < len → X) → X := fun h1 h2 => by
    rcases Nat.eq_zero_or_pos len with h | h
    · exact h1 h
    · exact h2 h
  -- a place of the post
  have place : 0 < len → ∃ (p : Nat) (x : Letter), more % (len : Int) = p ∧ w.post[p]? = some x := by
    intro hne
    have h0 : 0 ≤ more % (len : Int) := Int.emod_nonneg _ (by omega)
    have h1 : more % (len : Int) < len := Int.emod_lt_of_pos _ (by omega)
    exact ⟨_, w.post[(more % (len : Int)).toNat]'(by omega), by omega, List.getElem?_eq_getElem (by omega)⟩
  by_cases c8 : c < 8
  · refine idleL (fun h0 => ?_) (fun h0 => ?_)
    · have d1 : ¬ c = 8 := by omega
      have d2 : ¬ c = 9 := by omega
      have d3 : ¬ c = 10 := by omega
      have d4 : ¬ c = 14 := by omega
      have d5 : ¬ c = 15 := by omega
      have d6 : ¬ 10 < c := by omega
      subst h0
      simp [↓wSs_cons', ↓wSs_nil, hc, c8, d1, d2, d3, d4, d5, d6]
      exact stay
    · obtain ⟨pl, x, p1, p2⟩ := place h0
      have hne : (len : Int) ≠ 0 := by omega
      have h0' : 0 < (len : Int) := by omega
      refine wSs_cons fun N' hN => ?_
      simp [hc, c8, h0]
      refine wSs_cons fun N2 hN2 => ?_
      simp [hc, ↓mthQ_of o.head t.mc rfl, h0]
      intro q2 hq2
      have o2 := o.new (u := .lst [.int 0, .int ((len : Int) - 1), .int (more % (len : Int)), .int (more % (len : Int))]) hq2
      generalize up s1 q2 _ = s2 at o2 ⊢
      have hand : ∀ (g : Nat) (y : Letter), w.post[g]? = some y → atD [D.int 0, .int ((len : Int) - 1), .int (more % (len : Int)), .int (more % (len : Int))] (c - 4) = some (.int (g : Nat)) →
          rIdx (.ob q2) (.int (c - 4)) s2 (fun x s1 => wCall T (n + 5) f_World_hand [.ob b.self, x] s1 (fun x s1 => N2 [some (.ob b.self), some (.ob ak), some (.int (w.cs.length : Nat)), some (.int cell), some (.int more), some (.int i), some (.int (len : Nat)), none, none, none] s1) (fun c => X c)) := by
        intro g y hg e
        rw [rIdxL_of o2.head, e, putQ_some]
        refine World_hand_ok (n := n) t.toWTab t.fc bd (by omega) ko hg (v.post y (List.mem_of_getElem? hg)) o2.tail fun s3 o3 => ?_
        apply hN2; rw [wSs_nil]
        apply hN
        simp [↓wSs_cons', ↓wSs_nil]
        exact hQ b _ none s3 rfl rfl (.hand hg) o3
      have h3 : c = 4 ∨ c = 5 ∨ c = 6 ∨ c = 7 := by omega
      rcases h3 with h3 | h3 | h3 | h3 <;> subst h3
      · exact hand 0 (w.post[0]'(by omega)) (List.getElem?_eq_getElem (by omega)) rfl
      · refine hand (len - 1) (w.post[len - 1]'(by omega)) (List.getElem?_eq_getElem (by omega)) ?_
        have : ((len - 1 : Nat) : Int) = (len : Int) - 1 := by omega
        rw [this]; rfl
      · exact hand pl x p2 (by rw [← p1]; rfl)
      · exact hand pl x p2 (by rw [← p1]; rfl)
  refine wSs_cons fun N' hN => ?_
  simp [hc, c8]
  have fin : ∀ b' w' s', b'.self = b.self → b'.ca = b.ca → Step ks w w' none → Own s' (worldCells b' ks w' ++ F) → ∀ e, N' e s' := by
    intro b' w' s' a1 a2 a3 a4 e
    apply hN
    simp [↓wSs_cons', ↓wSs_nil]
    exact hQ b' w' none s' a1 a2 a3 a4
  clear hN
  by_cases c8' : c = 8
  · have d1 : ¬ c = 9 := by omega
    have d3 : ¬ c = 10 := by omega
    have d4 : ¬ c = 14 := by omega
    have d5 : ¬ c = 15 := by omega
    have d6 : ¬ 10 < c := by omega
    refine idleL (fun h0 => ?_) (fun h0 => ?_)
    · subst h0
      simp [↓wSs_cons', ↓wSs_nil, hc, c8', d1, d3, d4, d5, d6]
      exact fin b w s1 rfl rfl .idle o _
    · obtain ⟨pl, x, p1, p2⟩ := place h0
      refine wSs_cons fun N2 hN2 => ?_
      simp [hc, c8', h0]
      refine wSs_cons fun N3 hN3 => ?_
      simp [↓mthQ_of o.head t.md rfl, p1, h0]
      refine World_twice_ok (n := n) t.toWTab t.fd bd (by omega) ko p2 (v.post x (List.mem_of_getElem? p2)) o fun s3 o3 => ?_
      apply hN3; rw [wSs_nil]
      apply hN2; rw [wSs_nil]
      exact fin b _ s3 rfl rfl (.twice p2) o3 _
  refine wSs_cons fun N2 hN2 => ?_
  simp [hc, c8']
  have fin2 : ∀ b' w' s', b'.self = b.self → b'.ca = b.ca → Step ks w w' none → Own s' (worldCells b' ks w' ++ F) → ∀ e, N2 e s' := by
    intro b' w' s' a1 a2 a3 a4 e
    apply hN2; rw [wSs_nil]
    exact fin b' w' s' a1 a2 a3 a4 _
  clear hN2 fin
  by_cases c9 : c = 9
  · have d3 : ¬ c = 10 := by omega
    have d4 : ¬ c = 14 := by omega
    have d5 : ¬ c = 15 := by omega
    have d6 : ¬ 10 < c := by omega
    refine idleL (fun h0 => ?_) (fun h0 => ?_)
    · subst h0
      simp [↓wSs_cons', ↓wSs_nil, hc, c9, d3, d4, d5, d6]
      exact fin2 b w s1 rfl rfl .idle o _
    · obtain ⟨pl, x, p1, p2⟩ := place h0
      refine wSs_cons fun N3 hN3 => ?_
      simp [hc, c9, h0]
      refine wSs_cons fun N4 hN4 => ?_
      simp [↓mthQ_of o.head t.me rfl, p1, h0]
      refine World_lose_ok (n := n) t.toWTab t.fe bd (by omega) p2 o fun s3 o3 => ?_
      apply hN4; rw [wSs_nil]
      apply hN3; rw [wSs_nil]
      exact fin2 b _ s3 rfl rfl (.lose p2) o3 _
  refine wSs_cons fun N3 hN3 => ?_
  simp [hc, c9]
  have fin3 : ∀ b' w' s', b'.self = b.self → b'.ca = b.ca → Step ks w w' none → Own s' (worldCells b' ks w' ++ F) → ∀ e, N3 e s' := by
    intro b' w' s' a1 a2 a3 a4 e
    apply hN3; rw [wSs_nil]
    exact fin2 b' w' s' a1 a2 a3 a4 _
  clear hN3 fin2
  by_cases c10 : c = 10
  · have d4 : ¬ c = 14 := by omega
    have d5 : ¬ c = 15 := by omega
    have d6 : ¬ 10 < c := by omega
    refine wSs_cons fun N4 hN4 => ?_
    simp [hc, c10, ↓mthQ_of o.head t.mj rfl, ↓lst_of lc]
    refine ⟨by omega, ?_⟩
    rw [k4]
    try simp
    refine World_home_ok (n := n + 2) t.toWTab t.fj ko k1 o ?_
    unfold WM.home
    by_cases h0 : (w.h0.known k).st = .here
    · rw [if_pos h0]
      simp [isNon]
      refine wSs_cons fun N5 hN5 => ?_
      simp [↓mthQ_of o.head t.mi rfl, ↓lst_of lc]
      refine ⟨by omega, ?_⟩
      rw [k4]
      try simp
      refine World_move_ok (n := n + 1) t.toWTab t.HA t.fi t.mj t.fj bd (by omega) ko k1 v.n0 v.n1 (.inl h0) o fun s3 o3 => ?_
      apply hN5; rw [wSs_nil]
      apply hN4; rw [wSs_nil]
      exact fin3 b _ s3 rfl rfl (.move k1 (.inl h0)) o3 _
    · rw [if_neg h0]
      by_cases h1 : (w.h1.known k).st = .here
      · rw [if_pos h1]
        simp [isNon]
        refine wSs_cons fun N5 hN5 => ?_
        simp [↓mthQ_of o.head t.mi rfl, ↓lst_of lc]
        refine ⟨by omega, ?_⟩
        rw [k4]
        try simp
        refine World_move_ok (n := n + 1) t.toWTab t.HA t.fi t.mj t.fj bd (by omega) ko k1 v.n0 v.n1 (.inr h1) o fun s3 o3 => ?_
        apply hN5; rw [wSs_nil]
        apply hN4; rw [wSs_nil]
        exact fin3 b _ s3 rfl rfl (.move k1 (.inr h1)) o3 _
      · rw [if_neg h1]
        simp [↓wSs_cons', ↓wSs_nil, isNon, hc, c10]
        apply hN4; rw [wSs_nil]
        exact fin3 b w s1 rfl rfl .idle o _
  refine wSs_cons fun N4 hN4 => ?_
  simp [hc, c10]
  have fin4 : ∀ b' w' s', b'.self = b.self → b'.ca = b.ca → Step ks w w' none → Own s' (worldCells b' ks w' ++ F) → ∀ e, N4 e s' := by
    intro b' w' s' a1 a2 a3 a4 e
    apply hN4; rw [wSs_nil]
    exact fin3 b' w' s' a1 a2 a3 a4 _
  clear hN4 fin3
  by_cases c14 : c = 14
  · refine wSs_cons fun N5 hN5 => ?_
    simp [hc, c14]
    refine wSs_cons fun N6 hN6 => ?_
    simp [↓mthQ_of o.head t.mf rfl]
    refine World_sleep_ok (n := n + 2) t.toWTab t.ff hi o fun b2 s3 e1 e2 o3 => ?_
    apply hN6; rw [wSs_nil]
    apply hN5; rw [wSs_nil]
    exact fin4 b2 _ s3 e1 e2 (.sleep hi) o3 _
  refine wSs_cons fun N5 hN5 => ?_
  simp [hc, c14]
  by_cases c15 : c = 15
  · refine wSs_cons fun N6 hN6 => ?_
    simp [hc, c15]
    refine wSs_cons fun N7 hN7 => ?_
    simp [↓mthQ_of o.head t.mg rfl]
    refine World_nudge_ok (n := n + 1) t.toWTab t.HA t.fg bd (by omega) hks hi o fun s3 o3 => ?_
    apply hN7; rw [wSs_nil]
    apply hN6; rw [wSs_nil]
    apply hN5; rw [wSs_nil]
    exact fin4 b _ s3 rfl rfl (.nudge hi) o3 _
  refine wSs_cons fun N6 hN6 => ?_
  simp [hc, c15]
  have c11 : 10 < c := by omega
  refine wSs_cons fun N7 hN7 => ?_
  simp [hc, c11]
  refine wSs_cons fun N8 hN8 => ?_
  simp [↓mthQ_of o.head t.mh rfl]
  refine World_write_ok (n := n + 2) t.toWTab t.fh bd (by omega) hi o fun b2 s3 e1 e2 o3 => ?_
  apply hN8; rw [wSs_nil]
  apply hN7; rw [wSs_nil]
  apply hN6; rw [wSs_nil]
  apply hN5; rw [wSs_nil]
  exact fin4 b2 _ s3 e1 e2 (.write hi) o3 _
end
end MH
set_option Elab.async false
set_option linter.all false
set_option maxRecDepth 100000
/-! How the laws over the whole world begin. -/
namespace MH
open PySem L2
section
variable {T : Tab} {n : Nat} {s : S} {Q : K1} {X : XP}
theorem l_whole_ok (h : T.fn f_l_whole = some fn_l_whole) {i : Int} (hQ : Q (.bl true) s) : wCall T (n + 1) f_l_whole [.int i] s Q X := by
  refine ⟨fn_l_whole, h, rfl, ?_⟩
  simp only [fn_l_whole, start, List.map, List.length, List.replicate, List.cons_append, List.nil_append]
  simp [↓wSs_cons', ↓wSs_nil, isTs, isT]
  exact hQ
end
theorem cutD_int {ns : List Int} {lo hi : Option Int} : ∃ cs : List Int, cutD (ns.map .int) lo hi = cs.map .int ∧ cs.length ≤ ns.length := by
  refine ⟨(ns.drop (HT.sIx ns.length 0 lo)).take (HT.sIx ns.length ns.length hi - HT.sIx ns.length 0 lo), ?_, ?_⟩
  · simp only [cutD, List.length_map, List.map_take, List.map_drop]
  · simp only [List.length_take, List.length_drop]; omega
structure StartTab (T : Tab) : Prop where
  cat : T.fn f_l_cell_at = some fn_l_cell_at
  keys : T.fn f_l_keys = some fn_l_keys
  i0 : T.init c_World = some f_World_init
  g0 : T.fn f_World_init = some fn_World_init
  nw : T.fn f_need_world = some fn_need_world
  ik : T.fn f_is_key = some fn_is_key
  i1 : T.init c_House = some f_House_init
  g1 : T.fn f_House_init = some fn_House_init
  i2 : T.init c_Caller = some f_Caller_init
  g2 : T.fn f_Caller_init = some fn_Caller_init
  fw : ∀ f, f ∈ [a_names, a_houses, a_callers, a_under_way, a_rows] → T.fld c_World f = true
section
variable {T : Tab} {n : Nat} {s : S} {N : Env → S → Prop} {Q : K1} {X : XP} {ns : List Int}
theorem world_start (t : WTab T) (z : StartTab T) {rest : Sms} {tail : Env}
    (h : ∀ ks c b ak ak2 s', KeysOk ks → 1 ≤ c → c ≤ 6 → b.ca.length = c → Own s' (worldCells b ks (.new c) ++ [(ak, .lst (ks.map .str)), (ak2, .lst (ks.map .str))]) →
      wSs T (wCall T (n + 7)) rest (some (.ro (ns.map .int)) :: some (.ob ak) :: some (.int (c : Nat)) :: some (.ob b.self) :: tail) s' N Q (fun c _ => X c)) :
    wSs T (wCall T (n + 7)) (.cons (.setv 1 (.call f_l_keys (.cons (.call f_l_cell_at (.cons (.loc 0) (.cons (.int 0) .nil))) .nil))) (.cons (.setv 2 (.bin .Add (.int 1) (.bin .Mod (.call f_l_cell_at (.cons (.loc 0) (.cons (.int 1) .nil))) (.int 6)))) (.cons (.setv 3 (.make c_World (.cons (.blt .list (.cons (.loc 1) .nil)) (.cons (.loc 2) .nil)))) rest)))
      (some (.ro (ns.map .int)) :: none :: none :: none :: tail) s N Q (fun c _ => X c) := by
  refine wSs_cons fun N' hN => ?_
  generalize hro : D.ro (ns.map .int) = ro
  try simp
  subst hro
  refine l_cell_at_ok0 z.cat ?_
  try simp
  refine l_keys_ok z.keys fun ak s0 s1 x0 n0 e1 => ?_
  have ko := keysOf_ok (cellAt ns 0)
  generalize keysOf (cellAt ns 0) = ks at ko e1
  have o1 : Own s1 [(ak, .lst (ks.map .str))] := by rw [e1]; exact Own.nil.new n0
  clear x0 n0 e1
  have lk := ko.ne
  have lk2 := ko.le
  apply hN; clear hN N'
  refine wSs_cons fun N' hN => ?_
  generalize hro : D.ro (ns.map .int) = ro
  try simp
  subst hro
  refine l_cell_at_ok1 z.cat ?_
  obtain ⟨c, hc, hc1⟩ : ∃ c : Nat, 1 + cellAt ns 1 % 6 = c ∧ 1 ≤ c ∧ c ≤ 6 := ⟨(1 + cellAt ns 1 % 6).toNat, by omega, by omega⟩
  simp [hc]
  apply hN; clear hN N'
  refine wSs_cons fun N' hN => ?_
  simp [wE_make, ↓lst_of o1.head]
  intro ak2 hak2
  have o3 := o1.new (u := .lst (ks.map .str)) hak2
  generalize up s1 ak2 _ = s4 at o3 ⊢
  refine ⟨_, z.i0, fun p hp => ?_⟩
  have o4 := o3.new (u := .ins c_World []) hp
  generalize up s4 p _ = s5 at o4 ⊢
  refine World_init_ok (n := n + 4) t z.g0 z.nw z.ik z.i1 z.g1 z.i2 z.g2 z.fw ko hc1 o4 (by simp) fun b s6 hb hca o5 => ?_
  try simp
  subst hb
  apply hN; clear hN N'
  exact h ks c b ak ak2 s6 ko hc1.1 hc1.2 hca (o5.mv fun a => by simp only [cnt_app, cnt_cons, cnt_nil]; omega)
end
end MH
set_option Elab.async false
set_option linter.all false
set_option maxRecDepth 100000
/-! Settling. -/
namespace MH
open PySem L2
def askTwo (c : CM) : List Letter := match c.asked with
  | some a => [askL 0 c.num a, askL 1 c.num a]
  | none => []
def WM.asks (w : WM) : WM := { w with post := w.post ++ w.cs.flatMap askTwo }
def WM.hand1 (w : WM) : WM := match w.post with
  | [] => w
  | x :: _ => (w.lose 0).brought x
def WM.handN (w : WM) : Nat → WM
  | 0 => w
  | n + 1 => (w.handN n).hand1
def WM.round0 (ks : List Str) (w : WM) : WM := ((((w.write 0).write 1).nudge ks 0).nudge ks 1).asks
def WM.round (ks : List Str) (w : WM) : WM := (w.round0 ks).handN (w.round0 ks).post.length
def WM.settleN (ks : List Str) : Nat → WM → Option (Nat × WM)
  | 0, _ => none
  | f + 1, w => if w.settledB ks then some (0, w) else (WM.settleN ks f (w.round ks)).map fun x => (x.1 + 1, x.2)
section
variable {p l m : Nat} {ks : List Str} {w : WM}
theorem brought_post {x : Letter} : (w.brought x).post = w.post := by cases x <;> simp [WM.brought, setH_post]
theorem hand1_post : w.hand1.post = w.post.tail := by
  unfold WM.hand1; split
  · rename_i h; rw [h]; rfl
  · rename_i x r h; rw [brought_post]; simp [WM.lose, h]
theorem handN_post : ∀ (n : Nat), (w.handN n).post = w.post.drop n
  | 0 => rfl
  | n + 1 => by rw [WM.handN, hand1_post, handN_post n, List.tail_drop]
theorem hand1_cs : w.hand1.cs.length = w.cs.length := by
  unfold WM.hand1; split
  · rfl
  · rw [brought_cs]; rfl
theorem handN_cs : ∀ (n : Nat), (w.handN n).cs.length = w.cs.length
  | 0 => rfl
  | n + 1 => by rw [WM.handN, hand1_cs, handN_cs n]
theorem WInv.hand1 (o : WInv p l ks w) (h : w.post ≠ []) : WInv p (l + 1) ks w.hand1 := by
  unfold WM.hand1; split
  · rename_i e; exact absurd e h
  · rename_i x r e
    have hp := o.pot
    have hl : 1 ≤ w.post.length := by rw [e]; simp
    obtain ⟨q, rfl⟩ : ∃ q, p = q + 1 := ⟨p - 1, by omega⟩
    have hx : w.post[0]? = some x := by rw [e]; rfl
    exact (o.lose1 hx).brought (o.post x (List.mem_of_getElem? hx))
theorem WInv.handN (o : WInv p l ks w) : ∀ (n : Nat), n ≤ w.post.length → WInv p (l + n) ks (w.handN n)
  | 0, _ => o
  | n + 1, h => by
    refine (o.handN n (by omega)).hand1 ?_
    rw [handN_post]
    intro e
    have := congrArg List.length e
    simp at this; omega
theorem askTwo_len {c : CM} : (askTwo c).length ≤ 2 := by unfold askTwo; split <;> simp
theorem flat_len {cs : List CM} : (cs.flatMap askTwo).length ≤ 2 * cs.length := by
  induction cs with
  | nil => simp
  | cons c cs ih =>
    have := askTwo_len (c := c)
    simp only [List.flatMap_cons, List.length_append, List.length_cons]; omega
theorem WInv.asks_ok (o : WInv p l ks w) : ∀ x ∈ w.cs.flatMap askTwo, x.okIn ks w.cs.length := by
  intro x hx
  obtain ⟨c, hc, hx⟩ := List.mem_flatMap.mp hx
  obtain ⟨j, hj, e⟩ := List.getElem_of_mem hc
  have e2 : w.cm j = c := by simp [WM.cm, List.getD_eq_getElem?_getD, List.getElem?_eq_getElem hj, e]
  have hn := o.num j hj
  rw [e2] at hn
  unfold askTwo at hx
  split at hx
  · rename_i a ha
    have hk := o.ask j a (by rw [e2]; exact ha)
    simp at hx
    rcases hx with h | h <;> subst h
    · exact ⟨.inl rfl, by rw [hn]; omega, hk⟩
    · exact ⟨.inr rfl, by rw [hn]; omega, hk⟩
  · cases hx
theorem WInv.asks (o : WInv p l ks w) : WInv (p + 12) l ks w.asks := by
  have := o.posted (xs := w.cs.flatMap askTwo) o.asks_ok
  exact this.up (by have := flat_len (cs := w.cs); have := o.c6; omega) (by omega)
theorem WInv.round0 (o : WInv p l ks w) : WInv (p + 24) l ks (w.round0 ks) := by
  have := (((((o.write (.inl rfl)).write (.inr rfl)).nudge 0).nudge 1).asks)
  exact this.up (by omega) (by omega)
theorem WInv.round (o : WInv p l ks w) : WInv (p + 24) (l + (p + 24)) ks (w.round ks) := by
  have h := o.round0
  have hp := h.pot
  exact (h.handN _ (Nat.le_refl _)).up (by omega) (by omega)
theorem round0_cs : (w.round0 ks).cs.length = w.cs.length := by
  simp [WM.round0, WM.asks, WM.nudge, WM.write, setH_cs]
theorem round_cs : (w.round ks).cs.length = w.cs.length := by rw [WM.round, handN_cs, round0_cs]
end
section
variable {T : Tab} {n : Nat} {s : S} {Q : K1} {X : XP} {F : List Cell} {b : WB} {ks : List Str} {w : WM} {p l : Nat}
theorem wWh_succ {c : Env → S → (Bool → S → Prop) → Prop} {f : Env → S → (Env → S → Prop) → Prop} {n : Nat} {e : Env} {s : S} {N : Env → S → Prop} (h : ∀ N2 : Env → S → Prop, (∀ e2 s2, wWh c f n e2 s2 N → N2 e2 s2) → c e s fun b s1 => if b = true then f e s1 N2 else N e s1) : wWh c f (n + 1) e s N := h _ fun _ _ h => h
structure SetTab (T : Tab) : Prop where
  ms : T.meth c_World a_settle = some f_World_settle
  fs : T.fn f_World_settle = some fn_World_settle
  mi : T.meth c_World a_is_settled = some f_World_is_settled
  fi : T.fn f_World_is_settled = some fn_World_is_settled
  mo : T.meth c_World a_owes = some f_World_owes
  fo : T.fn f_World_owes = some fn_World_owes
theorem World_settle_ok (t : WAll T) (z : SetTab T) (ko : KeysOk ks) (v : WInv p l ks w) (hp : p ≤ 10000) (hl : l ≤ 100000) (hca : b.ca.length = w.cs.length) {r : Nat} {w' : WM} (hs : w.settleN ks 8 = some (r, w')) (o : Own s (worldCells b ks w ++ F))
    (hQ : ∀ b' s', b'.self = b.self → b'.ca = b.ca → Own s' (worldCells b' ks w' ++ F) → Q (.int (r : Nat)) s') : wCall T (n + 6) f_World_settle [.ob b.self] s Q X := by
  refine ⟨fn_World_settle, z.fs, rfl, ?_⟩
  simp only [fn_World_settle, start, List.map, List.length, List.replicate, List.cons_append, List.nil_append]
  have hks : ks.length ≤ 1000 := by have := ko.le; omega
  have hk6 := ko.le
  refine wSs_cons fun N' hN => ?_
  simp
  apply hN; clear hN N'
  refine wSs_cons fun N' hN => ?_
  have fin : ∀ (k : Nat) b' s' x2 x3 x4, b'.self = b.self → b'.ca = b.ca → (k : Int) = r → Own s' (worldCells b' ks w' ++ F) → N' [some (.ob b'.self), some (.int (k : Nat)), x2, x3, x4] s' := by
    intro k b' s' x2 x3 x4 e1 e2 e3 o'
    apply hN
    simp [↓wSs_cons', ↓wSs_nil]
    rw [e3]; exact hQ b' s' e1 e2 o'
  clear hN
  obtain ⟨ps, hps⟩ : ∃ ps, ps = b.self := ⟨_, rfl⟩
  obtain ⟨ca, hca2⟩ : ∃ ca, ca = b.ca := ⟨_, rfl⟩
  rw [← hps, ← hca2] at fin
  rw [← hps]
  rw [wS]
  suffices H : ∀ (f k : Nat) (b1 : WB) (w1 : WM) (s1 : S) x2 x3 x4 p1 l1, b1.self = ps → b1.ca = ca → b1.ca.length = w1.cs.length → WInv p1 l1 ks w1 → p1 + 24 * f ≤ 20000 → l1 + 20000 * f ≤ 300000 → (WM.settleN ks f w1).map (fun x => (x.1 + k, x.2)) = some (r, w') → Own s1 (worldCells b1 ks w1 ++ F) →
      wWh (fun e1 s1 Q => wE T (wCall T (n + 5)) (.not (.mth a_is_settled (.loc 0) .nil)) e1 s1 (fun d s2 => ∃ k, d = .bl k ∧ Q k s2) (fun c => X c)) (fun e1 s1 N1 => wSs T (wCall T (n + 5)) (.cons (.setv 1 (.bin .Add (.loc 1) (.int 1))) (.cons (.fr true (some 2) [] (.int 2) (.cons (.exp (.mth a_write (.loc 0) (.cons (.loc 2) .nil))) .nil)) (.cons (.fr true (some 2) [] (.int 2) (.cons (.exp (.mth a_nudge (.loc 0) (.cons (.loc 2) .nil))) .nil)) (.cons (.fr false (some 3) [] (.fld (.loc 0) a_callers) (.cons (.ite (.cmp .IsNot (.mth a_asking (.loc 3) .nil) .non) (.cons (.exp (.bm .append (.fld (.loc 0) a_under_way) (.cons (.mth a_letter (.loc 3) (.cons (.int 0) .nil)) .nil))) (.cons (.exp (.bm .append (.fld (.loc 0) a_under_way) (.cons (.mth a_letter (.loc 3) (.cons (.int 1) .nil)) .nil))) .nil)) .nil) .nil)) (.cons (.fr true (some 4) [] (.blt .len (.cons (.fld (.loc 0) a_under_way) .nil)) (.cons (.exp (.mth a_hand (.loc 0) (.cons (.int 0) .nil))) .nil)) .nil))))) e1 s1 N1 Q (fun c _ => X c)) f
        [some (.ob ps), some (.int (k : Nat)), x2, x3, x4] s1 N' by
    exact H 8 0 b w s none none none p l hps.symm hca2.symm hca v (by omega) (by omega) (by rw [hs]; rfl) o
  intro f
  induction f with
  | zero => intro k b1 w1 s1 x2 x3 x4 p1 l1 a1 a2 a3 v hp1 hl1 hs1 o1; simp [WM.settleN] at hs1
  | succ f ih =>
    intro k b1 w1 s1 x2 x3 x4 p1 l1 a1 a2 a3 v hp1 hl1 hs1 o1
    refine wWh_succ fun NW hNW => ?_
    rw [← a1]
    simp [↓mthQ_of o1.head z.mi rfl]
    refine World_is_settled_ok (n := n + 1) t.toWTab t.HA z.fi z.mo z.fo ko a3 o1 fun s2 o2 => ?_
    unfold WM.settleN at hs1
    cases hsb : w1.settledB ks with
    | true =>
      rw [hsb] at hs1
      simp at hs1
      obtain ⟨e1, e2⟩ := hs1
      subst e2
      simp
      exact fin k b1 s2 x2 x3 x4 a1 a2 (by omega) o2
    | false =>
      rw [hsb] at hs1
      simp only [Bool.false_eq_true, if_false, Option.map_map] at hs1
      simp
      have hc6 := v.c6
      -- writes
      refine wSs_cons fun N1 hN1 => ?_
      try simp
      apply hN1; clear hN1 N1
      refine wSs_cons fun N1 hN1 => ?_
      simp
      obtain ⟨qs, hqs⟩ : ∃ qs, qs = b1.self := ⟨_, rfl⟩
      rw [← hqs]
      refine wFor_map (List.range 2) (fun (i : Nat) => D.int (i : Nat)) (fun pre e s' => ∃ (b' : WB), b'.self = qs ∧ b'.ca = b1.ca ∧ WInv p1 l1 ks (pre.foldl (fun w (i : Nat) => w.write i) w1) ∧ (pre.foldl (fun w (i : Nat) => w.write i) w1).cs.length = w1.cs.length ∧
          Own s' (worldCells b' ks (pre.foldl (fun w (i : Nat) => w.write i) w1) ++ F) ∧ ∃ y2, e = [some (.ob qs), some (.int ((k : Int) + 1)), y2, x3, x4]) ⟨b1, hqs.symm, rfl, v, rfl, o2, _, rfl⟩ ?_ ?_
      · intro pre i post e s3 K hm ⟨b', c1, c2, v', cl, o3, y2, he⟩ hK
        subst he
        refine ⟨trivial, _, rfl, ?_⟩
        have hi : ((i : Int) = 0 ∨ (i : Int) = 1) := by
          have : i ∈ List.range 2 := by rw [hm]; simp
          have := List.mem_range.mp this
          omega
        refine wSs_cons fun N2 hN2 => ?_
        rw [← c1]
        simp [↓mthQ_of o3.head t.mh rfl]
        refine World_write_ok (n := n + 2) t.toWTab t.fh (v'.bd (by rw [c2, cl]; exact a3)) (by omega) hi o3 fun b4 s4 d1 d2 o4 => ?_
        apply hN2; rw [wSs_nil]
        refine hK _ _ ⟨b4, d1.trans c1, d2.trans c2, ?_, ?_, ?_, _, by rw [c1]⟩
        · rw [List.foldl_append]; exact v'.write hi
        · rw [List.foldl_append]; show ((List.foldl _ w1 pre).write i).cs.length = _; rw [← cl]; simp [WM.write, setH_cs]
        · rw [List.foldl_append]; exact o4
      intro e s3 ⟨b3, c1, c2, v3, cl3, o3, y2, he⟩
      subst he
      refine ⟨trivial, ?_⟩
      apply hN1; clear hN1 N1
      have ew : (List.range 2).foldl (fun w (i : Nat) => w.write i) w1 = (w1.write 0).write 1 := rfl
      rw [ew] at v3 cl3 o3
      generalize hw3 : (w1.write 0).write 1 = w3 at v3 cl3 o3
      -- nudges
      refine wSs_cons fun N1 hN1 => ?_
      simp
      refine wFor_map (List.range 2) (fun (i : Nat) => D.int (i : Nat)) (fun pre e s' => WInv (p1 + 6 * pre.length) l1 ks (pre.foldl (fun w (i : Nat) => w.nudge ks i) w3) ∧ (pre.foldl (fun w (i : Nat) => w.nudge ks i) w3).cs.length = w1.cs.length ∧
          Own s' (worldCells b3 ks (pre.foldl (fun w (i : Nat) => w.nudge ks i) w3) ++ F) ∧ ∃ y2, e = [some (.ob qs), some (.int ((k : Int) + 1)), y2, x3, x4]) ⟨v3, cl3, o3, _, rfl⟩ ?_ ?_
      · intro pre i post e s4 K hm ⟨v', cl, o4, y2, he⟩ hK
        subst he
        refine ⟨trivial, _, rfl, ?_⟩
        have hlen : pre.length < 2 := by have := congrArg List.length hm; simp at this; omega
        have hi : ((i : Int) = 0 ∨ (i : Int) = 1) := by
          have : i ∈ List.range 2 := by rw [hm]; simp
          have := List.mem_range.mp this
          omega
        refine wSs_cons fun N2 hN2 => ?_
        rw [← c1]
        simp [↓mthQ_of o4.head t.mg rfl]
        refine World_nudge_ok (n := n + 1) t.toWTab t.HA t.fg (v'.bd (by rw [c2, cl]; exact a3)) (by omega) hks hi o4 fun s5 o5 => ?_
        apply hN2; rw [wSs_nil]
        refine hK _ _ ⟨?_, ?_, ?_, _, by rw [c1]⟩
        · rw [List.foldl_append]; exact (v'.nudge i).up (by simp; omega) (by omega)
        · rw [List.foldl_append]; exact cl
        · rw [List.foldl_append]; exact o5
      intro e s4 ⟨v4, cl4, o4, y2, he⟩
      subst he
      refine ⟨trivial, ?_⟩
      apply hN1; clear hN1 N1
      have en : (List.range 2).foldl (fun w (i : Nat) => w.nudge ks i) w3 = (w3.nudge ks 0).nudge ks 1 := rfl
      rw [en] at v4 cl4 o4
      generalize hw4 : (w3.nudge ks 0).nudge ks 1 = w4 at v4 cl4 o4
      have hca4 : b3.ca.length = w4.cs.length := by rw [c2, cl4]; exact a3
      -- letters of open calls
      refine wSs_cons fun N1 hN1 => ?_
      rw [← c1]
      simp [↓ins_of o4.head]
      have lcl : s4 b3.cl = some (.lst (callerObs b3.ca)) := o4.tail.tail.tail.head
      simp only [↓itL_of lcl]
      have hp4 := v4.pot
      simp at hp4
      refine wFor_map b3.ca (fun a => D.ob a.1) (fun pre e s' => Own s' (worldCells b3 ks { w4 with post := w4.post ++ (w4.cs.take pre.length).flatMap askTwo } ++ F) ∧ ∃ y3, e = [some (.ob b3.self), some (.int ((k : Int) + 1)), y2, y3, x4]) ⟨by simpa using o4, _, rfl⟩ ?_ ?_
      · intro pre a post e s5 K hm ⟨o5, y3, he⟩ hK
        subst he
        refine ⟨o5.tail.tail.tail.head, _, rfl, ?_⟩
        have ha : b3.ca[pre.length]? = some a := by rw [hm]; simp
        have hlt : pre.length < w4.cs.length := by rw [← hca4, hm]; simp
        have hpl : pre.length ≤ 6 := by have := v4.c6; omega
        have et : w4.cs.take (pre.length + 1) = w4.cs.take pre.length ++ [w4.cm pre.length] := by
          rw [List.take_succ, WM.cm_some hlt]; rfl
        have hfl : ((w4.cs.take pre.length).flatMap askTwo).length ≤ 12 := by
          have := flat_len (cs := w4.cs.take pre.length)
          have h2 := List.length_take_le pre.length w4.cs
          omega
        have hfin : ∀ (l : List Letter) s', askTwo (w4.cm pre.length) = l → Own s' (worldCells b3 ks { w4 with post := (w4.post ++ (w4.cs.take pre.length).flatMap askTwo) ++ l } ++ F) → K [some (.ob b3.self), some (.int ((k : Int) + 1)), y2, some (.ob a.1), x4] s' := by
          intro l s' el o'
          refine hK _ _ ⟨?_, _, rfl⟩
          rw [List.length_append, List.length_singleton, et, List.flatMap_append, List.flatMap_singleton, el, ← List.append_assoc]
          exact o'
        have hPl : (w4.post ++ (w4.cs.take pre.length).flatMap askTwo).length ≤ 100000 := by rw [List.length_append]; omega
        generalize w4.post ++ (w4.cs.take pre.length).flatMap askTwo = P at o5 hfin hPl
        clear hK
        have oc := takeC ha (WM.cm_some (w := { w4 with post := P }) hlt) o5
        have ecm : WM.cm { w4 with post := P } pre.length = w4.cm pre.length := rfl
        rw [ecm] at oc
        refine wSs_cons fun N2 hN2 => ?_
        simp [↓mthQ_of oc.head t.C.m1 rfl]
        refine Caller_asking_ok t.C.g1 oc ?_
        cases hasked : (w4.cm pre.length).asked with
        | none =>
          simp
          rw [wSs_nil]
          apply hN2; rw [wSs_nil]
          exact hfin [] s5 (by simp [askTwo, hasked]) (by simpa using o5)
        | some q =>
          simp
          refine wSs_cons fun N3 hN3 => ?_
          simp [↓ins_of o5.head, ↓lst_of o5.tail.tail.tail.tail.head, ↓mthQ_of oc.head t.C.m3 rfl]
          refine Caller_letter_ok t.C.g3 hasked oc ?_
          simp [↓lst_of o5.tail.tail.tail.tail.head]
          refine ⟨by omega, ?_⟩
          have o6 := o5.repl (.there (.there (.there (.there (.here (u' := .lst ((P ++ [askL 0 (w4.cm pre.length).num q]).map Letter.d)))))))
          have e6 : P.map Letter.d ++ [.tup [.str q_call, .int 0, .int (w4.cm pre.length).num, .int q.1, .str q.2.1, q.2.2.d]] = (P ++ [askL 0 (w4.cm pre.length).num q]).map Letter.d := by simp [askL, Letter.d]
          rw [e6]
          generalize up s5 b3.uw _ = s6 at o6 ⊢
          have o6 : Own s6 (worldCells b3 ks { w4 with post := P ++ [askL 0 (w4.cm pre.length).num q] } ++ F) := o6
          apply hN3; clear hN3 N3
          refine wSs_cons fun N3 hN3 => ?_
          have oc6 := takeC ha (WM.cm_some (w := { w4 with post := P ++ [askL 0 (w4.cm pre.length).num q] }) hlt) o6
          have ecm : WM.cm { w4 with post := P ++ [askL 0 (w4.cm pre.length).num q] } pre.length = w4.cm pre.length := rfl
          rw [ecm] at oc6
          have l6 : s6 b3.uw = some (.lst ((P ++ [askL 0 (w4.cm pre.length).num q]).map Letter.d)) := o6.tail.tail.tail.tail.head
          have hP2 : (P ++ [askL 0 (w4.cm pre.length).num q]).length ≤ 100001 := by rw [List.length_append]; simp; omega
          have e7 : (P ++ [askL 0 (w4.cm pre.length).num q]) ++ [askL 1 (w4.cm pre.length).num q] = P ++ [askL 0 (w4.cm pre.length).num q, askL 1 (w4.cm pre.length).num q] := by simp
          generalize P ++ [askL 0 (w4.cm pre.length).num q] = P2 at o6 l6 hP2 oc6 e7
          simp [↓ins_of o6.head, ↓lst_of l6, ↓mthQ_of oc6.head t.C.m3 rfl]
          refine Caller_letter_ok t.C.g3 hasked oc6 ?_
          simp [↓lst_of l6]
          refine ⟨by omega, ?_⟩
          have o7 := o6.repl (.there (.there (.there (.there (.here (u' := .lst ((P2 ++ [askL 1 (w4.cm pre.length).num q]).map Letter.d)))))))
          have e8 : P2.map Letter.d ++ [.tup [.str q_call, .int 1, .int (w4.cm pre.length).num, .int q.1, .str q.2.1, q.2.2.d]] = (P2 ++ [askL 1 (w4.cm pre.length).num q]).map Letter.d := by simp [askL, Letter.d]
          rw [e8]
          generalize up s6 b3.uw _ = s7 at o7 ⊢
          have o7 : Own s7 (worldCells b3 ks { w4 with post := P2 ++ [askL 1 (w4.cm pre.length).num q] } ++ F) := o7
          apply hN3; rw [wSs_nil]
          apply hN2; rw [wSs_nil]
          refine hfin [askL 0 (w4.cm pre.length).num q, askL 1 (w4.cm pre.length).num q] s7 (by simp [askTwo, hasked]) ?_
          rw [← e7]; exact o7
      intro e s5 ⟨o5, y3, he⟩
      subst he
      refine ⟨o5.tail.tail.tail.head, ?_⟩
      apply hN1; clear hN1 N1
      have ea : ({ w4 with post := w4.post ++ (w4.cs.take b3.ca.length).flatMap askTwo } : WM) = w1.round0 ks := by
        rw [hca4, List.take_length, ← hw4, ← hw3]; rfl
      rw [ea] at o5
      have v5 : WInv (p1 + 24) l1 ks (w1.round0 ks) := v.round0
      have hcs5 : (w1.round0 ks).cs.length = w1.cs.length := round0_cs
      have hround : w1.round ks = (w1.round0 ks).handN (w1.round0 ks).post.length := rfl
      generalize w1.round0 ks = w5 at o5 v5 hcs5 hround
      have hp5 := v5.pot
      -- all letters are handed
      refine wSs_cons fun N1 hN1 => ?_
      simp [↓ins_of o5.head, ↓lst_of o5.tail.tail.tail.tail.head]
      refine ⟨by omega, ?_⟩
      refine wFor_map (List.range w5.post.length) (fun (i : Nat) => D.int (i : Nat)) (fun pre e s' => Own s' (worldCells b3 ks (w5.handN pre.length) ++ F) ∧ ∃ y4, e = [some (.ob b3.self), some (.int ((k : Int) + 1)), y2, y3, y4]) ⟨o5, _, rfl⟩ ?_ ?_
      · intro pre i post e s6 K hm ⟨o6, y4, he⟩ hK
        subst he
        refine ⟨trivial, _, rfl, ?_⟩
        have hlen : pre.length < w5.post.length := by have := congrArg List.length hm; simp at this; omega
        have v6 := v5.handN pre.length (by omega)
        have hpo : (w5.handN pre.length).post = w5.post.drop pre.length := handN_post _
        have hcs6 : (w5.handN pre.length).cs.length = w5.cs.length := handN_cs _
        obtain ⟨x, rest, hx⟩ : ∃ x rest, (w5.handN pre.length).post = x :: rest := by
          cases h : (w5.handN pre.length).post with
          | nil => rw [hpo] at h; have := congrArg List.length h; simp at this; omega
          | cons x rest => exact ⟨x, rest, rfl⟩
        have h1 : w5.handN (pre.length + 1) = ((w5.handN pre.length).lose 0).brought x := by
          rw [WM.handN, WM.hand1, hx]
        generalize w5.handN pre.length = w6 at o6 v6 hx h1 hcs6
        refine wSs_cons fun N2 hN2 => ?_
        simp [↓mthQ_of o6.head t.mc rfl]
        have hx0 : w6.post[0]? = some x := by rw [hx]; rfl
        refine World_hand_ok (n := n) t.toWTab t.fc (m := p1 + 24 + (l1 + pre.length)) (v6.bd (by rw [c2, hcs6, hcs5]; exact a3)) (by omega) ko (j := 0) hx0 (v6.post x (List.mem_of_getElem? hx0)) o6 fun s7 o7 => ?_
        apply hN2; rw [wSs_nil]
        refine hK _ _ ⟨?_, _, rfl⟩
        rw [List.length_append, List.length_singleton, h1]
        exact o7
      · intro e s6 ⟨o6, y4, he⟩
        subst he
        refine ⟨trivial, ?_⟩
        apply hN1
        rw [wSs_nil]
        rw [List.length_range] at o6
        rw [← hround] at o6
        have hc7 : (w1.round ks).cs.length = w1.cs.length := round_cs
        have := ih (k + 1) b3 (w1.round ks) s6 y2 y3 y4 (p1 + 24) (l1 + (p1 + 24)) (by rw [c1, hqs, a1]) (by rw [c2, a2]) (by rw [c2, hc7]; exact a3) v.round (by omega) (by omega) ?_ o6
        · rw [c1, hqs, a1]; exact hNW _ _ this
        · rw [← hs1]
          congr 1
          funext x
          simp; omega
end
end MH
set_option Elab.async false
set_option linter.all false
set_option maxRecDepth 100000
/-! Things that are no wishes; exceptions of one class. -/
namespace MH
open PySem L2
abbrev nine : List Nat := [x_BadWorld, x_NoCaller, x_NoHouse, x_NoKey, x_BadWish, x_Busy, x_Idle, x_NotHere, x_NoLetter]
/-- a class of just its own kind -/
structure OneTab (T : Tab) (c : Nat) : Prop where
  mem : c ∈ nine
  me : T.sub c x_MoveError = true
  cc : T.sub c c = true
  ve : T.sub c 999 = true
  no : ∀ k ∈ nine, k ≠ c → T.sub c (k + 2000) = true
theorem nine_lt {k : Nat} (h : k ∈ nine) : k < 998 := by
  have : ∀ k ∈ nine, k < 998 := by decide
  exact this k h
theorem nine_one {c : Nat} (h : c ∈ nine) : (nine.filter fun k => k == c).length = 1 := by
  have : ∀ c ∈ nine, (nine.filter fun k => k == c).length = 1 := by decide
  exact this c h
theorem OneTab.kv {T : Tab} {c : Nat} (o : OneTab T c) : ∀ k ∈ nine, kvOk T c (fun k => k == c) k := fun k hk => by
  by_cases e : k = c
  · subst e
    exact .inl ⟨by simp, by have := nine_lt hk; omega, o.cc⟩
  · exact .inr ⟨by simp [e], nine_lt hk, o.no k hk e⟩
section
variable {T : Tab} {n : Nat} {s : S} {Q : K1} {X : XP}
theorem rPow40 : rBin .Pow (.int 10) (.int 40) s Q = Q (.int 10000000000000000000000000000000000000000) s := by
  show ((0 ≤ (40 : Int) ∧ (Builtin.Int.intBits 10 : Int) * 40 ≤ 2 ^ 27) ∧ Q (.int (10 ^ 40)) s) = _
  apply propext; constructor
  · exact fun h => h.2
  · exact fun h => ⟨⟨by decide, by decide⟩, h⟩
def odd1 : List D := [.non, .tup [], .tup [.str q_get, .int 1], .tup [.str q_set], .tup [.str q_add], .tup [.str q_set, .bl true], .tup [.str q_add, .bl false], .tup [.str q_set, .non], .tup [.str q_add, .str (PySem.Str.ofString "1")]]
def odd2 (far : Int) (a : Addr) : List D := [.tup [.str q_set, .int far], .tup [.str q_add, .int far], .tup [.str q_set, .int (-far)], .tup [.str q_add, .int (-far)], .tup [.str q_set, .int 1, .int 2], .tup [.str q_get, .tup []], .ob a]
def odd3 (b : Addr) : List D := [.ob b, .str q_get, .int 5, .tup [.str (PySem.Str.ofString "Get")], .tup [.str q_take, .int 1], .tup [.int 1, .int 2], .tup [.tup [.str q_get]], .tup [.str q_set, .tup [.int 1]]]
def oddL (far : Int) (a b : Addr) : List D := odd1 ++ odd2 far a ++ odd3 b
theorem whole_as (h : T.fn f_is_whole = some fn_is_whole) {d : D} {b : Bool} (hd : (∃ i, d = .int i ∧ b = true) ∨ ((∃ k, d = .bl k) ∨ d = .non ∨ (∃ x, d = .str x) ∨ (∃ l, d = .tup l) ∨ (∃ a l, d = .ob a ∧ s a = some (.lst l))) ∧ b = false) (hQ : Q (.bl b) s) : wCall T (n + 1) f_is_whole [d] s Q X := by
  refine ⟨fn_is_whole, h, rfl, ?_⟩
  simp only [fn_is_whole, start, List.map, List.length, List.replicate, List.cons_append, List.nil_append]
  rcases hd with ⟨i, e, e2⟩ | ⟨⟨k, e⟩ | e | ⟨k, e⟩ | ⟨k, e⟩ | ⟨k, l, e, hl⟩, e2⟩ <;> subst e <;> subst e2
  all_goals simp [↓wSs_cons', ↓wSs_nil, isTs, isT]
  all_goals first | exact hQ | (simp [hl]; exact hQ)
/-- is_wish says no -/
def NoWish (T : Tab) (x : D) (s : S) : Prop := ∀ (n : Nat) (Q : K1) (X : XP), Q (.bl false) s → wCall T (n + 2) f_is_wish [x] s Q X
theorem odd_no (h2 : T.fn f_is_wish = some fn_is_wish) (h3 : T.fn f_is_whole = some fn_is_whole) {far : Int} (hf : 1000000000000000000000000000000 < far) {a b : Addr} {la lb : List D} (ha : s a = some (.lst la)) (hb : s b = some (.lst lb)) : ∀ x ∈ oddL far a b, NoWish T x s := by
  intro x hx n Q X hQ
  refine ⟨fn_is_wish, h2, rfl, ?_⟩
  simp only [fn_is_wish, start, List.map, List.length, List.replicate, List.cons_append, List.nil_append]
  have k1 : ¬ far < 0 := by omega
  have k2 : ¬ far ≤ 1000000000000000000000000000000 := by omega
  have k3 : -far < 0 := by omega
  have w : ∀ {d : D} {K : K1}, ((∃ k, d = .bl k) ∨ d = .non ∨ (∃ x, d = .str x) ∨ (∃ l, d = .tup l) ∨ (∃ a l, d = .ob a ∧ s a = some (.lst l))) → K (.bl false) s → wCall T (n + 1) f_is_whole [d] s K (fun c => X c) := fun hd hK => whole_as h3 (.inr ⟨hd, rfl⟩) hK
  have w1 : ∀ {i : Int} {K : K1}, K (.bl true) s → wCall T (n + 1) f_is_whole [.int i] s K (fun c => X c) := fun hK => whole_as h3 (.inl ⟨_, rfl, rfl⟩) hK
  simp only [oddL, odd1, odd2, odd3, List.cons_append, List.nil_append, List.mem_cons, List.not_mem_nil, or_false] at hx
  rcases hx with h | h | h | h | h | h | h | h | h | h | h | h | h | h | h | h | h | h | h | h | h | h | h | h <;> subst h
  all_goals simp [↓wSs_cons', ↓wSs_nil, isTs, isT, ha, hb]
  all_goals try exact hQ
  all_goals first
    | (refine w (.inl ⟨_, rfl⟩) ?_; simp; exact hQ)
    | (refine w (.inr (.inl rfl)) ?_; simp; exact hQ)
    | (refine w (.inr (.inr (.inl ⟨_, rfl⟩))) ?_; simp; exact hQ)
    | (refine w (.inr (.inr (.inr (.inl ⟨_, rfl⟩)))) ?_; simp; exact hQ)
    | (refine w1 ?_
       have p1 : 0 < far := by omega
       simp [k1, k2, p1]
       exact hQ)
theorem l_odd_ok (hf : T.fn f_l_odd = some fn_l_odd) {i : Int} (hQ : ∀ far a b la lb x s', 1000000000000000000000000000000 < far → Ext s s' → s' a = some (.lst la) → s' b = some (.lst lb) → x ∈ oddL far a b → Q x s') : wCall T (n + 1) f_l_odd [.int i] s Q X := by
  refine ⟨fn_l_odd, hf, rfl, ?_⟩
  simp only [fn_l_odd, start, List.map, List.length, List.replicate, List.cons_append, List.nil_append]
  refine wSs_cons fun N' hN => ?_
  simp [rPow40]
  apply hN; clear hN N'
  obtain ⟨far, hfar⟩ : ∃ far, far = 1000000000000000000000000000001 + i / 24 % 10000000000000000000000000000000000000000 := ⟨_, rfl⟩
  rw [← hfar]
  have hf : 1000000000000000000000000000000 < far := by omega
  clear hfar
  refine wSs_cons fun N' hN => ?_
  try simp
  intro p1 hp1
  have o1 := (Own.nil (s := s)).new (u := .lst odd1) hp1
  have x1 : Ext s (up s p1 (.lst odd1)) := Ext.new hp1
  show N' _ (up s p1 (.lst odd1))
  generalize up s p1 _ = s1 at o1 x1 ⊢
  apply hN; clear hN N'
  refine wSs_cons fun N' hN => ?_
  try simp
  intro a ha
  have o2 := o1.new (u := .lst [.str q_get]) ha
  have x2 := x1.trans (Ext.new (o := .lst [.str q_get]) ha)
  generalize up s1 a _ = s2 at o2 x2 ⊢
  intro p2 hp2
  have o3 := o2.new (u := .lst (odd2 far a)) hp2
  have x3 := x2.trans (Ext.new (o := .lst (odd2 far a)) hp2)
  show rBin _ _ _ (up s2 p2 (.lst (odd2 far a))) _
  generalize up s2 p2 _ = s3 at o3 x3 ⊢
  have m1 : s3 p1 = some (.lst odd1) := o3.mem (by simp)
  rw [rAddL_of m1 o3.head]
  refine ⟨by simp [odd1, odd2], fun p3 hp3 => ?_⟩
  have o4 := o3.new (u := .lst (odd1 ++ odd2 far a)) hp3
  have x4 := x3.trans (Ext.new (o := .lst (odd1 ++ odd2 far a)) hp3)
  show N' _ (up s3 p3 (.lst (odd1 ++ odd2 far a)))
  generalize up s3 p3 _ = s4 at o4 x4 ⊢
  apply hN; clear hN N'
  refine wSs_cons fun N' hN => ?_
  try simp
  intro b hb
  have o5 := o4.new (u := .lst [.str q_set, .int 1]) hb
  have x5 := x4.trans (Ext.new (o := .lst [.str q_set, .int 1]) hb)
  generalize up s4 b _ = s5 at o5 x5 ⊢
  intro p4 hp4
  have o6 := o5.new (u := .lst (odd3 b)) hp4
  have x6 := x5.trans (Ext.new (o := .lst (odd3 b)) hp4)
  show rBin _ _ _ (up s5 p4 (.lst (odd3 b))) _
  generalize up s5 p4 _ = s6 at o6 x6 ⊢
  have m2 : s6 p3 = some (.lst (odd1 ++ odd2 far a)) := o6.mem (by simp)
  rw [rAddL_of m2 o6.head]
  refine ⟨by simp [odd1, odd2, odd3], fun p5 hp5 => ?_⟩
  have o7 := o6.new (u := .lst (oddL far a b)) hp5
  have x7 := x6.trans (Ext.new (o := .lst (oddL far a b)) hp5)
  show N' _ (up s6 p5 (.lst (oddL far a b)))
  generalize up s6 p5 _ = s7 at o7 x7 ⊢
  apply hN; clear hN N'
  simp [↓wSs_cons', ↓wSs_nil, ↓lst_of o7.head]
  have hl : (oddL far a b).length = 24 := rfl
  have h0 : 0 ≤ i % 24 ∧ i % 24 < 24 := by omega
  obtain ⟨j, hj⟩ : ∃ j : Nat, i % 24 = j := ⟨(i % 24).toNat, by omega⟩
  rw [hj]
  have hjl : j < (oddL far a b).length := by omega
  rw [atD_nat (List.getElem?_eq_getElem hjl), putQ_some]
  exact hQ far a b _ _ _ s7 hf x7 (o7.mem (u := .lst [.str q_get]) (by simp)) (o7.mem (u := .lst [.str q_set, .int 1]) (by simp)) (List.getElem_mem _)
end
end MH
set_option Elab.async false
set_option linter.all false
set_option maxRecDepth 100000
/-! Things of any kind that are handed in. -/
namespace MH
open PySem L2
def Arg (s : S) (d : D) : Prop := (∃ i, d = .int i) ∨ ((∃ k, d = .bl k) ∨ d = .non ∨ (∃ x, d = .str x) ∨ (∃ l, d = .tup l) ∨ (∃ a l, d = .ob a ∧ s a = some (.lst l)))
def isI : D → Bool
  | .int _ => true
  | _ => false
theorem Arg.ext {s s' : S} {d : D} (h : Arg s d) (x : Ext s s') : Arg s' d := by
  rcases h with h | h | h | h | h | ⟨a, l, h, e⟩
  · exact .inl h
  · exact .inr (.inl h)
  · exact .inr (.inr (.inl h))
  · exact .inr (.inr (.inr (.inl h)))
  · exact .inr (.inr (.inr (.inr (.inl h))))
  · exact .inr (.inr (.inr (.inr (.inr ⟨a, l, h, x _ _ e⟩))))
/-- anything a list may hold -/
def Elt (s : S) (d : D) : Prop := Arg s d ∨ ∃ a kvs, d = .ob a ∧ s a = some (.dK kvs)
theorem Elt.ext {s s' : S} {d : D} (h : Elt s d) (x : Ext s s') : Elt s' d := by
  rcases h with h | ⟨a, l, h, e⟩
  · exact .inl (h.ext x)
  · exact .inr ⟨a, l, h, x _ _ e⟩
theorem Elt.str {s : S} {d : D} (h : Elt s d) : (∃ z, d = .str z) ∨ ((∀ z, d ≠ .str z) ∧ isTs s d [.str] = some false) := by
  rcases h with (⟨i, h⟩ | ⟨k, h⟩ | h | ⟨z, h⟩ | ⟨l, h⟩ | ⟨a, l, h, e⟩) | ⟨a, l, h, e⟩ <;> subst h
  · exact .inr ⟨(fun _ h => by cases h), rfl⟩
  · exact .inr ⟨(fun _ h => by cases h), rfl⟩
  · exact .inr ⟨(fun _ h => by cases h), rfl⟩
  · exact .inl ⟨z, rfl⟩
  · exact .inr ⟨(fun _ h => by cases h), rfl⟩
  · exact .inr ⟨(fun _ h => by cases h), by simp [isTs, isT, e]⟩
  · exact .inr ⟨(fun _ h => by cases h), by simp [isTs, isT, e]⟩
def StrIn (d : D) : Prop := ∀ z, d = .str z → PyData.strOk z = true ∧ z.length ≤ 1000
/-- a text that may be a key -/
def goodKey (z : Str) : Prop := 1 ≤ z.length ∧ z.length ≤ 8 ∧ ∀ c ∈ z.cps.toList, 97 ≤ c ∧ c < 123
def goodList (es : List D) : Prop := ∃ ks, es = ks.map .str ∧ KeysOk ks
def goodCount (d : D) : Prop := ∃ c : Nat, d = .int c ∧ 1 ≤ c ∧ c ≤ 6
theorem mem_abc {c : Nat} : c ∈ (mkS abcL).cps.toList ↔ 97 ≤ c ∧ c < 123 := by
  simp only [mkS, abcL, List.mem_map, List.mem_range]
  constructor
  · rintro ⟨a, h1, h2⟩; omega
  · rintro ⟨h1, h2⟩; exact ⟨c - 97, by omega, by omega⟩
theorem map_inj_str : ∀ {l m : List Str}, l.map D.str = m.map D.str → l = m
  | [], [], _ => rfl
  | [], _ :: _, h => by cases h
  | _ :: _, [], h => by cases h
  | a :: l, b :: m, h => by
    rw [List.map_cons, List.map_cons] at h
    injection h with h1 h2
    injection h1 with h1
    rw [h1, map_inj_str h2]
theorem wItems_self {f : D → S → (Option D → S → Prop) → Prop} {ok : S → Prop} {Q : List D → S → Prop} (as : List D) (h : D → D) {s : S}
    (hk : ∀ s', Ext s s' → ok s')
    (hs : ∀ a s' (K : Option D → S → Prop), a ∈ as → Ext s s' → (∀ s2, Ext s' s2 → K (some (h a)) s2) → f a s' K)
    (hN : ∀ s', Ext s s' → Q (as.map h) s') : wItems f ok as [] s Q := by
  have := wItems_map (f := f) (ok := ok) (Q := Q) as id h hk hs hN
  rwa [List.map_id] at this
section
variable {T : Tab} {n : Nat} {s : S} {Q : K1} {X : XP}
@[simp ↓] theorem rNotInS {c : Nat} {z : Str} : rCmp .NotIn (.str ⟨#[c]⟩) (.str z) s Q = Q (.bl !(decide (c ∈ z.cps.toList))) s := propext ⟨fun ⟨c', h, q⟩ => by cases h; exact q, fun q => ⟨c, rfl, q⟩⟩
theorem rPow20 : rBin .Pow (.int 10) (.int 20) s Q = Q (.int 100000000000000000000) s := by
  show ((0 ≤ (20 : Int) ∧ (Builtin.Int.intBits 10 : Int) * 20 ≤ 2 ^ 27) ∧ Q (.int (10 ^ 20)) s) = _
  apply propext; constructor
  · exact fun h => h.2
  · exact fun h => ⟨⟨by decide, by decide⟩, h⟩
theorem whole_arg (h : T.fn f_is_whole = some fn_is_whole) {d : D} (hd : Arg s d) (hQ : Q (.bl (isI d)) s) : wCall T (n + 1) f_is_whole [d] s Q X := by
  rcases hd with ⟨i, rfl⟩ | hd
  · exact whole_as h (.inl ⟨i, rfl, rfl⟩) hQ
  · have : isI d = false := by rcases hd with ⟨k, h⟩ | h | ⟨z, h⟩ | ⟨l, h⟩ | ⟨a, l, h, e⟩ <;> subst h <;> rfl
    rw [this] at hQ; exact whole_as h (.inr ⟨hd, rfl⟩) hQ
theorem l_whole_arg (h : T.fn f_l_whole = some fn_l_whole) {d : D} (hd : Arg s d) (hQ : Q (.bl (isI d)) s) : wCall T (n + 1) f_l_whole [d] s Q X := by
  refine ⟨fn_l_whole, h, rfl, ?_⟩
  simp only [fn_l_whole, start, List.map, List.length, List.replicate, List.cons_append, List.nil_append]
  rcases hd with ⟨i, h⟩ | ⟨k, h⟩ | h | ⟨z, h⟩ | ⟨l, h⟩ | ⟨a, l, h, e⟩ <;> subst h
  all_goals simp [↓wSs_cons', ↓wSs_nil, isTs, isT]
  all_goals first | exact hQ | (simp [e]; exact hQ)
theorem is_key_no (h : T.fn f_is_key = some fn_is_key) {d : D} (hd : Elt s d) (hl : StrIn d) (hk : ∀ z, d = .str z → ¬ goodKey z) (hQ : ∀ s', Ext s s' → Q (.bl false) s') : wCall T (n + 1) f_is_key [d] s Q X := by
  refine ⟨fn_is_key, h, rfl, ?_⟩
  simp only [fn_is_key, start, List.map, List.length, List.replicate, List.cons_append, List.nil_append, abc_eq]
  rcases hd.str with ⟨z, rfl⟩ | ⟨_, ht⟩
  · obtain ⟨_, hz⟩ := hl z rfl
    have hz3 : z.length ≤ 16777216 := by omega
    by_cases h1 : 1 ≤ z.length ∧ z.length ≤ 8
    · have k1 : (1 : Int) ≤ (z.length : Int) := by omega
      have k2 : (z.length : Int) ≤ 8 := by omega
      have hno : ¬ ∀ c ∈ z.cps.toList, 97 ≤ c ∧ c < 123 := fun h => hk z rfl ⟨h1.1, h1.2, h⟩
      refine wSs_cons fun N' hN => ?_
      simp [isTs, isT, k1, k2, hz3]
      rw [wSs_nil]
      apply hN; clear hN N'
      refine wSs_cons fun N' hN => ?_
      simp [wE_lc]
      refine ⟨by show z.cps.size ≤ _; exact hz3, ?_⟩
      refine wItems_map z.cps.toList (fun c => D.str ⟨#[c]⟩) (fun c => D.bl (decide (c ∈ (mkS abcL).cps.toList))) (fun _ _ => trivial) ?_ ?_
      · intro c s1 K hc x1 hK
        simp
        simpa using hK _ (Ext.refl _)
      · intro s1 x1 p hp
        have e : List.map (fun c => D.bl (decide (c ∈ (mkS abcL).cps.toList))) z.cps.toList = (z.cps.toList.map fun c => decide (c ∈ (mkS abcL).cps.toList)).map .bl := by simp
        rw [e]
        refine (rAll_of up_same).mpr ?_
        have : (z.cps.toList.map fun c => decide (c ∈ (mkS abcL).cps.toList)).all id = false := by
          rw [List.all_eq_false]
          rw [Classical.not_forall] at hno
          obtain ⟨c, hc⟩ := hno
          rw [Classical.not_imp] at hc
          exact ⟨_, List.mem_map.mpr ⟨c, hc.1, rfl⟩, by simp only [id, mem_abc, hc.2]; decide⟩
        rw [this]
        exact hQ _ (x1.up hp)
    · refine wSs_cons fun N' hN => ?_
      by_cases h2 : 1 ≤ z.length
      · have k1 : (1 : Int) ≤ (z.length : Int) := by omega
        have k2 : ¬ (z.length : Int) ≤ 8 := by omega
        simp [isTs, isT, k1, k2, hz3, ↓wSs_cons', ↓wSs_nil]
        exact hQ _ (Ext.refl _)
      · have k1 : ¬ (1 : Int) ≤ (z.length : Int) := by omega
        simp [isTs, isT, k1, hz3, ↓wSs_cons', ↓wSs_nil]
        exact hQ _ (Ext.refl _)
  · simp [↓wSs_cons', ↓wSs_nil, ht]
    exact hQ _ (Ext.refl _)
theorem take_str {ks : List Str} {k : Nat} : (ks.map D.str).take k = (ks.take k).map D.str := (List.map_take).symm
theorem nodup_take {ks : List Str} {k : Nat} (hk : k < ks.length) (h : (ks.take k).Nodup) (hn : ks[k] ∉ ks.take k) : (ks.take (k + 1)).Nodup := by
  rw [List.take_succ, List.getElem?_eq_getElem hk]
  simp only [Option.toList_some]
  rw [List.nodup_append]
  exact ⟨h, by simp, fun a ha b hb => by rw [List.mem_singleton.mp hb]; exact fun e => hn (e ▸ ha)⟩
theorem any_keys {k : Str} {ks : List Str} : ((ks.map PyData.str).any fun z => PyData.eqv z (.str k)) = decide (k ∈ ks) := by
  rw [List.any_map]
  by_cases h : k ∈ ks
  · rw [decide_eq_true h, List.any_eq_true]; exact ⟨k, h, by simp [PyData.eqv]⟩
  · rw [decide_eq_false h, List.any_eq_false]
    intro j hj
    simp [PyData.eqv]
    exact fun e => h (e ▸ hj)
theorem need_world_bad (h : T.fn f_need_world = some fn_need_world) (h1 : T.fn f_is_key = some fn_is_key) (h2 : T.fn f_is_whole = some fn_is_whole) {ak : Addr} {es : List D} {cv : D}
    (l1 : s ak = some (.lst es)) (he : ∀ d ∈ es, Elt s d ∧ StrIn d) (hl : es.length ≤ 1000) (hc : Arg s cv) (hbad : ¬ (goodList es ∧ goodCount cv)) (hX : ∀ s', Ext s s' → X x_BadWorld s') : wCall T (n + 2) f_need_world [.ob ak, cv] s Q X := by
  refine ⟨fn_need_world, h, rfl, ?_⟩
  simp only [fn_need_world, start, List.map, List.length, List.replicate, List.cons_append, List.nil_append]
  refine wSs_cons fun N' hN => ?_
  by_cases h3 : 1 ≤ es.length ∧ es.length ≤ 6
  · have k1 : (1 : Int) ≤ (es.length : Int) := by omega
    have k2 : (es.length : Int) ≤ 6 := by omega
    simp [isTs, isT, l1, ↓lst_of l1, k1, k2, wE_lc]
    refine ⟨by omega, ?_⟩
    have hkb : ∃ kb : D → Bool, ∀ d, kb d = true ↔ ∃ z, d = .str z ∧ goodKey z := by
      classical
      exact ⟨fun d => decide (∃ z, d = .str z ∧ goodKey z), fun d => by simp⟩
    obtain ⟨kb, hkb⟩ := hkb
    refine wItems_self es (fun d => D.bl (kb d)) (fun s' x => x _ _ l1) ?_ ?_
    · intro d s1 K hd x1 hK
      try simp
      by_cases hg : ∃ z, d = .str z ∧ goodKey z
      · have e := (hkb d).mpr hg
        obtain ⟨z, rfl, hz⟩ := hg
        rw [e] at hK
        exact is_key_ok h1 hz fun s' x => hK s' x
      · have e : kb d = false := by cases hh : kb d with
          | true => exact absurd ((hkb d).mp hh) hg
          | false => rfl
        rw [e] at hK
        exact is_key_no h1 ((he d hd).1.ext x1) (he d hd).2 (fun z hz hgz => hg ⟨z, hz, hgz⟩) fun s' x => hK s' x
    intro s1 x1 p hp
    have e : List.map (fun d => D.bl (kb d)) es = (es.map kb).map .bl := by simp
    rw [e]
    refine (rAll_of up_same).mpr ?_
    have x2 := x1.up (o := .lst ((es.map kb).map .bl)) hp
    generalize up s1 p _ = s2 at x2 ⊢
    cases hall : (es.map kb).all id with
    | false =>
      simp [↓wSs_cons', ↓wSs_nil]
      exact hX _ x2
    | true =>
      simp
      rw [wSs_nil]
      apply hN; clear hN N'
      have hes : ∃ ks : List Str, es = ks.map .str ∧ ∀ k ∈ ks, goodKey k := by
        clear hbad hl h3 k1 k2 l1 x1 hp e x2 he
        induction es with
        | nil => exact ⟨[], rfl, by simp⟩
        | cons d es ih =>
          rw [List.map_cons, List.all_cons, Bool.and_eq_true] at hall
          obtain ⟨z, rfl, hz⟩ := (hkb d).mp hall.1
          obtain ⟨ks, rfl, hks⟩ := ih hall.2
          exact ⟨z :: ks, rfl, fun k hk => by rcases List.mem_cons.mp hk with h | h; exact h ▸ hz; exact hks k h⟩
      obtain ⟨ks, rfl, hks⟩ := hes
      rw [List.length_map] at h3 k1 k2
      have hok : ∀ k ∈ ks, PyData.strOk k = true := fun k hk => ((he (.str k) (List.mem_map.mpr ⟨k, hk, rfl⟩)).2 k rfl).1
      refine wSs_cons fun N' hN => ?_
      simp [↓lst_of (x2 _ _ l1)]
      refine ⟨by omega, ?_⟩
      refine wFor_map (List.range ks.length) (fun (k : Nat) => D.int (k : Nat)) (fun pre e s' => Ext s s' ∧ (ks.take pre.length).Nodup ∧ ∃ x2, e = [some (.ob ak), some cv, x2, none]) ⟨x2, by simp, _, rfl⟩ ?_ ?_
      · intro pre k post e s3 K hm ⟨x3, hnd, y, he2⟩ hK
        subst he2
        refine ⟨trivial, _, rfl, ?_⟩
        have hk : k < ks.length := List.mem_range.mp (by rw [hm]; simp)
        have hkp : k = pre.length := by
          have h2 : (List.range ks.length)[pre.length]? = some k := by rw [hm]; simp
          obtain ⟨h4, h5⟩ := List.getElem?_eq_some_iff.mp h2
          simpa using h5.symm
        subst hkp
        have l3 := x3 _ _ l1
        refine wSs_cons fun N2 hN2 => ?_
        have e1 : atD (ks.map .str) (pre.length : Int) = some (.str ks[pre.length]) := atD_nat (by simp [List.getElem?_eq_getElem hk])
        simp [↓lst_of l3, e1]
        intro q hq
        have x4 := x3.up (o := .lst (cutD (ks.map .str) none (some (pre.length : Int)))) hq
        have l4 : up s3 q (.lst (cutD (ks.map .str) none (some (pre.length : Int)))) q = some (.lst ((ks.take pre.length).map .str)) := by rw [up_same, cutD_take, List.map_take]
        generalize up s3 q _ = s4 at x4 l4 ⊢
        have hpd : ∀ j ∈ ks.take pre.length, PyData.strOk j = true := fun j hj => hok j (List.mem_of_mem_take hj)
        refine .inr ⟨.str ks[pre.length], (ks.take pre.length).map .str, .str _, strs_snap l4, (Pd.str (n := 3) (hok _ (List.getElem_mem hk))).shaped (by omega), (strs_pd (m := 3) hpd).shaped (by omega), ?_⟩
        rw [any_keys]
        by_cases hm2 : ks[pre.length] ∈ ks.take pre.length
        · simp only [hm2, decide_true]
          simp [↓wSs_cons', ↓wSs_nil]
          exact hX _ x4
        · simp only [hm2, decide_false]
          simp
          rw [wSs_nil]
          apply hN2
          rw [wSs_nil]
          exact hK _ _ ⟨x4, by rw [List.length_append, List.length_singleton]; exact nodup_take hk hnd hm2, _, rfl⟩
      · intro e s3 ⟨x3, hnd, y, he2⟩
        subst he2
        refine ⟨trivial, ?_⟩
        apply hN; clear hN N'
        rw [List.length_range, List.take_of_length_le (by omega)] at hnd
        have hgl : goodList (ks.map .str) := ⟨ks, rfl, ⟨h3.1, h3.2, hnd, hks⟩⟩
        refine wSs_cons fun N' hN => ?_
        try simp
        refine whole_arg h2 (hc.ext x3) ?_
        cases cv with
        | int c =>
          have hcc : ¬ (1 ≤ c ∧ c ≤ 6) := fun hh => hbad ⟨hgl, c.toNat, by congr 1; omega, by omega, by omega⟩
          by_cases c1 : 1 ≤ c
          · have c2 : ¬ c ≤ 6 := fun h => hcc ⟨c1, h⟩
            simp [isI, c1, c2, ↓wSs_cons', ↓wSs_nil]
            exact hX _ x3
          · simp [isI, c1, ↓wSs_cons', ↓wSs_nil]
            exact hX _ x3
        | _ =>
          simp [isI, ↓wSs_cons', ↓wSs_nil]
          exact hX _ x3
  · by_cases h4 : 1 ≤ es.length
    · have k1 : (1 : Int) ≤ (es.length : Int) := by omega
      have k2 : ¬ (es.length : Int) ≤ 6 := by omega
      simp [isTs, isT, l1, ↓lst_of l1, k1, k2, ↓wSs_cons', ↓wSs_nil]
      exact hX _ (Ext.refl _)
    · have k1 : ¬ (1 : Int) ≤ (es.length : Int) := by omega
      simp [isTs, isT, l1, ↓lst_of l1, k1, ↓wSs_cons', ↓wSs_nil]
      exact hX _ (Ext.refl _)
theorem need_world_nolist (h : T.fn f_need_world = some fn_need_world) {hd cv : D} (ht : isTs s hd [.list] = some false) (hX : X x_BadWorld s) : wCall T (n + 2) f_need_world [hd, cv] s Q X := by
  refine ⟨fn_need_world, h, rfl, ?_⟩
  simp only [fn_need_world, start, List.map, List.length, List.replicate, List.cons_append, List.nil_append]
  refine wSs_cons fun N' hN => ?_
  simp [ht, ↓wSs_cons', ↓wSs_nil]
  exact hX
end
end MH
set_option Elab.async false
set_option linter.all false
set_option maxRecDepth 100000
/-! law k08: worlds. -/
namespace MH
open PySem L2
def restN (i : Int) : List Nat := (List.range (i / 9 % 9).toNat).map fun (k : Nat) => 97 + ((i / 729 / 26 + 5 * (k : Int)) % 26).toNat
def namesL (i : Int) : List (List Nat) := (List.range (i % 9).toNat).map fun (k : Nat) => (restN i).take (i / 81 % (i / 9 % 9 + 1)).toNat ++ [97 + ((i / 729 + (k : Int)) % 26).toNat] ++ (restN i).drop (i / 81 % (i / 9 % 9 + 1)).toNat
def namesOf (i : Int) : List Str := (namesL i).map mkS
theorem restN_len (i : Int) : (restN i).length = (i / 9 % 9).toNat := by simp [restN]
theorem restN_mem (i : Int) : ∀ c ∈ restN i, 97 ≤ c ∧ c < 123 := by
  intro c hc
  obtain ⟨k, _, rfl⟩ := List.mem_map.mp hc
  omega
theorem strOk_mkS {l : List Nat} (h : ∀ c ∈ l, c < 123) : PyData.strOk (mkS l) = true := by
  simp only [PyData.strOk, Array.all_eq_true', decide_eq_true_eq]
  intro c hc
  have := h c (by simpa [mkS] using hc)
  omega
theorem namesOf_ok (i : Int) : (namesOf i).length ≤ 8 ∧ ∀ k ∈ namesOf i, PyData.strOk k = true ∧ k.length ≤ 1000 := by
  refine ⟨by simp [namesOf, namesL]; omega, fun k hk => ?_⟩
  obtain ⟨l, hl, rfl⟩ := List.mem_map.mp hk
  obtain ⟨j, hj, rfl⟩ := List.mem_map.mp hl
  constructor
  · refine strOk_mkS fun c hc => ?_
    simp only [List.append_assoc, List.mem_append, List.mem_singleton] at hc
    rcases hc with h | h | h
    · exact (restN_mem i c (List.mem_of_mem_take h)).2
    · omega
    · exact (restN_mem i c (List.mem_of_mem_drop h)).2
  · simp [restN_len]; omega
section
variable {T : Tab} {n : Nat} {s : S} {Q : K1} {X : XP}
theorem l_names_ok (h : T.fn f_l_names = some fn_l_names) {i : Int}
    (hQ : ∀ p s1 s', Ext s s1 → s1 p = none → s' = up s1 p (.lst ((namesOf i).map .str)) → Q (.ob p) s') : wCall T (n + 1) f_l_names [.int i] s Q X := by
  refine ⟨fn_l_names, h, rfl, ?_⟩
  simp only [fn_l_names, start, List.map, List.length, List.replicate, List.cons_append, List.nil_append, abc_eq]
  iterate 4
    refine wSs_cons fun N' hN => ?_
    simp
    try (refine ⟨by omega, ?_⟩)
    apply hN; clear hN N'
  refine wSs_cons fun N' hN => ?_
  simp [wE_lc]
  refine ⟨by omega, by omega, by omega, ?_⟩
  refine wItems_map (List.range (i / 9 % 9).toNat) (fun (k : Nat) => D.int (k : Nat)) (fun (k : Nat) => D.str (mkS [97 + ((i / 729 / 26 + 5 * (k : Int)) % 26).toNat])) (fun _ _ => trivial) ?_ ?_
  · intro k s1 K hk e1 hK
    simp
    exact abc_at (by omega) (hK _ (Ext.refl _))
  intro s1 x1 p hp
  refine ⟨_, _, up_same, strsD_map _ _, by
    have : (PySem.Str.ofString "").length = 0 := by decide +kernel
    rw [List.map_map, this]; simp [Function.comp_def, List.map_const']; omega, ?_⟩
  apply hN; clear hN N'
  have x2 := x1.up (o := .lst (List.map (fun (k : Nat) => D.str (mkS [97 + ((i / 729 / 26 + 5 * (k : Int)) % 26).toNat])) (List.range (i / 9 % 9).toNat))) hp
  generalize up s1 p _ = s2 at x2 ⊢
  have e : Txt.join (PySem.Str.ofString "") (List.map (fun k : Nat => mkS [97 + ((i / 729 / 26 + 5 * (k : Int)) % 26).toNat]) (List.range (i / 9 % 9).toNat)) = mkS (restN i) := by
    rw [← glued_nil, restN, List.map_map]; rfl
  rw [e]
  have hr := restN_len i
  refine wSs_cons fun N' hN => ?_
  simp [wE_lc, mkS_app, hr]
  refine ⟨by omega, by omega, by omega, ?_⟩
  refine wItems_map (List.range (i % 9).toNat) (fun (k : Nat) => D.int (k : Nat)) (fun (k : Nat) => D.str (mkS ((restN i).take (i / 81 % (i / 9 % 9 + 1)).toNat ++ [97 + ((i / 729 + (k : Int)) % 26).toNat] ++ (restN i).drop (i / 81 % (i / 9 % 9 + 1)).toNat))) (fun _ _ => trivial) ?_ ?_
  · intro k s1 K hk e1 hK
    simp [mkS_app, hr]
    have h0 : 0 ≤ i / 81 % (i / 9 % 9 + 1) := Int.emod_nonneg _ (by omega)
    have h1 : i / 81 % (i / 9 % 9 + 1) < (i / 9 % 9 + 1) := Int.emod_lt_of_pos _ (by omega)
    rw [mkS_cut h0, mkS_cut2 h0]
    refine ⟨by omega, abc_at (by omega) ?_⟩
    simp only [rAddS, mkS_app, mkS_len, List.length_take, List.length_append, List.length_drop, hr, List.length_singleton, le_line]
    exact ⟨by omega, by omega, by omega, hK _ (Ext.refl _)⟩
  · intro s3 x3 p hp
    refine hQ p s3 _ (x2.trans x3) hp ?_
    simp [namesOf, namesL]; rfl
/-! things that are no keys -/
def oddE (z : Str) (a b : Addr) : List D := [.str (PySem.Str.ofString ""), .non, .int 5, .ob a, .tup [.str q_a], .str q_abcdefghi, .str z, .str (q_a ++ z), .str (z ++ q_bc), .str (q_ab ++ z), .bl true, .ob b]
theorem app_len {a b : Str} : (a ++ b).length = a.length + b.length := by
  show (Str.append a b).length = _
  simp [Str.append, Str.length]
theorem app_ok {a b : Str} (ha : PyData.strOk a = true) (hb : PyData.strOk b = true) : PyData.strOk (a ++ b) = true := by
  show PyData.strOk (Str.append a b) = true
  simp only [PyData.strOk, Str.append, Array.all_append, Bool.and_eq_true] at *
  exact ⟨ha, hb⟩
theorem odd_s : ∃ z : Str, z = PySem.Str.ofString " !\"#$&'()*+,-./0123456789:;<=>?@ABCDEFGHIJKLMNOPQRSTUVWXYZ[\\]^_`{|}~\n\t" ∧ 1 ≤ z.length ∧ z.length ≤ 100 ∧ ∀ c ∈ z.cps.toList, c < 123 ∨ c < 1000 := ⟨_, rfl, by decide +kernel, by decide +kernel, by decide +kernel⟩
theorem l_odd8_ok (hf : T.fn f_l_odd_k08 = some fn_l_odd_k08) {i : Int} {p : Addr} {ks : List Str} (hk : ∀ k ∈ ks, PyData.strOk k = true ∧ k.length ≤ 1000) (l1 : s p = some (.lst (ks.map .str)))
    (hQ : ∀ x s', Ext s s' → Elt s' x → StrIn x → (∀ a, x = .ob a → s a = none) → Q x s') : wCall T (n + 1) f_l_odd_k08 [.int i, .ob p] s Q X := by
  refine ⟨fn_l_odd_k08, hf, rfl, ?_⟩
  simp only [fn_l_odd_k08, start, List.map, List.length, List.replicate, List.cons_append, List.nil_append]
  obtain ⟨z0, hz0, hz1, hz2, hz3⟩ := odd_s
  rw [← hz0]
  refine wSs_cons fun N' hN => ?_
  simp
  apply hN; clear hN N'
  refine wSs_cons fun N' hN => ?_
  have hz4 : z0.length ≤ 16777216 := by omega
  have hz5 : 0 < z0.length := by omega
  simp [hz4, hz5]
  have hj0 : 0 ≤ i / 12 % (z0.length : Int) := Int.emod_nonneg _ (by omega)
  have hj1 : i / 12 % (z0.length : Int) < z0.length := Int.emod_lt_of_pos _ (by omega)
  obtain ⟨j, hj⟩ : ∃ j : Nat, i / 12 % (z0.length : Int) = j := ⟨(i / 12 % (z0.length : Int)).toNat, by omega⟩
  have hjl : j < z0.cps.toList.length := by show j < z0.cps.size; have : z0.cps.size = z0.length := rfl; omega
  have hat : atI z0.cps.toList (j : Int) = some z0.cps.toList[j] := by
    unfold atI ixN
    rw [if_pos (by omega), if_pos (by omega)]
    simp [hjl]
  rw [hj]
  refine ⟨_, _, rfl, by simpa using hz4, hat, ?_⟩
  have hc := hz3 _ (List.getElem_mem hjl)
  generalize z0.cps.toList[j] = c at hc
  apply hN; clear hN N'
  obtain ⟨z, hz⟩ : ∃ z : Str, z = ⟨#[c]⟩ := ⟨_, rfl⟩
  rw [← hz]
  have zl : z.length = 1 := by rw [hz]; rfl
  have zk : PyData.strOk z = true := by rw [hz]; simp [PyData.strOk]; omega
  have la : q_a.length = 1 := by decide +kernel
  have lbc : q_bc.length = 2 := by decide +kernel
  have lab : q_ab.length = 2 := by decide +kernel
  refine wSs_cons fun N' hN => ?_
  simp
  intro a ha
  have x1 := Ext.new (o := .lst [.str q_a]) ha
  have la1 : up s a (.lst [.str q_a]) a = some (.lst [.str q_a]) := up_same
  generalize up s a _ = s1 at x1 la1 ⊢
  simp [zl, la, lbc, lab]
  intro b hb
  have x2 := x1.trans (Ext.new (o := .dK []) hb)
  have la2 := (Ext.new (o := .dK []) hb) _ _ la1
  have lb2 : up s1 b (.dK []) b = some (.dK []) := up_same
  generalize up s1 b _ = s2 at x2 la2 lb2 ⊢
  intro p1 hp1
  have x3 := x2.trans (Ext.new (o := .lst (oddE z a b)) hp1)
  have la3 := (Ext.new (o := .lst (oddE z a b)) hp1) _ _ la2
  have lb3 := (Ext.new (o := .lst (oddE z a b)) hp1) _ _ lb2
  have lp3 : up s2 p1 (.lst (oddE z a b)) p1 = some (.lst (oddE z a b)) := up_same
  show rIdx (.ob p1) _ (up s2 p1 (.lst (oddE z a b))) _
  generalize up s2 p1 _ = s3 at x3 la3 lb3 lp3 ⊢
  have hl12 : (oddE z a b).length = 12 := rfl
  obtain ⟨m, hm⟩ : ∃ m : Nat, i % 12 = m := ⟨(i % 12).toNat, by omega⟩
  have hml : m < (oddE z a b).length := by omega
  rw [hm, rIdxL_of lp3, atD_nat (List.getElem?_eq_getElem hml), putQ_some]
  have bn : s b = none := x1.no hb
  have hx : ∀ x ∈ oddE z a b, Elt s3 x ∧ StrIn x ∧ ∀ q, x = .ob q → s q = none := by
    intro x hx
    simp only [oddE, List.mem_cons, List.not_mem_nil, or_false] at hx
    have sk : ∀ y : Str, PyData.strOk y = true → y.length ≤ 1000 → Elt s3 (.str y) ∧ StrIn (.str y) ∧ ∀ q, D.str y = .ob q → s q = none := fun y h1 h2 => ⟨.inl (.inr (.inr (.inr (.inl ⟨y, rfl⟩)))), fun w hw => by cases hw; exact ⟨h1, h2⟩, fun q hq => by cases hq⟩
    rcases hx with h | h | h | h | h | h | h | h | h | h | h | h <;> subst h
    · exact sk _ (by decide +kernel) (by decide +kernel)
    · exact ⟨.inl (.inr (.inr (.inl rfl))), (fun _ h => by cases h), (fun _ h => by cases h)⟩
    · exact ⟨.inl (.inl ⟨_, rfl⟩), (fun _ h => by cases h), (fun _ h => by cases h)⟩
    · exact ⟨.inl (.inr (.inr (.inr (.inr (.inr ⟨_, _, rfl, la3⟩))))), (fun _ h => by cases h), (fun _ h => by cases h; exact ha)⟩
    · exact ⟨.inl (.inr (.inr (.inr (.inr (.inl ⟨_, rfl⟩))))), (fun _ h => by cases h), (fun _ h => by cases h)⟩
    · exact sk _ (by decide +kernel) (by decide +kernel)
    · exact sk _ zk (by omega)
    · exact sk _ (app_ok (by decide +kernel) zk) (by rw [app_len]; omega)
    · exact sk _ (app_ok zk (by decide +kernel)) (by rw [app_len]; omega)
    · exact sk _ (app_ok (by decide +kernel) zk) (by rw [app_len]; omega)
    · exact ⟨.inl (.inr (.inl ⟨_, rfl⟩)), (fun _ h => by cases h), (fun _ h => by cases h)⟩
    · exact ⟨.inr ⟨_, _, rfl, lb3⟩, (fun _ h => by cases h), (fun _ h => by cases h; exact bn)⟩
  have hx := hx _ (List.getElem_mem hml)
  generalize (oddE z a b)[m] = x at hx
  apply hN; clear hN N'
  have lk3 := x3 _ _ l1
  refine wSs_cons fun N' hN => ?_
  by_cases h4 : i / 1009 % 3 = 1
  · by_cases h5 : 0 < ks.length
    · simp [h4, ↓lst_of lk3, h5]
      refine wSs_cons fun N2 hN2 => ?_
      obtain ⟨k, hk1, _, _, hk2⟩ := key_at (ks := ks) (by omega) (i := i / 3027)
      simp [↓lst_of lk3, h5, hk2]
      apply hN2; rw [wSs_nil]
      apply hN
      simp [↓wSs_cons', ↓wSs_nil]
      exact hQ _ _ x3 (.inl (.inr (.inr (.inr (.inl ⟨_, rfl⟩))))) (fun w hw => by cases hw; exact hk k hk1) (fun _ h => by cases h)
    · simp [h4, ↓lst_of lk3, h5]
      rw [wSs_nil]
      apply hN
      simp [↓wSs_cons', ↓wSs_nil]
      exact hQ _ _ x3 hx.1 hx.2.1 hx.2.2
  · simp [h4]
    rw [wSs_nil]
    apply hN
    simp [↓wSs_cons', ↓wSs_nil]
    exact hQ _ _ x3 hx.1 hx.2.1 hx.2.2
theorem good_at {es : List D} {k : Nat} {ks : List Str} {d : D} (hg : goodList es) (ht : es.take k = ks.map .str) (hd : es[k]? = some d) : ∃ z, d = .str z ∧ goodKey z ∧ z ∉ ks := by
  obtain ⟨ks', rfl, ko⟩ := hg
  rw [take_str] at ht
  have := map_inj_str ht
  subst this
  rw [List.getElem?_map] at hd
  cases h : ks'[k]? with
  | none => rw [h] at hd; cases hd
  | some z =>
    rw [h] at hd
    cases hd
    obtain ⟨hk, e⟩ := List.getElem?_eq_some_iff.mp h
    refine ⟨z, rfl, ko.key z (by rw [← e]; exact List.getElem_mem hk), fun hm => ?_⟩
    obtain ⟨i, hi, e2⟩ := List.getElem_of_mem hm
    have hi2 : i < k := by simp at hi; omega
    rw [List.getElem_take] at e2
    exact (List.pairwise_iff_getElem.mp ko.nd) i k (by omega) hk hi2 (e2.trans e.symm)
theorem l_good_ok (h : T.fn f_l_good = some fn_l_good) (hw : T.fn f_l_whole = some fn_l_whole) {ak : Addr} {es : List D} {cv : D}
    (l1 : s ak = some (.lst es)) (he : ∀ d ∈ es, Elt s d ∧ StrIn d) (hl : es.length ≤ 1000) (hc : Arg s cv) (hQ1 : goodList es → goodCount cv → ∀ s', Ext s s' → Q (.bl true) s')
    (hQ0 : ¬ (goodList es ∧ goodCount cv) → ∀ s', Ext s s' → Q (.bl false) s') : wCall T (n + 2) f_l_good [.ob ak, cv] s Q X := by
  refine ⟨fn_l_good, h, rfl, ?_⟩
  simp only [fn_l_good, start, List.map, List.length, List.replicate, List.cons_append, List.nil_append, abc_eq]
  refine wSs_cons fun N' hN => ?_
  by_cases h3 : 1 ≤ es.length ∧ es.length ≤ 6
  · have k1 : (1 : Int) ≤ (es.length : Int) := by omega
    have k2 : (es.length : Int) ≤ 6 := by omega
    simp [isTs, isT, l1, ↓lst_of l1, k1, k2]
    rw [wSs_nil]
    apply hN; clear hN N'
    refine wSs_cons fun N' hN => ?_
    simp [↓lst_of l1]
    refine ⟨by omega, ?_⟩
    refine wFor_map (List.range es.length) (fun (k : Nat) => D.int (k : Nat)) (fun pre e s' => Ext s s' ∧ (∃ ks : List Str, es.take pre.length = ks.map .str ∧ ks.Nodup ∧ ∀ k ∈ ks, goodKey k ∧ PyData.strOk k = true) ∧ ∃ y, e = [some (.ob ak), some cv, y, none]) ⟨Ext.refl _, ⟨[], by simp, by simp, by simp⟩, _, rfl⟩ ?_ ?_
    · intro pre k post e s3 K hm ⟨x3, ⟨ks, hks, hnd, hgk⟩, y, he2⟩ hK
      subst he2
      refine ⟨trivial, _, rfl, ?_⟩
      have hk : k < es.length := List.mem_range.mp (by rw [hm]; simp)
      have hkp : k = pre.length := by
        have h2 : (List.range es.length)[pre.length]? = some k := by rw [hm]; simp
        obtain ⟨h4, h5⟩ := List.getElem?_eq_some_iff.mp h2
        simpa using h5.symm
      subst hkp
      obtain ⟨d, hd⟩ : ∃ d, es[pre.length]? = some d := ⟨_, List.getElem?_eq_getElem hk⟩
      have ed : atD es (pre.length : Int) = some d := atD_nat hd
      have hdm := he d (List.mem_of_getElem? hd)
      have l3 := x3 _ _ l1
      have hno : ∀ {s'}, Ext s s' → (∀ z, d = .str z → goodKey z → z ∈ ks) → Q (.bl false) s' := fun x hz => hQ0 (fun hh => by
        obtain ⟨z, a, b, c⟩ := good_at hh.1 hks hd
        exact c (hz z a b)) _ x
      refine wSs_cons fun N2 hN2 => ?_
      rcases hdm.1.str with ⟨z, rfl⟩ | ⟨hnz, _⟩
      · obtain ⟨hzk, hzl⟩ := hdm.2 z rfl
        have hz3 : z.length ≤ 16777216 := by omega
        by_cases hz : 1 ≤ z.length ∧ z.length ≤ 8
        · have j1 : (1 : Int) ≤ (z.length : Int) := by omega
          have j2 : (z.length : Int) ≤ 8 := by omega
          simp [↓lst_of l3, ed, isTs, isT, j1, j2, hz3]
          intro q hq
          have x4 := x3.up (o := .lst (cutD es none (some (pre.length : Int)))) hq
          have l4 : up s3 q (.lst (cutD es none (some (pre.length : Int)))) q = some (.lst (ks.map .str)) := by rw [up_same, cutD_take, hks]
          generalize up s3 q _ = s4 at x4 l4 ⊢
          refine .inr ⟨.str z, ks.map .str, .str _, strs_snap l4, (Pd.str (n := 3) hzk).shaped (by omega), (strs_pd (m := 3) fun j hj => (hgk j hj).2).shaped (by omega), ?_⟩
          rw [any_keys]
          by_cases hm2 : z ∈ ks
          · simp only [hm2, decide_true]
            simp [↓wSs_cons', ↓wSs_nil]
            exact hno x4 fun w hw _ => by cases hw; exact hm2
          · simp only [hm2, decide_false]
            simp
            rw [wSs_nil]
            apply hN2; clear hN2 N2
            have l5 := x4 _ _ l1
            refine wSs_cons fun N2 hN2 => ?_
            simp [wE_lc, ↓lst_of l5, ed]
            refine ⟨by show z.cps.size ≤ _; exact hz3, ?_⟩
            refine wItems_fil z.cps.toList (fun c => D.str ⟨#[c]⟩) (fun c => if c ∈ (mkS abcL).cps.toList then none else some (.str ⟨#[c]⟩)) (fun _ _ => trivial) ?_ ?_
            · intro c s5 K2 hc2 x5 hK2
              by_cases hin : c ∈ (mkS abcL).cps.toList
              · rw [if_pos hin] at hK2
                have hin' : c ∈ (mkS abcL).cps := by simpa using hin
                simp [hin']
                exact hK2 _ (Ext.refl _)
              · rw [if_neg hin] at hK2
                have hin' : c ∉ (mkS abcL).cps := by simpa using hin
                simp [hin']
                exact hK2 _ (Ext.refl _)
            · intro s5 x5 q1 hq1
              have x6 := x4.trans x5
              obtain ⟨li, hli⟩ : ∃ li : List D, li = List.filterMap (fun c => if c ∈ (mkS abcL).cps.toList then none else some (D.str ⟨#[c]⟩)) z.cps.toList := ⟨_, rfl⟩
              rw [← hli]
              intro q2 hq2
              have x7 := (x6.up (o := .lst li) hq1)
              have e7 : up s5 q1 (.lst li) q1 = some (.lst li) := up_same
              generalize up s5 q1 _ = s6 at x7 e7 hq2 ⊢
              have x8 := x7.up (o := .lst []) hq2
              have e8 := (Ext.new (o := .lst []) hq2) _ _ e7
              have e9 : up s6 q2 (.lst []) q2 = some (.lst []) := up_same
              generalize up s6 q2 _ = s7 at x8 e8 e9 ⊢
              refine rNe_nil e8 e9 ?_
              by_cases hall : ∀ c ∈ z.cps.toList, 97 ≤ c ∧ c < 123
              · have : li = [] := by
                  rw [hli, List.filterMap_eq_nil_iff]
                  intro c hc
                  rw [if_pos (mem_abc.mpr (hall c hc))]
                rw [this]
                simp
                rw [wSs_nil]
                apply hN2
                rw [wSs_nil]
                refine hK _ _ ⟨x8, ⟨ks ++ [z], ?_, ?_, ?_⟩, _, rfl⟩
                · rw [List.length_append, List.length_singleton, List.take_succ, hks, hd]; simp
                · rw [List.nodup_append]
                  exact ⟨hnd, by simp, fun a ha b hb => by rw [List.mem_singleton.mp hb]; exact fun e => hm2 (e ▸ ha)⟩
                · intro k hk
                  rcases List.mem_append.mp hk with h | h
                  · exact hgk k h
                  · rw [List.mem_singleton.mp h]; exact ⟨⟨hz.1, hz.2, hall⟩, hzk⟩
              · have : li.isEmpty = false := by
                  rw [Classical.not_forall] at hall
                  obtain ⟨c, hc⟩ := hall
                  rw [Classical.not_imp] at hc
                  have : D.str ⟨#[c]⟩ ∈ li := by
                    rw [hli, List.mem_filterMap]
                    exact ⟨c, hc.1, by rw [if_neg (fun h => hc.2 (mem_abc.mp h))]⟩
                  cases li with
                  | nil => cases this
                  | cons _ _ => rfl
                rw [this]
                simp [↓wSs_cons', ↓wSs_nil]
                exact hno x8 fun w hw hg => by cases hw; exact absurd hg.2.2 hall
        · have hng : ¬ goodKey z := fun h => hz ⟨h.1, h.2.1⟩
          by_cases j0 : 1 ≤ z.length
          · have j1 : (1 : Int) ≤ (z.length : Int) := by omega
            have j2 : ¬ (z.length : Int) ≤ 8 := by omega
            simp [↓lst_of l3, ed, isTs, isT, j1, j2, hz3, ↓wSs_cons', ↓wSs_nil]
            exact hno x3 fun w hw hg => by cases hw; exact absurd hg hng
          · have j1 : ¬ (1 : Int) ≤ (z.length : Int) := by omega
            simp [↓lst_of l3, ed, isTs, isT, j1, hz3, ↓wSs_cons', ↓wSs_nil]
            exact hno x3 fun w hw hg => by cases hw; exact absurd hg hng
      · have ht : isTs s3 d [.str] = some false := by
          rcases (hdm.1.ext x3).str with ⟨z, hz⟩ | ⟨_, ht⟩
          · exact absurd hz (hnz z)
          · exact ht
        simp [↓lst_of l3, ed, ht, ↓wSs_cons', ↓wSs_nil]
        exact hno x3 fun w hw _ => absurd hw (hnz w)
    · intro e s3 ⟨x3, ⟨ks, hks, hnd, hgk⟩, y, he2⟩
      subst he2
      refine ⟨trivial, ?_⟩
      apply hN; clear hN N'
      rw [List.length_range, List.take_of_length_le (by omega)] at hks
      subst hks
      rw [List.length_map] at h3
      have hgl : goodList (ks.map .str) := ⟨ks, rfl, ⟨h3.1, h3.2, hnd, fun k hk => (hgk k hk).1⟩⟩
      refine wSs_cons fun N' hN => ?_
      try simp
      refine l_whole_arg (n := n) hw (hc.ext x3) ?_
      cases cv with
      | int c =>
        by_cases c1 : 1 ≤ c
        · by_cases c2 : c ≤ 6
          · simp [isI, c1, c2]
            exact hQ1 hgl ⟨c.toNat, by congr 1; omega, by omega, by omega⟩ _ x3
          · simp [isI, c1, c2]
            exact hQ0 (fun ⟨_, c', e, h⟩ => by cases e; omega) _ x3
        · simp [isI, c1]
          exact hQ0 (fun ⟨_, c', e, h⟩ => by cases e; omega) _ x3
      | _ =>
        simp [isI]
        exact hQ0 (fun ⟨_, c', e, h⟩ => by cases e) _ x3
  · have hbad : ¬ (goodList es ∧ goodCount cv) := fun ⟨⟨ks, e, ko⟩, _⟩ => by
      rw [e, List.length_map] at h3
      exact h3 ⟨ko.ne, ko.le⟩
    by_cases h4 : 1 ≤ es.length
    · have k1 : (1 : Int) ≤ (es.length : Int) := by omega
      have k2 : ¬ (es.length : Int) ≤ 6 := by omega
      simp [isTs, isT, l1, ↓lst_of l1, k1, k2, ↓wSs_cons', ↓wSs_nil]
      exact hQ0 hbad _ (Ext.refl _)
    · have k1 : ¬ (1 : Int) ≤ (es.length : Int) := by omega
      simp [isTs, isT, l1, ↓lst_of l1, k1, ↓wSs_cons', ↓wSs_nil]
      exact hQ0 hbad _ (Ext.refl _)
theorem l_good_nolist (h : T.fn f_l_good = some fn_l_good) {hd cv : D} (ht : isTs s hd [.list] = some false) (hQ : Q (.bl false) s) : wCall T (n + 2) f_l_good [hd, cv] s Q X := by
  refine ⟨fn_l_good, h, rfl, ?_⟩
  simp only [fn_l_good, start, List.map, List.length, List.replicate, List.cons_append, List.nil_append]
  refine wSs_cons fun N' hN => ?_
  simp [ht, ↓wSs_cons', ↓wSs_nil]
  exact hQ
/-! the handed things are refused -/
theorem l_refused8_ok (hf : T.fn f_l_refused_k08 = some fn_l_refused_k08) (i0 : T.init c_World = some f_World_init) (g0 : T.fn f_World_init = some fn_World_init) (o : OneTab T x_BadWorld) {hd cv : D}
    (hb : ∀ (s' : S) (Q' : K1) (X' : XP), Ext s s' → (∀ s2, Ext s' s2 → X' x_BadWorld s2) → wCall T (n + 2) f_need_world [hd, cv] s' Q' X') (hQ : ∀ s', Q (.bl true) s') : wCall T (n + 4) f_l_refused_k08 [hd, cv] s Q X := by
  refine ⟨fn_l_refused_k08, hf, rfl, ?_⟩
  simp only [fn_l_refused_k08, start, List.map, List.length, List.replicate, List.cons_append, List.nil_append]
  refine wSs_cons fun N' hN => ?_
  rw [wS]
  refine wSs_cons fun N2 hN2 => ?_
  rw [wS]
  simp [wE_make]
  refine ⟨_, i0, fun p hp => ?_⟩
  refine ⟨fn_World_init, g0, rfl, ?_⟩
  simp only [fn_World_init, start, List.map, List.length, List.replicate, List.cons_append, List.nil_append]
  refine wSs_cons fun N3 hN3 => ?_
  try simp
  refine hb _ _ _ (Ext.new hp) fun s2 x2 => ?_
  exact ⟨⟨by decide, o.me⟩, ⟨⟨by decide, o.cc⟩, o.ve⟩, ⟨_, by simpa using o.kv, nine_one o.mem⟩, hQ _⟩
/-! a new world -/
structure T8 (T : Tab) : Prop extends WorldTab T where
  HT : HouseTab T
  C : CallTab T
  m2 : T.meth c_House a_has = some f_House_has
  g2 : T.fn f_House_has = some fn_House_has
  m4 : T.meth c_House a_owes = some f_House_owes
  g4 : T.fn f_House_owes = some fn_House_owes
  C2 : T.meth c_Caller a_answers = some f_Caller_answers
  D2 : T.fn f_Caller_answers = some fn_Caller_answers
  mlt : T.meth c_World a_letters = some f_World_letters
  flt : T.fn f_World_letters = some fn_World_letters
  mlg : T.meth c_World a_ledger = some f_World_ledger
  flg : T.fn f_World_ledger = some fn_World_ledger
  mow : T.meth c_World a_owes = some f_World_owes
  fow : T.fn f_World_owes = some fn_World_owes
  mho : T.meth c_World a_home = some f_World_home
  fho : T.fn f_World_home = some fn_World_home
  mha : T.meth c_World a_has = some f_World_has
  fha : T.fn f_World_has = some fn_World_has
  mas : T.meth c_World a_asking = some f_World_asking
  fas : T.fn f_World_asking = some fn_World_asking
  man : T.meth c_World a_answers = some f_World_answers
  fan : T.fn f_World_answers = some fn_World_answers
  mse : T.meth c_World a_settle = some f_World_settle
  fse : T.fn f_World_settle = some fn_World_settle
  mis : T.meth c_World a_is_settled = some f_World_is_settled
  fis : T.fn f_World_is_settled = some fn_World_is_settled
  wh : T.fn f_l_whole = some fn_l_whole
end
section
variable {T : Tab} {n : Nat} {s : S} {Q : K1} {X : XP} {F : List Cell} {b : WB} {ks : List Str} {w : WM}
theorem need_key_no (t : WorldTab T) (ko : KeysOk ks) {d : D} (hs : isTs s d [.str] = some false ∨ ∃ z, d = .str z ∧ PyData.strOk z = true ∧ z ∉ ks) (o : Own s (worldCells b ks w ++ F)) (hX : X x_NoKey s) : wCall T (n + 2) f_World_need_key [.ob b.self, d] s Q X := by
  refine ⟨fn_World_need_key, t.fnk, rfl, ?_⟩
  simp only [fn_World_need_key, start, List.map, List.length, List.replicate, List.cons_append, List.nil_append]
  refine wSs_cons fun N' hN => ?_
  rcases hs with ht | ⟨z, rfl, hz, hm⟩
  · simp [ht, ↓wSs_cons', ↓wSs_nil]
    exact hX
  · simp [isTs, isT, ↓ins_of o.head]
    refine .inr ⟨.str z, ks.map .str, .str z, strs_snap o.tail.head, (Pd.str (n := 3) hz).shaped (by omega), (strs_pd (m := 3) ko.strOk).shaped (by omega), ?_⟩
    rw [any_keys]
    simp [hm, ↓wSs_cons', ↓wSs_nil]
    exact hX
theorem World_home_no (t : WorldTab T) (h : T.fn f_World_home = some fn_World_home) (ko : KeysOk ks) {d : D} (hs : isTs s d [.str] = some false ∨ ∃ z, d = .str z ∧ PyData.strOk z = true ∧ z ∉ ks) (o : Own s (worldCells b ks w ++ F)) (hX : X x_NoKey s) : wCall T (n + 3) f_World_home [.ob b.self, d] s Q X := by
  refine ⟨fn_World_home, h, rfl, ?_⟩
  simp only [fn_World_home, start, List.map, List.length, List.replicate, List.cons_append, List.nil_append]
  refine wSs_cons fun N' hN => ?_
  simp [↓mthQ_of o.head t.nk rfl]
  exact need_key_no t ko hs o hX
theorem l_no_key_ok (t : T8 T) (hf : T.fn f_l_no_key = some fn_l_no_key) (hs : T.sub x_NoKey x_NoKey = true) (ko : KeysOk ks) {z : Str} (hz : PyData.strOk z = true) (hm : z ∉ ks) (o : Own s (worldCells b ks w ++ F)) (hQ : Q (.bl true) s) : wCall T (n + 4) f_l_no_key [.ob b.self, .str z] s Q X := by
  refine ⟨fn_l_no_key, hf, rfl, ?_⟩
  simp only [fn_l_no_key, start, List.map, List.length, List.replicate, List.cons_append, List.nil_append]
  refine wSs_cons fun N' hN => ?_
  rw [wS]
  refine wSs_cons fun N2 hN2 => ?_
  simp [↓mthQ_of o.head t.mho rfl]
  refine World_home_no (n := n) t.toWorldTab t.fho ko (.inr ⟨z, rfl, hz, hm⟩) o ?_
  exact .inl ⟨⟨by decide, hs⟩, hQ⟩
theorem new_cm {c j : Nat} (hj : j < c) : (WM.new c).cm j = .new j := by simp [WM.new, WM.cm, newCallers, List.getD_eq_getElem?_getD, hj]
theorem new_owes0 {c : Nat} : ((WM.new c).hs 0).owes ks = [] := by simp [WM.new, WM.hs, HM.owes, HM.new, Row.first]
theorem new_owes1 {c : Nat} : ((WM.new c).hs 1).owes ks = [] := by simp [WM.new, WM.hs, HM.owes, HM.new, Row.first]
theorem new_settled {c : Nat} : (WM.new c).settledB ks = true := by
  simp [WM.settledB, WM.new, newCallers, CM.new, HM.owes, HM.new, Row.first]
theorem World_settle_zero (t : T8 T) (ko : KeysOk ks) (hca : b.ca.length = w.cs.length) (hs : w.settledB ks = true) (o : Own s (worldCells b ks w ++ F)) (hQ : ∀ s', Own s' (worldCells b ks w ++ F) → Q (.int 0) s') : wCall T (n + 5) f_World_settle [.ob b.self] s Q X := by
  refine ⟨fn_World_settle, t.fse, rfl, ?_⟩
  simp only [fn_World_settle, start, List.map, List.length, List.replicate, List.cons_append, List.nil_append]
  refine wSs_cons fun N' hN => ?_
  simp
  apply hN; clear hN N'
  refine wSs_cons fun N' hN => ?_
  rw [wS]
  refine wWh_succ fun N2 hN2 => ?_
  simp [↓mthQ_of o.head t.mis rfl]
  refine World_is_settled_okm (n := n) t.toWorldTab t.C t.m4 t.g4 t.fis t.mow t.fow ko hca o fun s2 o2 => ?_
  simp [hs]
  apply hN
  simp [↓wSs_cons', ↓wSs_nil]
  exact hQ _ o2
theorem l_fresh_ok (t : T8 T) (hf : T.fn f_l_fresh = some fn_l_fresh) (ko : KeysOk ks) {c : Nat} (hc : 1 ≤ c ∧ c ≤ 6) {ak : Addr} (hak : (ak, .lst (ks.map .str)) ∈ F) (hca : b.ca.length = c) (o : Own s (worldCells b ks (.new c) ++ F)) (hQ : ∀ s', Q (.bl true) s') :
    wCall T (n + 6) f_l_fresh [.ob b.self, .ob ak, .int c] s Q X := by
  refine ⟨fn_l_fresh, hf, rfl, ?_⟩
  simp only [fn_l_fresh, start, List.map, List.length, List.replicate, List.cons_append, List.nil_append]
  have hks : ks.length ≤ 1000 := by have := ko.le; omega
  have hcs : (WM.new c).cs.length = c := by simp [WM.new, newCallers]
  refine wSs_cons fun N' hN => ?_
  simp [↓mthQ_of o.head t.mlt rfl]
  refine World_letters_ok (n := n + 4) t.flt o fun q1 s1 o1 => ?_
  try simp
  intro e1 he1
  have o2 := o1.new (u := .lst []) he1
  generalize up s1 e1 _ = s2 at o2 ⊢
  refine rNe_nil (l := []) o2.tail.head o2.head ?_
  have o2 := o2.tail.tail
  simp [↓mthQ_of o2.head t.mlg rfl]
  refine World_ledger_ok (n := n + 4) t.flg o2 fun q3 s3 o3 => ?_
  try simp
  intro e3 he3
  have o4 := o3.new (u := .lst []) he3
  generalize up s3 e3 _ = s4 at o4 ⊢
  refine rNe_nil (l := []) o4.tail.head o4.head ?_
  have o4 := o4.tail.tail
  simp [↓mthQ_of o4.head t.mow rfl]
  refine World_owes_okm (n := n + 2) t.toWorldTab t.m4 t.g4 t.fow (.inl rfl) hks o4 fun q5 s5 o5 => ?_
  rw [new_owes0] at o5
  try simp
  intro e5 he5
  have o6 := o5.new (u := .lst []) he5
  generalize up s5 e5 _ = s6 at o6 ⊢
  refine rNe_nil (l := []) o6.tail.head o6.head ?_
  have o6 := o6.tail.tail
  simp [↓mthQ_of o6.head t.mow rfl]
  refine World_owes_okm (n := n + 2) t.toWorldTab t.m4 t.g4 t.fow (.inr rfl) hks o6 fun q7 s7 o7 => ?_
  rw [new_owes1] at o7
  try simp
  intro e7 he7
  have o8 := o7.new (u := .lst []) he7
  generalize up s7 e7 _ = s8 at o8 ⊢
  refine rNe_nil (l := []) o8.tail.head o8.head ?_
  have o8 := o8.tail.tail
  simp
  rw [wSs_nil]
  apply hN; clear hN N'
  clear o o1 o2 o3 o4 o5 o6 o7
  have lak : s8 ak = some (.lst (ks.map .str)) := o8.mem (by simp [hak])
  refine wSs_cons fun N' hN => ?_
  simp [↓itL_of lak]
  have hom : ∀ k, (WM.new c).home k = .int 0 := fun k => by simp [WM.home, WM.new, HM.new, Row.first]
  have h0 : ∀ k, (((WM.new c).hs 0).known k).st = .here := fun k => by simp [WM.hs, WM.new, HM.new, Row.first]
  have h1 : ∀ k, (((WM.new c).hs 1).known k).st = .gone := fun k => by simp [WM.hs, WM.new, HM.new, Row.first]
  refine wFor_map ks D.str (fun pre e s' => s' = s8 ∧ ∃ y, e = [some (.ob b.self), some (.ob ak), some (.int (c : Nat)), y, none, none]) ⟨rfl, _, rfl⟩ ?_ ?_
  · intro pre k post e s' K hm ⟨hs, y, he⟩ hK
    subst hs he
    refine ⟨lak, _, rfl, ?_⟩
    have hk : k ∈ ks := by rw [hm]; simp
    refine wSs_cons fun N2 hN2 => ?_
    simp [↓mthQ_of o8.head t.mho rfl]
    refine World_home_okm (n := n + 2) t.toWorldTab t.m2 t.g2 t.fho ko hk o8 ?_
    rw [hom]
    refine l_whole_ok (n := n + 4) t.wh ?_
    simp [↓mthQ_of o8.head t.mho rfl]
    refine World_home_okm (n := n + 2) t.toWorldTab t.m2 t.g2 t.fho ko hk o8 ?_
    rw [hom]
    simp
    rw [wSs_nil]
    apply hN2; clear hN2 N2
    refine wSs_cons fun N2 hN2 => ?_
    simp [↓mthQ_of o8.head t.mha rfl]
    refine World_has_okm (n := n + 2) t.toWorldTab t.m2 t.g2 t.fha (.inl rfl) ko hk o8 ?_
    rw [h0]
    refine ⟨_, rfl, ?_⟩
    simp [↓mthQ_of o8.head t.mha rfl]
    refine World_has_okm (n := n + 2) t.toWorldTab t.m2 t.g2 t.fha (.inr rfl) ko hk o8 ?_
    rw [h1]
    refine ⟨_, rfl, ?_⟩
    simp
    rw [wSs_nil]
    apply hN2
    rw [wSs_nil]
    exact hK _ _ ⟨rfl, _, rfl⟩
  intro e s' ⟨hs, y, he⟩
  subst hs he
  refine ⟨lak, ?_⟩
  apply hN; clear hN N'
  refine wSs_cons fun N' hN => ?_
  simp
  refine ⟨by omega, ?_⟩
  refine wFor_map (List.range c) (fun (j : Nat) => D.int (j : Nat)) (fun pre e s' => Own s' (worldCells b ks (.new c) ++ F) ∧ ∃ z, e = [some (.ob b.self), some (.ob ak), some (.int (c : Nat)), y, z, none]) ⟨o8, _, rfl⟩ ?_ ?_
  · intro pre j post e s9 K hm ⟨o9, z, he⟩ hK
    subst he
    refine ⟨trivial, _, rfl, ?_⟩
    have hj : j < c := List.mem_range.mp (by rw [hm]; simp)
    refine wSs_cons fun N2 hN2 => ?_
    simp [↓mthQ_of o9.head t.mas rfl]
    refine World_asking_ok (n := n + 2) t.toWorldTab t.C t.fas (by rw [hcs]; exact hj) (by rw [hca, hcs]) o9 ?_
    rw [new_cm hj]
    simp [CM.new, askD, isNon, ↓mthQ_of o9.head t.man rfl]
    refine World_answers_ok (n := n + 2) t.toWorldTab t.C2 t.D2 t.fan (by rw [hcs]; exact hj) (by rw [hca, hcs]) o9 fun q s10 o10 => ?_
    rw [new_cm hj] at o10
    try simp
    intro e1 he1
    have o11 := o10.new (u := .lst []) he1
    generalize up s10 e1 _ = s11 at o11 ⊢
    refine rNe_nil (l := []) o11.tail.head o11.head ?_
    simp
    rw [wSs_nil]
    apply hN2
    rw [wSs_nil]
    exact hK _ _ ⟨o11.tail.tail, _, rfl⟩
  intro e s9 ⟨o9, z, he⟩
  subst he
  refine ⟨trivial, ?_⟩
  apply hN; clear hN N'
  refine wSs_cons fun N' hN => ?_
  simp [↓mthQ_of o9.head t.mse rfl]
  refine World_settle_zero (n := n) t ko (by rw [hca, hcs]) new_settled o9 fun s10 o10 => ?_
  apply hN; clear hN N'
  refine wSs_cons fun N' hN => ?_
  rw [wS]
  simp
  refine l_whole_ok (n := n + 4) t.wh ?_
  simp [↓mthQ_of o10.head t.mlt rfl]
  refine World_letters_ok (n := n + 4) t.flt o10 fun q s11 o11 => ?_
  try simp
  intro e1 he1
  have o12 := o11.new (u := .lst []) he1
  generalize up s11 e1 _ = s12 at o12 ⊢
  refine rEq_empty (ds := []) (n := 3) (.lst (by simp)) (by omega) (.lst o12.tail.head .nil) o12.head ?_
  simp
  exact hQ _
structure Z8 (T : Tab) : Prop where
  cat : T.fn f_l_cell_at = some fn_l_cell_at
  nm : T.fn f_l_names = some fn_l_names
  od : T.fn f_l_odd_k08 = some fn_l_odd_k08
  gd : T.fn f_l_good = some fn_l_good
  rf : T.fn f_l_refused_k08 = some fn_l_refused_k08
  nk : T.fn f_l_no_key = some fn_l_no_key
  fr : T.fn f_l_fresh = some fn_l_fresh
  i0 : T.init c_World = some f_World_init
  g0 : T.fn f_World_init = some fn_World_init
  nw : T.fn f_need_world = some fn_need_world
  ik : T.fn f_is_key = some fn_is_key
  i1 : T.init c_House = some f_House_init
  g1 : T.fn f_House_init = some fn_House_init
  i2 : T.init c_Caller = some f_Caller_init
  g2 : T.fn f_Caller_init = some fn_Caller_init
  fw : ∀ f, f ∈ [a_names, a_houses, a_callers, a_under_way, a_rows] → T.fld c_World f = true
  ob : OneTab T x_BadWorld
  nn : T.sub x_NoKey x_NoKey = true
theorem atM13 {l : List D} {i : Int} (hl : l.length = 13) : ∃ v, atD l (i % 13) = some v ∧ v ∈ l := by
  obtain ⟨m, hm⟩ : ∃ m : Nat, i % 13 = m := ⟨(i % 13).toNat, by omega⟩
  have hml : m < l.length := by omega
  rw [hm]
  exact ⟨l[m], atD_nat (List.getElem?_eq_getElem hml), List.getElem_mem hml⟩
theorem atM5 {l : List D} {i : Int} (hl : l.length = 5) : ∃ v, atD l (i % 5) = some v ∧ v ∈ l := by
  obtain ⟨m, hm⟩ : ∃ m : Nat, i % 5 = m := ⟨(i % 5).toNat, by omega⟩
  have hml : m < l.length := by omega
  rw [hm]
  exact ⟨l[m], atD_nat (List.getElem?_eq_getElem hml), List.getElem_mem hml⟩
theorem Own.one {s : S} {p : Addr} {u : O} (h : s p = some u) : Own s [(p, u)] := ⟨⟨h, trivial⟩, by simp⟩
theorem law_k08_ok (t : T8 T) (z : Z8 T) (h : T.fn f_law_k08 = some fn_law_k08) {ns : List Int} (hQ : ∀ s', Q (.bl true) s') : wCall T (n + 8) f_law_k08 [.ro (ns.map .int)] s Q X := by
  refine ⟨fn_law_k08, h, rfl, ?_⟩
  simp only [fn_law_k08, start, List.map, List.length, List.replicate, List.cons_append, List.nil_append]
  have cat : ∀ (k : Nat) {s : S} {K : K1} {Y : XP}, K (.int (cellAt ns k)) s → wCall T (n + 7) f_l_cell_at [.ro (ns.map .int), .int (k : Nat)] s K Y := fun k s K Y q => l_cell_at_ok (n := n + 6) z.cat q
  generalize hro : D.ro (ns.map .int) = ro at cat
  refine wSs_cons fun N' hN => ?_
  simp
  refine cat 0 ?_
  refine l_names_ok (n := n + 6) z.nm fun p s0 s1 x0 n0 e1 => ?_
  obtain ⟨hk1, hk2⟩ := namesOf_ok (cellAt ns 0)
  generalize namesOf (cellAt ns 0) = ks at hk1 hk2 e1
  have l1 : s1 p = some (.lst (ks.map .str)) := by rw [e1]; exact up_same
  clear x0 n0 e1
  apply hN; clear hN N'
  refine wSs_cons fun N' hN => ?_
  simp
  refine cat 1 ?_
  simp
  apply hN; clear hN N'
  obtain ⟨way, hway⟩ : ∃ way, way = cellAt ns 1 % 8 := ⟨_, rfl⟩
  rw [← hway]
  refine wSs_cons fun N' hN => ?_
  simp
  refine cat 2 ?_
  apply hN; clear hN N'
  obtain ⟨cell, hcell⟩ : ∃ cell, cell = cellAt ns 2 := ⟨_, rfl⟩
  rw [← hcell]
  -- the list that may hold something odd
  refine wSs_cons fun N4 hN4 => ?_
  have rest4 : ∀ (es : List D) (s4 : S), s4 p = some (.lst es) → (∀ d ∈ es, Elt s4 d ∧ StrIn d) → es.length ≤ 1000 → N4 [some ro, some (.ob p), some (.int way), some (.int cell), none, none, none, none] s4 := by
    intro es s4 l4 he hel
    apply hN4; clear hN4 N4 hk1 hk2 l1 s1
    refine wSs_cons fun N' hN => ?_
    simp
    refine cat 3 ?_
    simp
    apply hN; clear hN N'
    obtain ⟨c0, hc0⟩ : ∃ c0, c0 = 1 + cellAt ns 3 % 6 := ⟨_, rfl⟩
    rw [← hc0]
    refine wSs_cons fun N6 hN6 => ?_
    have rest6 : ∀ (cv : D) (y5 : Option D) (s6 : S), Ext s4 s6 → Arg s6 cv → N6 [some ro, some (.ob p), some (.int way), some (.int cell), some cv, y5, none, none] s6 := by
      intro cv y5 s6 x6 hcv
      apply hN6; clear hN6 N6
      have l6 := x6 _ _ l4
      have he6 : ∀ d ∈ es, Elt s6 d ∧ StrIn d := fun d hd => ⟨(he d hd).1.ext x6, (he d hd).2⟩
      clear x6 he l4 s4
      refine wSs_cons fun N' hN => ?_
      simp
      apply hN; clear hN N'
      refine wSs_cons fun N8 hN8 => ?_
      have rest8 : ∀ (hd : D) (s8 : S), Ext s6 s8 → (hd = .ob p ∨ isTs s8 hd [.list] = some false ∧ ∀ s9, Ext s8 s9 → isTs s9 hd [.list] = some false) → N8 [some ro, some (.ob p), some (.int way), some (.int cell), some cv, y5, some hd, none] s8 := by
        intro hd s8 x8 hhd
        apply hN8; clear hN8 N8
        have l8 := x8 _ _ l6
        have he8 : ∀ d ∈ es, Elt s8 d ∧ StrIn d := fun d hd => ⟨(he6 d hd).1.ext x8, (he6 d hd).2⟩
        have hcv8 := hcv.ext x8
        clear x8 he6 l6 hcv s6
        refine wSs_cons fun N' hN => ?_
        simp
        rcases hhd with rfl | ⟨hhd, hhd2⟩
        · refine l_good_ok (n := n + 5) z.gd t.wh l8 he8 hel hcv8 (fun hgl hgc s9 x9 => ?_) fun hbad s9 x9 => ?_
          · simp
            rw [wSs_nil]
            apply hN; clear hN N'
            obtain ⟨ks, rfl, ko⟩ := hgl
            obtain ⟨c, rfl, hc1⟩ := hgc
            have l9 := x9 _ _ l8
            refine wSs_cons fun N' hN => ?_
            simp [↓lst_of l9]
            intro hl hhl
            have o1 := (Own.one l9).new (u := .lst (ks.map .str)) hhl
            generalize up s9 hl _ = s10 at o1 ⊢
            apply hN; clear hN N'
            refine wSs_cons fun N' hN => ?_
            simp [wE_make]
            refine ⟨_, z.i0, fun q hq => ?_⟩
            have o2 := o1.new (u := .ins c_World []) hq
            generalize up s10 q _ = s11 at o2 ⊢
            refine World_init_okm (n := n + 4) t.toWorldTab t.HT t.C.fld z.g0 z.nw z.ik z.i1 z.g1 z.i2 z.g2 z.fw ko hc1 o2 (by simp) fun b s12 hb hca o3 => ?_
            try simp
            subst hb
            apply hN; clear hN N' o1 o2 hq hhl
            have o4 := o3.mv (M := (hl, .lst (ks.map .str)) :: (p, .lst (ks.map .str)) :: (worldCells b ks (.new c))) (fun a => by simp only [cnt_app, cnt_cons, cnt_nil]; omega)
            refine wSs_cons fun N' hN => ?_
            simp
            refine rNe_same (strs_pd (m := 4) ko.strOk) (by omega) (strs_snap o4.head) (strs_snap o4.tail.head) ?_
            simp
            rw [wSs_nil]
            apply hN; clear hN N'
            refine wSs_cons fun N' hN => ?_
            simp [↓lst_of o4.head]
            have hks6 := ko.le
            refine ⟨by omega, ?_⟩
            have hzk : PyData.strOk (PySem.Str.ofString "Later") = true := by decide +kernel
            have hzm : 76 ∈ (PySem.Str.ofString "Later").cps.toList := by decide +kernel
            have o5 := o4.repl (.here (u' := .lst (ks.map .str ++ [.str (PySem.Str.ofString "Later")])))
            generalize up s12 hl _ = s13 at o5 ⊢
            apply hN; clear hN N'
            refine wSs_cons fun N' hN => ?_
            rw [wS]
            simp
            have o6 := o5.mv (M := worldCells b ks (.new c) ++ [(p, .lst (ks.map .str)), (hl, .lst (ks.map .str ++ [.str (PySem.Str.ofString "Later")]))]) (fun a => by simp only [cnt_app, cnt_cons, cnt_nil]; omega)
            refine l_no_key_ok (n := n + 3) t z.nk z.nn ko hzk (fun hm => by have := (ko.key _ hm).2.2 76 hzm; omega) o6 ?_
            simp
            refine l_fresh_ok (n := n + 1) t z.fr ko hc1 (by simp) hca o6 fun s' => ?_
            simp
            exact hQ _
          · simp
            refine wSs_cons fun N2 hN2 => ?_
            rw [wS]
            simp
            refine l_refused8_ok (n := n + 3) z.rf z.i0 z.g0 z.ob (fun s' Q' X' x' hX' => ?_) hQ
            exact need_world_bad (n := n + 3) z.nw z.ik t.whole (x' _ _ (x9 _ _ l8)) (fun d hd => ⟨((he8 d hd).1.ext x9).ext x', (he8 d hd).2⟩) hel ((hcv8.ext x9).ext x') hbad hX'
        · refine l_good_nolist (n := n + 5) z.gd hhd ?_
          simp
          refine wSs_cons fun N2 hN2 => ?_
          rw [wS]
          simp
          refine l_refused8_ok (n := n + 3) z.rf z.i0 z.g0 z.ob (fun s' Q' X' x' hX' => ?_) hQ
          exact need_world_nolist (n := n + 3) z.nw (hhd2 _ x') (hX' _ (Ext.refl _))
      by_cases hw3 : way = 3
      · simp [hw3, ↓lst_of l6]
        refine wSs_cons fun N2 hN2 => ?_
        simp [↓lst_of l6]
        intro d hd
        have x7 := Ext.new (o := .dK []) hd
        have ld : up s6 d (.dK []) d = some (.dK []) := up_same
        generalize up s6 d _ = s7 at x7 ld ⊢
        intro q hq
        have lq : up s7 q (.lst [.tup es, .non, .str q_abc, .ob d, .int 5]) q = some (.lst [.tup es, .non, .str q_abc, .ob d, .int 5]) := up_same
        have x8 := x7.up (o := .lst [.tup es, .non, .str q_abc, .ob d, .int 5]) hq
        have ld8 := (Ext.new (o := .lst [.tup es, .non, .str q_abc, .ob d, .int 5]) hq) _ _ ld
        generalize up s7 q _ = s8 at x8 lq ld8 ⊢
        obtain ⟨v, hv, hvm⟩ := atM5 (l := [.tup es, .non, .str q_abc, .ob d, .int 5]) (i := cell) rfl
        simp only [↓lst_of lq, hv, putQ_some]
        apply hN2; rw [wSs_nil]
        rw [hw3] at rest8
        refine rest8 v s8 x8 (.inr ?_)
        have : ∀ s9, Ext s8 s9 → isTs s9 v [.list] = some false := by
          intro s9 x9
          simp only [List.mem_cons, List.not_mem_nil, or_false] at hvm
          rcases hvm with h | h | h | h | h <;> subst h
          · rfl
          · rfl
          · rfl
          · simp [isTs, isT, x9 _ _ ld8]
          · rfl
        exact ⟨this _ (Ext.refl _), this⟩
      · simp [hw3]
        rw [wSs_nil]
        exact rest8 _ s6 (Ext.refl _) (.inl rfl)
    simp
    refine cat 3 ?_
    by_cases h5 : cellAt ns 3 / 6 % 3 = 1
    · simp [h5]
      refine wSs_cons fun N2 hN2 => ?_
      simp [rPow20]
      apply hN2; clear hN2 N2
      obtain ⟨far, hfar⟩ : ∃ far, far = 100000000000000000000 + cell % 100000000000000000000 := ⟨_, rfl⟩
      rw [← hfar]
      refine wSs_cons fun N2 hN2 => ?_
      simp
      intro a ha
      have x5 := Ext.new (o := .lst [.int 1]) ha
      have la : up s4 a (.lst [.int 1]) a = some (.lst [.int 1]) := up_same
      generalize up s4 a _ = s5 at x5 la ⊢
      intro q hq
      obtain ⟨li, hli⟩ : ∃ li : List D, li = [.int (-2), .int (-1), .int 0, .int 7, .int 8, .int 9, .bl true, .bl false, .non, .str (PySem.Str.ofString "3"), .int far, .int (-far), .ob a] := ⟨_, rfl⟩
      rw [← hli]
      have lq : up s5 q (.lst li) q = some (.lst li) := up_same
      have x6 := x5.up (o := .lst li) hq
      have la6 := (Ext.new (o := .lst li) hq) _ _ la
      generalize up s5 q _ = s6 at x6 lq la6 ⊢
      refine cat 3 ?_
      obtain ⟨v, hv, hvm⟩ := atM13 (l := li) (i := cellAt ns 3 / 18) (by rw [hli]; rfl)
      simp [↓lst_of lq, hv]
      apply hN2; rw [wSs_nil]
      refine rest6 v _ s6 x6 ?_
      rw [hli] at hvm
      simp only [List.mem_cons, List.not_mem_nil, or_false] at hvm
      rcases hvm with h | h | h | h | h | h | h | h | h | h | h | h | h <;> subst h
      all_goals first
        | exact .inl ⟨_, rfl⟩
        | exact .inr (.inl ⟨_, rfl⟩)
        | exact .inr (.inr (.inl rfl))
        | exact .inr (.inr (.inr (.inl ⟨_, rfl⟩)))
        | exact .inr (.inr (.inr (.inr (.inr ⟨_, _, rfl, la6⟩))))
    · simp [h5]
      rw [wSs_nil]
      exact rest6 _ _ s4 (Ext.refl _) (.inl ⟨_, rfl⟩)
  by_cases h4 : way < 3
  · simp [h4]
    refine wSs_cons fun N2 hN2 => ?_
    simp [↓lst_of l1]
    refine cat 1 ?_
    have hlp : 0 < (ks.length : Int) + 1 := by omega
    simp [↓lst_of l1, hlp]
    refine l_odd8_ok (n := n + 6) z.od hk2 l1 fun x s2 x2 hx hxs hxn => ?_
    have l2 := x2 _ _ l1
    have j0 : 0 ≤ cellAt ns 1 / 8 % ((ks.length : Int) + 1) := Int.emod_nonneg _ (by omega)
    have j1 : cellAt ns 1 / 8 % ((ks.length : Int) + 1) < (ks.length : Int) + 1 := Int.emod_lt_of_pos _ (by omega)
    generalize cellAt ns 1 / 8 % ((ks.length : Int) + 1) = j at j0 j1
    refine ⟨_, l2, by simp; omega, j0, by omega, ?_⟩
    apply hN2; rw [wSs_nil]
    have hes : ∀ d ∈ (ks.map D.str).take j.toNat ++ x :: (ks.map D.str).drop j.toNat, d = x ∨ ∃ k ∈ ks, d = .str k := by
      intro d hd
      rcases List.mem_append.mp hd with h | h
      · obtain ⟨k, hk, e⟩ := List.mem_map.mp (List.mem_of_mem_take h)
        exact .inr ⟨k, hk, e.symm⟩
      · rcases List.mem_cons.mp h with h | h
        · exact .inl h
        · obtain ⟨k, hk, e⟩ := List.mem_map.mp (List.mem_of_mem_drop h)
          exact .inr ⟨k, hk, e.symm⟩
    have hlen : ((ks.map D.str).take j.toNat ++ x :: (ks.map D.str).drop j.toNat).length ≤ 1000 := by simp; omega
    generalize (ks.map D.str).take j.toNat ++ x :: (ks.map D.str).drop j.toNat = es at hes hlen
    refine rest4 es _ up_same (fun d hd => ?_) hlen
    rcases hes d hd with rfl | ⟨k, hk, rfl⟩
    · refine ⟨?_, hxs⟩
      have ne : ∀ a, d = .ob a → a ≠ p := fun a ha e => by
        have := hxn a ha
        rw [e, l1] at this
        cases this
      rcases hx with (h | h | h | h | h | ⟨a, l, h, e⟩) | ⟨a, l, h, e⟩
      · exact .inl (.inl h)
      · exact .inl (.inr (.inl h))
      · exact .inl (.inr (.inr (.inl h)))
      · exact .inl (.inr (.inr (.inr (.inl h))))
      · exact .inl (.inr (.inr (.inr (.inr (.inl h)))))
      · exact .inl (.inr (.inr (.inr (.inr (.inr ⟨a, l, h, by rw [up_ne (ne a h)]; exact e⟩)))))
      · exact .inr ⟨a, l, h, by rw [up_ne (ne a h)]; exact e⟩
    · exact ⟨.inl (.inr (.inr (.inr (.inl ⟨k, rfl⟩)))), fun w hw => by cases hw; exact hk2 k hk⟩
  · simp [h4]
    rw [wSs_nil]
    refine rest4 _ s1 l1 (fun d hd => ?_) (by simp; omega)
    obtain ⟨k, hk, rfl⟩ := List.mem_map.mp hd
    exact ⟨.inl (.inr (.inr (.inr (.inl ⟨k, rfl⟩)))), fun w hw => by cases hw; exact hk2 k hk⟩
end
end MH
set_option Elab.async false
set_option linter.all false
set_option maxRecDepth 100000
set_option maxHeartbeats 4000000
/-! The row of law_k08_worlds (printed by gen.py). -/
namespace MH
namespace Rk08
open PySem L2 PyProof.Rows
def topS (i : Nat) : Stmt := PySem.Challenge.pw_movehouse_k08_worlds.main.body.getD i (.Pass ⟨0, 0, 0, 0⟩)
def G : Gb where
  fns := [(("is_whole" : Str), f_is_whole), (("is_wish" : Str), f_is_wish), (("need_wish" : Str), f_need_wish), (("done" : Str), f_done), (("mark_of" : Str), f_mark_of), (("marked" : Str), f_marked), (("is_key" : Str), f_is_key), (("need_world" : Str), f_need_world), (("_law_cell_at" : Str), f_l_cell_at), (("_law_whole" : Str), f_l_whole), (("_law_kinds" : Str), f_l_kinds_k08), (("_law_refused" : Str), f_l_refused_k08), (("_law_names" : Str), f_l_names), (("_law_odd" : Str), f_l_odd_k08), (("_law_good" : Str), f_l_good), (("_law_fresh" : Str), f_l_fresh), (("_law_no_key" : Str), f_l_no_key), (("law" : Str), f_law_k08)]
  cls := [("House", c_House), ("Caller", c_Caller), ("World", c_World)]
  exs := [("MoveError", x_MoveError), ("BadWorld", x_BadWorld), ("NoCaller", x_NoCaller), ("NoHouse", x_NoHouse), ("NoKey", x_NoKey), ("BadWish", x_BadWish), ("Busy", x_Busy), ("Idle", x_Idle), ("NotHere", x_NotHere), ("NoLetter", x_NoLetter)]
  consts := [("GREATEST", .int 1000000000000000000000000000000), ("MOST", .int 6), ("MOST_SIGNS", .int 8), ("LETTERS", .str q_abcdefghijklmnopqrstuvwxyz)]
  attrs := attrs
  fld := fun c f => ([(c_House, a_number), (c_House, a_names), (c_House, a_known), (c_House, a_written), (c_House, a_laid), (c_House, a_fresh), (c_Caller, a_number), (c_Caller, a_made), (c_Caller, a_asked), (c_Caller, a_closed), (c_World, a_names), (c_World, a_houses), (c_World, a_callers), (c_World, a_under_way), (c_World, a_rows)] : List (Nat × Nat)).contains (c, f)
  tnames := ["marks", "_law_places"]
  knd := [(("_law_kinds" : Str), [x_BadWorld, x_NoCaller, x_NoHouse, x_NoKey, x_BadWish, x_Busy, x_Idle, x_NotHere, x_NoLetter])]
def T : Tab where
  fn := fun f => ([(f_is_whole, fn_is_whole), (f_is_wish, fn_is_wish), (f_need_wish, fn_need_wish), (f_done, fn_done), (f_mark_of, fn_mark_of), (f_marked, fn_marked), (f_is_key, fn_is_key), (f_need_world, fn_need_world), (f_l_cell_at, fn_l_cell_at), (f_l_whole, fn_l_whole), (f_l_refused_k08, fn_l_refused_k08), (f_l_names, fn_l_names), (f_l_odd_k08, fn_l_odd_k08), (f_l_good, fn_l_good), (f_l_fresh, fn_l_fresh), (f_l_no_key, fn_l_no_key), (f_law_k08, fn_law_k08), (f_House_init, fn_House_init), (f_House_has, fn_House_has), (f_House_owes, fn_House_owes), (f_House_parcel, fn_House_parcel), (f_House_came, fn_House_came), (f_House_called, fn_House_called), (f_House_write, fn_House_write), (f_House_nudge, fn_House_nudge), (f_Caller_init, fn_Caller_init), (f_Caller_begin, fn_Caller_begin), (f_Caller_letter, fn_Caller_letter), (f_Caller_came, fn_Caller_came), (f_Caller_asking, fn_Caller_asking), (f_Caller_answers, fn_Caller_answers), (f_World_init, fn_World_init), (f_World_need_caller, fn_World_need_caller), (f_World_need_house, fn_World_need_house), (f_World_need_key, fn_World_need_key), (f_World_need_place, fn_World_need_place), (f_World_call, fn_World_call), (f_World_again, fn_World_again), (f_World_letters, fn_World_letters), (f_World_brought, fn_World_brought), (f_World_hand, fn_World_hand), (f_World_twice, fn_World_twice), (f_World_home, fn_World_home), (f_World_has, fn_World_has), (f_World_write, fn_World_write), (f_World_nudge, fn_World_nudge), (f_World_ledger, fn_World_ledger), (f_World_asking, fn_World_asking), (f_World_answers, fn_World_answers), (f_World_owes, fn_World_owes), (f_World_is_settled, fn_World_is_settled), (f_World_settle, fn_World_settle)] : List (Nat × Fn)).lookup f
  meth := fun c m => ([((c_House, a_has), f_House_has), ((c_House, a_owes), f_House_owes), ((c_House, a_parcel), f_House_parcel), ((c_House, a_came), f_House_came), ((c_House, a_called), f_House_called), ((c_House, a_move), f_House_move_k08), ((c_House, a_write), f_House_write), ((c_House, a_sleep), f_House_sleep_k08), ((c_House, a_nudge), f_House_nudge), ((c_Caller, a_begin), f_Caller_begin), ((c_Caller, a_letter), f_Caller_letter), ((c_Caller, a_came), f_Caller_came), ((c_Caller, a_asking), f_Caller_asking), ((c_Caller, a_answers), f_Caller_answers), ((c_World, a_need_caller), f_World_need_caller), ((c_World, a_need_house), f_World_need_house), ((c_World, a_need_key), f_World_need_key), ((c_World, a_need_place), f_World_need_place), ((c_World, a_call), f_World_call), ((c_World, a_again), f_World_again), ((c_World, a_letters), f_World_letters), ((c_World, a_brought), f_World_brought), ((c_World, a_hand), f_World_hand), ((c_World, a_twice), f_World_twice), ((c_World, a_lose), f_World_lose_k08), ((c_World, a_home), f_World_home), ((c_World, a_has), f_World_has), ((c_World, a_move), f_World_move_k08), ((c_World, a_write), f_World_write), ((c_World, a_sleep), f_World_sleep_k08), ((c_World, a_nudge), f_World_nudge), ((c_World, a_ledger), f_World_ledger), ((c_World, a_asking), f_World_asking), ((c_World, a_answers), f_World_answers), ((c_World, a_owes), f_World_owes), ((c_World, a_is_settled), f_World_is_settled), ((c_World, a_settle), f_World_settle)] : List ((Nat × Nat) × Nat)).lookup (c, m)
  init := fun c => ([(c_House, f_House_init), (c_Caller, f_Caller_init), (c_World, f_World_init)] : List (Nat × Nat)).lookup c
  sub := fun c k => ([(x_BadWorld, x_MoveError), (x_BadWorld, x_BadWorld), (x_BadWorld, 999), (x_NoKey, x_NoKey), (x_BadWorld, x_NoCaller + 2000), (x_BadWorld, x_NoHouse + 2000), (x_BadWorld, x_NoKey + 2000), (x_BadWorld, x_BadWish + 2000), (x_BadWorld, x_Busy + 2000), (x_BadWorld, x_Idle + 2000), (x_BadWorld, x_NotHere + 2000), (x_BadWorld, x_NoLetter + 2000)] : List (Nat × Nat)).contains (c, k)
  fld := G.fld
abbrev s_is_whole : Stmt := (topS 16)
theorem sc_is_whole : FnScope ["thing"] ["thing"] (defScope s_is_whole) := ⟨rfl, rfl, rfl, by decide +kernel, rfl, by decide +kernel, by decide +kernel⟩
theorem cp_is_whole : cSs (cSt G ["thing"] (defScope s_is_whole) fE fS) (defBody s_is_whole) = some fn_is_whole.body := by kernel_rfl
abbrev s_is_wish : Stmt := (topS 17)
theorem sc_is_wish : FnScope ["thing"] ["thing"] (defScope s_is_wish) := ⟨rfl, rfl, rfl, by decide +kernel, rfl, by decide +kernel, by decide +kernel⟩
theorem cp_is_wish : cSs (cSt G ["thing"] (defScope s_is_wish) fE fS) (defBody s_is_wish) = some fn_is_wish.body := by kernel_rfl
abbrev s_need_wish : Stmt := (topS 18)
theorem sc_need_wish : FnScope ["wish"] ["wish"] (defScope s_need_wish) := ⟨rfl, rfl, rfl, by decide +kernel, rfl, by decide +kernel, by decide +kernel⟩
theorem cp_need_wish : cSs (cSt G ["wish"] (defScope s_need_wish) fE fS) (defBody s_need_wish) = some fn_need_wish.body := by kernel_rfl
abbrev s_done : Stmt := (topS 19)
theorem sc_done : FnScope ["amount", "wish"] ["amount", "wish"] (defScope s_done) := ⟨rfl, rfl, rfl, by decide +kernel, rfl, by decide +kernel, by decide +kernel⟩
theorem cp_done : cSs (cSt G ["amount", "wish"] (defScope s_done) fE fS) (defBody s_done) = some fn_done.body := by kernel_rfl
abbrev s_mark_of : Stmt := (topS 21)
theorem sc_mark_of : FnScope ["marks", "caller", "one", "number", "told"] ["marks", "caller"] (defScope s_mark_of) := ⟨rfl, rfl, rfl, by decide +kernel, rfl, by decide +kernel, by decide +kernel⟩
theorem cp_mark_of : cSs (cSt G ["marks", "caller", "one", "number", "told"] (defScope s_mark_of) fE fS) (defBody s_mark_of) = some fn_mark_of.body := by kernel_rfl
abbrev s_marked : Stmt := (topS 22)
theorem sc_marked : FnScope ["marks", "caller", "number", "told", "others", "mark"] ["marks", "caller", "number", "told"] (defScope s_marked) := ⟨rfl, rfl, rfl, by decide +kernel, rfl, by decide +kernel, by decide +kernel⟩
theorem cp_marked : cSs (cSt G ["marks", "caller", "number", "told", "others", "mark"] (defScope s_marked) fE fS) (defBody s_marked) = some fn_marked.body := by kernel_rfl
abbrev s_is_key : Stmt := (topS 28)
theorem sc_is_key : FnScope ["thing", "sign"] ["thing"] (defScope s_is_key) := ⟨rfl, rfl, rfl, by decide +kernel, rfl, by decide +kernel, by decide +kernel⟩
theorem cp_is_key : cSs (cSt G ["thing", "sign"] (defScope s_is_key) fE fS) (defBody s_is_key) = some fn_is_key.body := by kernel_rfl
abbrev s_need_world : Stmt := (topS 29)
theorem sc_need_world : FnScope ["keys", "callers", "k", "key"] ["keys", "callers"] (defScope s_need_world) := ⟨rfl, rfl, rfl, by decide +kernel, rfl, by decide +kernel, by decide +kernel⟩
theorem cp_need_world : cSs (cSt G ["keys", "callers", "k", "key"] (defScope s_need_world) fE fS) (defBody s_need_world) = some fn_need_world.body := by kernel_rfl
abbrev s_l_cell_at : Stmt := (topS 32)
theorem sc_l_cell_at : FnScope ["_law_script", "_law_k"] ["_law_script", "_law_k"] (defScope s_l_cell_at) := ⟨rfl, rfl, rfl, by decide +kernel, rfl, by decide +kernel, by decide +kernel⟩
theorem cp_l_cell_at : cSs (cSt G ["_law_script", "_law_k"] (defScope s_l_cell_at) fE fS) (defBody s_l_cell_at) = some fn_l_cell_at.body := by kernel_rfl
abbrev s_l_whole : Stmt := (topS 33)
theorem sc_l_whole : FnScope ["_law_found"] ["_law_found"] (defScope s_l_whole) := ⟨rfl, rfl, rfl, by decide +kernel, rfl, by decide +kernel, by decide +kernel⟩
theorem cp_l_whole : cSs (cSt G ["_law_found"] (defScope s_l_whole) fE fS) (defBody s_l_whole) = some fn_l_whole.body := by kernel_rfl
abbrev s_l_kinds_k08 : Stmt := (topS 34)
abbrev s_l_refused_k08 : Stmt := (topS 35)
theorem sc_l_refused_k08 : FnScope ["_law_keys", "_law_callers", "_law_e"] ["_law_keys", "_law_callers"] (defScope s_l_refused_k08) := ⟨rfl, rfl, rfl, by decide +kernel, rfl, by decide +kernel, by decide +kernel⟩
theorem cp_l_refused_k08 : cSs (cSt G ["_law_keys", "_law_callers", "_law_e"] (defScope s_l_refused_k08) fE fS) (defBody s_l_refused_k08) = some fn_l_refused_k08.body := by kernel_rfl
abbrev s_l_names : Stmt := (topS 36)
theorem sc_l_names : FnScope ["_law_cell", "_law_letters", "_law_size", "_law_at", "_law_turn", "_law_rest", "_law_k"] ["_law_cell"] (defScope s_l_names) := ⟨rfl, rfl, rfl, by decide +kernel, rfl, by decide +kernel, by decide +kernel⟩
theorem cp_l_names : cSs (cSt G ["_law_cell", "_law_letters", "_law_size", "_law_at", "_law_turn", "_law_rest", "_law_k"] (defScope s_l_names) fE fS) (defBody s_l_names) = some fn_l_names.body := by kernel_rfl
abbrev s_l_odd_k08 : Stmt := (topS 37)
theorem sc_l_odd_k08 : FnScope ["_law_cell", "_law_keys", "_law_some", "_law_sign", "_law_odd_here"] ["_law_cell", "_law_keys"] (defScope s_l_odd_k08) := ⟨rfl, rfl, rfl, by decide +kernel, rfl, by decide +kernel, by decide +kernel⟩
theorem cp_l_odd_k08 : cSs (cSt G ["_law_cell", "_law_keys", "_law_some", "_law_sign", "_law_odd_here"] (defScope s_l_odd_k08) fE fS) (defBody s_l_odd_k08) = some fn_l_odd_k08.body := by kernel_rfl
abbrev s_l_good : Stmt := (topS 38)
theorem sc_l_good : FnScope ["_law_keys", "_law_callers", "_law_k", "_law_sign"] ["_law_keys", "_law_callers"] (defScope s_l_good) := ⟨rfl, rfl, rfl, by decide +kernel, rfl, by decide +kernel, by decide +kernel⟩
theorem cp_l_good : cSs (cSt G ["_law_keys", "_law_callers", "_law_k", "_law_sign"] (defScope s_l_good) fE fS) (defBody s_l_good) = some fn_l_good.body := by kernel_rfl
abbrev s_l_fresh : Stmt := (topS 39)
theorem sc_l_fresh : FnScope ["_law_world", "_law_keys", "_law_callers", "_law_key", "_law_caller", "_law_rounds"] ["_law_world", "_law_keys", "_law_callers"] (defScope s_l_fresh) := ⟨rfl, rfl, rfl, by decide +kernel, rfl, by decide +kernel, by decide +kernel⟩
theorem cp_l_fresh : cSs (cSt G ["_law_world", "_law_keys", "_law_callers", "_law_key", "_law_caller", "_law_rounds"] (defScope s_l_fresh) fE fS) (defBody s_l_fresh) = some fn_l_fresh.body := by kernel_rfl
abbrev s_l_no_key : Stmt := (topS 40)
theorem sc_l_no_key : FnScope ["_law_world", "_law_key"] ["_law_world", "_law_key"] (defScope s_l_no_key) := ⟨rfl, rfl, rfl, by decide +kernel, rfl, by decide +kernel, by decide +kernel⟩
theorem cp_l_no_key : cSs (cSt G ["_law_world", "_law_key"] (defScope s_l_no_key) fE fS) (defBody s_l_no_key) = some fn_l_no_key.body := by kernel_rfl
abbrev s_law_k08 : Stmt := (topS 41)
theorem sc_law_k08 : FnScope ["_law_script", "_law_keys", "_law_way", "_law_cell", "_law_callers", "_law_far", "_law_handed", "_law_world"] ["_law_script"] (defScope s_law_k08) := ⟨rfl, rfl, rfl, by decide +kernel, rfl, by decide +kernel, by decide +kernel⟩
theorem cp_law_k08 : cSs (cSt G ["_law_script", "_law_keys", "_law_way", "_law_cell", "_law_callers", "_law_far", "_law_handed", "_law_world"] (defScope s_law_k08) fE fS) (defBody s_law_k08) = some fn_law_k08.body := by kernel_rfl
abbrev s_House_init : Stmt := (inClass (topS 23) 0)
theorem sc_House_init : FnScope ["self", "number", "keys", "key"] ["self", "number", "keys"] (defScope s_House_init) := ⟨rfl, rfl, rfl, by decide +kernel, rfl, by decide +kernel, by decide +kernel⟩
theorem cp_House_init : cSs (cSt G ["self", "number", "keys", "key"] (defScope s_House_init) fE fS) (defBody s_House_init) = some fn_House_init.body := by kernel_rfl
abbrev s_House_has : Stmt := (inClass (topS 23) 1)
theorem sc_House_has : FnScope ["self", "key"] ["self", "key"] (defScope s_House_has) := ⟨rfl, rfl, rfl, by decide +kernel, rfl, by decide +kernel, by decide +kernel⟩
theorem cp_House_has : cSs (cSt G ["self", "key"] (defScope s_House_has) fE fS) (defBody s_House_has) = some fn_House_has.body := by kernel_rfl
abbrev s_House_owes : Stmt := (inClass (topS 23) 2)
theorem sc_House_owes : FnScope ["self", "key"] ["self"] (defScope s_House_owes) := ⟨rfl, rfl, rfl, by decide +kernel, rfl, by decide +kernel, by decide +kernel⟩
theorem cp_House_owes : cSs (cSt G ["self", "key"] (defScope s_House_owes) fE fS) (defBody s_House_owes) = some fn_House_owes.body := by kernel_rfl
abbrev s_House_parcel : Stmt := (inClass (topS 23) 3)
theorem sc_House_parcel : FnScope ["self", "key", "row"] ["self", "key", "row"] (defScope s_House_parcel) := ⟨rfl, rfl, rfl, by decide +kernel, rfl, by decide +kernel, by decide +kernel⟩
theorem cp_House_parcel : cSs (cSt G ["self", "key", "row"] (defScope s_House_parcel) fE fS) (defBody s_House_parcel) = some fn_House_parcel.body := by kernel_rfl
abbrev s_House_came : Stmt := (inClass (topS 23) 4)
theorem sc_House_came : FnScope ["self", "letter", "turn", "state", "amount", "marks"] ["self", "letter"] (defScope s_House_came) := ⟨rfl, rfl, rfl, by decide +kernel, rfl, by decide +kernel, by decide +kernel⟩
theorem cp_House_came : cSs (cSt G ["self", "letter", "turn", "state", "amount", "marks"] (defScope s_House_came) fE fS) (defBody s_House_came) = some fn_House_came.body := by kernel_rfl
abbrev s_House_called : Stmt := (inClass (topS 23) 5)
theorem sc_House_called : FnScope ["self", "caller", "number", "key", "wish", "turn", "state", "amount", "marks", "last", "told"] ["self", "caller", "number", "key", "wish"] (defScope s_House_called) := ⟨rfl, rfl, rfl, by decide +kernel, rfl, by decide +kernel, by decide +kernel⟩
theorem cp_House_called : cSs (cSt G ["self", "caller", "number", "key", "wish", "turn", "state", "amount", "marks", "last", "told"] (defScope s_House_called) fE fS) (defBody s_House_called) = some fn_House_called.body := by kernel_rfl
abbrev s_House_move_k08 : Stmt := (inClass (topS 23) 6)
abbrev s_House_write : Stmt := (inClass (topS 23) 7)
theorem sc_House_write : FnScope ["self", "pair"] ["self"] (defScope s_House_write) := ⟨rfl, rfl, rfl, by decide +kernel, rfl, by decide +kernel, by decide +kernel⟩
theorem cp_House_write : cSs (cSt G ["self", "pair"] (defScope s_House_write) fE fS) (defBody s_House_write) = some fn_House_write.body := by kernel_rfl
abbrev s_House_sleep_k08 : Stmt := (inClass (topS 23) 8)
abbrev s_House_nudge : Stmt := (inClass (topS 23) 9)
theorem sc_House_nudge : FnScope ["self", "key"] ["self"] (defScope s_House_nudge) := ⟨rfl, rfl, rfl, by decide +kernel, rfl, by decide +kernel, by decide +kernel⟩
theorem cp_House_nudge : cSs (cSt G ["self", "key"] (defScope s_House_nudge) fE fS) (defBody s_House_nudge) = some fn_House_nudge.body := by kernel_rfl
abbrev s_Caller_init : Stmt := (inClass (topS 2) 0)
theorem sc_Caller_init : FnScope ["self", "number"] ["self", "number"] (defScope s_Caller_init) := ⟨rfl, rfl, rfl, by decide +kernel, rfl, by decide +kernel, by decide +kernel⟩
theorem cp_Caller_init : cSs (cSt G ["self", "number"] (defScope s_Caller_init) fE fS) (defBody s_Caller_init) = some fn_Caller_init.body := by kernel_rfl
abbrev s_Caller_begin : Stmt := (inClass (topS 2) 1)
theorem sc_Caller_begin : FnScope ["self", "key", "wish"] ["self", "key", "wish"] (defScope s_Caller_begin) := ⟨rfl, rfl, rfl, by decide +kernel, rfl, by decide +kernel, by decide +kernel⟩
theorem cp_Caller_begin : cSs (cSt G ["self", "key", "wish"] (defScope s_Caller_begin) fE fS) (defBody s_Caller_begin) = some fn_Caller_begin.body := by kernel_rfl
abbrev s_Caller_letter : Stmt := (inClass (topS 2) 2)
theorem sc_Caller_letter : FnScope ["self", "house"] ["self", "house"] (defScope s_Caller_letter) := ⟨rfl, rfl, rfl, by decide +kernel, rfl, by decide +kernel, by decide +kernel⟩
theorem cp_Caller_letter : cSs (cSt G ["self", "house"] (defScope s_Caller_letter) fE fS) (defBody s_Caller_letter) = some fn_Caller_letter.body := by kernel_rfl
abbrev s_Caller_came : Stmt := (inClass (topS 2) 3)
theorem sc_Caller_came : FnScope ["self", "number", "told"] ["self", "number", "told"] (defScope s_Caller_came) := ⟨rfl, rfl, rfl, by decide +kernel, rfl, by decide +kernel, by decide +kernel⟩
theorem cp_Caller_came : cSs (cSt G ["self", "number", "told"] (defScope s_Caller_came) fE fS) (defBody s_Caller_came) = some fn_Caller_came.body := by kernel_rfl
abbrev s_Caller_asking : Stmt := (inClass (topS 2) 4)
theorem sc_Caller_asking : FnScope ["self"] ["self"] (defScope s_Caller_asking) := ⟨rfl, rfl, rfl, by decide +kernel, rfl, by decide +kernel, by decide +kernel⟩
theorem cp_Caller_asking : cSs (cSt G ["self"] (defScope s_Caller_asking) fE fS) (defBody s_Caller_asking) = some fn_Caller_asking.body := by kernel_rfl
abbrev s_Caller_answers : Stmt := (inClass (topS 2) 5)
theorem sc_Caller_answers : FnScope ["self"] ["self"] (defScope s_Caller_answers) := ⟨rfl, rfl, rfl, by decide +kernel, rfl, by decide +kernel, by decide +kernel⟩
theorem cp_Caller_answers : cSs (cSt G ["self"] (defScope s_Caller_answers) fE fS) (defBody s_Caller_answers) = some fn_Caller_answers.body := by kernel_rfl
abbrev s_World_init : Stmt := (inClass (topS 30) 0)
theorem sc_World_init : FnScope ["self", "keys", "callers", "k"] ["self", "keys", "callers"] (defScope s_World_init) := ⟨rfl, rfl, rfl, by decide +kernel, rfl, by decide +kernel, by decide +kernel⟩
theorem cp_World_init : cSs (cSt G ["self", "keys", "callers", "k"] (defScope s_World_init) fE fS) (defBody s_World_init) = some fn_World_init.body := by kernel_rfl
abbrev s_World_need_caller : Stmt := (inClass (topS 30) 1)
theorem sc_World_need_caller : FnScope ["self", "caller"] ["self", "caller"] (defScope s_World_need_caller) := ⟨rfl, rfl, rfl, by decide +kernel, rfl, by decide +kernel, by decide +kernel⟩
theorem cp_World_need_caller : cSs (cSt G ["self", "caller"] (defScope s_World_need_caller) fE fS) (defBody s_World_need_caller) = some fn_World_need_caller.body := by kernel_rfl
abbrev s_World_need_house : Stmt := (inClass (topS 30) 2)
theorem sc_World_need_house : FnScope ["self", "house"] ["self", "house"] (defScope s_World_need_house) := ⟨rfl, rfl, rfl, by decide +kernel, rfl, by decide +kernel, by decide +kernel⟩
theorem cp_World_need_house : cSs (cSt G ["self", "house"] (defScope s_World_need_house) fE fS) (defBody s_World_need_house) = some fn_World_need_house.body := by kernel_rfl
abbrev s_World_need_key : Stmt := (inClass (topS 30) 3)
theorem sc_World_need_key : FnScope ["self", "key"] ["self", "key"] (defScope s_World_need_key) := ⟨rfl, rfl, rfl, by decide +kernel, rfl, by decide +kernel, by decide +kernel⟩
theorem cp_World_need_key : cSs (cSt G ["self", "key"] (defScope s_World_need_key) fE fS) (defBody s_World_need_key) = some fn_World_need_key.body := by kernel_rfl
abbrev s_World_need_place : Stmt := (inClass (topS 30) 4)
theorem sc_World_need_place : FnScope ["self", "place"] ["self", "place"] (defScope s_World_need_place) := ⟨rfl, rfl, rfl, by decide +kernel, rfl, by decide +kernel, by decide +kernel⟩
theorem cp_World_need_place : cSs (cSt G ["self", "place"] (defScope s_World_need_place) fE fS) (defBody s_World_need_place) = some fn_World_need_place.body := by kernel_rfl
abbrev s_World_call : Stmt := (inClass (topS 30) 5)
theorem sc_World_call : FnScope ["self", "caller", "house", "key", "wish", "one", "number"] ["self", "caller", "house", "key", "wish"] (defScope s_World_call) := ⟨rfl, rfl, rfl, by decide +kernel, rfl, by decide +kernel, by decide +kernel⟩
theorem cp_World_call : cSs (cSt G ["self", "caller", "house", "key", "wish", "one", "number"] (defScope s_World_call) fE fS) (defBody s_World_call) = some fn_World_call.body := by kernel_rfl
abbrev s_World_again : Stmt := (inClass (topS 30) 6)
theorem sc_World_again : FnScope ["self", "caller", "house", "one"] ["self", "caller", "house"] (defScope s_World_again) := ⟨rfl, rfl, rfl, by decide +kernel, rfl, by decide +kernel, by decide +kernel⟩
theorem cp_World_again : cSs (cSt G ["self", "caller", "house", "one"] (defScope s_World_again) fE fS) (defBody s_World_again) = some fn_World_again.body := by kernel_rfl
abbrev s_World_letters : Stmt := (inClass (topS 30) 7)
theorem sc_World_letters : FnScope ["self"] ["self"] (defScope s_World_letters) := ⟨rfl, rfl, rfl, by decide +kernel, rfl, by decide +kernel, by decide +kernel⟩
theorem cp_World_letters : cSs (cSt G ["self"] (defScope s_World_letters) fE fS) (defBody s_World_letters) = some fn_World_letters.body := by kernel_rfl
abbrev s_World_brought : Stmt := (inClass (topS 30) 8)
theorem sc_World_brought : FnScope ["self", "letter"] ["self", "letter"] (defScope s_World_brought) := ⟨rfl, rfl, rfl, by decide +kernel, rfl, by decide +kernel, by decide +kernel⟩
theorem cp_World_brought : cSs (cSt G ["self", "letter"] (defScope s_World_brought) fE fS) (defBody s_World_brought) = some fn_World_brought.body := by kernel_rfl
abbrev s_World_hand : Stmt := (inClass (topS 30) 9)
theorem sc_World_hand : FnScope ["self", "place"] ["self", "place"] (defScope s_World_hand) := ⟨rfl, rfl, rfl, by decide +kernel, rfl, by decide +kernel, by decide +kernel⟩
theorem cp_World_hand : cSs (cSt G ["self", "place"] (defScope s_World_hand) fE fS) (defBody s_World_hand) = some fn_World_hand.body := by kernel_rfl
abbrev s_World_twice : Stmt := (inClass (topS 30) 10)
theorem sc_World_twice : FnScope ["self", "place"] ["self", "place"] (defScope s_World_twice) := ⟨rfl, rfl, rfl, by decide +kernel, rfl, by decide +kernel, by decide +kernel⟩
theorem cp_World_twice : cSs (cSt G ["self", "place"] (defScope s_World_twice) fE fS) (defBody s_World_twice) = some fn_World_twice.body := by kernel_rfl
abbrev s_World_lose_k08 : Stmt := (inClass (topS 30) 11)
abbrev s_World_home : Stmt := (inClass (topS 30) 12)
theorem sc_World_home : FnScope ["self", "key", "house"] ["self", "key"] (defScope s_World_home) := ⟨rfl, rfl, rfl, by decide +kernel, rfl, by decide +kernel, by decide +kernel⟩
theorem cp_World_home : cSs (cSt G ["self", "key", "house"] (defScope s_World_home) fE fS) (defBody s_World_home) = some fn_World_home.body := by kernel_rfl
abbrev s_World_has : Stmt := (inClass (topS 30) 13)
theorem sc_World_has : FnScope ["self", "house", "key", "one"] ["self", "house", "key"] (defScope s_World_has) := ⟨rfl, rfl, rfl, by decide +kernel, rfl, by decide +kernel, by decide +kernel⟩
theorem cp_World_has : cSs (cSt G ["self", "house", "key", "one"] (defScope s_World_has) fE fS) (defBody s_World_has) = some fn_World_has.body := by kernel_rfl
abbrev s_World_move_k08 : Stmt := (inClass (topS 30) 14)
abbrev s_World_write : Stmt := (inClass (topS 30) 15)
theorem sc_World_write : FnScope ["self", "house", "posted", "rows"] ["self", "house"] (defScope s_World_write) := ⟨rfl, rfl, rfl, by decide +kernel, rfl, by decide +kernel, by decide +kernel⟩
theorem cp_World_write : cSs (cSt G ["self", "house", "posted", "rows"] (defScope s_World_write) fE fS) (defBody s_World_write) = some fn_World_write.body := by kernel_rfl
abbrev s_World_sleep_k08 : Stmt := (inClass (topS 30) 16)
abbrev s_World_nudge : Stmt := (inClass (topS 30) 17)
theorem sc_World_nudge : FnScope ["self", "house"] ["self", "house"] (defScope s_World_nudge) := ⟨rfl, rfl, rfl, by decide +kernel, rfl, by decide +kernel, by decide +kernel⟩
theorem cp_World_nudge : cSs (cSt G ["self", "house"] (defScope s_World_nudge) fE fS) (defBody s_World_nudge) = some fn_World_nudge.body := by kernel_rfl
abbrev s_World_ledger : Stmt := (inClass (topS 30) 18)
theorem sc_World_ledger : FnScope ["self"] ["self"] (defScope s_World_ledger) := ⟨rfl, rfl, rfl, by decide +kernel, rfl, by decide +kernel, by decide +kernel⟩
theorem cp_World_ledger : cSs (cSt G ["self"] (defScope s_World_ledger) fE fS) (defBody s_World_ledger) = some fn_World_ledger.body := by kernel_rfl
abbrev s_World_asking : Stmt := (inClass (topS 30) 19)
theorem sc_World_asking : FnScope ["self", "caller"] ["self", "caller"] (defScope s_World_asking) := ⟨rfl, rfl, rfl, by decide +kernel, rfl, by decide +kernel, by decide +kernel⟩
theorem cp_World_asking : cSs (cSt G ["self", "caller"] (defScope s_World_asking) fE fS) (defBody s_World_asking) = some fn_World_asking.body := by kernel_rfl
abbrev s_World_answers : Stmt := (inClass (topS 30) 20)
theorem sc_World_answers : FnScope ["self", "caller"] ["self", "caller"] (defScope s_World_answers) := ⟨rfl, rfl, rfl, by decide +kernel, rfl, by decide +kernel, by decide +kernel⟩
theorem cp_World_answers : cSs (cSt G ["self", "caller"] (defScope s_World_answers) fE fS) (defBody s_World_answers) = some fn_World_answers.body := by kernel_rfl
abbrev s_World_owes : Stmt := (inClass (topS 30) 21)
theorem sc_World_owes : FnScope ["self", "house"] ["self", "house"] (defScope s_World_owes) := ⟨rfl, rfl, rfl, by decide +kernel, rfl, by decide +kernel, by decide +kernel⟩
theorem cp_World_owes : cSs (cSt G ["self", "house"] (defScope s_World_owes) fE fS) (defBody s_World_owes) = some fn_World_owes.body := by kernel_rfl
abbrev s_World_is_settled : Stmt := (inClass (topS 30) 22)
theorem sc_World_is_settled : FnScope ["self", "one"] ["self"] (defScope s_World_is_settled) := ⟨rfl, rfl, rfl, by decide +kernel, rfl, by decide +kernel, by decide +kernel⟩
theorem cp_World_is_settled : cSs (cSt G ["self", "one"] (defScope s_World_is_settled) fE fS) (defBody s_World_is_settled) = some fn_World_is_settled.body := by kernel_rfl
abbrev s_World_settle : Stmt := (inClass (topS 30) 23)
theorem sc_World_settle : FnScope ["self", "rounds", "house", "one", "k"] ["self"] (defScope s_World_settle) := ⟨rfl, rfl, rfl, by decide +kernel, rfl, by decide +kernel, by decide +kernel⟩
theorem cp_World_settle : cSs (cSt G ["self", "rounds", "house", "one", "k"] (defScope s_World_settle) fE fS) (defBody s_World_settle) = some fn_World_settle.body := by kernel_rfl
theorem sc_l_kinds_k08 : FnScope ["_law_e", "_law_some"] ["_law_e"] (defScope s_l_kinds_k08) := ⟨rfl, rfl, rfl, by decide +kernel, rfl, by decide +kernel, by decide +kernel⟩
theorem ck_l_kinds_k08 : cKinds G ["_law_e", "_law_some"] (defScope s_l_kinds_k08) "_law_e" (defBody s_l_kinds_k08) = some [x_BadWorld, x_NoCaller, x_NoHouse, x_NoKey, x_BadWish, x_Busy, x_Idle, x_NotHere, x_NoLetter] := by kernel_rfl
theorem rows {l : PySem.W.OpenLaw} {w : World} {K : PySem.W.Frag} {h : Heap} {mg : Str → Option Value} {fa C_House C_Caller C_World E_MoveError E_BadWorld E_NoCaller E_NoHouse E_NoKey E_BadWish E_Busy E_Idle E_NotHere E_NoLetter p_is_whole p_is_wish p_need_wish p_done p_mark_of p_marked p_is_key p_need_world p_l_cell_at p_l_whole p_l_kinds_k08 p_l_refused_k08 p_l_names p_l_odd_k08 p_l_good p_l_fresh p_l_no_key p_law_k08 p_House_init p_House_has p_House_owes p_House_parcel p_House_came p_House_called p_House_move_k08 p_House_write p_House_sleep_k08 p_House_nudge p_Caller_init p_Caller_begin p_Caller_letter p_Caller_came p_Caller_asking p_Caller_answers p_World_init p_World_need_caller p_World_need_house p_World_need_key p_World_need_place p_World_call p_World_again p_World_letters p_World_brought p_World_hand p_World_twice p_World_lose_k08 p_World_home p_World_has p_World_move_k08 p_World_write p_World_sleep_k08 p_World_nudge p_World_ledger p_World_asking p_World_answers p_World_owes p_World_is_settled p_World_settle : Addr} (X : K.In h) (Gm : h.Ns mainGlobals mg) (hfa : mg "law" = some (.ref fa))
    {od_is_whole an_is_whole : Option Addr} {sl_is_whole : Array (Option Value)} {oc_is_whole kV_is_whole dc_is_whole pm_is_whole cd_is_whole ct_is_whole : Value}
    {od_is_wish an_is_wish : Option Addr} {sl_is_wish : Array (Option Value)} {oc_is_wish kV_is_wish dc_is_wish pm_is_wish cd_is_wish ct_is_wish : Value}
    {od_need_wish an_need_wish : Option Addr} {sl_need_wish : Array (Option Value)} {oc_need_wish kV_need_wish dc_need_wish pm_need_wish cd_need_wish ct_need_wish : Value}
    {od_done an_done : Option Addr} {sl_done : Array (Option Value)} {oc_done kV_done dc_done pm_done cd_done ct_done : Value}
    {od_mark_of an_mark_of : Option Addr} {sl_mark_of : Array (Option Value)} {oc_mark_of kV_mark_of dc_mark_of pm_mark_of cd_mark_of ct_mark_of : Value}
    {od_marked an_marked : Option Addr} {sl_marked : Array (Option Value)} {oc_marked kV_marked dc_marked pm_marked cd_marked ct_marked : Value}
    {od_is_key an_is_key : Option Addr} {sl_is_key : Array (Option Value)} {oc_is_key kV_is_key dc_is_key pm_is_key cd_is_key ct_is_key : Value}
    {od_need_world an_need_world : Option Addr} {sl_need_world : Array (Option Value)} {oc_need_world kV_need_world dc_need_world pm_need_world cd_need_world ct_need_world : Value}
    {od_l_cell_at an_l_cell_at : Option Addr} {sl_l_cell_at : Array (Option Value)} {oc_l_cell_at kV_l_cell_at dc_l_cell_at pm_l_cell_at cd_l_cell_at ct_l_cell_at : Value}
    {od_l_whole an_l_whole : Option Addr} {sl_l_whole : Array (Option Value)} {oc_l_whole kV_l_whole dc_l_whole pm_l_whole cd_l_whole ct_l_whole : Value}
    {od_l_kinds_k08 an_l_kinds_k08 : Option Addr} {sl_l_kinds_k08 : Array (Option Value)} {oc_l_kinds_k08 kV_l_kinds_k08 dc_l_kinds_k08 pm_l_kinds_k08 cd_l_kinds_k08 ct_l_kinds_k08 : Value}
    {od_l_refused_k08 an_l_refused_k08 : Option Addr} {sl_l_refused_k08 : Array (Option Value)} {oc_l_refused_k08 kV_l_refused_k08 dc_l_refused_k08 pm_l_refused_k08 cd_l_refused_k08 ct_l_refused_k08 : Value}
    {od_l_names an_l_names : Option Addr} {sl_l_names : Array (Option Value)} {oc_l_names kV_l_names dc_l_names pm_l_names cd_l_names ct_l_names : Value}
    {od_l_odd_k08 an_l_odd_k08 : Option Addr} {sl_l_odd_k08 : Array (Option Value)} {oc_l_odd_k08 kV_l_odd_k08 dc_l_odd_k08 pm_l_odd_k08 cd_l_odd_k08 ct_l_odd_k08 : Value}
    {od_l_good an_l_good : Option Addr} {sl_l_good : Array (Option Value)} {oc_l_good kV_l_good dc_l_good pm_l_good cd_l_good ct_l_good : Value}
    {od_l_fresh an_l_fresh : Option Addr} {sl_l_fresh : Array (Option Value)} {oc_l_fresh kV_l_fresh dc_l_fresh pm_l_fresh cd_l_fresh ct_l_fresh : Value}
    {od_l_no_key an_l_no_key : Option Addr} {sl_l_no_key : Array (Option Value)} {oc_l_no_key kV_l_no_key dc_l_no_key pm_l_no_key cd_l_no_key ct_l_no_key : Value}
    {od_law_k08 an_law_k08 : Option Addr} {sl_law_k08 : Array (Option Value)} {oc_law_k08 kV_law_k08 dc_law_k08 pm_law_k08 cd_law_k08 ct_law_k08 : Value}
    {od_House_init an_House_init : Option Addr} {sl_House_init : Array (Option Value)} {oc_House_init kV_House_init dc_House_init pm_House_init cd_House_init ct_House_init : Value}
    {od_House_has an_House_has : Option Addr} {sl_House_has : Array (Option Value)} {oc_House_has kV_House_has dc_House_has pm_House_has cd_House_has ct_House_has : Value}
    {od_House_owes an_House_owes : Option Addr} {sl_House_owes : Array (Option Value)} {oc_House_owes kV_House_owes dc_House_owes pm_House_owes cd_House_owes ct_House_owes : Value}
    {od_House_parcel an_House_parcel : Option Addr} {sl_House_parcel : Array (Option Value)} {oc_House_parcel kV_House_parcel dc_House_parcel pm_House_parcel cd_House_parcel ct_House_parcel : Value}
    {od_House_came an_House_came : Option Addr} {sl_House_came : Array (Option Value)} {oc_House_came kV_House_came dc_House_came pm_House_came cd_House_came ct_House_came : Value}
    {od_House_called an_House_called : Option Addr} {sl_House_called : Array (Option Value)} {oc_House_called kV_House_called dc_House_called pm_House_called cd_House_called ct_House_called : Value}
    {od_House_move_k08 an_House_move_k08 : Option Addr} {sl_House_move_k08 : Array (Option Value)} {oc_House_move_k08 kV_House_move_k08 dc_House_move_k08 pm_House_move_k08 cd_House_move_k08 ct_House_move_k08 : Value}
    {od_House_write an_House_write : Option Addr} {sl_House_write : Array (Option Value)} {oc_House_write kV_House_write dc_House_write pm_House_write cd_House_write ct_House_write : Value}
    {od_House_sleep_k08 an_House_sleep_k08 : Option Addr} {sl_House_sleep_k08 : Array (Option Value)} {oc_House_sleep_k08 kV_House_sleep_k08 dc_House_sleep_k08 pm_House_sleep_k08 cd_House_sleep_k08 ct_House_sleep_k08 : Value}
    {od_House_nudge an_House_nudge : Option Addr} {sl_House_nudge : Array (Option Value)} {oc_House_nudge kV_House_nudge dc_House_nudge pm_House_nudge cd_House_nudge ct_House_nudge : Value}
    {od_Caller_init an_Caller_init : Option Addr} {sl_Caller_init : Array (Option Value)} {oc_Caller_init kV_Caller_init dc_Caller_init pm_Caller_init cd_Caller_init ct_Caller_init : Value}
    {od_Caller_begin an_Caller_begin : Option Addr} {sl_Caller_begin : Array (Option Value)} {oc_Caller_begin kV_Caller_begin dc_Caller_begin pm_Caller_begin cd_Caller_begin ct_Caller_begin : Value}
    {od_Caller_letter an_Caller_letter : Option Addr} {sl_Caller_letter : Array (Option Value)} {oc_Caller_letter kV_Caller_letter dc_Caller_letter pm_Caller_letter cd_Caller_letter ct_Caller_letter : Value}
    {od_Caller_came an_Caller_came : Option Addr} {sl_Caller_came : Array (Option Value)} {oc_Caller_came kV_Caller_came dc_Caller_came pm_Caller_came cd_Caller_came ct_Caller_came : Value}
    {od_Caller_asking an_Caller_asking : Option Addr} {sl_Caller_asking : Array (Option Value)} {oc_Caller_asking kV_Caller_asking dc_Caller_asking pm_Caller_asking cd_Caller_asking ct_Caller_asking : Value}
    {od_Caller_answers an_Caller_answers : Option Addr} {sl_Caller_answers : Array (Option Value)} {oc_Caller_answers kV_Caller_answers dc_Caller_answers pm_Caller_answers cd_Caller_answers ct_Caller_answers : Value}
    {od_World_init an_World_init : Option Addr} {sl_World_init : Array (Option Value)} {oc_World_init kV_World_init dc_World_init pm_World_init cd_World_init ct_World_init : Value}
    {od_World_need_caller an_World_need_caller : Option Addr} {sl_World_need_caller : Array (Option Value)} {oc_World_need_caller kV_World_need_caller dc_World_need_caller pm_World_need_caller cd_World_need_caller ct_World_need_caller : Value}
    {od_World_need_house an_World_need_house : Option Addr} {sl_World_need_house : Array (Option Value)} {oc_World_need_house kV_World_need_house dc_World_need_house pm_World_need_house cd_World_need_house ct_World_need_house : Value}
    {od_World_need_key an_World_need_key : Option Addr} {sl_World_need_key : Array (Option Value)} {oc_World_need_key kV_World_need_key dc_World_need_key pm_World_need_key cd_World_need_key ct_World_need_key : Value}
    {od_World_need_place an_World_need_place : Option Addr} {sl_World_need_place : Array (Option Value)} {oc_World_need_place kV_World_need_place dc_World_need_place pm_World_need_place cd_World_need_place ct_World_need_place : Value}
    {od_World_call an_World_call : Option Addr} {sl_World_call : Array (Option Value)} {oc_World_call kV_World_call dc_World_call pm_World_call cd_World_call ct_World_call : Value}
    {od_World_again an_World_again : Option Addr} {sl_World_again : Array (Option Value)} {oc_World_again kV_World_again dc_World_again pm_World_again cd_World_again ct_World_again : Value}
    {od_World_letters an_World_letters : Option Addr} {sl_World_letters : Array (Option Value)} {oc_World_letters kV_World_letters dc_World_letters pm_World_letters cd_World_letters ct_World_letters : Value}
    {od_World_brought an_World_brought : Option Addr} {sl_World_brought : Array (Option Value)} {oc_World_brought kV_World_brought dc_World_brought pm_World_brought cd_World_brought ct_World_brought : Value}
    {od_World_hand an_World_hand : Option Addr} {sl_World_hand : Array (Option Value)} {oc_World_hand kV_World_hand dc_World_hand pm_World_hand cd_World_hand ct_World_hand : Value}
    {od_World_twice an_World_twice : Option Addr} {sl_World_twice : Array (Option Value)} {oc_World_twice kV_World_twice dc_World_twice pm_World_twice cd_World_twice ct_World_twice : Value}
    {od_World_lose_k08 an_World_lose_k08 : Option Addr} {sl_World_lose_k08 : Array (Option Value)} {oc_World_lose_k08 kV_World_lose_k08 dc_World_lose_k08 pm_World_lose_k08 cd_World_lose_k08 ct_World_lose_k08 : Value}
    {od_World_home an_World_home : Option Addr} {sl_World_home : Array (Option Value)} {oc_World_home kV_World_home dc_World_home pm_World_home cd_World_home ct_World_home : Value}
    {od_World_has an_World_has : Option Addr} {sl_World_has : Array (Option Value)} {oc_World_has kV_World_has dc_World_has pm_World_has cd_World_has ct_World_has : Value}
    {od_World_move_k08 an_World_move_k08 : Option Addr} {sl_World_move_k08 : Array (Option Value)} {oc_World_move_k08 kV_World_move_k08 dc_World_move_k08 pm_World_move_k08 cd_World_move_k08 ct_World_move_k08 : Value}
    {od_World_write an_World_write : Option Addr} {sl_World_write : Array (Option Value)} {oc_World_write kV_World_write dc_World_write pm_World_write cd_World_write ct_World_write : Value}
    {od_World_sleep_k08 an_World_sleep_k08 : Option Addr} {sl_World_sleep_k08 : Array (Option Value)} {oc_World_sleep_k08 kV_World_sleep_k08 dc_World_sleep_k08 pm_World_sleep_k08 cd_World_sleep_k08 ct_World_sleep_k08 : Value}
    {od_World_nudge an_World_nudge : Option Addr} {sl_World_nudge : Array (Option Value)} {oc_World_nudge kV_World_nudge dc_World_nudge pm_World_nudge cd_World_nudge ct_World_nudge : Value}
    {od_World_ledger an_World_ledger : Option Addr} {sl_World_ledger : Array (Option Value)} {oc_World_ledger kV_World_ledger dc_World_ledger pm_World_ledger cd_World_ledger ct_World_ledger : Value}
    {od_World_asking an_World_asking : Option Addr} {sl_World_asking : Array (Option Value)} {oc_World_asking kV_World_asking dc_World_asking pm_World_asking cd_World_asking ct_World_asking : Value}
    {od_World_answers an_World_answers : Option Addr} {sl_World_answers : Array (Option Value)} {oc_World_answers kV_World_answers dc_World_answers pm_World_answers cd_World_answers ct_World_answers : Value}
    {od_World_owes an_World_owes : Option Addr} {sl_World_owes : Array (Option Value)} {oc_World_owes kV_World_owes dc_World_owes pm_World_owes cd_World_owes ct_World_owes : Value}
    {od_World_is_settled an_World_is_settled : Option Addr} {sl_World_is_settled : Array (Option Value)} {oc_World_is_settled kV_World_is_settled dc_World_is_settled pm_World_is_settled cd_World_is_settled ct_World_is_settled : Value}
    {od_World_settle an_World_settle : Option Addr} {sl_World_settle : Array (Option Value)} {oc_World_settle kV_World_settle dc_World_settle pm_World_settle cd_World_settle ct_World_settle : Value}
    {tk_GREATEST : Tok}
    {tk_MOST : Tok}
    {tk_MOST_SIGNS : Tok}
    {tk_LETTERS : Tok}
    (a_is_whole : PySem.W.nsIn K mainGlobals "is_whole" = some (some (.ref p_is_whole)))
    (l_is_whole : K.lookup p_is_whole = some ⟨oc_is_whole, od_is_whole, .func (PySem.W.fnOf "is_whole" "is_whole" (defArgs s_is_whole) (defBody s_is_whole) (defScope s_is_whole) .none kV_is_whole dc_is_whole pm_is_whole an_is_whole cd_is_whole ct_is_whole), sl_is_whole⟩)
    (c_is_whole : PySem.W.codeIn K cd_is_whole "is_whole" = true)
    (k_is_whole : PySem.W.keepIn K (.ref p_is_whole) = true)
    (a_is_wish : PySem.W.nsIn K mainGlobals "is_wish" = some (some (.ref p_is_wish)))
    (l_is_wish : K.lookup p_is_wish = some ⟨oc_is_wish, od_is_wish, .func (PySem.W.fnOf "is_wish" "is_wish" (defArgs s_is_wish) (defBody s_is_wish) (defScope s_is_wish) .none kV_is_wish dc_is_wish pm_is_wish an_is_wish cd_is_wish ct_is_wish), sl_is_wish⟩)
    (c_is_wish : PySem.W.codeIn K cd_is_wish "is_wish" = true)
    (k_is_wish : PySem.W.keepIn K (.ref p_is_wish) = true)
    (a_need_wish : PySem.W.nsIn K mainGlobals "need_wish" = some (some (.ref p_need_wish)))
    (l_need_wish : K.lookup p_need_wish = some ⟨oc_need_wish, od_need_wish, .func (PySem.W.fnOf "need_wish" "need_wish" (defArgs s_need_wish) (defBody s_need_wish) (defScope s_need_wish) .none kV_need_wish dc_need_wish pm_need_wish an_need_wish cd_need_wish ct_need_wish), sl_need_wish⟩)
    (c_need_wish : PySem.W.codeIn K cd_need_wish "need_wish" = true)
    (k_need_wish : PySem.W.keepIn K (.ref p_need_wish) = true)
    (a_done : PySem.W.nsIn K mainGlobals "done" = some (some (.ref p_done)))
    (l_done : K.lookup p_done = some ⟨oc_done, od_done, .func (PySem.W.fnOf "done" "done" (defArgs s_done) (defBody s_done) (defScope s_done) .none kV_done dc_done pm_done an_done cd_done ct_done), sl_done⟩)
    (c_done : PySem.W.codeIn K cd_done "done" = true)
    (k_done : PySem.W.keepIn K (.ref p_done) = true)
    (a_mark_of : PySem.W.nsIn K mainGlobals "mark_of" = some (some (.ref p_mark_of)))
    (l_mark_of : K.lookup p_mark_of = some ⟨oc_mark_of, od_mark_of, .func (PySem.W.fnOf "mark_of" "mark_of" (defArgs s_mark_of) (defBody s_mark_of) (defScope s_mark_of) .none kV_mark_of dc_mark_of pm_mark_of an_mark_of cd_mark_of ct_mark_of), sl_mark_of⟩)
    (c_mark_of : PySem.W.codeIn K cd_mark_of "mark_of" = true)
    (k_mark_of : PySem.W.keepIn K (.ref p_mark_of) = true)
    (a_marked : PySem.W.nsIn K mainGlobals "marked" = some (some (.ref p_marked)))
    (l_marked : K.lookup p_marked = some ⟨oc_marked, od_marked, .func (PySem.W.fnOf "marked" "marked" (defArgs s_marked) (defBody s_marked) (defScope s_marked) .none kV_marked dc_marked pm_marked an_marked cd_marked ct_marked), sl_marked⟩)
    (c_marked : PySem.W.codeIn K cd_marked "marked" = true)
    (k_marked : PySem.W.keepIn K (.ref p_marked) = true)
    (a_is_key : PySem.W.nsIn K mainGlobals "is_key" = some (some (.ref p_is_key)))
    (l_is_key : K.lookup p_is_key = some ⟨oc_is_key, od_is_key, .func (PySem.W.fnOf "is_key" "is_key" (defArgs s_is_key) (defBody s_is_key) (defScope s_is_key) .none kV_is_key dc_is_key pm_is_key an_is_key cd_is_key ct_is_key), sl_is_key⟩)
    (c_is_key : PySem.W.codeIn K cd_is_key "is_key" = true)
    (k_is_key : PySem.W.keepIn K (.ref p_is_key) = true)
    (a_need_world : PySem.W.nsIn K mainGlobals "need_world" = some (some (.ref p_need_world)))
    (l_need_world : K.lookup p_need_world = some ⟨oc_need_world, od_need_world, .func (PySem.W.fnOf "need_world" "need_world" (defArgs s_need_world) (defBody s_need_world) (defScope s_need_world) .none kV_need_world dc_need_world pm_need_world an_need_world cd_need_world ct_need_world), sl_need_world⟩)
    (c_need_world : PySem.W.codeIn K cd_need_world "need_world" = true)
    (k_need_world : PySem.W.keepIn K (.ref p_need_world) = true)
    (a_l_cell_at : PySem.W.nsIn K mainGlobals "_law_cell_at" = some (some (.ref p_l_cell_at)))
    (l_l_cell_at : K.lookup p_l_cell_at = some ⟨oc_l_cell_at, od_l_cell_at, .func (PySem.W.fnOf "_law_cell_at" "_law_cell_at" (defArgs s_l_cell_at) (defBody s_l_cell_at) (defScope s_l_cell_at) .none kV_l_cell_at dc_l_cell_at pm_l_cell_at an_l_cell_at cd_l_cell_at ct_l_cell_at), sl_l_cell_at⟩)
    (c_l_cell_at : PySem.W.codeIn K cd_l_cell_at "_law_cell_at" = true)
    (k_l_cell_at : PySem.W.keepIn K (.ref p_l_cell_at) = true)
    (a_l_whole : PySem.W.nsIn K mainGlobals "_law_whole" = some (some (.ref p_l_whole)))
    (l_l_whole : K.lookup p_l_whole = some ⟨oc_l_whole, od_l_whole, .func (PySem.W.fnOf "_law_whole" "_law_whole" (defArgs s_l_whole) (defBody s_l_whole) (defScope s_l_whole) .none kV_l_whole dc_l_whole pm_l_whole an_l_whole cd_l_whole ct_l_whole), sl_l_whole⟩)
    (c_l_whole : PySem.W.codeIn K cd_l_whole "_law_whole" = true)
    (k_l_whole : PySem.W.keepIn K (.ref p_l_whole) = true)
    (a_l_kinds_k08 : PySem.W.nsIn K mainGlobals "_law_kinds" = some (some (.ref p_l_kinds_k08)))
    (l_l_kinds_k08 : K.lookup p_l_kinds_k08 = some ⟨oc_l_kinds_k08, od_l_kinds_k08, .func (PySem.W.fnOf "_law_kinds" "_law_kinds" (defArgs s_l_kinds_k08) (defBody s_l_kinds_k08) (defScope s_l_kinds_k08) .none kV_l_kinds_k08 dc_l_kinds_k08 pm_l_kinds_k08 an_l_kinds_k08 cd_l_kinds_k08 ct_l_kinds_k08), sl_l_kinds_k08⟩)
    (c_l_kinds_k08 : PySem.W.codeIn K cd_l_kinds_k08 "_law_kinds" = true)
    (k_l_kinds_k08 : PySem.W.keepIn K (.ref p_l_kinds_k08) = true)
    (a_l_refused_k08 : PySem.W.nsIn K mainGlobals "_law_refused" = some (some (.ref p_l_refused_k08)))
    (l_l_refused_k08 : K.lookup p_l_refused_k08 = some ⟨oc_l_refused_k08, od_l_refused_k08, .func (PySem.W.fnOf "_law_refused" "_law_refused" (defArgs s_l_refused_k08) (defBody s_l_refused_k08) (defScope s_l_refused_k08) .none kV_l_refused_k08 dc_l_refused_k08 pm_l_refused_k08 an_l_refused_k08 cd_l_refused_k08 ct_l_refused_k08), sl_l_refused_k08⟩)
    (c_l_refused_k08 : PySem.W.codeIn K cd_l_refused_k08 "_law_refused" = true)
    (k_l_refused_k08 : PySem.W.keepIn K (.ref p_l_refused_k08) = true)
    (a_l_names : PySem.W.nsIn K mainGlobals "_law_names" = some (some (.ref p_l_names)))
    (l_l_names : K.lookup p_l_names = some ⟨oc_l_names, od_l_names, .func (PySem.W.fnOf "_law_names" "_law_names" (defArgs s_l_names) (defBody s_l_names) (defScope s_l_names) .none kV_l_names dc_l_names pm_l_names an_l_names cd_l_names ct_l_names), sl_l_names⟩)
    (c_l_names : PySem.W.codeIn K cd_l_names "_law_names" = true)
    (k_l_names : PySem.W.keepIn K (.ref p_l_names) = true)
    (a_l_odd_k08 : PySem.W.nsIn K mainGlobals "_law_odd" = some (some (.ref p_l_odd_k08)))
    (l_l_odd_k08 : K.lookup p_l_odd_k08 = some ⟨oc_l_odd_k08, od_l_odd_k08, .func (PySem.W.fnOf "_law_odd" "_law_odd" (defArgs s_l_odd_k08) (defBody s_l_odd_k08) (defScope s_l_odd_k08) .none kV_l_odd_k08 dc_l_odd_k08 pm_l_odd_k08 an_l_odd_k08 cd_l_odd_k08 ct_l_odd_k08), sl_l_odd_k08⟩)
    (c_l_odd_k08 : PySem.W.codeIn K cd_l_odd_k08 "_law_odd" = true)
    (k_l_odd_k08 : PySem.W.keepIn K (.ref p_l_odd_k08) = true)
    (a_l_good : PySem.W.nsIn K mainGlobals "_law_good" = some (some (.ref p_l_good)))
    (l_l_good : K.lookup p_l_good = some ⟨oc_l_good, od_l_good, .func (PySem.W.fnOf "_law_good" "_law_good" (defArgs s_l_good) (defBody s_l_good) (defScope s_l_good) .none kV_l_good dc_l_good pm_l_good an_l_good cd_l_good ct_l_good), sl_l_good⟩)
    (c_l_good : PySem.W.codeIn K cd_l_good "_law_good" = true)
    (k_l_good : PySem.W.keepIn K (.ref p_l_good) = true)
    (a_l_fresh : PySem.W.nsIn K mainGlobals "_law_fresh" = some (some (.ref p_l_fresh)))
    (l_l_fresh : K.lookup p_l_fresh = some ⟨oc_l_fresh, od_l_fresh, .func (PySem.W.fnOf "_law_fresh" "_law_fresh" (defArgs s_l_fresh) (defBody s_l_fresh) (defScope s_l_fresh) .none kV_l_fresh dc_l_fresh pm_l_fresh an_l_fresh cd_l_fresh ct_l_fresh), sl_l_fresh⟩)
    (c_l_fresh : PySem.W.codeIn K cd_l_fresh "_law_fresh" = true)
    (k_l_fresh : PySem.W.keepIn K (.ref p_l_fresh) = true)
    (a_l_no_key : PySem.W.nsIn K mainGlobals "_law_no_key" = some (some (.ref p_l_no_key)))
    (l_l_no_key : K.lookup p_l_no_key = some ⟨oc_l_no_key, od_l_no_key, .func (PySem.W.fnOf "_law_no_key" "_law_no_key" (defArgs s_l_no_key) (defBody s_l_no_key) (defScope s_l_no_key) .none kV_l_no_key dc_l_no_key pm_l_no_key an_l_no_key cd_l_no_key ct_l_no_key), sl_l_no_key⟩)
    (c_l_no_key : PySem.W.codeIn K cd_l_no_key "_law_no_key" = true)
    (k_l_no_key : PySem.W.keepIn K (.ref p_l_no_key) = true)
    (a_law_k08 : PySem.W.nsIn K mainGlobals "law" = some (some (.ref p_law_k08)))
    (l_law_k08 : K.lookup p_law_k08 = some ⟨oc_law_k08, od_law_k08, .func (PySem.W.fnOf "law" "law" (defArgs s_law_k08) (defBody s_law_k08) (defScope s_law_k08) .none kV_law_k08 dc_law_k08 pm_law_k08 an_law_k08 cd_law_k08 ct_law_k08), sl_law_k08⟩)
    (c_law_k08 : PySem.W.codeIn K cd_law_k08 "law" = true)
    (k_law_k08 : PySem.W.keepIn K (.ref p_law_k08) = true)
    (aC_House : PySem.W.nsIn K mainGlobals "House" = some (some (.ref C_House)))
    (a_House_init : PySem.W.findIn K (.ref C_House) "__init__" = some (some (.ref p_House_init)))
    (i_House_init : PySem.W.isFn K (.ref p_House_init) = true)
    (l_House_init : K.lookup p_House_init = some ⟨oc_House_init, od_House_init, .func (PySem.W.fnOf "__init__" "House.__init__" (defArgs s_House_init) (defBody s_House_init) (defScope s_House_init) .none kV_House_init dc_House_init pm_House_init an_House_init cd_House_init ct_House_init), sl_House_init⟩)
    (c_House_init : PySem.W.codeIn K cd_House_init "House.__init__" = true)
    (k_House_init : PySem.W.keepIn K (.ref p_House_init) = true)
    (a_House_has : PySem.W.findIn K (.ref C_House) "has" = some (some (.ref p_House_has)))
    (i_House_has : PySem.W.isFn K (.ref p_House_has) = true)
    (l_House_has : K.lookup p_House_has = some ⟨oc_House_has, od_House_has, .func (PySem.W.fnOf "has" "House.has" (defArgs s_House_has) (defBody s_House_has) (defScope s_House_has) .none kV_House_has dc_House_has pm_House_has an_House_has cd_House_has ct_House_has), sl_House_has⟩)
    (c_House_has : PySem.W.codeIn K cd_House_has "House.has" = true)
    (k_House_has : PySem.W.keepIn K (.ref p_House_has) = true)
    (a_House_owes : PySem.W.findIn K (.ref C_House) "owes" = some (some (.ref p_House_owes)))
    (i_House_owes : PySem.W.isFn K (.ref p_House_owes) = true)
    (l_House_owes : K.lookup p_House_owes = some ⟨oc_House_owes, od_House_owes, .func (PySem.W.fnOf "owes" "House.owes" (defArgs s_House_owes) (defBody s_House_owes) (defScope s_House_owes) .none kV_House_owes dc_House_owes pm_House_owes an_House_owes cd_House_owes ct_House_owes), sl_House_owes⟩)
    (c_House_owes : PySem.W.codeIn K cd_House_owes "House.owes" = true)
    (k_House_owes : PySem.W.keepIn K (.ref p_House_owes) = true)
    (a_House_parcel : PySem.W.findIn K (.ref C_House) "parcel" = some (some (.ref p_House_parcel)))
    (i_House_parcel : PySem.W.isFn K (.ref p_House_parcel) = true)
    (l_House_parcel : K.lookup p_House_parcel = some ⟨oc_House_parcel, od_House_parcel, .func (PySem.W.fnOf "parcel" "House.parcel" (defArgs s_House_parcel) (defBody s_House_parcel) (defScope s_House_parcel) .none kV_House_parcel dc_House_parcel pm_House_parcel an_House_parcel cd_House_parcel ct_House_parcel), sl_House_parcel⟩)
    (c_House_parcel : PySem.W.codeIn K cd_House_parcel "House.parcel" = true)
    (k_House_parcel : PySem.W.keepIn K (.ref p_House_parcel) = true)
    (a_House_came : PySem.W.findIn K (.ref C_House) "came" = some (some (.ref p_House_came)))
    (i_House_came : PySem.W.isFn K (.ref p_House_came) = true)
    (l_House_came : K.lookup p_House_came = some ⟨oc_House_came, od_House_came, .func (PySem.W.fnOf "came" "House.came" (defArgs s_House_came) (defBody s_House_came) (defScope s_House_came) .none kV_House_came dc_House_came pm_House_came an_House_came cd_House_came ct_House_came), sl_House_came⟩)
    (c_House_came : PySem.W.codeIn K cd_House_came "House.came" = true)
    (k_House_came : PySem.W.keepIn K (.ref p_House_came) = true)
    (a_House_called : PySem.W.findIn K (.ref C_House) "called" = some (some (.ref p_House_called)))
    (i_House_called : PySem.W.isFn K (.ref p_House_called) = true)
    (l_House_called : K.lookup p_House_called = some ⟨oc_House_called, od_House_called, .func (PySem.W.fnOf "called" "House.called" (defArgs s_House_called) (defBody s_House_called) (defScope s_House_called) .none kV_House_called dc_House_called pm_House_called an_House_called cd_House_called ct_House_called), sl_House_called⟩)
    (c_House_called : PySem.W.codeIn K cd_House_called "House.called" = true)
    (k_House_called : PySem.W.keepIn K (.ref p_House_called) = true)
    (a_House_move_k08 : PySem.W.findIn K (.ref C_House) "move" = some (some (.ref p_House_move_k08)))
    (i_House_move_k08 : PySem.W.isFn K (.ref p_House_move_k08) = true)
    (l_House_move_k08 : K.lookup p_House_move_k08 = some ⟨oc_House_move_k08, od_House_move_k08, .func (PySem.W.fnOf "move" "House.move" (defArgs s_House_move_k08) (defBody s_House_move_k08) (defScope s_House_move_k08) .none kV_House_move_k08 dc_House_move_k08 pm_House_move_k08 an_House_move_k08 cd_House_move_k08 ct_House_move_k08), sl_House_move_k08⟩)
    (c_House_move_k08 : PySem.W.codeIn K cd_House_move_k08 "House.move" = true)
    (k_House_move_k08 : PySem.W.keepIn K (.ref p_House_move_k08) = true)
    (a_House_write : PySem.W.findIn K (.ref C_House) "write" = some (some (.ref p_House_write)))
    (i_House_write : PySem.W.isFn K (.ref p_House_write) = true)
    (l_House_write : K.lookup p_House_write = some ⟨oc_House_write, od_House_write, .func (PySem.W.fnOf "write" "House.write" (defArgs s_House_write) (defBody s_House_write) (defScope s_House_write) .none kV_House_write dc_House_write pm_House_write an_House_write cd_House_write ct_House_write), sl_House_write⟩)
    (c_House_write : PySem.W.codeIn K cd_House_write "House.write" = true)
    (k_House_write : PySem.W.keepIn K (.ref p_House_write) = true)
    (a_House_sleep_k08 : PySem.W.findIn K (.ref C_House) "sleep" = some (some (.ref p_House_sleep_k08)))
    (i_House_sleep_k08 : PySem.W.isFn K (.ref p_House_sleep_k08) = true)
    (l_House_sleep_k08 : K.lookup p_House_sleep_k08 = some ⟨oc_House_sleep_k08, od_House_sleep_k08, .func (PySem.W.fnOf "sleep" "House.sleep" (defArgs s_House_sleep_k08) (defBody s_House_sleep_k08) (defScope s_House_sleep_k08) .none kV_House_sleep_k08 dc_House_sleep_k08 pm_House_sleep_k08 an_House_sleep_k08 cd_House_sleep_k08 ct_House_sleep_k08), sl_House_sleep_k08⟩)
    (c_House_sleep_k08 : PySem.W.codeIn K cd_House_sleep_k08 "House.sleep" = true)
    (k_House_sleep_k08 : PySem.W.keepIn K (.ref p_House_sleep_k08) = true)
    (a_House_nudge : PySem.W.findIn K (.ref C_House) "nudge" = some (some (.ref p_House_nudge)))
    (i_House_nudge : PySem.W.isFn K (.ref p_House_nudge) = true)
    (l_House_nudge : K.lookup p_House_nudge = some ⟨oc_House_nudge, od_House_nudge, .func (PySem.W.fnOf "nudge" "House.nudge" (defArgs s_House_nudge) (defBody s_House_nudge) (defScope s_House_nudge) .none kV_House_nudge dc_House_nudge pm_House_nudge an_House_nudge cd_House_nudge ct_House_nudge), sl_House_nudge⟩)
    (c_House_nudge : PySem.W.codeIn K cd_House_nudge "House.nudge" = true)
    (k_House_nudge : PySem.W.keepIn K (.ref p_House_nudge) = true)
    (pg_House : PySem.W.plainGet K C_House Str.empty = true)
    (hd_House : PySem.W.hasDictIn K C_House = true)
    (po_House : PySem.W.plainOver K C_House = true)
    (sa_House : PySem.W.findIn K (.ref C_House) "__setattr__" = some (some (.builtin "object.__setattr__")))
    (mk_House : PySem.W.makesIn K C_House = true)
    (kc_House : PySem.W.keepIn K (.ref C_House) = true)
    (n_House_number : PySem.W.findIn K (.ref C_House) "number" = some none)
    (n_House_names : PySem.W.findIn K (.ref C_House) "names" = some none)
    (n_House_known : PySem.W.findIn K (.ref C_House) "known" = some none)
    (n_House_written : PySem.W.findIn K (.ref C_House) "written" = some none)
    (n_House_laid : PySem.W.findIn K (.ref C_House) "laid" = some none)
    (n_House_fresh : PySem.W.findIn K (.ref C_House) "fresh" = some none)
    (aC_Caller : PySem.W.nsIn K mainGlobals "Caller" = some (some (.ref C_Caller)))
    (a_Caller_init : PySem.W.findIn K (.ref C_Caller) "__init__" = some (some (.ref p_Caller_init)))
    (i_Caller_init : PySem.W.isFn K (.ref p_Caller_init) = true)
    (l_Caller_init : K.lookup p_Caller_init = some ⟨oc_Caller_init, od_Caller_init, .func (PySem.W.fnOf "__init__" "Caller.__init__" (defArgs s_Caller_init) (defBody s_Caller_init) (defScope s_Caller_init) .none kV_Caller_init dc_Caller_init pm_Caller_init an_Caller_init cd_Caller_init ct_Caller_init), sl_Caller_init⟩)
    (c_Caller_init : PySem.W.codeIn K cd_Caller_init "Caller.__init__" = true)
    (k_Caller_init : PySem.W.keepIn K (.ref p_Caller_init) = true)
    (a_Caller_begin : PySem.W.findIn K (.ref C_Caller) "begin" = some (some (.ref p_Caller_begin)))
    (i_Caller_begin : PySem.W.isFn K (.ref p_Caller_begin) = true)
    (l_Caller_begin : K.lookup p_Caller_begin = some ⟨oc_Caller_begin, od_Caller_begin, .func (PySem.W.fnOf "begin" "Caller.begin" (defArgs s_Caller_begin) (defBody s_Caller_begin) (defScope s_Caller_begin) .none kV_Caller_begin dc_Caller_begin pm_Caller_begin an_Caller_begin cd_Caller_begin ct_Caller_begin), sl_Caller_begin⟩)
    (c_Caller_begin : PySem.W.codeIn K cd_Caller_begin "Caller.begin" = true)
    (k_Caller_begin : PySem.W.keepIn K (.ref p_Caller_begin) = true)
    (a_Caller_letter : PySem.W.findIn K (.ref C_Caller) "letter" = some (some (.ref p_Caller_letter)))
    (i_Caller_letter : PySem.W.isFn K (.ref p_Caller_letter) = true)
    (l_Caller_letter : K.lookup p_Caller_letter = some ⟨oc_Caller_letter, od_Caller_letter, .func (PySem.W.fnOf "letter" "Caller.letter" (defArgs s_Caller_letter) (defBody s_Caller_letter) (defScope s_Caller_letter) .none kV_Caller_letter dc_Caller_letter pm_Caller_letter an_Caller_letter cd_Caller_letter ct_Caller_letter), sl_Caller_letter⟩)
    (c_Caller_letter : PySem.W.codeIn K cd_Caller_letter "Caller.letter" = true)
    (k_Caller_letter : PySem.W.keepIn K (.ref p_Caller_letter) = true)
    (a_Caller_came : PySem.W.findIn K (.ref C_Caller) "came" = some (some (.ref p_Caller_came)))
    (i_Caller_came : PySem.W.isFn K (.ref p_Caller_came) = true)
    (l_Caller_came : K.lookup p_Caller_came = some ⟨oc_Caller_came, od_Caller_came, .func (PySem.W.fnOf "came" "Caller.came" (defArgs s_Caller_came) (defBody s_Caller_came) (defScope s_Caller_came) .none kV_Caller_came dc_Caller_came pm_Caller_came an_Caller_came cd_Caller_came ct_Caller_came), sl_Caller_came⟩)
    (c_Caller_came : PySem.W.codeIn K cd_Caller_came "Caller.came" = true)
    (k_Caller_came : PySem.W.keepIn K (.ref p_Caller_came) = true)
    (a_Caller_asking : PySem.W.findIn K (.ref C_Caller) "asking" = some (some (.ref p_Caller_asking)))
    (i_Caller_asking : PySem.W.isFn K (.ref p_Caller_asking) = true)
    (l_Caller_asking : K.lookup p_Caller_asking = some ⟨oc_Caller_asking, od_Caller_asking, .func (PySem.W.fnOf "asking" "Caller.asking" (defArgs s_Caller_asking) (defBody s_Caller_asking) (defScope s_Caller_asking) .none kV_Caller_asking dc_Caller_asking pm_Caller_asking an_Caller_asking cd_Caller_asking ct_Caller_asking), sl_Caller_asking⟩)
    (c_Caller_asking : PySem.W.codeIn K cd_Caller_asking "Caller.asking" = true)
    (k_Caller_asking : PySem.W.keepIn K (.ref p_Caller_asking) = true)
    (a_Caller_answers : PySem.W.findIn K (.ref C_Caller) "answers" = some (some (.ref p_Caller_answers)))
    (i_Caller_answers : PySem.W.isFn K (.ref p_Caller_answers) = true)
    (l_Caller_answers : K.lookup p_Caller_answers = some ⟨oc_Caller_answers, od_Caller_answers, .func (PySem.W.fnOf "answers" "Caller.answers" (defArgs s_Caller_answers) (defBody s_Caller_answers) (defScope s_Caller_answers) .none kV_Caller_answers dc_Caller_answers pm_Caller_answers an_Caller_answers cd_Caller_answers ct_Caller_answers), sl_Caller_answers⟩)
    (c_Caller_answers : PySem.W.codeIn K cd_Caller_answers "Caller.answers" = true)
    (k_Caller_answers : PySem.W.keepIn K (.ref p_Caller_answers) = true)
    (pg_Caller : PySem.W.plainGet K C_Caller Str.empty = true)
    (hd_Caller : PySem.W.hasDictIn K C_Caller = true)
    (po_Caller : PySem.W.plainOver K C_Caller = true)
    (sa_Caller : PySem.W.findIn K (.ref C_Caller) "__setattr__" = some (some (.builtin "object.__setattr__")))
    (mk_Caller : PySem.W.makesIn K C_Caller = true)
    (kc_Caller : PySem.W.keepIn K (.ref C_Caller) = true)
    (n_Caller_number : PySem.W.findIn K (.ref C_Caller) "number" = some none)
    (n_Caller_made : PySem.W.findIn K (.ref C_Caller) "made" = some none)
    (n_Caller_asked : PySem.W.findIn K (.ref C_Caller) "asked" = some none)
    (n_Caller_closed : PySem.W.findIn K (.ref C_Caller) "closed" = some none)
    (aC_World : PySem.W.nsIn K mainGlobals "World" = some (some (.ref C_World)))
    (a_World_init : PySem.W.findIn K (.ref C_World) "__init__" = some (some (.ref p_World_init)))
    (i_World_init : PySem.W.isFn K (.ref p_World_init) = true)
    (l_World_init : K.lookup p_World_init = some ⟨oc_World_init, od_World_init, .func (PySem.W.fnOf "__init__" "World.__init__" (defArgs s_World_init) (defBody s_World_init) (defScope s_World_init) .none kV_World_init dc_World_init pm_World_init an_World_init cd_World_init ct_World_init), sl_World_init⟩)
    (c_World_init : PySem.W.codeIn K cd_World_init "World.__init__" = true)
    (k_World_init : PySem.W.keepIn K (.ref p_World_init) = true)
    (a_World_need_caller : PySem.W.findIn K (.ref C_World) "need_caller" = some (some (.ref p_World_need_caller)))
    (i_World_need_caller : PySem.W.isFn K (.ref p_World_need_caller) = true)
    (l_World_need_caller : K.lookup p_World_need_caller = some ⟨oc_World_need_caller, od_World_need_caller, .func (PySem.W.fnOf "need_caller" "World.need_caller" (defArgs s_World_need_caller) (defBody s_World_need_caller) (defScope s_World_need_caller) .none kV_World_need_caller dc_World_need_caller pm_World_need_caller an_World_need_caller cd_World_need_caller ct_World_need_caller), sl_World_need_caller⟩)
    (c_World_need_caller : PySem.W.codeIn K cd_World_need_caller "World.need_caller" = true)
    (k_World_need_caller : PySem.W.keepIn K (.ref p_World_need_caller) = true)
    (a_World_need_house : PySem.W.findIn K (.ref C_World) "need_house" = some (some (.ref p_World_need_house)))
    (i_World_need_house : PySem.W.isFn K (.ref p_World_need_house) = true)
    (l_World_need_house : K.lookup p_World_need_house = some ⟨oc_World_need_house, od_World_need_house, .func (PySem.W.fnOf "need_house" "World.need_house" (defArgs s_World_need_house) (defBody s_World_need_house) (defScope s_World_need_house) .none kV_World_need_house dc_World_need_house pm_World_need_house an_World_need_house cd_World_need_house ct_World_need_house), sl_World_need_house⟩)
    (c_World_need_house : PySem.W.codeIn K cd_World_need_house "World.need_house" = true)
    (k_World_need_house : PySem.W.keepIn K (.ref p_World_need_house) = true)
    (a_World_need_key : PySem.W.findIn K (.ref C_World) "need_key" = some (some (.ref p_World_need_key)))
    (i_World_need_key : PySem.W.isFn K (.ref p_World_need_key) = true)
    (l_World_need_key : K.lookup p_World_need_key = some ⟨oc_World_need_key, od_World_need_key, .func (PySem.W.fnOf "need_key" "World.need_key" (defArgs s_World_need_key) (defBody s_World_need_key) (defScope s_World_need_key) .none kV_World_need_key dc_World_need_key pm_World_need_key an_World_need_key cd_World_need_key ct_World_need_key), sl_World_need_key⟩)
    (c_World_need_key : PySem.W.codeIn K cd_World_need_key "World.need_key" = true)
    (k_World_need_key : PySem.W.keepIn K (.ref p_World_need_key) = true)
    (a_World_need_place : PySem.W.findIn K (.ref C_World) "need_place" = some (some (.ref p_World_need_place)))
    (i_World_need_place : PySem.W.isFn K (.ref p_World_need_place) = true)
    (l_World_need_place : K.lookup p_World_need_place = some ⟨oc_World_need_place, od_World_need_place, .func (PySem.W.fnOf "need_place" "World.need_place" (defArgs s_World_need_place) (defBody s_World_need_place) (defScope s_World_need_place) .none kV_World_need_place dc_World_need_place pm_World_need_place an_World_need_place cd_World_need_place ct_World_need_place), sl_World_need_place⟩)
    (c_World_need_place : PySem.W.codeIn K cd_World_need_place "World.need_place" = true)
    (k_World_need_place : PySem.W.keepIn K (.ref p_World_need_place) = true)
    (a_World_call : PySem.W.findIn K (.ref C_World) "call" = some (some (.ref p_World_call)))
    (i_World_call : PySem.W.isFn K (.ref p_World_call) = true)
    (l_World_call : K.lookup p_World_call = some ⟨oc_World_call, od_World_call, .func (PySem.W.fnOf "call" "World.call" (defArgs s_World_call) (defBody s_World_call) (defScope s_World_call) .none kV_World_call dc_World_call pm_World_call an_World_call cd_World_call ct_World_call), sl_World_call⟩)
    (c_World_call : PySem.W.codeIn K cd_World_call "World.call" = true)
    (k_World_call : PySem.W.keepIn K (.ref p_World_call) = true)
    (a_World_again : PySem.W.findIn K (.ref C_World) "again" = some (some (.ref p_World_again)))
    (i_World_again : PySem.W.isFn K (.ref p_World_again) = true)
    (l_World_again : K.lookup p_World_again = some ⟨oc_World_again, od_World_again, .func (PySem.W.fnOf "again" "World.again" (defArgs s_World_again) (defBody s_World_again) (defScope s_World_again) .none kV_World_again dc_World_again pm_World_again an_World_again cd_World_again ct_World_again), sl_World_again⟩)
    (c_World_again : PySem.W.codeIn K cd_World_again "World.again" = true)
    (k_World_again : PySem.W.keepIn K (.ref p_World_again) = true)
    (a_World_letters : PySem.W.findIn K (.ref C_World) "letters" = some (some (.ref p_World_letters)))
    (i_World_letters : PySem.W.isFn K (.ref p_World_letters) = true)
    (l_World_letters : K.lookup p_World_letters = some ⟨oc_World_letters, od_World_letters, .func (PySem.W.fnOf "letters" "World.letters" (defArgs s_World_letters) (defBody s_World_letters) (defScope s_World_letters) .none kV_World_letters dc_World_letters pm_World_letters an_World_letters cd_World_letters ct_World_letters), sl_World_letters⟩)
    (c_World_letters : PySem.W.codeIn K cd_World_letters "World.letters" = true)
    (k_World_letters : PySem.W.keepIn K (.ref p_World_letters) = true)
    (a_World_brought : PySem.W.findIn K (.ref C_World) "brought" = some (some (.ref p_World_brought)))
    (i_World_brought : PySem.W.isFn K (.ref p_World_brought) = true)
    (l_World_brought : K.lookup p_World_brought = some ⟨oc_World_brought, od_World_brought, .func (PySem.W.fnOf "brought" "World.brought" (defArgs s_World_brought) (defBody s_World_brought) (defScope s_World_brought) .none kV_World_brought dc_World_brought pm_World_brought an_World_brought cd_World_brought ct_World_brought), sl_World_brought⟩)
    (c_World_brought : PySem.W.codeIn K cd_World_brought "World.brought" = true)
    (k_World_brought : PySem.W.keepIn K (.ref p_World_brought) = true)
    (a_World_hand : PySem.W.findIn K (.ref C_World) "hand" = some (some (.ref p_World_hand)))
    (i_World_hand : PySem.W.isFn K (.ref p_World_hand) = true)
    (l_World_hand : K.lookup p_World_hand = some ⟨oc_World_hand, od_World_hand, .func (PySem.W.fnOf "hand" "World.hand" (defArgs s_World_hand) (defBody s_World_hand) (defScope s_World_hand) .none kV_World_hand dc_World_hand pm_World_hand an_World_hand cd_World_hand ct_World_hand), sl_World_hand⟩)
    (c_World_hand : PySem.W.codeIn K cd_World_hand "World.hand" = true)
    (k_World_hand : PySem.W.keepIn K (.ref p_World_hand) = true)
    (a_World_twice : PySem.W.findIn K (.ref C_World) "twice" = some (some (.ref p_World_twice)))
    (i_World_twice : PySem.W.isFn K (.ref p_World_twice) = true)
    (l_World_twice : K.lookup p_World_twice = some ⟨oc_World_twice, od_World_twice, .func (PySem.W.fnOf "twice" "World.twice" (defArgs s_World_twice) (defBody s_World_twice) (defScope s_World_twice) .none kV_World_twice dc_World_twice pm_World_twice an_World_twice cd_World_twice ct_World_twice), sl_World_twice⟩)
    (c_World_twice : PySem.W.codeIn K cd_World_twice "World.twice" = true)
    (k_World_twice : PySem.W.keepIn K (.ref p_World_twice) = true)
    (a_World_lose_k08 : PySem.W.findIn K (.ref C_World) "lose" = some (some (.ref p_World_lose_k08)))
    (i_World_lose_k08 : PySem.W.isFn K (.ref p_World_lose_k08) = true)
    (l_World_lose_k08 : K.lookup p_World_lose_k08 = some ⟨oc_World_lose_k08, od_World_lose_k08, .func (PySem.W.fnOf "lose" "World.lose" (defArgs s_World_lose_k08) (defBody s_World_lose_k08) (defScope s_World_lose_k08) .none kV_World_lose_k08 dc_World_lose_k08 pm_World_lose_k08 an_World_lose_k08 cd_World_lose_k08 ct_World_lose_k08), sl_World_lose_k08⟩)
    (c_World_lose_k08 : PySem.W.codeIn K cd_World_lose_k08 "World.lose" = true)
    (k_World_lose_k08 : PySem.W.keepIn K (.ref p_World_lose_k08) = true)
    (a_World_home : PySem.W.findIn K (.ref C_World) "home" = some (some (.ref p_World_home)))
    (i_World_home : PySem.W.isFn K (.ref p_World_home) = true)
    (l_World_home : K.lookup p_World_home = some ⟨oc_World_home, od_World_home, .func (PySem.W.fnOf "home" "World.home" (defArgs s_World_home) (defBody s_World_home) (defScope s_World_home) .none kV_World_home dc_World_home pm_World_home an_World_home cd_World_home ct_World_home), sl_World_home⟩)
    (c_World_home : PySem.W.codeIn K cd_World_home "World.home" = true)
    (k_World_home : PySem.W.keepIn K (.ref p_World_home) = true)
    (a_World_has : PySem.W.findIn K (.ref C_World) "has" = some (some (.ref p_World_has)))
    (i_World_has : PySem.W.isFn K (.ref p_World_has) = true)
    (l_World_has : K.lookup p_World_has = some ⟨oc_World_has, od_World_has, .func (PySem.W.fnOf "has" "World.has" (defArgs s_World_has) (defBody s_World_has) (defScope s_World_has) .none kV_World_has dc_World_has pm_World_has an_World_has cd_World_has ct_World_has), sl_World_has⟩)
    (c_World_has : PySem.W.codeIn K cd_World_has "World.has" = true)
    (k_World_has : PySem.W.keepIn K (.ref p_World_has) = true)
    (a_World_move_k08 : PySem.W.findIn K (.ref C_World) "move" = some (some (.ref p_World_move_k08)))
    (i_World_move_k08 : PySem.W.isFn K (.ref p_World_move_k08) = true)
    (l_World_move_k08 : K.lookup p_World_move_k08 = some ⟨oc_World_move_k08, od_World_move_k08, .func (PySem.W.fnOf "move" "World.move" (defArgs s_World_move_k08) (defBody s_World_move_k08) (defScope s_World_move_k08) .none kV_World_move_k08 dc_World_move_k08 pm_World_move_k08 an_World_move_k08 cd_World_move_k08 ct_World_move_k08), sl_World_move_k08⟩)
    (c_World_move_k08 : PySem.W.codeIn K cd_World_move_k08 "World.move" = true)
    (k_World_move_k08 : PySem.W.keepIn K (.ref p_World_move_k08) = true)
    (a_World_write : PySem.W.findIn K (.ref C_World) "write" = some (some (.ref p_World_write)))
    (i_World_write : PySem.W.isFn K (.ref p_World_write) = true)
    (l_World_write : K.lookup p_World_write = some ⟨oc_World_write, od_World_write, .func (PySem.W.fnOf "write" "World.write" (defArgs s_World_write) (defBody s_World_write) (defScope s_World_write) .none kV_World_write dc_World_write pm_World_write an_World_write cd_World_write ct_World_write), sl_World_write⟩)
    (c_World_write : PySem.W.codeIn K cd_World_write "World.write" = true)
    (k_World_write : PySem.W.keepIn K (.ref p_World_write) = true)
    (a_World_sleep_k08 : PySem.W.findIn K (.ref C_World) "sleep" = some (some (.ref p_World_sleep_k08)))
    (i_World_sleep_k08 : PySem.W.isFn K (.ref p_World_sleep_k08) = true)
    (l_World_sleep_k08 : K.lookup p_World_sleep_k08 = some ⟨oc_World_sleep_k08, od_World_sleep_k08, .func (PySem.W.fnOf "sleep" "World.sleep" (defArgs s_World_sleep_k08) (defBody s_World_sleep_k08) (defScope s_World_sleep_k08) .none kV_World_sleep_k08 dc_World_sleep_k08 pm_World_sleep_k08 an_World_sleep_k08 cd_World_sleep_k08 ct_World_sleep_k08), sl_World_sleep_k08⟩)
    (c_World_sleep_k08 : PySem.W.codeIn K cd_World_sleep_k08 "World.sleep" = true)
    (k_World_sleep_k08 : PySem.W.keepIn K (.ref p_World_sleep_k08) = true)
    (a_World_nudge : PySem.W.findIn K (.ref C_World) "nudge" = some (some (.ref p_World_nudge)))
    (i_World_nudge : PySem.W.isFn K (.ref p_World_nudge) = true)
    (l_World_nudge : K.lookup p_World_nudge = some ⟨oc_World_nudge, od_World_nudge, .func (PySem.W.fnOf "nudge" "World.nudge" (defArgs s_World_nudge) (defBody s_World_nudge) (defScope s_World_nudge) .none kV_World_nudge dc_World_nudge pm_World_nudge an_World_nudge cd_World_nudge ct_World_nudge), sl_World_nudge⟩)
    (c_World_nudge : PySem.W.codeIn K cd_World_nudge "World.nudge" = true)
    (k_World_nudge : PySem.W.keepIn K (.ref p_World_nudge) = true)
    (a_World_ledger : PySem.W.findIn K (.ref C_World) "ledger" = some (some (.ref p_World_ledger)))
    (i_World_ledger : PySem.W.isFn K (.ref p_World_ledger) = true)
    (l_World_ledger : K.lookup p_World_ledger = some ⟨oc_World_ledger, od_World_ledger, .func (PySem.W.fnOf "ledger" "World.ledger" (defArgs s_World_ledger) (defBody s_World_ledger) (defScope s_World_ledger) .none kV_World_ledger dc_World_ledger pm_World_ledger an_World_ledger cd_World_ledger ct_World_ledger), sl_World_ledger⟩)
    (c_World_ledger : PySem.W.codeIn K cd_World_ledger "World.ledger" = true)
    (k_World_ledger : PySem.W.keepIn K (.ref p_World_ledger) = true)
    (a_World_asking : PySem.W.findIn K (.ref C_World) "asking" = some (some (.ref p_World_asking)))
    (i_World_asking : PySem.W.isFn K (.ref p_World_asking) = true)
    (l_World_asking : K.lookup p_World_asking = some ⟨oc_World_asking, od_World_asking, .func (PySem.W.fnOf "asking" "World.asking" (defArgs s_World_asking) (defBody s_World_asking) (defScope s_World_asking) .none kV_World_asking dc_World_asking pm_World_asking an_World_asking cd_World_asking ct_World_asking), sl_World_asking⟩)
    (c_World_asking : PySem.W.codeIn K cd_World_asking "World.asking" = true)
    (k_World_asking : PySem.W.keepIn K (.ref p_World_asking) = true)
    (a_World_answers : PySem.W.findIn K (.ref C_World) "answers" = some (some (.ref p_World_answers)))
    (i_World_answers : PySem.W.isFn K (.ref p_World_answers) = true)
    (l_World_answers : K.lookup p_World_answers = some ⟨oc_World_answers, od_World_answers, .func (PySem.W.fnOf "answers" "World.answers" (defArgs s_World_answers) (defBody s_World_answers) (defScope s_World_answers) .none kV_World_answers dc_World_answers pm_World_answers an_World_answers cd_World_answers ct_World_answers), sl_World_answers⟩)
    (c_World_answers : PySem.W.codeIn K cd_World_answers "World.answers" = true)
    (k_World_answers : PySem.W.keepIn K (.ref p_World_answers) = true)
    (a_World_owes : PySem.W.findIn K (.ref C_World) "owes" = some (some (.ref p_World_owes)))
    (i_World_owes : PySem.W.isFn K (.ref p_World_owes) = true)
    (l_World_owes : K.lookup p_World_owes = some ⟨oc_World_owes, od_World_owes, .func (PySem.W.fnOf "owes" "World.owes" (defArgs s_World_owes) (defBody s_World_owes) (defScope s_World_owes) .none kV_World_owes dc_World_owes pm_World_owes an_World_owes cd_World_owes ct_World_owes), sl_World_owes⟩)
    (c_World_owes : PySem.W.codeIn K cd_World_owes "World.owes" = true)
    (k_World_owes : PySem.W.keepIn K (.ref p_World_owes) = true)
    (a_World_is_settled : PySem.W.findIn K (.ref C_World) "is_settled" = some (some (.ref p_World_is_settled)))
    (i_World_is_settled : PySem.W.isFn K (.ref p_World_is_settled) = true)
    (l_World_is_settled : K.lookup p_World_is_settled = some ⟨oc_World_is_settled, od_World_is_settled, .func (PySem.W.fnOf "is_settled" "World.is_settled" (defArgs s_World_is_settled) (defBody s_World_is_settled) (defScope s_World_is_settled) .none kV_World_is_settled dc_World_is_settled pm_World_is_settled an_World_is_settled cd_World_is_settled ct_World_is_settled), sl_World_is_settled⟩)
    (c_World_is_settled : PySem.W.codeIn K cd_World_is_settled "World.is_settled" = true)
    (k_World_is_settled : PySem.W.keepIn K (.ref p_World_is_settled) = true)
    (a_World_settle : PySem.W.findIn K (.ref C_World) "settle" = some (some (.ref p_World_settle)))
    (i_World_settle : PySem.W.isFn K (.ref p_World_settle) = true)
    (l_World_settle : K.lookup p_World_settle = some ⟨oc_World_settle, od_World_settle, .func (PySem.W.fnOf "settle" "World.settle" (defArgs s_World_settle) (defBody s_World_settle) (defScope s_World_settle) .none kV_World_settle dc_World_settle pm_World_settle an_World_settle cd_World_settle ct_World_settle), sl_World_settle⟩)
    (c_World_settle : PySem.W.codeIn K cd_World_settle "World.settle" = true)
    (k_World_settle : PySem.W.keepIn K (.ref p_World_settle) = true)
    (pg_World : PySem.W.plainGet K C_World Str.empty = true)
    (hd_World : PySem.W.hasDictIn K C_World = true)
    (po_World : PySem.W.plainOver K C_World = true)
    (sa_World : PySem.W.findIn K (.ref C_World) "__setattr__" = some (some (.builtin "object.__setattr__")))
    (mk_World : PySem.W.makesIn K C_World = true)
    (kc_World : PySem.W.keepIn K (.ref C_World) = true)
    (n_World_names : PySem.W.findIn K (.ref C_World) "names" = some none)
    (n_World_houses : PySem.W.findIn K (.ref C_World) "houses" = some none)
    (n_World_callers : PySem.W.findIn K (.ref C_World) "callers" = some none)
    (n_World_under_way : PySem.W.findIn K (.ref C_World) "under_way" = some none)
    (n_World_rows : PySem.W.findIn K (.ref C_World) "rows" = some none)
    (aE_MoveError : PySem.W.nsIn K mainGlobals "MoveError" = some (some (.ref E_MoveError)))
    (kE_MoveError : PySem.W.keepIn K (.ref E_MoveError) = true)
    (bE_MoveError : PySem.W.subIn K (.ref E_MoveError) (.type "BaseException") = some true)
    (tE_MoveError : PySem.W.typeIn K (.ref E_MoveError) = some (.type "type"))
    (xE_MoveError : PySem.W.excIn K E_MoveError [.type "ValueError", .type "Exception", .type "BaseException", .type "object"] "ValueError.__new__" = true)
    (aE_BadWorld : PySem.W.nsIn K mainGlobals "BadWorld" = some (some (.ref E_BadWorld)))
    (kE_BadWorld : PySem.W.keepIn K (.ref E_BadWorld) = true)
    (bE_BadWorld : PySem.W.subIn K (.ref E_BadWorld) (.type "BaseException") = some true)
    (tE_BadWorld : PySem.W.typeIn K (.ref E_BadWorld) = some (.type "type"))
    (xE_BadWorld : PySem.W.excIn K E_BadWorld [.type "ValueError", .type "Exception", .type "BaseException", .type "object"] "ValueError.__new__" = true)
    (aE_NoCaller : PySem.W.nsIn K mainGlobals "NoCaller" = some (some (.ref E_NoCaller)))
    (kE_NoCaller : PySem.W.keepIn K (.ref E_NoCaller) = true)
    (bE_NoCaller : PySem.W.subIn K (.ref E_NoCaller) (.type "BaseException") = some true)
    (tE_NoCaller : PySem.W.typeIn K (.ref E_NoCaller) = some (.type "type"))
    (xE_NoCaller : PySem.W.excIn K E_NoCaller [.type "ValueError", .type "Exception", .type "BaseException", .type "object"] "ValueError.__new__" = true)
    (aE_NoHouse : PySem.W.nsIn K mainGlobals "NoHouse" = some (some (.ref E_NoHouse)))
    (kE_NoHouse : PySem.W.keepIn K (.ref E_NoHouse) = true)
    (bE_NoHouse : PySem.W.subIn K (.ref E_NoHouse) (.type "BaseException") = some true)
    (tE_NoHouse : PySem.W.typeIn K (.ref E_NoHouse) = some (.type "type"))
    (xE_NoHouse : PySem.W.excIn K E_NoHouse [.type "ValueError", .type "Exception", .type "BaseException", .type "object"] "ValueError.__new__" = true)
    (aE_NoKey : PySem.W.nsIn K mainGlobals "NoKey" = some (some (.ref E_NoKey)))
    (kE_NoKey : PySem.W.keepIn K (.ref E_NoKey) = true)
    (bE_NoKey : PySem.W.subIn K (.ref E_NoKey) (.type "BaseException") = some true)
    (tE_NoKey : PySem.W.typeIn K (.ref E_NoKey) = some (.type "type"))
    (xE_NoKey : PySem.W.excIn K E_NoKey [.type "ValueError", .type "Exception", .type "BaseException", .type "object"] "ValueError.__new__" = true)
    (aE_BadWish : PySem.W.nsIn K mainGlobals "BadWish" = some (some (.ref E_BadWish)))
    (kE_BadWish : PySem.W.keepIn K (.ref E_BadWish) = true)
    (bE_BadWish : PySem.W.subIn K (.ref E_BadWish) (.type "BaseException") = some true)
    (tE_BadWish : PySem.W.typeIn K (.ref E_BadWish) = some (.type "type"))
    (xE_BadWish : PySem.W.excIn K E_BadWish [.type "ValueError", .type "Exception", .type "BaseException", .type "object"] "ValueError.__new__" = true)
    (aE_Busy : PySem.W.nsIn K mainGlobals "Busy" = some (some (.ref E_Busy)))
    (kE_Busy : PySem.W.keepIn K (.ref E_Busy) = true)
    (bE_Busy : PySem.W.subIn K (.ref E_Busy) (.type "BaseException") = some true)
    (tE_Busy : PySem.W.typeIn K (.ref E_Busy) = some (.type "type"))
    (xE_Busy : PySem.W.excIn K E_Busy [.type "ValueError", .type "Exception", .type "BaseException", .type "object"] "ValueError.__new__" = true)
    (aE_Idle : PySem.W.nsIn K mainGlobals "Idle" = some (some (.ref E_Idle)))
    (kE_Idle : PySem.W.keepIn K (.ref E_Idle) = true)
    (bE_Idle : PySem.W.subIn K (.ref E_Idle) (.type "BaseException") = some true)
    (tE_Idle : PySem.W.typeIn K (.ref E_Idle) = some (.type "type"))
    (xE_Idle : PySem.W.excIn K E_Idle [.type "ValueError", .type "Exception", .type "BaseException", .type "object"] "ValueError.__new__" = true)
    (aE_NotHere : PySem.W.nsIn K mainGlobals "NotHere" = some (some (.ref E_NotHere)))
    (kE_NotHere : PySem.W.keepIn K (.ref E_NotHere) = true)
    (bE_NotHere : PySem.W.subIn K (.ref E_NotHere) (.type "BaseException") = some true)
    (tE_NotHere : PySem.W.typeIn K (.ref E_NotHere) = some (.type "type"))
    (xE_NotHere : PySem.W.excIn K E_NotHere [.type "ValueError", .type "Exception", .type "BaseException", .type "object"] "ValueError.__new__" = true)
    (aE_NoLetter : PySem.W.nsIn K mainGlobals "NoLetter" = some (some (.ref E_NoLetter)))
    (kE_NoLetter : PySem.W.keepIn K (.ref E_NoLetter) = true)
    (bE_NoLetter : PySem.W.subIn K (.ref E_NoLetter) (.type "BaseException") = some true)
    (tE_NoLetter : PySem.W.typeIn K (.ref E_NoLetter) = some (.type "type"))
    (xE_NoLetter : PySem.W.excIn K E_NoLetter [.type "ValueError", .type "Exception", .type "BaseException", .type "object"] "ValueError.__new__" = true)
    (qg_BadWorld : PySem.W.findIn K (.ref E_BadWorld) "__getattribute__" = some (some (.builtin "BaseException.__getattribute__")))
    (qk_BadWorld : PySem.W.findIn K (.ref E_BadWorld) "__getattr__" = some none)
    (qa_BadWorld : PySem.W.findIn K (.ref E_BadWorld) "__class__" = some (some (.builtin "object.__class__")))
    (qm_BadWorld : PySem.W.mroIn K E_BadWorld (.type "object") = some true)
    (qg_NoKey : PySem.W.findIn K (.ref E_NoKey) "__getattribute__" = some (some (.builtin "BaseException.__getattribute__")))
    (qk_NoKey : PySem.W.findIn K (.ref E_NoKey) "__getattr__" = some none)
    (qa_NoKey : PySem.W.findIn K (.ref E_NoKey) "__class__" = some (some (.builtin "object.__class__")))
    (qm_NoKey : PySem.W.mroIn K E_NoKey (.type "object") = some true)
    (q_get : PySem.W.specialIn K (.builtin "object.__class__") "__get__" = some (some (.builtin "getset_descriptor.__get__")))
    (q_takes : PySem.W.takesIn K (.builtin "object.__class__") = some true)
    (qd_BadWorld : PySem.W.hasDictIn K E_BadWorld = true)
    (qd_NoKey : PySem.W.hasDictIn K E_NoKey = true)
    (qd_MoveError : PySem.W.hasDictIn K E_MoveError = true)
    (qd_NoCaller : PySem.W.hasDictIn K E_NoCaller = true)
    (qd_NoHouse : PySem.W.hasDictIn K E_NoHouse = true)
    (qd_BadWish : PySem.W.hasDictIn K E_BadWish = true)
    (qd_Busy : PySem.W.hasDictIn K E_Busy = true)
    (qd_Idle : PySem.W.hasDictIn K E_Idle = true)
    (qd_NotHere : PySem.W.hasDictIn K E_NotHere = true)
    (qd_NoLetter : PySem.W.hasDictIn K E_NoLetter = true)
    (qs_BadWorld_MoveError : PySem.W.subIn K (.ref E_BadWorld) (.ref E_MoveError) = some true)
    (qs_BadWorld_BadWorld : PySem.W.subIn K (.ref E_BadWorld) (.ref E_BadWorld) = some true)
    (qs_BadWorld_ValueError : PySem.W.subIn K (.ref E_BadWorld) (.type "ValueError") = some true)
    (qs_NoKey_NoKey : PySem.W.subIn K (.ref E_NoKey) (.ref E_NoKey) = some true)
    (qn_BadWorld_NoCaller : PySem.W.subIn K (.ref E_BadWorld) (.ref E_NoCaller) = some false)
    (qn_BadWorld_NoHouse : PySem.W.subIn K (.ref E_BadWorld) (.ref E_NoHouse) = some false)
    (qn_BadWorld_NoKey : PySem.W.subIn K (.ref E_BadWorld) (.ref E_NoKey) = some false)
    (qn_BadWorld_BadWish : PySem.W.subIn K (.ref E_BadWorld) (.ref E_BadWish) = some false)
    (qn_BadWorld_Busy : PySem.W.subIn K (.ref E_BadWorld) (.ref E_Busy) = some false)
    (qn_BadWorld_Idle : PySem.W.subIn K (.ref E_BadWorld) (.ref E_Idle) = some false)
    (qn_BadWorld_NotHere : PySem.W.subIn K (.ref E_BadWorld) (.ref E_NotHere) = some false)
    (qn_BadWorld_NoLetter : PySem.W.subIn K (.ref E_BadWorld) (.ref E_NoLetter) = some false)
    (g_GREATEST : PySem.W.nsIn K mainGlobals "GREATEST" = some (some (.int 1000000000000000000000000000000 tk_GREATEST)))
    (g_MOST : PySem.W.nsIn K mainGlobals "MOST" = some (some (.int 6 tk_MOST)))
    (g_MOST_SIGNS : PySem.W.nsIn K mainGlobals "MOST_SIGNS" = some (some (.int 8 tk_MOST_SIGNS)))
    (g_LETTERS : PySem.W.nsIn K mainGlobals "LETTERS" = some (some (.str "abcdefghijklmnopqrstuvwxyz" tk_LETTERS)))
    (z_len : PySem.W.nsIn K mainGlobals "len" = some none)
    (z_list : PySem.W.nsIn K mainGlobals "list" = some none)
    (z_tuple : PySem.W.nsIn K mainGlobals "tuple" = some none)
    (z_dict : PySem.W.nsIn K mainGlobals "dict" = some none)
    (z_sorted : PySem.W.nsIn K mainGlobals "sorted" = some none)
    (z_all : PySem.W.nsIn K mainGlobals "all" = some none)
    (z_max : PySem.W.nsIn K mainGlobals "max" = some none)
    (z_int : PySem.W.nsIn K mainGlobals "int" = some none)
    (z_abs : PySem.W.nsIn K mainGlobals "abs" = some none)
    (z_isinstance : PySem.W.nsIn K mainGlobals "isinstance" = some none)
    (z_range : PySem.W.nsIn K mainGlobals "range" = some none)
    (z_bool : PySem.W.nsIn K mainGlobals "bool" = some none)
    (z_str : PySem.W.nsIn K mainGlobals "str" = some none)
    (z_ValueError : PySem.W.nsIn K mainGlobals "ValueError" = some none)
    (z_KeyError : PySem.W.nsIn K mainGlobals "KeyError" = some none) :
    ∃ A fd, RowF K mg G A T ∧ A.fn f_law_k08 = fa ∧ (∀ (s : Shared) (u : Value), BindsTo s fd ⟨[u], []⟩ [("_law_script", u)]) ∧ (∃ qual st N, Fun K "law" qual st fa fd ∧ L2.Binds K fd ["_law_script"] [] ∧
        ∀ fn, T.fn f_law_k08 = some fn → FnScope N ["_law_script"] (defScope st) ∧ fn.np = 1 ∧ fn.ns = N.length ∧ cSs (cSt G N (defScope st) fE fS) (defBody st) = some fn.body) := by
  have e := (PySem.W.mg_of X Gm a_law_k08).symm.trans hfa
  have e2 : p_law_k08 = fa := Value.ref.inj (Option.some.inj e)
  subst e2
  let A : Ad := ⟨fun f => (([(f_is_whole, p_is_whole), (f_is_wish, p_is_wish), (f_need_wish, p_need_wish), (f_done, p_done), (f_mark_of, p_mark_of), (f_marked, p_marked), (f_is_key, p_is_key), (f_need_world, p_need_world), (f_l_cell_at, p_l_cell_at), (f_l_whole, p_l_whole), (f_l_kinds_k08, p_l_kinds_k08), (f_l_refused_k08, p_l_refused_k08), (f_l_names, p_l_names), (f_l_odd_k08, p_l_odd_k08), (f_l_good, p_l_good), (f_l_fresh, p_l_fresh), (f_l_no_key, p_l_no_key), (f_law_k08, p_law_k08), (f_House_init, p_House_init), (f_House_has, p_House_has), (f_House_owes, p_House_owes), (f_House_parcel, p_House_parcel), (f_House_came, p_House_came), (f_House_called, p_House_called), (f_House_move_k08, p_House_move_k08), (f_House_write, p_House_write), (f_House_sleep_k08, p_House_sleep_k08), (f_House_nudge, p_House_nudge), (f_Caller_init, p_Caller_init), (f_Caller_begin, p_Caller_begin), (f_Caller_letter, p_Caller_letter), (f_Caller_came, p_Caller_came), (f_Caller_asking, p_Caller_asking), (f_Caller_answers, p_Caller_answers), (f_World_init, p_World_init), (f_World_need_caller, p_World_need_caller), (f_World_need_house, p_World_need_house), (f_World_need_key, p_World_need_key), (f_World_need_place, p_World_need_place), (f_World_call, p_World_call), (f_World_again, p_World_again), (f_World_letters, p_World_letters), (f_World_brought, p_World_brought), (f_World_hand, p_World_hand), (f_World_twice, p_World_twice), (f_World_lose_k08, p_World_lose_k08), (f_World_home, p_World_home), (f_World_has, p_World_has), (f_World_move_k08, p_World_move_k08), (f_World_write, p_World_write), (f_World_sleep_k08, p_World_sleep_k08), (f_World_nudge, p_World_nudge), (f_World_ledger, p_World_ledger), (f_World_asking, p_World_asking), (f_World_answers, p_World_answers), (f_World_owes, p_World_owes), (f_World_is_settled, p_World_is_settled), (f_World_settle, p_World_settle)] : List (Nat × Addr)).lookup f).getD 0, fun c => (([(c_House, C_House), (c_Caller, C_Caller), (c_World, C_World), (x_MoveError, E_MoveError), (x_BadWorld, E_BadWorld), (x_NoCaller, E_NoCaller), (x_NoHouse, E_NoHouse), (x_NoKey, E_NoKey), (x_BadWish, E_BadWish), (x_Busy, E_Busy), (x_Idle, E_Idle), (x_NotHere, E_NotHere), (x_NoLetter, E_NoLetter)] : List (Nat × Addr)).lookup c).getD 0⟩
  have F_is_whole := fun_mk (st := s_is_whole) l_is_whole c_is_whole k_is_whole
  have B_is_whole := F_is_whole.binds (ps := ["thing"]) fun _ _ _ _ _ _ us hl => match us, hl with | [_], _ => rfl
  have D_is_whole : DefOk K G T f_is_whole (A.fn f_is_whole) := defOk_mk rfl F_is_whole B_is_whole sc_is_whole rfl rfl cp_is_whole
  have F_is_wish := fun_mk (st := s_is_wish) l_is_wish c_is_wish k_is_wish
  have B_is_wish := F_is_wish.binds (ps := ["thing"]) fun _ _ _ _ _ _ us hl => match us, hl with | [_], _ => rfl
  have D_is_wish : DefOk K G T f_is_wish (A.fn f_is_wish) := defOk_mk rfl F_is_wish B_is_wish sc_is_wish rfl rfl cp_is_wish
  have F_need_wish := fun_mk (st := s_need_wish) l_need_wish c_need_wish k_need_wish
  have B_need_wish := F_need_wish.binds (ps := ["wish"]) fun _ _ _ _ _ _ us hl => match us, hl with | [_], _ => rfl
  have D_need_wish : DefOk K G T f_need_wish (A.fn f_need_wish) := defOk_mk rfl F_need_wish B_need_wish sc_need_wish rfl rfl cp_need_wish
  have F_done := fun_mk (st := s_done) l_done c_done k_done
  have B_done := F_done.binds (ps := ["amount", "wish"]) fun _ _ _ _ _ _ us hl => match us, hl with | [_, _], _ => rfl
  have D_done : DefOk K G T f_done (A.fn f_done) := defOk_mk rfl F_done B_done sc_done rfl rfl cp_done
  have F_mark_of := fun_mk (st := s_mark_of) l_mark_of c_mark_of k_mark_of
  have B_mark_of := F_mark_of.binds (ps := ["marks", "caller"]) fun _ _ _ _ _ _ us hl => match us, hl with | [_, _], _ => rfl
  have D_mark_of : DefOk K G T f_mark_of (A.fn f_mark_of) := defOk_mk rfl F_mark_of B_mark_of sc_mark_of rfl rfl cp_mark_of
  have F_marked := fun_mk (st := s_marked) l_marked c_marked k_marked
  have B_marked := F_marked.binds (ps := ["marks", "caller", "number", "told"]) fun _ _ _ _ _ _ us hl => match us, hl with | [_, _, _, _], _ => rfl
  have D_marked : DefOk K G T f_marked (A.fn f_marked) := defOk_mk rfl F_marked B_marked sc_marked rfl rfl cp_marked
  have F_is_key := fun_mk (st := s_is_key) l_is_key c_is_key k_is_key
  have B_is_key := F_is_key.binds (ps := ["thing"]) fun _ _ _ _ _ _ us hl => match us, hl with | [_], _ => rfl
  have D_is_key : DefOk K G T f_is_key (A.fn f_is_key) := defOk_mk rfl F_is_key B_is_key sc_is_key rfl rfl cp_is_key
  have F_need_world := fun_mk (st := s_need_world) l_need_world c_need_world k_need_world
  have B_need_world := F_need_world.binds (ps := ["keys", "callers"]) fun _ _ _ _ _ _ us hl => match us, hl with | [_, _], _ => rfl
  have D_need_world : DefOk K G T f_need_world (A.fn f_need_world) := defOk_mk rfl F_need_world B_need_world sc_need_world rfl rfl cp_need_world
  have F_l_cell_at := fun_mk (st := s_l_cell_at) l_l_cell_at c_l_cell_at k_l_cell_at
  have B_l_cell_at := F_l_cell_at.binds (ps := ["_law_script", "_law_k"]) fun _ _ _ _ _ _ us hl => match us, hl with | [_, _], _ => rfl
  have D_l_cell_at : DefOk K G T f_l_cell_at (A.fn f_l_cell_at) := defOk_mk rfl F_l_cell_at B_l_cell_at sc_l_cell_at rfl rfl cp_l_cell_at
  have F_l_whole := fun_mk (st := s_l_whole) l_l_whole c_l_whole k_l_whole
  have B_l_whole := F_l_whole.binds (ps := ["_law_found"]) fun _ _ _ _ _ _ us hl => match us, hl with | [_], _ => rfl
  have D_l_whole : DefOk K G T f_l_whole (A.fn f_l_whole) := defOk_mk rfl F_l_whole B_l_whole sc_l_whole rfl rfl cp_l_whole
  have F_l_kinds_k08 := fun_mk (st := s_l_kinds_k08) l_l_kinds_k08 c_l_kinds_k08 k_l_kinds_k08
  have B_l_kinds_k08 := F_l_kinds_k08.binds (ps := ["_law_e"]) fun _ _ _ _ _ _ us hl => match us, hl with | [_], _ => rfl
  have D_l_kinds_k08 : DefOk K G T f_l_kinds_k08 (A.fn f_l_kinds_k08) := defOk_no rfl F_l_kinds_k08 B_l_kinds_k08
  have F_l_refused_k08 := fun_mk (st := s_l_refused_k08) l_l_refused_k08 c_l_refused_k08 k_l_refused_k08
  have B_l_refused_k08 := F_l_refused_k08.binds (ps := ["_law_keys", "_law_callers"]) fun _ _ _ _ _ _ us hl => match us, hl with | [_, _], _ => rfl
  have D_l_refused_k08 : DefOk K G T f_l_refused_k08 (A.fn f_l_refused_k08) := defOk_mk rfl F_l_refused_k08 B_l_refused_k08 sc_l_refused_k08 rfl rfl cp_l_refused_k08
  have F_l_names := fun_mk (st := s_l_names) l_l_names c_l_names k_l_names
  have B_l_names := F_l_names.binds (ps := ["_law_cell"]) fun _ _ _ _ _ _ us hl => match us, hl with | [_], _ => rfl
  have D_l_names : DefOk K G T f_l_names (A.fn f_l_names) := defOk_mk rfl F_l_names B_l_names sc_l_names rfl rfl cp_l_names
  have F_l_odd_k08 := fun_mk (st := s_l_odd_k08) l_l_odd_k08 c_l_odd_k08 k_l_odd_k08
  have B_l_odd_k08 := F_l_odd_k08.binds (ps := ["_law_cell", "_law_keys"]) fun _ _ _ _ _ _ us hl => match us, hl with | [_, _], _ => rfl
  have D_l_odd_k08 : DefOk K G T f_l_odd_k08 (A.fn f_l_odd_k08) := defOk_mk rfl F_l_odd_k08 B_l_odd_k08 sc_l_odd_k08 rfl rfl cp_l_odd_k08
  have F_l_good := fun_mk (st := s_l_good) l_l_good c_l_good k_l_good
  have B_l_good := F_l_good.binds (ps := ["_law_keys", "_law_callers"]) fun _ _ _ _ _ _ us hl => match us, hl with | [_, _], _ => rfl
  have D_l_good : DefOk K G T f_l_good (A.fn f_l_good) := defOk_mk rfl F_l_good B_l_good sc_l_good rfl rfl cp_l_good
  have F_l_fresh := fun_mk (st := s_l_fresh) l_l_fresh c_l_fresh k_l_fresh
  have B_l_fresh := F_l_fresh.binds (ps := ["_law_world", "_law_keys", "_law_callers"]) fun _ _ _ _ _ _ us hl => match us, hl with | [_, _, _], _ => rfl
  have D_l_fresh : DefOk K G T f_l_fresh (A.fn f_l_fresh) := defOk_mk rfl F_l_fresh B_l_fresh sc_l_fresh rfl rfl cp_l_fresh
  have F_l_no_key := fun_mk (st := s_l_no_key) l_l_no_key c_l_no_key k_l_no_key
  have B_l_no_key := F_l_no_key.binds (ps := ["_law_world", "_law_key"]) fun _ _ _ _ _ _ us hl => match us, hl with | [_, _], _ => rfl
  have D_l_no_key : DefOk K G T f_l_no_key (A.fn f_l_no_key) := defOk_mk rfl F_l_no_key B_l_no_key sc_l_no_key rfl rfl cp_l_no_key
  have F_law_k08 := fun_mk (st := s_law_k08) l_law_k08 c_law_k08 k_law_k08
  have B_law_k08 := F_law_k08.binds (ps := ["_law_script"]) fun _ _ _ _ _ _ us hl => match us, hl with | [_], _ => rfl
  have D_law_k08 : DefOk K G T f_law_k08 (A.fn f_law_k08) := defOk_mk rfl F_law_k08 B_law_k08 sc_law_k08 rfl rfl cp_law_k08
  have F_House_init := fun_mk (st := s_House_init) l_House_init c_House_init k_House_init
  have B_House_init := F_House_init.binds (ps := ["self", "number", "keys"]) fun _ _ _ _ _ _ us hl => match us, hl with | [_, _, _], _ => rfl
  have D_House_init : DefOk K G T f_House_init (A.fn f_House_init) := defOk_mk rfl F_House_init B_House_init sc_House_init rfl rfl cp_House_init
  have F_House_has := fun_mk (st := s_House_has) l_House_has c_House_has k_House_has
  have B_House_has := F_House_has.binds (ps := ["self", "key"]) fun _ _ _ _ _ _ us hl => match us, hl with | [_, _], _ => rfl
  have D_House_has : DefOk K G T f_House_has (A.fn f_House_has) := defOk_mk rfl F_House_has B_House_has sc_House_has rfl rfl cp_House_has
  have F_House_owes := fun_mk (st := s_House_owes) l_House_owes c_House_owes k_House_owes
  have B_House_owes := F_House_owes.binds (ps := ["self"]) fun _ _ _ _ _ _ us hl => match us, hl with | [_], _ => rfl
  have D_House_owes : DefOk K G T f_House_owes (A.fn f_House_owes) := defOk_mk rfl F_House_owes B_House_owes sc_House_owes rfl rfl cp_House_owes
  have F_House_parcel := fun_mk (st := s_House_parcel) l_House_parcel c_House_parcel k_House_parcel
  have B_House_parcel := F_House_parcel.binds (ps := ["self", "key", "row"]) fun _ _ _ _ _ _ us hl => match us, hl with | [_, _, _], _ => rfl
  have D_House_parcel : DefOk K G T f_House_parcel (A.fn f_House_parcel) := defOk_mk rfl F_House_parcel B_House_parcel sc_House_parcel rfl rfl cp_House_parcel
  have F_House_came := fun_mk (st := s_House_came) l_House_came c_House_came k_House_came
  have B_House_came := F_House_came.binds (ps := ["self", "letter"]) fun _ _ _ _ _ _ us hl => match us, hl with | [_, _], _ => rfl
  have D_House_came : DefOk K G T f_House_came (A.fn f_House_came) := defOk_mk rfl F_House_came B_House_came sc_House_came rfl rfl cp_House_came
  have F_House_called := fun_mk (st := s_House_called) l_House_called c_House_called k_House_called
  have B_House_called := F_House_called.binds (ps := ["self", "caller", "number", "key", "wish"]) fun _ _ _ _ _ _ us hl => match us, hl with | [_, _, _, _, _], _ => rfl
  have D_House_called : DefOk K G T f_House_called (A.fn f_House_called) := defOk_mk rfl F_House_called B_House_called sc_House_called rfl rfl cp_House_called
  have F_House_move_k08 := fun_mk (st := s_House_move_k08) l_House_move_k08 c_House_move_k08 k_House_move_k08
  have B_House_move_k08 := F_House_move_k08.binds (ps := ["self", "key"]) fun _ _ _ _ _ _ us hl => match us, hl with | [_, _], _ => rfl
  have D_House_move_k08 : DefOk K G T f_House_move_k08 (A.fn f_House_move_k08) := defOk_no rfl F_House_move_k08 B_House_move_k08
  have F_House_write := fun_mk (st := s_House_write) l_House_write c_House_write k_House_write
  have B_House_write := F_House_write.binds (ps := ["self"]) fun _ _ _ _ _ _ us hl => match us, hl with | [_], _ => rfl
  have D_House_write : DefOk K G T f_House_write (A.fn f_House_write) := defOk_mk rfl F_House_write B_House_write sc_House_write rfl rfl cp_House_write
  have F_House_sleep_k08 := fun_mk (st := s_House_sleep_k08) l_House_sleep_k08 c_House_sleep_k08 k_House_sleep_k08
  have B_House_sleep_k08 := F_House_sleep_k08.binds (ps := ["self"]) fun _ _ _ _ _ _ us hl => match us, hl with | [_], _ => rfl
  have D_House_sleep_k08 : DefOk K G T f_House_sleep_k08 (A.fn f_House_sleep_k08) := defOk_no rfl F_House_sleep_k08 B_House_sleep_k08
  have F_House_nudge := fun_mk (st := s_House_nudge) l_House_nudge c_House_nudge k_House_nudge
  have B_House_nudge := F_House_nudge.binds (ps := ["self"]) fun _ _ _ _ _ _ us hl => match us, hl with | [_], _ => rfl
  have D_House_nudge : DefOk K G T f_House_nudge (A.fn f_House_nudge) := defOk_mk rfl F_House_nudge B_House_nudge sc_House_nudge rfl rfl cp_House_nudge
  have F_Caller_init := fun_mk (st := s_Caller_init) l_Caller_init c_Caller_init k_Caller_init
  have B_Caller_init := F_Caller_init.binds (ps := ["self", "number"]) fun _ _ _ _ _ _ us hl => match us, hl with | [_, _], _ => rfl
  have D_Caller_init : DefOk K G T f_Caller_init (A.fn f_Caller_init) := defOk_mk rfl F_Caller_init B_Caller_init sc_Caller_init rfl rfl cp_Caller_init
  have F_Caller_begin := fun_mk (st := s_Caller_begin) l_Caller_begin c_Caller_begin k_Caller_begin
  have B_Caller_begin := F_Caller_begin.binds (ps := ["self", "key", "wish"]) fun _ _ _ _ _ _ us hl => match us, hl with | [_, _, _], _ => rfl
  have D_Caller_begin : DefOk K G T f_Caller_begin (A.fn f_Caller_begin) := defOk_mk rfl F_Caller_begin B_Caller_begin sc_Caller_begin rfl rfl cp_Caller_begin
  have F_Caller_letter := fun_mk (st := s_Caller_letter) l_Caller_letter c_Caller_letter k_Caller_letter
  have B_Caller_letter := F_Caller_letter.binds (ps := ["self", "house"]) fun _ _ _ _ _ _ us hl => match us, hl with | [_, _], _ => rfl
  have D_Caller_letter : DefOk K G T f_Caller_letter (A.fn f_Caller_letter) := defOk_mk rfl F_Caller_letter B_Caller_letter sc_Caller_letter rfl rfl cp_Caller_letter
  have F_Caller_came := fun_mk (st := s_Caller_came) l_Caller_came c_Caller_came k_Caller_came
  have B_Caller_came := F_Caller_came.binds (ps := ["self", "number", "told"]) fun _ _ _ _ _ _ us hl => match us, hl with | [_, _, _], _ => rfl
  have D_Caller_came : DefOk K G T f_Caller_came (A.fn f_Caller_came) := defOk_mk rfl F_Caller_came B_Caller_came sc_Caller_came rfl rfl cp_Caller_came
  have F_Caller_asking := fun_mk (st := s_Caller_asking) l_Caller_asking c_Caller_asking k_Caller_asking
  have B_Caller_asking := F_Caller_asking.binds (ps := ["self"]) fun _ _ _ _ _ _ us hl => match us, hl with | [_], _ => rfl
  have D_Caller_asking : DefOk K G T f_Caller_asking (A.fn f_Caller_asking) := defOk_mk rfl F_Caller_asking B_Caller_asking sc_Caller_asking rfl rfl cp_Caller_asking
  have F_Caller_answers := fun_mk (st := s_Caller_answers) l_Caller_answers c_Caller_answers k_Caller_answers
  have B_Caller_answers := F_Caller_answers.binds (ps := ["self"]) fun _ _ _ _ _ _ us hl => match us, hl with | [_], _ => rfl
  have D_Caller_answers : DefOk K G T f_Caller_answers (A.fn f_Caller_answers) := defOk_mk rfl F_Caller_answers B_Caller_answers sc_Caller_answers rfl rfl cp_Caller_answers
  have F_World_init := fun_mk (st := s_World_init) l_World_init c_World_init k_World_init
  have B_World_init := F_World_init.binds (ps := ["self", "keys", "callers"]) fun _ _ _ _ _ _ us hl => match us, hl with | [_, _, _], _ => rfl
  have D_World_init : DefOk K G T f_World_init (A.fn f_World_init) := defOk_mk rfl F_World_init B_World_init sc_World_init rfl rfl cp_World_init
  have F_World_need_caller := fun_mk (st := s_World_need_caller) l_World_need_caller c_World_need_caller k_World_need_caller
  have B_World_need_caller := F_World_need_caller.binds (ps := ["self", "caller"]) fun _ _ _ _ _ _ us hl => match us, hl with | [_, _], _ => rfl
  have D_World_need_caller : DefOk K G T f_World_need_caller (A.fn f_World_need_caller) := defOk_mk rfl F_World_need_caller B_World_need_caller sc_World_need_caller rfl rfl cp_World_need_caller
  have F_World_need_house := fun_mk (st := s_World_need_house) l_World_need_house c_World_need_house k_World_need_house
  have B_World_need_house := F_World_need_house.binds (ps := ["self", "house"]) fun _ _ _ _ _ _ us hl => match us, hl with | [_, _], _ => rfl
  have D_World_need_house : DefOk K G T f_World_need_house (A.fn f_World_need_house) := defOk_mk rfl F_World_need_house B_World_need_house sc_World_need_house rfl rfl cp_World_need_house
  have F_World_need_key := fun_mk (st := s_World_need_key) l_World_need_key c_World_need_key k_World_need_key
  have B_World_need_key := F_World_need_key.binds (ps := ["self", "key"]) fun _ _ _ _ _ _ us hl => match us, hl with | [_, _], _ => rfl
  have D_World_need_key : DefOk K G T f_World_need_key (A.fn f_World_need_key) := defOk_mk rfl F_World_need_key B_World_need_key sc_World_need_key rfl rfl cp_World_need_key
  have F_World_need_place := fun_mk (st := s_World_need_place) l_World_need_place c_World_need_place k_World_need_place
  have B_World_need_place := F_World_need_place.binds (ps := ["self", "place"]) fun _ _ _ _ _ _ us hl => match us, hl with | [_, _], _ => rfl
  have D_World_need_place : DefOk K G T f_World_need_place (A.fn f_World_need_place) := defOk_mk rfl F_World_need_place B_World_need_place sc_World_need_place rfl rfl cp_World_need_place
  have F_World_call := fun_mk (st := s_World_call) l_World_call c_World_call k_World_call
  have B_World_call := F_World_call.binds (ps := ["self", "caller", "house", "key", "wish"]) fun _ _ _ _ _ _ us hl => match us, hl with | [_, _, _, _, _], _ => rfl
  have D_World_call : DefOk K G T f_World_call (A.fn f_World_call) := defOk_mk rfl F_World_call B_World_call sc_World_call rfl rfl cp_World_call
  have F_World_again := fun_mk (st := s_World_again) l_World_again c_World_again k_World_again
  have B_World_again := F_World_again.binds (ps := ["self", "caller", "house"]) fun _ _ _ _ _ _ us hl => match us, hl with | [_, _, _], _ => rfl
  have D_World_again : DefOk K G T f_World_again (A.fn f_World_again) := defOk_mk rfl F_World_again B_World_again sc_World_again rfl rfl cp_World_again
  have F_World_letters := fun_mk (st := s_World_letters) l_World_letters c_World_letters k_World_letters
  have B_World_letters := F_World_letters.binds (ps := ["self"]) fun _ _ _ _ _ _ us hl => match us, hl with | [_], _ => rfl
  have D_World_letters : DefOk K G T f_World_letters (A.fn f_World_letters) := defOk_mk rfl F_World_letters B_World_letters sc_World_letters rfl rfl cp_World_letters
  have F_World_brought := fun_mk (st := s_World_brought) l_World_brought c_World_brought k_World_brought
  have B_World_brought := F_World_brought.binds (ps := ["self", "letter"]) fun _ _ _ _ _ _ us hl => match us, hl with | [_, _], _ => rfl
  have D_World_brought : DefOk K G T f_World_brought (A.fn f_World_brought) := defOk_mk rfl F_World_brought B_World_brought sc_World_brought rfl rfl cp_World_brought
  have F_World_hand := fun_mk (st := s_World_hand) l_World_hand c_World_hand k_World_hand
  have B_World_hand := F_World_hand.binds (ps := ["self", "place"]) fun _ _ _ _ _ _ us hl => match us, hl with | [_, _], _ => rfl
  have D_World_hand : DefOk K G T f_World_hand (A.fn f_World_hand) := defOk_mk rfl F_World_hand B_World_hand sc_World_hand rfl rfl cp_World_hand
  have F_World_twice := fun_mk (st := s_World_twice) l_World_twice c_World_twice k_World_twice
  have B_World_twice := F_World_twice.binds (ps := ["self", "place"]) fun _ _ _ _ _ _ us hl => match us, hl with | [_, _], _ => rfl
  have D_World_twice : DefOk K G T f_World_twice (A.fn f_World_twice) := defOk_mk rfl F_World_twice B_World_twice sc_World_twice rfl rfl cp_World_twice
  have F_World_lose_k08 := fun_mk (st := s_World_lose_k08) l_World_lose_k08 c_World_lose_k08 k_World_lose_k08
  have B_World_lose_k08 := F_World_lose_k08.binds (ps := ["self", "place"]) fun _ _ _ _ _ _ us hl => match us, hl with | [_, _], _ => rfl
  have D_World_lose_k08 : DefOk K G T f_World_lose_k08 (A.fn f_World_lose_k08) := defOk_no rfl F_World_lose_k08 B_World_lose_k08
  have F_World_home := fun_mk (st := s_World_home) l_World_home c_World_home k_World_home
  have B_World_home := F_World_home.binds (ps := ["self", "key"]) fun _ _ _ _ _ _ us hl => match us, hl with | [_, _], _ => rfl
  have D_World_home : DefOk K G T f_World_home (A.fn f_World_home) := defOk_mk rfl F_World_home B_World_home sc_World_home rfl rfl cp_World_home
  have F_World_has := fun_mk (st := s_World_has) l_World_has c_World_has k_World_has
  have B_World_has := F_World_has.binds (ps := ["self", "house", "key"]) fun _ _ _ _ _ _ us hl => match us, hl with | [_, _, _], _ => rfl
  have D_World_has : DefOk K G T f_World_has (A.fn f_World_has) := defOk_mk rfl F_World_has B_World_has sc_World_has rfl rfl cp_World_has
  have F_World_move_k08 := fun_mk (st := s_World_move_k08) l_World_move_k08 c_World_move_k08 k_World_move_k08
  have B_World_move_k08 := F_World_move_k08.binds (ps := ["self", "key"]) fun _ _ _ _ _ _ us hl => match us, hl with | [_, _], _ => rfl
  have D_World_move_k08 : DefOk K G T f_World_move_k08 (A.fn f_World_move_k08) := defOk_no rfl F_World_move_k08 B_World_move_k08
  have F_World_write := fun_mk (st := s_World_write) l_World_write c_World_write k_World_write
  have B_World_write := F_World_write.binds (ps := ["self", "house"]) fun _ _ _ _ _ _ us hl => match us, hl with | [_, _], _ => rfl
  have D_World_write : DefOk K G T f_World_write (A.fn f_World_write) := defOk_mk rfl F_World_write B_World_write sc_World_write rfl rfl cp_World_write
  have F_World_sleep_k08 := fun_mk (st := s_World_sleep_k08) l_World_sleep_k08 c_World_sleep_k08 k_World_sleep_k08
  have B_World_sleep_k08 := F_World_sleep_k08.binds (ps := ["self", "house"]) fun _ _ _ _ _ _ us hl => match us, hl with | [_, _], _ => rfl
  have D_World_sleep_k08 : DefOk K G T f_World_sleep_k08 (A.fn f_World_sleep_k08) := defOk_no rfl F_World_sleep_k08 B_World_sleep_k08
  have F_World_nudge := fun_mk (st := s_World_nudge) l_World_nudge c_World_nudge k_World_nudge
  have B_World_nudge := F_World_nudge.binds (ps := ["self", "house"]) fun _ _ _ _ _ _ us hl => match us, hl with | [_, _], _ => rfl
  have D_World_nudge : DefOk K G T f_World_nudge (A.fn f_World_nudge) := defOk_mk rfl F_World_nudge B_World_nudge sc_World_nudge rfl rfl cp_World_nudge
  have F_World_ledger := fun_mk (st := s_World_ledger) l_World_ledger c_World_ledger k_World_ledger
  have B_World_ledger := F_World_ledger.binds (ps := ["self"]) fun _ _ _ _ _ _ us hl => match us, hl with | [_], _ => rfl
  have D_World_ledger : DefOk K G T f_World_ledger (A.fn f_World_ledger) := defOk_mk rfl F_World_ledger B_World_ledger sc_World_ledger rfl rfl cp_World_ledger
  have F_World_asking := fun_mk (st := s_World_asking) l_World_asking c_World_asking k_World_asking
  have B_World_asking := F_World_asking.binds (ps := ["self", "caller"]) fun _ _ _ _ _ _ us hl => match us, hl with | [_, _], _ => rfl
  have D_World_asking : DefOk K G T f_World_asking (A.fn f_World_asking) := defOk_mk rfl F_World_asking B_World_asking sc_World_asking rfl rfl cp_World_asking
  have F_World_answers := fun_mk (st := s_World_answers) l_World_answers c_World_answers k_World_answers
  have B_World_answers := F_World_answers.binds (ps := ["self", "caller"]) fun _ _ _ _ _ _ us hl => match us, hl with | [_, _], _ => rfl
  have D_World_answers : DefOk K G T f_World_answers (A.fn f_World_answers) := defOk_mk rfl F_World_answers B_World_answers sc_World_answers rfl rfl cp_World_answers
  have F_World_owes := fun_mk (st := s_World_owes) l_World_owes c_World_owes k_World_owes
  have B_World_owes := F_World_owes.binds (ps := ["self", "house"]) fun _ _ _ _ _ _ us hl => match us, hl with | [_, _], _ => rfl
  have D_World_owes : DefOk K G T f_World_owes (A.fn f_World_owes) := defOk_mk rfl F_World_owes B_World_owes sc_World_owes rfl rfl cp_World_owes
  have F_World_is_settled := fun_mk (st := s_World_is_settled) l_World_is_settled c_World_is_settled k_World_is_settled
  have B_World_is_settled := F_World_is_settled.binds (ps := ["self"]) fun _ _ _ _ _ _ us hl => match us, hl with | [_], _ => rfl
  have D_World_is_settled : DefOk K G T f_World_is_settled (A.fn f_World_is_settled) := defOk_mk rfl F_World_is_settled B_World_is_settled sc_World_is_settled rfl rfl cp_World_is_settled
  have F_World_settle := fun_mk (st := s_World_settle) l_World_settle c_World_settle k_World_settle
  have B_World_settle := F_World_settle.binds (ps := ["self"]) fun _ _ _ _ _ _ us hl => match us, hl with | [_], _ => rfl
  have D_World_settle : DefOk K G T f_World_settle (A.fn f_World_settle) := defOk_mk rfl F_World_settle B_World_settle sc_World_settle rfl rfl cp_World_settle
  have L_House : Cls K C_House := ⟨pg_House, hd_House, po_House, sa_House⟩
  have M_House : Mk K C_House p_House_init := ⟨mk_House, a_House_init, i_House_init, kc_House⟩
  have L_Caller : Cls K C_Caller := ⟨pg_Caller, hd_Caller, po_Caller, sa_Caller⟩
  have M_Caller : Mk K C_Caller p_Caller_init := ⟨mk_Caller, a_Caller_init, i_Caller_init, kc_Caller⟩
  have L_World : Cls K C_World := ⟨pg_World, hd_World, po_World, sa_World⟩
  have M_World : Mk K C_World p_World_init := ⟨mk_World, a_World_init, i_World_init, kc_World⟩
  refine ⟨A, _, ⟨⟨by decide +kernel, ?z_fns, ?z_cls, ?z_init, ?z_fld, fun _ _ h => h, ?z_meth, ?z_blt, PySem.W.mg_none_of X Gm z_isinstance, PySem.W.mg_none_of X Gm z_range, ?z_tys, ?z_cons⟩, ?z_exs, PySem.W.mg_none_of X Gm z_ValueError, PySem.W.mg_none_of X Gm z_KeyError, ?z_exn, ?z_exq, ?z_knd⟩, rfl, fun s v => .of_eq rfl, _, _, _, F_law_k08, B_law_k08, fun fn hf => by cases hf; exact ⟨sc_law_k08, rfl, rfl, cp_law_k08⟩⟩
  case z_fns =>
    refine look_all ?_
    exact ⟨⟨PySem.W.mg_of X Gm a_is_whole, k_is_whole, D_is_whole⟩, ⟨⟨PySem.W.mg_of X Gm a_is_wish, k_is_wish, D_is_wish⟩, ⟨⟨PySem.W.mg_of X Gm a_need_wish, k_need_wish, D_need_wish⟩, ⟨⟨PySem.W.mg_of X Gm a_done, k_done, D_done⟩, ⟨⟨PySem.W.mg_of X Gm a_mark_of, k_mark_of, D_mark_of⟩, ⟨⟨PySem.W.mg_of X Gm a_marked, k_marked, D_marked⟩, ⟨⟨PySem.W.mg_of X Gm a_is_key, k_is_key, D_is_key⟩, ⟨⟨PySem.W.mg_of X Gm a_need_world, k_need_world, D_need_world⟩, ⟨⟨PySem.W.mg_of X Gm a_l_cell_at, k_l_cell_at, D_l_cell_at⟩, ⟨⟨PySem.W.mg_of X Gm a_l_whole, k_l_whole, D_l_whole⟩, ⟨⟨PySem.W.mg_of X Gm a_l_kinds_k08, k_l_kinds_k08, D_l_kinds_k08⟩, ⟨⟨PySem.W.mg_of X Gm a_l_refused_k08, k_l_refused_k08, D_l_refused_k08⟩, ⟨⟨PySem.W.mg_of X Gm a_l_names, k_l_names, D_l_names⟩, ⟨⟨PySem.W.mg_of X Gm a_l_odd_k08, k_l_odd_k08, D_l_odd_k08⟩, ⟨⟨PySem.W.mg_of X Gm a_l_good, k_l_good, D_l_good⟩, ⟨⟨PySem.W.mg_of X Gm a_l_fresh, k_l_fresh, D_l_fresh⟩, ⟨⟨PySem.W.mg_of X Gm a_l_no_key, k_l_no_key, D_l_no_key⟩, ⟨⟨PySem.W.mg_of X Gm a_law_k08, k_law_k08, D_law_k08⟩, trivial⟩⟩⟩⟩⟩⟩⟩⟩⟩⟩⟩⟩⟩⟩⟩⟩⟩⟩
  case z_cls =>
    refine look_all ?_
    exact ⟨⟨PySem.W.mg_of X Gm aC_House, kc_House⟩, ⟨⟨PySem.W.mg_of X Gm aC_Caller, kc_Caller⟩, ⟨⟨PySem.W.mg_of X Gm aC_World, kc_World⟩, trivial⟩⟩⟩
  case z_init =>
    refine look_all ?_
    exact ⟨⟨M_House, D_House_init, L_House⟩, ⟨⟨M_Caller, D_Caller_init, L_Caller⟩, ⟨⟨M_World, D_World_init, L_World⟩, trivial⟩⟩⟩
  case z_fld =>
    refine fld_all ?_
    exact ⟨fun x hx => (by cases hx; exact ⟨L_House, n_House_number⟩), ⟨fun x hx => (by cases hx; exact ⟨L_House, n_House_names⟩), ⟨fun x hx => (by cases hx; exact ⟨L_House, n_House_known⟩), ⟨fun x hx => (by cases hx; exact ⟨L_House, n_House_written⟩), ⟨fun x hx => (by cases hx; exact ⟨L_House, n_House_laid⟩), ⟨fun x hx => (by cases hx; exact ⟨L_House, n_House_fresh⟩), ⟨fun x hx => (by cases hx; exact ⟨L_Caller, n_Caller_number⟩), ⟨fun x hx => (by cases hx; exact ⟨L_Caller, n_Caller_made⟩), ⟨fun x hx => (by cases hx; exact ⟨L_Caller, n_Caller_asked⟩), ⟨fun x hx => (by cases hx; exact ⟨L_Caller, n_Caller_closed⟩), ⟨fun x hx => (by cases hx; exact ⟨L_World, n_World_names⟩), ⟨fun x hx => (by cases hx; exact ⟨L_World, n_World_houses⟩), ⟨fun x hx => (by cases hx; exact ⟨L_World, n_World_callers⟩), ⟨fun x hx => (by cases hx; exact ⟨L_World, n_World_under_way⟩), ⟨fun x hx => (by cases hx; exact ⟨L_World, n_World_rows⟩), trivial⟩⟩⟩⟩⟩⟩⟩⟩⟩⟩⟩⟩⟩⟩⟩
  case z_meth =>
    refine meth_all ?_
    exact ⟨fun x hx => (by cases hx; exact ⟨L_House, ⟨a_House_has, i_House_has, k_House_has⟩, D_House_has⟩), ⟨fun x hx => (by cases hx; exact ⟨L_House, ⟨a_House_owes, i_House_owes, k_House_owes⟩, D_House_owes⟩), ⟨fun x hx => (by cases hx; exact ⟨L_House, ⟨a_House_parcel, i_House_parcel, k_House_parcel⟩, D_House_parcel⟩), ⟨fun x hx => (by cases hx; exact ⟨L_House, ⟨a_House_came, i_House_came, k_House_came⟩, D_House_came⟩), ⟨fun x hx => (by cases hx; exact ⟨L_House, ⟨a_House_called, i_House_called, k_House_called⟩, D_House_called⟩), ⟨fun x hx => (by cases hx; exact ⟨L_House, ⟨a_House_move_k08, i_House_move_k08, k_House_move_k08⟩, D_House_move_k08⟩), ⟨fun x hx => (by cases hx; exact ⟨L_House, ⟨a_House_write, i_House_write, k_House_write⟩, D_House_write⟩), ⟨fun x hx => (by cases hx; exact ⟨L_House, ⟨a_House_sleep_k08, i_House_sleep_k08, k_House_sleep_k08⟩, D_House_sleep_k08⟩), ⟨fun x hx => (by cases hx; exact ⟨L_House, ⟨a_House_nudge, i_House_nudge, k_House_nudge⟩, D_House_nudge⟩), ⟨fun x hx => (by cases hx; exact ⟨L_Caller, ⟨a_Caller_begin, i_Caller_begin, k_Caller_begin⟩, D_Caller_begin⟩), ⟨fun x hx => (by cases hx; exact ⟨L_Caller, ⟨a_Caller_letter, i_Caller_letter, k_Caller_letter⟩, D_Caller_letter⟩), ⟨fun x hx => (by cases hx; exact ⟨L_Caller, ⟨a_Caller_came, i_Caller_came, k_Caller_came⟩, D_Caller_came⟩), ⟨fun x hx => (by cases hx; exact ⟨L_Caller, ⟨a_Caller_asking, i_Caller_asking, k_Caller_asking⟩, D_Caller_asking⟩), ⟨fun x hx => (by cases hx; exact ⟨L_Caller, ⟨a_Caller_answers, i_Caller_answers, k_Caller_answers⟩, D_Caller_answers⟩), ⟨fun x hx => (by cases hx; exact ⟨L_World, ⟨a_World_need_caller, i_World_need_caller, k_World_need_caller⟩, D_World_need_caller⟩), ⟨fun x hx => (by cases hx; exact ⟨L_World, ⟨a_World_need_house, i_World_need_house, k_World_need_house⟩, D_World_need_house⟩), ⟨fun x hx => (by cases hx; exact ⟨L_World, ⟨a_World_need_key, i_World_need_key, k_World_need_key⟩, D_World_need_key⟩), ⟨fun x hx => (by cases hx; exact ⟨L_World, ⟨a_World_need_place, i_World_need_place, k_World_need_place⟩, D_World_need_place⟩), ⟨fun x hx => (by cases hx; exact ⟨L_World, ⟨a_World_call, i_World_call, k_World_call⟩, D_World_call⟩), ⟨fun x hx => (by cases hx; exact ⟨L_World, ⟨a_World_again, i_World_again, k_World_again⟩, D_World_again⟩), ⟨fun x hx => (by cases hx; exact ⟨L_World, ⟨a_World_letters, i_World_letters, k_World_letters⟩, D_World_letters⟩), ⟨fun x hx => (by cases hx; exact ⟨L_World, ⟨a_World_brought, i_World_brought, k_World_brought⟩, D_World_brought⟩), ⟨fun x hx => (by cases hx; exact ⟨L_World, ⟨a_World_hand, i_World_hand, k_World_hand⟩, D_World_hand⟩), ⟨fun x hx => (by cases hx; exact ⟨L_World, ⟨a_World_twice, i_World_twice, k_World_twice⟩, D_World_twice⟩), ⟨fun x hx => (by cases hx; exact ⟨L_World, ⟨a_World_lose_k08, i_World_lose_k08, k_World_lose_k08⟩, D_World_lose_k08⟩), ⟨fun x hx => (by cases hx; exact ⟨L_World, ⟨a_World_home, i_World_home, k_World_home⟩, D_World_home⟩), ⟨fun x hx => (by cases hx; exact ⟨L_World, ⟨a_World_has, i_World_has, k_World_has⟩, D_World_has⟩), ⟨fun x hx => (by cases hx; exact ⟨L_World, ⟨a_World_move_k08, i_World_move_k08, k_World_move_k08⟩, D_World_move_k08⟩), ⟨fun x hx => (by cases hx; exact ⟨L_World, ⟨a_World_write, i_World_write, k_World_write⟩, D_World_write⟩), ⟨fun x hx => (by cases hx; exact ⟨L_World, ⟨a_World_sleep_k08, i_World_sleep_k08, k_World_sleep_k08⟩, D_World_sleep_k08⟩), ⟨fun x hx => (by cases hx; exact ⟨L_World, ⟨a_World_nudge, i_World_nudge, k_World_nudge⟩, D_World_nudge⟩), ⟨fun x hx => (by cases hx; exact ⟨L_World, ⟨a_World_ledger, i_World_ledger, k_World_ledger⟩, D_World_ledger⟩), ⟨fun x hx => (by cases hx; exact ⟨L_World, ⟨a_World_asking, i_World_asking, k_World_asking⟩, D_World_asking⟩), ⟨fun x hx => (by cases hx; exact ⟨L_World, ⟨a_World_answers, i_World_answers, k_World_answers⟩, D_World_answers⟩), ⟨fun x hx => (by cases hx; exact ⟨L_World, ⟨a_World_owes, i_World_owes, k_World_owes⟩, D_World_owes⟩), ⟨fun x hx => (by cases hx; exact ⟨L_World, ⟨a_World_is_settled, i_World_is_settled, k_World_is_settled⟩, D_World_is_settled⟩), ⟨fun x hx => (by cases hx; exact ⟨L_World, ⟨a_World_settle, i_World_settle, k_World_settle⟩, D_World_settle⟩), trivial⟩⟩⟩⟩⟩⟩⟩⟩⟩⟩⟩⟩⟩⟩⟩⟩⟩⟩⟩⟩⟩⟩⟩⟩⟩⟩⟩⟩⟩⟩⟩⟩⟩⟩⟩⟩⟩
  case z_blt =>
    refine look_all ?_
    exact ⟨PySem.W.mg_none_of X Gm z_len, ⟨PySem.W.mg_none_of X Gm z_list, ⟨PySem.W.mg_none_of X Gm z_tuple, ⟨PySem.W.mg_none_of X Gm z_dict, ⟨PySem.W.mg_none_of X Gm z_sorted, ⟨PySem.W.mg_none_of X Gm z_all, ⟨PySem.W.mg_none_of X Gm z_max, ⟨PySem.W.mg_none_of X Gm z_int, ⟨PySem.W.mg_none_of X Gm z_abs, trivial⟩⟩⟩⟩⟩⟩⟩⟩⟩
  case z_tys =>
    refine look_all ?_
    exact ⟨PySem.W.mg_none_of X Gm z_int, ⟨PySem.W.mg_none_of X Gm z_bool, ⟨PySem.W.mg_none_of X Gm z_str, ⟨PySem.W.mg_none_of X Gm z_tuple, ⟨PySem.W.mg_none_of X Gm z_list, trivial⟩⟩⟩⟩⟩
  case z_cons =>
    refine look_all ?_
    exact ⟨⟨fun i hi => (by cases hi; exact ⟨_, PySem.W.mg_of X Gm g_GREATEST, ⟨_, rfl⟩⟩), fun z hz => (by cases hz)⟩, ⟨⟨fun i hi => (by cases hi; exact ⟨_, PySem.W.mg_of X Gm g_MOST, ⟨_, rfl⟩⟩), fun z hz => (by cases hz)⟩, ⟨⟨fun i hi => (by cases hi; exact ⟨_, PySem.W.mg_of X Gm g_MOST_SIGNS, ⟨_, rfl⟩⟩), fun z hz => (by cases hz)⟩, ⟨⟨fun i hi => (by cases hi), fun z hz => (by cases hz; exact ⟨_, PySem.W.mg_of X Gm g_LETTERS, ⟨_, rfl⟩⟩)⟩, trivial⟩⟩⟩⟩
  case z_exs =>
    refine look_all ?_
    exact ⟨⟨PySem.W.mg_of X Gm aE_MoveError, kE_MoveError, bE_MoveError, tE_MoveError, xE_MoveError⟩, ⟨⟨PySem.W.mg_of X Gm aE_BadWorld, kE_BadWorld, bE_BadWorld, tE_BadWorld, xE_BadWorld⟩, ⟨⟨PySem.W.mg_of X Gm aE_NoCaller, kE_NoCaller, bE_NoCaller, tE_NoCaller, xE_NoCaller⟩, ⟨⟨PySem.W.mg_of X Gm aE_NoHouse, kE_NoHouse, bE_NoHouse, tE_NoHouse, xE_NoHouse⟩, ⟨⟨PySem.W.mg_of X Gm aE_NoKey, kE_NoKey, bE_NoKey, tE_NoKey, xE_NoKey⟩, ⟨⟨PySem.W.mg_of X Gm aE_BadWish, kE_BadWish, bE_BadWish, tE_BadWish, xE_BadWish⟩, ⟨⟨PySem.W.mg_of X Gm aE_Busy, kE_Busy, bE_Busy, tE_Busy, xE_Busy⟩, ⟨⟨PySem.W.mg_of X Gm aE_Idle, kE_Idle, bE_Idle, tE_Idle, xE_Idle⟩, ⟨⟨PySem.W.mg_of X Gm aE_NotHere, kE_NotHere, bE_NotHere, tE_NotHere, xE_NotHere⟩, ⟨⟨PySem.W.mg_of X Gm aE_NoLetter, kE_NoLetter, bE_NoLetter, tE_NoLetter, xE_NoLetter⟩, trivial⟩⟩⟩⟩⟩⟩⟩⟩⟩⟩
  case z_exn =>
    refine look_all ?_
    exact ⟨(by decide), ⟨(by decide), ⟨(by decide), ⟨(by decide), ⟨(by decide), ⟨(by decide), ⟨(by decide), ⟨(by decide), ⟨(by decide), ⟨(by decide), trivial⟩⟩⟩⟩⟩⟩⟩⟩⟩⟩
  case z_exq =>
    refine sub_all ?_
    exact ⟨⟨fun _ => ⟨⟨qg_BadWorld, qk_BadWorld, bE_BadWorld, qd_BadWorld, qa_BadWorld, q_get, q_takes, qm_BadWorld⟩, kit_own bE_MoveError qd_MoveError tE_MoveError qs_BadWorld_MoveError, fun _ => exm_own bE_MoveError qd_MoveError tE_MoveError qs_BadWorld_MoveError⟩, fun h => absurd h (by decide)⟩, ⟨⟨fun _ => ⟨⟨qg_BadWorld, qk_BadWorld, bE_BadWorld, qd_BadWorld, qa_BadWorld, q_get, q_takes, qm_BadWorld⟩, kit_own bE_BadWorld qd_BadWorld tE_BadWorld qs_BadWorld_BadWorld, fun _ => exm_own bE_BadWorld qd_BadWorld tE_BadWorld qs_BadWorld_BadWorld⟩, fun h => absurd h (by decide)⟩, ⟨⟨fun _ => ⟨⟨qg_BadWorld, qk_BadWorld, bE_BadWorld, qd_BadWorld, qa_BadWorld, q_get, q_takes, qm_BadWorld⟩, kit_val qs_BadWorld_ValueError, fun h => absurd rfl h⟩, fun h => absurd h (by decide)⟩, ⟨⟨fun _ => ⟨⟨qg_NoKey, qk_NoKey, bE_NoKey, qd_NoKey, qa_NoKey, q_get, q_takes, qm_NoKey⟩, kit_own bE_NoKey qd_NoKey tE_NoKey qs_NoKey_NoKey, fun _ => exm_own bE_NoKey qd_NoKey tE_NoKey qs_NoKey_NoKey⟩, fun h => absurd h (by decide)⟩, ⟨⟨fun h => absurd h (by decide), fun _ => kit_ownF bE_NoCaller qd_NoCaller tE_NoCaller qn_BadWorld_NoCaller qs_BadWorld_BadWorld⟩, ⟨⟨fun h => absurd h (by decide), fun _ => kit_ownF bE_NoHouse qd_NoHouse tE_NoHouse qn_BadWorld_NoHouse qs_BadWorld_BadWorld⟩, ⟨⟨fun h => absurd h (by decide), fun _ => kit_ownF bE_NoKey qd_NoKey tE_NoKey qn_BadWorld_NoKey qs_BadWorld_BadWorld⟩, ⟨⟨fun h => absurd h (by decide), fun _ => kit_ownF bE_BadWish qd_BadWish tE_BadWish qn_BadWorld_BadWish qs_BadWorld_BadWorld⟩, ⟨⟨fun h => absurd h (by decide), fun _ => kit_ownF bE_Busy qd_Busy tE_Busy qn_BadWorld_Busy qs_BadWorld_BadWorld⟩, ⟨⟨fun h => absurd h (by decide), fun _ => kit_ownF bE_Idle qd_Idle tE_Idle qn_BadWorld_Idle qs_BadWorld_BadWorld⟩, ⟨⟨fun h => absurd h (by decide), fun _ => kit_ownF bE_NotHere qd_NotHere tE_NotHere qn_BadWorld_NotHere qs_BadWorld_BadWorld⟩, ⟨⟨fun h => absurd h (by decide), fun _ => kit_ownF bE_NoLetter qd_NoLetter tE_NoLetter qn_BadWorld_NoLetter qs_BadWorld_BadWorld⟩, trivial⟩⟩⟩⟩⟩⟩⟩⟩⟩⟩⟩⟩
  case z_knd =>
    refine look_all ?_
    exact ⟨⟨p_l_kinds_k08, _, _, _, _, _, PySem.W.mg_of X Gm a_l_kinds_k08, F_l_kinds_k08, B_l_kinds_k08, sc_l_kinds_k08, ck_l_kinds_k08⟩, trivial⟩
theorem walk {l : PySem.W.OpenLaw} {q : Program} {loose : List Str} {XP' : (Str → Option Value) → Heap → Prop} {YP : World → Heap → Prop} {d : DefRec} {K : Params → PySem.W.Frag} (n : Nat) (hn : l.most = some 63) (hdf : d.params.defaults = []) (hr : Room (2 * n) callerA)
    (hY : ∀ (w : World) (h : Heap), YP w h → (K w.params).In h) (hd : d.name = "law")
    (main : ∀ ns : List Int, ns.length ≤ 63 → (∀ z ∈ ns, Builtin.Int.intBits z ≤ 1048576) → wCall T n f_law_k08 [.ro (ns.map .int)] (fun _ => none) (fun d _ => d = .bl true) (fun _ _ => False))
    (rows : ∀ (w : World) (mg : Str → Option Value) (fa : Addr) (h : Heap), (K w.params).In h → h.Ns mainGlobals mg → mg "law" = some (.ref fa) →
      ∃ A fd, RowF (K w.params) mg G A T ∧ A.fn f_law_k08 = fa ∧ (∀ (s : Shared) (u : Value), BindsTo s fd ⟨[u], []⟩ [("_law_script", u)]) ∧ (∃ qual st N, Fun (K w.params) "law" qual st fa fd ∧ L2.Binds (K w.params) fd ["_law_script"] [] ∧
        ∀ fn, T.fn f_law_k08 = some fn → FnScope N ["_law_script"] (defScope st) ∧ fn.np = 1 ∧ fn.ns = N.length ∧ cSs (cSt G N (defScope st) fE fS) (defBody st) = some fn.body)) :
    PySem.W.WalkO q loose XP' YP l.row.toRowW d [] (fun f vs => PySem.call f vs) :=
  law_end hn hdf hr hY (by rw [hd]; exact rows) main
end Rk08
end MH
open PySem PySem.W PyProof.Rows
set_option maxRecDepth 100000 in
set_option maxHeartbeats 0 in
theorem PySem.Challenge.cw_movehouse_k08_worlds_holds : PySem.Challenge.rw_movehouse_k08_worlds.Holds := by
  w_on; o_law; k_head; (case hw => w_witness2)
  k_fill
  refine MH.Rk08.walk (l := PySem.Challenge.rw_movehouse_k08_worlds) 20 rfl rfl ⟨rfl, by decide, by decide⟩ (fun w h Y => PySem.W.kIn_of Y) rfl (fun ns h1 h2 => MH.law_k08_ok (n := 12) ⟨⟨rfl, rfl, rfl, rfl, rfl, rfl, rfl, rfl, rfl⟩, ⟨rfl, rfl, rfl, by decide, rfl, rfl⟩, ⟨by decide, rfl, rfl, rfl, rfl, rfl, rfl, rfl, rfl⟩, rfl, rfl, rfl, rfl, rfl, rfl, rfl, rfl, rfl, rfl, rfl, rfl, rfl, rfl, rfl, rfl, rfl, rfl, rfl, rfl, rfl, rfl, rfl, rfl, rfl⟩ ⟨rfl, rfl, rfl, rfl, rfl, rfl, rfl, rfl, rfl, rfl, rfl, rfl, rfl, rfl, rfl, by decide, ⟨by decide, rfl, rfl, rfl, by decide⟩, rfl⟩ rfl (fun _ => rfl)) ?F
  case F =>
    intro w mg fa h KX Gm hmg
    refine' MH.Rk08.rows (l := PySem.Challenge.rw_movehouse_k08_worlds) (w := w) KX Gm hmg ?a_is_whole ?l_is_whole ?c_is_whole ?k_is_whole ?a_is_wish ?l_is_wish ?c_is_wish ?k_is_wish ?a_need_wish ?l_need_wish ?c_need_wish ?k_need_wish ?a_done ?l_done ?c_done ?k_done ?a_mark_of ?l_mark_of ?c_mark_of ?k_mark_of ?a_marked ?l_marked ?c_marked ?k_marked ?a_is_key ?l_is_key ?c_is_key ?k_is_key ?a_need_world ?l_need_world ?c_need_world ?k_need_world ?a_l_cell_at ?l_l_cell_at ?c_l_cell_at ?k_l_cell_at ?a_l_whole ?l_l_whole ?c_l_whole ?k_l_whole ?a_l_kinds_k08 ?l_l_kinds_k08 ?c_l_kinds_k08 ?k_l_kinds_k08 ?a_l_refused_k08 ?l_l_refused_k08 ?c_l_refused_k08 ?k_l_refused_k08 ?a_l_names ?l_l_names ?c_l_names ?k_l_names ?a_l_odd_k08 ?l_l_odd_k08 ?c_l_odd_k08 ?k_l_odd_k08 ?a_l_good ?l_l_good ?c_l_good ?k_l_good ?a_l_fresh ?l_l_fresh ?c_l_fresh ?k_l_fresh ?a_l_no_key ?l_l_no_key ?c_l_no_key ?k_l_no_key ?a_law_k08 ?l_law_k08 ?c_law_k08 ?k_law_k08 ?aC_House ?a_House_init ?i_House_init ?l_House_init ?c_House_init ?k_House_init ?a_House_has ?i_House_has ?l_House_has ?c_House_has ?k_House_has ?a_House_owes ?i_House_owes ?l_House_owes ?c_House_owes ?k_House_owes ?a_House_parcel ?i_House_parcel ?l_House_parcel ?c_House_parcel ?k_House_parcel ?a_House_came ?i_House_came ?l_House_came ?c_House_came ?k_House_came ?a_House_called ?i_House_called ?l_House_called ?c_House_called ?k_House_called ?a_House_move_k08 ?i_House_move_k08 ?l_House_move_k08 ?c_House_move_k08 ?k_House_move_k08 ?a_House_write ?i_House_write ?l_House_write ?c_House_write ?k_House_write ?a_House_sleep_k08 ?i_House_sleep_k08 ?l_House_sleep_k08 ?c_House_sleep_k08 ?k_House_sleep_k08 ?a_House_nudge ?i_House_nudge ?l_House_nudge ?c_House_nudge ?k_House_nudge ?pg_House ?hd_House ?po_House ?sa_House ?mk_House ?kc_House ?n_House_number ?n_House_names ?n_House_known ?n_House_written ?n_House_laid ?n_House_fresh ?aC_Caller ?a_Caller_init ?i_Caller_init ?l_Caller_init ?c_Caller_init ?k_Caller_init ?a_Caller_begin ?i_Caller_begin ?l_Caller_begin ?c_Caller_begin ?k_Caller_begin ?a_Caller_letter ?i_Caller_letter ?l_Caller_letter ?c_Caller_letter ?k_Caller_letter ?a_Caller_came ?i_Caller_came ?l_Caller_came ?c_Caller_came ?k_Caller_came ?a_Caller_asking ?i_Caller_asking ?l_Caller_asking ?c_Caller_asking ?k_Caller_asking ?a_Caller_answers ?i_Caller_answers ?l_Caller_answers ?c_Caller_answers ?k_Caller_answers ?pg_Caller ?hd_Caller ?po_Caller ?sa_Caller ?mk_Caller ?kc_Caller ?n_Caller_number ?n_Caller_made ?n_Caller_asked ?n_Caller_closed ?aC_World ?a_World_init ?i_World_init ?l_World_init ?c_World_init ?k_World_init ?a_World_need_caller ?i_World_need_caller ?l_World_need_caller ?c_World_need_caller ?k_World_need_caller ?a_World_need_house ?i_World_need_house ?l_World_need_house ?c_World_need_house ?k_World_need_house ?a_World_need_key ?i_World_need_key ?l_World_need_key ?c_World_need_key ?k_World_need_key ?a_World_need_place ?i_World_need_place ?l_World_need_place ?c_World_need_place ?k_World_need_place ?a_World_call ?i_World_call ?l_World_call ?c_World_call ?k_World_call ?a_World_again ?i_World_again ?l_World_again ?c_World_again ?k_World_again ?a_World_letters ?i_World_letters ?l_World_letters ?c_World_letters ?k_World_letters ?a_World_brought ?i_World_brought ?l_World_brought ?c_World_brought ?k_World_brought ?a_World_hand ?i_World_hand ?l_World_hand ?c_World_hand ?k_World_hand ?a_World_twice ?i_World_twice ?l_World_twice ?c_World_twice ?k_World_twice ?a_World_lose_k08 ?i_World_lose_k08 ?l_World_lose_k08 ?c_World_lose_k08 ?k_World_lose_k08 ?a_World_home ?i_World_home ?l_World_home ?c_World_home ?k_World_home ?a_World_has ?i_World_has ?l_World_has ?c_World_has ?k_World_has ?a_World_move_k08 ?i_World_move_k08 ?l_World_move_k08 ?c_World_move_k08 ?k_World_move_k08 ?a_World_write ?i_World_write ?l_World_write ?c_World_write ?k_World_write ?a_World_sleep_k08 ?i_World_sleep_k08 ?l_World_sleep_k08 ?c_World_sleep_k08 ?k_World_sleep_k08 ?a_World_nudge ?i_World_nudge ?l_World_nudge ?c_World_nudge ?k_World_nudge ?a_World_ledger ?i_World_ledger ?l_World_ledger ?c_World_ledger ?k_World_ledger ?a_World_asking ?i_World_asking ?l_World_asking ?c_World_asking ?k_World_asking ?a_World_answers ?i_World_answers ?l_World_answers ?c_World_answers ?k_World_answers ?a_World_owes ?i_World_owes ?l_World_owes ?c_World_owes ?k_World_owes ?a_World_is_settled ?i_World_is_settled ?l_World_is_settled ?c_World_is_settled ?k_World_is_settled ?a_World_settle ?i_World_settle ?l_World_settle ?c_World_settle ?k_World_settle ?pg_World ?hd_World ?po_World ?sa_World ?mk_World ?kc_World ?n_World_names ?n_World_houses ?n_World_callers ?n_World_under_way ?n_World_rows ?aE_MoveError ?kE_MoveError ?bE_MoveError ?tE_MoveError ?xE_MoveError ?aE_BadWorld ?kE_BadWorld ?bE_BadWorld ?tE_BadWorld ?xE_BadWorld ?aE_NoCaller ?kE_NoCaller ?bE_NoCaller ?tE_NoCaller ?xE_NoCaller ?aE_NoHouse ?kE_NoHouse ?bE_NoHouse ?tE_NoHouse ?xE_NoHouse ?aE_NoKey ?kE_NoKey ?bE_NoKey ?tE_NoKey ?xE_NoKey ?aE_BadWish ?kE_BadWish ?bE_BadWish ?tE_BadWish ?xE_BadWish ?aE_Busy ?kE_Busy ?bE_Busy ?tE_Busy ?xE_Busy ?aE_Idle ?kE_Idle ?bE_Idle ?tE_Idle ?xE_Idle ?aE_NotHere ?kE_NotHere ?bE_NotHere ?tE_NotHere ?xE_NotHere ?aE_NoLetter ?kE_NoLetter ?bE_NoLetter ?tE_NoLetter ?xE_NoLetter ?qg_BadWorld ?qk_BadWorld ?qa_BadWorld ?qm_BadWorld ?qg_NoKey ?qk_NoKey ?qa_NoKey ?qm_NoKey ?q_get ?q_takes ?qd_BadWorld ?qd_NoKey ?qd_MoveError ?qd_NoCaller ?qd_NoHouse ?qd_BadWish ?qd_Busy ?qd_Idle ?qd_NotHere ?qd_NoLetter ?qs_BadWorld_MoveError ?qs_BadWorld_BadWorld ?qs_BadWorld_ValueError ?qs_NoKey_NoKey ?qn_BadWorld_NoCaller ?qn_BadWorld_NoHouse ?qn_BadWorld_NoKey ?qn_BadWorld_BadWish ?qn_BadWorld_Busy ?qn_BadWorld_Idle ?qn_BadWorld_NotHere ?qn_BadWorld_NoLetter ?g_GREATEST ?g_MOST ?g_MOST_SIGNS ?g_LETTERS ?z_len ?z_list ?z_tuple ?z_dict ?z_sorted ?z_all ?z_max ?z_int ?z_abs ?z_isinstance ?z_range ?z_bool ?z_str ?z_ValueError ?z_KeyError
    (case a_is_whole => k_is); (case l_is_whole => k_is); (case c_is_whole => k_is); (case k_is_whole => k_is); (case a_is_wish => k_is); (case l_is_wish => k_is)
    (case c_is_wish => k_is); (case k_is_wish => k_is); (case a_need_wish => k_is); (case l_need_wish => k_is); (case c_need_wish => k_is); (case k_need_wish => k_is)
    (case a_done => k_is); (case l_done => k_is); (case c_done => k_is); (case k_done => k_is); (case a_mark_of => k_is); (case l_mark_of => k_is)
    (case c_mark_of => k_is); (case k_mark_of => k_is); (case a_marked => k_is); (case l_marked => k_is); (case c_marked => k_is); (case k_marked => k_is)
    (case a_is_key => k_is); (case l_is_key => k_is); (case c_is_key => k_is); (case k_is_key => k_is); (case a_need_world => k_is); (case l_need_world => k_is)
    (case c_need_world => k_is); (case k_need_world => k_is); (case a_l_cell_at => k_is); (case l_l_cell_at => k_is); (case c_l_cell_at => k_is); (case k_l_cell_at => k_is)
    (case a_l_whole => k_is); (case l_l_whole => k_is); (case c_l_whole => k_is); (case k_l_whole => k_is); (case a_l_kinds_k08 => k_is); (case l_l_kinds_k08 => k_is)
    (case c_l_kinds_k08 => k_is); (case k_l_kinds_k08 => k_is); (case a_l_refused_k08 => k_is); (case l_l_refused_k08 => k_is); (case c_l_refused_k08 => k_is); (case k_l_refused_k08 => k_is)
    (case a_l_names => k_is); (case l_l_names => k_is); (case c_l_names => k_is); (case k_l_names => k_is); (case a_l_odd_k08 => k_is); (case l_l_odd_k08 => k_is)
    (case c_l_odd_k08 => k_is); (case k_l_odd_k08 => k_is); (case a_l_good => k_is); (case l_l_good => k_is); (case c_l_good => k_is); (case k_l_good => k_is)
    (case a_l_fresh => k_is); (case l_l_fresh => k_is); (case c_l_fresh => k_is); (case k_l_fresh => k_is); (case a_l_no_key => k_is); (case l_l_no_key => k_is)
    (case c_l_no_key => k_is); (case k_l_no_key => k_is); (case a_law_k08 => k_is); (case l_law_k08 => k_is); (case c_law_k08 => k_is); (case k_law_k08 => k_is)
    (case aC_House => k_is); (case a_House_init => k_is); (case i_House_init => k_is); (case l_House_init => k_is); (case c_House_init => k_is); (case k_House_init => k_is)
    (case a_House_has => k_is); (case i_House_has => k_is); (case l_House_has => k_is); (case c_House_has => k_is); (case k_House_has => k_is); (case a_House_owes => k_is)
    (case i_House_owes => k_is); (case l_House_owes => k_is); (case c_House_owes => k_is); (case k_House_owes => k_is); (case a_House_parcel => k_is); (case i_House_parcel => k_is)
    (case l_House_parcel => k_is); (case c_House_parcel => k_is); (case k_House_parcel => k_is); (case a_House_came => k_is); (case i_House_came => k_is); (case l_House_came => k_is)
    (case c_House_came => k_is); (case k_House_came => k_is); (case a_House_called => k_is); (case i_House_called => k_is); (case l_House_called => k_is); (case c_House_called => k_is)
    (case k_House_called => k_is); (case a_House_move_k08 => k_is); (case i_House_move_k08 => k_is); (case l_House_move_k08 => k_is); (case c_House_move_k08 => k_is); (case k_House_move_k08 => k_is)
    (case a_House_write => k_is); (case i_House_write => k_is); (case l_House_write => k_is); (case c_House_write => k_is); (case k_House_write => k_is); (case a_House_sleep_k08 => k_is)
    (case i_House_sleep_k08 => k_is); (case l_House_sleep_k08 => k_is); (case c_House_sleep_k08 => k_is); (case k_House_sleep_k08 => k_is); (case a_House_nudge => k_is); (case i_House_nudge => k_is)
    (case l_House_nudge => k_is); (case c_House_nudge => k_is); (case k_House_nudge => k_is); (case pg_House => k_is); (case hd_House => k_is); (case po_House => k_is)
    (case sa_House => k_is); (case mk_House => k_is); (case kc_House => k_is); (case n_House_number => k_is); (case n_House_names => k_is); (case n_House_known => k_is)
    (case n_House_written => k_is); (case n_House_laid => k_is); (case n_House_fresh => k_is); (case aC_Caller => k_is); (case a_Caller_init => k_is); (case i_Caller_init => k_is)
    (case l_Caller_init => k_is); (case c_Caller_init => k_is); (case k_Caller_init => k_is); (case a_Caller_begin => k_is); (case i_Caller_begin => k_is); (case l_Caller_begin => k_is)
    (case c_Caller_begin => k_is); (case k_Caller_begin => k_is); (case a_Caller_letter => k_is); (case i_Caller_letter => k_is); (case l_Caller_letter => k_is); (case c_Caller_letter => k_is)
    (case k_Caller_letter => k_is); (case a_Caller_came => k_is); (case i_Caller_came => k_is); (case l_Caller_came => k_is); (case c_Caller_came => k_is); (case k_Caller_came => k_is)
    (case a_Caller_asking => k_is); (case i_Caller_asking => k_is); (case l_Caller_asking => k_is); (case c_Caller_asking => k_is); (case k_Caller_asking => k_is); (case a_Caller_answers => k_is)
    (case i_Caller_answers => k_is); (case l_Caller_answers => k_is); (case c_Caller_answers => k_is); (case k_Caller_answers => k_is); (case pg_Caller => k_is); (case hd_Caller => k_is)
    (case po_Caller => k_is); (case sa_Caller => k_is); (case mk_Caller => k_is); (case kc_Caller => k_is); (case n_Caller_number => k_is); (case n_Caller_made => k_is)
    (case n_Caller_asked => k_is); (case n_Caller_closed => k_is); (case aC_World => k_is); (case a_World_init => k_is); (case i_World_init => k_is); (case l_World_init => k_is)
    (case c_World_init => k_is); (case k_World_init => k_is); (case a_World_need_caller => k_is); (case i_World_need_caller => k_is); (case l_World_need_caller => k_is); (case c_World_need_caller => k_is)
    (case k_World_need_caller => k_is); (case a_World_need_house => k_is); (case i_World_need_house => k_is); (case l_World_need_house => k_is); (case c_World_need_house => k_is); (case k_World_need_house => k_is)
    (case a_World_need_key => k_is); (case i_World_need_key => k_is); (case l_World_need_key => k_is); (case c_World_need_key => k_is); (case k_World_need_key => k_is); (case a_World_need_place => k_is)
    (case i_World_need_place => k_is); (case l_World_need_place => k_is); (case c_World_need_place => k_is); (case k_World_need_place => k_is); (case a_World_call => k_is); (case i_World_call => k_is)
    (case l_World_call => k_is); (case c_World_call => k_is); (case k_World_call => k_is); (case a_World_again => k_is); (case i_World_again => k_is); (case l_World_again => k_is)
    (case c_World_again => k_is); (case k_World_again => k_is); (case a_World_letters => k_is); (case i_World_letters => k_is); (case l_World_letters => k_is); (case c_World_letters => k_is)
    (case k_World_letters => k_is); (case a_World_brought => k_is); (case i_World_brought => k_is); (case l_World_brought => k_is); (case c_World_brought => k_is); (case k_World_brought => k_is)
    (case a_World_hand => k_is); (case i_World_hand => k_is); (case l_World_hand => k_is); (case c_World_hand => k_is); (case k_World_hand => k_is); (case a_World_twice => k_is)
    (case i_World_twice => k_is); (case l_World_twice => k_is); (case c_World_twice => k_is); (case k_World_twice => k_is); (case a_World_lose_k08 => k_is); (case i_World_lose_k08 => k_is)
    (case l_World_lose_k08 => k_is); (case c_World_lose_k08 => k_is); (case k_World_lose_k08 => k_is); (case a_World_home => k_is); (case i_World_home => k_is); (case l_World_home => k_is)
    (case c_World_home => k_is); (case k_World_home => k_is); (case a_World_has => k_is); (case i_World_has => k_is); (case l_World_has => k_is); (case c_World_has => k_is)
    (case k_World_has => k_is); (case a_World_move_k08 => k_is); (case i_World_move_k08 => k_is); (case l_World_move_k08 => k_is); (case c_World_move_k08 => k_is); (case k_World_move_k08 => k_is)
    (case a_World_write => k_is); (case i_World_write => k_is); (case l_World_write => k_is); (case c_World_write => k_is); (case k_World_write => k_is); (case a_World_sleep_k08 => k_is)
    (case i_World_sleep_k08 => k_is); (case l_World_sleep_k08 => k_is); (case c_World_sleep_k08 => k_is); (case k_World_sleep_k08 => k_is); (case a_World_nudge => k_is); (case i_World_nudge => k_is)
    (case l_World_nudge => k_is); (case c_World_nudge => k_is); (case k_World_nudge => k_is); (case a_World_ledger => k_is); (case i_World_ledger => k_is); (case l_World_ledger => k_is)
    (case c_World_ledger => k_is); (case k_World_ledger => k_is); (case a_World_asking => k_is); (case i_World_asking => k_is); (case l_World_asking => k_is); (case c_World_asking => k_is)
    (case k_World_asking => k_is); (case a_World_answers => k_is); (case i_World_answers => k_is); (case l_World_answers => k_is); (case c_World_answers => k_is); (case k_World_answers => k_is)
    (case a_World_owes => k_is); (case i_World_owes => k_is); (case l_World_owes => k_is); (case c_World_owes => k_is); (case k_World_owes => k_is); (case a_World_is_settled => k_is)
    (case i_World_is_settled => k_is); (case l_World_is_settled => k_is); (case c_World_is_settled => k_is); (case k_World_is_settled => k_is); (case a_World_settle => k_is); (case i_World_settle => k_is)
    (case l_World_settle => k_is); (case c_World_settle => k_is); (case k_World_settle => k_is); (case pg_World => k_is); (case hd_World => k_is); (case po_World => k_is)
    (case sa_World => k_is); (case mk_World => k_is); (case kc_World => k_is); (case n_World_names => k_is); (case n_World_houses => k_is); (case n_World_callers => k_is)
    (case n_World_under_way => k_is); (case n_World_rows => k_is); (case aE_MoveError => k_is); (case kE_MoveError => k_is); (case bE_MoveError => k_is); (case tE_MoveError => k_is)
    (case xE_MoveError => k_exc); (case aE_BadWorld => k_is); (case kE_BadWorld => k_is); (case bE_BadWorld => k_is); (case tE_BadWorld => k_is); (case xE_BadWorld => k_exc)
    (case aE_NoCaller => k_is); (case kE_NoCaller => k_is); (case bE_NoCaller => k_is); (case tE_NoCaller => k_is); (case xE_NoCaller => k_exc); (case aE_NoHouse => k_is)
    (case kE_NoHouse => k_is); (case bE_NoHouse => k_is); (case tE_NoHouse => k_is); (case xE_NoHouse => k_exc); (case aE_NoKey => k_is); (case kE_NoKey => k_is)
    (case bE_NoKey => k_is); (case tE_NoKey => k_is); (case xE_NoKey => k_exc); (case aE_BadWish => k_is); (case kE_BadWish => k_is); (case bE_BadWish => k_is)
    (case tE_BadWish => k_is); (case xE_BadWish => k_exc); (case aE_Busy => k_is); (case kE_Busy => k_is); (case bE_Busy => k_is); (case tE_Busy => k_is)
    (case xE_Busy => k_exc); (case aE_Idle => k_is); (case kE_Idle => k_is); (case bE_Idle => k_is); (case tE_Idle => k_is); (case xE_Idle => k_exc)
    (case aE_NotHere => k_is); (case kE_NotHere => k_is); (case bE_NotHere => k_is); (case tE_NotHere => k_is); (case xE_NotHere => k_exc); (case aE_NoLetter => k_is)
    (case kE_NoLetter => k_is); (case bE_NoLetter => k_is); (case tE_NoLetter => k_is); (case xE_NoLetter => k_exc); (case qg_BadWorld => k_is); (case qk_BadWorld => k_is)
    (case qa_BadWorld => k_is); (case qm_BadWorld => k_is); (case qg_NoKey => k_is); (case qk_NoKey => k_is); (case qa_NoKey => k_is); (case qm_NoKey => k_is)
    (case q_get => k_is); (case q_takes => k_is); (case qd_BadWorld => k_is); (case qd_NoKey => k_is); (case qd_MoveError => k_is); (case qd_NoCaller => k_is)
    (case qd_NoHouse => k_is); (case qd_BadWish => k_is); (case qd_Busy => k_is); (case qd_Idle => k_is); (case qd_NotHere => k_is); (case qd_NoLetter => k_is)
    (case qs_BadWorld_MoveError => k_is); (case qs_BadWorld_BadWorld => k_is); (case qs_BadWorld_ValueError => k_is); (case qs_NoKey_NoKey => k_is); (case qn_BadWorld_NoCaller => k_is); (case qn_BadWorld_NoHouse => k_is)
    (case qn_BadWorld_NoKey => k_is); (case qn_BadWorld_BadWish => k_is); (case qn_BadWorld_Busy => k_is); (case qn_BadWorld_Idle => k_is); (case qn_BadWorld_NotHere => k_is); (case qn_BadWorld_NoLetter => k_is)
    (case g_GREATEST => k_is); (case g_MOST => k_is); (case g_MOST_SIGNS => k_is); (case g_LETTERS => k_is); (case z_len => k_is); (case z_list => k_is)
    (case z_tuple => k_is); (case z_dict => k_is); (case z_sorted => k_is); (case z_all => k_is); (case z_max => k_is); (case z_int => k_is)
    (case z_abs => k_is); (case z_isinstance => k_is); (case z_range => k_is); (case z_bool => k_is); (case z_str => k_is); (case z_ValueError => k_is)
    (case z_KeyError => k_is)
