import PyProof.Rows.All
import Wide.All
import OpenK.AllK
import Wide.FinOn
import HandS.ForMost
import KE.SortKeyHeap
import HandS.Lambda
import HandS.ExcValue
import HandS.CallLocal
import HandS.ExcIs
import HandS.Conv
import HandS.TupAny
import HandS.TupMul
import HandS.Style
import HandS.IsInst
import HandS.SortInts
import HandS.WordsDict
import HandS.TupLen
import HandS.More
import HandS.Walk
import HandS.ExcOwn
import HandS.SortKw
import HandS.Defaults
import HandS.Zip
import HandS.DictComp
import OpenK.KMore
import HandS.ExcSuper
import HandS.Head0
import HandS.Head1
import HandS.Head2
import HandS.HeadEnd
import HandS.HeadHook4
import HandS.HeadWalk
import HandS.Wide
import PySem.Challenge.RW_ringsandcuts_k01_whole_rings_and_cuts
set_option Elab.async false
set_option linter.all false
set_option maxRecDepth 100000
/-! E1: plain data, a small code language, its weakest preconditions over plain data. -/
namespace DP
open PySem

/-! ### data -/
/-- plain data; res: the law's draws; scr: the script; rng: a range object; exc: an error object; fn, cls, ty: a def, an own class, a built-in class as values; lam, thk: closures -/
inductive D where
  | non
  | bl (b : Bool)
  | int (i : Int)
  | str (x : Str)
  | tup (ds : List D)
  | lst (ds : List D)
  | dct (tk : Bool) (kvs : List (D × D))
  | rng (lo hi : Int)
  | exc (c : Nat) (fs : List (Str × D))
  | fn (k : Nat)
  | cls (k : Nat)
  | ty (n : String)
  | res
  | scr (ns : List Int)
  | lam (k : Nat)
  | thk (k : Nat) (env : List D)

/-- == of data -/
def D.eqq : D → D → Bool
  | .non, .non => true
  | .bl a, .bl b => a == b
  | .bl a, .int j => (if a then 1 else 0) == j
  | .int i, .bl b => i == (if b then 1 else 0)
  | .int i, .int j => i == j
  | .str x, .str y => x == y
  | .lst xs, .lst ys => eqs xs ys
  | .tup xs, .tup ys => eqs xs ys
  | _, _ => false
where
  eqs : List D → List D → Bool
  | [], [] => true
  | x :: xs, y :: ys => D.eqq x y && eqs xs ys
  | _, _ => false

/-- plain: None, bools, ints, texts, lists, tuples of such, at most n deep -/
def D.pln : D → Nat → Bool
  | .non, _ => true
  | .bl _, _ => true
  | .int _, _ => true
  | .str x, _ => PyData.strOk x
  | .tup ds, n => (match n with | 0 => false | n + 1 => plns ds n)
  | .lst ds, n => (match n with | 0 => false | n + 1 => plns ds n)
  | _, _ => false
where
  plns : List D → Nat → Bool
  | [], _ => true
  | x :: xs, n => D.pln x n && plns xs n
/-- nothing within can be changed -/
def D.imm : D → Bool
  | .lst _ => false
  | .dct _ _ => false
  | .rng _ _ => false
  | .scr _ => false
  | .thk _ _ => false
  | .lam _ => false
  | .tup ds => imms ds
  | _ => true
where
  imms : List D → Bool
  | [] => true
  | x :: xs => D.imm x && imms xs

/-! ### slots, states -/
/-- crd: how often the draws may still be asked; sh: a value that is not changed; ow: a list or dict that this slot alone holds; br (on the stack): the local of that number -/
inductive Slot where
  | emp
  | sh (d : D)
  | ow (d : D)
  | br (i : Nat)
  | crd (c : Nat)
/-- locals, stack (its top first) -/
structure St where
  l : List Slot
  k : List Slot
def lv (l : List Slot) (i : Nat) : Option D :=
  match l[i]? with
  | some (.sh d) => some d
  | some (.ow d) => some d
  | _ => none
def sv (l : List Slot) : Slot → Option D
  | .sh d => some d
  | .ow d => some d
  | .br i => lv l i
  | .emp => none
  | .crd _ => none
/-- the local's slot keeps its value, unchanged from now on -/
def frz1 (l : List Slot) (i : Nat) : List Slot :=
  match l[i]? with
  | some (.ow d) => l.set i (.sh d)
  | _ => l
def frz (l : List Slot) : List Slot → List Slot
  | [] => l
  | .br i :: r => frz (frz1 l i) r
  | _ :: r => frz l r
/-- the data of stack slots -/
def svs (l : List Slot) : List Slot → Option (List D)
  | [] => some []
  | x :: r => (sv l x).bind fun d => (svs l r).map fun ds => d :: ds
/-- none of these locals is borrowed on the stack -/
def nbrs : List Slot → List Nat → Bool
  | [], _ => true
  | .br i :: k, is => !is.contains i && nbrs k is
  | _ :: k, is => nbrs k is
def St.push (s : St) (x : Slot) : St := ⟨s.l, x :: s.k⟩
/-- the top n of the stack, the deepest first, as data -/
def St.args (s : St) (n : Nat) : Option (List D) := svs s.l (s.k.take n).reverse
def fsh (d : D) (fr : Bool) : Slot := if fr then .ow d else .sh d

/-! ### operations -/
inductive BinK where
  | add | sub | mul | fdiv | mod | pow | band | shl | shr
inductive CmpK where
  | eq | ne | lt | le | gt | ge | is | isnot | mem | nmem
inductive BiK where
  | len | tuple | list | sorted | min2 | max2 | minl | maxl | abs | int | sum | all | any | str | dict | listzip
inductive ItK where
  | seq | range1 | range2 | range3 | enum | zip | items | keys | values | rev | str
inductive MtK where
  | count | index | get | get1 | keys | values | items | join | split | startswith
def bigI (i : Int) : Prop := -(2 ^ 62) ≤ i ∧ i < 2 ^ 62
def rngD (lo hi : Int) : List D := (List.range (hi - lo).toNat).map fun (k : Nat) => D.int (lo + k)
def cutL {α : Type} (xs : List α) (lo hi : Option Int) : List α := (xs.drop (HT.sIx xs.length 0 lo)).take (HT.sIx xs.length xs.length hi - HT.sIx xs.length 0 lo)
def isInt? : D → Option Int
  | .int i => some i
  | _ => none
def isBl? : D → Option Bool
  | .bl b => some b
  | _ => none
def ints? : List D → Option (List Int)
  | [] => some []
  | .int i :: r => (ints? r).map fun l => i :: l
  | _ :: _ => none
def bls? : List D → Option (List Bool)
  | [] => some []
  | .bl i :: r => (bls? r).map fun l => i :: l
  | _ :: _ => none
/-- a op b -/
def binS : BinK → D → D → (D → Bool → Prop) → Prop
  | .add, .int i, .int j, Q => Q (.int (i + j)) false
  | .add, .str x, .str y, Q => x.length + y.length ≤ sizeLine ∧ Q (.str (x ++ y)) false
  | .add, .tup xs, .tup ys, Q => xs.length + ys.length ≤ sizeLine ∧ Q (.tup (xs ++ ys)) false
  | .add, .lst xs, .lst ys, Q => xs.length + ys.length ≤ sizeLine ∧ Q (.lst (xs ++ ys)) true
  | .sub, .int i, .int j, Q => Q (.int (i - j)) false
  | .mul, .int i, .int j, Q => L2.CMul i j ∧ Q (.int (i * j)) false
  | .mul, .tup xs, .int k, Q => xs ≠ [] ∧ 2 ≤ k ∧ k ≤ 1000 ∧ xs.length ≤ 1000 ∧ Q (.tup (List.replicate k.toNat xs).flatten) false
  | .mul, .lst xs, .int k, Q => -(2 ^ 62) ≤ k ∧ k < 2 ^ 62 ∧ xs.length * k.toNat ≤ sizeLine ∧ Q (.lst (List.replicate k.toNat xs).flatten) true
  | .fdiv, .int i, .int j, Q => L2.CDivN i j ∧ Q (.int (i.fdiv j)) false
  | .mod, .int i, .int j, Q => j ≠ 0 ∧ Q (.int (i.fmod j)) false
  | .pow, .int i, .int j, Q => L2.CPow i j ∧ Q (.int (i ^ j.toNat)) false
  | .band, .int i, .int j, Q => Q (.int (Builtin.bitAnd i j)) false
  | .shl, .int i, .int j, Q => L2.CPow i j ∧ Q (.int (i * 2 ^ j.toNat)) false
  | .shr, .int i, .int j, Q => 0 ≤ j ∧ Q (.int (i / 2 ^ j.toNat)) false
  | _, _, _, _ => False
def D.isNon : D → Bool
  | .non => true
  | _ => false
/-- a in b -/
def memD (x : D) (ds : List D) : Bool := ds.any fun y => D.eqq y x
def cmpS : CmpK → D → D → (Bool → Prop) → Prop
  | .eq, x, y, Q => x.pln 60 = true ∧ y.pln 60 = true ∧ Q (D.eqq x y)
  | .ne, x, y, Q => x.pln 60 = true ∧ y.pln 60 = true ∧ Q (!D.eqq x y)
  | .lt, .int i, .int j, Q => Q (decide (i < j))
  | .lt, .tup xs, .tup ys, Q => ∃ ns ms, ints? xs = some ns ∧ ints? ys = some ms ∧ Q (HT.lexLt ns ms)
  | .le, .int i, .int j, Q => Q (decide (i ≤ j))
  | .gt, .int i, .int j, Q => Q (decide (j < i))
  | .ge, .int i, .int j, Q => Q (decide (j ≤ i))
  | .is, x, .non, Q => Q x.isNon
  | .isnot, x, .non, Q => Q (!x.isNon)
  | .is, .bl a, .bl b, Q => Q (a == b)
  | .isnot, .bl a, .bl b, Q => Q (a != b)
  | .mem, x, .tup ds, Q => x.pln 60 = true ∧ (D.tup ds).pln 60 = true ∧ Q (memD x ds)
  | .nmem, x, .tup ds, Q => x.pln 60 = true ∧ (D.tup ds).pln 60 = true ∧ Q (!memD x ds)
  | .mem, x, .lst ds, Q => x.pln 60 = true ∧ (D.lst ds).pln 60 = true ∧ Q (memD x ds)
  | .nmem, x, .lst ds, Q => x.pln 60 = true ∧ (D.lst ds).pln 60 = true ∧ Q (!memD x ds)
  | _, _, _, _ => False
/-- a[i] -/
def idxS : D → D → (D → Prop) → Prop
  | .tup ds, .int i, Q => ∃ d, L2.atI ds i = some d ∧ Q d
  | .lst ds, .int i, Q => ∃ d, L2.atI ds i = some d ∧ Q d
  | _, _, _ => False
/-- a[lo:hi] -/
def slcS : D → Option Int → Option Int → (D → Bool → Prop) → Prop
  | .tup ds, lo, hi, Q => Q (.tup (cutL ds lo hi)) false
  | .lst ds, lo, hi, Q => Q (.lst (cutL ds lo hi)) true
  | _, _, _, _ => False
/-- the order of data: ints, texts, tuples of such, from the left -/
def ltD : D → D → Bool
  | .int i, .int j => decide (i < j)
  | .str x, .str y => decide (x.cps.toList < y.cps.toList)
  | .tup xs, .tup ys => ltDs xs ys
  | _, _ => false
where
  ltDs : List D → List D → Bool
  | [], [] => false
  | [], _ :: _ => true
  | _ :: _, [] => false
  | x :: xs, y :: ys => ltD x y || (D.eqq x y && ltDs xs ys)
/-- what may be sorted together -/
def kinD : D → D → Bool
  | .int _, .int _ => true
  | .str _, .str _ => true
  | .tup xs, .tup ys => kinDs xs ys
  | _, _ => false
where
  kinDs : List D → List D → Bool
  | [], _ => true
  | _, [] => true
  | x :: xs, y :: ys => kinD x y && kinDs xs ys
def keyOf : D → Option L2.Key
  | .int i => some (.inl i)
  | .str x => some (.inr x)
  | _ => none
/-- in its place, or at the end -/
def putD (kvs : List (D × D)) (k v : D) : List (D × D) := if (kvs.any fun kv => decide (keyOf kv.1 = keyOf k)) = true then kvs.map (fun kv => if keyOf kv.1 = keyOf k then (kv.1, v) else kv) else kvs ++ [(k, v)]
def biS : BiK → List D → (D → Bool → Prop) → Prop
  | .len, [.tup ds], Q => Q (.int ds.length) false
  | .len, [.lst ds], Q => Q (.int ds.length) false
  | .len, [.dct _ kvs], Q => Q (.int kvs.length) false
  | .len, [.scr ns], Q => Q (.int ns.length) false
  | .len, [.str x], Q => x.length ≤ sizeLine ∧ Q (.int x.length) false
  | .tuple, [.tup ds], Q => Q (.tup ds) false
  | .tuple, [.lst ds], Q => Q (.tup ds) false
  | .list, [.tup ds], Q => Q (.lst ds) true
  | .list, [.lst ds], Q => Q (.lst ds) true
  | .min2, [.int i, .int j], Q => Q (.int (if j < i then j else i)) false
  | .max2, [.int i, .int j], Q => Q (.int (if j > i then j else i)) false
  | .abs, [.int i], Q => Q (.int (if i < 0 then -i else i)) false
  | .int, [.int i], Q => Q (.int i) false
  | .int, [.bl b], Q => Q (.int (if b then 1 else 0)) false
  | .all, [.lst ds], Q => ∃ bs, bls? ds = some bs ∧ Q (.bl (bs.all id)) false
  | .any, [.lst ds], Q => ∃ bs, bls? ds = some bs ∧ Q (.bl (bs.any id)) false
  | .sum, [.lst ds], Q => ∃ ns, ints? ds = some ns ∧ Q (.int ns.sum) false
  | .list, [.dct false kvs], Q => Q (.lst (kvs.map (·.1))) true
  | .dict, [.lst ds], Q => ∃ kvs : List (D × D), ds = kvs.map (fun p => .tup [p.1, p.2]) ∧ (∀ p ∈ kvs, (keyOf p.1).isSome = true) ∧ Q (.dct false (kvs.foldl (fun a p => putD a p.1 p.2) [])) true
  | .sorted, [.dct false kvs], Q => ∃ ns, ints? (kvs.map (·.1)) = some ns ∧ ns.length < 64 ∧ ∀ ms : List Int, ms.Perm ns → ms.Pairwise (· ≤ ·) → Q (.lst (ms.map D.int)) true
  | .sorted, [.lst ds], Q => ∃ ns, ints? ds = some ns ∧ ∀ ms : List Int, ms.Perm ns → ms.Pairwise (· ≤ ·) → Q (.lst (ms.map D.int)) true
  | _, _, _ => False
/-- list(range(..)), tuple(range(..)) -/
def rglS (t : Bool) (a b : Int) (Q : D → Bool → Prop) : Prop := bigI a ∧ bigI b ∧ (b - a).toNat ≤ 16777216 ∧ (if t then Q (.tup (rngD a b)) false else Q (.lst (rngD a b)) true)
/-- what a loop walks: the condition, the items -/
def itX : ItK → List D → Option (Prop × List D)
  | .seq, [.tup ds] => some (True, ds)
  | .seq, [.lst ds] => some (True, ds)
  | .zip, [.tup xs, .tup ys] => some (True, (xs.zip ys).map fun p => D.tup [p.1, p.2])
  | .zip, [.lst xs, .lst ys] => some (True, (xs.zip ys).map fun p => D.tup [p.1, p.2])
  | .range1, [.int n] => some (bigI n, rngD 0 n)
  | .range2, [.int a, .int b] => some (bigI a ∧ bigI b, rngD a b)
  | _, _ => none
def itR (k : ItK) (ds : List D) (Q : List D → Prop) : Prop := ∃ c xs, itX k ds = some (c, xs) ∧ c ∧ Q xs

/-! ### code -/
/-- targets -/
inductive T where
  | name (i : Nat)
  | tup (r : T)
  | nil
  | cons (a r : T)
def T.names : T → List Nat
  | .name i => [i]
  | .tup r => r.names
  | .nil => []
  | .cons a r => a.names ++ r.names
inductive E where
  | nil
  | cons (a r : E)
  | var (i : Nat)
  | lit (d : D)
  | fnv (k : Nat)
  | clv (k : Nat)
  | tyv (n : String)
  | cst (k : Nat)
  | neg (a : E)
  | not (a : E)
  | bin (k : BinK) (a b : E)
  | cmp (k : CmpK) (a b : E)
  | chain (k k' : CmpK) (a b c : E)
  | and (a b : E)
  | or (a b : E)
  | ite (c a b : E)
  | tup (n : Nat) (es : E)
  | lst (n : Nat) (es : E)
  | idx (a i : E)
  | slc (a lo hi : E)
  | call (f n : Nat) (es : E)
  | callk (f n : Nat) (perm : List Nat) (es : E)
  | bi (k : BiK) (n : Nat) (es : E)
  | rgl1 (t : Bool) (a : E)
  | rgl2 (t : Bool) (a b : E)
  | isi (a t : E)
  | isiT (a : E) (ns : List String)
  | lc (own : List Nat) (tg : T) (it : ItK) (n : Nat) (src : E) (hc : Bool) (c elt : E)
  | lcb (own : List Nat) (tg : T) (i : Nat) (hc : Bool) (c elt : E)
  | dc (own : List Nat) (tg : T) (it : ItK) (n : Nat) (src : E) (hc : Bool) (c key val : E)
  | append (i : Nat) (a : E)
  | extend (i : Nat) (a : E)
  | pop (i : Nat)
  | popAt (i : Nat) (a : E)
  | srt (w : Option Nat) (a : E)
  | edct
  | ctch (g : Nat) (loc : Bool) (h : Nat) (is : List Nat)
inductive S where
  | skip
  | seq (a b : S)
  | ex (e : E)
  | set (i : Nat) (e : E)
  | setT (t : T) (e : E)
  | par (is : List Nat) (es : E)
  | ite (c : E) (a b : S)
  | forr (it : ItK) (n : Nat) (src : E) (tg : T) (body : S)
  | whl (c : E) (body : S)
  | ret (e : E)
  | retn
  | brk
  | cont
  | raise (c : Nat) (e : E)
  | never

/-- keywords alone: their values in the parameters' order -/
def permL {α : Type} (perm : List Nat) (xs : List α) : List α := perm.filterMap fun i => xs[i]?

/-! ### weakest preconditions -/
/-- a def's promise: of arguments; the answer and whether it is new; the error -/
abbrev FSpec := List D → (D → Bool → Prop) → (D → Prop) → Prop
structure Ctx where
  fs : Nat → FSpec
  cost : Nat → Nat
  sub : Nat → Nat → Bool
  cst : Nat → D
  fld : Nat → Option Str
  web : Nat → Bool
  hd : Nat → Option Nat
/-- the credit in the last place pays q -/
def payR (q : Nat) : List Slot → (List Slot → Prop) → Prop
  | [], _ => False
  | [.crd c], P => q ≤ c ∧ P [.crd (c - q)]
  | x :: l, P => payR q l fun l' => P (x :: l')
def PY (q : Nat) (l : List Slot) (P : List Slot → Prop) : Prop := if q = 0 then P l else payR q l P
def asgn : T → D ⊕ List D → List Slot → Option (List Slot)
  | .name i, .inl d, l => some (l.set i (.sh d))
  | .tup r, .inl (.tup ds), l => asgn r (.inr ds) l
  | .nil, .inr [], l => some l
  | .cons a r, .inr (d :: ds), l => (asgn a (.inl d) l).bind fun l1 => asgn r (.inr ds) l1
  | _, _, _ => none
/-- one loop over items -/
def wcomp (G : D → St → (St → Prop) → Prop) : List D → St → (St → Prop) → Prop
  | [], s, Q => Q s
  | x :: xs, s, Q => G x s fun s1 => wcomp G xs s1 Q
def emps (l : List Slot) : List Nat → List Slot
  | [] => l
  | i :: r => (emps l r).set i .emp
/-- the slots of a comprehension's own names, kept on the stack meanwhile -/
def hids (l : List Slot) : List Nat → List Slot
  | [] => []
  | i :: r => (l[i]?).getD .emp :: hids l r
def unhid (l : List Slot) : List Nat → List Slot → List Slot
  | i :: r, x :: k => (unhid l r k).set i x
  | _, _ => l
def St.top (s : St) (Q : D → St → Prop) : Prop :=
  match s.k with
  | x :: k => ∃ d, sv s.l x = some d ∧ Q d ⟨s.l, k⟩
  | [] => False
def St.topB (s : St) (Q : Bool → St → Prop) : Prop := s.top fun d s1 => ∃ b, d = .bl b ∧ Q b s1
/-- the accumulator below the top takes the top -/
def St.acc (s : St) (Q : St → Prop) : Prop :=
  match s.k with
  | x :: .ow (.lst ds) :: k => ∃ d, sv s.l x = some d ∧ ds.length < sizeLine ∧ Q ⟨frz s.l [x], .ow (.lst (ds ++ [d])) :: k⟩
  | _ => False
/-- the dict below a key and a value takes them -/
def St.accD (s : St) (Q : St → Prop) : Prop :=
  match s.k with
  | v :: x :: .ow (.dct false kvs) :: k => ∃ dx dv, sv s.l x = some dx ∧ (keyOf dx).isSome = true ∧ sv s.l v = some dv ∧ kvs.length < sizeLine ∧ Q ⟨frz s.l [v, x], .ow (.dct false (putD kvs dx dv)) :: k⟩
  | _ => False
/-- the types that isinstance is asked of -/
def knownTy (n : String) : Bool := n == "int" || n == "bool" || n == "str" || n == "tuple" || n == "list" || n == "dict"
def tyIs : D → Option String
  | .non => some "NoneType"
  | .bl _ => some "bool"
  | .int _ => some "int"
  | .str _ => some "str"
  | .tup _ => some "tuple"
  | .lst _ => some "list"
  | .dct _ _ => some "dict"
  | _ => none
/-- isinstance -/
def isiB (C : Ctx) : D → D → Option Bool
  | .exc c _, .cls k => some (C.sub c k)
  | .non, .cls _ => some false
  | x, .ty n => (tyIs x).bind fun m => if knownTy n then some (m == n || (m == "bool" && n == "int")) else none
  | _, _ => none
def isiBs (C : Ctx) (x : D) : List D → Option Bool
  | [] => some false
  | y :: ys => (isiB C x y).bind fun b => if b then some true else isiBs C x ys
def isiS (C : Ctx) (x y : D) (Q : Bool → Prop) : Prop := ∃ b, isiB C x y = some b ∧ Q b
def isiTS (C : Ctx) (x : D) (ns : List String) (Q : Bool → Prop) : Prop := ∃ b, isiBs C x (ns.map .ty) = some b ∧ Q b
/-- a part of a slice: lit .non where it is left out -/
def notNone : E → Bool
  | .lit .non => false
  | _ => true
def wprt (nn : Bool) (F : St → (St → Prop) → Prop) (s : St) (K : Option Int → St → Prop) : Prop :=
  if nn then F s fun s2 => s2.top fun d s3 => ∃ i, d = .int i ∧ K (some i) s3 else K none s
/-- the walked things on the stack are not changed from now on -/
def St.shd (s : St) (n : Nat) (ds : List D) : St := ⟨frz s.l (s.k.take n), ds.reverse.map Slot.sh ++ s.k.drop n⟩
/-- a lot: a tuple of ints; by how many and then by which -/
def tupI (b : List Int) : D := .tup (b.map .int)
def sizeK (b : List Int) : PyData := .tuple [.int b.length, .tuple (b.map .int)]
def sortK (bs : List (List Int)) : List (List Int) := bs.mergeSort (PySem.W.dataLe false sizeK)
def shs (l : List Slot) : List Nat → Option (List D)
  | [] => some []
  | i :: r => match l[i]? with
    | some (.sh d) => (shs l r).map fun ds => d :: ds
    | _ => none
def we (C : Ctx) : E → St → (St → Prop) → (D → St → Prop) → Prop
  | .nil, s, Q, _ => Q s
  | .cons a r, s, Q, X => we C a s (fun s1 => we C r s1 Q X) X
  | .var i, s, Q, _ =>
    match s.l[i]? with
    | some (.sh d) => Q (s.push (.sh d))
    | some (.ow _) => Q (s.push (.br i))
    | _ => False
  | .lit d, s, Q, _ => Q (s.push (.sh d))
  | .fnv k, s, Q, _ => Q (s.push (.sh (.fn k)))
  | .clv k, s, Q, _ => Q (s.push (.sh (.cls k)))
  | .tyv n, s, Q, _ => Q (s.push (.sh (.ty n)))
  | .cst k, s, Q, _ => Q (s.push (.sh (C.cst k)))
  | .neg a, s, Q, X => we C a s (fun s1 => s1.top fun d s2 => ∃ i, d = .int i ∧ Q (s2.push (.sh (.int (-i))))) X
  | .not a, s, Q, X => we C a s (fun s1 => s1.topB fun b s2 => Q (s2.push (.sh (.bl (!b))))) X
  | .bin k a b, s, Q, X => we C a s (fun s1 => we C b s1 (fun s2 => s2.top fun y s3 => s3.top fun x s4 => binS k x y fun d fr => Q (s4.push (fsh d fr))) X) X
  | .cmp k a b, s, Q, X => we C a s (fun s1 => we C b s1 (fun s2 => s2.top fun y s3 => s3.top fun x s4 => cmpS k x y fun r => Q (s4.push (.sh (.bl r)))) X) X
  | .chain k k' a b c, s, Q, X => we C a s (fun s1 => we C b s1 (fun s2 => s2.top fun y s3 => s3.top fun x s4 => y.imm = true ∧ cmpS k x y fun r =>
      if r then we C c (s4.push (.sh y)) (fun s5 => s5.top fun z s6 => s6.top fun y' s7 => cmpS k' y' z fun r' => Q (s7.push (.sh (.bl r')))) X else Q (s4.push (.sh (.bl false)))) X) X
  | .and a b, s, Q, X => we C a s (fun s1 => s1.topB fun r s2 => if r then we C b s2 Q X else Q (s2.push (.sh (.bl false)))) X
  | .or a b, s, Q, X => we C a s (fun s1 => s1.topB fun r s2 => if r then Q (s2.push (.sh (.bl true))) else we C b s2 Q X) X
  | .ite c a b, s, Q, X => we C c s (fun s1 => s1.topB fun r s2 => if r then we C a s2 Q X else we C b s2 Q X) X
  | .tup n es, s, Q, X => we C es s (fun s1 => ∃ ds, s1.args n = some ds ∧ ds.length = n ∧ n ≤ sizeLine ∧ Q ⟨frz s1.l (s1.k.take n), .sh (.tup ds) :: s1.k.drop n⟩) X
  | .lst n es, s, Q, X => we C es s (fun s1 => ∃ ds, s1.args n = some ds ∧ ds.length = n ∧ n ≤ sizeLine ∧ Q ⟨frz s1.l (s1.k.take n), .ow (.lst ds) :: s1.k.drop n⟩) X
  | .idx a i, s, Q, X => we C a s (fun s1 => we C i s1 (fun s2 => s2.top fun y s3 => s3.top fun x s4 => idxS x y fun d => Q (s4.push (.sh d))) X) X
  | .slc a lo hi, s, Q, X => we C a s (fun s1 => wprt (notNone lo) (fun s Q => we C lo s Q X) s1 fun i s2 => wprt (notNone hi) (fun s Q => we C hi s Q X) s2 fun j s3 => s3.top fun x s6 =>
      slcS x i j fun d fr => Q (s6.push (fsh d fr))) X
  | .call f n es, s, Q, X => we C es s (fun s1 => ∃ ds, s1.args n = some ds ∧ ds.length = n ∧ PY (C.cost f) s1.l fun l' =>
      C.fs f ds (fun d fr => if d.imm = true then Q ⟨l', fsh d fr :: s1.k.drop n⟩ else Q ⟨frz l' (s1.k.take n), fsh d fr :: s1.k.drop n⟩) (fun x => X x ⟨l', s1.k⟩)) X
  | .callk f n perm es, s, Q, X => we C es s (fun s1 => ∃ ds, s1.args n = some ds ∧ ds.length = n ∧ (permL perm ds).length = n ∧ C.cost f = 0 ∧
      C.fs f (permL perm ds) (fun d fr => if d.imm = true then Q ⟨s1.l, fsh d fr :: s1.k.drop n⟩ else Q ⟨frz s1.l (s1.k.take n), fsh d fr :: s1.k.drop n⟩) (fun x => X x s1)) X
  | .bi k n es, s, Q, X => we C es s (fun s1 => ∃ ds, s1.args n = some ds ∧ ds.length = n ∧ biS k ds fun d fr => Q ⟨s1.l, fsh d fr :: s1.k.drop n⟩) X
  | .rgl1 t a, s, Q, X => we C a s (fun s1 => s1.top fun d s2 => ∃ n, d = .int n ∧ rglS t 0 n fun d fr => Q (s2.push (fsh d fr))) X
  | .rgl2 t a b, s, Q, X => we C a s (fun s1 => we C b s1 (fun s2 => s2.top fun y s3 => s3.top fun x s4 => ∃ m n, x = .int m ∧ y = .int n ∧ rglS t m n fun d fr => Q (s4.push (fsh d fr))) X) X
  | .isi a t, s, Q, X => we C a s (fun s1 => we C t s1 (fun s2 => s2.top fun y s3 => s3.top fun x s4 => isiS C x y fun r => Q (s4.push (.sh (.bl r)))) X) X
  | .isiT a ns, s, Q, X => we C a s (fun s1 => s1.top fun x s2 => isiTS C x ns fun r => Q (s2.push (.sh (.bl r)))) X
  | .lc own tg it n src hc c elt, s, Q, X => we C src s (fun s1 => ∃ ds, s1.args n = some ds ∧ ds.length = n ∧ itR it ds fun xs =>
      nbrs (s1.shd n ds).k own = true ∧ tg.names.all (fun i => own.contains i) = true ∧ wcomp (fun x s2 Q2 => (∃ as, s2.k = .ow (.lst as) :: (hids (s1.shd n ds).l own ++ (s1.shd n ds).k)) ∧ ∃ l, asgn tg (.inl x) (emps s2.l own) = some l ∧
        if hc then we C c ⟨l, s2.k⟩ (fun s3 => s3.topB fun b s3 => if b then we C elt s3 (fun s4 => s4.acc fun s5 => Q2 ⟨emps s5.l own, s5.k⟩) (fun _ _ => False) else Q2 ⟨emps s3.l own, s3.k⟩) (fun _ _ => False)
        else we C elt ⟨l, s2.k⟩ (fun s4 => s4.acc fun s5 => Q2 ⟨emps s5.l own, s5.k⟩) (fun _ _ => False))
        xs ⟨emps (s1.shd n ds).l own, .ow (.lst []) :: (hids (s1.shd n ds).l own ++ (s1.shd n ds).k)⟩
        (fun s6 => ∃ as, s6.k = .ow (.lst as) :: (hids (s1.shd n ds).l own ++ (s1.shd n ds).k) ∧ Q ⟨unhid s6.l own (hids (s1.shd n ds).l own), .ow (.lst as) :: s1.k.drop n⟩)) X
  | .lcb own tg i hc c elt, s, Q, _ => ∃ xs, s.l[i]? = some (.ow (.lst xs)) ∧ own.contains i = false ∧ nbrs s.k own = true ∧ tg.names.all (fun i => own.contains i) = true ∧
      wcomp (fun x s2 Q2 => ((∃ as, s2.k = .ow (.lst as) :: (hids s.l own ++ (.br i :: s.k))) ∧ s2.l[i]? = some (.ow (.lst xs))) ∧ ∃ l, asgn tg (.inl x) (emps s2.l own) = some l ∧
        if hc then we C c ⟨l, s2.k⟩ (fun s3 => s3.topB fun b s3 => if b then we C elt s3 (fun s4 => s4.acc fun s5 => Q2 ⟨emps s5.l own, s5.k⟩) (fun _ _ => False) else Q2 ⟨emps s3.l own, s3.k⟩) (fun _ _ => False)
        else we C elt ⟨l, s2.k⟩ (fun s4 => s4.acc fun s5 => Q2 ⟨emps s5.l own, s5.k⟩) (fun _ _ => False))
        xs ⟨emps s.l own, .ow (.lst []) :: (hids s.l own ++ (.br i :: s.k))⟩
        (fun s6 => ∃ as, (s6.k = .ow (.lst as) :: (hids s.l own ++ (.br i :: s.k)) ∧ s6.l[i]? = some (.ow (.lst xs))) ∧ Q ⟨unhid s6.l own (hids s.l own), .ow (.lst as) :: s.k⟩)
  | .dc own tg it n src hc c key val, s, Q, X => we C src s (fun s1 => ∃ ds, s1.args n = some ds ∧ ds.length = n ∧ itR it ds fun xs =>
      nbrs (s1.shd n ds).k own = true ∧ tg.names.all (fun i => own.contains i) = true ∧ wcomp (fun x s2 Q2 => (∃ as, s2.k = .ow (.dct false as) :: (hids (s1.shd n ds).l own ++ (s1.shd n ds).k)) ∧ ∃ l, asgn tg (.inl x) (emps s2.l own) = some l ∧
        if hc then we C c ⟨l, s2.k⟩ (fun s3 => s3.topB fun b s3 => if b then we C key s3 (fun s4 => we C val s4 (fun s5 => s5.accD fun s6 => Q2 ⟨emps s6.l own, s6.k⟩) (fun _ _ => False)) (fun _ _ => False) else Q2 ⟨emps s3.l own, s3.k⟩) (fun _ _ => False)
        else we C key ⟨l, s2.k⟩ (fun s4 => we C val s4 (fun s5 => s5.accD fun s6 => Q2 ⟨emps s6.l own, s6.k⟩) (fun _ _ => False)) (fun _ _ => False))
        xs ⟨emps (s1.shd n ds).l own, .ow (.dct false []) :: (hids (s1.shd n ds).l own ++ (s1.shd n ds).k)⟩
        (fun s6 => ∃ as, s6.k = .ow (.dct false as) :: (hids (s1.shd n ds).l own ++ (s1.shd n ds).k) ∧ Q ⟨unhid s6.l own (hids (s1.shd n ds).l own), .ow (.dct false as) :: s1.k.drop n⟩)) X
  | .append i a, s, Q, X => (∃ ds0, s.l[i]? = some (.ow (.lst ds0))) ∧ we C a s (fun s1 => s1.top fun d s2 => ∃ ds, (frz s1.l (s1.k.take 1))[i]? = some (.ow (.lst ds)) ∧ ds.length < sizeLine ∧ Q ⟨(frz s1.l (s1.k.take 1)).set i (.ow (.lst (ds ++ [d]))), .sh .non :: s2.k⟩) X
  | .extend i a, s, Q, X => (∃ ds0, s.l[i]? = some (.ow (.lst ds0))) ∧ we C a s (fun s1 => s1.top fun d s2 => ∃ ds es, d = .lst es ∧ s1.l[i]? = some (.ow (.lst ds)) ∧ ds.length + es.length ≤ sizeLine ∧ (match s1.k with | .br j :: _ => j ≠ i | _ => True) ∧
      Q ⟨s1.l.set i (.ow (.lst (ds ++ es))), .sh .non :: s2.k⟩) X
  | .pop i, s, Q, X => ∃ ds d, s.l[i]? = some (.ow (.lst ds)) ∧ ds.getLast? = some d ∧ Q ⟨s.l.set i (.ow (.lst ds.dropLast)), .sh d :: s.k⟩
  | .popAt i a, s, Q, X => (∃ ds0, s.l[i]? = some (.ow (.lst ds0))) ∧ we C a s (fun s1 => s1.top fun y s2 => ∃ j k ds d, y = .int j ∧ s1.l[i]? = some (.ow (.lst ds)) ∧ -(2 ^ 62) ≤ j ∧ j < 2 ^ 62 ∧ L2.ixN ds.length j = some k ∧ ds[k]? = some d ∧
      Q ⟨s1.l.set i (.ow (.lst (ds.eraseIdx k))), .sh d :: s2.k⟩) X
  | .edct, s, Q, _ => Q (s.push (.ow (.dct false [])))
  | .srt _ a, s, Q, X => we C a s (fun s1 => s1.top fun d s2 => ∃ bs : List (List Int), d = .lst (bs.map tupI) ∧ bs.length ≤ 1000000 ∧ (∀ b ∈ bs, b.length ≤ 1000) ∧ Q (s2.push (.ow (.lst ((sortK bs).map tupI))))) X
  | .ctch _ loc h is, s, Q, _ => ∃ f ds, (if loc then s.l[h]? = some (.sh (.fn f)) ∧ C.hd f = some is.length else f = h) ∧ shs s.l is = some ds ∧ C.cost f = 0 ∧
      C.fs f ds (fun _ _ => Q (s.push (.sh .non))) (fun x => ∃ c, x = .exc c [] ∧ C.web c = true ∧ Q (s.push (.sh x)))

/-- what is wanted behind a statement -/
structure En where
  nx : St → Prop
  rt : D → Bool → Prop
  bk : St → Prop
  ct : St → Prop
  ex : D → St → Prop
def wfor (F : D → St → En → Prop) : List D → St → En → Prop
  | [], s, N => N.nx s
  | x :: xs, s, N => F x s ⟨fun s1 => wfor F xs s1 N, N.rt, N.nx, fun s1 => wfor F xs s1 N, N.ex⟩
def wwhl (c : St → (St → Prop) → Prop) (F : St → En → Prop) : Nat → St → En → Prop
  | 0, _, _ => False
  | m + 1, s, N => c s fun s1 => s1.topB fun b s2 => if b then F s2 ⟨fun s3 => wwhl c F m s3 N, N.rt, N.nx, fun s3 => wwhl c F m s3 N, N.ex⟩ else N.nx s2
def St.pops (s : St) (n : Nat) : St := ⟨s.l, s.k.drop n⟩
/-- a stack's slot is taken for good, or its owner -/
def unb (l : List Slot) : Slot → Option (List Slot × Slot)
  | .br j => (lv l j).map fun d => (frz1 l j, .sh d)
  | .emp => none
  | .crd _ => none
  | x => some (l, x)
def unbs : Nat → List Slot → List Slot → Option (List Slot × List Slot)
  | 0, k, l => some (l, k)
  | n + 1, x :: k, l => (unb l x).bind fun p => (unbs n k p.1).map fun q => (q.1, p.2 :: q.2)
  | _ + 1, [], _ => none
def sts : List Nat → List Slot → List Slot → List Slot
  | i :: is, x :: k, l => sts is k (l.set i x)
  | _, _, l => l
def ws (C : Ctx) : S → St → En → Prop
  | .skip, s, N => N.nx s
  | .seq a b, s, N => ws C a s { N with nx := fun s1 => ws C b s1 N }
  | .ex e, s, N => we C e s (fun s1 => match s1.k with | _ :: k => N.nx ⟨s1.l, k⟩ | [] => False) N.ex
  | .set i e, s, N => we C e s (fun s1 =>
      match s1.k with
      | .sh d :: k => nbrs k [i] = true ∧ N.nx ⟨s1.l.set i (.sh d), k⟩
      | .ow d :: k => nbrs k [i] = true ∧ N.nx ⟨s1.l.set i (.ow d), k⟩
      | .br j :: k => nbrs k [i] = true ∧ ∃ d, lv s1.l j = some d ∧ N.nx ⟨(frz1 s1.l j).set i (.sh d), k⟩
      | _ => False) N.ex
  | .setT t e, s, N => we C e s (fun s1 => s1.top fun d s2 => nbrs s2.k t.names = true ∧ ∃ l, asgn t (.inl d) (frz s1.l (s1.k.take 1)) = some l ∧ N.nx ⟨l, s2.k⟩) N.ex
  | .par is es, s, N => we C es s (fun s1 => ∃ l k, unbs is.length s1.k s1.l = some (l, k) ∧ nbrs (k.drop is.length) is = true ∧ N.nx ⟨sts is.reverse (k.take is.length) l, k.drop is.length⟩) N.ex
  | .ite c a b, s, N => we C c s (fun s1 => s1.topB fun r s2 => if r then ws C a s2 N else ws C b s2 N) N.ex
  | .forr it n src tg body, s, N => we C src s (fun s1 => ∃ ds, s1.args n = some ds ∧ ds.length = n ∧ itR it ds fun xs =>
      nbrs (s1.shd n ds).k tg.names = true ∧ wfor (fun x s2 N2 => s2.k = (s1.shd n ds).k ∧ ∃ l, asgn tg (.inl x) s2.l = some l ∧ ws C body ⟨l, s2.k⟩ N2) xs (s1.shd n ds)
        { N with nx := fun s3 => s3.k = (s1.shd n ds).k ∧ N.nx (s3.pops n) }) N.ex
  | .whl c body, s, N => ∃ m, wwhl (fun s Q => we C c s Q N.ex) (fun s N2 => ws C body s N2) m s N
  | .ret e, s, N => we C e s (fun s1 =>
      match s1.k with
      | .sh d :: _ => N.rt d false
      | .ow d :: _ => N.rt d true
      | .br j :: _ => (match s1.l[j]? with
        | some (.ow d) => N.rt d true
        | some (.sh d) => N.rt d false
        | _ => False)
      | _ => False) N.ex
  | .retn, s, N => N.rt .non false
  | .brk, s, N => N.bk s
  | .cont, s, N => N.ct s
  | .raise c e, s, N => (match C.fld c with
      | none => N.ex (.exc c []) s
      | some f => we C e s (fun s1 => s1.top fun d s2 => d.imm = true ∧ N.ex (.exc c [(f, d)]) s2) N.ex)
  | .never, _, _ => False
/-- a def's body: n names, the parameters first -/
def wdef (C : Ctx) (n : Nat) (body : S) : FSpec := fun ds Q X =>
  ws C body ⟨ds.map .sh ++ List.replicate (n - ds.length) .emp, []⟩ ⟨fun _ => Q .non false, Q, fun _ => False, fun _ => False, fun x _ => X x⟩
/-- .. of a def that asks the draws, at most q times: its credit stands behind the names -/
def wdefc (C : Ctx) (n q : Nat) (body : S) : FSpec := fun ds Q X =>
  ws C body ⟨ds.map .sh ++ (List.replicate (n - ds.length) .emp ++ [.crd q]), []⟩ ⟨fun _ => Q .non false, Q, fun _ => False, fun _ => False, fun x _ => X x⟩
end DP

set_option Elab.async false
set_option linter.all false
set_option maxRecDepth 100000
/-! E1m: weakest preconditions are monotone. -/
namespace DP
open PySem
def FMono (S : FSpec) : Prop := ∀ ds (Q Q' : D → Bool → Prop) (X X' : D → Prop), (∀ d b, Q d b → Q' d b) → (∀ d, X d → X' d) → S ds Q X → S ds Q' X'
def CMono (C : Ctx) : Prop := ∀ f, FMono (C.fs f)
theorem ite_mono {c : Prop} [Decidable c] {A B A' B' : Prop} (h : A → A') (h2 : B → B') (w : if c then A else B) : if c then A' else B' := by
  split at w
  · rename_i z; rw [if_pos z]; exact h w
  · rename_i z; rw [if_neg z]; exact h2 w
theorem top_mono {s : St} {Q Q' : D → St → Prop} (h : ∀ d s, Q d s → Q' d s) (w : s.top Q) : s.top Q' := by
  unfold St.top at *
  split at w
  · obtain ⟨d, e, q⟩ := w; exact ⟨d, e, h _ _ q⟩
  · exact w.elim
theorem topB_mono {s : St} {Q Q' : Bool → St → Prop} (h : ∀ d s, Q d s → Q' d s) (w : s.topB Q) : s.topB Q' :=
  top_mono (fun d s ⟨b, e, q⟩ => ⟨b, e, h _ _ q⟩) w
theorem payR_mono {q : Nat} : ∀ {l : List Slot} {P P' : List Slot → Prop}, (∀ l, P l → P' l) → payR q l P → payR q l P'
  | [], _, _, _, w => w.elim
  | [.crd c], _, _, h, w => ⟨w.1, h _ w.2⟩
  | [.emp], _, _, h, w => w.elim
  | [.sh _], _, _, h, w => w.elim
  | [.ow _], _, _, h, w => w.elim
  | [.br _], _, _, h, w => w.elim
  | x :: y :: l, P, P', h, w => by
    rw [payR] at w ⊢
    · exact payR_mono (fun l' q => h _ q) w
    · intro c e e2; cases e2
    · intro c e e2; cases e2
theorem py_mono {q : Nat} {l : List Slot} {P P' : List Slot → Prop} (h : ∀ l, P l → P' l) (w : PY q l P) : PY q l P' := by
  unfold PY at *
  split at w
  · rename_i z; rw [if_pos z]; exact h _ w
  · rename_i z; rw [if_neg z]; exact payR_mono h w
theorem payR_out {q : Nat} : ∀ {l : List Slot} {P : List Slot → Prop}, payR q l P → ∃ l0 c, l = l0 ++ [.crd c] ∧ q ≤ c ∧ P (l0 ++ [.crd (c - q)])
  | [], _, w => w.elim
  | [.crd c], _, w => ⟨[], c, rfl, w⟩
  | [.emp], _, w => w.elim
  | [.sh _], _, w => w.elim
  | [.ow _], _, w => w.elim
  | [.br _], _, w => w.elim
  | x :: y :: l, P, w => by
    rw [payR] at w
    · obtain ⟨l0, c, e, h, p⟩ := payR_out w
      exact ⟨x :: l0, c, by rw [e]; rfl, h, p⟩
    · intro c e e2; cases e2
theorem acc_mono {s : St} {Q Q' : St → Prop} (h : ∀ s, Q s → Q' s) (w : s.acc Q) : s.acc Q' := by
  unfold St.acc at *
  split at w
  · obtain ⟨d, e, e2, q⟩ := w; exact ⟨d, e, e2, h _ q⟩
  · exact w.elim
theorem accD_mono {s : St} {Q Q' : St → Prop} (h : ∀ s, Q s → Q' s) (w : s.accD Q) : s.accD Q' := by
  unfold St.accD at *
  split at w
  · obtain ⟨dx, dv, e1, e2, e3, e4, q⟩ := w; exact ⟨dx, dv, e1, e2, e3, e4, h _ q⟩
  · exact w
theorem binS_mono {k : BinK} {x y : D} {Q Q' : D → Bool → Prop} (h : ∀ d b, Q d b → Q' d b) (w : binS k x y Q) : binS k x y Q' := by
  unfold binS at *
  split at w
  all_goals first
    | exact w.elim
    | exact h _ _ w
    | exact ⟨w.1, h _ _ w.2⟩
    | exact ⟨w.1, w.2.1, w.2.2.1, h _ _ w.2.2.2⟩
    | exact ⟨w.1, w.2.1, w.2.2.1, w.2.2.2.1, h _ _ w.2.2.2.2⟩
theorem cmpS_mono {k : CmpK} {x y : D} {Q Q' : Bool → Prop} (h : ∀ b, Q b → Q' b) (w : cmpS k x y Q) : cmpS k x y Q' := by
  unfold cmpS at *
  split at w
  all_goals first
    | exact w.elim
    | exact h _ w
    | exact ⟨w.1, w.2.1, h _ w.2.2⟩
    | (obtain ⟨ns, ms, e1, e2, q⟩ := w; exact ⟨ns, ms, e1, e2, h _ q⟩)
theorem idxS_mono {x y : D} {Q Q' : D → Prop} (h : ∀ b, Q b → Q' b) (w : idxS x y Q) : idxS x y Q' := by
  unfold idxS at *
  split at w
  all_goals first
    | exact w.elim
    | (obtain ⟨d, e, q⟩ := w; exact ⟨d, e, h _ q⟩)
theorem slcS_mono {x : D} {lo hi : Option Int} {Q Q' : D → Bool → Prop} (h : ∀ d b, Q d b → Q' d b) (w : slcS x lo hi Q) : slcS x lo hi Q' := by
  unfold slcS at *
  split at w
  all_goals first
    | exact w.elim
    | exact h _ _ w
theorem biS_mono {k : BiK} {ds : List D} {Q Q' : D → Bool → Prop} (h : ∀ d b, Q d b → Q' d b) (w : biS k ds Q) : biS k ds Q' := by
  unfold biS at *
  split at w
  all_goals first
    | exact w.elim
    | exact h _ _ w
    | exact ⟨w.1, h _ _ w.2⟩
    | (obtain ⟨v, e, q⟩ := w; exact ⟨v, e, h _ _ q⟩)
    | (obtain ⟨v, e, q⟩ := w; exact ⟨v, e, fun ms h1 h2 => h _ _ (q ms h1 h2)⟩)
    | (obtain ⟨v, e, e2, q⟩ := w; exact ⟨v, e, e2, h _ _ q⟩)
    | (obtain ⟨v, e, e2, q⟩ := w; exact ⟨v, e, e2, fun ms h1 h2 => h _ _ (q ms h1 h2)⟩)
theorem rglS_mono {t : Bool} {a b : Int} {Q Q' : D → Bool → Prop} (h : ∀ d b, Q d b → Q' d b) (w : rglS t a b Q) : rglS t a b Q' := by
  obtain ⟨h1, h2, h3, h4⟩ := w
  refine ⟨h1, h2, h3, ?_⟩
  split at h4
  · rename_i z; rw [if_pos z]; exact h _ _ h4
  · rename_i z; rw [if_neg z]; exact h _ _ h4
theorem itR_mono {k : ItK} {ds : List D} {Q Q' : List D → Prop} (h : ∀ b, Q b → Q' b) (w : itR k ds Q) : itR k ds Q' := by
  obtain ⟨c, xs, e, hc, q⟩ := w
  exact ⟨c, xs, e, hc, h _ q⟩
theorem isiS_mono {C : Ctx} {x y : D} {Q Q' : Bool → Prop} (h : ∀ b, Q b → Q' b) (w : isiS C x y Q) : isiS C x y Q' := by
  obtain ⟨b, e, q⟩ := w
  exact ⟨b, e, h _ q⟩
theorem wcomp_mono {F F' : D → St → (St → Prop) → Prop} (hF : ∀ x s (Q Q' : St → Prop), (∀ s, Q s → Q' s) → F x s Q → F' x s Q') : ∀ (xs : List D) (s : St) (Q Q' : St → Prop), (∀ s, Q s → Q' s) → wcomp F xs s Q → wcomp F' xs s Q'
  | [], s, Q, Q', h, w => h s w
  | x :: xs, s, Q, Q', h, w => hF x s _ _ (fun s1 w1 => wcomp_mono hF xs s1 Q Q' h w1) w
theorem wprt_mono {nn : Bool} {F F' : St → (St → Prop) → Prop} {s : St} {K K' : Option Int → St → Prop} (hF : ∀ s P P', (∀ s, P s → P' s) → F s P → F' s P') (h : ∀ i s, K i s → K' i s) (w : wprt nn F s K) : wprt nn F' s K' := by
  unfold wprt at *
  split at w
  · rename_i hn; rw [if_pos hn]; exact hF _ _ _ (fun s2 w2 => top_mono (fun d s3 ⟨i, e, q⟩ => ⟨i, e, h _ _ q⟩) w2) w
  · rename_i hn; rw [if_neg hn]; exact h _ _ w
theorem we_mono {C : Ctx} (hC : CMono C) : ∀ (e : E) (s : St) (Q Q' : St → Prop) (X X' : D → St → Prop), (∀ s, Q s → Q' s) → (∀ d s, X d s → X' d s) → we C e s Q X → we C e s Q' X' := by
  intro e
  induction e with
  | nil => intro s Q Q' X X' h hx w; exact h _ w
  | cons a r iha ihr => intro s Q Q' X X' h hx w; exact iha _ _ _ _ _ (fun s1 w1 => ihr _ _ _ _ _ h hx w1) hx w
  | var i =>
    intro s Q Q' X X' h hx w
    unfold we at *
    split at w
    · exact h _ w
    · exact h _ w
    · exact w.elim
  | lit d => intro s Q Q' X X' h hx w; exact h _ w
  | fnv d => intro s Q Q' X X' h hx w; exact h _ w
  | clv d => intro s Q Q' X X' h hx w; exact h _ w
  | tyv d => intro s Q Q' X X' h hx w; exact h _ w
  | cst d => intro s Q Q' X X' h hx w; exact h _ w
  | neg a iha =>
    intro s Q Q' X X' h hx w
    exact iha _ _ _ _ _ (fun s1 w1 => top_mono (fun d s2 ⟨i, e, q⟩ => ⟨i, e, h _ q⟩) w1) hx w
  | not a iha =>
    intro s Q Q' X X' h hx w
    exact iha _ _ _ _ _ (fun s1 w1 => topB_mono (fun d s2 q => h _ q) w1) hx w
  | bin k a b iha ihb =>
    intro s Q Q' X X' h hx w
    exact iha _ _ _ _ _ (fun s1 w1 => ihb _ _ _ _ _ (fun s2 w2 => top_mono (fun y s3 w3 => top_mono (fun x s4 w4 => binS_mono (fun d b q => h _ q) w4) w3) w2) hx w1) hx w
  | cmp k a b iha ihb =>
    intro s Q Q' X X' h hx w
    exact iha _ _ _ _ _ (fun s1 w1 => ihb _ _ _ _ _ (fun s2 w2 => top_mono (fun y s3 w3 => top_mono (fun x s4 w4 => cmpS_mono (fun b q => h _ q) w4) w3) w2) hx w1) hx w
  | chain k k' a b c iha ihb ihc =>
    intro s Q Q' X X' h hx w
    refine iha _ _ _ _ _ (fun s1 w1 => ihb _ _ _ _ _ (fun s2 w2 => top_mono (fun y s3 w3 => top_mono (fun x s4 w4 => ⟨w4.1, cmpS_mono (fun b q => ?_) w4.2⟩) w3) w2) hx w1) hx w
    split at q
    · rename_i hb
      rw [if_pos hb]
      exact ihc _ _ _ _ _ (fun s5 w5 => top_mono (fun z s6 w6 => top_mono (fun _ s7 w7 => cmpS_mono (fun b q => h _ q) w7) w6) w5) hx q
    · rename_i hb
      rw [if_neg hb]
      exact h _ q
  | and a b iha ihb =>
    intro s Q Q' X X' h hx w
    refine iha _ _ _ _ _ (fun s1 w1 => topB_mono (fun r s2 q => ?_) w1) hx w
    split at q
    · rename_i hb; rw [if_pos hb]; exact ihb _ _ _ _ _ h hx q
    · rename_i hb; rw [if_neg hb]; exact h _ q
  | or a b iha ihb =>
    intro s Q Q' X X' h hx w
    refine iha _ _ _ _ _ (fun s1 w1 => topB_mono (fun r s2 q => ?_) w1) hx w
    split at q
    · rename_i hb; rw [if_pos hb]; exact h _ q
    · rename_i hb; rw [if_neg hb]; exact ihb _ _ _ _ _ h hx q
  | ite c a b ihc iha ihb =>
    intro s Q Q' X X' h hx w
    refine ihc _ _ _ _ _ (fun s1 w1 => topB_mono (fun r s2 q => ?_) w1) hx w
    split at q
    · rename_i hb; rw [if_pos hb]; exact iha _ _ _ _ _ h hx q
    · rename_i hb; rw [if_neg hb]; exact ihb _ _ _ _ _ h hx q
  | tup n es ih =>
    intro s Q Q' X X' h hx w
    exact ih _ _ _ _ _ (fun s1 ⟨ds, e1, e2, e3, q⟩ => ⟨ds, e1, e2, e3, h _ q⟩) hx w
  | lst n es ih =>
    intro s Q Q' X X' h hx w
    exact ih _ _ _ _ _ (fun s1 ⟨ds, e1, e2, e3, q⟩ => ⟨ds, e1, e2, e3, h _ q⟩) hx w
  | idx a b iha ihb =>
    intro s Q Q' X X' h hx w
    exact iha _ _ _ _ _ (fun s1 w1 => ihb _ _ _ _ _ (fun s2 w2 => top_mono (fun y s3 w3 => top_mono (fun x s4 w4 => idxS_mono (fun b q => h _ q) w4) w3) w2) hx w1) hx w
  | slc a lo hi iha ihl ihh =>
    intro s Q Q' X X' h hx w
    refine iha _ _ _ _ _ (fun s1 w1 => wprt_mono (fun s P P' hp w => ihl s P P' X X' hp hx w) (fun i s2 w2 => wprt_mono (fun s P P' hp w => ihh s P P' X X' hp hx w) (fun j s3 w3 => top_mono (fun x s6 q => slcS_mono (fun d b q => h _ q) q) w3) w2) w1) hx w
  | call f n es ih =>
    intro s Q Q' X X' h hx w
    exact ih _ _ _ _ _ (fun s1 ⟨ds, e1, e2, q⟩ => ⟨ds, e1, e2, py_mono (fun l' q => hC f _ _ _ _ _ (fun d b z => ite_mono (h _) (h _) z) (fun d z => hx _ _ z) q) q⟩) hx w
  | callk f n perm es ih =>
    intro s Q Q' X X' h hx w
    exact ih _ _ _ _ _ (fun s1 ⟨ds, e1, e2, e3, e4, q⟩ => ⟨ds, e1, e2, e3, e4, hC f _ _ _ _ _ (fun d b z => ite_mono (h _) (h _) z) (fun d z => hx _ _ z) q⟩) hx w
  | bi k n es ih =>
    intro s Q Q' X X' h hx w
    exact ih _ _ _ _ _ (fun s1 ⟨ds, e1, e2, q⟩ => ⟨ds, e1, e2, biS_mono (fun d b z => h _ z) q⟩) hx w
  | rgl1 t a ih =>
    intro s Q Q' X X' h hx w
    exact ih _ _ _ _ _ (fun s1 w1 => top_mono (fun d s2 ⟨n, e, q⟩ => ⟨n, e, rglS_mono (fun d b q => h _ q) q⟩) w1) hx w
  | rgl2 t a b iha ihb =>
    intro s Q Q' X X' h hx w
    exact iha _ _ _ _ _ (fun s1 w1 => ihb _ _ _ _ _ (fun s2 w2 => top_mono (fun y s3 w3 => top_mono (fun x s4 ⟨m, n, e1, e2, q⟩ => ⟨m, n, e1, e2, rglS_mono (fun d b q => h _ q) q⟩) w3) w2) hx w1) hx w
  | isi a b iha ihb =>
    intro s Q Q' X X' h hx w
    exact iha _ _ _ _ _ (fun s1 w1 => ihb _ _ _ _ _ (fun s2 w2 => top_mono (fun y s3 w3 => top_mono (fun x s4 w4 => isiS_mono (fun b q => h _ q) w4) w3) w2) hx w1) hx w
  | isiT a ns ih =>
    intro s Q Q' X X' h hx w
    exact ih _ _ _ _ _ (fun s1 w1 => top_mono (fun x s2 ⟨b, e, q⟩ => ⟨b, e, h _ q⟩) w1) hx w
  | lc own tg it n src hc c elt ihs ihc ihe =>
    intro s Q Q' X X' h hx w
    rw [we] at w ⊢
    refine ihs _ _ _ _ _ (fun s1 w1 => ?_) hx w
    obtain ⟨ds, e1, e2, q⟩ := w1
    refine ⟨ds, e1, e2, itR_mono (fun xs q => ?_) q⟩
    obtain ⟨nb, nt, q⟩ := q
    refine ⟨nb, nt, wcomp_mono (fun x s2 Q2 Q2' h2 w2 => ?_) _ _ _ _ (fun s6 ⟨as, e6, q6⟩ => ⟨as, e6, h _ q6⟩) q⟩
    · obtain ⟨kk, l, e, w2⟩ := w2
      refine ⟨kk, l, e, ?_⟩
      split at w2
      · rename_i hb
        rw [if_pos hb]
        refine ihc _ _ _ _ _ (fun s3 w3 => topB_mono (fun b s3 q3 => ?_) w3) (fun _ _ h => h) w2
        split at q3
        · rename_i hb; rw [if_pos hb]; exact ihe _ _ _ _ _ (fun s4 w4 => acc_mono (fun s5 q5 => h2 _ q5) w4) (fun _ _ h => h) q3
        · rename_i hb; rw [if_neg hb]; exact h2 _ q3
      · rename_i hb
        rw [if_neg hb]
        exact ihe _ _ _ _ _ (fun s4 w4 => acc_mono (fun s5 q5 => h2 _ q5) w4) (fun _ _ h => h) w2
  | lcb own tg i hc c elt ihc ihe =>
    intro s Q Q' X X' h hx w
    rw [we] at w ⊢
    obtain ⟨xs, e1, e2, nb, nt, q⟩ := w
    refine ⟨xs, e1, e2, nb, nt, wcomp_mono (fun x s2 Q2 Q2' h2 w2 => ?_) _ _ _ _ (fun s6 ⟨as, e6, q6⟩ => ⟨as, e6, h _ q6⟩) q⟩
    obtain ⟨kk, l, e, w2⟩ := w2
    refine ⟨kk, l, e, ?_⟩
    split at w2
    · rename_i hb
      rw [if_pos hb]
      refine ihc _ _ _ _ _ (fun s3 w3 => topB_mono (fun b s3 q3 => ?_) w3) (fun _ _ h => h) w2
      split at q3
      · rename_i hb; rw [if_pos hb]; exact ihe _ _ _ _ _ (fun s4 w4 => acc_mono (fun s5 q5 => h2 _ q5) w4) (fun _ _ h => h) q3
      · rename_i hb; rw [if_neg hb]; exact h2 _ q3
    · rename_i hb
      rw [if_neg hb]
      exact ihe _ _ _ _ _ (fun s4 w4 => acc_mono (fun s5 q5 => h2 _ q5) w4) (fun _ _ h => h) w2
  | dc own tg it n src hc c key val ihs ihc ihk ihv =>
    intro s Q Q' X X' h hx w
    rw [we] at w ⊢
    refine ihs _ _ _ _ _ (fun s1 w1 => ?_) hx w
    obtain ⟨ds, e1, e2, q⟩ := w1
    refine ⟨ds, e1, e2, itR_mono (fun xs q => ?_) q⟩
    obtain ⟨nb, nt, q⟩ := q
    refine ⟨nb, nt, wcomp_mono (fun x s2 Q2 Q2' h2 w2 => ?_) _ _ _ _ (fun s6 ⟨as, e6, q6⟩ => ⟨as, e6, h _ q6⟩) q⟩
    · obtain ⟨kk, l, e, w2⟩ := w2
      refine ⟨kk, l, e, ?_⟩
      split at w2
      · rename_i hb
        rw [if_pos hb]
        refine ihc _ _ _ _ _ (fun s3 w3 => topB_mono (fun b s3 q3 => ?_) w3) (fun _ _ h => h) w2
        split at q3
        · rename_i hb; rw [if_pos hb]; exact ihk _ _ _ _ _ (fun s4 w4 => ihv _ _ _ _ _ (fun s5 w5 => accD_mono (fun s6 q6 => h2 _ q6) w5) (fun _ _ h => h) w4) (fun _ _ h => h) q3
        · rename_i hb; rw [if_neg hb]; exact h2 _ q3
      · rename_i hb
        rw [if_neg hb]
        exact ihk _ _ _ _ _ (fun s4 w4 => ihv _ _ _ _ _ (fun s5 w5 => accD_mono (fun s6 q6 => h2 _ q6) w5) (fun _ _ h => h) w4) (fun _ _ h => h) w2
  | append i a ih =>
    intro s Q Q' X X' h hx w
    exact ⟨w.1, ih _ _ _ _ _ (fun s1 w1 => top_mono (fun d s2 ⟨ds, e, e2, q⟩ => ⟨ds, e, e2, h _ q⟩) w1) hx w.2⟩
  | extend i a ih =>
    intro s Q Q' X X' h hx w
    exact ⟨w.1, ih _ _ _ _ _ (fun s1 w1 => top_mono (fun d s2 ⟨ds, es, e, e2, e3, e4, q⟩ => ⟨ds, es, e, e2, e3, e4, h _ q⟩) w1) hx w.2⟩
  | pop i =>
    intro s Q Q' X X' h hx w
    obtain ⟨ds, d, e1, e2, q⟩ := w
    exact ⟨ds, d, e1, e2, h _ q⟩
  | popAt i a ih =>
    intro s Q Q' X X' h hx w
    exact ⟨w.1, ih _ _ _ _ _ (fun s1 w1 => top_mono (fun d s2 ⟨j, k, ds, d, e1, e2, e3, e4, e5, e6, q⟩ => ⟨j, k, ds, d, e1, e2, e3, e4, e5, e6, h _ q⟩) w1) hx w.2⟩
  | edct => intro s Q Q' X X' h hx w; exact h _ w
  | srt w a ih =>
    intro s Q Q' X X' h hx w
    exact ih _ _ _ _ _ (fun s1 w1 => top_mono (fun d s2 ⟨bs, e, e2, e3, q⟩ => ⟨bs, e, e2, e3, h _ q⟩) w1) hx w
  | ctch g loc f is =>
    intro s Q Q' X X' h hx w
    obtain ⟨f, ds, e1, e2, e3, q⟩ := w
    exact ⟨f, ds, e1, e2, e3, hC f _ _ _ _ _ (fun d b z => h _ z) (fun d ⟨c, e, hw, z⟩ => ⟨c, e, hw, h _ z⟩) q⟩
end DP

set_option Elab.async false
set_option linter.all false
set_option maxRecDepth 100000
/-! E2: what plain data is in the abstract heap; the relation between a state of the code and the frame's slots, the heap. -/
namespace DP
open PySem L2

/-- the surroundings: the written part, what may be changed at any time (R: the draws), what holds of the heap throughout (J: with a credit of draws), where defs, classes, the draws stand, what an error object is -/
structure MG where
  K : PySem.W.Frag
  R : Addr → Prop
  J : Nat → Hp → Prop
  r : Option Addr
  T : List (Addr × Str)
  fa : Nat → Option Addr
  ca : Nat → Option Addr
  ex : Hp → Addr → Nat → List (Str × D) → Prop
/-- .. of a def's body: the entry's heap, what is another's (A), the caller's own credit -/
structure GC where
  m : MG
  H0 : Hp
  A : Addr → Prop
  c0 : Nat

def keyD : Key → D
  | .inl i => .int i
  | .inr x => .str x
def keyT (k : List Key) : D := .tup (k.map keyD)

/-- something stands there, no table -/
def Nt (H : Hp) (a : Addr) : Prop := ∃ o, H a = some o ∧ ∀ ps, o ≠ .tbl ps
/-- the script: a list that is never changed -/
def ScrAt (K : PySem.W.Frag) (A : Addr → Prop) (H : Hp) (a : Addr) (xs : List V) : Prop :=
  (∃ o, H a = some (.frz o (.lst xs))) ∨ (H a = some (.lst xs) ∧ ¬ A a) ∨ ∃ (o : Obj) (its : Array Value) (n : Nat), K.lookup a = some o ∧ o.cls = .type "list" ∧ o.dict = none ∧ o.data = .seq its n ∧ its.size ≤ sizeLine ∧ Vals xs its.toList
theorem ScrAt.sql {K : PySem.W.Frag} {A : Addr → Prop} {H : Hp} {a : Addr} {xs : List V} (h : ScrAt K A H a xs) : SqL K H a xs := by
  rcases h with ⟨o, h⟩ | ⟨h, _⟩ | h
  · exact .inl (.inr ⟨o, h⟩)
  · exact .inl (.inl h)
  · exact .inr h
theorem ScrAt.of {K : PySem.W.Frag} {A : Addr → Prop} {H : Hp} {a : Addr} {xs : List V} (h : SqL K H a xs) (n : Nt H a → ¬ A a) : ScrAt K A H a xs := by
  rcases h with (h | ⟨o, h⟩) | h
  · exact .inr (.inl ⟨h, n ⟨_, h, fun _ z => by cases z⟩⟩)
  · exact .inl ⟨o, h⟩
  · exact .inr (.inr h)
def Rep (G : MG) (A : Addr → Prop) (H : Hp) : D → V → Prop
  | .non, v => v = .non
  | .bl b, v => v = .bl b
  | .int i, v => v = .int i
  | .str x, v => v = .str x
  | .tup ds, v => ∃ a xs, v = .ref a ∧ SqT G.K H a xs ∧ Reps ds xs
  | .lst ds, v => ∃ a xs, v = .ref a ∧ H a = some (.lst xs) ∧ ¬ A a ∧ Reps ds xs
  | .dct tk kvs, v => ∃ a, v = .ref a ∧ ¬ A a ∧ ((∃ kk, Rd H a (.dK kk) ∧ (tk = false ∧ kvs.map (·.1) = kk.map (fun p => keyD p.1)) ∧ Repk kvs (kk.map (·.2))) ∨
      (∃ kk, H a = some (.dT kk) ∧ (tk = true ∧ kvs.map (·.1) = kk.map (fun p => keyT p.1)) ∧ Repk kvs (kk.map (·.2))))
  | .rng lo hi, v => ∃ a, v = .ref a ∧ Rd H a (.rng lo hi) ∧ ¬ A a
  | .exc c fs, v => ∃ a, v = .ref a ∧ G.ex H a c fs
  | .fn k, v => ∃ a, v = .ref a ∧ G.fa k = some a
  | .cls k, v => ∃ a, v = .ref a ∧ G.ca k = some a
  | .ty n, v => v = .ty n
  | .res, v => ∃ a, v = .ref a ∧ G.r = some a
  | .scr ns, v => ∃ a, v = .ref a ∧ ScrAt G.K A H a (ns.map V.int)
  | .lam _, _ => False
  | .thk _ _, _ => False
where
  Reps : List D → List V → Prop
  | [], xs => xs = []
  | d :: ds, xs => ∃ v r, xs = v :: r ∧ Rep G A H d v ∧ Reps ds r
  Repk : List (D × D) → List V → Prop
  | [], xs => xs = []
  | p :: ds, xs => ∃ v r, xs = v :: r ∧ Repp p v ∧ Repk ds r
  Repp : D × D → V → Prop
  | (_, d), v => Rep G A H d v
abbrev Reps (G : MG) (A : Addr → Prop) (H : Hp) : List D → List V → Prop := Rep.Reps G A H
abbrev Repk (G : MG) (A : Addr → Prop) (H : Hp) : List (D × D) → List V → Prop := Rep.Repk G A H

/-- a list or a dict that a slot alone holds, at p -/
def OwAt (G : MG) (A : Addr → Prop) (H : Hp) : D → Addr → Prop
  | .lst ds, p => ∃ xs, H p = some (.lst xs) ∧ Reps G A H ds xs
  | .dct tk kvs, p => (∃ kk, H p = some (.dK kk) ∧ (tk = false ∧ kvs.map (·.1) = kk.map (fun p => keyD p.1)) ∧ Repk G A H kvs (kk.map (·.2))) ∨
      (∃ kk, H p = some (.dT kk) ∧ (tk = true ∧ kvs.map (·.1) = kk.map (fun p => keyT p.1)) ∧ Repk G A H kvs (kk.map (·.2)))
  | .rng lo hi, p => H p = some (.rng lo hi)
  | _, _ => False

theorem nt_none {H : Hp} {a : Addr} (h : H a = none) : ¬ Nt H a := fun ⟨o, e, _⟩ => by rw [h] at e; cases e
/-- what is never changed, of exceptions -/
def Sx : HO → Prop
  | .ext _ => True
  | .xd _ => True
  | _ => False
/-- tuples and locked things are kept, and all else but what A says and tables -/
structure Kp (A : Addr → Prop) (H H' : Hp) : Prop where
  t : ∀ a xs, H a = some (.tup xs) → H' a = some (.tup xs)
  f : ∀ a o u, H a = some (.frz o u) → H' a = some (.frz o u)
  k : ∀ a o, H a = some o → ¬ A a → (∀ ps, o ≠ .tbl ps) → H' a = some o
  d : ∀ a, Nt H a → Nt H' a
  x : ∀ a o, H a = some o → Sx o → H' a = some o
theorem Kp.refl (A : Addr → Prop) (H : Hp) : Kp A H H := ⟨fun _ _ h => h, fun _ _ _ h => h, fun _ _ h _ _ => h, fun _ h => h, fun _ _ h _ => h⟩
theorem Kp.trans {A : Addr → Prop} {H H1 H2 : Hp} (a : Kp A H H1) (b : Kp A H1 H2) : Kp A H H2 :=
  ⟨fun p xs h => b.t p xs (a.t p xs h), fun p o u h => b.f p o u (a.f p o u h), fun p o h n z => b.k p o (a.k p o h n z) n z, fun p h => b.d p (a.d p h), fun p o h s => b.x p o (a.x p o h s) s⟩
theorem Kp.mono {A B : Addr → Prop} {H H1 : Hp} (a : Kp A H H1) (h : ∀ p, A p → B p) : Kp B H H1 :=
  ⟨a.t, a.f, fun p o e n z => a.k p o e (fun q => n (h p q)) z, a.d, a.x⟩
theorem Kp.new {A : Addr → Prop} {H : Hp} {p : Addr} {o : HO} (h : H p = none) : Kp A H (upd H p o) := by
  have ne : ∀ a u, H a = some u → a ≠ p := fun a u e => ne_of_none e h
  refine ⟨fun a xs e => ?_, fun a o u e => ?_, fun a o e _ _ => ?_, fun a ⟨u, e, n⟩ => ⟨u, ?_, n⟩, fun a o e _ => ?_⟩
  · rw [upd_ne (ne a _ e)]; exact e
  · rw [upd_ne (ne a _ e)]; exact e
  · rw [upd_ne (ne a _ e)]; exact e
  · rw [upd_ne (ne a _ e)]; exact e
  · rw [upd_ne (ne a _ e)]; exact e
theorem kp_extN {A : Addr → Prop} {H H' : Hp} (e : LamX.ExtN H H') : Kp A H H' :=
  ⟨fun a xs h => e a _ h (fun _ z => by cases z), fun a o u h => e a _ h (fun _ z => by cases z), fun a o h _ n => e a o h n, fun a ⟨o, h, n⟩ => ⟨o, e a o h n, n⟩, fun a o h sx => e a o h (fun ps z => by subst z; exact sx)⟩
/-- what may be owned -/
def Ownable : HO → Prop
  | .lst _ => True
  | .dK _ => True
  | .dT _ => True
  | .rng _ _ => True
  | _ => False
theorem Kp.mut {A : Addr → Prop} {H : Hp} {p : Addr} {o u : HO} (h : H p = some u) (hu : Ownable u) (hA : A p) (ho : ∀ ps, o ≠ .tbl ps := by intro _ z; cases z) : Kp A H (upd H p o) := by
  refine ⟨fun a xs e => ?_, fun a o u e => ?_, fun a o e n _ => ?_, fun a ⟨v, e, n⟩ => ?_, fun a v e sx => ?_⟩
  · rw [upd_ne (fun q => by rw [q, h] at e; cases e; exact hu)]; exact e
  · rw [upd_ne (fun q => by rw [q, h] at e; cases e; exact hu)]; exact e
  · rw [upd_ne (fun q => by rw [q] at n; exact n hA)]; exact e
  · by_cases q : a = p
    · exact ⟨o, by rw [q, upd_same], ho⟩
    · exact ⟨v, by rw [upd_ne q]; exact e, n⟩
  · rw [upd_ne (fun q => by rw [q, h] at e; cases e; revert hu sx; cases u <;> exact fun a b => by first | exact a.elim | exact b.elim)]; exact e

theorem Rd.keep {A : Addr → Prop} {H H' : Hp} {a : Addr} {o : HO} (k : Kp A H H') (h : Rd H a o) (n : ¬ A a) (z : ∀ ps, o ≠ .tbl ps) : Rd H' a o := by
  rcases h with h | ⟨u, h⟩
  · exact .inl (k.k a o h n z)
  · exact .inr ⟨u, k.f a u o h⟩
theorem SqT.keep {K : PySem.W.Frag} {A : Addr → Prop} {H H' : Hp} {a : Addr} {xs : List V} (k : Kp A H H') (h : SqT K H a xs) : SqT K H' a xs := by
  rcases h with (h | ⟨o, h⟩) | h
  · exact .inl (.inl (k.t _ _ h))
  · exact .inl (.inr ⟨o, k.f _ _ _ h⟩)
  · exact .inr h

/-- what a surrounding must bear -/
structure MG.Ok (G : MG) : Prop where
  jn : ∀ c H p o, G.J c H → H p = none → G.J c (upd H p o)
  jm : ∀ c H p o u, G.J c H → H p = some u → Ownable u → ¬ G.R p → G.J c (upd H p o)
  xk : ∀ A H H' a c fs, Kp A H H' → G.ex H a c fs → G.ex H' a c fs
  jt : ∀ c H, G.J c H → LamX.Tabs G.T H
  jx : ∀ c H H1, G.J c H → LamX.ExtN H H1 → LamX.Tabs G.T H1 → G.J c H1
  ju : ∀ c H p od u, G.J c H → H p = some (.frz od u) → Ownable u → ¬ G.R p → G.J c (upd H p u)
/-- at least so much credit -/
def MG.Jc (G : MG) (c : Nat) (H : Hp) : Prop := ∃ c', c ≤ c' ∧ G.J c' H
theorem MG.Jc.le {G : MG} {c d : Nat} {H : Hp} (j : G.Jc d H) (h : c ≤ d) : G.Jc c H := by
  obtain ⟨c', h', j⟩ := j
  exact ⟨c', Nat.le_trans h h', j⟩
theorem MG.Ok.jn' {G : MG} (ok : G.Ok) {c : Nat} {H : Hp} {p : Addr} {o : HO} (j : G.Jc c H) (h : H p = none) : G.Jc c (upd H p o) := by
  obtain ⟨c', h', j⟩ := j
  exact ⟨c', h', ok.jn _ _ _ _ j h⟩
theorem MG.Ok.jm' {G : MG} (ok : G.Ok) {c : Nat} {H : Hp} {p : Addr} {o u : HO} (j : G.Jc c H) (h : H p = some u) (w : Ownable u) (n : ¬ G.R p) : G.Jc c (upd H p o) := by
  obtain ⟨c', h', j⟩ := j
  exact ⟨c', h', ok.jm _ _ _ _ _ j h w n⟩
theorem MG.Ok.jt' {G : MG} (ok : G.Ok) {c : Nat} {H : Hp} (j : G.Jc c H) : LamX.Tabs G.T H := by
  obtain ⟨c', h', j⟩ := j
  exact ok.jt _ _ j
theorem MG.Ok.jx' {G : MG} (ok : G.Ok) {c : Nat} {H H1 : Hp} (j : G.Jc c H) (e : LamX.ExtN H H1) (t : LamX.Tabs G.T H1) : G.Jc c H1 := by
  obtain ⟨c', h', j⟩ := j
  exact ⟨c', h', ok.jx _ _ _ j e t⟩
/-- the credit in slots -/
def Slot.cr : Slot → Nat
  | .crd c => c
  | _ => 0
def cred : List Slot → Nat
  | [] => 0
  | x :: l => cred l + x.cr
def St.cr (s : St) : Nat := cred s.l + cred s.k
theorem cred_append : ∀ (a b : List Slot), cred (a ++ b) = cred a + cred b
  | [], b => by simp [cred]
  | x :: a, b => by rw [List.cons_append, cred, cred, cred_append a b]; omega
theorem cred_set : ∀ (l : List Slot) (i : Nat) (x : Slot), cred (l.set i x) ≤ cred l + x.cr
  | [], _, _ => by simp [cred]
  | y :: l, 0, x => by rw [List.set_cons_zero, cred, cred]; omega
  | y :: l, i + 1, x => by
    rw [List.set_cons_succ, cred, cred]
    have := cred_set l i x
    omega
theorem cred_drop (l : List Slot) (n : Nat) : cred (l.drop n) ≤ cred l := by
  conv => rhs; rw [← List.take_append_drop n l]
  rw [cred_append]
  omega
theorem cred_tail (l : List Slot) : cred l.tail ≤ cred l := by
  rw [← List.drop_one]; exact cred_drop l 1
theorem cred_set0 (l : List Slot) (i : Nat) {x : Slot} (h : x.cr = 0) : cred (l.set i x) ≤ cred l := by
  have := cred_set l i x
  omega
theorem cred_frz : ∀ (ks l : List Slot), cred (frz l ks) ≤ cred l
  | [], _ => Nat.le_refl _
  | .br i :: ks, l => by
    refine Nat.le_trans (cred_frz ks _) ?_
    unfold frz1
    split
    · exact cred_set0 _ _ rfl
    · exact Nat.le_refl _
  | .emp :: ks, l => cred_frz ks l
  | .sh _ :: ks, l => cred_frz ks l
  | .ow _ :: ks, l => cred_frz ks l
  | .crd _ :: ks, l => cred_frz ks l
theorem cred_out : ∀ {l : List Slot} {i : Nat} {x : Slot}, l[i]? = some x → cred (l.set i .emp) + x.cr = cred l
  | [], _, _, h => by cases h
  | y :: l, 0, x, h => by cases h; rw [List.set_cons_zero, cred, cred]; simp only [Slot.cr]; omega
  | y :: l, i + 1, x, h => by
    have := cred_out (l := l) (i := i) (x := x) h
    rw [List.set_cons_succ, cred, cred]
    omega
structure GC.Ok (G : GC) : Prop where
  m : G.m.Ok
  ra : ∀ a, G.m.R a → G.A a
  ah : ∀ a, G.A a → Nt G.H0 a

section
variable {G : MG} {A A' : Addr → Prop} {H H' : Hp}
mutual
theorem Rep.keep (ok : G.Ok) (k : Kp A H H') : ∀ (d : D) (v : V), Rep G A H d v → Rep G A H' d v
  | .non, _, h => h
  | .bl _, _, h => h
  | .int _, _, h => h
  | .str _, _, h => h
  | .tup ds, v, h => by
    obtain ⟨a, xs, e, s, r⟩ := h
    exact ⟨a, xs, e, SqT.keep k s, Reps.keep ok k ds xs r⟩
  | .lst ds, v, h => by
    obtain ⟨a, xs, e, s, n, r⟩ := h
    exact ⟨a, xs, e, k.k _ _ s n (fun _ z => by cases z), n, Reps.keep ok k ds xs r⟩
  | .dct tk kvs, v, h => by
    obtain ⟨a, e, n, h⟩ := h
    refine ⟨a, e, n, ?_⟩
    rcases h with ⟨kk, s, e1, r⟩ | ⟨kk, s, e1, r⟩
    · exact .inl ⟨kk, Rd.keep k s n (fun _ z => by cases z), e1, Repk.keep ok k kvs _ r⟩
    · exact .inr ⟨kk, k.k _ _ s n (fun _ z => by cases z), e1, Repk.keep ok k kvs _ r⟩
  | .rng lo hi, v, h => by
    obtain ⟨a, e, s, n⟩ := h
    exact ⟨a, e, Rd.keep k s n (fun _ z => by cases z), n⟩
  | .exc c fs, v, h => by
    obtain ⟨a, e, s⟩ := h
    exact ⟨a, e, ok.xk _ _ _ _ _ _ k s⟩
  | .fn _, _, h => h
  | .cls _, _, h => h
  | .ty _, _, h => h
  | .res, _, h => h
  | .scr _, _, h => by
    obtain ⟨a, e, s⟩ := h
    refine ⟨a, e, ?_⟩
    rcases s with ⟨o, s⟩ | ⟨s, n⟩ | s
    · exact .inl ⟨o, k.f _ _ _ s⟩
    · exact .inr (.inl ⟨k.k _ _ s n (fun _ z => by cases z), n⟩)
    · exact .inr (.inr s)
  | .lam _, _, h => h.elim
  | .thk _ _, _, h => h.elim
theorem Reps.keep (ok : G.Ok) (k : Kp A H H') : ∀ (ds : List D) (xs : List V), Reps G A H ds xs → Reps G A H' ds xs
  | [], _, h => h
  | d :: ds, xs, h => by
    obtain ⟨v, r, e, h1, h2⟩ := h
    exact ⟨v, r, e, Rep.keep ok k d v h1, Reps.keep ok k ds r h2⟩
theorem Repk.keep (ok : G.Ok) (k : Kp A H H') : ∀ (ds : List (D × D)) (xs : List V), Repk G A H ds xs → Repk G A H' ds xs
  | [], _, h => h
  | (a, d) :: ds, xs, h => by
    obtain ⟨v, r, e, h1, h2⟩ := h
    exact ⟨v, r, e, Rep.keep ok k d v h1, Repk.keep ok k ds r h2⟩
end
mutual
theorem Rep.sub (n : ∀ a, A' a → A a ∨ ¬ Nt H a) : ∀ (d : D) (v : V), Rep G A H d v → Rep G A' H d v
  | .non, _, h => h
  | .bl _, _, h => h
  | .int _, _, h => h
  | .str _, _, h => h
  | .tup ds, v, h => by
    obtain ⟨a, xs, e, s, r⟩ := h
    exact ⟨a, xs, e, s, Reps.sub n ds xs r⟩
  | .lst ds, v, h => by
    obtain ⟨a, xs, e, s, na, r⟩ := h
    exact ⟨a, xs, e, s, (fun q => (n a q).elim na (fun z => z ⟨_, s, fun _ w => by cases w⟩)), Reps.sub n ds xs r⟩
  | .dct tk kvs, v, h => by
    obtain ⟨a, e, na, h⟩ := h
    rcases h with ⟨kk, s, e1, r⟩ | ⟨kk, s, e1, r⟩
    · refine ⟨a, e, (fun q => (n a q).elim na fun z => ?_), .inl ⟨kk, s, e1, Repk.sub n kvs _ r⟩⟩
      rcases s with s | ⟨o, s⟩ <;> exact z ⟨_, s, fun _ w => by cases w⟩
    · exact ⟨a, e, (fun q => (n a q).elim na (fun z => z ⟨_, s, fun _ w => by cases w⟩)), .inr ⟨kk, s, e1, Repk.sub n kvs _ r⟩⟩
  | .rng lo hi, v, h => by
    obtain ⟨a, e, s, na⟩ := h
    refine ⟨a, e, s, fun q => (n a q).elim na fun z => ?_⟩
    rcases s with s | ⟨o, s⟩ <;> exact z ⟨_, s, fun _ w => by cases w⟩
  | .exc c fs, v, h => h
  | .fn _, _, h => h
  | .cls _, _, h => h
  | .ty _, _, h => h
  | .res, _, h => h
  | .scr _, _, h => by
    obtain ⟨a, e, s⟩ := h
    refine ⟨a, e, ?_⟩
    rcases s with ⟨o, s⟩ | ⟨s, na⟩ | s
    · exact .inl ⟨o, s⟩
    · exact .inr (.inl ⟨s, fun q => (n a q).elim na (fun z => z ⟨_, s, fun _ w => by cases w⟩)⟩)
    · exact .inr (.inr s)
  | .lam _, _, h => h.elim
  | .thk _ _, _, h => h.elim
theorem Reps.sub (n : ∀ a, A' a → A a ∨ ¬ Nt H a) : ∀ (ds : List D) (xs : List V), Reps G A H ds xs → Reps G A' H ds xs
  | [], _, h => h
  | d :: ds, xs, h => by
    obtain ⟨v, r, e, h1, h2⟩ := h
    exact ⟨v, r, e, Rep.sub n d v h1, Reps.sub n ds r h2⟩
theorem Repk.sub (n : ∀ a, A' a → A a ∨ ¬ Nt H a) : ∀ (ds : List (D × D)) (xs : List V), Repk G A H ds xs → Repk G A' H ds xs
  | [], _, h => h
  | (a, d) :: ds, xs, h => by
    obtain ⟨v, r, e, h1, h2⟩ := h
    exact ⟨v, r, e, Rep.sub n d v h1, Repk.sub n ds r h2⟩
end
mutual
/-- nothing within can be changed: whatever is another's -/
theorem Rep.any : ∀ (d : D) (v : V), d.imm = true → Rep G A H d v → Rep G A' H d v
  | .non, _, _, h => h
  | .bl _, _, _, h => h
  | .int _, _, _, h => h
  | .str _, _, _, h => h
  | .tup ds, v, i, h => by
    obtain ⟨a, xs, e, s, r⟩ := h
    exact ⟨a, xs, e, s, Reps.any ds xs i r⟩
  | .exc c fs, v, _, h => h
  | .fn _, _, _, h => h
  | .cls _, _, _, h => h
  | .ty _, _, _, h => h
  | .res, _, _, h => h
  | .lst _, _, i, _ => by simp [D.imm] at i
  | .dct _ _, _, i, _ => by simp [D.imm] at i
  | .rng _ _, _, i, h => by simp [D.imm] at i
  | .scr _, _, i, h => by simp [D.imm] at i
  | .lam _, _, i, _ => by simp [D.imm] at i
  | .thk _ _, _, i, _ => by simp [D.imm] at i
theorem Reps.any : ∀ (ds : List D) (xs : List V), D.imm.imms ds = true → Reps G A H ds xs → Reps G A' H ds xs
  | [], _, _, h => h
  | d :: ds, xs, i, h => by
    obtain ⟨v, r, e, h1, h2⟩ := h
    have i' : d.imm = true ∧ D.imm.imms ds = true := by simpa [D.imm.imms] using i
    exact ⟨v, r, e, Rep.any d v i'.1 h1, Reps.any ds r i'.2 h2⟩
end
theorem OwAt.sub (n : ∀ a, A' a → A a ∨ ¬ Nt H a) {d : D} {p : Addr} (h : OwAt G A H d p) : OwAt G A' H d p := by
  cases d with
  | lst ds => obtain ⟨xs, e, r⟩ := h; exact ⟨xs, e, Reps.sub n _ _ r⟩
  | dct tk kvs =>
    rcases h with ⟨kk, e, e1, r⟩ | ⟨kk, e, e1, r⟩
    · exact .inl ⟨kk, e, e1, Repk.sub n _ _ r⟩
    · exact .inr ⟨kk, e, e1, Repk.sub n _ _ r⟩
  | rng lo hi => exact h
  | _ => exact h.elim
/-- the owned thing is kept where its own place is -/
theorem OwAt.keep (ok : G.Ok) (k : Kp A H H') {d : D} {p : Addr} (hp : H' p = H p) (h : OwAt G A H d p) : OwAt G A H' d p := by
  cases d with
  | lst ds => obtain ⟨xs, e, r⟩ := h; exact ⟨xs, hp.trans e, Reps.keep ok k _ _ r⟩
  | dct tk kvs =>
    rcases h with ⟨kk, e, e1, r⟩ | ⟨kk, e, e1, r⟩
    · exact .inl ⟨kk, hp.trans e, e1, Repk.keep ok k _ _ r⟩
    · exact .inr ⟨kk, hp.trans e, e1, Repk.keep ok k _ _ r⟩
  | rng lo hi => exact hp.trans h
  | _ => exact h.elim
theorem ow_nt {u : HO} (w : Ownable u) : ∀ ps, u ≠ .tbl ps := fun ps z => by rw [z] at w; exact w
theorem OwAt.there {d : D} {p : Addr} (h : OwAt G A H d p) : ∃ u, H p = some u ∧ Ownable u := by
  cases d with
  | lst ds => obtain ⟨xs, e, r⟩ := h; exact ⟨_, e, trivial⟩
  | dct tk kvs =>
    rcases h with ⟨kk, e, e1, r⟩ | ⟨kk, e, e1, r⟩
    · exact ⟨_, e, trivial⟩
    · exact ⟨_, e, trivial⟩
  | rng lo hi => exact ⟨_, h, trivial⟩
  | _ => exact h.elim
theorem own_nt {d : D} {p : Addr} {o : HO} (h : OwAt G A (upd H p o) d p) : ∀ ps, o ≠ .tbl ps := by
  obtain ⟨u, e, w⟩ := OwAt.there h
  rw [upd_same] at e
  cases e
  exact ow_nt w
/-- no longer owned -/
theorem OwAt.rep {d : D} {p : Addr} (h : OwAt G A H d p) (n : ¬ A p) : Rep G A H d (.ref p) := by
  cases d with
  | lst ds => obtain ⟨xs, e, r⟩ := h; exact ⟨p, xs, rfl, e, n, r⟩
  | dct tk kvs =>
    rcases h with ⟨kk, e, e1, r⟩ | ⟨kk, e, e1, r⟩
    · exact ⟨p, rfl, n, .inl ⟨kk, .inl e, e1, r⟩⟩
    · exact ⟨p, rfl, n, .inr ⟨kk, e, e1, r⟩⟩
  | rng lo hi => exact ⟨p, rfl, .inl h, n⟩
  | _ => exact h.elim
end

/-! ### the relation -/
/-- a slot with what stands in it -/
inductive GS where
  | emp (o : Option V)
  | sh (d : D) (v : V)
  | ow (d : D) (p : Addr)
  | br (i : Nat) (v : V)
  | crd (c : Nat)
def GS.slot : GS → Slot
  | .emp _ => .emp
  | .sh d _ => .sh d
  | .ow d _ => .ow d
  | .br i _ => .br i
  | .crd c => .crd c
def GS.val : GS → Option V
  | .emp o => o
  | .sh _ v => some v
  | .ow _ p => some (.ref p)
  | .br _ v => some v
  | .crd _ => none
def GS.own : GS → List Addr
  | .ow _ p => [p]
  | _ => []
def owns (g : List GS) : List Addr := g.flatMap GS.own
def GRep (G : MG) (A : Addr → Prop) (H : Hp) : GS → Prop
  | .sh d v => Rep G A H d v
  | .ow d p => OwAt G A H d p
  | _ => True
def Av (G : GC) (gl gk : List GS) : Addr → Prop := fun a => G.A a ∨ a ∈ owns gl ++ owns gk
structure Rel (G : GC) (s : St) (σ : L2.St) (vs : List (Option V)) (H : Hp) (gl gk : List GS) : Prop where
  el : gl.map GS.slot = s.l
  ek : gk.map GS.slot = s.k
  vl : gl.map GS.val = σ
  vk : gk.map GS.val = vs
  nd : (owns gl ++ owns gk).Nodup
  fr : ∀ p ∈ owns gl ++ owns gk, ¬ Nt G.H0 p
  rp : ∀ g ∈ gl ++ gk, GRep G.m (Av G gl gk) H g
  nb : ∀ i v, GS.br i v ∉ gl
  bv : ∀ i v, GS.br i v ∈ gk → σ[i]? = some (some v)
  ke : Kp G.m.R G.H0 H
  j : G.m.Jc (G.c0 + s.cr) H

section
variable {G : GC} {s : St} {σ : L2.St} {vs : List (Option V)} {H H' : Hp} {gl gk : List GS}
theorem GRep.sub {G : MG} {A A' : Addr → Prop} (n : ∀ a, A' a → A a ∨ ¬ Nt H a) {g : GS} (h : GRep G A H g) : GRep G A' H g := by
  cases g with
  | emp _ => trivial
  | sh d v => exact Rep.sub n _ _ h
  | ow d p => exact OwAt.sub n h
  | br _ _ => trivial
  | crd _ => trivial
theorem owns_append (a b : List GS) : owns (a ++ b) = owns a ++ owns b := by simp [owns]
theorem owns_cons (a : GS) (b : List GS) : owns (a :: b) = a.own ++ owns b := by simp [owns]
theorem mem_owns {g : List GS} {p : Addr} : p ∈ owns g ↔ ∃ d, GS.ow d p ∈ g := by
  unfold owns
  rw [List.mem_flatMap]
  constructor
  · rintro ⟨x, hx, hp⟩
    cases x with
    | ow d q => simp [GS.own] at hp; exact ⟨d, by rw [hp]; exact hx⟩
    | _ => simp [GS.own] at hp
  · rintro ⟨d, h⟩
    exact ⟨_, h, by simp [GS.own]⟩
theorem Rel.there (R : Rel G s σ vs H gl gk) {p : Addr} (h : p ∈ owns gl ++ owns gk) : ∃ u, H p = some u ∧ Ownable u := by
  rcases List.mem_append.mp h with h | h
  · obtain ⟨d, h⟩ := mem_owns.mp h
    exact OwAt.there (R.rp _ (List.mem_append_left _ h))
  · obtain ⟨d, h⟩ := mem_owns.mp h
    exact OwAt.there (R.rp _ (List.mem_append_right _ h))
/-- another arrangement of the same things -/
theorem Rel.re (R : Rel G s σ vs H gl gk) {s' : St} {σ' : L2.St} {vs' : List (Option V)} {gl' gk' : List GS} (e1 : gl'.map GS.slot = s'.l) (e2 : gk'.map GS.slot = s'.k) (e3 : gl'.map GS.val = σ') (e4 : gk'.map GS.val = vs')
    (nd : (owns gl' ++ owns gk').Nodup) (sub : ∀ p ∈ owns gl' ++ owns gk', p ∈ owns gl ++ owns gk) (rp : ∀ g ∈ gl' ++ gk', g ∈ gl ++ gk ∨ GRep G.m (Av G gl' gk') H g)
    (nb : ∀ i v, GS.br i v ∉ gl') (bv : ∀ i v, GS.br i v ∈ gk' → σ'[i]? = some (some v)) (cr : s'.cr ≤ s.cr := by first | exact Nat.le_refl _ | (simp only [St.cr, St.push, cred, Slot.cr]; omega) | exact Nat.add_le_add (by first | exact Nat.le_refl _ | exact cred_set0 _ _ rfl) (by first | exact Nat.le_refl _ | exact cred_drop _ _ | exact cred_tail _)) : Rel G s' σ' vs' H gl' gk' := by
  refine ⟨e1, e2, e3, e4, nd, fun p hp => R.fr p (sub p hp), fun g hg => ?_, nb, bv, R.ke, R.j.le (by omega)⟩
  rcases rp g hg with h | h
  · exact GRep.sub (fun a ha => .inl (ha.elim .inl fun z => .inr (sub a z))) (R.rp g h)
  · exact h
/-- the heap has gone on: what is not ours and what is ours is kept -/
theorem Rel.heap (ok : G.Ok) (R : Rel G s σ vs H gl gk) (k : Kp G.m.R H H') (j : G.m.Jc (G.c0 + s.cr) H') : Rel G s σ vs H' gl gk := by
  have kA : Kp (Av G gl gk) H H' := k.mono fun p h => .inl (ok.ra p h)
  refine ⟨R.el, R.ek, R.vl, R.vk, R.nd, R.fr, fun g hg => ?_, R.nb, R.bv, R.ke.trans k, j⟩
  have h := R.rp g hg
  cases g with
  | emp _ => trivial
  | br _ _ => trivial
  | crd _ => trivial
  | sh d v => exact Rep.keep ok.m kA _ _ h
  | ow d p =>
    have hp : p ∈ owns gl ++ owns gk := by
      rcases List.mem_append.mp hg with z | z
      · exact List.mem_append_left _ (mem_owns.mpr ⟨d, z⟩)
      · exact List.mem_append_right _ (mem_owns.mpr ⟨d, z⟩)
    obtain ⟨u, hu, ow⟩ := OwAt.there h
    have e : H' p = some u := k.k p u hu (fun z => R.fr p hp (ok.ah p (ok.ra p z))) (fun ps z => by rw [z] at ow; exact ow)
    exact OwAt.keep ok.m kA (e.trans hu.symm) h
/-- a new owned object -/
theorem Rel.new (ok : G.Ok) (R : Rel G s σ vs H gl gk) {p : Addr} {o : HO} (hp : H p = none) : Rel G s σ vs (upd H p o) gl gk ∧ p ∉ owns gl ++ owns gk ∧ ¬ Nt G.H0 p ∧ ¬ G.A p := by
  have h0 : ¬ Nt G.H0 p := fun z => nt_none hp (R.ke.d p z)
  refine ⟨R.heap ok (Kp.new hp) (ok.m.jn' R.j hp), fun z => ?_, h0, fun z => h0 (ok.ah p z)⟩
  obtain ⟨u, e, _⟩ := R.there z
  rw [hp] at e; cases e
theorem Rel.push_sh (R : Rel G s σ vs H gl gk) {d : D} {v : V} (h : Rep G.m (Av G gl gk) H d v) : Rel G (s.push (.sh d)) σ (some v :: vs) H gl (.sh d v :: gk) := by
  have e : owns (GS.sh d v :: gk) = owns gk := by rw [owns_cons]; rfl
  refine R.re R.el (by rw [List.map_cons, R.ek]; rfl) R.vl (by rw [List.map_cons, R.vk]; rfl) (by rw [e]; exact R.nd) (by rw [e]; exact fun _ h => h) (fun g hg => ?_) R.nb (fun i w hi => ?_)
  · rcases List.mem_append.mp hg with z | z
    · exact .inl (List.mem_append_left _ z)
    · rcases List.mem_cons.mp z with z | z
      · subst z
        refine .inr (Rep.sub (fun a ha => .inl ?_) _ _ h)
        unfold Av at ha ⊢
        rw [e] at ha
        exact ha
      · exact .inl (List.mem_append_right _ z)
  · rcases List.mem_cons.mp hi with z | z
    · cases z
    · exact R.bv i w z
theorem Rel.push_br (R : Rel G s σ vs H gl gk) {i : Nat} {v : V} (h : σ[i]? = some (some v)) : Rel G (s.push (.br i)) σ (some v :: vs) H gl (.br i v :: gk) := by
  have e : owns (GS.br i v :: gk) = owns gk := by rw [owns_cons]; rfl
  refine R.re R.el (by rw [List.map_cons, R.ek]; rfl) R.vl (by rw [List.map_cons, R.vk]; rfl) (by rw [e]; exact R.nd) (by rw [e]; exact fun _ h => h) (fun g hg => ?_) R.nb (fun j w hi => ?_)
  · rcases List.mem_append.mp hg with z | z
    · exact .inl (List.mem_append_left _ z)
    · rcases List.mem_cons.mp z with z | z
      · subst z; exact .inr trivial
      · exact .inl (List.mem_append_right _ z)
  · rcases List.mem_cons.mp hi with z | z
    · cases z; exact h
    · exact R.bv j w z
/-- pushed: an object that no one else holds -/
theorem Rel.push_ow (R : Rel G s σ vs H gl gk) {d : D} {p : Addr} (hn : p ∉ owns gl ++ owns gk) (h0 : ¬ Nt G.H0 p) (hs : ∀ g ∈ gl ++ gk, GRep G.m (fun a => Av G gl gk a ∨ a = p) H g) (h : OwAt G.m (fun a => Av G gl gk a ∨ a = p) H d p) :
    Rel G (s.push (.ow d)) σ (some (.ref p) :: vs) H gl (.ow d p :: gk) := by
  have e : owns (GS.ow d p :: gk) = p :: owns gk := by rw [owns_cons]; rfl
  have av : ∀ a, Av G gl (.ow d p :: gk) a → Av G gl gk a ∨ a = p := fun a ha => by
    unfold Av at ha ⊢
    rw [e] at ha
    rcases ha with z | z
    · exact .inl (.inl z)
    · rcases List.mem_append.mp z with z | z
      · exact .inl (.inr (List.mem_append_left _ z))
      · rcases List.mem_cons.mp z with z | z
        · exact .inr z
        · exact .inl (.inr (List.mem_append_right _ z))
  refine ⟨R.el, by rw [List.map_cons, R.ek]; rfl, R.vl, by rw [List.map_cons, R.vk]; rfl, ?_, fun q hq => ?_, fun g hg => ?_, R.nb, fun i w hi => ?_, R.ke, R.j⟩
  · rw [e]
    have nd := R.nd
    rw [List.nodup_append] at nd ⊢
    refine ⟨nd.1, List.nodup_cons.mpr ⟨fun z => hn (List.mem_append_right _ z), nd.2.1⟩, fun a ha b hb => ?_⟩
    rcases List.mem_cons.mp hb with z | z
    · rw [z]; exact fun q => hn (List.mem_append_left _ (by rw [← q]; exact ha))
    · exact nd.2.2 a ha b z
  · rw [e] at hq
    rcases List.mem_append.mp hq with z | z
    · exact R.fr q (List.mem_append_left _ z)
    · rcases List.mem_cons.mp z with z | z
      · rw [z]; exact h0
      · exact R.fr q (List.mem_append_right _ z)
  · have key : GRep G.m (fun a => Av G gl gk a ∨ a = p) H g := by
      rcases List.mem_append.mp hg with z | z
      · exact hs g (List.mem_append_left _ z)
      · rcases List.mem_cons.mp z with z | z
        · subst z; exact h
        · exact hs g (List.mem_append_right _ z)
    exact GRep.sub (fun a ha => .inl (av a ha)) key
  · rcases List.mem_cons.mp hi with z | z
    · cases z
    · exact R.bv i w z
/-- a new list, dict or range object, pushed -/
theorem Rel.push_new (ok : G.Ok) (R : Rel G s σ vs H gl gk) {d : D} {p : Addr} {o : HO} (hp : H p = none) (h : OwAt G.m (fun a => Av G gl gk a ∨ a = p) (upd H p o) d p) :
    Rel G (s.push (.ow d)) σ (some (.ref p) :: vs) (upd H p o) gl (.ow d p :: gk) := by
  obtain ⟨R1, n1, h0, _⟩ := R.new ok (o := o) hp
  refine R1.push_ow n1 h0 (fun g hg => ?_) h
  have z : GRep G.m (fun a => Av G gl gk a ∨ a = p) H g := GRep.sub (fun a ha => ha.elim .inl fun q => .inr (by rw [q]; exact nt_none hp)) (R.rp g hg)
  have kA : Kp (fun a => Av G gl gk a ∨ a = p) H (upd H p o) := Kp.new hp
  cases g with
  | emp _ => trivial
  | br _ _ => trivial
  | crd _ => trivial
  | sh d v => exact Rep.keep ok.m kA _ _ z
  | ow d q =>
    obtain ⟨u, hu, _⟩ := OwAt.there z
    exact OwAt.keep ok.m kA (upd_ne (ne_of_none hu hp)) z
theorem Rel.pop (R : Rel G s σ vs H gl gk) {g : GS} {r : List GS} (e : gk = g :: r) : Rel G ⟨s.l, s.k.tail⟩ σ vs.tail H gl r := by
  subst e
  have q : owns (g :: r) = g.own ++ owns r := owns_cons g r
  have nd := R.nd
  rw [q] at nd
  refine R.re R.el (by rw [← R.ek]; rfl) R.vl (by rw [← R.vk]; rfl) ?_ (fun p hp => ?_) (fun x hx => .inl ?_) R.nb (fun i v h => R.bv i v (List.mem_cons_of_mem _ h))
  · refine List.Nodup.sublist ?_ nd
    exact List.Sublist.append (List.Sublist.refl _) (List.sublist_append_right _ _)
  · rw [q]
    rcases List.mem_append.mp hp with z | z
    · exact List.mem_append_left _ z
    · exact List.mem_append_right _ (List.mem_append_right _ z)
  · rcases List.mem_append.mp hx with z | z
    · exact List.mem_append_left _ z
    · exact List.mem_append_right _ (List.mem_cons_of_mem _ z)

/-! ### what is read -/
/-- as Rep, but the thing itself may be ours -/
def Top (G : MG) (A : Addr → Prop) (H : Hp) : D → V → Prop
  | .lst ds, v => ∃ a xs, v = .ref a ∧ H a = some (.lst xs) ∧ Reps G A H ds xs
  | .dct tk kvs, v => ∃ a, v = .ref a ∧ ((∃ kk, Rd H a (.dK kk) ∧ (tk = false ∧ kvs.map (·.1) = kk.map (fun p => keyD p.1)) ∧ Repk G A H kvs (kk.map (·.2))) ∨
      (∃ kk, H a = some (.dT kk) ∧ (tk = true ∧ kvs.map (·.1) = kk.map (fun p => keyT p.1)) ∧ Repk G A H kvs (kk.map (·.2))))
  | .rng lo hi, v => ∃ a, v = .ref a ∧ Rd H a (.rng lo hi)
  | d, v => Rep G A H d v
theorem Top.of {G : MG} {A : Addr → Prop} {d : D} {v : V} (h : Rep G A H d v) : Top G A H d v := by
  cases d with
  | lst ds => obtain ⟨a, xs, e, s, _, r⟩ := h; exact ⟨a, xs, e, s, r⟩
  | dct tk kvs => obtain ⟨a, e, _, r⟩ := h; exact ⟨a, e, r⟩
  | rng lo hi => obtain ⟨a, e, r, _⟩ := h; exact ⟨a, e, r⟩
  | _ => exact h
theorem Top.ofOw {G : MG} {A : Addr → Prop} {d : D} {p : Addr} (h : OwAt G A H d p) : Top G A H d (.ref p) := by
  cases d with
  | lst ds => obtain ⟨xs, e, r⟩ := h; exact ⟨p, xs, rfl, e, r⟩
  | dct tk kvs =>
    rcases h with ⟨kk, e, e1, r⟩ | ⟨kk, e, e1, r⟩
    · exact ⟨p, rfl, .inl ⟨kk, .inl e, e1, r⟩⟩
    · exact ⟨p, rfl, .inr ⟨kk, e, e1, r⟩⟩
  | rng lo hi => exact ⟨p, rfl, .inl h⟩
  | _ => exact h.elim
theorem Top.sub {G : MG} {A A' : Addr → Prop} (n : ∀ a, A' a → A a ∨ ¬ Nt H a) {d : D} {v : V} (h : Top G A H d v) : Top G A' H d v := by
  cases d with
  | lst ds => obtain ⟨a, xs, e, s, r⟩ := h; exact ⟨a, xs, e, s, Reps.sub n _ _ r⟩
  | dct tk kvs =>
    obtain ⟨a, e, r⟩ := h
    refine ⟨a, e, ?_⟩
    rcases r with ⟨kk, s, e1, r⟩ | ⟨kk, s, e1, r⟩
    · exact .inl ⟨kk, s, e1, Repk.sub n _ _ r⟩
    · exact .inr ⟨kk, s, e1, Repk.sub n _ _ r⟩
  | rng lo hi => exact h
  | _ => exact Rep.sub n _ _ h
def Tops (G : MG) (A : Addr → Prop) (H : Hp) : List D → List V → Prop
  | [], xs => xs = []
  | d :: ds, xs => ∃ v r, xs = v :: r ∧ Top G A H d v ∧ Tops G A H ds r
/-- the local's slot -/
theorem Rel.loc (R : Rel G s σ vs H gl gk) {i : Nat} {x : Slot} (h : s.l[i]? = some x) : ∃ g, gl[i]? = some g ∧ g.slot = x := by
  rw [← R.el, List.getElem?_map] at h
  cases e : gl[i]? with
  | none => rw [e] at h; cases h
  | some g => rw [e] at h; exact ⟨g, rfl, by simpa using h⟩
theorem Rel.locv (R : Rel G s σ vs H gl gk) {i : Nat} {g : GS} (h : gl[i]? = some g) : σ[i]? = some g.val := by
  rw [← R.vl, List.getElem?_map, h]; rfl
theorem Rel.lrep (R : Rel G s σ vs H gl gk) {i : Nat} {g : GS} (h : gl[i]? = some g) : GRep G.m (Av G gl gk) H g := R.rp g (List.mem_append_left _ (List.mem_of_getElem? h))
theorem Rel.lvTop (R : Rel G s σ vs H gl gk) {i : Nat} {d : D} (h : lv s.l i = some d) : ∃ v, σ[i]? = some (some v) ∧ Top G.m (Av G gl gk) H d v := by
  unfold lv at h
  split at h
  · rename_i d' e
    cases h
    obtain ⟨g, hg, es⟩ := R.loc e
    have hr := R.lrep hg
    have hv := R.locv hg
    cases g with
    | sh d' v => cases es; exact ⟨v, hv, Top.of hr⟩
    | _ => cases es
  · rename_i d' e
    cases h
    obtain ⟨g, hg, es⟩ := R.loc e
    have hr := R.lrep hg
    have hv := R.locv hg
    cases g with
    | ow d' p => cases es; exact ⟨.ref p, hv, Top.ofOw hr⟩
    | _ => cases es
  · cases h
/-- what a stack slot shows -/
theorem Rel.svTop (R : Rel G s σ vs H gl gk) {g : GS} (hg : g ∈ gk) {d : D} (h : sv s.l g.slot = some d) : ∃ v, g.val = some v ∧ Top G.m (Av G gl gk) H d v := by
  have hr := R.rp g (List.mem_append_right _ hg)
  cases g with
  | emp o => simp [GS.slot, sv] at h
  | crd o => simp [GS.slot, sv] at h
  | sh d' v => simp [GS.slot, sv] at h; subst h; exact ⟨v, rfl, Top.of hr⟩
  | ow d' p => simp [GS.slot, sv] at h; subst h; exact ⟨.ref p, rfl, Top.ofOw hr⟩
  | br i v =>
    have h : lv s.l i = some d := h
    obtain ⟨v', h1, h2⟩ := R.lvTop h
    rw [R.bv i v hg] at h1
    cases h1
    exact ⟨v, rfl, h2⟩
/-- the top is read and dropped -/
theorem Rel.top (R : Rel G s σ vs H gl gk) {Q : D → St → Prop} (h : s.top Q) : ∃ d v vr gr, vs = some v :: vr ∧ Q d ⟨s.l, s.k.tail⟩ ∧ Top G.m (Av G gl gk) H d v ∧ Rel G ⟨s.l, s.k.tail⟩ σ vr H gl gr ∧ (∀ a, Av G gl gr a → Av G gl gk a) := by
  unfold St.top at h
  have ek := R.ek
  have vk := R.vk
  split at h
  · rename_i x k e
    obtain ⟨d, h1, h2⟩ := h
    rw [e] at ek
    cases gk with
    | nil => cases ek
    | cons g gr =>
      injection ek with e1 e2
      subst e1
      obtain ⟨v, hv, ht⟩ := R.svTop List.mem_cons_self h1
      have R1 := R.pop rfl
      rw [← vk] at R1 ⊢
      refine ⟨d, v, _, gr, by rw [List.map_cons, hv]; rfl, by rw [e]; exact h2, ht, R1, fun a ha => ?_⟩
      rcases ha with z | z
      · exact .inl z
      · refine .inr ?_
        rw [owns_cons]
        rcases List.mem_append.mp z with z | z
        · exact List.mem_append_left _ z
        · exact List.mem_append_right _ (List.mem_append_right _ z)
  · exact h.elim
theorem svs_app (l : List Slot) : ∀ (a b : List Slot), svs l (a ++ b) = (svs l a).bind fun x => (svs l b).map fun y => x ++ y
  | [], b => by simp [svs]
  | x :: a, b => by
    rw [List.cons_append, svs, svs, svs_app l a b]
    cases sv l x <;> cases svs l a <;> cases svs l b <;> simp
theorem Tops.app {G : MG} {A : Addr → Prop} : ∀ {ds es : List D} {xs ys : List V}, Tops G A H ds xs → Tops G A H es ys → Tops G A H (ds ++ es) (xs ++ ys)
  | [], _, _, _, h, h' => by cases h; exact h'
  | d :: ds, es, _, ys, h, h' => by
    obtain ⟨v, r, rfl, h1, h2⟩ := h
    exact ⟨v, r ++ ys, rfl, h1, Tops.app h2 h'⟩
theorem Reps.app {G : MG} {A : Addr → Prop} : ∀ {ds es : List D} {xs ys : List V}, Reps G A H ds xs → Reps G A H es ys → Reps G A H (ds ++ es) (xs ++ ys)
  | [], _, _, _, h, h' => by cases h; exact h'
  | d :: ds, es, _, ys, h, h' => by
    obtain ⟨v, r, rfl, h1, h2⟩ := h
    exact ⟨v, r ++ ys, rfl, h1, Reps.app h2 h'⟩
theorem Reps.len {G : MG} {A : Addr → Prop} : ∀ {ds : List D} {xs : List V}, Reps G A H ds xs → ds.length = xs.length
  | [], _, h => by cases h; rfl
  | d :: ds, _, h => by
    obtain ⟨v, r, rfl, h1, h2⟩ := h
    simp [Reps.len h2]
theorem Tops.len {G : MG} {A : Addr → Prop} : ∀ {ds : List D} {xs : List V}, Tops G A H ds xs → ds.length = xs.length
  | [], _, h => by cases h; rfl
  | d :: ds, _, h => by
    obtain ⟨v, r, rfl, h1, h2⟩ := h
    simp [Tops.len h2]
theorem Reps.get {G : MG} {A : Addr → Prop} : ∀ {ds : List D} {xs : List V} {i : Nat} {d : D}, Reps G A H ds xs → ds[i]? = some d → ∃ v, xs[i]? = some v ∧ Rep G A H d v
  | [], _, _, _, _, e => by simp at e
  | d :: ds, _, 0, _, h, e => by
    obtain ⟨v, r, rfl, h1, h2⟩ := h
    simp at e; subst e
    exact ⟨v, rfl, h1⟩
  | d :: ds, _, i + 1, _, h, e => by
    obtain ⟨v, r, rfl, h1, h2⟩ := h
    obtain ⟨w, e1, e2⟩ := Reps.get (i := i) h2 (by simpa using e)
    exact ⟨w, by simpa using e1, e2⟩
theorem Reps.take {G : MG} {A : Addr → Prop} : ∀ {ds : List D} {xs : List V} (n : Nat), Reps G A H ds xs → Reps G A H (ds.take n) (xs.take n)
  | [], _, n, h => by cases h; simp [Reps, Rep.Reps]
  | d :: ds, _, 0, h => by simp [Reps, Rep.Reps]
  | d :: ds, _, n + 1, h => by
    obtain ⟨v, r, rfl, h1, h2⟩ := h
    exact ⟨v, r.take n, rfl, h1, Reps.take n h2⟩
theorem Reps.drop {G : MG} {A : Addr → Prop} : ∀ {ds : List D} {xs : List V} (n : Nat), Reps G A H ds xs → Reps G A H (ds.drop n) (xs.drop n)
  | [], _, n, h => by cases h; simp [Reps, Rep.Reps]
  | d :: ds, _, 0, h => h
  | d :: ds, _, n + 1, h => by
    obtain ⟨v, r, rfl, h1, h2⟩ := h
    exact Reps.drop n h2
theorem Reps.tops {G : MG} {A : Addr → Prop} : ∀ {ds : List D} {xs : List V}, Reps G A H ds xs → Tops G A H ds xs
  | [], _, h => h
  | d :: ds, _, h => by
    obtain ⟨v, r, rfl, h1, h2⟩ := h
    exact ⟨v, r, rfl, Top.of h1, Reps.tops h2⟩
theorem Rel.svsTop (R : Rel G s σ vs H gl gk) : ∀ (ga : List GS), (∀ g ∈ ga, g ∈ gk) → ∀ ds, svs s.l (ga.map GS.slot) = some ds → ∃ xs, ga.map GS.val = xs.map some ∧ Tops G.m (Av G gl gk) H ds xs
  | [], _, ds, h => by simp [svs] at h; subst h; exact ⟨[], rfl, rfl⟩
  | g :: ga, hm, ds, h => by
    rw [List.map_cons, svs] at h
    cases e : sv s.l g.slot with
    | none => rw [e] at h; cases h
    | some d =>
      rw [e] at h
      cases e2 : svs s.l (ga.map GS.slot) with
      | none => rw [e2] at h; cases h
      | some r =>
        rw [e2] at h
        cases h
        obtain ⟨v, hv, ht⟩ := R.svTop (hm g List.mem_cons_self) e
        obtain ⟨xs, hx, hts⟩ := Rel.svsTop R ga (fun g h => hm g (List.mem_cons_of_mem _ h)) r e2
        exact ⟨v :: xs, by rw [List.map_cons, hv, hx]; rfl, v, xs, rfl, ht, hts⟩
/-- n arguments are read -/
theorem Rel.args (R : Rel G s σ vs H gl gk) {n : Nat} {ds : List D} (h : s.args n = some ds) : ∃ xs, (vs.take n).reverse = xs.map some ∧ Tops G.m (Av G gl gk) H ds xs := by
  unfold St.args at h
  rw [← R.ek, ← List.map_take, ← List.map_reverse] at h
  obtain ⟨xs, h1, h2⟩ := R.svsTop ((gk.take n).reverse) (fun g hg => List.mem_of_mem_take (List.mem_reverse.mp hg)) ds h
  exact ⟨xs, by rw [← R.vk, ← List.map_take, ← List.map_reverse]; exact h1, h2⟩
/-- n things are dropped -/
theorem Rel.pops (R : Rel G s σ vs H gl gk) (n : Nat) : Rel G ⟨s.l, s.k.drop n⟩ σ (vs.drop n) H gl (gk.drop n) ∧ ∀ a, Av G gl (gk.drop n) a → Av G gl gk a := by
  have hs : List.Sublist (owns (gk.drop n)) (owns gk) := by
    conv => rhs; rw [← List.take_append_drop n gk, owns_append]
    exact List.sublist_append_right _ _
  refine ⟨R.re R.el (by rw [List.map_drop, R.ek]) R.vl (by rw [List.map_drop, R.vk]) (List.Nodup.sublist (List.Sublist.append (List.Sublist.refl _) hs) R.nd) (fun p hp => ?_) (fun x hx => .inl ?_) R.nb (fun i v h => R.bv i v (List.mem_of_mem_drop h)), fun a ha => ?_⟩
  · rcases List.mem_append.mp hp with z | z
    · exact List.mem_append_left _ z
    · exact List.mem_append_right _ (hs.subset z)
  · rcases List.mem_append.mp hx with z | z
    · exact List.mem_append_left _ z
    · exact List.mem_append_right _ (List.mem_of_mem_drop z)
  · rcases ha with z | z
    · exact .inl z
    · refine .inr ?_
      rcases List.mem_append.mp z with z | z
      · exact List.mem_append_left _ z
      · exact List.mem_append_right _ (hs.subset z)

/-! ### locals changed -/
theorem split_at {α : Type} {l : List α} {i : Nat} {x : α} (h : l[i]? = some x) : ∃ a b, l = a ++ x :: b ∧ a.length = i ∧ ∀ y, l.set i y = a ++ y :: b := by
  induction l generalizing i with
  | nil => simp at h
  | cons z l ih =>
    cases i with
    | zero => simp at h; subst h; exact ⟨[], l, rfl, rfl, fun y => rfl⟩
    | succ i =>
      obtain ⟨a, b, e1, e2, e3⟩ := ih (i := i) (by simpa using h)
      exact ⟨z :: a, b, by rw [e1]; rfl, by simp [e2], fun y => by rw [List.set_cons_succ, e3]; rfl⟩
theorem owns_mid (a : List GS) (x : GS) (b : List GS) : owns (a ++ x :: b) = owns a ++ (x.own ++ owns b) := by rw [owns_append, owns_cons]
/-- the slot's thing is not changed from now on -/
theorem Rel.frz1 (ok : G.Ok) (R : Rel G s σ vs H gl gk) (i : Nat) : ∃ gl', Rel G ⟨DP.frz1 s.l i, s.k⟩ σ vs H gl' gk ∧ (∀ a, Av G gl' gk a → Av G gl gk a) ∧ ∀ d, lv s.l i = some d → ∃ v, σ[i]? = some (some v) ∧ Rep G.m (Av G gl' gk) H d v := by
  unfold DP.frz1
  split
  · rename_i d e
    obtain ⟨g, hg, es⟩ := R.loc e
    cases g with
    | ow d' p =>
      cases es
      have hr : OwAt G.m (Av G gl gk) H d p := R.lrep hg
      obtain ⟨a, b, e1, e2, e3⟩ := split_at hg
      have nd := R.nd
      have own' : owns (gl.set i (.sh d (.ref p))) = owns a ++ owns b := by rw [e3, owns_mid]; rfl
      have own0 : owns gl = owns a ++ (p :: owns b) := by rw [e1, owns_mid]; rfl
      have np : p ∉ owns (gl.set i (.sh d (.ref p))) ++ owns gk := by
        rw [own0] at nd
        rw [own']
        intro z
        rw [List.append_assoc, List.nodup_append] at nd
        rcases List.mem_append.mp z with z | z
        · rcases List.mem_append.mp z with z | z
          · exact nd.2.2 p z p (by simp) rfl
          · exact (List.nodup_cons.mp (by simpa using nd.2.1)).1 (List.mem_append_left _ z)
        · exact (List.nodup_cons.mp (by simpa using nd.2.1)).1 (List.mem_append_right _ z)
      have sub : ∀ q ∈ owns (gl.set i (.sh d (.ref p))) ++ owns gk, q ∈ owns gl ++ owns gk := fun q hq => by
        rw [own'] at hq
        rw [own0]
        rcases List.mem_append.mp hq with z | z
        · rcases List.mem_append.mp z with z | z
          · exact List.mem_append_left _ (List.mem_append_left _ z)
          · exact List.mem_append_left _ (List.mem_append_right _ (List.mem_cons_of_mem _ z))
        · exact List.mem_append_right _ z
      have av : ∀ a, Av G (gl.set i (.sh d (.ref p))) gk a → Av G gl gk a := fun q hq => hq.elim .inl fun z => .inr (sub q z)
      have hp : ¬ Av G (gl.set i (.sh d (.ref p))) gk p := fun z => z.elim (fun z => R.fr p (by rw [own0]; simp) (ok.ah p z)) np
      have rep : Rep G.m (Av G (gl.set i (.sh d (.ref p))) gk) H d (.ref p) := OwAt.rep (OwAt.sub (fun q hq => .inl (av q hq)) hr) hp
      refine ⟨gl.set i (.sh d (.ref p)), R.re (by rw [List.map_set, R.el]; rfl) R.ek ?_ R.vk ?_ sub (fun x hx => ?_) (fun j v hj => ?_) (fun j v hj => R.bv j v hj), av, fun d' hd' => ?_⟩
      · rw [← R.vl, e3, e1, List.map_append, List.map_append, List.map_cons, List.map_cons]; rfl
      · rw [own']
        rw [own0] at nd
        refine List.Nodup.sublist ?_ nd
        exact List.Sublist.append (List.Sublist.append (List.Sublist.refl _) (List.sublist_cons_self _ _)) (List.Sublist.refl _)
      · rcases List.mem_append.mp hx with z | z
        · rcases List.mem_or_eq_of_mem_set z with z | z
          · exact .inl (List.mem_append_left _ z)
          · rw [z]; exact .inr rep
        · exact .inl (List.mem_append_right _ z)
      · rcases List.mem_or_eq_of_mem_set hj with z | z
        · exact R.nb j v z
        · cases z
      · unfold lv at hd'
        rw [e] at hd'
        cases hd'
        exact ⟨.ref p, R.locv hg, rep⟩
    | _ => cases es
  · rename_i h
    refine ⟨gl, R, fun _ h => h, fun d hd => ?_⟩
    unfold lv at hd
    split at hd
    · rename_i d' e
      cases hd
      obtain ⟨g, hg, es⟩ := R.loc e
      cases g with
      | sh d' v => cases es; exact ⟨v, R.locv hg, R.lrep hg⟩
      | _ => cases es
    · rename_i d' e
      exact absurd e (h d')
    · cases hd

theorem Rel.frz (ok : G.Ok) : ∀ (ks : List Slot) {s : St} {gl : List GS}, Rel G s σ vs H gl gk → ∃ gl', Rel G ⟨DP.frz s.l ks, s.k⟩ σ vs H gl' gk ∧ ∀ a, Av G gl' gk a → Av G gl gk a
  | [], s, gl, R => ⟨gl, R, fun _ h => h⟩
  | .br i :: ks, s, gl, R => by
    obtain ⟨g1, R1, a1, _⟩ := R.frz1 ok i
    obtain ⟨g2, R2, a2⟩ := Rel.frz ok ks R1
    exact ⟨g2, R2, fun a h => a1 a (a2 a h)⟩
  | .emp :: ks, s, gl, R => Rel.frz ok ks R
  | .crd _ :: ks, s, gl, R => Rel.frz ok ks R
  | .sh d :: ks, s, gl, R => Rel.frz ok ks R
  | .ow d :: ks, s, gl, R => Rel.frz ok ks R
/-- data of locals is not touched by freezing; a frozen local stays so -/
theorem frz1_lv (l : List Slot) (i j : Nat) : lv (DP.frz1 l i) j = lv l j := by
  unfold DP.frz1
  split
  · rename_i d e
    unfold lv
    by_cases h : j = i
    · subst h
      obtain ⟨hj, _⟩ := List.getElem?_eq_some_iff.mp e
      rw [List.getElem?_set_self hj, e]
    · rw [List.getElem?_set_ne (fun q => h q.symm)]
  · rfl
theorem frz_lv : ∀ (ks : List Slot) (l : List Slot) (j : Nat), lv (DP.frz l ks) j = lv l j
  | [], _, _ => rfl
  | .br i :: ks, l, j => by rw [DP.frz, frz_lv ks, frz1_lv]
  | .emp :: ks, l, j => by show lv (DP.frz l ks) j = lv l j; exact frz_lv ks l j
  | .crd _ :: ks, l, j => by show lv (DP.frz l ks) j = lv l j; exact frz_lv ks l j
  | .sh _ :: ks, l, j => by show lv (DP.frz l ks) j = lv l j; exact frz_lv ks l j
  | .ow _ :: ks, l, j => by show lv (DP.frz l ks) j = lv l j; exact frz_lv ks l j
def Froz (l : List Slot) (i : Nat) : Prop := ∀ d, l[i]? ≠ some (.ow d)
theorem frz1_froz (l : List Slot) (i j : Nat) (h : Froz l j ∨ j = i) : Froz (DP.frz1 l i) j := by
  intro d hd
  unfold DP.frz1 at hd
  split at hd
  · rename_i d' e
    by_cases q : j = i
    · subst q
      obtain ⟨hj, _⟩ := List.getElem?_eq_some_iff.mp e
      rw [List.getElem?_set_self hj] at hd
      cases hd
    · rw [List.getElem?_set_ne (fun z => q z.symm)] at hd
      exact h.elim (fun z => z d hd) q
  · rename_i n
    rcases h with h | h
    · exact h d hd
    · subst h; exact n d hd
theorem frz_froz : ∀ (ks : List Slot) (l : List Slot) (j : Nat), (Froz l j ∨ Slot.br j ∈ ks) → Froz (DP.frz l ks) j
  | [], l, j, h => h.elim id (fun z => by simp at z)
  | .br i :: ks, l, j, h => by
    refine frz_froz ks _ j ?_
    rcases h with h | h
    · exact .inl (frz1_froz l i j (.inl h))
    · rcases List.mem_cons.mp h with z | z
      · cases z; exact .inl (frz1_froz l i i (.inr rfl))
      · exact .inr z
  | .crd _ :: ks, l, j, h => frz_froz ks l j (h.imp id fun z => (List.mem_cons.mp z).elim (fun z => by cases z) id)
  | .emp :: ks, l, j, h => frz_froz ks l j (h.imp id fun z => (List.mem_cons.mp z).elim (fun z => by cases z) id)
  | .sh _ :: ks, l, j, h => frz_froz ks l j (h.imp id fun z => (List.mem_cons.mp z).elim (fun z => by cases z) id)
  | .ow _ :: ks, l, j, h => frz_froz ks l j (h.imp id fun z => (List.mem_cons.mp z).elim (fun z => by cases z) id)
theorem sv_frz (ks : List Slot) (l : List Slot) (x : Slot) : sv (DP.frz l ks) x = sv l x := by
  cases x with
  | br i => exact frz_lv ks l i
  | _ => rfl
theorem svs_frz (ks : List Slot) (l : List Slot) : ∀ (xs : List Slot), svs (DP.frz l ks) xs = svs l xs
  | [] => rfl
  | x :: xs => by rw [svs, svs, sv_frz, svs_frz ks l xs]
/-- things of the stack that are handed on for good: what was borrowed is frozen, what was owned there is let go -/
theorem Rel.give (R : Rel G s σ vs H gl gk) (n : Nat) (ok : G.Ok) : ∀ (ga : List GS), (∀ g ∈ ga, g ∈ gk.take n) → (∀ i, Slot.br i ∈ ga.map GS.slot → Froz s.l i) → ∀ ds, svs s.l (ga.map GS.slot) = some ds →
    ∃ xs, ga.map GS.val = xs.map some ∧ Reps G.m (Av G gl (gk.drop n)) H ds xs
  | [], _, _, ds, h => by simp [svs] at h; subst h; exact ⟨[], rfl, rfl⟩
  | g :: ga, hm, hf, ds, h => by
    rw [List.map_cons, svs] at h
    cases e : sv s.l g.slot with
    | none => rw [e] at h; cases h
    | some d =>
      rw [e] at h
      cases e2 : svs s.l (ga.map GS.slot) with
      | none => rw [e2] at h; cases h
      | some r =>
        rw [e2] at h
        cases h
        obtain ⟨xs, hx, hts⟩ := Rel.give R n ok ga (fun g h => hm g (List.mem_cons_of_mem _ h)) (fun i hi => hf i (by rw [List.map_cons]; exact List.mem_cons_of_mem _ hi)) r e2
        obtain ⟨R1, av⟩ := R.pops n
        have hgm : g ∈ gk.take n := hm g List.mem_cons_self
        have hgk : g ∈ gk := List.mem_of_mem_take hgm
        have key : ∃ v, g.val = some v ∧ Rep G.m (Av G gl (gk.drop n)) H d v := by
          have hr := R.rp g (List.mem_append_right _ hgk)
          cases g with
          | emp o => simp [GS.slot, sv] at e
          | crd o => simp [GS.slot, sv] at e
          | sh d' v => simp [GS.slot, sv] at e; subst e; exact ⟨v, rfl, Rep.sub (fun a h => .inl (av a h)) _ _ hr⟩
          | ow d' p =>
            simp [GS.slot, sv] at e
            subst e
            refine ⟨.ref p, rfl, OwAt.rep (OwAt.sub (fun a h => .inl (av a h)) hr) fun z => ?_⟩
            have hp : p ∈ owns (gk.take n) := mem_owns.mpr ⟨_, hgm⟩
            have nd := R.nd
            rw [← List.take_append_drop n gk, owns_append, List.nodup_append] at nd
            rcases z with z | z
            · exact R.fr p (List.mem_append_right _ (mem_owns.mpr ⟨_, hgk⟩)) (ok.ah p z)
            · rcases List.mem_append.mp z with z | z
              · exact nd.2.2 p z p (List.mem_append_left _ hp) rfl
              · exact (List.nodup_append.mp nd.2.1).2.2 p hp p z rfl
          | br i v =>
            have e : lv s.l i = some d := e
            have fz := hf i (by rw [List.map_cons]; exact List.mem_cons_self)
            unfold lv at e
            split at e
            · rename_i d' e'
              cases e
              obtain ⟨g', hg', es⟩ := R.loc e'
              have hv := R.locv hg'
              cases g' with
              | sh d' v' =>
                cases es
                rw [R.bv i v hgk] at hv
                cases hv
                exact ⟨v, rfl, Rep.sub (fun a h => .inl (av a h)) _ _ (R.lrep hg')⟩
              | _ => cases es
            · rename_i d' e'
              exact absurd e' (fz d')
            · cases e
        obtain ⟨v, hv, hrep⟩ := key
        exact ⟨v :: xs, by rw [List.map_cons, hv, hx]; rfl, v, xs, rfl, hrep, hts⟩
/-- n arguments are handed on for good -/
theorem Rel.gives (ok : G.Ok) (R : Rel G s σ vs H gl gk) {n : Nat} {ds : List D} (h : s.args n = some ds) :
    ∃ gl' xs, Rel G ⟨DP.frz s.l (s.k.take n), s.k.drop n⟩ σ (vs.drop n) H gl' (gk.drop n) ∧ (vs.take n).reverse = xs.map some ∧ Reps G.m (Av G gl' (gk.drop n)) H ds xs := by
  obtain ⟨gl', R1, av⟩ := Rel.frz ok (s.k.take n) R
  have h' : svs (DP.frz s.l (s.k.take n)) (((gk.take n).reverse).map GS.slot) = some ds := by
    rw [svs_frz, List.map_reverse, List.map_take, R.ek]; exact h
  have hb : ∀ i, Slot.br i ∈ ((gk.take n).reverse).map GS.slot → Froz (DP.frz s.l (s.k.take n)) i := fun i hi => by
    rw [List.map_reverse, List.mem_reverse, List.map_take, R.ek] at hi
    exact frz_froz _ _ _ (.inr hi)
  obtain ⟨xs, e, r⟩ := R1.give n ok ((gk.take n).reverse) (fun g hg => List.mem_reverse.mp hg) hb ds h'
  exact ⟨gl', xs, (R1.pops n).1, by rw [← R.vk, ← List.map_take, ← List.map_reverse]; exact e, r⟩
/-- a local is set to what is not changed any more -/
theorem Rel.set_sh (R : Rel G s σ vs H gl gk) {i : Nat} {d : D} {v : V} (hb : ∀ w, GS.br i w ∉ gk) (h : Rep G.m (Av G gl gk) H d v) : ∃ gl', Rel G ⟨s.l.set i (.sh d), s.k⟩ (σ.set i (some v)) vs H gl' gk ∧ (∀ a, Av G gl' gk a → Av G gl gk a) := by
  have sub : ∀ q ∈ owns (gl.set i (.sh d v)), q ∈ owns gl := fun q hq => by
    obtain ⟨d', hd⟩ := mem_owns.mp hq
    rcases List.mem_or_eq_of_mem_set hd with z | z
    · exact mem_owns.mpr ⟨d', z⟩
    · cases z
  have subl : List.Sublist (owns (gl.set i (.sh d v))) (owns gl) := by
    cases e : gl[i]? with
    | none =>
      rw [List.set_eq_of_length_le (by simpa using e)]
      exact List.Sublist.refl _
    | some g =>
      obtain ⟨a, b, e1, _, e3⟩ := split_at e
      rw [e3, owns_mid]
      conv => rhs; rw [e1, owns_mid]
      exact List.Sublist.append (List.Sublist.refl _) (List.sublist_append_right _ _)
  have av : ∀ a, Av G (gl.set i (.sh d v)) gk a → Av G gl gk a := fun a ha => ha.elim .inl fun z => .inr ((List.mem_append.mp z).elim (fun z => List.mem_append_left _ (sub a z)) fun z => List.mem_append_right _ z)
  refine ⟨gl.set i (.sh d v), R.re (by rw [List.map_set, R.el]; rfl) R.ek (by rw [List.map_set, R.vl]; rfl) R.vk (List.Nodup.sublist (List.Sublist.append subl (List.Sublist.refl _)) R.nd)
    (fun p hp => (List.mem_append.mp hp).elim (fun z => List.mem_append_left _ (sub p z)) fun z => List.mem_append_right _ z) (fun x hx => ?_) (fun j w hj => ?_) (fun j w hj => ?_), av⟩
  · rcases List.mem_append.mp hx with z | z
    · rcases List.mem_or_eq_of_mem_set z with z | z
      · exact .inl (List.mem_append_left _ z)
      · subst z; exact .inr (Rep.sub (fun a ha => .inl (av a ha)) _ _ h)
    · exact .inl (List.mem_append_right _ z)
  · rcases List.mem_or_eq_of_mem_set hj with z | z
    · exact R.nb j w z
    · cases z
  · rw [List.getElem?_set_ne (fun q => hb w (by rw [q]; exact hj))]
    exact R.bv j w hj
/-- a local is emptied -/
theorem Rel.set_emp (R : Rel G s σ vs H gl gk) {i : Nat} : ∃ gl', Rel G ⟨s.l.set i .emp, s.k⟩ σ vs H gl' gk ∧ (∀ a, Av G gl' gk a → Av G gl gk a) := by
  cases e : gl[i]? with
  | none =>
    have hl : gl.length ≤ i := by simpa using e
    refine ⟨gl, ?_, fun _ h => h⟩
    rw [List.set_eq_of_length_le (by rw [← R.el, List.length_map]; exact hl)]
    exact R
  | some g =>
    obtain ⟨a, b, e1, _, e3⟩ := split_at e
    have own' : owns (gl.set i (.emp g.val)) = owns a ++ owns b := by rw [e3, owns_mid]; rfl
    have own0 : owns gl = owns a ++ (g.own ++ owns b) := by rw [e1, owns_mid]
    have subl : List.Sublist (owns (gl.set i (.emp g.val))) (owns gl) := by
      rw [own', own0]
      exact List.Sublist.append (List.Sublist.refl _) (List.sublist_append_right _ _)
    have av : ∀ a, Av G (gl.set i (.emp g.val)) gk a → Av G gl gk a := fun a ha => ha.elim .inl fun z => .inr ((List.mem_append.mp z).elim (fun z => List.mem_append_left _ (subl.subset z)) fun z => List.mem_append_right _ z)
    refine ⟨gl.set i (.emp g.val), R.re (by rw [List.map_set, R.el]; rfl) R.ek ?_ R.vk (List.Nodup.sublist (List.Sublist.append subl (List.Sublist.refl _)) R.nd)
      (fun p hp => (List.mem_append.mp hp).elim (fun z => List.mem_append_left _ (subl.subset z)) fun z => List.mem_append_right _ z) (fun x hx => ?_) (fun j w hj => ?_) (fun j w hj => R.bv j w hj), av⟩
    · rw [e3, ← R.vl, e1, List.map_append, List.map_append, List.map_cons, List.map_cons]; rfl
    · rcases List.mem_append.mp hx with z | z
      · rcases List.mem_or_eq_of_mem_set z with z | z
        · exact .inl (List.mem_append_left _ z)
        · subst z; exact .inr trivial
      · exact .inl (List.mem_append_right _ z)
    · rcases List.mem_or_eq_of_mem_set hj with z | z
      · exact R.nb j w z
      · cases z
/-- a local takes the owned thing on the top of the stack -/
theorem Rel.set_ow (R : Rel G s σ vs H gl gk) {i : Nat} {d : D} {p : Addr} {gr : List GS} (e : gk = .ow d p :: gr) (hb : ∀ w, GS.br i w ∉ gr) (hi : i < s.l.length) :
    ∃ gl', Rel G ⟨s.l.set i (.ow d), s.k.tail⟩ (σ.set i (some (.ref p))) vs.tail H gl' gr := by
  subst e
  have hl : i < gl.length := by rw [← R.el, List.length_map] at hi; exact hi
  obtain ⟨a, b, e1, _, e3⟩ := split_at (List.getElem?_eq_getElem hl)
  have own' : owns (gl.set i (.ow d p)) = owns a ++ (p :: owns b) := by rw [e3, owns_mid]; rfl
  have own0 : owns gl = owns a ++ (GS.own gl[i] ++ owns b) := by conv => lhs; rw [e1, owns_mid]
  have ownk : owns (GS.ow d p :: gr) = p :: owns gr := by rw [owns_cons]; rfl
  have nd := R.nd
  rw [own0, ownk] at nd
  refine ⟨gl.set i (.ow d p), R.re (by rw [List.map_set, R.el]; rfl) (by rw [← R.ek]; rfl) (by rw [List.map_set, R.vl]; rfl) (by rw [← R.vk]; rfl) ?_ (fun q hq => ?_) (fun x hx => ?_) (fun j w hj => ?_) (fun j w hj => ?_)⟩
  · rw [own']
    rw [List.nodup_append] at nd ⊢
    obtain ⟨n1, n2, n3⟩ := nd
    obtain ⟨m1, m2⟩ := List.nodup_cons.mp n2
    rw [List.nodup_append] at n1
    obtain ⟨k1, k2, k3⟩ := n1
    rw [List.nodup_append] at k2
    obtain ⟨j1, j2, j3⟩ := k2
    refine ⟨List.nodup_append.mpr ⟨k1, List.nodup_cons.mpr ⟨fun z => n3 p (List.mem_append_right _ (List.mem_append_right _ z)) p List.mem_cons_self rfl, j2⟩, fun x hx y hy => ?_⟩, m2, fun x hx y hy => ?_⟩
    · rcases List.mem_cons.mp hy with z | z
      · rw [z]; exact n3 x (List.mem_append_left _ hx) p List.mem_cons_self
      · exact k3 x hx y (List.mem_append_right _ z)
    · rcases List.mem_append.mp hx with z | z
      · exact n3 x (List.mem_append_left _ z) y (List.mem_cons_of_mem _ hy)
      · rcases List.mem_cons.mp z with z | z
        · rw [z]; exact fun q => m1 (by rw [q]; exact hy)
        · exact n3 x (List.mem_append_right _ (List.mem_append_right _ z)) y (List.mem_cons_of_mem _ hy)
  · rw [own'] at hq
    rw [own0, ownk]
    rcases List.mem_append.mp hq with z | z
    · rcases List.mem_append.mp z with z | z
      · exact List.mem_append_left _ (List.mem_append_left _ z)
      · rcases List.mem_cons.mp z with z | z
        · rw [z]; exact List.mem_append_right _ List.mem_cons_self
        · exact List.mem_append_left _ (List.mem_append_right _ (List.mem_append_right _ z))
    · exact List.mem_append_right _ (List.mem_cons_of_mem _ z)
  · rcases List.mem_append.mp hx with z | z
    · rcases List.mem_or_eq_of_mem_set z with z | z
      · exact .inl (List.mem_append_left _ z)
      · subst z; exact .inl (List.mem_append_right _ List.mem_cons_self)
    · exact .inl (List.mem_append_right _ (List.mem_cons_of_mem _ z))
  · rcases List.mem_or_eq_of_mem_set hj with z | z
    · exact R.nb j w z
    · cases z
  · rw [List.getElem?_set_ne (fun q => hb w (by rw [q]; exact hj))]
    exact R.bv j w (List.mem_cons_of_mem _ hj)
/-- the list (dict) that a local owns is changed -/
theorem Rel.mut (ok : G.Ok) (R : Rel G s σ vs H gl gk) {i : Nat} {d d' : D} {p : Addr} {o : HO} (hg : gl[i]? = some (.ow d p)) (h : OwAt G.m (Av G gl gk) (upd H p o) d' p) :
    ∃ gl', Rel G ⟨s.l.set i (.ow d'), s.k⟩ σ vs (upd H p o) gl' gk ∧ ∀ a, Av G gl' gk a ↔ Av G gl gk a := by
  obtain ⟨a, b, e1, e2, e3⟩ := split_at hg
  have own' : owns (gl.set i (.ow d' p)) = owns gl := by
    rw [e3, owns_mid]
    conv => rhs; rw [e1, owns_mid]
    rfl
  have av : ∀ a, Av G (gl.set i (.ow d' p)) gk a ↔ Av G gl gk a := fun a => by unfold Av; rw [own']
  have hp : p ∈ owns gl ++ owns gk := List.mem_append_left _ (mem_owns.mpr ⟨d, List.mem_of_getElem? hg⟩)
  obtain ⟨u, hu, ow⟩ := R.there hp
  have h0 := R.fr p hp
  have nR : ¬ G.m.R p := fun z => h0 (ok.ah p (ok.ra p z))
  have kA : Kp (Av G gl gk) H (upd H p o) := Kp.mut hu ow (.inr hp) (own_nt h)
  have ndp : ∀ g q, GS.ow g q ∈ gl ++ gk → GS.ow g q ≠ GS.ow d p → (∀ g', g' ∈ gl ++ gk → True) → True := fun _ _ _ _ _ => trivial
  refine ⟨gl.set i (.ow d' p), ⟨by rw [List.map_set, R.el]; rfl, R.ek, ?_, R.vk, by rw [own']; exact R.nd, by rw [own']; exact R.fr, fun g hx => ?_, fun j w hj => ?_, fun j w hj => R.bv j w hj, ?_, (ok.m.jm' R.j hu ow nR).le (Nat.add_le_add_left (Nat.add_le_add_right (cred_set0 _ _ rfl) _) _)⟩, av⟩
  · rw [← R.vl, e3, e1, List.map_append, List.map_append, List.map_cons, List.map_cons]; rfl
  · have sub : ∀ a, Av G (gl.set i (.ow d' p)) gk a → Av G gl gk a := fun a ha => (av a).mp ha
    -- which one
    have cases3 : g = .ow d' p ∨ (g ∈ (a ++ b) ++ gk) := by
      rw [e3] at hx
      rcases List.mem_append.mp hx with z | z
      · rcases List.mem_append.mp z with z | z
        · exact .inr (List.mem_append_left _ (List.mem_append_left _ z))
        · rcases List.mem_cons.mp z with z | z
          · exact .inl z
          · exact .inr (List.mem_append_left _ (List.mem_append_right _ z))
      · exact .inr (List.mem_append_right _ z)
    rcases cases3 with z | z
    · subst z; exact OwAt.sub (fun a ha => .inl (sub a ha)) h
    · have hm : g ∈ gl ++ gk := by
        rcases List.mem_append.mp z with z | z
        · refine List.mem_append_left _ ?_
          rw [e1]
          rcases List.mem_append.mp z with z | z
          · exact List.mem_append_left _ z
          · exact List.mem_append_right _ (List.mem_cons_of_mem _ z)
        · exact List.mem_append_right _ z
      have hr := R.rp g hm
      refine GRep.sub (fun a ha => .inl (sub a ha)) ?_
      cases g with
      | emp _ => trivial
      | br _ _ => trivial
      | crd _ => trivial
      | sh d v => exact Rep.keep ok.m kA _ _ hr
      | ow e q =>
        have nq : q ≠ p := by
          intro w
          subst w
          have nd := R.nd
          rw [e1, owns_mid] at nd
          have : q ∈ owns (a ++ b) ++ owns gk := by
            rcases List.mem_append.mp z with z | z
            · exact List.mem_append_left _ (mem_owns.mpr ⟨e, z⟩)
            · exact List.mem_append_right _ (mem_owns.mpr ⟨e, z⟩)
          rw [owns_append] at this
          rw [List.append_assoc, List.nodup_append] at nd
          obtain ⟨n1, n2, n3⟩ := nd
          have n2' : (q :: (owns b ++ owns gk)).Nodup := by simpa [GS.own] using n2
          have n4 := (List.nodup_cons.mp n2').1
          rcases List.mem_append.mp this with z | z
          · rcases List.mem_append.mp z with z | z
            · exact n3 q z q (by simp [GS.own]) rfl
            · exact n4 (List.mem_append_left _ z)
          · exact n4 (List.mem_append_right _ z)
        exact OwAt.keep ok.m kA (upd_ne nq) hr
  · rcases List.mem_or_eq_of_mem_set hj with z | z
    · exact R.nb j w z
    · cases z
  · have km : Kp (fun a => G.m.R a ∨ a = p) H (upd H p o) := Kp.mut hu ow (.inr rfl) (own_nt h)
    refine ⟨fun q xs e => km.t _ _ (R.ke.t q xs e), fun q o u e => km.f _ _ _ (R.ke.f q o u e), fun q u e n z => ?_, fun q e => km.d q (R.ke.d q e), fun q φ e sx => km.x q φ (R.ke.x q φ e sx) sx⟩
    rw [upd_ne (fun w => h0 ⟨u, by rw [← w]; exact e, z⟩)]
    exact R.ke.k q u e n z
end
end DP

set_option Elab.async false
set_option linter.all false
set_option maxRecDepth 100000
set_option maxHeartbeats 1000000
/-! E3: each operation of the code, by values. -/
namespace DP
open PySem PySem.Spec PyProof.Rows L2

/-! ### data as the library's data -/
def toPy : D → PyData
  | .non => .none
  | .bl b => .bool b
  | .int i => .int i
  | .str x => .str x
  | .tup ds => .tuple (toPys ds)
  | .lst ds => .list (toPys ds)
  | _ => .none
where
  toPys : List D → List PyData
  | [] => []
  | d :: ds => toPy d :: toPys ds
mutual
theorem pln_lay : ∀ (d : D) (n : Nat), d.pln n = true → (toPy d).canLay0 = true
  | .non, _, _ => by simp [toPy, PyData.canLay0]
  | .bl _, _, _ => by simp [toPy, PyData.canLay0]
  | .int _, _, _ => by simp [toPy, PyData.canLay0]
  | .str x, _, h => by simpa [toPy, PyData.canLay0, D.pln] using h
  | .tup ds, 0, h => by simp [D.pln] at h
  | .lst ds, 0, h => by simp [D.pln] at h
  | .tup ds, n + 1, h => by
    simp only [toPy, PyData.canLay0]
    exact plns_lay ds n (by simpa [D.pln] using h)
  | .lst ds, n + 1, h => by
    simp only [toPy, PyData.canLay0]
    exact plns_lay ds n (by simpa [D.pln] using h)
  | .dct _ _, _, h => by simp [D.pln] at h
  | .rng _ _, _, h => by simp [D.pln] at h
  | .exc _ _, _, h => by simp [D.pln] at h
  | .fn _, _, h => by simp [D.pln] at h
  | .cls _, _, h => by simp [D.pln] at h
  | .ty _, _, h => by simp [D.pln] at h
  | .res, _, h => by simp [D.pln] at h
  | .scr _, _, h => by simp [D.pln] at h
  | .lam _, _, h => by simp [D.pln] at h
  | .thk _ _, _, h => by simp [D.pln] at h
theorem plns_lay : ∀ (ds : List D) (n : Nat), D.pln.plns ds n = true → PyData.canLayAll0 (toPy.toPys ds) = true
  | [], _, _ => by simp [toPy.toPys, PyData.canLayAll0]
  | d :: ds, n, h => by
    have h' : d.pln n = true ∧ D.pln.plns ds n = true := by simpa [D.pln.plns] using h
    simp only [toPy.toPys, PyData.canLayAll0, pln_lay d n h'.1, plns_lay ds n h'.2, Bool.and_self]
end
mutual
theorem pln_dep : ∀ (d : D) (n : Nat), d.pln n = true → (toPy d).depth ≤ n
  | .non, _, _ => by simp [toPy, PyData.depth]
  | .bl _, _, _ => by simp [toPy, PyData.depth]
  | .int _, _, _ => by simp [toPy, PyData.depth]
  | .str x, _, h => by simp [toPy, PyData.depth]
  | .tup ds, 0, h => by simp [D.pln] at h
  | .lst ds, 0, h => by simp [D.pln] at h
  | .tup ds, n + 1, h => by
    simp only [toPy, PyData.depth]
    have := plns_dep ds n (by simpa [D.pln] using h)
    omega
  | .lst ds, n + 1, h => by
    simp only [toPy, PyData.depth]
    have := plns_dep ds n (by simpa [D.pln] using h)
    omega
  | .dct _ _, _, h => by simp [D.pln] at h
  | .rng _ _, _, h => by simp [D.pln] at h
  | .exc _ _, _, h => by simp [D.pln] at h
  | .fn _, _, h => by simp [D.pln] at h
  | .cls _, _, h => by simp [D.pln] at h
  | .ty _, _, h => by simp [D.pln] at h
  | .res, _, h => by simp [D.pln] at h
  | .scr _, _, h => by simp [D.pln] at h
  | .lam _, _, h => by simp [D.pln] at h
  | .thk _ _, _, h => by simp [D.pln] at h
theorem plns_dep : ∀ (ds : List D) (n : Nat), D.pln.plns ds n = true → PyData.depthAll (toPy.toPys ds) ≤ n
  | [], _, _ => by simp [toPy.toPys, PyData.depthAll]
  | d :: ds, n, h => by
    have h' : d.pln n = true ∧ D.pln.plns ds n = true := by simpa [D.pln.plns] using h
    have h1 := pln_dep d n h'.1
    have h2 := plns_dep ds n h'.2
    simp only [toPy.toPys, PyData.depthAll]
    omega
end
theorem pln_shaped {d : D} (h : d.pln 60 = true) : SeqAt.shaped (toPy d) = true := by
  have h1 := pln_dep d 60 h
  show ((toPy d).canLay0 && decide ((toPy d).depth ≤ 64)) = true
  rw [pln_lay d 60 h, decide_eq_true (by omega)]
  rfl
mutual
theorem eqq_py : ∀ (d e : D) (n m : Nat), d.pln n = true → e.pln m = true → PyData.eqv (toPy d) (toPy e) = D.eqq d e
  | .tup ds, .tup es, n + 1, m + 1, h, h' => by
    simp only [toPy, PyData.eqv, D.eqq]
    exact eqqs_py ds es n m (by simpa [D.pln] using h) (by simpa [D.pln] using h')
  | .lst ds, .lst es, n + 1, m + 1, h, h' => by
    simp only [toPy, PyData.eqv, D.eqq]
    exact eqqs_py ds es n m (by simpa [D.pln] using h) (by simpa [D.pln] using h')
  | .tup _, .tup _, 0, _, h, _ => by simp [D.pln] at h
  | .lst _, .lst _, 0, _, h, _ => by simp [D.pln] at h
  | .tup _, .tup _, _ + 1, 0, _, h => by simp [D.pln] at h
  | .lst _, .lst _, _ + 1, 0, _, h => by simp [D.pln] at h
  | .non, e, n, m, h, h' => by cases e <;> first | (simp [D.pln] at h'; done) | (simp [toPy, PyData.eqv, D.eqq]; done)
  | .bl _, e, n, m, h, h' => by cases e <;> first | (simp [D.pln] at h'; done) | (simp [toPy, PyData.eqv, D.eqq]; done)
  | .int _, e, n, m, h, h' => by cases e <;> first | (simp [D.pln] at h'; done) | (simp [toPy, PyData.eqv, D.eqq]; done)
  | .str _, e, n, m, h, h' => by cases e <;> first | (simp [D.pln] at h'; done) | (simp [toPy, PyData.eqv, D.eqq]; done)
  | .tup _, .non, _, _, _, _ => by simp [toPy, PyData.eqv, D.eqq]
  | .tup _, .bl _, _, _, _, _ => by simp [toPy, PyData.eqv, D.eqq]
  | .tup _, .int _, _, _, _, _ => by simp [toPy, PyData.eqv, D.eqq]
  | .tup _, .str _, _, _, _, _ => by simp [toPy, PyData.eqv, D.eqq]
  | .tup _, .lst _, _, _, _, _ => by simp [toPy, PyData.eqv, D.eqq]
  | .lst _, .non, _, _, _, _ => by simp [toPy, PyData.eqv, D.eqq]
  | .lst _, .bl _, _, _, _, _ => by simp [toPy, PyData.eqv, D.eqq]
  | .lst _, .int _, _, _, _, _ => by simp [toPy, PyData.eqv, D.eqq]
  | .lst _, .str _, _, _, _, _ => by simp [toPy, PyData.eqv, D.eqq]
  | .lst _, .tup _, _, _, _, _ => by simp [toPy, PyData.eqv, D.eqq]
  | .dct _ _, _, _, _, h, _ => by simp [D.pln] at h
  | .rng _ _, _, _, _, h, _ => by simp [D.pln] at h
  | .exc _ _, _, _, _, h, _ => by simp [D.pln] at h
  | .fn _, _, _, _, h, _ => by simp [D.pln] at h
  | .cls _, _, _, _, h, _ => by simp [D.pln] at h
  | .ty _, _, _, _, h, _ => by simp [D.pln] at h
  | .res, _, _, _, h, _ => by simp [D.pln] at h
  | .scr _, _, _, _, h, _ => by simp [D.pln] at h
  | .lam _, _, _, _, h, _ => by simp [D.pln] at h
  | .thk _ _, _, _, _, h, _ => by simp [D.pln] at h
  | _, .dct _ _, _, _, _, h => by simp [D.pln] at h
  | _, .rng _ _, _, _, _, h => by simp [D.pln] at h
  | _, .exc _ _, _, _, _, h => by simp [D.pln] at h
  | _, .fn _, _, _, _, h => by simp [D.pln] at h
  | _, .cls _, _, _, _, h => by simp [D.pln] at h
  | _, .ty _, _, _, _, h => by simp [D.pln] at h
  | _, .res, _, _, _, h => by simp [D.pln] at h
  | _, .scr _, _, _, _, h => by simp [D.pln] at h
  | _, .lam _, _, _, _, h => by simp [D.pln] at h
  | _, .thk _ _, _, _, _, h => by simp [D.pln] at h
theorem eqqs_py : ∀ (ds es : List D) (n m : Nat), D.pln.plns ds n = true → D.pln.plns es m = true → PyData.eqvAll (toPy.toPys ds) (toPy.toPys es) = D.eqq.eqs ds es
  | [], [], _, _, _, _ => by simp [toPy.toPys, PyData.eqvAll, D.eqq.eqs]
  | [], _ :: _, _, _, _, _ => by simp [toPy.toPys, PyData.eqvAll, D.eqq.eqs]
  | _ :: _, [], _, _, _, _ => by simp [toPy.toPys, PyData.eqvAll, D.eqq.eqs]
  | d :: ds, e :: es, n, m, h, h' => by
    have h1 : d.pln n = true ∧ D.pln.plns ds n = true := by simpa [D.pln.plns] using h
    have h2 : e.pln m = true ∧ D.pln.plns es m = true := by simpa [D.pln.plns] using h'
    simp only [toPy.toPys, PyData.eqvAll, D.eqq.eqs, eqq_py d e n m h1.1 h2.1, eqqs_py ds es n m h1.2 h2.2]
end
section
variable {G : MG} {A : Addr → Prop} {H : Hp}
mutual
theorem Rep.dp : ∀ (d : D) (v : V) (n : Nat), d.pln n = true → Rep G A H d v → Dp G.K H v (toPy d)
  | .non, _, _, _, h => by cases h; exact .non
  | .bl _, _, _, _, h => by cases h; exact .bl _
  | .int _, _, _, _, h => by cases h; exact .int _
  | .str _, _, _, _, h => by cases h; exact .str _
  | .tup _, _, 0, h, _ => by simp [D.pln] at h
  | .lst _, _, 0, h, _ => by simp [D.pln] at h
  | .tup ds, v, n + 1, h, r => by
    obtain ⟨a, xs, e, s, r⟩ := r
    subst e
    exact .tup s (Reps.dp ds xs n (by simpa [D.pln] using h) r)
  | .lst ds, v, n + 1, h, r => by
    obtain ⟨a, xs, e, s, _, r⟩ := r
    subst e
    exact .lst (SqL.of s) (Reps.dp ds xs n (by simpa [D.pln] using h) r)
  | .dct _ _, _, _, h, _ => by simp [D.pln] at h
  | .rng _ _, _, _, h, _ => by simp [D.pln] at h
  | .exc _ _, _, _, h, _ => by simp [D.pln] at h
  | .fn _, _, _, h, _ => by simp [D.pln] at h
  | .cls _, _, _, h, _ => by simp [D.pln] at h
  | .ty _, _, _, h, _ => by simp [D.pln] at h
  | .res, _, _, h, _ => by simp [D.pln] at h
  | .scr _, _, _, h, _ => by simp [D.pln] at h
  | .lam _, _, _, h, _ => by simp [D.pln] at h
  | .thk _ _, _, _, h, _ => by simp [D.pln] at h
theorem Reps.dp : ∀ (ds : List D) (xs : List V) (n : Nat), D.pln.plns ds n = true → Reps G A H ds xs → DpAll G.K H xs (toPy.toPys ds)
  | [], _, _, _, h => by cases h; exact .nil
  | d :: ds, _, n, h, r => by
    obtain ⟨v, vr, e, r1, r2⟩ := r
    subst e
    have h1 : d.pln n = true ∧ D.pln.plns ds n = true := by simpa [D.pln.plns] using h
    exact .cons (Rep.dp d v n h1.1 r1) (Reps.dp ds vr n h1.2 r2)
end
theorem Top.dp {d : D} {v : V} {n : Nat} (h : d.pln n = true) (r : Top G A H d v) : Dp G.K H v (toPy d) := by
  cases d with
  | lst ds =>
    obtain ⟨a, xs, e, s, r⟩ := r
    subst e
    cases n with
    | zero => simp [D.pln] at h
    | succ n => exact .lst (SqL.of s) (Reps.dp ds xs n (by simpa [D.pln] using h) r)
  | dct _ _ => simp [D.pln] at h
  | rng _ _ => simp [D.pln] at h
  | _ => exact Rep.dp (A := A) _ _ n h r
end

/-! ### what an operation hands on -/
/-- v is the answer d (new, and no one else's, if fr) in the heap H', which has grown from H -/
structure Res (G : MG) (A : Addr → Prop) (H H' : Hp) (d : D) (fr : Bool) (v : V) : Prop where
  k : Kp (fun _ => False) H H'
  j : ∀ c, G.Jc c H → G.Jc c H'
  r : if fr then ∃ p, v = .ref p ∧ H p = none ∧ OwAt G (fun a => A a ∨ a = p) H' d p else Rep G A H' d v
theorem Res.same {G : MG} {A : Addr → Prop} {H : Hp} {d : D} {v : V} (h : Rep G A H d v) : Res G A H H d false v := ⟨Kp.refl _ _, fun _ h => h, h⟩
theorem Res.new {G : MG} (ok : G.Ok) {A : Addr → Prop} {H : Hp} {d : D} {p : Addr} {o : HO} (hp : H p = none) (h : Rep G A (upd H p o) d (.ref p)) : Res G A H (upd H p o) d false (.ref p) :=
  ⟨Kp.new hp, fun _ j => ok.jn' j hp, h⟩
theorem Res.newO {G : MG} (ok : G.Ok) {A : Addr → Prop} {H : Hp} {d : D} {p : Addr} {o : HO} (hp : H p = none) (h : OwAt G (fun a => A a ∨ a = p) (upd H p o) d p) : Res G A H (upd H p o) d true (.ref p) :=
  ⟨Kp.new hp, fun _ j => ok.jn' j hp, p, rfl, hp, h⟩
/-- a new tuple of things -/
theorem Rep.newTup {G : MG} (ok : G.Ok) {A : Addr → Prop} {H : Hp} {ds : List D} {xs : List V} {p : Addr} (hp : H p = none) (r : Reps G A H ds xs) : Rep G A (upd H p (.tup xs)) (.tup ds) (.ref p) :=
  ⟨p, xs, rfl, SqT.of upd_same, Reps.keep ok (Kp.new hp) _ _ r⟩
theorem OwAt.newLst {G : MG} (ok : G.Ok) {A : Addr → Prop} {H : Hp} {ds : List D} {xs : List V} {p : Addr} (hp : H p = none) (r : Reps G A H ds xs) : OwAt G (fun a => A a ∨ a = p) (upd H p (.lst xs)) (.lst ds) p :=
  ⟨xs, upd_same, Reps.keep ok (Kp.new hp) _ _ (Reps.sub (fun a h => h.elim .inl fun q => .inr (by rw [q]; exact nt_none hp)) _ _ r)⟩
theorem Rel.push_res {G : GC} {s : St} {σ : L2.St} {vs : List (Option V)} {H H' : Hp} {gl gk : List GS} {A : Addr → Prop} {d : D} {fr : Bool} {v : V} (ok : G.Ok) (R : Rel G s σ vs H gl gk) (hA : ∀ a, Av G gl gk a → A a) (h : Res G.m A H H' d fr v) :
    ∃ gk', Rel G (s.push (fsh d fr)) σ (some v :: vs) H' gl gk' := by
  have R1 := R.heap ok (h.k.mono fun _ z => z.elim) (h.j _ R.j)
  have hr := h.r
  cases fr with
  | false =>
    have hr : Rep G.m A H' d v := hr
    exact ⟨_, R1.push_sh (Rep.sub (fun a z => .inl (hA a z)) _ _ hr)⟩
  | true =>
    obtain ⟨p, rfl, hp, ho⟩ := (show ∃ p, v = .ref p ∧ H p = none ∧ OwAt G.m (fun a => A a ∨ a = p) H' d p from hr)
    have n1 : p ∉ owns gl ++ owns gk := fun z => by
      obtain ⟨u, e, _⟩ := R.there z
      rw [hp] at e; cases e
    refine ⟨_, R1.push_ow n1 (fun z => nt_none hp (R.ke.d p z)) (fun g hg => ?_) (OwAt.sub (fun a z => .inl (z.imp (hA a) id)) ho)⟩
    have z : GRep G.m (fun a => Av G gl gk a ∨ a = p) H g := GRep.sub (fun a ha => ha.elim .inl fun q => .inr (by rw [q]; exact nt_none hp)) (R.rp g hg)
    have kA : Kp (fun a => Av G gl gk a ∨ a = p) H H' := h.k.mono fun _ z => z.elim
    cases g with
    | emp _ => trivial
    | br _ _ => trivial
    | crd _ => trivial
    | sh d v => exact Rep.keep ok.m kA _ _ z
    | ow d q =>
      obtain ⟨u, hu, ow⟩ := OwAt.there z
      exact OwAt.keep ok.m kA ((h.k.k q u hu (fun z => z) (fun ps z => by rw [z] at ow; exact ow)).trans hu.symm) z
end DP

set_option Elab.async false
set_option linter.all false
set_option maxRecDepth 100000
set_option maxHeartbeats 1000000
/-! E3b: operators, comparisons, subscripts, built-ins by values. -/
namespace DP
open PySem PySem.Spec PyProof.Rows L2

def BinK.op : BinK → Operator
  | .add => .Add
  | .sub => .Sub
  | .mul => .Mult
  | .fdiv => .FloorDiv
  | .mod => .Mod
  | .pow => .Pow
  | .band => .BitAnd
  | .shl => .LShift
  | .shr => .RShift
def CmpK.op : CmpK → CmpOp
  | .eq => .Eq
  | .ne => .NotEq
  | .lt => .Lt
  | .le => .LtE
  | .gt => .Gt
  | .ge => .GtE
  | .is => .Is
  | .isnot => .IsNot
  | .mem => .In
  | .nmem => .NotIn
section
variable {X : Cx} {G : MG}
def rB (G : MG) (k : BinK) : R2 := fun v u H Q => ∃ A x y, Top G A H x v ∧ Top G A H y u ∧ binS k x y fun d fr => ∀ v' H', Res G A H H' d fr v' → Q v' H'
theorem Reps.flat {A : Addr → Prop} {H : Hp} : ∀ (k : Nat) {ds : List D} {xs : List V}, Reps G A H ds xs → Reps G A H (List.replicate k ds).flatten (List.replicate k xs).flatten
  | 0, _, _, _ => by simp [Reps, Rep.Reps]
  | k + 1, ds, xs, h => by
    rw [List.replicate_succ, List.replicate_succ, List.flatten_cons, List.flatten_cons]
    exact Reps.app h (Reps.flat k h)
theorem opB_ok (ok : G.Ok) (hK : X.K = G.K) (k : BinK) : OpR X (binaryOp k.op) (rB G k) := by
  intro pins s σ H v u vv uu Q I rv ru h
  obtain ⟨A, x, y, tx, ty, w⟩ := h
  unfold binS at w
  split at w
  · exact op_add pins s σ H v u vv uu Q I rv ru ⟨_, _, tx, ty, w _ _ (Res.same rfl)⟩
  · exact op_add_str pins s σ H v u vv uu Q I rv ru ⟨_, _, tx, ty, w.1, w.2 _ _ (Res.same rfl)⟩
  · rename_i xs ys
    obtain ⟨a, us, e, s1, r1⟩ := tx
    obtain ⟨b, ws, e', s2, r2⟩ := ty
    have l1 := Reps.len r1
    have l2 := Reps.len r2
    refine op_catA pins s σ H v u vv uu Q I rv ru ⟨a, b, us, ws, e, e', hK ▸ s1, hK ▸ s2, by rw [← l1, ← l2]; exact w.1, fun h0 => ?_, fun _ h => ?_, fun _ _ p hp => w.2 _ _ (Res.new ok hp (Rep.newTup ok hp (Reps.app r1 r2)))⟩
    · subst h0
      have x0 : xs = [] := List.eq_nil_of_length_eq_zero (by simpa using l1)
      subst x0
      exact w.2 _ _ (Res.same ⟨b, ws, rfl, s2, r2⟩)
    · subst h
      have y0 : ys = [] := List.eq_nil_of_length_eq_zero (by simpa using l2)
      subst y0
      exact w.2 _ _ (Res.same ⟨a, us, rfl, s1, by rw [List.append_nil]; exact r1⟩)
  · obtain ⟨a, us, e, s1, r1⟩ := tx
    obtain ⟨b, ws, e', s2, r2⟩ := ty
    exact op_cat pins s σ H v u vv uu Q I rv ru ⟨a, b, us, ws, e, e', s1, s2, by rw [← Reps.len r1, ← Reps.len r2]; exact w.1, fun p hp => w.2 _ _ (Res.newO ok hp (OwAt.newLst ok hp (Reps.app r1 r2)))⟩
  · exact op_sub pins s σ H v u vv uu Q I rv ru ⟨_, _, tx, ty, w _ _ (Res.same rfl)⟩
  · exact op_mul pins s σ H v u vv uu Q I rv ru ⟨_, _, tx, ty, w.1, w.2 _ _ (Res.same rfl)⟩
  · obtain ⟨a, us, e, s1, r1⟩ := tx
    have l1 := Reps.len r1
    exact op_repT pins s σ H v u vv uu Q I rv ru ⟨a, _, us, e, ty, hK ▸ s1, fun z => w.1 (List.eq_nil_of_length_eq_zero (by rw [l1, z]; rfl)), w.2.1, w.2.2.1, by rw [← l1]; exact w.2.2.2.1, fun p hp => w.2.2.2.2 _ _ (Res.new ok hp (Rep.newTup ok hp (Reps.flat _ r1)))⟩
  · obtain ⟨a, us, e, s1, r1⟩ := tx
    have h1 : (2 : Int) ^ 62 < 2 ^ 63 := by decide
    exact op_rep pins s σ H v u vv uu Q I rv ru ⟨a, _, us, e, ty, s1, by omega, by omega, by rw [← Reps.len r1]; exact w.2.2.1, fun p hp => w.2.2.2 _ _ (Res.newO ok hp (OwAt.newLst ok hp (Reps.flat _ r1)))⟩
  · exact op_fdivN pins s σ H v u vv uu Q I rv ru ⟨_, _, tx, ty, w.1, w.2 _ _ (Res.same rfl)⟩
  · exact op_modN pins s σ H v u vv uu Q I rv ru ⟨_, _, tx, ty, w.1, w.2 _ _ (Res.same rfl)⟩
  · exact op_pow pins s σ H v u vv uu Q I rv ru ⟨_, _, tx, ty, w.1, w.2 _ _ (Res.same rfl)⟩
  · exact op_and pins s σ H v u vv uu Q I rv ru ⟨_, _, tx, ty, w _ _ (Res.same rfl)⟩
  · exact op_shl pins s σ H v u vv uu Q I rv ru ⟨_, _, tx, ty, w.1, w.2 _ _ (Res.same rfl)⟩
  · exact op_shr pins s σ H v u vv uu Q I rv ru ⟨_, _, tx, ty, w.1, w.2 _ _ (Res.same rfl)⟩
  · exact w.elim

/-! ### comparisons -/
def rC (G : MG) (k : CmpK) : R2 := fun v u H Q => ∃ A x y, Top G A H x v ∧ Top G A H y u ∧ cmpS k x y fun b => Q (.bl b) H
theorem any_py {d : D} {n m : Nat} (hd : d.pln n = true) : ∀ (ds : List D), D.pln.plns ds m = true → ((toPy.toPys ds).any fun y => PyData.eqv y (toPy d)) = memD d ds
  | [], _ => rfl
  | y :: ys, h => by
    have h1 : y.pln m = true ∧ D.pln.plns ys m = true := by simpa [D.pln.plns] using h
    have ih := any_py hd ys h1.2
    unfold memD at ih ⊢
    rw [toPy.toPys, List.any_cons, List.any_cons, eqq_py y d m n h1.1 hd, ih]
theorem ints_reps {A : Addr → Prop} {H : Hp} : ∀ {ds : List D} {xs : List V} {ns : List Int}, Reps G A H ds xs → ints? ds = some ns → xs = ns.map V.int
  | [], _, ns, h, e => by cases h; simp [ints?] at e; subst e; rfl
  | d :: ds, _, ns, h, e => by
    obtain ⟨v, r, rfl, h1, h2⟩ := h
    cases d with
    | int i =>
      simp only [ints?] at e
      cases e2 : ints? ds with
      | none => rw [e2] at e; cases e
      | some ms =>
        rw [e2] at e
        cases e
        have h1 : v = .int i := h1
        rw [h1, ints_reps h2 e2]; rfl
    | _ => simp [ints?] at e
theorem bls_reps {A : Addr → Prop} {H : Hp} : ∀ {ds : List D} {xs : List V} {ns : List Bool}, Reps G A H ds xs → bls? ds = some ns → xs = ns.map V.bl
  | [], _, ns, h, e => by cases h; simp [bls?] at e; subst e; rfl
  | d :: ds, _, ns, h, e => by
    obtain ⟨v, r, rfl, h1, h2⟩ := h
    cases d with
    | bl i =>
      simp only [bls?] at e
      cases e2 : bls? ds with
      | none => rw [e2] at e; cases e
      | some ms =>
        rw [e2] at e
        cases e
        have h1 : v = .bl i := h1
        rw [h1, bls_reps h2 e2]; rfl
    | _ => simp [bls?] at e
/-- in, not in, by data -/
theorem mem_ok (hu : X.A.units + 80 < cLine) {pins : List (Addr × Obj)} {s : Shared} {σ : L2.St} {H : Hp} {v u : V} {vv uu : Value} {A : Addr → Prop} {x : D} {ds : List D} (hK : X.K = G.K) (I : Inv X pins σ H s) (rv : RelV v vv) (ru : RelV u uu)
    (tx : Top G A H x v) (hx : x.pln 60 = true) (t : Bool) (ty : Top G A H (if t then .tup ds else .lst ds) u) (hy : (if t then D.tup ds else D.lst ds).pln 60 = true) (neg : Bool) {Q : VK} (q : Q (.bl (if neg then !memD x ds else memD x ds)) H) :
    wpAny (model X.prog X.w) X.A (compareOp (if neg then .NotIn else .In) vv uu) (EP X pins σ Q) X.xe s := by
  have d1 := Top.dp hx tx
  have d2 := Top.dp hy ty
  rw [← hK] at d1 d2
  obtain ⟨as, R1⟩ := Dp.reads I _ v vv d1 rv
  obtain ⟨bs, R2⟩ := Dp.reads I _ u uu d2 ru
  have h1 := pln_dep x 60 hx
  have hys : D.pln.plns ds 59 = true := by cases t <;> simpa [D.pln] using hy
  have e := any_py (m := 59) hx ds hys
  have hroom : X.A.units + 1 + min (PyData.depthAll (toPy.toPys ds)) (toPy x).depth < cLine := by
    have : min (PyData.depthAll (toPy.toPys ds)) (toPy x).depth ≤ (toPy x).depth := Nat.min_le_right _ _
    omega
  have fin : ∀ b : Bool, b = (if neg then !memD x ds else memD x ds) → EP X pins σ Q (.bool b) s := fun b hb => ⟨.bl b, H, I, rfl, by rw [hb]; exact q⟩
  cases t with
  | true =>
    have R2 : Reads s.heap uu (.tuple (toPy.toPys ds)) bs := R2
    cases neg with
    | false => exact SeqAt.in_tuple_reads R2 R1 (plns_lay ds 59 hys) (pln_lay x 60 hx) hroom (fin _ e)
    | true => exact SeqAt.notIn_tuple_reads R2 R1 (plns_lay ds 59 hys) (pln_lay x 60 hx) hroom (fin _ (by rw [e]; rfl))
  | false =>
    have R2 : Reads s.heap uu (.list (toPy.toPys ds)) bs := R2
    cases neg with
    | false => exact SeqAt.in_list_reads R2 R1 (plns_lay ds 59 hys) (pln_lay x 60 hx) hroom (fin _ e)
    | true => exact SeqAt.notIn_list_reads R2 R1 (plns_lay ds 59 hys) (pln_lay x 60 hx) hroom (fin _ (by rw [e]; rfl))
theorem isNon_iff {A : Addr → Prop} {H : Hp} {x : D} {v : V} (t : Top G A H x v) : decide (v = .non) = x.isNon := by
  cases x with
  | non => have e : v = .non := t; subst e; rfl
  | bl b => have e : v = .bl b := t; subst e; rfl
  | int b => have e : v = .int b := t; subst e; rfl
  | str b => have e : v = .str b := t; subst e; rfl
  | ty b => have e : v = .ty b := t; subst e; rfl
  | tup ds => obtain ⟨a, xs, e, _⟩ := t; subst e; rfl
  | lst ds => obtain ⟨a, xs, e, _⟩ := t; subst e; rfl
  | dct tk ds => obtain ⟨a, e, _⟩ := t; subst e; rfl
  | rng _ _ => obtain ⟨a, e, _⟩ := t; subst e; rfl
  | exc _ _ => obtain ⟨a, e, _⟩ := t; subst e; rfl
  | fn _ => obtain ⟨a, e, _⟩ := t; subst e; rfl
  | cls _ => obtain ⟨a, e, _⟩ := t; subst e; rfl
  | res => obtain ⟨a, e, _⟩ := t; subst e; rfl
  | scr _ => obtain ⟨a, e, _⟩ := t; subst e; rfl
  | lam _ => exact t.elim
  | thk _ _ => exact t.elim
theorem opC_ok (hK : X.K = G.K) (hu : X.A.units + 80 < cLine) (k : CmpK) : OpR X (compareOp k.op) (rC G k) := by
  intro pins s σ H v u vv uu Q I rv ru h
  obtain ⟨A, x, y, tx, ty, w⟩ := h
  unfold cmpS at w
  split at w
  · refine op_eqD (by omega) pins s σ H v u vv uu Q I rv ru ⟨_, _, hK ▸ Top.dp w.1 tx, hK ▸ Top.dp w.2.1 ty, pln_shaped w.1, pln_shaped w.2.1, ?_⟩
    rw [eqq_py _ _ 60 60 w.1 w.2.1]
    exact w.2.2
  · refine op_neD (by omega) pins s σ H v u vv uu Q I rv ru ⟨_, _, hK ▸ Top.dp w.1 tx, hK ▸ Top.dp w.2.1 ty, pln_shaped w.1, pln_shaped w.2.1, ?_⟩
    rw [eqq_py _ _ 60 60 w.1 w.2.1]
    exact w.2.2
  · exact op_lt pins s σ H v u vv uu Q I rv ru ⟨_, _, tx, ty, w⟩
  · obtain ⟨ns, ms, e1, e2, w⟩ := w
    obtain ⟨a, us, e, s1, r1⟩ := tx
    obtain ⟨b, ws, e', s2, r2⟩ := ty
    rw [ints_reps r1 e1] at s1
    rw [ints_reps r2 e2] at s2
    exact op_ltT (by omega) pins s σ H v u vv uu Q I rv ru ⟨a, b, ns, ms, e, e', hK ▸ s1, hK ▸ s2, w⟩
  · exact op_le pins s σ H v u vv uu Q I rv ru ⟨_, _, tx, ty, w⟩
  · exact op_gt pins s σ H v u vv uu Q I rv ru ⟨_, _, tx, ty, w⟩
  · exact op_ge pins s σ H v u vv uu Q I rv ru ⟨_, _, tx, ty, w⟩
  · exact op_isN pins s σ H v u vv uu Q I rv ru ⟨ty, by rw [isNon_iff tx]; exact w⟩
  · exact op_notN pins s σ H v u vv uu Q I rv ru ⟨ty, by rw [isNon_iff tx]; exact w⟩
  · refine op_isBl pins s σ H v u vv uu Q I rv ru ⟨_, _, tx, ty, ?_⟩
    rw [← Bool.beq_eq_decide_eq]; exact w
  · refine op_notBl pins s σ H v u vv uu Q I rv ru ⟨_, _, tx, ty, ?_⟩
    rw [← Bool.beq_eq_decide_eq]; exact w
  · exact mem_ok hu hK I rv ru tx w.1 true ty w.2.1 false w.2.2
  · exact mem_ok hu hK I rv ru tx w.1 true ty w.2.1 true w.2.2
  · exact mem_ok hu hK I rv ru tx w.1 false ty w.2.1 false w.2.2
  · exact mem_ok hu hK I rv ru tx w.1 false ty w.2.1 true w.2.2
  · exact w.elim

/-! ### subscripts, slices -/
def rX (G : MG) : R2 := fun v u H Q => ∃ A x y, Top G A H x v ∧ Top G A H y u ∧ idxS x y fun d => ∀ v' H', Res G A H H' d false v' → Q v' H'
theorem atI_map {α β : Type} {xs : List α} {ys : List β} {i : Int} {x : α} {R : α → β → Prop} (hl : xs.length = ys.length) (hg : ∀ (j : Nat) x, xs[j]? = some x → ∃ y, ys[j]? = some y ∧ R x y) (h : atI xs i = some x) : ∃ y, atI ys i = some y ∧ R x y := by
  unfold atI at h ⊢
  rw [← hl]
  cases e : ixN xs.length i with
  | none => rw [e] at h; cases h
  | some j => rw [e] at h; exact hg j x h
theorem ix_ok (hK : X.K = G.K) : IxR X (rX G) := by
  intro value slice pins s σ H v u vv uu Q I rv ru h hs
  obtain ⟨A, x, y, tx, ty, w⟩ := h
  unfold idxS at w
  split at w
  · obtain ⟨d, e, w⟩ := w
    obtain ⟨a, us, ea, s1, r1⟩ := tx
    obtain ⟨z, ez, rz⟩ := atI_map (Reps.len r1) (fun j x hx => Reps.get r1 hx) e
    exact ix_tup value slice pins s σ H v u vv uu Q I rv ru ⟨a, us, _, z, ea, ty, hK ▸ s1, ez, w _ _ (Res.same rz)⟩ hs
  · obtain ⟨d, e, w⟩ := w
    obtain ⟨a, us, ea, s1, r1⟩ := tx
    obtain ⟨z, ez, rz⟩ := atI_map (Reps.len r1) (fun j x hx => Reps.get r1 hx) e
    exact ix_list value slice pins s σ H v u vv uu Q I rv ru ⟨a, us, _, z, ea, ty, SqL.of s1, ez, w _ _ (Res.same rz)⟩ hs
  · exact w.elim
def rS (G : MG) : V → Option Int → Option Int → Hp → VK → Prop := fun v lo hi H Q => ∃ A x, Top G A H x v ∧ slcS x lo hi fun d fr => ∀ v' H', Res G A H H' d fr v' → Q v' H'
theorem Reps.cut {A : Addr → Prop} {H : Hp} {ds : List D} {xs : List V} (lo hi : Option Int) (r : Reps G A H ds xs) : Reps G A H (cutL ds lo hi) (cutV xs lo hi) := by
  unfold cutL cutV
  rw [← Reps.len r]
  exact Reps.take _ (Reps.drop _ r)
theorem sl_ok (ok : G.Ok) (hK : X.K = G.K) : SlR X (rS G) := by
  intro pins s σ H x v vl vu lo hi sl Q I rx hs pl pu h
  obtain ⟨A, d, t, w⟩ := h
  cases d with
  | tup ds =>
    obtain ⟨a, us, ea, s1, r1⟩ := t
    have w : ∀ v' H', Res G A H H' (.tup (cutL ds lo hi)) false v' → Q v' H' := w
    refine sl_tupA pins s σ H x v vl vu lo hi sl Q I rx hs pl pu ⟨a, us, ea, hK ▸ s1, fun hw => ?_, fun hw p hp => w _ _ (Res.new ok hp (Rep.newTup ok hp (Reps.cut lo hi r1)))⟩
    refine w _ _ (Res.same ⟨a, us, rfl, s1, ?_⟩)
    have := Reps.cut lo hi r1
    unfold cutV at this
    rw [hw.1, hw.2, List.drop_zero, Nat.sub_zero, List.take_length] at this
    exact this
  | lst ds =>
    obtain ⟨a, us, ea, s1, r1⟩ := t
    have w : ∀ v' H', Res G A H H' (.lst (cutL ds lo hi)) true v' → Q v' H' := w
    exact sl_list pins s σ H x v vl vu lo hi sl Q I rx hs pl pu ⟨a, us, ea, SqL.of s1, fun p hp => w _ _ (Res.newO ok hp (OwAt.newLst ok hp (Reps.cut lo hi r1)))⟩
  | _ => exact w.elim

/-! ### isinstance -/
/-- an error object that was caught, at a -/
def ExT (cls : Value) (d : Option Addr) (a : Addr) : HO := .ext fun h => ∃ (oe : Obj) (vs : Array Value), h.get? a = some oe ∧ Zc cls d oe ∧ oe.data = .fields vs
/-- what is asked of classes -/
structure ClsOk (G : MG) (C : Ctx) : Prop where
  non : ∀ k E, G.ca k = some E → PySem.W.kitOne G.K (.type "NoneType") (.ref E) = some false
  ext : ∀ H a c fs, G.ex H a c fs → ∃ D, G.ca c = some D ∧ H a = some (ExT (.ref D) none a) ∧ ExcC G.K D
  exi : ∀ H a c D, G.ca c = some D → H a = some (ExT (.ref D) none a) → G.ex H a c []
  sub : ∀ c k D E, G.ca c = some D → G.ca k = some E → PySem.W.kitOne G.K (.ref D) (.ref E) = some (C.sub c k)
theorem ty_of {A : Addr → Prop} {H : Hp} {x : D} {v : V} {n : String} (t : Top G A H x v) (e : tyIs x = some n) : TyX G.K H v (.type n) := by
  cases x with
  | non => cases e; have q : v = .non := t; subst q; exact .base .non
  | bl b => cases e; have q : v = .bl b := t; subst q; exact .base (.bl b)
  | int b => cases e; have q : v = .int b := t; subst q; exact .base (.int b)
  | str b => cases e; have q : v = .str b := t; subst q; exact .base (.str b)
  | tup ds =>
    cases e
    obtain ⟨a, xs, q, s, _⟩ := t
    subst q
    rcases s with (s | ⟨o, s⟩) | ⟨o, its, n, k, c, _⟩
    · exact .base (.tup s)
    · exact .fTuple s
    · exact .kTuple k c
  | lst ds => cases e; obtain ⟨a, xs, q, s, _⟩ := t; subst q; exact .base (.lst s)
  | dct tk ds =>
    cases e
    obtain ⟨a, q, s⟩ := t
    subst q
    rcases s with ⟨kk, s, _⟩ | ⟨kk, s, _⟩
    · rcases s with s | ⟨o, s⟩
      · exact .base (.dK s)
      · exact .fDict s
    · exact .base (.dT s)
  | _ => cases e
theorem isiB_ty (C : Ctx) (x : D) (n : String) : isiB C x (.ty n) = (tyIs x).bind fun m => if knownTy n then some (m == n || (m == "bool" && n == "int")) else none := by cases x <;> rfl
theorem kit_tys (C : Ctx) {K : PySem.W.Frag} {x : D} {n m : String} {b : Bool} (e : tyIs x = some m) (h : isiB C x (.ty n) = some b) : PySem.W.kitOne K (.type m) (.type n) = some b := by
  rw [isiB_ty, e] at h
  have hn : knownTy n = true := by
    cases hk : knownTy n with
    | true => rfl
    | false => rw [hk] at h; cases h
  rw [hn] at h
  have h : (m == n || (m == "bool" && n == "int")) = b := Option.some.inj h
  subst h
  have hn' : n = "int" ∨ n = "bool" ∨ n = "str" ∨ n = "tuple" ∨ n = "list" ∨ n = "dict" := by simpa [knownTy, or_assoc] using hn
  cases x with
  | non => cases e; rcases hn' with rfl | rfl | rfl | rfl | rfl | rfl <;> exact kit_ty (by decide +kernel)
  | bl z => cases e; rcases hn' with rfl | rfl | rfl | rfl | rfl | rfl <;> exact kit_ty (by decide +kernel)
  | int z => cases e; rcases hn' with rfl | rfl | rfl | rfl | rfl | rfl <;> exact kit_ty (by decide +kernel)
  | str z => cases e; rcases hn' with rfl | rfl | rfl | rfl | rfl | rfl <;> exact kit_ty (by decide +kernel)
  | tup z => cases e; rcases hn' with rfl | rfl | rfl | rfl | rfl | rfl <;> exact kit_ty (by decide +kernel)
  | lst z => cases e; rcases hn' with rfl | rfl | rfl | rfl | rfl | rfl <;> exact kit_ty (by decide +kernel)
  | dct _ z => cases e; rcases hn' with rfl | rfl | rfl | rfl | rfl | rfl <;> exact kit_ty (by decide +kernel)
  | _ => cases e
end
end DP

set_option Elab.async false
set_option linter.all false
set_option maxRecDepth 100000
set_option maxHeartbeats 1000000
/-! E3d: dicts, key by key. -/
namespace DP
open PySem PySem.Spec PyProof.Rows L2
theorem keyOf_rep {m : MG} {A : Addr → Prop} {H : Hp} {d : D} {v : V} {kk : Key} (h : keyOf d = some kk) (r : Rep m A H d v) : v = kV kk ∧ d = keyD kk := by
  cases d <;> simp only [keyOf, Option.some.injEq, reduceCtorEq] at h <;> subst h <;> exact ⟨r, rfl⟩
theorem keyOf_keyD (kk : Key) : keyOf (keyD kk) = some kk := by cases kk <;> rfl
theorem put_keys {kvs : List (D × D)} {kk : List (Key × V)} {key : Key} {d : D} {v : V} (e : kvs.map (·.1) = kk.map (fun p => keyD p.1)) : (putD kvs (keyD key) d).map (·.1) = (putK kk key v).map (fun p => keyD p.1) := by
  have ea : (kvs.any fun kv => decide (keyOf kv.1 = keyOf (keyD key))) = (kk.any fun kv => decide (kv.1 = key)) := by
    have h1 : (kvs.any fun kv => decide (keyOf kv.1 = keyOf (keyD key))) = ((kvs.map (·.1)).any fun x => decide (keyOf x = keyOf (keyD key))) := by rw [List.any_map]; rfl
    rw [h1, e, List.any_map]
    congr 1
    funext p
    simp [keyOf_keyD]
  unfold putD putK
  rw [ea]
  split
  · rw [List.map_map, List.map_map]
    have : ((fun x : D × D => x.1) ∘ fun kv : D × D => if keyOf kv.1 = keyOf (keyD key) then (kv.1, d) else kv) = fun x => x.1 := by funext x; simp only [Function.comp]; split <;> rfl
    rw [this, e]
    refine List.map_congr_left fun p _ => ?_
    simp only [Function.comp]
    split <;> rfl
  · rw [List.map_append, List.map_append, e]; rfl
theorem put_reps {m : MG} {A : Addr → Prop} {H : Hp} {key : Key} {d : D} {v : V} (r : Rep m A H d v) : ∀ {kvs : List (D × D)} {kk : List (Key × V)}, kvs.map (·.1) = kk.map (fun p => keyD p.1) → Repk m A H kvs (kk.map (·.2)) →
    Repk m A H (kvs.map (fun kv => if keyOf kv.1 = keyOf (keyD key) then (kv.1, d) else kv)) ((kk.map (fun kv => if kv.1 = key then (kv.1, v) else kv)).map (·.2))
  | [], [], _, h => h
  | [], _ :: _, e, _ => by cases e
  | _ :: _, [], e, _ => by cases e
  | p :: kvs, q :: kk, e, h => by
    simp only [List.map_cons, List.cons.injEq] at e
    obtain ⟨v0, r0, e0, h1, h2⟩ := h
    simp only [List.map_cons, List.cons.injEq] at e0
    obtain ⟨e01, e02⟩ := e0
    have ih := put_reps (key := key) r e.2 (by rw [e02]; exact h2)
    have hp : (keyOf p.1 = keyOf (keyD key)) ↔ q.1 = key := by rw [e.1, keyOf_keyD, keyOf_keyD]; simp
    rw [List.map_cons, List.map_cons, List.map_cons]
    refine ⟨_, _, rfl, ?_, ih⟩
    by_cases hq : q.1 = key
    · rw [if_pos (hp.mpr hq), if_pos hq]; exact r
    · rw [if_neg (fun z => hq (hp.mp z)), if_neg hq, e01]; exact h1
theorem Repk.app {m : MG} {A : Addr → Prop} {H : Hp} : ∀ {ds es : List (D × D)} {xs ys : List V}, Repk m A H ds xs → Repk m A H es ys → Repk m A H (ds ++ es) (xs ++ ys)
  | [], _, _, _, h, h2 => by cases h; exact h2
  | _ :: _, _, _, _, h, h2 => by obtain ⟨v, r, rfl, h1, h3⟩ := h; exact ⟨v, _, rfl, h1, Repk.app h3 h2⟩
theorem put_rep {m : MG} {A : Addr → Prop} {H : Hp} {key : Key} {d : D} {v : V} {kvs : List (D × D)} {kk : List (Key × V)} (r : Rep m A H d v) (e : kvs.map (·.1) = kk.map (fun p => keyD p.1)) (h : Repk m A H kvs (kk.map (·.2))) :
    Repk m A H (putD kvs (keyD key) d) ((putK kk key v).map (·.2)) := by
  have ea : (kvs.any fun kv => decide (keyOf kv.1 = keyOf (keyD key))) = (kk.any fun kv => decide (kv.1 = key)) := by
    have h1 : (kvs.any fun kv => decide (keyOf kv.1 = keyOf (keyD key))) = ((kvs.map (·.1)).any fun x => decide (keyOf x = keyOf (keyD key))) := by rw [List.any_map]; rfl
    rw [h1, e, List.any_map]
    congr 1
    funext p
    simp [keyOf_keyD]
  unfold putD putK
  rw [ea]
  split
  · exact put_reps r e h
  · rw [List.map_append]
    exact Repk.app h ⟨v, [], rfl, r, rfl⟩
theorem dict_pairs {m : MG} {A : Addr → Prop} {H : Hp} : ∀ {kvs : List (D × D)} {xs : List V}, Reps m A H (kvs.map fun p => .tup [p.1, p.2]) xs → (∀ p ∈ kvs, (keyOf p.1).isSome = true) →
    ∃ (ps : List Addr) (kk : List (Key × V)), xs = ps.map V.ref ∧ Paired (fun p kv => SqT m.K H p [kV kv.1, kv.2]) ps kk ∧ kvs.map (·.1) = kk.map (fun p => keyD p.1) ∧ Repk m A H kvs (kk.map (·.2))
  | [], xs, h, _ => ⟨[], [], h, .nil, rfl, rfl⟩
  | p :: kvs, xs, h, hk => by
    obtain ⟨v, r, rfl, h1, h2⟩ := h
    obtain ⟨a, ys, rfl, s, hy⟩ := (show ∃ a ys, v = .ref a ∧ SqT m.K H a ys ∧ Reps m A H [p.1, p.2] ys from h1)
    obtain ⟨v1, r1, rfl, g1, v2, r2, rfl, g2, rfl⟩ := hy
    obtain ⟨key, ek⟩ := Option.isSome_iff_exists.mp (hk p List.mem_cons_self)
    obtain ⟨rfl, e1⟩ := keyOf_rep ek g1
    obtain ⟨ps, kk, rfl, hp, e2, hr⟩ := dict_pairs h2 fun q hq => hk q (List.mem_cons_of_mem _ hq)
    refine ⟨a :: ps, (key, v2) :: kk, rfl, .cons s hp, by rw [List.map_cons, List.map_cons, e1, e2], ?_⟩
    obtain ⟨p1, p2⟩ := p
    exact ⟨v2, _, rfl, g2, hr⟩
theorem dict_merge {m : MG} {A : Addr → Prop} {H : Hp} : ∀ {kvs : List (D × D)} {kk : List (Key × V)} {acc : List (D × D)} {ka : List (Key × V)}, kvs.map (·.1) = kk.map (fun p => keyD p.1) → Repk m A H kvs (kk.map (·.2)) →
    acc.map (·.1) = ka.map (fun p => keyD p.1) → Repk m A H acc (ka.map (·.2)) →
    (kvs.foldl (fun a p => putD a p.1 p.2) acc).map (·.1) = (mergeK ka kk).map (fun p => keyD p.1) ∧ Repk m A H (kvs.foldl (fun a p => putD a p.1 p.2) acc) ((mergeK ka kk).map (·.2))
  | [], [], _, _, _, _, ea, ra => ⟨ea, ra⟩
  | [], _ :: _, _, _, e, _, _, _ => by cases e
  | _ :: _, [], _, _, e, _, _, _ => by cases e
  | (d1, d2) :: kvs, (key, v) :: kk, acc, ka, e, r, ea, ra => by
    simp only [List.map_cons, List.cons.injEq] at e
    obtain ⟨e1, e2⟩ := e
    subst e1
    obtain ⟨v0, r0, e0, h1, h2⟩ := r
    simp only [List.map_cons, List.cons.injEq] at e0
    obtain ⟨rfl, rfl⟩ := e0
    exact dict_merge (acc := putD acc (keyD key) d2) (ka := putK ka key v) e2 h2 (put_keys ea) (put_rep h1 ea ra)
end DP

set_option Elab.async false
set_option linter.all false
set_option maxRecDepth 100000
set_option maxHeartbeats 1000000
/-! E3c: built-ins by values. -/
namespace DP
open PySem PySem.Spec PyProof.Rows L2
section
variable {X : Cx} {G : MG}
def BiK.nm : BiK → String
  | .len => "len"
  | .tuple => "tuple"
  | .list => "list"
  | .sorted => "sorted"
  | .min2 => "min"
  | .max2 => "max"
  | .minl => "min"
  | .maxl => "max"
  | .abs => "abs"
  | .int => "int"
  | .sum => "sum"
  | .all => "all"
  | .any => "any"
  | .str => "str"
  | .dict => "dict"
  | .listzip => "?"
/-- a built-in class, not a function -/
def BiK.cls : BiK → Bool
  | .tuple => true
  | .list => true
  | .int => true
  | .str => true
  | .dict => true
  | _ => false
def BiK.fv (k : BiK) : Value := if k.cls then .type k.nm else .builtin k.nm
def rBi (G : MG) (k : BiK) : List V → Hp → VK → Prop := fun vs H Q => ∃ A ds, Tops G A H ds vs ∧ biS k ds fun d fr => ∀ v' H', Res G A H H' d fr v' → Q v' H'
theorem Tops.one {A : Addr → Prop} {H : Hp} {d : D} {vs : List V} (t : Tops G A H [d] vs) : ∃ v, vs = [v] ∧ Top G A H d v := by
  obtain ⟨v, r, e, h1, h2⟩ := t
  have h2 : r = [] := h2
  subst h2
  exact ⟨v, e, h1⟩
theorem Tops.two {A : Addr → Prop} {H : Hp} {d d' : D} {vs : List V} (t : Tops G A H [d, d'] vs) : ∃ v v', vs = [v, v'] ∧ Top G A H d v ∧ Top G A H d' v' := by
  obtain ⟨v, r, e, h1, h2⟩ := t
  obtain ⟨v', e2, h3⟩ := Tops.one h2
  subst e2
  exact ⟨v, v', e, h1, h3⟩
theorem reps_ints {A : Addr → Prop} {H : Hp} : ∀ ns : List Int, Reps G A H (ns.map D.int) (ns.map V.int)
  | [] => rfl
  | n :: ns => ⟨_, _, rfl, rfl, reps_ints ns⟩
theorem reps_keys {A : Addr → Prop} {H : Hp} : ∀ kk : List (Key × V), Reps G A H (kk.map fun p => keyD p.1) (kk.map fun p => kV p.1)
  | [] => rfl
  | (.inl i, v) :: kk => ⟨_, _, rfl, rfl, reps_keys kk⟩
  | (.inr i, v) :: kk => ⟨_, _, rfl, rfl, reps_keys kk⟩
theorem keys_ints : ∀ {kk : List (Key × V)} {ns : List Int}, ints? (kk.map fun p => keyD p.1) = some ns → kk.map (·.1) = ns.map Sum.inl
  | [], ns, h => by cases h; rfl
  | (.inl i, v) :: kk, ns, h => by
    have h : (ints? (kk.map fun p => keyD p.1)).map (fun l => i :: l) = some ns := h
    cases e : ints? (kk.map fun p => keyD p.1) with
    | none => rw [e] at h; cases h
    | some ms =>
      rw [e] at h
      cases h
      rw [List.map_cons, keys_ints e]; rfl
  | (.inr i, v) :: kk, ns, h => by cases h
theorem bi_ok (ok : G.Ok) (hc : X.calm = true) (hK : X.K = G.K) (k : BiK) : CallR X k.fv (rBi G k) := by
  intro pins s σ H vs us Q I r h
  obtain ⟨A, ds, t, w⟩ := h
  unfold biS at w
  split at w
  · obtain ⟨v, rfl, t1⟩ := Tops.one t
    obtain ⟨a, xs, rfl, s1, r1⟩ := t1
    refine call_len pins s σ H _ us Q I r ⟨_, _, rfl, .inr ⟨xs, hK ▸ s1, (Reps.len r1)⟩, w _ _ (Res.same rfl)⟩
  · obtain ⟨v, rfl, t1⟩ := Tops.one t
    obtain ⟨a, xs, rfl, s1, r1⟩ := t1
    refine call_len pins s σ H _ us Q I r ⟨_, _, rfl, .inl ⟨xs, SqL.of s1, (Reps.len r1)⟩, w _ _ (Res.same rfl)⟩
  · obtain ⟨v, rfl, t1⟩ := Tops.one t
    obtain ⟨a, rfl, t3⟩ := t1
    rcases t3 with ⟨kk, s1, e, _⟩ | ⟨kk, s1, e, _⟩
    · have hl := congrArg List.length e.2
      simp only [List.length_map] at hl
      obtain ⟨u, rfl, ru⟩ := vals1 r
      cases ru
      refine d_len I s1 fun t s' I' => ⟨.int kk.length, H, I', ⟨t, rfl⟩, ?_⟩
      rw [← hl]
      exact w _ _ (Res.same rfl)
    · have hl := congrArg List.length e.2
      simp only [List.length_map] at hl
      refine call_len_dT pins s σ H _ us Q I r ⟨a, kk, rfl, s1, ?_⟩
      rw [← hl]
      exact w _ _ (Res.same rfl)
  · obtain ⟨v, rfl, t1⟩ := Tops.one t
    obtain ⟨a, rfl, s1⟩ := t1
    refine call_len pins s σ H _ us Q I r ⟨_, _, rfl, .inl ⟨_, hK ▸ s1.sql, rfl⟩, ?_⟩
    rw [List.length_map]
    exact w _ _ (Res.same rfl)
  · obtain ⟨v, rfl, t1⟩ := Tops.one t
    have t1 : v = .str _ := t1
    subst t1
    exact call_len pins s σ H _ us Q I r ⟨_, _, rfl, ⟨w.1, rfl⟩, w.2 _ _ (Res.same rfl)⟩
  · obtain ⟨v, rfl, t1⟩ := Tops.one t
    obtain ⟨a, xs, rfl, s1, r1⟩ := t1
    exact call_tuple_of pins s σ H _ us Q I r ⟨a, xs, rfl, .inr ⟨hK ▸ s1, w _ _ (Res.same ⟨a, xs, rfl, s1, r1⟩)⟩⟩
  · obtain ⟨v, rfl, t1⟩ := Tops.one t
    obtain ⟨a, xs, rfl, s1, r1⟩ := t1
    exact call_tuple_of pins s σ H _ us Q I r ⟨a, xs, rfl, .inl ⟨SqL.of s1, fun p hp => w _ _ (Res.new ok hp (Rep.newTup ok hp r1))⟩⟩
  · obtain ⟨v, rfl, t1⟩ := Tops.one t
    obtain ⟨a, xs, rfl, s1, r1⟩ := t1
    exact call_list_of pins s σ H _ us Q I r ⟨a, xs, rfl, .inr (hK ▸ s1), fun p hp => w _ _ (Res.newO ok hp (OwAt.newLst ok hp r1))⟩
  · obtain ⟨v, rfl, t1⟩ := Tops.one t
    obtain ⟨a, xs, rfl, s1, r1⟩ := t1
    exact call_list_of pins s σ H _ us Q I r ⟨a, xs, rfl, .inl (SqL.of s1), fun p hp => w _ _ (Res.newO ok hp (OwAt.newLst ok hp r1))⟩
  · obtain ⟨v, v', rfl, t1, t2⟩ := Tops.two t
    have t1 : v = .int _ := t1
    have t2 : v' = .int _ := t2
    subst t1 t2
    exact call_min2 hc pins s σ H _ us Q I r ⟨_, _, rfl, w _ _ (Res.same rfl)⟩
  · obtain ⟨v, v', rfl, t1, t2⟩ := Tops.two t
    have t1 : v = .int _ := t1
    have t2 : v' = .int _ := t2
    subst t1 t2
    exact call_max2 hc pins s σ H _ us Q I r ⟨_, _, rfl, w _ _ (Res.same rfl)⟩
  · obtain ⟨v, rfl, t1⟩ := Tops.one t
    have t1 : v = .int _ := t1
    subst t1
    exact call_abs pins s σ H _ us Q I r ⟨_, rfl, w _ _ (Res.same rfl)⟩
  · obtain ⟨v, rfl, t1⟩ := Tops.one t
    have t1 : v = .int _ := t1
    subst t1
    exact call_int1 pins s σ H _ us Q I r (.inl ⟨_, rfl, w _ _ (Res.same rfl)⟩)
  · obtain ⟨v, rfl, t1⟩ := Tops.one t
    have t1 : v = .bl _ := t1
    subst t1
    exact call_int1 pins s σ H _ us Q I r (.inr ⟨_, rfl, w _ _ (Res.same rfl)⟩)
  · obtain ⟨bs, e, w⟩ := w
    obtain ⟨v, rfl, t1⟩ := Tops.one t
    obtain ⟨a, xs, rfl, s1, r1⟩ := t1
    rw [bls_reps r1 e] at s1
    exact cr_all hc pins s σ H _ us Q I r ⟨a, bs, rfl, SqL.of s1, w _ _ (Res.same rfl)⟩
  · obtain ⟨bs, e, w⟩ := w
    obtain ⟨v, rfl, t1⟩ := Tops.one t
    obtain ⟨a, xs, rfl, s1, r1⟩ := t1
    rw [bls_reps r1 e] at s1
    exact cr_any hc pins s σ H _ us Q I r ⟨a, bs, rfl, SqL.of s1, w _ _ (Res.same rfl)⟩
  · obtain ⟨ns, e, w⟩ := w
    obtain ⟨v, rfl, t1⟩ := Tops.one t
    obtain ⟨a, xs, rfl, s1, r1⟩ := t1
    rw [ints_reps r1 e] at s1
    exact cr_sum hc pins s σ H _ us Q I r ⟨a, ns, rfl, SqL.of s1, w _ _ (Res.same rfl)⟩
  · obtain ⟨v, rfl, t1⟩ := Tops.one t
    obtain ⟨a, rfl, t3⟩ := t1
    rcases t3 with ⟨kk, s1, ⟨_, e1⟩, _⟩ | ⟨kk, s1, ⟨hf, _⟩, _⟩
    · refine call_listD hc pins s σ H _ us Q I r ⟨a, kk, rfl, s1, fun p hp => w _ _ (Res.newO ok hp (OwAt.newLst ok hp ?_))⟩
      rw [e1]
      exact reps_keys kk
    · cases hf
  · obtain ⟨kvs, rfl, hk, w⟩ := w
    obtain ⟨v, rfl, t1⟩ := Tops.one t
    obtain ⟨a, xs, rfl, s1, r1⟩ := t1
    obtain ⟨ps, kk, rfl, hp, e1, r2⟩ := dict_pairs r1 hk
    refine call_dictP hc pins s σ H _ us Q I r ⟨a, ps, kk, rfl, SqL.of s1, hK ▸ hp, fun p hn => w _ _ (Res.newO ok hn (.inl ⟨_, upd_same, ?_⟩))⟩
    obtain ⟨m1, m2⟩ := dict_merge (acc := []) (ka := []) e1 r2 rfl rfl
    exact ⟨⟨rfl, m1⟩, Repk.keep ok (Kp.new hn) _ _ (Repk.sub (fun a z => z.elim .inl fun q => .inr (by rw [q]; exact nt_none hn)) _ _ m2)⟩
  · obtain ⟨ns, e, hl, w⟩ := w
    obtain ⟨v, rfl, t1⟩ := Tops.one t
    obtain ⟨a, rfl, t3⟩ := t1
    rcases t3 with ⟨kk, s1, ⟨_, e1⟩, _⟩ | ⟨kk, s1, ⟨hf, _⟩, _⟩
    · rw [e1] at e
      exact call_sortedDI hc pins s σ H _ us Q I r ⟨a, kk, ns, rfl, s1, keys_ints e, hl, fun ms p h1 h2 hp => w ms h1 h2 _ _ (Res.newO ok hp (OwAt.newLst ok hp (reps_ints ms)))⟩
    · cases hf
  · obtain ⟨ns, e, w⟩ := w
    obtain ⟨v, rfl, t1⟩ := Tops.one t
    obtain ⟨a, xs, rfl, s1, r1⟩ := t1
    rw [ints_reps r1 e] at s1
    exact cr_sortedI pins s σ H _ us Q I r ⟨a, ns, rfl, SqL.of s1, fun ms p h1 h2 hp => w ms h1 h2 _ _ (Res.newO ok hp (OwAt.newLst ok hp (reps_ints ms)))⟩
  · exact w.elim
end
end DP

set_option Elab.async false
set_option linter.all false
set_option maxRecDepth 100000
set_option maxHeartbeats 2000000
/-! E3t: an except suite behind which the caught error is known. -/
namespace DP
open PySem PySem.Spec PyProof.Rows L2
section
variable {X : Cx} {σ : L2.St} {H : Hp} {s : Shared} {a : Addr} {oe : Obj} {vs : Array Value} {cls : Value} {d : Option Addr}
theorem Inv.keepExc {pins : List (Addr × Obj)} (I : Inv X ((a, oe) :: pins) σ H s) (n0 : X.s_0.heap.get? a = none) (hz : Zc cls d oe) (hd : oe.data = .fields vs) (hp : ∀ p ∈ X.pn ++ pins, p.1 ≠ a) : Inv X pins σ (upd H a (ExT cls d a)) s := by
  obtain ⟨ga, na, nl, nf, _⟩ := I.pin (a, oe) (List.mem_append_right _ List.mem_cons_self)
  have off : ∀ b u, H b = some u → upd H a (ExT cls d a) b = some u := fun b u e => (upd_ne (ne_of_none e na)).trans e
  have out : ∀ b, b ≠ a → H b = none → upd H a (ExT cls d a) b = none := fun b h e => (upd_ne h).trans e
  have B := I.base
  refine ⟨I.ok, I.os, I.bare, ⟨B.keep, B.slot, fun b o e z hx => out b (fun q => ?_) (B.free b o e z hx), B.there, fun b xs e => off _ _ (B.tups b xs e), fun b o u e => off _ _ (B.frzs b o u e), fun b ps e => ?_⟩,
    I.loc, I.cell, out _ (Ne.symm nl) I.free, fun y c e => out c (fun q => ?_) (I.freeC y c e), fun p hm => ?_, fun b u e => ?_, I.len⟩
  · rw [q, n0] at e; cases e
  · obtain ⟨m, e'⟩ := B.tbls b ps e
    exact ⟨m, off _ _ e'⟩
  · obtain ⟨v, o, ho, hv⟩ := I.cell y c e
    rw [q, ga] at ho
    cases ho
    rw [hd] at hv
    cases hv
  · obtain ⟨p1, p2, p3⟩ := I.pin p (by
      rcases List.mem_append.mp hm with z | z
      · exact List.mem_append_left _ z
      · exact List.mem_append_right _ (List.mem_cons_of_mem _ z))
    exact ⟨p1, out _ (hp p hm) p2, p3⟩
  · by_cases q : b = a
    · subst q
      rw [upd_same] at e
      cases e
      exact ⟨⟨oe, vs, ga, hz, hd⟩, ⟨oe, ga⟩, fun _ _ ⟨o, w, q, r⟩ k => ⟨o, w, k o q, r⟩⟩
    · rw [upd_ne q] at e
      exact (I.hok b u e).stay (fun _ _ _ z => z) (fun c z => off _ _ z) fun c xs z => off _ _ z
theorem Inv.unsuiteK {pins pn' : List (Addr × Obj)} (I : Inv (X.suite a ((a, oe) :: (X.pn ++ pins))) pn' σ H s) (ok : X.Ok) : Inv X ((a, oe) :: pins) σ H s := by
  refine ⟨ok, I.os, I.bare, I.base, I.loc, I.cell, I.free, I.freeC, fun p hm => I.pin p (List.mem_append_left _ ?_), I.hok, I.len⟩
  rcases List.mem_append.mp hm with z | z
  · exact List.mem_cons_of_mem _ (List.mem_append_left _ z)
  · rcases List.mem_cons.mp z with z | z
    · rw [z]; exact List.mem_cons_self
    · exact List.mem_cons_of_mem _ (List.mem_append_right _ z)
/-- the wish of 'except c as (slot i's name)': the suite runs with the error there; behind it, it is a known thing -/
def wKeep (K : PySem.W.Frag) (c : Value) (i : Nat) (ts : Addr → Value → Option Addr → TS) (Wout : WX) (D : Ends) : WX := fun cls d σ H => ∃ b, PySem.W.exmOne K cls c = some b ∧ (b = false → Wout cls d σ H) ∧
  (b = true → ∀ a, H a = none → ts a cls d { nx := fun σ' H' => H' a = none → D.nx (σ'.set i none) (upd H' a (ExT cls d a)), rt := fun v H' => H' a = none → D.rt v (upd H' a (ExT cls d a)), bk := fun _ _ => False, ct := fun _ _ => False } (σ.set i (some (.ref a))) H)
theorem ps_try_keep {x n : Str} {c : Value} {i : Nat} {body suite : List Stmt} {st : Stmt} {p1 p2 p3 : Pos} {tb : WX → TS} {ts : Addr → Value → Option Addr → TS} {Wout : WX}
    (hx : X.ex = []) (hs : X.stack = X.env :: X.outer) (hf : X.env.frame = some X.env.locals) (nd : X.N.Nodup) (hi : X.N[i]? = some n) (hk : X.env.kindOf n = some .local) (nm : Names X x c) (tk : Takes X Wout)
    (hb : ∀ (W : WX) (pn : List (Addr × Obj)) (xe : Value → Shared → Prop), Takes (X.tr pn xe) W → PassesOwn (model X.prog X.w) X.A X.env xe → PSs (X.tr pn xe) body (tb W))
    (hsu : ∀ (a : Addr) (oe : Obj) (cls : Value) (d : Option Addr) (pn : List (Addr × Obj)), Zc cls d oe → (∃ vs, oe.data = .fields vs) → PSs (X.suite a ((a, oe) :: pn)) (st :: suite) (ts a cls d)) :
    PS X (.Try body [.ExceptHandler (some (.Name x p1)) (some n) (st :: suite) p2] [] [] p3) (fun D σ H => tb (wKeep X.K c i ts Wout D) D σ H) := by
  refine ⟨fun pins s σ H D I h => wpAny_Try_except ?_⟩
  have ok := I.ok
  have fr : X.A.frames = some (X.env :: X.outer) := hs ▸ ok.frames
  refine wpAny_mono ((hb (wKeep X.K c i ts Wout D) (X.pn ++ pins) (fun e s₁ => wpAny (model X.prog X.w) X.A (noteFrame e X.env) (fun _ s₂ => wpAny (model X.prog X.w) X.A (setFlight e none) (fun _ s₃ =>
      wpAny (model X.prog X.w) X.A (handleBy e X.env [.ExceptHandler (some (.Name x p1)) (some n) (st :: suite) p2]) (SP X pins D) X.xe s₃) X.xe s₂) X.xe s₁) (fun u s' air => ?_) PassesOwn.looking).run [] s σ H D (I.toTry _) h) (fun f s1 sp => ?_) fun _ _ z => z
  · obtain ⟨a, B, sI, _, σ1, H1, cls, d, rfl, J0, nb, up, sky, na, os, ag, b, hm, no, yes⟩ := air
    have J : Inv X pins σ1 H1 sI := Inv.ofTry J0 ok
    have sky1 : Sky B (X.env :: X.outer) a (Zc cls d) X.env.locals s'.heap := hs ▸ sky
    refine Sky.land Zc.steady fr hf sky1 fun g fl ug => ?_
    obtain ⟨o3, w3, e3, z3, d3⟩ := fl.there
    have Jg : Inv X pins σ1 H1 { s' with heap := g } := J.landed nb fl.1 (up.trans ug) os ag
    have out : a ∉ frs (X.env :: X.outer) := fun hm => by
      obtain ⟨_, o, e, hn⟩ := fl.2.2.1.mem hm
      rw [e3] at e
      cases e
      exact hn _ d3
    have nL : a ≠ X.env.locals := fun z => out (List.mem_filterMap.mpr ⟨X.env, List.mem_cons_self, by rw [hf, z]⟩)
    have nF : a ∉ X.fs := fun hm => by
      obtain ⟨e, he, q⟩ := List.mem_filterMap.mp hm
      exact out (List.mem_filterMap.mpr ⟨e, List.mem_cons_of_mem _ he, q⟩)
    have gone : ∀ b o, sI.heap.get? b = some o → b ∉ frs X.stack → b ≠ a := fun b o e hb z => by
      have q := nb b o e hb
      rw [z, fl.2.1] at q
      cases q
    have noS : a ∉ frs X.stack := hs ▸ out
    have n0 : X.s_0.heap.get? a = none := by
      cases e : X.s_0.heap.get? a with
      | none => rfl
      | some o =>
        obtain ⟨o', e'⟩ := J.base.there a o e (by rw [hx]; exact fun z => nomatch z)
        exact absurd rfl (gone a o' e' noS)
    have np : ∀ p ∈ X.pn ++ pins, p.1 ≠ a := fun p hm => by
      obtain ⟨e, _, n1, n2, _⟩ := J.pin p hm
      refine gone p.1 p.2 e fun hq => ?_
      rw [hs] at hq
      obtain ⟨en, hen, q⟩ := List.mem_filterMap.mp hq
      rcases List.mem_cons.mp hen with z | z
      · rw [z, hf] at q; exact n1 (Option.some.inj q).symm
      · exact n2 (List.mem_filterMap.mpr ⟨en, z, q⟩)
    have Sg := Jg.suite e3 d3 na nL nF
    refine wpAny_handleBy_cons (codeAny_handlers_test ?_) (by intro q; cases q)
    have looks := PySem.W.exm_one (M := model X.prog X.w) Jg.kIn (fun A Q E s k q => wpAny_typeOf_ref (k _ _ e3) (by rw [z3.1]; exact q)) hm
    have test : ∀ {Q E : Value → Shared → Prop}, Q c { s' with heap := g } → wpAny (model X.prog X.w) (X.A.mark (some (.ref a))) (eval (.Name x p1) X.env) Q E { s' with heap := g } := fun {Q E} q => by
      obtain ⟨hg, hdb, hh | ⟨hh, hv, hn⟩⟩ := nm
      · exact ld_glob (X := X.suite a ((a, o3) :: (X.pn ++ pins))) Sg hg hh q hdb
      · exact ld_blt (X := X.suite a ((a, o3) :: (X.pn ++ pins))) Sg hg hh hv q hn hdb
    refine test (looks.here ?_)
    cases b with
    | true =>
      refine codeAny_handlers_suite_as (HandSPX.lands_againZ fl fun g2 fl2 ug2 => ?_)
      obtain ⟨o4, w4, e4, z4, d4⟩ := fl2.there
      have J4 : Inv X pins σ1 H1 { s' with heap := g2 } := J.landed nb fl2.1 ((up.trans ug).trans ug2) os ag
      refine store_ok (X := X.suite a ((a, o4) :: (X.pn ++ pins))) (v := .ref a) (J4.suite e4 d4 na nL nF) nd hi (.inl hk) rfl (fun s5 S5 => ?_) (.inr hk)
      refine wpAny_mono ((hsu a o4 cls d (X.pn ++ pins) z4 ⟨_, d4⟩).run [] s5 _ H1 _ S5 (yes rfl a na)) (fun f s6 sp => ?_) (fun _ _ z => False.elim z)
      have fin : ∀ {σ6 : L2.St} {H6 : Hp} {Q : Shared → Prop}, Inv (X.suite a ((a, o4) :: (X.pn ++ pins))) [] σ6 H6 s6 → (∀ s7, H6 a = none → Inv X pins (σ6.set i none) (upd H6 a (ExT cls d a)) s7 → Q s7) →
          wpAny (model X.prog X.w) X.A (do bindName X.env n .none; unbindBehindTheSuite X.env n p2) (fun _ s7 => Q s7) X.xe s6 := fun {σ6 H6 Q} S6 hq => gone_ok (Inv.unsuiteK S6 ok) nd hi hk fun s7 J7 =>
        hq s7 (J7.pin (a, o4) (List.mem_append_right _ List.mem_cons_self)).2.1 (Inv.keepExc J7 n0 z4 d4 np)
      cases f with
      | next => obtain ⟨σ6, H6, S6, q6⟩ := sp; exact fin S6 fun s7 n7 J7 => ⟨_, _, J7, q6 n7⟩
      | ret u => obtain ⟨v6, σ6, H6, S6, r6, q6⟩ := sp; exact fin S6 fun s7 n7 J7 => ⟨_, _, _, J7, r6, q6 n7⟩
      | brk => obtain ⟨_, _, _, q6⟩ := sp; exact q6.elim
      | cont => obtain ⟨_, _, _, q6⟩ := sp; exact q6.elim
    | false =>
      show wpAny _ X.A (handleBy (.ref a) X.env []) _ _ _
      refine wpAny_handleBy_nil ?_
      obtain ⟨k1, k2, k3, o, w, T, oT, t2, he, hz, hd, h1, hr⟩ := id fl
      unfold PySem.passOn
      refine wpAny_bind (wpAny_field he hd h1 ?_)
      rw [if_neg (by simp)]
      have fly : wpAny (model X.prog X.w) X.A (setFlight (.ref a) X.env.frame) (fun _ s4 => wpAny (model X.prog X.w) X.A (throw (.ref a) : Sem Flow) (SP X pins D) X.xe s4) X.xe { s' with heap := g } := by
        rw [hf]
        exact HandSPX.setFlight_upZ fl fun g4 hh4 up4 => wpAny_throw (tk _ _ ⟨a, B, sI, pins, σ1, H1, cls, d, rfl, J, nb, (up.trans ug).trans up4, .inr (.inr (by rw [hs]; exact hh4)), na, os, ag, no rfl⟩)
      first
        | exact wpAny_bind (wpAny_pure (wpAny_bind fly))
        | exact wpAny_bind fly
  · cases f with
    | next => obtain ⟨σ1, H1, J, q⟩ := sp; exact wpAny_execs_nil ⟨σ1, H1, Inv.ofTry J ok, q⟩
    | brk => obtain ⟨σ1, H1, J, q⟩ := sp; exact ⟨σ1, H1, Inv.ofTry J ok, q⟩
    | cont => obtain ⟨σ1, H1, J, q⟩ := sp; exact ⟨σ1, H1, Inv.ofTry J ok, q⟩
    | ret u => obtain ⟨v, σ1, H1, J, r, q⟩ := sp; exact ⟨v, σ1, H1, Inv.ofTry J ok, r, q⟩
end
end DP

set_option Elab.async false
set_option linter.all false
set_option maxRecDepth 100000
set_option maxHeartbeats 1000000
/-! E4s: keys of sorted: (len(lot), lot), by a def or by a lambda. -/
namespace DP
open PySem PySem.Spec PyProof.Rows L2
/-- f(lot) is (len(lot), lot), from any heap -/
def SizeTurn (P : Program) (w : World) (K : PySem.W.Frag) (mg : Str → Option Value) (base : Heap) (ok : Shared → Hp → Prop) (f : Value) : Prop :=
  ∀ (A : Around) (outer : List Env) (s : Shared) (H : Hp) (a : Addr) (its : List Value) (b : List Int), Room 1 A → Env0 P w K mg base A outer s H → ok s H → IsTup s.heap a its.toArray → IntsAre its b → b.length ≤ 1000 →
    wpAny (model P w) A (call f [.ref a]) (PySem.W.KeyPure (sizeK b) s) (fun _ _ => False) s
theorem reads_ints {h : Heap} : ∀ {its : List Value} {b : List Int}, IntsAre its b → ReadsAll h its (b.map PyData.int) []
  | [], [], _ => .nil
  | _ :: _, [], z => by cases z
  | [], _ :: _, z => by cases z
  | _ :: _, _ :: _, .cons i t r => .cons (as := []) (.int i t) (reads_ints r)
theorem reads_tup {h : Heap} {a : Addr} {its : List Value} {b : List Int} (ht : IsTup h a its.toArray) (hi : IntsAre its b) : Reads h (.ref a) (.tuple (b.map .int)) [] := by
  obtain ⟨o, h1, h2, n, h3⟩ := ht
  exact .tuple h1 h2 h3 (by rw [List.toList_toArray]; exact reads_ints hi)
section
variable {X : Cx} {pins : List (Addr × Obj)} {σ : L2.St} {H : Hp} {s : Shared}
/-- (len(lot), lot) -/
theorem size_body {E : Value → Shared → Prop} {a : Str} {p1 p2 p3 p4 p5 : Pos} {c : Nat} {r : Addr} {its : List Value} {b : List Int} (I : Inv X pins σ H s) (hN : X.N[0]? = some a) (hv : X.env.scope.names.lookup a = some .local) (hda : (a == ("__debug__" : Str)) = false)
    (hσ : σ[0]? = some (some (.ref r))) (hg : Gl X "len") (hm : X.mg "len" = none) (ht : IsTup s.heap r its.toArray) (hi : IntsAre its b) (hb : b.length ≤ 1000) {Q : Value → Shared → Prop}
    (h : ∀ v s', PySem.W.KeyPure (sizeK b) s v s' → Q v s') :
    wpAny (model X.prog X.w) X.A (eval (.Tuple [.Call (.Name "len" p1) [.Name a p2] [] p3, .Name a p4] c p5) X.env) Q E s := by
  obtain ⟨m, hn, hl⟩ := id I.loc
  obtain ⟨u, ru, l⟩ := hl 0 a _ hN hσ (.inl hv)
  have hm0 : m a = some u := by
    rcases l with ⟨_, hm⟩ | ⟨hk, _⟩
    · exact hm
    · have hk' : X.env.scope.names.lookup a = some .cell ∨ X.env.scope.names.lookup a = some .free := hk
      rw [hv] at hk'
      rcases hk' with hk' | hk' <;> cases hk'
  obtain rfl : u = Value.ref r := ru
  have hlen : its.length = b.length := hi.length
  have sl : 1000 ≤ sizeLine := by rw [sizeLine_eq]; omega
  refine wpAny_Tuple_spliced (args_cons ?_ rfl)
  refine wpAny_Call_Name_kw (ld_blt I hg hm boot_len ?_ (by decide) (by decide))
  refine PyProof.Rows.callWith_builtin1 (args_cons (wpAny_Name (wpAny_loadName_local I.ok.kind hv hn hm0 (args_nil ?_)) hda) rfl) rfl rfl
  refine len_tuple ht (by rw [List.size_toArray, hlen]; have := line63; omega) ?_
  refine args_cons (wpAny_Name (wpAny_loadName_local I.ok.kind hv hn hm0 (args_nil ⟨?_, ?_⟩)) hda) rfl
  · show 2 ≤ sizeLine; omega
  refine h _ _ ⟨_, _, rfl, fun q o e => Heap.get?_push_of_some _ e, ?_⟩
  refine .tuple (Heap.get?_push_size _ rfl) rfl rfl ?_
  have e1 : (its.toArray.size : Int) = (b.length : Int) := by rw [List.size_toArray, hlen]
  refine .cons (as := []) (bs := []) ?_ (.cons (as := []) (bs := []) ?_ .nil)
  · rw [e1]; exact .int _ _
  · exact reads_tup (h := Heap.push _ _) ⟨ht.choose, Heap.get?_push_of_some _ ht.choose_spec.1, ht.choose_spec.2⟩ hi
end
section
variable {P : Program} {w : World} {K : PySem.W.Frag} {mg : Str → Option Value} {base : Heap}
theorem keyPure_back {k : PyData} {s : Shared} {h1 : Heap} {tk : Nat} {v : Value} {s' : Shared} (hk : ∀ b o, s.heap.get? b = some o → h1.get? b = some o) (h : PySem.W.KeyPure k { s with heap := h1, toks := tk } v s') : PySem.W.KeyPure k s v s' := by
  obtain ⟨h', t', e, kp, r⟩ := h
  exact ⟨h', t', e, fun b o q => kp b o (hk b o q), r⟩
theorem size_turn_def {x a : Str} {params : Arguments} {scope : Scope} {f : Addr} {fd : FuncData} {p1 p2 p3 p4 p5 p6 : Pos} {c : Nat}
    (F : FunD K x x params [.Return (some (.Tuple [.Call (.Name "len" p1) [.Name a p2] [] p3, .Name a p4] c p5)) p6] scope [] [] f fd) (S : FnScope [a] [a] scope) (hb : Binds K fd [a] []) (hv : scope.names.lookup a = some .local) (hda : (a == ("__debug__" : Str)) = false)
    (hg : scope.names.lookup ("len" : Str) = some .globalImplicit) (hm : mg "len" = none) : SizeTurn P w K mg base (fun _ _ => True) (.ref f) := by
  obtain ⟨oc, od, dV, kV, doc, pm, an, cdv, ct, osl, rfl, lk, hcd, _, _⟩ := F.ex
  intro A outer s H r its b hr e0 _ ht hi hl
  have KX : K.In s.heap := e0.mod.kin.keeps fun b o e => (e0.bs b o e).1
  have lim : s.heap.NoLimit := e0.mod.nolimit.keeps fun b o e => (e0.bs b o e).1
  have hkind : ∀ y ∈ [a].zip [Value.ref r], scope.names.lookup y.1 = some .local ∨ (scope.names.lookup y.1 = some .cell ∧ ((cellsFrom (s.heap.objs.size + 1) scope.names []).lookup y.1).isSome = true) := fun y hy => by
    have e : y = (a, .ref r) := by simpa using hy
    rw [e]; exact .inl hv
  refine wpAny_call (codeAny_call_function hr.depth (KX _ _ lk) rfl S.co S.gen rfl (PySem.W.codeRec_of KX hcd) (hb s [.ref r] KX rfl _ _ _ _ ?_))
  refine wpAny_newFunctionEnv_cells S.kind hkind fun env he s1 y => ?_
  subst he
  refine ⟨lim.keeps y.toInCall.keep, codeAny_func ?_⟩
  have I : Inv (cxOf C8.CX0 P w K mg base [a] x scope f cdv A outer s H (fun _ _ _ => False)) [] (L2.start [a] [.ref r]) H s1 := inv_start S hr.hd e0 rfl (.cons rfl .nil) y
  obtain ⟨h1, tk, rfl, hk⟩ := y.done
  refine wpAny_execs_cons (wpAny_Return_some (size_body (X := cxOf C8.CX0 P w K mg base [a] x scope f cdv A outer s H (fun _ _ _ => False)) I rfl hv hda rfl hg hm ?_ hi hl fun v s' kp => ?_))
  · obtain ⟨o, h1', h2⟩ := ht
    exact ⟨o, hk _ _ h1', h2⟩
  · exact keyPure_back hk kp
theorem size_turn_lam {a q : Str} {params : Arguments} {scope : Scope} {f c' : Addr} {pm ctv : Value} {p1 p2 p3 p4 p5 : Pos} {c : Nat}
    (S : FnScope [a] [a] scope) (hbind : ∀ u, bindArgs (PySem.W.kla_fn "<lambda>" q params (.Tuple [.Call (.Name "len" p1) [.Name a p2] [] p3, .Name a p4] c p5) scope [] pm (.ref c') ctv) ⟨[u], []⟩ = pure [(a, u)]) (hv : scope.names.lookup a = some .local) (hda : (a == ("__debug__" : Str)) = false)
    (hg : scope.names.lookup ("len" : Str) = some .globalImplicit) (hm : mg "len" = none) :
    SizeTurn P w K mg base (fun s _ => s.heap.get? f = some (PySem.W.kla_obj "<lambda>" q params (.Tuple [.Call (.Name "len" p1) [.Name a p2] [] p3, .Name a p4] c p5) scope [] pm c' ctv) ∧ ∃ (oc : Obj) (vs : Array Value) (t : Tok), s.heap.get? c' = some oc ∧ oc.data = .fields vs ∧ vs[1]? = some (.str q t)) (.ref f) := by
  intro A outer s H r its b hr e0 hok ht hi hl
  obtain ⟨hf, oc, vs, t, hoc, hdc, hvc⟩ := hok
  have lim : s.heap.NoLimit := e0.mod.nolimit.keeps fun b o e => (e0.bs b o e).1
  have hkind : ∀ y ∈ [(a, Value.ref r)], scope.names.lookup y.1 = some .local ∨ (scope.names.lookup y.1 = some .cell ∧ ((cellsFrom (s.heap.objs.size + 1) scope.names []).lookup y.1).isSome = true) := fun y hy => by
    have e : y = (a, .ref r) := by simpa using hy
    rw [e]; exact .inl hv
  refine wpAny_call (PySem.W.kla_callFunE hr.depth hf rfl S.co S.gen rfl ⟨c', oc, vs, t, rfl, hoc, hdc, hvc⟩ ?_)
  rw [hbind]
  refine wpAny_pure (wpAny_newFunctionEnv_cells S.kind hkind fun env he s1 y => ?_)
  subst he
  refine ⟨lim.keeps y.toInCall.keep, PySem.W.kla_codeExpr ?_⟩
  have I : Inv (cxOf C8.CX0 P w K mg base [a] q scope f (.ref c') A outer s H (fun _ _ _ => False)) [] (L2.start [a] [.ref r]) H s1 := inv_start S hr.hd e0 rfl (us := [.ref r]) (.cons rfl .nil) y
  obtain ⟨h1, tk, rfl, hk⟩ := y.done
  refine size_body (X := cxOf C8.CX0 P w K mg base [a] q scope f (.ref c') A outer s H (fun _ _ _ => False)) I rfl hv hda rfl hg hm ?_ hi hl fun v s' kp => ?_
  · obtain ⟨o, h1', h2⟩ := ht
    exact ⟨o, hk _ _ h1', h2⟩
  · exact keyPure_back hk kp
end
end DP

set_option Elab.async false
set_option linter.all false
set_option maxRecDepth 100000
set_option maxHeartbeats 2000000
/-! E3u: the def that catches what a lambda raises. -/
namespace DP
open PySem PySem.Spec PyProof.Rows L2
/-- what that def makes of the lambda's reading -/
def TTc (m : MG) (C : Ctx) : (XK → Hp → VK → Prop) → Hp → VK → Prop := fun tl H Q =>
  tl (fun cls d H' => ∃ c Cc, cls = .ref Cc ∧ m.ca c = some Cc ∧ d = none ∧ C.web c = true ∧ ∀ a, H' a = none → Q (.ref a) (upd H' a (ExT cls none a))) H fun _ H' => Q .non H'
theorem caught_gives {m : MG} {C : Ctx} {X : Cx} {x q : Str} {sg : Scope} {g CS : Addr} {cdg : Value} {j : Nat} {p0 p1 p2 p3 p4 p5 p6 p7 p8 p9 p10 p11 p12 p13 : Pos} (hge : sg.names.lookup ("WebError" : Str) = some .globalImplicit) (hme : X.mg "WebError" = some (.ref CS))
    (ha : sg.names.lookup ("action" : Str) = some .local) (hf : sg.names.lookup ("found" : Str) = some .local) (he : sg.names.lookup ("error" : Str) = some .local) (hk : sg.kind = .function)
    (hw : ∀ c Cc, C.web c = true → m.ca c = some Cc → PySem.W.exmOne X.K (.ref Cc) (.ref CS) = some true) :
    LamX.GivesTo X ["action", "found", "error"] x sg g cdg [.Assign [.Name "found" p0] (.Constant .none j p1) p2, .Try [.Expr (.Call (.Name "action" p3) [] [] p4) p5] [.ExceptHandler (some (.Name "WebError" p6)) (some "error") [.Assign [.Name "found" p7] (.Name "error" p8) p9] p10] [] [] p11,
      .Return (some (.Name "found" p12)) p13] "action" q (TTc m C) := by
  intro f c' s H Q tl act hc h
  let Y := cxOf C8.CX0 X.prog X.w X.K X.mg X.base ["action", "found", "error"] x sg g cdg X.A X.stack s H C8.E0
  have nd : (["action", "found", "error"] : List Str).Nodup := by decide
  have hgl : Gl Y.nox "WebError" := hge
  have T := ps_try_keep (X := Y.nox) (c := .ref CS) (i := 2) (x := "WebError") (n := "error") (p1 := p6) (p2 := p10) (p3 := p11) (Wout := fun _ _ _ _ => False) (body := [.Expr (.Call (.Name "action" p3) [] [] p4) p5])
    (st := .Assign [.Name "found" p7] (.Name "error" p8) p9) (suite := [])
    (tb := fun W D σ H => ∃ Ech : XK, (∀ cls d σ' H', Ech cls d H' → σ'.length = 3 → W cls d σ' H') ∧ σ[0]? = some (some (.ref f)) ∧ H c' = some (LamX.CodeO c' q) ∧ tl Ech H fun _ H' => D.nx σ H')
    (ts := fun a cls d D σ H => tAsg (tVar 2) (gName 1) D σ H) rfl rfl rfl nd rfl he ⟨hgl, by decide, .inl hme⟩ LamX.takes0 (fun W pn xe tk _ => ?_) (fun a oe cls d pn _ _ => ?_)
  · refine ⟨_, pss_cons (ps_set (X := Y.nox) (i := 1) nd rfl (.inl hf) pe_non) (pss_cons T (pss_one (ps_ret (pe_var (i := 1) rfl (.inl hf) (by decide) (by decide))))), ?_⟩
    let Ec : XK := fun cls d H' => ∃ c Cc, cls = .ref Cc ∧ m.ca c = some Cc ∧ d = none ∧ C.web c = true ∧ ∀ a, H' a = none → Q (.ref a) (upd H' a (ExT cls none a))
    have h : tl (fun cls d H' => ∃ c Cc, cls = .ref Cc ∧ m.ca c = some Cc ∧ d = none ∧ C.web c = true ∧ ∀ a, H' a = none → Q (.ref a) (upd H' a (ExT cls none a))) H fun _ H' => Q .non H' := h
    have eN : (fun (_ : V) (H' : Hp) => tRet (tVar 1) { nx := fun _ H' => Q .non H', rt := Q } ((L2.start ["action", "found", "error"] [V.ref f]).set 1 (some V.non)) H') = fun _ H' => Q .non H' := by
      funext v H'
      refine propext ⟨fun ⟨v, e, z⟩ => ?_, fun z => ⟨.non, rfl, z⟩⟩
      cases e
      exact z
    refine ⟨Ec, fun cls d σ' H' ⟨c, Cc, e1, e2, e3, e4, q⟩ hl => ⟨true, by rw [e1]; exact hw c Cc e4 e2, (fun z => by cases z), fun _ a na => ⟨.ref a, ?_, fun n2 => ?_⟩⟩, rfl, hc, by rw [← eN] at h; exact h⟩
    · rw [List.getElem?_set_self (by rw [hl]; decide)]
    · subst e3
      refine ⟨.ref a, ?_, q a n2⟩
      rw [List.getElem?_set_ne (by decide), List.getElem?_set_self (by rw [List.length_set, hl]; decide)]
  · refine ⟨fun pins s' σ H D I h' => ?_⟩
    obtain ⟨Ech, hW, h1, h2, h3⟩ := h'
    have tk' : Takes (Y.nox.tr pn xe) (fun cls d σ' H' => σ'.length = 3 → W cls d σ' H') := fun u s' ⟨a, B, sI, pins, σ, H, cls, d, e, I, b1, b2, b3, b4, b5, b6, w⟩ =>
      tk u s' ⟨a, B, sI, pins, σ, H, cls, d, e, I, b1, b2, b3, b4, b5, b6, w I.len⟩
    have hp := act _ pn xe Ech p3 p4 tk' hW
    have hq := pss_one (ps_expr (pos := p5) hp)
    exact hq.run pins s' σ H D I ⟨h1, h2, h3⟩
  · exact pss_one (ps_set (X := Y.nox.suite a ((a, oe) :: pn)) (i := 1) nd rfl (.inl hf) (pe_var (i := 2) rfl (.inl he) (by decide) (by decide)))
/-- the def that catches, as it stands in the module -/
def CatchOk (P : Program) (w : World) (K : PySem.W.Frag) (mg : Str → Option Value) (base : Heap) (m : MG) (C : Ctx) (x : Str) : Prop :=
  ∃ (g : Addr) (pg : Arguments) (bg : List Stmt) (sg : Scope) (dV kV doc pm cdv ct oc : Value) (an od : Option Addr) (osl : Array (Option Value)) (Ng : List Str) (a : Str),
    mg x = some (.ref g) ∧ PySem.W.keepIn K (.ref g) = true ∧ K.lookup g = some ⟨oc, od, .func (PySem.W.fnOf x x pg bg sg dV kV doc pm an cdv ct), osl⟩ ∧ PySem.W.codeIn K cdv x = true ∧ L2.Binds K (PySem.W.fnOf x x pg bg sg dV kV doc pm an cdv ct) [a] [] ∧
    FnScope Ng [a] sg ∧ Ng[0]? = some a ∧ Vis sg a ∧ (a == ("__debug__" : Str)) = false ∧ (a == ("__classdict__" : Str)) = false ∧
    ∀ (X : Cx) (q : Str), X.prog = P → X.w = w → X.K = K → X.mg = mg → X.base = base → LamX.GivesTo X Ng x sg g cdv bg a q (TTc m C)
theorem catch_ok {P : Program} {w : World} {K : PySem.W.Frag} {mg : Str → Option Value} {base : Heap} {m : MG} {C : Ctx} {x : Str} {params : Arguments} {sg : Scope} {f : Addr} {fd : FuncData} {CS : Addr} {j : Nat} {p0 p1 p2 p3 p4 p5 p6 p7 p8 p9 p10 p11 p12 p13 : Pos}
    (F : FunD K x x params [.Assign [.Name "found" p0] (.Constant .none j p1) p2, .Try [.Expr (.Call (.Name "action" p3) [] [] p4) p5] [.ExceptHandler (some (.Name "WebError" p6)) (some "error") [.Assign [.Name "found" p7] (.Name "error" p8) p9] p10] [] [] p11,
      .Return (some (.Name "found" p12)) p13] sg [] [] f fd) (S : FnScope ["action", "found", "error"] ["action"] sg) (hb : Binds K fd ["action"] []) (hg : mg x = some (.ref f)) (hge : sg.names.lookup ("WebError" : Str) = some .globalImplicit) (hme : mg "WebError" = some (.ref CS))
    (ha : sg.names.lookup ("action" : Str) = some .local) (hf : sg.names.lookup ("found" : Str) = some .local) (he : sg.names.lookup ("error" : Str) = some .local)
    (hw : ∀ c Cc, C.web c = true → m.ca c = some Cc → PySem.W.exmOne K (.ref Cc) (.ref CS) = some true) : CatchOk P w K mg base m C x := by
  obtain ⟨oc, od, dV, kV, doc, pm, an, cdv, ct, osl, rfl, lk, hcd, _, _⟩ := F.ex
  refine ⟨f, _, _, sg, dV, kV, doc, pm, cdv, ct, oc, an, od, osl, ["action", "found", "error"], "action", hg, F.kp, lk, hcd, hb, S, rfl, .inl ha, by decide, by decide, fun X q e1 e2 e3 e4 e5 => ?_⟩
  exact caught_gives hge (by rw [e4]; exact hme) ha hf he S.kind fun c Cc h1 h2 => by rw [e3]; exact hw c Cc h1 h2
end DP

set_option Elab.async false
set_option linter.all false
set_option maxRecDepth 100000
set_option maxHeartbeats 1000000
/-! E4: that a code is a given expression; what it promises. -/
namespace DP
open PySem PySem.Spec PyProof.Rows L2

/-! ### the names of the module -/
structure MD where
  fnL : List (Nat × (Str × List Str))
  clL : List (Nat × (Str × Option Str))
  ctL : List (Nat × Str)
  free : List Str
  kw : List (Nat × List Str × List Nat)
  sk : List Nat
  cc : List Nat
def MD.fn (M : MD) (f : Nat) : Option (Str × List Str) := M.fnL.lookup f
def MD.cl (M : MD) (c : Nat) : Option (Str × Option Str) := M.clL.lookup c
def MD.ct (M : MD) (c : Nat) : Option Str := M.ctL.lookup c
theorem mem_lk {α : Type} {n : Nat} {a : α} : ∀ {l : List (Nat × α)}, l.lookup n = some a → (n, a) ∈ l
  | [], h => by cases h
  | (m, b) :: l, h => by
    rw [List.lookup_cons] at h
    by_cases e : n == m
    · rw [e] at h
      simp only [beq_iff_eq] at e
      cases h
      rw [e]; exact List.mem_cons_self
    · have e' : (n == m) = false := by simpa using e
      rw [e'] at h
      exact List.mem_cons_of_mem _ (mem_lk h)
def visB (sc : Scope) (x : Str) : Bool := match sc.names.lookup x with
  | some .local => true
  | some .cell => true
  | some .free => true
  | _ => false
def glB (sc : Scope) (x : Str) : Bool := match sc.names.lookup x with
  | some .globalImplicit => true
  | _ => false
def okN (x : Str) : Bool := !(x == ("__debug__" : Str)) && !(x == ("__classdict__" : Str)) && !decide (x = "__name__")
/-- an ordinary expression: not a star, not a slice, not a set's display -/
def ordB : Expr → Bool
  | .Starred .. => false
  | .Slice .. => false
  | .Set .. => false
  | _ => true
theorem visB_ok {sc : Scope} {x : Str} (h : visB sc x = true) : Vis sc x := by
  unfold visB at h
  unfold Vis
  split at h <;> simp_all
theorem glB_ok {X : Cx} {sc : Scope} {x : Str} (hs : X.env.scope = sc) (h : glB sc x = true) : Gl X x := by
  unfold glB at h
  show X.env.scope.names.lookup x = _
  rw [hs]
  split at h
  · assumption
  · cases h
theorem okN_ok {x : Str} (h : okN x = true) : (x == ("__debug__" : Str)) = false ∧ (x == ("__classdict__" : Str)) = false ∧ x ≠ "__name__" := by
  simpa [okN, and_assoc] using h
theorem star_ord {e : Expr} {es : List Expr} {env : Env} (h : ordB e = true) : starEach (e :: es) env = (false, eval e env) :: starEach es env := by
  cases e <;> first | rfl | (simp [ordB] at h)
theorem star_all {es : List Expr} {env : Env} (h : es.all ordB = true) : ∀ (pos : Pos), (backTo pos (starEach es env)).any (·.1) = false := by
  intro pos
  induction es with
  | nil => rfl
  | cons e r ih =>
    have h' : ordB e = true ∧ r.all ordB = true := by simpa using h
    rw [star_ord h'.1]
    show (false || (backTo pos (starEach r env)).any (·.1)) = false
    rw [ih h'.2]; rfl
theorem plain_ord {e : Expr} (h : ordB e = true) : PlainIx e := by
  cases e <;> first | (intro o i; rfl) | (simp [ordB] at h)
theorem mark_ord {e : Expr} {op : CmpOp} (h : ordB e = true) : behindInMarks op e = false := by
  cases e <;> first | rfl | (simp [ordB] at h)

/-! ### promises -/
/-- an error object: its class, its fields -/
def ExR (G : MG) (H : Hp) (x : D) (cls : Value) (d : Option Addr) : Prop :=
  ∃ c fs C, x = .exc c fs ∧ G.ca c = some C ∧ cls = .ref C ∧ ((fs = [] ∧ d = none) ∨ ∃ f y v dd, fs = [(f, y)] ∧ d = some dd ∧ H dd = some (.xd [(f, v)]) ∧ Rep G (fun _ => False) H y v ∧ y.imm = true)
structure Pre (G : MG) (A : Addr → Prop) (c : Nat) (H : Hp) : Prop where
  ra : ∀ a, G.R a → A a
  ah : ∀ a, A a → Nt H a
  j : G.Jc c H
/-- a def has come back -/
structure Ret (G : MG) (A : Addr → Prop) (c : Nat) (H H' : Hp) (d : D) (fr : Bool) (v : V) : Prop where
  k : Kp G.R H H'
  j : G.Jc c H'
  r : if fr then ∃ p, v = .ref p ∧ ¬ Nt H p ∧ OwAt G (fun a => A a ∨ a = p) H' d p else Rep G A H' d v
def lift (G : MG) (n q : Nat) (S : FSpec) : Sp := fun vs H Q E => ∃ A ds c, Pre G A (c + q) H ∧ Reps G A H ds vs ∧ ds.length = n ∧
  S ds (fun d fr => ∀ v H', Ret G A c H H' d fr v → Q v H') (fun x => ∀ cls dd H', Kp G.R H H' → G.Jc c H' → ExR G H' x cls dd → E cls dd H')
/-- a call by keywords alone binds so -/
def KwTo (K : PySem.W.Frag) (fd : FuncData) (ps ks : List Str) (perm : List Nat) : Prop :=
  ∀ (s : Shared) (ws : List Value), K.In s.heap → ws.length = ks.length → BindsTo s fd ⟨[], ks.zip ws⟩ (ps.zip (permL perm ws))
/-- the def of that name keeps its promise, at most k calls deep -/
def Has (P : Program) (w : World) (K : PySem.W.Frag) (mg : Str → Option Value) (base : Heap) (G : MG) (k : Nat) (x : Str) (ps : List Str) (S : FSpec) (f q : Nat) (kw : List (Nat × List Str × List Nat)) : Prop :=
  ∃ fa fd, FnOk P w K mg base (L2.CX P w) k fa fd ps (lift G ps.length q S) ∧ mg x = some (.ref fa) ∧ PySem.W.keepIn K (.ref fa) = true ∧ Binds K fd ps [] ∧ G.fa f = some fa ∧ ∀ q ∈ kw, q.1 = f → KwTo K fd ps q.2.1 q.2.2
theorem Has.mono {P : Program} {w : World} {K : PySem.W.Frag} {mg : Str → Option Value} {base : Heap} {G : MG} {j k : Nat} {x : Str} {ps : List Str} {S : FSpec} {f q : Nat} {kw : List (Nat × List Str × List Nat)} (h : Has P w K mg base G j x ps S f q kw) (hk : j ≤ k) : Has P w K mg base G k x ps S f q kw := by
  obtain ⟨fa, fd, h1, h2⟩ := h
  exact ⟨fa, fd, h1.mono hk, h2⟩
theorem Rel.push_ret {G : GC} {s : St} {σ : L2.St} {vs : List (Option V)} {H H' : Hp} {gl gk : List GS} {A : Addr → Prop} {d : D} {fr : Bool} {v : V} (ok : G.Ok) (R : Rel G s σ vs H gl gk) (hA : ∀ a, Av G gl gk a → A a) (h : Ret G.m A (G.c0 + s.cr) H H' d fr v) :
    ∃ gk', Rel G (s.push (fsh d fr)) σ (some v :: vs) H' gl gk' := by
  have R1 := R.heap ok h.k h.j
  have hr := h.r
  cases fr with
  | false =>
    have hr : Rep G.m A H' d v := hr
    exact ⟨_, R1.push_sh (Rep.sub (fun a z => .inl (hA a z)) _ _ hr)⟩
  | true =>
    obtain ⟨p, rfl, hp, ho⟩ := (show ∃ p, v = .ref p ∧ ¬ Nt H p ∧ OwAt G.m (fun a => A a ∨ a = p) H' d p from hr)
    have n1 : p ∉ owns gl ++ owns gk := fun z => by
      obtain ⟨u, e, w⟩ := R.there z
      exact hp ⟨u, e, ow_nt w⟩
    refine ⟨_, R1.push_ow n1 (fun z => hp (R.ke.d p z)) (fun g hg => ?_) (OwAt.sub (fun a z => .inl (z.imp (hA a) id)) ho)⟩
    have z : GRep G.m (fun a => Av G gl gk a ∨ a = p) H g := GRep.sub (fun a ha => ha.elim .inl fun q => .inr (by rw [q]; exact hp)) (R.rp g hg)
    have kA : Kp (fun a => Av G gl gk a ∨ a = p) H H' := h.k.mono fun a z => .inl (.inl (ok.ra a z))
    cases g with
    | emp _ => trivial
    | br _ _ => trivial
    | crd _ => trivial
    | sh d v => exact Rep.keep ok.m kA _ _ z
    | ow d q =>
      obtain ⟨u, hu, ow⟩ := OwAt.there z
      have hq : q ∈ owns gl ++ owns gk := by
        rcases List.mem_append.mp hg with z | z
        · exact List.mem_append_left _ (mem_owns.mpr ⟨d, z⟩)
        · exact List.mem_append_right _ (mem_owns.mpr ⟨d, z⟩)
      exact OwAt.keep ok.m kA ((h.k.k q u hu (fun z => R.fr q hq (ok.ah q (ok.ra q z))) (fun ps z => by rw [z] at ow; exact ow)).trans hu.symm) z

/-! ### readings -/
/-- where lambdas are made -/
structure LamOk (G : GC) (C : Ctx) (M : MD) (use : List Nat) (k : Nat) (X : Cx) : Prop where
  tab : ∃ c P, LamX.TabB X.base X.mg c P ∧ X.env.code = .ref c ∧ (P, X.env.qual ++ "<lambda>") ∈ G.m.T ∧ ∀ p ∈ G.m.T, p.1 = P → p.2 = X.env.qual ++ "<lambda>"
  fns : ∃ j, j + 2 ≤ k ∧ (∀ f ∈ use, ∀ x ps, (M.fn f) = some (x, ps) → Has X.prog X.w X.K X.mg X.base G.m j x ps (C.fs f) f (C.cost f) M.kw) ∧
    ∀ f n, C.hd f = some n → ∃ x ps, (M.fn f) = some (x, ps) ∧ ps.length = n ∧ Has X.prog X.w X.K X.mg X.base G.m j x ps (C.fs f) f (C.cost f) M.kw
/-- where a code runs -/
structure Good (G : GC) (C : Ctx) (M : MD) (use : List Nat) (N : List Str) (k : Nat) (X : Cx) (sc : Scope) (W : WX) : Prop where
  ok : G.Ok
  calm : X.calm = true
  K : X.K = G.m.K
  nm : X.N = N
  nd : N.Nodup
  sc : X.env.scope = sc
  room : Room k X.A
  tk : Takes X W
  fns : ∀ f ∈ use, ∀ x ps, (M.fn f) = some (x, ps) → Has X.prog X.w X.K X.mg X.base G.m k x ps (C.fs f) f (C.cost f) M.kw
  fvs : ∀ f x ps, (M.fn f) = some (x, ps) → ∃ a, X.mg x = some (.ref a) ∧ G.m.fa f = some a
  cvs : ∀ c x o, (M.cl c) = some (x, o) → ∃ a, X.mg x = some (.ref a) ∧ G.m.ca c = some a
  cts : ∀ c x, (M.ct c) = some x → ∃ u v, X.mg x = some u ∧ RelV v u ∧ ∀ A H, Rep G.m A H (C.cst c) v
  free : ∀ x ∈ M.free, X.mg x = none
  cls : ClsOk G.m C
  k3 : 3 ≤ k
  sk : ∀ f ∈ M.sk, ∀ x ps, (M.fn f) = some (x, ps) → ∃ fa, X.mg x = some (.ref fa) ∧ SizeTurn X.prog X.w X.K X.mg X.base (fun _ _ => True) (.ref fa)
  cc : ∀ f ∈ M.cc, ∀ x ps, (M.fn f) = some (x, ps) → CatchOk X.prog X.w X.K X.mg X.base G.m C x
  lam : 1000 ∈ use → LamOk G C M use k X
def EQ (G : GC) (W : WX) (σ : L2.St) (Xd : D → St → Prop) : Prop := ∀ x s1 vs1 H1 gl1 gk1 cls d, Rel G s1 σ vs1 H1 gl1 gk1 → ExR G.m H1 x cls d → Xd x s1 → W cls d σ H1
def tE (G : GC) (C : Ctx) (W : WX) (c : E) : TE := fun σ H Q => ∃ s vs gl gk P Xd, Rel G s σ vs H gl gk ∧ (∀ s1 v H1 gl1 gk1, P s1 → Rel G s1 σ (some v :: vs) H1 gl1 gk1 → Q v H1) ∧ EQ G W σ Xd ∧ we C c s P Xd
/-- how many a list of codes is -/
def nE : E → Nat
  | .cons _ r => nE r + 1
  | _ => 0
def tA (G : GC) (C : Ctx) (W : WX) (c : E) : TA := fun σ H Q => ∃ s vs gl gk P Xd, Rel G s σ vs H gl gk ∧ (∀ s1 xs H1 gl1 gk1, xs.length = nE c → P s1 → Rel G s1 σ (xs.reverse.map some ++ vs) H1 gl1 gk1 → Q xs H1) ∧ EQ G W σ Xd ∧ we C c s P Xd
theorem pe_conv {X : Cx} {e : Expr} {t t' : TE} (h : PE X e t) (i : ∀ σ H Q, t' σ H Q → t σ H Q) : PE X e t' := ⟨fun pins s σ H Q I q => h.run pins s σ H Q I (i σ H Q q)⟩
theorem pa_conv {X : Cx} {e : List Expr} {t t' : TA} (h : PA X e t) (i : ∀ σ H Q, t' σ H Q → t σ H Q) : PA X e t' := ⟨fun pos pins s σ H Q I q => h.run pos pins s σ H Q I (i σ H Q q)⟩
theorem pt_conv {X : Cx} {e : Expr} {t t' : TT} (h : PT X e t) (i : ∀ σ H Q, t' σ H Q → t σ H Q) : PT X e t' := ⟨fun pins s σ H Q I q => h.run pins s σ H Q I (i σ H Q q)⟩
section
variable {G : GC} {C : Ctx} {W : WX} {M : MD} {use : List Nat} {N : List Str} {k : Nat} {X : Cx} {sc : Scope}
theorem Rel.top1 {s : St} {σ : L2.St} {v : V} {vs : List (Option V)} {H : Hp} {gl gk : List GS} {Q : D → St → Prop} (R : Rel G s σ (some v :: vs) H gl gk) (h : s.top Q) :
    ∃ x s4 gk4, Top G.m (Av G gl gk4) H x v ∧ Q x s4 ∧ Rel G s4 σ vs H gl gk4 := by
  obtain ⟨x, v', vr, gr, e, h, tx, R3, a3⟩ := R.top h
  cases e
  exact ⟨x, _, gr, Top.sub (fun a z => .inl (a3 a z)) tx, h, R3⟩
/-- two things read off the stack -/
theorem Rel.top2 {s : St} {σ : L2.St} {v u : V} {vs : List (Option V)} {H : Hp} {gl gk : List GS} {Q : D → D → St → Prop} (R : Rel G s σ (some u :: some v :: vs) H gl gk) (h : s.top fun y s3 => s3.top fun x s4 => Q x y s4) :
    ∃ x y s4 gk4, Top G.m (Av G gl gk4) H x v ∧ Top G.m (Av G gl gk4) H y u ∧ Q x y s4 ∧ Rel G s4 σ vs H gl gk4 := by
  obtain ⟨y, u', vr, gr, e, h, ty, R3, a3⟩ := R.top h
  cases e
  obtain ⟨x, v', vr, gr2, e, h, tx, R4, a4⟩ := R3.top h
  cases e
  exact ⟨x, y, _, gr2, Top.sub (fun a z => .inl (a4 a z)) tx, Top.sub (fun a z => .inl (a3 a (a4 a z))) ty, h, R4⟩
theorem Rel.top3 {s : St} {σ : L2.St} {v u w : V} {vs : List (Option V)} {H : Hp} {gl gk : List GS} {Q : D → D → D → St → Prop} (R : Rel G s σ (some w :: some u :: some v :: vs) H gl gk)
    (h : s.top fun z s2 => s2.top fun y s3 => s3.top fun x s4 => Q x y z s4) :
    ∃ x y z s4 gk4, Top G.m (Av G gl gk4) H x v ∧ Top G.m (Av G gl gk4) H y u ∧ Top G.m (Av G gl gk4) H z w ∧ Q x y z s4 ∧ Rel G s4 σ vs H gl gk4 := by
  obtain ⟨z, w', vr, gr, e, h, tz, R3, a3⟩ := R.top h
  cases e
  obtain ⟨y, u', vr, gr2, e, h, ty, R4, a4⟩ := R3.top h
  cases e
  obtain ⟨x, v', vr, gr3, e, h, tx, R5, a5⟩ := R4.top h
  cases e
  exact ⟨x, y, z, _, gr3, Top.sub (fun a z => .inl (a5 a z)) tx, Top.sub (fun a z => .inl (a4 a (a5 a z))) ty, Top.sub (fun a z => .inl (a3 a (a4 a (a5 a z)))) tz, h, R5⟩
theorem Res.ret {m : MG} {A : Addr → Prop} {c : Nat} {H H' : Hp} {d : D} {fr : Bool} {v : V} (j : m.Jc c H) (h : Res m A H H' d fr v) : Ret m A c H H' d fr v := by
  refine ⟨h.k.mono fun _ z => z.elim, h.j _ j, ?_⟩
  cases fr with
  | false => exact h.r
  | true =>
    obtain ⟨p, e, n, o⟩ := (show ∃ p, v = .ref p ∧ H p = none ∧ OwAt m (fun a => A a ∨ a = p) H' d p from h.r)
    exact ⟨p, e, nt_none n, o⟩

/-! ### expressions, one by one -/
variable {e a b c : Expr} {ca cb cc : E} {pos : Pos}
theorem o_var (g : Good G C M use N k X sc W) {i : Nat} {x : Str} (hi : N[i]? = some x) (hv : visB sc x = true) (ho : okN x = true) : PE X (.Name x pos) (tE G C W (.var i)) := by
  refine pe_conv (pe_var (i := i) (by rw [g.nm]; exact hi) (by rw [g.sc]; exact visB_ok hv) (okN_ok ho).1 (okN_ok ho).2.1) fun σ H Q h => ?_
  obtain ⟨s, vs, gl, gk, P, Xd, R, hP, hX, w⟩ := h
  unfold we at w
  split at w
  · rename_i d e
    obtain ⟨gg, hg, es⟩ := R.loc e
    have hv := R.locv hg
    have hr := R.lrep hg
    cases gg with
    | sh d v => cases es; exact ⟨v, hv, hP _ _ _ _ _ w (R.push_sh hr)⟩
    | _ => cases es
  · rename_i d e
    obtain ⟨gg, hg, es⟩ := R.loc e
    have hv := R.locv hg
    cases gg with
    | ow d p => cases es; exact ⟨.ref p, hv, hP _ _ _ _ _ w (R.push_br hv)⟩
    | _ => cases es
  · exact w.elim
theorem o_lit {d : D} {v : V} (hd : ∀ A H, Rep G.m A H d v) (h : PE X e (tC v)) : PE X e (tE G C W (.lit d)) := by
  refine pe_conv h fun σ H Q h => ?_
  obtain ⟨s, vs, gl, gk, P, Xd, R, hP, hX, w⟩ := h
  exact hP _ _ _ _ _ w (R.push_sh (hd _ _))
theorem o_val {cd : E} {d : D} {v : V} (hw : ∀ s P Xd, we C cd s P Xd → P (s.push (.sh d))) (hd : ∀ A H, Rep G.m A H d v) (h : PE X e (tC v)) : PE X e (tE G C W cd) := by
  refine pe_conv h fun σ H Q h => ?_
  obtain ⟨s, vs, gl, gk, P, Xd, R, hP, hX, w⟩ := h
  exact hP _ _ _ _ _ (hw _ _ _ w) (R.push_sh (hd _ _))
theorem o_neg (ha : PE X a (tE G C W ca)) : PE X (.UnaryOp .USub a pos) (tE G C W (.neg ca)) := by
  refine pe_conv (pe_un un_neg ha) fun σ H Q h => ?_
  obtain ⟨s, vs, gl, gk, P, Xd, R, hP, hX, w⟩ := h
  refine ⟨s, vs, gl, gk, _, Xd, R, fun s1 v H1 gl1 gk1 p R1 => ?_, hX, w⟩
  obtain ⟨x, s4, gk4, tx, ⟨i, e, q⟩, R4⟩ := R1.top1 p
  subst e
  have tx : v = .int i := tx
  subst tx
  exact ⟨i, rfl, hP _ _ _ _ _ q (R4.push_sh rfl)⟩
theorem o_bin (g : Good G C M use N k X sc W) {kk : BinK} (ha : PE X a (tE G C W ca)) (hb : PE X b (tE G C W cb)) : PE X (.BinOp a kk.op b pos) (tE G C W (.bin kk ca cb)) := by
  refine pe_conv (pe_op (opB_ok g.ok.m g.K kk) ha hb) fun σ H Q h => ?_
  obtain ⟨s, vs, gl, gk, P, Xd, R, hP, hX, w⟩ := h
  refine ⟨s, vs, gl, gk, _, Xd, R, fun s1 v H1 gl1 gk1 p R1 => ⟨s1, _, gl1, gk1, _, Xd, R1, fun s2 u H2 gl2 gk2 p2 R2 => ?_, hX, p⟩, hX, w⟩
  obtain ⟨x, y, s4, gk4, tx, ty, q, R4⟩ := R2.top2 p2
  refine ⟨_, x, y, tx, ty, binS_mono (fun d fr q v' H' r => ?_) q⟩
  obtain ⟨gk', R5⟩ := Rel.push_ret g.ok R4 (fun _ z => z) (r.ret R4.j)
  exact hP _ _ _ _ _ q R5
theorem o_cmp (g : Good G C M use N k X sc W) {kk : CmpK} (hb' : ordB b = true) (ha : PE X a (tE G C W ca)) (hb : PE X b (tE G C W cb)) : PE X (.Compare a [kk.op] [b] pos) (tE G C W (.cmp kk ca cb)) := by
  have hu : X.A.units + 80 < cLine := by have := g.room.un; omega
  refine pe_conv (pe_cmpR (opC_ok g.K hu kk) ha hb (mark_ord hb')) fun σ H Q h => ?_
  obtain ⟨s, vs, gl, gk, P, Xd, R, hP, hX, w⟩ := h
  refine ⟨s, vs, gl, gk, _, Xd, R, fun s1 v H1 gl1 gk1 p R1 => ⟨s1, _, gl1, gk1, _, Xd, R1, fun s2 u H2 gl2 gk2 p2 R2 => ?_, hX, p⟩, hX, w⟩
  obtain ⟨x, y, s4, gk4, tx, ty, q, R4⟩ := R2.top2 p2
  exact ⟨_, x, y, tx, ty, cmpS_mono (fun r q => hP _ _ _ _ _ q (R4.push_sh (d := .bl r) rfl)) q⟩
theorem o_cmpT (g : Good G C M use N k X sc W) {kk : CmpK} (hb' : ordB b = true) (ha : PE X a (tE G C W ca)) (hb : PE X b (tE G C W cb)) : PT X (.Compare a [kk.op] [b] pos) (tB (tE G C W (.cmp kk ca cb))) := by
  have hu : X.A.units + 80 < cLine := by have := g.room.un; omega
  refine pt_conv (pt_cmpR (opC_ok g.K hu kk) ha hb (mark_ord hb')) fun σ H Q h => ?_
  obtain ⟨s, vs, gl, gk, P, Xd, R, hP, hX, w⟩ := h
  refine ⟨s, vs, gl, gk, _, Xd, R, fun s1 v H1 gl1 gk1 p R1 => ⟨s1, _, gl1, gk1, _, Xd, R1, fun s2 u H2 gl2 gk2 p2 R2 => ?_, hX, p⟩, hX, w⟩
  obtain ⟨x, y, s4, gk4, tx, ty, q, R4⟩ := R2.top2 p2
  exact ⟨_, x, y, tx, ty, cmpS_mono (fun r q => hP _ _ _ _ _ q (R4.push_sh (d := .bl r) rfl)) q⟩
theorem o_idx (g : Good G C M use N k X sc W) (hb' : ordB b = true) (ha : PE X a (tE G C W ca)) (hb : PE X b (tE G C W cb)) : PE X (.Subscript a b pos) (tE G C W (.idx ca cb)) := by
  refine pe_conv (pe_ix (ix_ok (G := G.m) g.K) ha hb (plain_ord hb')) fun σ H Q h => ?_
  obtain ⟨s, vs, gl, gk, P, Xd, R, hP, hX, w⟩ := h
  refine ⟨s, vs, gl, gk, _, Xd, R, fun s1 v H1 gl1 gk1 p R1 => ⟨s1, _, gl1, gk1, _, Xd, R1, fun s2 u H2 gl2 gk2 p2 R2 => ?_, hX, p⟩, hX, w⟩
  obtain ⟨x, y, s4, gk4, tx, ty, q, R4⟩ := R2.top2 p2
  refine ⟨_, x, y, tx, ty, idxS_mono (fun d q v' H' r => ?_) q⟩
  obtain ⟨gk', R5⟩ := Rel.push_ret g.ok R4 (fun _ z => z) (r.ret R4.j)
  exact hP _ _ _ _ _ q R5
theorem o_chain (g : Good G C M use N k X sc W) {kk kk' : CmpK} (hb' : ordB b = true) (hc' : ordB c = true) (ha : PE X a (tE G C W ca)) (hb : PE X b (tE G C W cb)) (hc : PE X c (tE G C W cc)) :
    PE X (.Compare a [kk.op, kk'.op] [b, c] pos) (tE G C W (.chain kk kk' ca cb cc)) := by
  have hu : X.A.units + 80 < cLine := by have := g.room.un; omega
  refine pe_conv (pe_chain (opC_ok g.K hu kk) (opC_ok g.K hu kk') ha hb hc (by show behindInMarks kk'.op c = false; exact mark_ord hc')) fun σ H Q h => ?_
  obtain ⟨s, vs, gl, gk, P, Xd, R, hP, hX, w⟩ := h
  refine ⟨s, vs, gl, gk, _, Xd, R, fun s1 v H1 gl1 gk1 p R1 => ⟨s1, _, gl1, gk1, _, Xd, R1, fun s2 u H2 gl2 gk2 p2 R2 => ?_, hX, p⟩, hX, w⟩
  obtain ⟨x, y, s4, gk4, tx, ty, ⟨im, q⟩, R4⟩ := R2.top2 p2
  refine ⟨_, x, y, tx, ty, cmpS_mono (fun r q => ⟨r, rfl, ?_⟩) q⟩
  have ry : Rep G.m (Av G gl2 gk4) H2 y u := by cases y <;> first | exact ty | (simp [D.imm] at im)
  cases r with
  | false => exact hP _ _ _ _ _ q (R4.push_sh rfl)
  | true =>
    refine ⟨_, _, gl2, _, _, Xd, R4.push_sh ry, fun s5 z H5 gl5 gk5 p5 R5 => ?_, hX, q⟩
    obtain ⟨y', z', s7, gk7, ty', tz, q, R7⟩ := R5.top2 p5
    exact ⟨_, y', z', ty', tz, cmpS_mono (fun r q => hP _ _ _ _ _ q (R7.push_sh (d := .bl r) rfl)) q⟩
theorem o_chainT (g : Good G C M use N k X sc W) {kk kk' : CmpK} (hb' : ordB b = true) (hc' : ordB c = true) (ha : PE X a (tE G C W ca)) (hb : PE X b (tE G C W cb)) (hc : PE X c (tE G C W cc)) :
    PT X (.Compare a [kk.op, kk'.op] [b, c] pos) (tB (tE G C W (.chain kk kk' ca cb cc))) := by
  have hu : X.A.units + 80 < cLine := by have := g.room.un; omega
  refine pt_conv (pt_chain (opC_ok g.K hu kk) (opC_ok g.K hu kk') ha hb hc (by show behindInMarks kk'.op c = false; exact mark_ord hc')) fun σ H Q h => ?_
  obtain ⟨s, vs, gl, gk, P, Xd, R, hP, hX, w⟩ := h
  refine ⟨s, vs, gl, gk, _, Xd, R, fun s1 v H1 gl1 gk1 p R1 => ⟨s1, _, gl1, gk1, _, Xd, R1, fun s2 u H2 gl2 gk2 p2 R2 => ?_, hX, p⟩, hX, w⟩
  obtain ⟨x, y, s4, gk4, tx, ty, ⟨im, q⟩, R4⟩ := R2.top2 p2
  refine ⟨_, x, y, tx, ty, cmpS_mono (fun r q => ⟨r, rfl, ?_⟩) q⟩
  have ry : Rep G.m (Av G gl2 gk4) H2 y u := by cases y <;> first | exact ty | (simp [D.imm] at im)
  cases r with
  | false => exact hP _ _ _ _ _ q (R4.push_sh rfl)
  | true =>
    refine ⟨_, _, gl2, _, _, Xd, R4.push_sh ry, fun s5 z H5 gl5 gk5 p5 R5 => ?_, hX, q⟩
    obtain ⟨y', z', s7, gk7, ty', tz, q, R7⟩ := R5.top2 p5
    exact ⟨_, y', z', ty', tz, cmpS_mono (fun r q => hP _ _ _ _ _ q (R7.push_sh (d := .bl r) rfl)) q⟩
/-- a truth read off the stack -/
theorem Rel.topB {s : St} {σ : L2.St} {v : V} {vs : List (Option V)} {H : Hp} {gl gk : List GS} {Q : Bool → St → Prop} (R : Rel G s σ (some v :: vs) H gl gk) (h : s.topB Q) :
    ∃ r s4 gk4, v = .bl r ∧ Q r s4 ∧ Rel G s4 σ vs H gl gk4 := by
  obtain ⟨x, s4, gk4, tx, ⟨r, e, q⟩, R4⟩ := R.top1 h
  subst e
  exact ⟨r, s4, gk4, tx, q, R4⟩
theorem o_not (ha : PE X a (tE G C W ca)) : PE X (.UnaryOp .Not a pos) (tE G C W (.not ca)) := by
  refine pe_conv (pe_not ha) fun σ H Q h => ?_
  obtain ⟨s, vs, gl, gk, P, Xd, R, hP, hX, w⟩ := h
  refine ⟨s, vs, gl, gk, _, Xd, R, fun s1 v H1 gl1 gk1 p R1 => ?_, hX, w⟩
  obtain ⟨r, s4, gk4, e, q, R4⟩ := R1.topB p
  exact ⟨r, e, hP _ _ _ _ _ q (R4.push_sh rfl)⟩
theorem o_notT (ha : PT X a (tB (tE G C W ca))) : PT X (.UnaryOp .Not a pos) (tB (tE G C W (.not ca))) := by
  refine pt_conv (pt_not ha) fun σ H Q h => ?_
  obtain ⟨s, vs, gl, gk, P, Xd, R, hP, hX, w⟩ := h
  refine ⟨s, vs, gl, gk, _, Xd, R, fun s1 v H1 gl1 gk1 p R1 => ?_, hX, w⟩
  obtain ⟨r, s4, gk4, e, q, R4⟩ := R1.topB p
  refine ⟨r, e, ?_⟩
  obtain ⟨r', e', q'⟩ := hP _ _ _ _ _ q (R4.push_sh (d := .bl (!r)) rfl)
  cases e'
  exact q'
theorem o_and {rest : List Expr} (ha : PE X a (tE G C W ca)) (hb : PE X (.BoolOp .And (b :: rest) pos) (tE G C W cb)) : PE X (.BoolOp .And (a :: b :: rest) pos) (tE G C W (.and ca cb)) := by
  refine pe_conv (pe_and ha hb) fun σ H Q h => ?_
  obtain ⟨s, vs, gl, gk, P, Xd, R, hP, hX, w⟩ := h
  refine ⟨s, vs, gl, gk, _, Xd, R, fun s1 v H1 gl1 gk1 p R1 => ?_, hX, w⟩
  obtain ⟨r, s4, gk4, e, q, R4⟩ := R1.topB p
  refine ⟨r, e, ?_⟩
  cases r with
  | true => exact ⟨_, _, _, _, P, Xd, R4, hP, hX, q⟩
  | false => exact hP _ _ _ _ _ q (R4.push_sh rfl)
theorem o_or {rest : List Expr} (ha : PE X a (tE G C W ca)) (hb : PE X (.BoolOp .Or (b :: rest) pos) (tE G C W cb)) : PE X (.BoolOp .Or (a :: b :: rest) pos) (tE G C W (.or ca cb)) := by
  refine pe_conv (pe_or ha hb) fun σ H Q h => ?_
  obtain ⟨s, vs, gl, gk, P, Xd, R, hP, hX, w⟩ := h
  refine ⟨s, vs, gl, gk, _, Xd, R, fun s1 v H1 gl1 gk1 p R1 => ?_, hX, w⟩
  obtain ⟨r, s4, gk4, e, q, R4⟩ := R1.topB p
  refine ⟨r, e, ?_⟩
  cases r with
  | false => exact ⟨_, _, _, _, P, Xd, R4, hP, hX, q⟩
  | true => exact hP _ _ _ _ _ q (R4.push_sh rfl)
theorem pw_conv {X : Cx} {e : Expr} {t t' : TT} (h : PW X e t) (i : ∀ σ H Q, t' σ H Q → t σ H Q) : PW X e t' := ⟨fun wh pins s σ H Q I q => h.run wh pins s σ H Q I (i σ H Q q)⟩
theorem o_andW {rest : List Expr} (ha : PT X a (tB (tE G C W ca))) (hb : PW X (.BoolOp .And (b :: rest) pos) (tB (tE G C W cb))) : PW X (.BoolOp .And (a :: b :: rest) pos) (tB (tE G C W (.and ca cb))) := by
  refine pw_conv (pw_and ha hb) fun σ H Q h => ?_
  obtain ⟨s, vs, gl, gk, P, Xd, R, hP, hX, w⟩ := h
  refine ⟨s, vs, gl, gk, _, Xd, R, fun s1 v H1 gl1 gk1 p R1 => ?_, hX, w⟩
  obtain ⟨r, s4, gk4, e, q, R4⟩ := R1.topB p
  refine ⟨r, e, ?_⟩
  cases r with
  | true => exact ⟨_, _, _, _, P, Xd, R4, hP, hX, q⟩
  | false =>
    obtain ⟨r', e', q'⟩ := hP _ _ _ _ _ q (R4.push_sh (d := .bl false) rfl)
    cases e'
    exact q'
theorem o_orW {rest : List Expr} (ha : PT X a (tB (tE G C W ca))) (hb : PW X (.BoolOp .Or (b :: rest) pos) (tB (tE G C W cb))) : PW X (.BoolOp .Or (a :: b :: rest) pos) (tB (tE G C W (.or ca cb))) := by
  refine pw_conv (pw_or ha hb) fun σ H Q h => ?_
  obtain ⟨s, vs, gl, gk, P, Xd, R, hP, hX, w⟩ := h
  refine ⟨s, vs, gl, gk, _, Xd, R, fun s1 v H1 gl1 gk1 p R1 => ?_, hX, w⟩
  obtain ⟨r, s4, gk4, e, q, R4⟩ := R1.topB p
  refine ⟨r, e, ?_⟩
  cases r with
  | false => exact ⟨_, _, _, _, P, Xd, R4, hP, hX, q⟩
  | true =>
    obtain ⟨r', e', q'⟩ := hP _ _ _ _ _ q (R4.push_sh (d := .bl true) rfl)
    cases e'
    exact q'
theorem o_ite (hc : PT X c (tB (tE G C W cc))) (ha : PE X a (tE G C W ca)) (hb : PE X b (tE G C W cb)) : PE X (.IfExp c a b pos) (tE G C W (.ite cc ca cb)) := by
  refine pe_conv (pe_ifExp hc ha hb) fun σ H Q h => ?_
  obtain ⟨s, vs, gl, gk, P, Xd, R, hP, hX, w⟩ := h
  refine ⟨s, vs, gl, gk, _, Xd, R, fun s1 v H1 gl1 gk1 p R1 => ?_, hX, w⟩
  obtain ⟨r, s4, gk4, e, q, R4⟩ := R1.topB p
  refine ⟨r, e, ?_⟩
  cases r with
  | true => exact ⟨_, _, _, _, P, Xd, R4, hP, hX, q⟩
  | false => exact ⟨_, _, _, _, P, Xd, R4, hP, hX, q⟩
/-- a test a if c else b -/
theorem pt_ite {tc ta tb : TT} (hc : PT X c tc) (ha : PT X a ta) (hb : PT X b tb) : PT X (.IfExp c a b pos) (fun σ H Q => tc σ H fun r H1 => if r = true then ta σ H1 Q else tb σ H1 Q) := by
  refine ⟨fun pins s σ H Q I h => ?_⟩
  show wpAny _ _ (do if ← isTrue c X.env (eval c X.env) then isTrue a X.env (eval a X.env) else isTrue b X.env (eval b X.env)) _ _ _
  refine wpAny_bind (thn (hc.run pins s σ H _ I h) fun d s1 ⟨H1, I1, q1⟩ => ?_)
  cases d with
  | true => exact ha.run pins s1 σ H1 Q I1 q1
  | false => exact hb.run pins s1 σ H1 Q I1 q1
theorem o_iteT (hc : PT X c (tB (tE G C W cc))) (ha : PT X a (tB (tE G C W ca))) (hb : PT X b (tB (tE G C W cb))) : PT X (.IfExp c a b pos) (tB (tE G C W (.ite cc ca cb))) := by
  refine pt_conv (pt_ite hc ha hb) fun σ H Q h => ?_
  obtain ⟨s, vs, gl, gk, P, Xd, R, hP, hX, w⟩ := h
  refine ⟨s, vs, gl, gk, _, Xd, R, fun s1 v H1 gl1 gk1 p R1 => ?_, hX, w⟩
  obtain ⟨r, s4, gk4, e, q, R4⟩ := R1.topB p
  refine ⟨r, e, ?_⟩
  cases r with
  | true => exact ⟨_, _, _, _, P, Xd, R4, hP, hX, q⟩
  | false => exact ⟨_, _, _, _, P, Xd, R4, hP, hX, q⟩
/-- neither not, and, or, a comparison, nor a conditional -/
def tstB : Expr → Bool
  | .UnaryOp .Not _ _ => false
  | .BoolOp .. => false
  | .IfExp .. => false
  | .Compare .. => false
  | _ => true
theorem o_test (ht : tstB e = true) (h : PE X e (tE G C W ca)) : PT X e (tB (tE G C W ca)) := by
  refine pt_val h ?_
  cases e <;> first | (intro wh; rfl) | (simp [tstB] at ht; done) | skip
  rename_i op x p
  cases op <;> first | (intro wh; rfl) | (simp [tstB] at ht; done)

/-! ### lists of codes -/
theorem o_nil : PA X [] (tA G C W .nil) := by
  refine pa_conv pa_nil fun σ H Q h => ?_
  obtain ⟨s, vs, gl, gk, P, Xd, R, hP, hX, w⟩ := h
  exact hP _ [] _ _ _ rfl w R
theorem o_cons {es : List Expr} (ho : ordB e = true) (ha : PE X e (tE G C W ca)) (hb : PA X es (tA G C W cb)) : PA X (e :: es) (tA G C W (.cons ca cb)) := by
  refine pa_conv (pa_cons ha hb (star_ord ho)) fun σ H Q h => ?_
  obtain ⟨s, vs, gl, gk, P, Xd, R, hP, hX, w⟩ := h
  refine ⟨s, vs, gl, gk, _, Xd, R, fun s1 v H1 gl1 gk1 p R1 => ⟨s1, _, gl1, gk1, _, Xd, R1, fun s2 xs H2 gl2 gk2 hl p2 R2 => ?_, hX, p⟩, hX, w⟩
  refine hP s2 (v :: xs) H2 gl2 gk2 (by show xs.length + 1 = nE cb + 1; rw [hl]) p2 ?_
  rw [List.reverse_cons, List.map_append, List.append_assoc]
  exact R2
/-- the values of n arguments on the stack -/
theorem take_args {xs : List V} {vs : List (Option V)} {n : Nat} (h : xs.length = n) : ((xs.reverse.map some ++ vs).take n).reverse = xs.map some ∧ (xs.reverse.map some ++ vs).drop n = vs := by
  have hl : (xs.reverse.map (some : V → Option V)).length = n := by rw [List.length_map, List.length_reverse, h]
  rw [← hl, List.take_left, List.drop_left]
  refine ⟨?_, rfl⟩
  rw [← List.map_reverse, List.reverse_reverse]
theorem map_some_inj {xs ys : List V} (h : xs.map some = ys.map some) : xs = ys := List.map_inj_right (fun a b e => Option.some.inj e) |>.mp h
theorem o_tup {es : List Expr} {n : Nat} {x1} (g : Good G C M use N k X sc W) (hn : nE ca = n) (ha : PA X es (tA G C W ca)) : PE X (.Tuple es x1 pos) (tE G C W (.tup n ca)) := by
  refine pe_conv (pe_tup ha) fun σ H Q h => ?_
  obtain ⟨s, vs, gl, gk, P, Xd, R, hP, hX, w⟩ := h
  refine ⟨s, vs, gl, gk, _, Xd, R, fun s1 xs H1 gl1 gk1 hl p R1 => ?_, hX, w⟩
  obtain ⟨ds, e1, e2, e3, q⟩ := p
  rw [hn] at hl
  obtain ⟨gl', xs', R2, e4, rep⟩ := R1.gives g.ok e1
  obtain ⟨t1, t2⟩ := take_args (vs := vs) hl
  rw [t1] at e4
  have e5 := map_some_inj e4
  subst e5
  rw [t2] at R2
  refine ⟨by rw [hl]; exact e3, fun p hp => ?_⟩
  obtain ⟨gk', R3⟩ := Rel.push_ret g.ok R2 (fun _ z => z) ((Res.new g.ok.m hp (Rep.newTup g.ok.m hp rep)).ret R2.j)
  exact hP _ _ _ _ _ q R3
theorem o_lst {es : List Expr} {n : Nat} (g : Good G C M use N k X sc W) (hn : nE ca = n) (ha : PA X es (tA G C W ca)) : PE X (.List es pos) (tE G C W (.lst n ca)) := by
  refine pe_conv (pe_lst ha) fun σ H Q h => ?_
  obtain ⟨s, vs, gl, gk, P, Xd, R, hP, hX, w⟩ := h
  refine ⟨s, vs, gl, gk, _, Xd, R, fun s1 xs H1 gl1 gk1 hl p R1 => ?_, hX, w⟩
  obtain ⟨ds, e1, e2, e3, q⟩ := p
  rw [hn] at hl
  obtain ⟨gl', xs', R2, e4, rep⟩ := R1.gives g.ok e1
  obtain ⟨t1, t2⟩ := take_args (vs := vs) hl
  rw [t1] at e4
  have e5 := map_some_inj e4
  subst e5
  rw [t2] at R2
  refine ⟨by rw [hl]; exact e3, fun p hp => ?_⟩
  obtain ⟨gk', R3⟩ := Rel.push_ret g.ok R2 (fun _ z => z) ((Res.newO g.ok.m hp (OwAt.newLst g.ok.m hp rep)).ret R2.j)
  exact hP _ _ _ _ _ q R3
/-- n arguments are read -/
theorem Rel.readArgs {s1 : St} {σ : L2.St} {vs : List (Option V)} {H1 : Hp} {gl1 gk1 : List GS} {xs : List V} {ds : List D} {n : Nat} (R1 : Rel G s1 σ (xs.reverse.map some ++ vs) H1 gl1 gk1) (hl : xs.length = n) (e1 : s1.args n = some ds) :
    ∃ gk2, Rel G ⟨s1.l, s1.k.drop n⟩ σ vs H1 gl1 gk2 ∧ Tops G.m (Av G gl1 gk2) H1 ds xs := by
  obtain ⟨xs', e4, tops⟩ := R1.args e1
  obtain ⟨t1, t2⟩ := take_args (vs := vs) hl
  rw [t1] at e4
  have e5 := map_some_inj e4
  subst e5
  obtain ⟨R2, av⟩ := R1.pops n
  rw [t2] at R2
  refine ⟨_, R2, ?_⟩
  have : ∀ {ds : List D} {xs : List V}, Tops G.m (Av G gl1 gk1) H1 ds xs → Tops G.m (Av G gl1 (gk1.drop n)) H1 ds xs := by
    intro ds
    induction ds with
    | nil => intro xs h; exact h
    | cons d ds ih =>
      intro xs h
      obtain ⟨v, r, e, h1, h2⟩ := h
      exact ⟨v, r, e, Top.sub (fun a z => .inl (av a z)) h1, ih h2⟩
  exact this tops
theorem o_bi {x : Str} {p : Pos} {es : List Expr} {n : Nat} {kk : BiK} (g : Good G C M use N k X sc W) (hx : x = Str.ofString kk.nm) (hg : glB sc x = true) (hm : x ∈ M.free) (ho : okN x = true) (hv : bootBuiltins x = some kk.fv) (hk : kk.cls = false) (hn : nE ca = n)
    (he : (e :: es).all ordB = true) (ha : PA X (e :: es) (tA G C W ca)) : PE X (.Call (.Name x p) (e :: es) [] pos) (tE G C W (.bi kk n ca)) := by
  have h1 : ordB e = true ∧ es.all ordB = true := by simpa using he
  have hfv : kk.fv = .builtin kk.nm := by unfold BiK.fv; rw [hk]; rfl
  rw [hfv] at hv
  have hr := bi_ok (X := X) g.ok.m g.calm g.K kk
  rw [hfv] at hr
  refine pe_conv (pe_callB hr (glB_ok g.sc hg) (g.free x hm) hv ha (okN_ok ho).2.2 (okN_ok ho).1 (star_ord h1.1) (star_all h1.2 _)) fun σ H Q h => ?_
  obtain ⟨s, vs, gl, gk, P, Xd, R, hP, hX, w⟩ := h
  refine ⟨s, vs, gl, gk, _, Xd, R, fun s1 xs H1 gl1 gk1 hl p R1 => ?_, hX, w⟩
  obtain ⟨ds, e1, e2, q⟩ := p
  rw [hn] at hl
  obtain ⟨gk2, R2, tops⟩ := R1.readArgs hl e1
  refine ⟨_, ds, tops, biS_mono (fun d fr q v' H' r => ?_) q⟩
  obtain ⟨gk', R5⟩ := Rel.push_ret g.ok R2 (fun _ z => z) (r.ret R2.j)
  exact hP _ _ _ _ _ q R5
theorem o_biT {x : Str} {p : Pos} {es : List Expr} {n : Nat} {kk : BiK} (g : Good G C M use N k X sc W) (hg : glB sc x = true) (hm : x ∈ M.free) (ho : okN x = true) (hv : bootBuiltins x = some kk.fv) (hk : kk.cls = true) (hn : nE ca = n)
    (he : (e :: es).all ordB = true) (ha : PA X (e :: es) (tA G C W ca)) : PE X (.Call (.Name x p) (e :: es) [] pos) (tE G C W (.bi kk n ca)) := by
  have h1 : ordB e = true ∧ es.all ordB = true := by simpa using he
  have hfv : kk.fv = .type kk.nm := by unfold BiK.fv; rw [hk]; rfl
  rw [hfv] at hv
  have hr := bi_ok (X := X) g.ok.m g.calm g.K kk
  rw [hfv] at hr
  refine pe_conv (pe_callTy hr (glB_ok g.sc hg) (g.free x hm) hv ha (okN_ok ho).2.2 (okN_ok ho).1 (star_ord h1.1) (star_all h1.2 _)) fun σ H Q h => ?_
  obtain ⟨s, vs, gl, gk, P, Xd, R, hP, hX, w⟩ := h
  refine ⟨s, vs, gl, gk, _, Xd, R, fun s1 xs H1 gl1 gk1 hl p R1 => ?_, hX, w⟩
  obtain ⟨ds, e1, e2, q⟩ := p
  rw [hn] at hl
  obtain ⟨gk2, R2, tops⟩ := R1.readArgs hl e1
  refine ⟨_, ds, tops, biS_mono (fun d fr q v' H' r => ?_) q⟩
  obtain ⟨gk', R5⟩ := Rel.push_ret g.ok R2 (fun _ z => z) (r.ret R2.j)
  exact hP _ _ _ _ _ q R5
end
end DP

set_option Elab.async false
set_option linter.all false
set_option maxRecDepth 100000
set_option maxHeartbeats 1000000
/-! E5: calls of defs, slices, methods, comprehensions. -/
namespace DP
open PySem PySem.Spec PyProof.Rows L2
section
variable {G : GC} {C : Ctx} {W : WX} {M : MD} {use : List Nat} {N : List Str} {k : Nat} {X : Cx} {sc : Scope}
variable {e a b c : Expr} {ca cb cc : E} {pos : Pos}
theorem lv_pay (l0 : List Slot) (c d i : Nat) : lv (l0 ++ [.crd c]) i = lv (l0 ++ [.crd d]) i := by
  unfold lv
  by_cases h : i < l0.length
  · rw [List.getElem?_append_left h, List.getElem?_append_left h]
  · rw [List.getElem?_append_right (by omega), List.getElem?_append_right (by omega)]
    cases i - l0.length with
    | zero => rfl
    | succ n => rfl
theorem svs_pay (l0 : List Slot) (c d : Nat) : ∀ xs : List Slot, svs (l0 ++ [.crd c]) xs = svs (l0 ++ [.crd d]) xs
  | [] => rfl
  | x :: xs => by
    have e : sv (l0 ++ [.crd c]) x = sv (l0 ++ [.crd d]) x := by
      cases x with
      | br i => exact lv_pay l0 c d i
      | _ => rfl
    rw [svs, svs, e, svs_pay l0 c d xs]
/-- the credit pays -/
theorem Rel.pay {s1 : St} {σ : L2.St} {vs : List (Option V)} {H1 : Hp} {gl gk : List GS} (R : Rel G s1 σ vs H1 gl gk) {q : Nat} {P : List Slot → Prop} (w : PY q s1.l P) :
    ∃ l' gl', P l' ∧ Rel G ⟨l', s1.k⟩ σ vs H1 gl' gk ∧ s1.cr = (⟨l', s1.k⟩ : St).cr + q ∧ ∀ n, s1.args n = (⟨l', s1.k⟩ : St).args n := by
  unfold PY at w
  split at w
  · rename_i z
    subst z
    exact ⟨s1.l, gl, w, R, rfl, fun _ => rfl⟩
  · obtain ⟨l0, c, e, h, p⟩ := payR_out w
    have el := R.el
    rw [e] at el
    obtain ⟨g0, g1, rfl, k1, k2⟩ := List.map_eq_append_iff.mp el
    obtain ⟨g, gr, rfl, k3, k4⟩ := List.map_eq_cons_iff.mp k2
    have k5 : gr = [] := by simpa using k4
    subst k5
    have k6 : g = .crd c := by
      cases g with
      | crd c' => cases k3; rfl
      | _ => cases k3
    subst k6
    have own' : owns (g0 ++ [.crd (c - q)]) = owns (g0 ++ [.crd c]) := by rw [owns_append, owns_append]; rfl
    have hc : s1.cr = (⟨l0 ++ [.crd (c - q)], s1.k⟩ : St).cr + q := by
      show cred s1.l + cred s1.k = cred _ + cred s1.k + q
      rw [e, cred_append, cred_append]
      simp only [cred, Slot.cr]
      omega
    refine ⟨_, g0 ++ [.crd (c - q)], p, R.re (by rw [List.map_append, k1]; rfl) R.ek ?_ R.vk (by rw [own']; exact R.nd) (fun p hp => by rw [own'] at hp; exact hp) (fun x hx => ?_) (fun i v hi => ?_) R.bv (by omega), hc, fun n => ?_⟩
    · rw [← R.vl, List.map_append, List.map_append]; rfl
    · rcases List.mem_append.mp hx with z | z
      · rcases List.mem_append.mp z with z | z
        · exact .inl (List.mem_append_left _ (List.mem_append_left _ z))
        · rw [List.mem_singleton.mp z]; exact .inr trivial
      · exact .inl (List.mem_append_right _ z)
    · rcases List.mem_append.mp hi with z | z
      · exact R.nb i v (List.mem_append_left _ z)
      · cases List.mem_singleton.mp z
    · unfold St.args
      rw [e]
      exact svs_pay _ _ _ _
/-- behind a call: what follows, with the arguments handed on -/
theorem call_reads (ok : G.Ok) {f n q : Nat} {S : FSpec} (hS : FMono S) {s1 : St} {σ : L2.St} {vs : List (Option V)} {H1 : Hp} {gl1 gk1 : List GS} {xs : List V} {ds : List D} {Q : VK} {E : XK} {P : St → Prop}
    (R1 : Rel G s1 σ (xs.reverse.map some ++ vs) H1 gl1 gk1) (hl : xs.length = n) (e1 : s1.args n = some ds) (e2 : ds.length = n)
    (hP : ∀ s1 v H1 gl1 gk1, P s1 → Rel G s1 σ (some v :: vs) H1 gl1 gk1 → Q v H1) {Xs : D → St → Prop} (hX : ∀ x s2 cls d H', (∃ gl gk, Rel G s2 σ (xs.reverse.map some ++ vs) H' gl gk) → ExR G.m H' x cls d → Xs x s2 → E cls d H')
    (w : PY q s1.l fun l' => S ds (fun d fr => if d.imm = true then P ⟨l', fsh d fr :: s1.k.drop n⟩ else P ⟨frz l' (s1.k.take n), fsh d fr :: s1.k.drop n⟩) (fun x => Xs x ⟨l', s1.k⟩)) : lift G.m n q S xs H1 Q E := by
  obtain ⟨l', gl2, w, R0, hc, ha⟩ := R1.pay w
  rw [ha] at e1
  have hj := R1.j
  rw [hc, ← Nat.add_assoc] at hj
  obtain ⟨gl', xs', R2, e4, rep⟩ := R0.gives ok e1
  obtain ⟨t1, t2⟩ := take_args (vs := vs) hl
  rw [t1] at e4
  have e5 := map_some_inj e4
  subst e5
  rw [t2] at R2
  refine ⟨Av G gl' (gk1.drop n), ds, _, ⟨fun a h => .inl (ok.ra a h), fun a h => ?_, hj⟩, rep, e2, hS _ _ _ _ _ (fun d fr q v H' r => ?_) (fun x q cls dd H' k j ex => ?_) w⟩
  · rcases h with h | h
    · exact R1.ke.d a (ok.ah a h)
    · obtain ⟨u, hu, w⟩ := R2.there h
      exact ⟨u, hu, ow_nt w⟩
  · have hcd : (⟨l', s1.k.drop n⟩ : St).cr ≤ (⟨l', s1.k⟩ : St).cr := Nat.add_le_add_left (cred_drop _ _) _
    split at q
    · rename_i im
      obtain ⟨R3, av⟩ := R0.pops n
      rw [t2] at R3
      have hr := r.r
      cases fr with
      | true =>
        obtain ⟨p, _, _, ho⟩ := (show ∃ p, v = .ref p ∧ ¬ Nt H1 p ∧ OwAt G.m (fun a => _ ∨ a = p) H' d p from hr)
        cases d <;> first | exact ho.elim | (simp [D.imm] at im)
      | false =>
        have hr : Rep G.m _ H' d v := hr
        exact hP _ _ _ _ _ q ((R3.heap ok r.k (r.j.le (Nat.add_le_add_left hcd _))).push_sh (Rep.any _ _ im hr))
    · have hcf : (⟨DP.frz l' (s1.k.take n), s1.k.drop n⟩ : St).cr ≤ (⟨l', s1.k⟩ : St).cr := Nat.add_le_add (cred_frz _ _) (cred_drop _ _)
      obtain ⟨gk', R4⟩ := Rel.push_ret ok R2 (fun _ z => z) ⟨r.k, r.j.le (Nat.add_le_add_left hcf _), r.r⟩
      exact hP _ _ _ _ _ q R4
  · exact hX x _ cls dd H' ⟨_, _, R0.heap ok k j⟩ ex q
theorem o_call (g : Good G C M use N k X sc W) (hC : CMono C) {f n : Nat} {x : Str} {ps : List Str} {p : Pos} {es : List Expr} (hf : (M.fn f) = some (x, ps)) (hu : f ∈ use) (hps : ps.length = n) (hg : glB sc x = true) (ho : okN x = true) (hn : nE ca = n)
    (he : (e :: es).all ordB = true) (ha : PA X (e :: es) (tA G C W ca)) : PE X (.Call (.Name x p) (e :: es) [] pos) (tE G C W (.call f n ca)) := by
  have h1 : ordB e = true ∧ es.all ordB = true := by simpa using he
  obtain ⟨fa, fd, F, hm, hk, hb, _⟩ := g.fns f hu x ps hf
  rw [hps] at F
  refine pe_conv (pe_callS F g.room (glB_ok g.sc hg) hm hk hb (fun σ => passAt g.tk σ) ha (okN_ok ho).1 (star_ord h1.1) (star_all h1.2 _)) fun σ H Q h => ?_
  obtain ⟨s, vs, gl, gk, P, Xd, R, hP, hX, w⟩ := h
  refine ⟨s, vs, gl, gk, _, Xd, R, fun s1 xs H1 gl1 gk1 hl p R1 => ?_, hX, w⟩
  obtain ⟨ds, e1, e2, q⟩ := p
  rw [hn] at hl
  exact call_reads g.ok (f := f) (hC f) R1 hl e1 e2 hP (fun x s2 cls d H' ⟨gl, gk, R'⟩ ex q => hX x s2 _ H' gl gk cls d R' ex q) q
/-- a call without arguments -/
theorem pe_callS0 {CX : CXT} {j : Nat} {f : Addr} {fd : FuncData} {ps : List Str} {sp : Sp} {E : L2.St → XK} {x : Str} {p : Pos} (F : FnOk X.prog X.w X.K X.mg X.base CX j f fd ps sp) (hr : Room j X.A) (hg : Gl X x) (hm : X.mg x = some (.ref f)) (hk : PySem.W.keepIn X.K (.ref f) = true)
    (hb : Binds X.K fd ps []) (hx : ∀ σ, PassesAt CX X σ (E σ)) (hdb : (x == ("__debug__" : Str)) = false) : PE X (.Call (.Name x p) [] [] pos) (fun σ H Q => sp [] H Q (E σ)) := by
  refine ⟨fun pins s σ H Q I h => ?_⟩
  refine wpAny_Call_Name_kw (ld_glob I hg hm ?_ hdb)
  exact PySem.W.callWith_K0 I.kIn hk (run_fnS (us := []) F hr hb (hx σ) I .nil h)
theorem Rel.snoc {s : St} {σ : L2.St} {vs : List (Option V)} {H : Hp} {gl gk : List GS} : ∀ {ds : List D} {xs : List V}, Rel G s σ vs H gl gk → Reps G.m (Av G gl gk) H ds xs →
    ∃ gk', Rel G ⟨s.l, ds.reverse.map Slot.sh ++ s.k⟩ σ (xs.reverse.map some ++ vs) H gl gk' ∧ (∀ a, Av G gl gk' a ↔ Av G gl gk a)
  | [], xs, R, h => by cases h; exact ⟨gk, R, fun _ => Iff.rfl⟩
  | d :: ds, xs, R, h => by
    obtain ⟨v, r, rfl, h1, h2⟩ := h
    have R1 := R.push_sh h1
    have e : ∀ a, Av G gl (.sh d v :: gk) a ↔ Av G gl gk a := fun a => by unfold Av; rw [owns_cons]; rfl
    obtain ⟨gk', R2, e2⟩ := Rel.snoc R1 (Reps.sub (fun a z => .inl ((e a).mp z)) _ _ h2)
    refine ⟨gk', ?_, fun a => (e2 a).trans (e a)⟩
    simp only [List.reverse_cons, List.map_append, List.append_assoc, List.map_cons, List.map_nil, List.cons_append, List.nil_append]
    exact R2
/-- what is walked is laid on the stack, unchanged from now on -/
theorem Rel.shd (ok : G.Ok) {s1 : St} {σ : L2.St} {vs : List (Option V)} {H1 : Hp} {gl1 gk1 : List GS} {xs : List V} {ds : List D} {n : Nat} (R1 : Rel G s1 σ (xs.reverse.map some ++ vs) H1 gl1 gk1) (hl : xs.length = n) (e1 : s1.args n = some ds) :
    ∃ gl2 gk2, Rel G (s1.shd n ds) σ (xs.reverse.map some ++ vs) H1 gl2 gk2 := by
  obtain ⟨gl', xs', R2, e4, rep⟩ := R1.gives ok e1
  obtain ⟨t1, t2⟩ := take_args (vs := vs) hl
  rw [t1] at e4
  have e5 := map_some_inj e4
  subst e5
  rw [t2] at R2
  obtain ⟨gk', R3, _⟩ := R2.snoc rep
  exact ⟨gl', gk', R3⟩
/-- the walked things are still there -/
theorem Rel.srcs {s : St} {σ : L2.St} {vs : List (Option V)} {H : Hp} {gl gk : List GS} {k0 : List Slot} : ∀ {ds : List D} {xs : List V}, ds.length = xs.length → Rel G s σ (xs.reverse.map some ++ vs) H gl gk → s.k = ds.reverse.map Slot.sh ++ k0 → Reps G.m (Av G gl gk) H ds xs := by
  intro ds xs hl R hk
  have ek := R.ek
  have vk := R.vk
  rw [hk] at ek
  -- by places
  have key : ∀ (i : Nat) d x, ds[i]? = some d → xs[i]? = some x → Rep G.m (Av G gl gk) H d x := by
    intro i d x hd hx
    have hi : i < ds.length := (List.getElem?_eq_some_iff.mp hd).1
    have j1 : (ds.reverse.map Slot.sh ++ k0)[ds.length - 1 - i]? = some (Slot.sh d) := by
      rw [List.getElem?_append_left (by simp; omega), List.getElem?_map, List.getElem?_reverse (by omega)]
      have : ds.length - 1 - (ds.length - 1 - i) = i := by omega
      rw [this, hd]; rfl
    have j2 : (xs.reverse.map some ++ vs)[ds.length - 1 - i]? = some (some x) := by
      rw [List.getElem?_append_left (by simp; omega), List.getElem?_map, List.getElem?_reverse (by omega)]
      have : xs.length - 1 - (ds.length - 1 - i) = i := by omega
      rw [this, hx]; rfl
    rw [← ek, List.getElem?_map] at j1
    rw [← vk, List.getElem?_map] at j2
    cases e : gk[ds.length - 1 - i]? with
    | none => rw [e] at j1; cases j1
    | some g =>
      rw [e] at j1 j2
      have hr := R.rp g (List.mem_append_right _ (List.mem_of_getElem? e))
      cases g with
      | sh d' v =>
        simp [GS.slot] at j1
        simp [GS.val] at j2
        subst j1 j2
        exact hr
      | emp o => simp [GS.slot] at j1
      | crd o => simp [GS.slot] at j1
      | ow d p => simp [GS.slot] at j1
      | br i v => simp [GS.slot] at j1
  clear ek vk hk R
  induction ds generalizing xs with
  | nil => cases xs with
    | nil => rfl
    | cons _ _ => simp at hl
  | cons d ds ih => cases xs with
    | nil => simp at hl
    | cons x xs => exact ⟨x, xs, rfl, key 0 d x rfl rfl, ih (by simpa using hl) fun i d x h1 h2 => key (i + 1) d x (by simpa using h1) (by simpa using h2)⟩
/-- a walk over data -/
def WD (m : MG) (J : It) (ds : List D) (xs : List V) (items : List D) : Prop := ∀ A H, Reps m A H ds xs → (∀ i, i < items.length → J.go i H) ∧ J.stop items.length H ∧
  ∀ i x H', i < items.length → J.yld i H x H' → Kp (fun _ => False) H H' ∧ (∀ c, m.Jc c H → m.Jc c H') ∧ ∃ d, items[i]? = some d ∧ Rep m A H' d x
/-- what is walked, as data -/
def tI (G : GC) (C : Ctx) (W : WX) (it : ItK) (n : Nat) (src : E) : TI := fun σ H R => ∃ s vs gl gk P Xd, Rel G s σ vs H gl gk ∧ EQ G W σ Xd ∧ we C src s P Xd ∧
  ∀ s1 xs H1 gl1 gk1, xs.length = n → P s1 → Rel G s1 σ (xs.reverse.map some ++ vs) H1 gl1 gk1 → ∃ ds c items, s1.args n = some ds ∧ ds.length = n ∧ itX it ds = some (c, items) ∧ c ∧ ∀ J, WD G.m J ds xs items → R J H1
theorem pi_conv {tg e : Expr} {t t' : TI} (h : PI X tg e t) (i : ∀ σ H Q, t' σ H Q → t σ H Q) : PI X tg e t' := ⟨fun pins s σ H Q I q => h.run pins s σ H Q I (i σ H Q q)⟩
/-- a list or a tuple is walked -/
theorem pi_seqA {tg l : Expr} {tl : TE} (hl : PE X l tl) : PI X tg l (fun σ H R => tl σ H fun x H1 => ∃ a xs, x = .ref a ∧ ((SqL X.K H1 a xs ∧ R (Itl X.K a) H1) ∨ (SqT X.K H1 a xs ∧ R (Itt X.K a) H1))) := by
  refine ⟨fun pins s σ H R I h => ?_⟩
  refine thn (hl.run pins s σ H _ I h) fun v s1 ⟨x, H1, I1, r1, q1⟩ => ?_
  obtain ⟨a, xs, e, q⟩ := q1
  subst e
  cases r1
  rcases q with ⟨hq, q⟩ | ⟨hq, q⟩
  · obtain ⟨its, rv, p, hz⟩ := I1.list hq
    refine wpAny_pyIter_list p.isList ?_
    refine ⟨s1.heap.objs.size, [s1.heap.objs.size], _, _, H1, rfl, I1.kept (t' := s1.toks) fun b o e => Heap.get?_push_of_some _ e, turn_list a _, ⟨_, Heap.get?_push_size _ rfl, rfl, rfl⟩, fun b hb => ?_, q⟩
    have e : b = s1.heap.objs.size := by simpa using hb
    subst e
    exact I1.fpOk (Nat.le_refl _) (I1.hok.fresh (Nat.le_refl _))
  · obtain ⟨its, rv, p, hz⟩ := I1.tuple hq
    refine wpAny_pyIter_tuple (show s1.heap.IsTuple a its.toArray from p) ?_
    refine ⟨s1.heap.objs.size, [s1.heap.objs.size], _, _, H1, rfl, I1.kept (t' := s1.toks) fun b o e => Heap.get?_push_of_some _ e, turn_tuple a _, ⟨_, Heap.get?_push_size _ rfl, rfl, rfl⟩, fun b hb => ?_, q⟩
    have e : b = s1.heap.objs.size := by simpa using hb
    subst e
    exact I1.fpOk (Nat.le_refl _) (I1.hok.fresh (Nat.le_refl _))
theorem tops_of_reps {m : MG} {A : Addr → Prop} {H : Hp} {d : D} {v : V} (h : Reps m A H [d] [v]) : Rep m A H d v := by
  obtain ⟨v', r, e, h1, _⟩ := h
  cases e
  exact h1
theorem i_seq (g : Good G C M use N k X sc W) {tg l : Expr} (hl : PE X l (tE G C W ca)) : PI X tg l (tI G C W .seq 1 ca) := by
  refine pi_conv (pi_seqA hl) fun σ H R h => ?_
  obtain ⟨s, vs, gl, gk, P, Xd, R0, hX, w, hR⟩ := h
  refine ⟨s, vs, gl, gk, P, Xd, R0, fun s1 v H1 gl1 gk1 p R1 => ?_, hX, w⟩
  obtain ⟨ds, c, items, e1, e2, e3, hc, hJ⟩ := hR s1 [v] H1 gl1 gk1 rfl p R1
  obtain ⟨gk2, R2, tops⟩ := R1.readArgs (xs := [v]) rfl e1
  obtain ⟨v', r, e4, t, e5⟩ : ∃ d r, ds = d :: r ∧ Top G.m (Av G gl1 gk2) H1 d v ∧ r = [] := by
    cases ds with
    | nil => cases e2
    | cons d r =>
      obtain ⟨v', r', e, h1, h2⟩ := tops
      cases e
      exact ⟨d, r, rfl, h1, List.eq_nil_of_length_eq_zero (by simpa using e2)⟩
  subst e4 e5
  cases v' with
  | tup es =>
    simp only [itX, Option.some.injEq, Prod.mk.injEq] at e3
    obtain ⟨rfl, rfl⟩ := e3
    obtain ⟨a, xs, rfl, s1', r1⟩ := t
    refine ⟨a, xs, rfl, .inr ⟨g.K ▸ s1', hJ _ fun A H2 hs => ?_⟩⟩
    obtain ⟨a', xs', ea, s2, r2⟩ := tops_of_reps hs
    cases ea
    have hlen := Reps.len r2
    rw [g.K]
    refine ⟨fun i hi => ⟨xs', xs'[i]'(by omega), s2, by simp⟩, ⟨xs', s2, by omega⟩, fun i x H' hi y => ?_⟩
    obtain ⟨e, y⟩ := y
    subst e
    refine ⟨Kp.refl _ _, fun _ h => h, es[i], by simp, ?_⟩
    obtain ⟨z, ez, rz⟩ := Reps.get r2 (show es[i]? = some es[i] by simp)
    rw [y xs' s2] at ez
    cases ez
    exact rz
  | lst es =>
    simp only [itX, Option.some.injEq, Prod.mk.injEq] at e3
    obtain ⟨rfl, rfl⟩ := e3
    obtain ⟨a, xs, rfl, s1', r1⟩ := t
    refine ⟨a, xs, rfl, .inl ⟨SqL.of s1', hJ _ fun A H2 hs => ?_⟩⟩
    obtain ⟨a', xs', ea, s2, _, r2⟩ := tops_of_reps hs
    cases ea
    have hlen := Reps.len r2
    refine ⟨fun i hi => ⟨xs', xs'[i]'(by omega), SqL.of s2, by simp⟩, ⟨xs', SqL.of s2, by omega⟩, fun i x H' hi y => ?_⟩
    obtain ⟨e, y⟩ := y
    subst e
    refine ⟨Kp.refl _ _, fun _ h => h, es[i], by simp, ?_⟩
    obtain ⟨z, ez, rz⟩ := Reps.get r2 (show es[i]? = some es[i] by simp)
    rw [y xs' (SqL.of s2)] at ez
    cases ez
    exact rz
  | _ => simp [itX] at e3
end
end DP

set_option Elab.async false
set_option linter.all false
set_option maxRecDepth 100000
set_option maxHeartbeats 1000000
/-! E6: ranges and zip walked; targets. -/
namespace DP
open PySem PySem.Spec PyProof.Rows L2
section
variable {G : GC} {C : Ctx} {W : WX} {M : MD} {use : List Nat} {N : List Str} {k : Nat} {X : Cx} {sc : Scope}
variable {e a b c : Expr} {ca cb cc : E} {pos : Pos}
theorem rngD_len (lo hi : Int) : (rngD lo hi).length = (hi - lo).toNat := by simp [rngD]
theorem wd_range {m : MG} {ds : List D} {xs : List V} {lo hi : Int} : WD m (Itr lo (hi - lo).toNat) ds xs (rngD lo hi) := by
  intro A H _
  rw [rngD_len]
  refine ⟨fun i hi => hi, Nat.le_refl _, fun i x H' hi y => ?_⟩
  obtain ⟨e, y⟩ := y
  subst e y
  exact ⟨Kp.refl _ _, fun _ h => h, .int (lo + i), by simp [rngD, hi], rfl⟩
theorem ints_args {m : MG} {A : Addr → Prop} {H : Hp} {i : Int} {xs : List V} (t : Tops m A H [.int i] xs) : xs = [.int i] := by
  obtain ⟨v, rfl, t1⟩ := Tops.one t
  have t1 : v = .int i := t1
  rw [t1]
theorem ints_args2 {m : MG} {A : Addr → Prop} {H : Hp} {i j : Int} {xs : List V} (t : Tops m A H [.int i, .int j] xs) : xs = [.int i, .int j] := by
  obtain ⟨v, v', rfl, t1, t2⟩ := Tops.two t
  have t1 : v = .int i := t1
  have t2 : v' = .int j := t2
  rw [t1, t2]
theorem itX_range1 {ds items : List D} {c : Prop} (h : itX .range1 ds = some (c, items)) : ∃ n, ds = [.int n] ∧ c = bigI n ∧ items = rngD 0 n := by
  rcases ds with _ | ⟨d, _ | ⟨d2, r⟩⟩
  · simp [itX] at h
  · cases d <;> simp [itX] at h
    exact ⟨_, rfl, propext h.1.symm, h.2.symm⟩
  · cases d <;> simp [itX] at h
theorem itX_range2 {ds items : List D} {c : Prop} (h : itX .range2 ds = some (c, items)) : ∃ m n, ds = [.int m, .int n] ∧ c = (bigI m ∧ bigI n) ∧ items = rngD m n := by
  rcases ds with _ | ⟨d, _ | ⟨d2, _ | ⟨d3, r⟩⟩⟩
  · simp [itX] at h
  · cases d <;> simp [itX] at h
  · cases d <;> cases d2 <;> simp [itX] at h
    exact ⟨_, _, rfl, propext h.1.symm, h.2.symm⟩
  · cases d <;> cases d2 <;> simp [itX] at h
theorem itX_zip {ds items : List D} {c : Prop} (h : itX .zip ds = some (c, items)) : ∃ us ws, (ds = [.tup us, .tup ws] ∨ ds = [.lst us, .lst ws]) ∧ items = (us.zip ws).map fun p => D.tup [p.1, p.2] := by
  rcases ds with _ | ⟨d, _ | ⟨d2, _ | ⟨d3, r⟩⟩⟩
  · simp [itX] at h
  · cases d <;> simp [itX] at h
  · cases d <;> cases d2 <;> simp [itX] at h
    · exact ⟨_, _, .inl rfl, h.2.symm⟩
    · exact ⟨_, _, .inr rfl, h.2.symm⟩
  · cases d <;> cases d2 <;> simp [itX] at h
theorem i_range1 {tg : Expr} {x : Str} {p : Pos} (g : Good G C M use N k X sc W) (hx : x = "range") (hg : glB sc x = true) (hm : x ∈ M.free) (ho : ordB a = true) (hn : nE ca = 1) (ha : PA X [a] (tA G C W ca)) : PI X tg (.Call (.Name x p) [a] [] pos) (tI G C W .range1 1 ca) := by
  subst hx
  refine pi_conv (pi_range1 (glB_ok g.sc hg) (g.free _ hm) ha (star_ord ho)) fun σ H R h => ?_
  obtain ⟨s, vs, gl, gk, P, Xd, R0, hX, w, hR⟩ := h
  refine ⟨s, vs, gl, gk, P, Xd, R0, fun s1 xs H1 gl1 gk1 hl p R1 => ?_, hX, w⟩
  rw [hn] at hl
  obtain ⟨ds, c, items, e1, e2, e3, hc, hJ⟩ := hR s1 xs H1 gl1 gk1 hl p R1
  obtain ⟨gk2, R2, tops⟩ := R1.readArgs hl e1
  obtain ⟨n, rfl, rfl, rfl⟩ := itX_range1 e3
  have e := ints_args tops
  subst e
  refine ⟨n, rfl, hc.1, hc.2, ?_⟩
  have := hJ (Itr 0 (n - 0).toNat) wd_range
  rwa [Int.sub_zero] at this
theorem i_range2 {tg : Expr} {x : Str} {p : Pos} (g : Good G C M use N k X sc W) (hx : x = "range") (hg : glB sc x = true) (hm : x ∈ M.free) (ho : ordB a = true) (ho2 : ordB b = true) (hn : nE ca = 2) (ha : PA X [a, b] (tA G C W ca)) : PI X tg (.Call (.Name x p) [a, b] [] pos) (tI G C W .range2 2 ca) := by
  subst hx
  refine pi_conv (pi_range2 (glB_ok g.sc hg) (g.free _ hm) ha (by rw [star_ord ho, star_ord ho2]; rfl) (star_ord ho2)) fun σ H R h => ?_
  obtain ⟨s, vs, gl, gk, P, Xd, R0, hX, w, hR⟩ := h
  refine ⟨s, vs, gl, gk, P, Xd, R0, fun s1 xs H1 gl1 gk1 hl p R1 => ?_, hX, w⟩
  rw [hn] at hl
  obtain ⟨ds, c, items, e1, e2, e3, hc, hJ⟩ := hR s1 xs H1 gl1 gk1 hl p R1
  obtain ⟨gk2, R2, tops⟩ := R1.readArgs hl e1
  obtain ⟨i, j, rfl, rfl, rfl⟩ := itX_range2 e3
  have e := ints_args2 tops
  subst e
  exact ⟨i, j, rfl, ⟨hc.1.1, hc.1.2, hc.2.1, hc.2.2⟩, hJ _ wd_range⟩
theorem i_zip {x : Str} {p tpos : Pos} {elts : List Expr} {kk : Nat} (g : Good G C M use N k X sc W) (hx : x = "zip") (hg : glB sc x = true) (hm : x ∈ M.free) (ho : ordB a = true) (ho2 : ordB b = true) (hn : nE ca = 2) (ha : PA X [a, b] (tA G C W ca)) : PI X (.Tuple elts kk tpos) (.Call (.Name x p) [a, b] [] pos) (tI G C W .zip 2 ca) := by
  subst hx
  refine pi_conv (RZ.pi_zipA (glB_ok g.sc hg) (g.free _ hm) ha (star_ord ho) (star_all (by simp [ho2]) _)) fun σ H R h => ?_
  obtain ⟨s, vs, gl, gk, P, Xd, R0, hX, w, hR⟩ := h
  refine ⟨s, vs, gl, gk, P, Xd, R0, fun s1 xs H1 gl1 gk1 hl p R1 => ?_, hX, w⟩
  rw [hn] at hl
  obtain ⟨ds, c, items, e1, e2, e3, hc, hJ⟩ := hR s1 xs H1 gl1 gk1 hl p R1
  obtain ⟨gk2, R2, tops⟩ := R1.readArgs hl e1
  have two : ∀ {A : Addr → Prop} {H : Hp} {d d' : D} {v v' : V}, Reps G.m A H [d, d'] [v, v'] → Rep G.m A H d v ∧ Rep G.m A H d' v' := by
    intro A H d d' v v' h
    obtain ⟨_, _, e, h1, _, _, e', h2, _⟩ := h
    cases e
    cases e'
    exact ⟨h1, h2⟩
  obtain ⟨us, ws, hd, rfl⟩ := itX_zip e3
  rcases hd with rfl | rfl
  · obtain ⟨v, v', rfl, t, t'⟩ := Tops.two tops
    obtain ⟨a1, xs1, rfl, s1', r1⟩ := t
    obtain ⟨a2, xs2, rfl, s2', r2⟩ := t'
    refine ⟨a1, a2, xs1, xs2, rfl, .inr ⟨g.K ▸ s1', g.K ▸ s2', hJ _ fun A H2 hs => ?_⟩⟩
    obtain ⟨⟨b1, ys1, e, q1, p1⟩, ⟨b2, ys2, e', q2, p2⟩⟩ := two hs
    cases e
    cases e'
    have l1 := Reps.len p1
    have l2 := Reps.len p2
    rw [g.K, List.length_map, List.length_zip]
    refine ⟨fun i hi => ⟨ys1, ys2, ys1[i]'(by omega), ys2[i]'(by omega), q1, q2, by simp, by simp⟩, ⟨ys1, ys2, q1, q2, by omega⟩, fun i x H' hi y => ?_⟩
    obtain ⟨T, x1, x2, rfl, hT, rfl, y1, y2⟩ := y
    obtain ⟨z1, ez1, rz1⟩ := Reps.get p1 (show us[i]? = some (us[i]'(by omega)) by simp)
    obtain ⟨z2, ez2, rz2⟩ := Reps.get p2 (show ws[i]? = some (ws[i]'(by omega)) by simp)
    rw [y1 ys1 q1] at ez1
    rw [y2 ys2 q2] at ez2
    cases ez1
    cases ez2
    refine ⟨Kp.new hT, fun _ j => g.ok.m.jn' j hT, .tup [us[i]'(by omega), ws[i]'(by omega)], ?_, Rep.newTup g.ok.m hT ⟨_, _, rfl, rz1, _, _, rfl, rz2, rfl⟩⟩
    rw [List.getElem?_map, List.getElem?_zip_eq_some (z := (us[i]'(by omega), ws[i]'(by omega))).mpr ⟨List.getElem?_eq_getElem (show i < us.length by omega), List.getElem?_eq_getElem (show i < ws.length by omega)⟩]
    rfl
  · obtain ⟨v, v', rfl, t, t'⟩ := Tops.two tops
    obtain ⟨a1, xs1, rfl, s1', r1⟩ := t
    obtain ⟨a2, xs2, rfl, s2', r2⟩ := t'
    refine ⟨a1, a2, xs1, xs2, rfl, .inl ⟨SqL.of s1', SqL.of s2', hJ _ fun A H2 hs => ?_⟩⟩
    obtain ⟨⟨b1, ys1, e, q1, _, p1⟩, ⟨b2, ys2, e', q2, _, p2⟩⟩ := two hs
    cases e
    cases e'
    have l1 := Reps.len p1
    have l2 := Reps.len p2
    rw [List.length_map, List.length_zip]
    refine ⟨fun i hi => ⟨ys1, ys2, ys1[i]'(by omega), ys2[i]'(by omega), SqL.of q1, SqL.of q2, by simp, by simp⟩, ⟨ys1, ys2, SqL.of q1, SqL.of q2, by omega⟩, fun i x H' hi y => ?_⟩
    obtain ⟨T, x1, x2, rfl, hT, rfl, y1, y2⟩ := y
    obtain ⟨z1, ez1, rz1⟩ := Reps.get p1 (show us[i]? = some (us[i]'(by omega)) by simp)
    obtain ⟨z2, ez2, rz2⟩ := Reps.get p2 (show ws[i]? = some (ws[i]'(by omega)) by simp)
    rw [y1 ys1 (SqL.of q1)] at ez1
    rw [y2 ys2 (SqL.of q2)] at ez2
    cases ez1
    cases ez2
    refine ⟨Kp.new hT, fun _ j => g.ok.m.jn' j hT, .tup [us[i]'(by omega), ws[i]'(by omega)], ?_, Rep.newTup g.ok.m hT ⟨_, _, rfl, rz1, _, _, rfl, rz2, rfl⟩⟩
    rw [List.getElem?_map, List.getElem?_zip_eq_some (z := (us[i]'(by omega), ws[i]'(by omega))).mpr ⟨List.getElem?_eq_getElem (show i < us.length by omega), List.getElem?_eq_getElem (show i < ws.length by omega)⟩]
    rfl

/-! ### targets -/
/-- a target takes d: what is relied on behind it -/
def tGq (G : GC) (t : T) (vs : List (Option V)) (gl gk : List GS) (s : St) (σ : L2.St) (H : Hp) (l : List Slot) (Q : L2.St → Hp → Prop) : Prop :=
  ∀ σ' gl', Rel G ⟨l, s.k⟩ σ' vs H gl' gk → (∀ a, Av G gl' gk a → Av G gl gk a) → (∀ own : List Nat, (∀ i ∈ t.names, i ∈ own) → wipe σ' own = wipe σ own) → Q σ' H
def tG (G : GC) (t : T) : TG := fun x σ H Q => ∃ s vs gl gk d l, Rel G s σ vs H gl gk ∧ Rep G.m (Av G gl gk) H d x ∧ asgn t (.inl d) s.l = some l ∧ nbrs s.k t.names = true ∧ tGq G t vs gl gk s σ H l Q
def tGs (G : GC) (t : T) : TGs := fun xs σ H Q => ∃ s vs gl gk ds l, Rel G s σ vs H gl gk ∧ Reps G.m (Av G gl gk) H ds xs ∧ asgn t (.inr ds) s.l = some l ∧ nbrs s.k t.names = true ∧ tGq G t vs gl gk s σ H l Q
theorem pg_conv {tg : Expr} {t t' : TG} (h : PG X tg t) (i : ∀ x σ H Q, t' x σ H Q → t x σ H Q) : PG X tg t' := ⟨fun pins s σ H v u Q I r q => h.run pins s σ H v u Q I r (i v σ H Q q)⟩
theorem pgs_conv {tg : List Expr} {t t' : TGs} (h : PGs X tg t) (i : ∀ x σ H Q, t' x σ H Q → t x σ H Q) : PGs X tg t' := ⟨fun pins s σ H v u Q I r q => h.run pins s σ H v u Q I r (i v σ H Q q)⟩
theorem nbrs_ok {s : St} {σ : L2.St} {vs : List (Option V)} {H : Hp} {gl gk : List GS} (R : Rel G s σ vs H gl gk) {is : List Nat} (h : nbrs s.k is = true) {i : Nat} (hi : i ∈ is) : ∀ w, GS.br i w ∉ gk := by
  intro w hm
  have : Slot.br i ∈ s.k := by rw [← R.ek]; exact List.mem_map.mpr ⟨_, hm, rfl⟩
  revert h this
  generalize s.k = k
  intro h this
  induction k with
  | nil => simp at this
  | cons x k ih =>
    rcases List.mem_cons.mp this with z | z
    · subst z
      simp [nbrs] at h
      exact h.1 hi
    · cases x with
      | br j => simp [nbrs] at h; exact ih h.2 z
      | emp => exact ih h z
      | crd c => exact ih h z
      | sh d => exact ih h z
      | ow d => exact ih h z
theorem nbrs_sub {is js : List Nat} (hs : ∀ i ∈ js, i ∈ is) : ∀ {k : List Slot}, nbrs k is = true → nbrs k js = true
  | [], _ => rfl
  | .br i :: k, h => by
    simp [nbrs] at h ⊢
    exact ⟨fun z => h.1 (hs i z), nbrs_sub hs h.2⟩
  | .emp :: k, h => nbrs_sub (k := k) hs h
  | .crd _ :: k, h => nbrs_sub (k := k) hs h
  | .sh _ :: k, h => nbrs_sub (k := k) hs h
  | .ow _ :: k, h => nbrs_sub (k := k) hs h
theorem wipe_set {i : Nat} {x : Option V} : ∀ {own : List Nat} (σ : L2.St), i ∈ own → wipe (σ.set i x) own = wipe σ own
  | [], _, h => by simp at h
  | j :: own, σ, h => by
    unfold wipe
    by_cases hj : i ∈ own
    · rw [wipe_set σ hj]
    · rcases List.mem_cons.mp h with z | z
      · subst z
        -- i = j, not in own
        have key : ∀ (own : List Nat), i ∉ own → (wipe (σ.set i x) own).set i none = (wipe σ own).set i none := by
          intro own
          induction own with
          | nil => intro _; simp [wipe]
          | cons m own ih =>
            intro hm
            have h1 : i ≠ m := fun e => hm (by simp [e])
            have h2 := ih (fun e => hm (List.mem_cons_of_mem _ e))
            unfold wipe
            rw [List.set_comm _ _ (Ne.symm h1), List.set_comm _ _ (Ne.symm h1), h2]
        exact key own hj
      · exact absurd z hj
def chkT (N : List Str) (sc : Scope) (fnB : Str → Bool) : T → Expr ⊕ List Expr → Bool
  | .name i, .inl (.Name x _) => decide (N[i]? = some x) && (match sc.names.lookup x with | some .local => true | some .cell => fnB x | _ => false)
  | .tup r, .inl (.Tuple es _ _) => chkT N sc fnB r (.inr es) && es.all (fun e => match e with | .Name .. => true | .Tuple .. => true | _ => false)
  | .nil, .inr [] => true
  | .cons a r, .inr (e :: es) => chkT N sc fnB a (.inl e) && chkT N sc fnB r (.inr es)
  | _, _ => false
def nT : T → Nat
  | .cons _ r => nT r + 1
  | _ => 0
theorem asgn_len : ∀ {t : T} {ds : List D} {l l' : List Slot}, asgn t (.inr ds) l = some l' → ds.length = nT t
  | .nil, [], _, _, _ => rfl
  | .cons a r, d :: ds, l, l', h => by
    simp only [asgn] at h
    cases e : asgn a (.inl d) l with
    | none => rw [e] at h; cases h
    | some l1 =>
      rw [e] at h
      have := asgn_len (t := r) (ds := ds) (l := l1) (l' := l') h
      simp [nT, this]
  | .nil, _ :: _, _, _, h => by simp [asgn] at h
  | .cons _ _, [], _, _, h => by simp [asgn] at h
  | .name _, _, _, _, h => by simp [asgn] at h
  | .tup _, _, _, _, h => by simp [asgn] at h
theorem chkT_len {fnB : Str → Bool} : ∀ {t : T} {es : List Expr}, chkT N sc fnB t (.inr es) = true → es.length = nT t
  | .nil, [], _ => rfl
  | .cons a r, e :: es, h => by
    simp only [chkT, Bool.and_eq_true] at h
    have := chkT_len h.2
    simp [nT, this]
  | .nil, _ :: _, h => by simp [chkT] at h
  | .cons _ _, [], h => by simp [chkT] at h
  | .name _, _, h => by simp [chkT] at h
  | .tup _, _, h => by simp [chkT] at h
def ntB (e : Expr) : Bool := match e with | .Name .. => true | .Tuple .. => true | _ => false
theorem asE_cons {e : Expr} {es : List Expr} {env : Env} (h : ntB e = true) : ∃ f, assignEach (e :: es) env = (false, f) :: assignEach es env ∧ f = assign e env := by
  cases e <;> first | exact ⟨_, rfl, rfl⟩ | (simp [ntB] at h)
theorem asE_all {env : Env} : ∀ {es : List Expr}, es.all ntB = true → (assignEach es env).length = es.length ∧ (assignEach es env).findIdx? (·.1) = none
  | [], _ => ⟨rfl, rfl⟩
  | e :: es, h => by
    have h' : ntB e = true ∧ es.all ntB = true := by simpa using h
    obtain ⟨f, e1, _⟩ := asE_cons (es := es) (env := env) h'.1
    obtain ⟨i1, i2⟩ := asE_all (es := es) (env := env) h'.2
    rw [e1]
    refine ⟨by simp [i1], ?_⟩
    simp [List.findIdx?_cons, i2]
theorem g_T (g : Good G C M use N k X sc W) {fnB : Str → Bool} (hfn : ∀ x, fnB x = true → X.fn x = true) : ∀ (t : T), (∀ e, chkT N sc fnB t (.inl e) = true → PG X e (tG G t)) ∧ (∀ es, chkT N sc fnB t (.inr es) = true → es.all ntB = true → PGs X es (tGs G t)) := by
  intro t
  induction t with
  | name i =>
    refine ⟨fun e h => ?_, fun es h => by simp [chkT] at h⟩
    cases e with
    | Name x p =>
      simp only [chkT, Bool.and_eq_true, decide_eq_true_eq] at h
      obtain ⟨hi, hx⟩ := h
      have hloc : Loc X.env.scope x := by
        rw [g.sc]
        split at hx
        · rename_i e; exact .inl e
        · rename_i e; exact .inr e
        · cases hx
      have hf : X.fn x = true ∨ X.env.scope.names.lookup x = some .local := by
        rw [g.sc]
        split at hx
        · rename_i e; exact .inr e
        · exact .inl (hfn x hx)
        · cases hx
      refine pg_conv (pg_name (i := i) (by rw [g.nm]; exact g.nd) (by rw [g.nm]; exact hi) hloc hf) fun x σ H Q h => ?_
      obtain ⟨s, vs, gl, gk, d, l, R, hr, e, hb, hq⟩ := h
      simp only [asgn, Option.some.injEq] at e
      subst e
      obtain ⟨gl', R', av⟩ := R.set_sh (i := i) (nbrs_ok R hb (by simp [T.names])) hr
      exact hq _ gl' R' av fun own ho => wipe_set σ (ho i (by simp [T.names]))
    | _ => simp [chkT] at h
  | tup r ih =>
    refine ⟨fun e h => ?_, fun es h => by simp [chkT] at h⟩
    cases e with
    | Tuple es kk p =>
      simp only [chkT, Bool.and_eq_true] at h
      obtain ⟨h1, h2⟩ := h
      have h2 : es.all ntB = true := h2
      obtain ⟨a1, a2⟩ := asE_all (env := X.env) h2
      refine pg_conv (pg_tup g.calm (ih.2 es h1 h2) a1 a2) fun x σ H Q h => ?_
      obtain ⟨s, vs, gl, gk, d, l, R, hr, e, hb, hq⟩ := h
      cases d with
      | tup ds =>
        simp only [asgn] at e
        obtain ⟨a, xs, ex, sq, rs⟩ := hr
        refine ⟨a, xs, ex, g.K ▸ sq, ?_, s, vs, gl, gk, ds, l, R, rs, e, hb, hq⟩
        rw [← Reps.len rs, asgn_len e, chkT_len h1]
      | _ => simp [asgn] at e
    | _ => simp [chkT] at h
  | nil =>
    refine ⟨fun e h => by cases e <;> simp [chkT] at h, fun es h _ => ?_⟩
    cases es with
    | nil =>
      refine pgs_conv pgs_nil fun xs σ H Q h => ?_
      obtain ⟨s, vs, gl, gk, ds, l, R, hr, e, hb, hq⟩ := h
      cases ds with
      | nil =>
        simp only [asgn, Option.some.injEq] at e
        subst e
        exact ⟨hr, hq σ gl R (fun _ h => h) fun _ _ => rfl⟩
      | cons _ _ => simp [asgn] at e
    | cons _ _ => simp [chkT] at h
  | cons a r iha ihr =>
    refine ⟨fun e h => by cases e <;> simp [chkT] at h, fun es h hn => ?_⟩
    cases es with
    | nil => simp [chkT] at h
    | cons e es =>
      simp only [chkT, Bool.and_eq_true] at h
      have hn' : ntB e = true ∧ es.all ntB = true := by simpa using hn
      obtain ⟨f, e1, e2⟩ := asE_cons (es := es) (env := X.env) hn'.1
      refine pgs_conv (pgs_cons (iha.1 e h.1) (ihr.2 es h.2 hn'.2) (by rw [e1, e2]; rfl)) fun xs σ H Q h => ?_
      obtain ⟨s, vs, gl, gk, ds, l, R, hr, ea, hb, hq⟩ := h
      cases ds with
      | nil => simp [asgn] at ea
      | cons d ds =>
        obtain ⟨v, vr, ex, h1, h2⟩ := hr
        simp only [asgn] at ea
        cases eb : asgn a (.inl d) s.l with
        | none => rw [eb] at ea; cases ea
        | some l1 =>
          rw [eb] at ea
          have ea : asgn r (.inr ds) l1 = some l := ea
          refine ⟨v, vr, ex, s, vs, gl, gk, d, l1, R, h1, eb, nbrs_sub (fun i hi => by simp [T.names, hi]) hb, fun σ1 gl1 R1 av1 w1 => ?_⟩
          refine ⟨⟨l1, s.k⟩, vs, gl1, gk, ds, l, R1, ?_, ea, nbrs_sub (fun i hi => by simp [T.names, hi]) hb, fun σ2 gl2 R2 av2 w2 => ?_⟩
          · exact Reps.sub (fun a z => .inl (av1 a z)) _ _ h2
          · exact hq σ2 gl2 R2 (fun a z => av1 a (av2 a z)) fun own ho => (w2 own fun i hi => ho i (by simp [T.names, hi])).trans (w1 own fun i hi => ho i (by simp [T.names, hi]))
end
end DP

set_option Elab.async false
set_option linter.all false
set_option maxRecDepth 100000
set_option maxHeartbeats 1000000
/-! E7: comprehensions. -/
namespace DP
open PySem PySem.Spec PyProof.Rows L2
section
variable {G : GC} {s : St} {σ : L2.St} {vs : List (Option V)} {H : Hp} {gl gk : List GS}
theorem Rel.nobr (R : Rel G s σ vs H gl gk) (i j : Nat) : s.l[i]? ≠ some (.br j) := by
  intro h
  obtain ⟨g, hg, es⟩ := R.loc h
  cases g with
  | br i' v => cases es; exact R.nb _ _ (List.mem_of_getElem? hg)
  | _ => cases es
/-- a local's thing is moved to the stack -/
theorem Rel.move (R : Rel G s σ vs H gl gk) (i : Nat) (hb : ∀ w, GS.br i w ∉ gk) : ∃ gl' gk', Rel G ⟨s.l.set i .emp, (s.l[i]?).getD .emp :: s.k⟩ (σ.set i none) ((σ[i]?).getD none :: vs) H gl' gk' ∧ (∀ a, Av G gl' gk' a → Av G gl gk a) := by
  cases e : gl[i]? with
  | none =>
    have hl : gl.length ≤ i := by simpa using e
    have h1 : s.l[i]? = none := by rw [← R.el, List.getElem?_map, e]; rfl
    have h2 : σ[i]? = none := by rw [← R.vl, List.getElem?_map, e]; rfl
    rw [h1, h2, List.set_eq_of_length_le (by rw [← R.el, List.length_map]; exact hl), List.set_eq_of_length_le (by rw [← R.vl, List.length_map]; exact hl)]
    refine ⟨gl, .emp none :: gk, R.re R.el (by rw [List.map_cons, R.ek]; rfl) R.vl (by rw [List.map_cons, R.vk]; rfl) (by rw [owns_cons]; exact R.nd) (by rw [owns_cons]; exact fun _ h => h) (fun g hg => ?_) R.nb (fun j w hj => ?_), fun a h => by unfold Av at h; rw [owns_cons] at h; exact h⟩
    · rcases List.mem_append.mp hg with z | z
      · exact .inl (List.mem_append_left _ z)
      · rcases List.mem_cons.mp z with z | z
        · subst z; exact .inr trivial
        · exact .inl (List.mem_append_right _ z)
    · rcases List.mem_cons.mp hj with z | z
      · cases z
      · exact R.bv j w z
  | some g =>
    have h1 : s.l[i]? = some g.slot := by rw [← R.el, List.getElem?_map, e]; rfl
    have h2 : σ[i]? = some g.val := R.locv e
    rw [h1, h2]
    obtain ⟨a, b, e1, _, e3⟩ := split_at e
    have own' : owns (gl.set i (.emp none)) = owns a ++ owns b := by rw [e3, owns_mid]; rfl
    have own0 : owns gl = owns a ++ (g.own ++ owns b) := by rw [e1, owns_mid]
    have pm : (owns (gl.set i (.emp none)) ++ owns (g :: gk)).Perm (owns gl ++ owns gk) := by
      rw [own', own0, owns_cons, List.append_assoc, List.append_assoc, List.append_assoc]
      exact (List.perm_append_left_iff _).mpr (List.perm_append_comm_assoc _ _ _)
    refine ⟨gl.set i (.emp none), g :: gk, R.re (by rw [List.map_set, R.el]; rfl) (by rw [List.map_cons, R.ek]; rfl) (by rw [List.map_set, R.vl]; rfl) (by rw [List.map_cons, R.vk]; rfl) (pm.nodup_iff.mpr R.nd) (fun p hp => pm.mem_iff.mp hp) (fun x hx => ?_) (fun j w hj => ?_) (fun j w hj => ?_) (by have := cred_out h1; simp only [St.cr, cred, Option.getD_some]; omega), fun a h => h.imp id fun z => pm.mem_iff.mp z⟩
    · rcases List.mem_append.mp hx with z | z
      · rcases List.mem_or_eq_of_mem_set z with z | z
        · exact .inl (List.mem_append_left _ z)
        · subst z; exact .inr trivial
      · rcases List.mem_cons.mp z with z | z
        · exact .inl (List.mem_append_left _ (by rw [z]; exact List.mem_of_getElem? e))
        · exact .inl (List.mem_append_right _ z)
    · rcases List.mem_or_eq_of_mem_set hj with z | z
      · exact R.nb j w z
      · cases z
    · rcases List.mem_cons.mp hj with z | z
      · exact absurd (List.mem_of_getElem? e) (by rw [← z]; exact R.nb j w)
      · rw [List.getElem?_set_ne (fun q => hb w (by rw [q]; exact z))]
        exact R.bv j w z
def hidv (σ : L2.St) : List Nat → List (Option V)
  | [] => []
  | i :: r => (σ[i]?).getD none :: hidv σ r
theorem emps_get {l : List Slot} {i : Nat} : ∀ {own : List Nat}, i ∉ own → (emps l own)[i]? = l[i]?
  | [], _ => rfl
  | j :: own, h => by
    have h1 : i ≠ j := fun e => h (by simp [e])
    unfold emps
    rw [List.getElem?_set_ne (Ne.symm h1)]
    exact emps_get fun e => h (List.mem_cons_of_mem _ e)
theorem wipe_get {σ : L2.St} {i : Nat} : ∀ {own : List Nat}, i ∉ own → (wipe σ own)[i]? = σ[i]?
  | [], _ => rfl
  | j :: own, h => by
    have h1 : i ≠ j := fun e => h (by simp [e])
    unfold wipe
    rw [List.getElem?_set_ne (Ne.symm h1)]
    exact wipe_get fun e => h (List.mem_cons_of_mem _ e)
theorem nbrs_hids {l : List Slot} (hl : ∀ (i j : Nat), l[i]? ≠ some (Slot.br j)) : ∀ (own is : List Nat) (k : List Slot), nbrs (hids l own ++ k) is = nbrs k is
  | [], _, _ => rfl
  | i :: own, is, k => by
    have ih := nbrs_hids hl own is k
    show nbrs ((l[i]?).getD .emp :: (hids l own ++ k)) is = nbrs k is
    cases e : l[i]? with
    | none => exact ih
    | some x =>
      cases x with
      | br j => exact absurd e (hl i j)
      | _ => exact ih
/-- the own names' things are kept on the stack -/
theorem Rel.hide (R : Rel G s σ vs H gl gk) : ∀ (own : List Nat), own.Nodup → nbrs s.k own = true → ∃ gl' gk', Rel G ⟨emps s.l own, hids s.l own ++ s.k⟩ (wipe σ own) (hidv σ own ++ vs) H gl' gk' ∧ (∀ a, Av G gl' gk' a → Av G gl gk a)
  | [], _, _ => ⟨gl, gk, R, fun _ h => h⟩
  | i :: own, nd, nb => by
    obtain ⟨n1, n2⟩ := List.nodup_cons.mp nd
    obtain ⟨gl1, gk1, R1, a1⟩ := Rel.hide R own n2 (nbrs_sub (fun i hi => List.mem_cons_of_mem _ hi) nb)
    have hb : ∀ w, GS.br i w ∉ gk1 := nbrs_ok R1 (is := i :: own) (by rw [show (⟨emps s.l own, hids s.l own ++ s.k⟩ : St).k = hids s.l own ++ s.k from rfl, nbrs_hids R.nobr]; exact nb) List.mem_cons_self
    obtain ⟨gl2, gk2, R2, a2⟩ := R1.move i hb
    refine ⟨gl2, gk2, ?_, fun a h => a1 a (a2 a h)⟩
    have e1 : (emps s.l own)[i]? = s.l[i]? := emps_get n1
    have e2 : (wipe σ own)[i]? = σ[i]? := wipe_get n1
    have R2 : Rel G ⟨(emps s.l own).set i .emp, ((emps s.l own)[i]?).getD .emp :: (hids s.l own ++ s.k)⟩ ((wipe σ own).set i none) (((wipe σ own)[i]?).getD none :: (hidv σ own ++ vs)) H gl2 gk2 := R2
    rw [e1, e2] at R2
    exact R2
/-- own names are let go -/
theorem Rel.clr (R : Rel G s σ vs H gl gk) : ∀ (own : List Nat), nbrs s.k own = true → ∃ gl', Rel G ⟨emps s.l own, s.k⟩ (wipe σ own) vs H gl' gk ∧ (∀ a, Av G gl' gk a → Av G gl gk a)
  | [], _ => ⟨gl, R, fun _ h => h⟩
  | i :: own, nb => by
    obtain ⟨gl1, R1, a1⟩ := Rel.clr R own (nbrs_sub (fun i hi => List.mem_cons_of_mem _ hi) nb)
    have hb : ∀ w, GS.br i w ∉ gk := nbrs_ok R nb List.mem_cons_self
    cases e : gl1[i]? with
    | none =>
      have hl : gl1.length ≤ i := by simpa using e
      refine ⟨gl1, ?_, a1⟩
      unfold emps wipe
      have q1 := congrArg List.length R1.el
      have q2 := congrArg List.length R1.vl
      rw [List.length_map] at q1 q2
      have q1 : gl1.length = (emps s.l own).length := q1
      rw [List.set_eq_of_length_le (show (emps s.l own).length ≤ i by omega), List.set_eq_of_length_le (show (wipe σ own).length ≤ i by omega)]
      exact R1
    | some g =>
      obtain ⟨a, b, e1, _, e3⟩ := split_at e
      have own' : owns (gl1.set i (.emp none)) = owns a ++ owns b := by rw [e3, owns_mid]; rfl
      have own0 : owns gl1 = owns a ++ (g.own ++ owns b) := by rw [e1, owns_mid]
      have subl : List.Sublist (owns (gl1.set i (.emp none))) (owns gl1) := by
        rw [own', own0]
        exact List.Sublist.append (List.Sublist.refl _) (List.sublist_append_right _ _)
      have av : ∀ a, Av G (gl1.set i (.emp none)) gk a → Av G gl1 gk a := fun a ha => ha.elim .inl fun z => .inr ((List.mem_append.mp z).elim (fun z => List.mem_append_left _ (subl.subset z)) fun z => List.mem_append_right _ z)
      refine ⟨gl1.set i (.emp none), R1.re (by unfold emps; rw [List.map_set, R1.el]; rfl) R1.ek (by unfold wipe; rw [List.map_set, R1.vl]; rfl) R1.vk (List.Nodup.sublist (List.Sublist.append subl (List.Sublist.refl _)) R1.nd)
        (fun p hp => (List.mem_append.mp hp).elim (fun z => List.mem_append_left _ (subl.subset z)) fun z => List.mem_append_right _ z) (fun x hx => ?_) (fun j w hj => ?_) (fun j w hj => ?_), fun a h => a1 a (av a h)⟩
      · rcases List.mem_append.mp hx with z | z
        · rcases List.mem_or_eq_of_mem_set z with z | z
          · exact .inl (List.mem_append_left _ z)
          · subst z; exact .inr trivial
        · exact .inl (List.mem_append_right _ z)
      · rcases List.mem_or_eq_of_mem_set hj with z | z
        · exact R1.nb j w z
        · cases z
      · unfold wipe
        rw [List.getElem?_set_ne (fun q => hb w (by rw [q]; exact hj))]
        exact R1.bv j w hj
theorem cred_mid {ga gr : List GS} {g : GS} {k : List Slot} (h : (ga ++ g :: gr).map GS.slot = k) : cred ((ga ++ gr).map GS.slot) + g.slot.cr = cred k := by
  subst h
  simp only [List.map_append, List.map_cons, cred_append, cred]
  omega
theorem cred_mids {ga gb gr : List GS} {k : List Slot} (h : (ga ++ (gb ++ gr)).map GS.slot = k) : cred ((ga ++ gr).map GS.slot) ≤ cred k := by
  subst h
  simp only [List.map_append, cred_append]
  omega
/-- a thing of the stack is put back into its local -/
theorem Rel.back (R : Rel G s σ vs H gl gk) {ga gr : List GS} {g : GS} (ek : gk = ga ++ g :: gr) (i : Nat) (he : s.l[i]? = some .emp ∨ s.l[i]? = none) (hb : ∀ w, GS.br i w ∉ ga ++ gr) (hg : ∀ j w, g ≠ .br j w) :
    ∃ gl', Rel G ⟨s.l.set i g.slot, (ga ++ gr).map GS.slot⟩ (σ.set i g.val) ((ga ++ gr).map GS.val) H gl' (ga ++ gr) := by
  subst ek
  have hk := cred_mid R.ek
  cases e : gl[i]? with
  | none =>
    have hl : gl.length ≤ i := by simpa using e
    rw [List.set_eq_of_length_le (by rw [← R.el, List.length_map]; exact hl), List.set_eq_of_length_le (by rw [← R.vl, List.length_map]; exact hl)]
    have sub : List.Sublist (owns (ga ++ gr)) (owns (ga ++ g :: gr)) := by
      rw [owns_append, owns_append, owns_cons]
      exact List.Sublist.append (List.Sublist.refl _) (List.sublist_append_right _ _)
    refine ⟨gl, R.re R.el rfl R.vl rfl (List.Nodup.sublist (List.Sublist.append (List.Sublist.refl _) sub) R.nd) (fun p hp => (List.mem_append.mp hp).elim (fun z => List.mem_append_left _ z) fun z => List.mem_append_right _ (sub.subset z)) (fun x hx => .inl ?_) R.nb (fun j w hj => ?_) (by simp only [St.cr]; omega)⟩
    · rcases List.mem_append.mp hx with z | z
      · exact List.mem_append_left _ z
      · refine List.mem_append_right _ ?_
        rcases List.mem_append.mp z with z | z
        · exact List.mem_append_left _ z
        · exact List.mem_append_right _ (List.mem_cons_of_mem _ z)
    · refine R.bv j w ?_
      rcases List.mem_append.mp hj with z | z
      · exact List.mem_append_left _ z
      · exact List.mem_append_right _ (List.mem_cons_of_mem _ z)
  | some g0 =>
    have h1 : s.l[i]? = some g0.slot := by rw [← R.el, List.getElem?_map, e]; rfl
    have hown : g0.own = [] := by
      rcases he with he | he
      · rw [h1] at he
        cases g0 with
        | ow d p => cases he
        | _ => rfl
      · rw [h1] at he; cases he
    obtain ⟨a, b, e1, _, e3⟩ := split_at e
    have own' : owns (gl.set i g) = owns a ++ (g.own ++ owns b) := by rw [e3, owns_mid]
    have own0 : owns gl = owns a ++ owns b := by rw [e1, owns_mid, hown]; rfl
    have pm : (owns (gl.set i g) ++ owns (ga ++ gr)).Perm (owns gl ++ owns (ga ++ g :: gr)) := by
      rw [own', own0, owns_append, owns_append, owns_cons]
      simp only [List.append_assoc]
      refine (List.perm_append_left_iff _).mpr ?_
      -- g ++ (b ++ (ga ++ gr)) ~ b ++ (ga ++ (g ++ gr))
      refine (List.perm_append_comm_assoc _ _ _).trans ((List.perm_append_left_iff _).mpr (List.perm_append_comm_assoc _ _ _))
    refine ⟨gl.set i g, R.re (by rw [List.map_set, R.el]) rfl (by rw [List.map_set, R.vl]) rfl (pm.nodup_iff.mpr R.nd) (fun p hp => pm.mem_iff.mp hp) (fun x hx => .inl ?_) (fun j w hj => ?_) (fun j w hj => ?_) (by have := cred_set s.l i g.slot; simp only [St.cr]; omega)⟩
    · rcases List.mem_append.mp hx with z | z
      · rcases List.mem_or_eq_of_mem_set z with z | z
        · exact List.mem_append_left _ z
        · subst z; exact List.mem_append_right _ (List.mem_append_right _ List.mem_cons_self)
      · refine List.mem_append_right _ ?_
        rcases List.mem_append.mp z with z | z
        · exact List.mem_append_left _ z
        · exact List.mem_append_right _ (List.mem_cons_of_mem _ z)
    · rcases List.mem_or_eq_of_mem_set hj with z | z
      · exact R.nb j w z
      · exact hg j w z.symm
    · rw [List.getElem?_set_ne (fun q => hb w (by rw [q]; exact hj))]
      refine R.bv j w ?_
      rcases List.mem_append.mp hj with z | z
      · exact List.mem_append_left _ z
      · exact List.mem_append_right _ (List.mem_cons_of_mem _ z)
/-- things in the middle of the stack are dropped -/
theorem Rel.mid (R : Rel G s σ vs H gl gk) {ga gb gr : List GS} (ek : gk = ga ++ (gb ++ gr)) : Rel G ⟨s.l, (ga ++ gr).map GS.slot⟩ σ ((ga ++ gr).map GS.val) H gl (ga ++ gr) := by
  subst ek
  have sub : List.Sublist (owns (ga ++ gr)) (owns (ga ++ (gb ++ gr))) := by
    rw [owns_append, owns_append, owns_append]
    exact List.Sublist.append (List.Sublist.refl _) (List.sublist_append_right _ _)
  refine R.re R.el rfl R.vl rfl (List.Nodup.sublist (List.Sublist.append (List.Sublist.refl _) sub) R.nd) (fun p hp => (List.mem_append.mp hp).elim (fun z => List.mem_append_left _ z) fun z => List.mem_append_right _ (sub.subset z)) (fun x hx => .inl ?_) R.nb (fun j w hj => R.bv j w ?_) (by have := cred_mids R.ek; simp only [St.cr]; omega)
  · rcases List.mem_append.mp hx with z | z
    · exact List.mem_append_left _ z
    · refine List.mem_append_right _ ?_
      rcases List.mem_append.mp z with z | z
      · exact List.mem_append_left _ z
      · exact List.mem_append_right _ (List.mem_append_right _ z)
  · rcases List.mem_append.mp hj with z | z
    · exact List.mem_append_left _ z
    · exact List.mem_append_right _ (List.mem_append_right _ z)
/-- the list on the top of the stack is changed -/
theorem Rel.mutk (ok : G.Ok) (R : Rel G s σ vs H gl gk) {d d' : D} {p : Addr} {o : HO} {gr : List GS} (ek : gk = .ow d p :: gr) (h : OwAt G.m (Av G gl gk) (upd H p o) d' p) :
    Rel G ⟨s.l, .ow d' :: s.k.tail⟩ σ vs (upd H p o) gl (.ow d' p :: gr) ∧ ∀ a, Av G gl (.ow d' p :: gr) a ↔ Av G gl gk a := by
  subst ek
  have own' : owns (GS.ow d' p :: gr) = owns (GS.ow d p :: gr) := by rw [owns_cons, owns_cons]; rfl
  have av : ∀ a, Av G gl (.ow d' p :: gr) a ↔ Av G gl (.ow d p :: gr) a := fun a => by unfold Av; rw [own']
  have hp : p ∈ owns gl ++ owns (GS.ow d p :: gr) := List.mem_append_right _ (mem_owns.mpr ⟨d, List.mem_cons_self⟩)
  obtain ⟨u, hu, ow⟩ := R.there hp
  have h0 := R.fr p hp
  have nR : ¬ G.m.R p := fun z => h0 (ok.ah p (ok.ra p z))
  have kA : Kp (Av G gl (.ow d p :: gr)) H (upd H p o) := Kp.mut hu ow (.inr hp) (own_nt h)
  have km : Kp (fun a => G.m.R a ∨ a = p) H (upd H p o) := Kp.mut hu ow (.inr rfl) (own_nt h)
  refine ⟨⟨R.el, by rw [List.map_cons, ← R.ek]; rfl, R.vl, by rw [← R.vk]; rfl, by rw [own']; exact R.nd, by rw [own']; exact R.fr, fun g hx => ?_, R.nb, fun j w hj => ?_, ?_, (ok.m.jm' R.j hu ow nR).le (Nat.add_le_add_left (Nat.add_le_add_left (by simp only [cred, Slot.cr]; exact cred_tail _) _) _)⟩, av⟩
  · have cases3 : g = .ow d' p ∨ g ∈ gl ++ gr := by
      rcases List.mem_append.mp hx with z | z
      · exact .inr (List.mem_append_left _ z)
      · rcases List.mem_cons.mp z with z | z
        · exact .inl z
        · exact .inr (List.mem_append_right _ z)
    rcases cases3 with z | z
    · subst z; exact OwAt.sub (fun a ha => .inl ((av a).mp ha)) h
    · have hm : g ∈ gl ++ (GS.ow d p :: gr) := by
        rcases List.mem_append.mp z with z | z
        · exact List.mem_append_left _ z
        · exact List.mem_append_right _ (List.mem_cons_of_mem _ z)
      have hr := R.rp g hm
      refine GRep.sub (fun a ha => .inl ((av a).mp ha)) ?_
      cases g with
      | emp _ => trivial
      | br _ _ => trivial
      | crd _ => trivial
      | sh d v => exact Rep.keep ok.m kA _ _ hr
      | ow e q =>
        have nq : q ≠ p := by
          intro w
          subst w
          have nd := R.nd
          rw [owns_cons, List.nodup_append] at nd
          obtain ⟨n1, n2, n3⟩ := nd
          rcases List.mem_append.mp z with z | z
          · exact n3 q (mem_owns.mpr ⟨e, z⟩) q (by simp [GS.own]) rfl
          · have n2' : (q :: owns gr).Nodup := by simpa [GS.own] using n2
            exact (List.nodup_cons.mp n2').1 (mem_owns.mpr ⟨e, z⟩)
        exact OwAt.keep ok.m kA (upd_ne nq) hr
  · rcases List.mem_cons.mp hj with z | z
    · cases z
    · exact R.bv j w (List.mem_cons_of_mem _ z)
  · refine ⟨fun q xs e => km.t _ _ (R.ke.t q xs e), fun q o u e => km.f _ _ _ (R.ke.f q o u e), fun q u e n z => ?_, fun q e => km.d q (R.ke.d q e), fun q φ e sx => km.x q φ (R.ke.x q φ e sx) sx⟩
    rw [upd_ne (fun w => h0 ⟨u, by rw [← w]; exact e, z⟩)]
    exact R.ke.k q u e n z
end
end DP

set_option Elab.async false
set_option linter.all false
set_option maxRecDepth 100000
set_option maxHeartbeats 1000000
/-! E8: comprehensions, the rule. -/
namespace DP
open PySem PySem.Spec PyProof.Rows L2
section
variable {G : GC} {C : Ctx} {W : WX} {M : MD} {use : List Nat} {N : List Str} {k : Nat} {X : Cx} {sc : Scope}
variable {e a b c : Expr} {ca cb cc : E} {pos : Pos}
/-- walked things below others are still there -/
theorem Rel.srcsP {s : St} {σ : L2.St} {vp vs : List (Option V)} {H : Hp} {gl gk : List GS} {kp k0 : List Slot} {ds : List D} {xs : List V} (hl : ds.length = xs.length) (R : Rel G s σ (vp ++ (xs.reverse.map some ++ vs)) H gl gk)
    (hk : s.k = kp ++ (ds.reverse.map Slot.sh ++ k0)) (hp : kp.length = vp.length) : Reps G.m (Av G gl gk) H ds xs := by
  have ek := R.ek
  have vk := R.vk
  rw [hk] at ek
  have key : ∀ (i : Nat) d x, ds[i]? = some d → xs[i]? = some x → Rep G.m (Av G gl gk) H d x := by
    intro i d x hd hx
    have hi : i < ds.length := (List.getElem?_eq_some_iff.mp hd).1
    have j1 : (kp ++ (ds.reverse.map Slot.sh ++ k0))[kp.length + (ds.length - 1 - i)]? = some (Slot.sh d) := by
      rw [List.getElem?_append_right (by omega), Nat.add_sub_cancel_left, List.getElem?_append_left (by simp; omega), List.getElem?_map, List.getElem?_reverse (by omega)]
      have : ds.length - 1 - (ds.length - 1 - i) = i := by omega
      rw [this, hd]; rfl
    have j2 : (vp ++ (xs.reverse.map some ++ vs))[kp.length + (ds.length - 1 - i)]? = some (some x) := by
      rw [hp, List.getElem?_append_right (by omega), Nat.add_sub_cancel_left, List.getElem?_append_left (by simp; omega), List.getElem?_map, List.getElem?_reverse (by omega)]
      have : xs.length - 1 - (ds.length - 1 - i) = i := by omega
      rw [this, hx]; rfl
    rw [← ek, List.getElem?_map] at j1
    rw [← vk, List.getElem?_map] at j2
    cases e : gk[kp.length + (ds.length - 1 - i)]? with
    | none => rw [e] at j1; cases j1
    | some g =>
      rw [e] at j1 j2
      have hr := R.rp g (List.mem_append_right _ (List.mem_of_getElem? e))
      cases g with
      | sh d' v =>
        simp [GS.slot] at j1
        simp [GS.val] at j2
        subst j1 j2
        exact hr
      | emp o => simp [GS.slot] at j1
      | crd o => simp [GS.slot] at j1
      | ow d p => simp [GS.slot] at j1
      | br i v => simp [GS.slot] at j1
  clear ek vk hk R
  induction ds generalizing xs with
  | nil => cases xs with
    | nil => rfl
    | cons _ _ => simp at hl
  | cons d ds ih => cases xs with
    | nil => simp at hl
    | cons x xs => exact ⟨x, xs, rfl, key 0 d x rfl rfl, ih (by simpa using hl) fun i d x h1 h2 => key (i + 1) d x (by simpa using h1) (by simpa using h2)⟩
theorem emps_mem {l : List Slot} {i : Nat} : ∀ {own : List Nat}, i ∈ own → (emps l own)[i]? = some .emp ∨ (emps l own)[i]? = none
  | [], h => by simp at h
  | j :: own, h => by
    unfold emps
    by_cases e : j = i
    · subst e
      by_cases q : j < (emps l own).length
      · exact .inl (List.getElem?_set_self q)
      · exact .inr (by rw [List.getElem?_eq_none]; rw [List.length_set]; omega)
    · rw [List.getElem?_set_ne e]
      exact emps_mem ((List.mem_cons.mp h).resolve_left fun z => e z.symm)
theorem wipe_set_nmem {i : Nat} {x : Option V} : ∀ {own : List Nat} (σ : L2.St), i ∉ own → wipe (σ.set i x) own = (wipe σ own).set i x
  | [], _, _ => rfl
  | j :: own, σ, h => by
    have h1 : i ≠ j := fun e => h (by simp [e])
    unfold wipe
    rw [wipe_set_nmem σ (fun e => h (List.mem_cons_of_mem _ e)), List.set_comm _ _ h1]
theorem wipe_idem : ∀ (own : List Nat) (σ : L2.St), wipe (wipe σ own) own = wipe σ own
  | [], _ => rfl
  | i :: own, σ => by
    show (wipe ((wipe σ own).set i none) own).set i none = (wipe σ own).set i none
    by_cases h : i ∈ own
    · rw [wipe_set _ h, wipe_idem own]
    · rw [wipe_set_nmem _ h, wipe_idem own, List.set_set]
def resto (σ : L2.St) : List Nat → List (Option V) → L2.St
  | i :: r, v :: vs => (resto σ r vs).set i v
  | _, _ => σ
theorem resto_set {i : Nat} {x : Option V} : ∀ {own : List Nat} {vs : List (Option V)} (σ : L2.St), i ∉ own → resto (σ.set i x) own vs = (resto σ own vs).set i x
  | [], _, _, _ => rfl
  | j :: own, [], _, _ => rfl
  | j :: own, v :: vs, σ, h => by
    have h1 : i ≠ j := fun e => h (by simp [e])
    show (resto (σ.set i x) own vs).set j v = ((resto σ own vs).set j v).set i x
    rw [resto_set σ (fun e => h (List.mem_cons_of_mem _ e)), List.set_comm _ _ h1]
theorem resto_wipe : ∀ (own : List Nat) (σ : L2.St), own.Nodup → resto (wipe σ own) own (hidv σ own) = σ
  | [], _, _ => rfl
  | i :: own, σ, nd => by
    obtain ⟨n1, n2⟩ := List.nodup_cons.mp nd
    show (resto ((wipe σ own).set i none) own (hidv σ own)).set i ((σ[i]?).getD none) = σ
    rw [resto_set _ n1, resto_wipe own σ n2, List.set_set]
    cases e : σ[i]? with
    | none =>
      have : σ.length ≤ i := by simpa using e
      exact List.set_eq_of_length_le this
    | some v =>
      obtain ⟨hi, ev⟩ := List.getElem?_eq_some_iff.mp e
      show σ.set i v = σ
      rw [← ev]
      exact List.set_getElem_self hi
theorem unhid_get {i : Nat} : ∀ {own : List Nat} {hs : List Slot} (l : List Slot), i ∉ own → (unhid l own hs)[i]? = l[i]?
  | [], _, _, _ => by unfold unhid; rfl
  | j :: own, [], _, _ => by unfold unhid; rfl
  | j :: own, x :: hs, l, h => by
    have h1 : i ≠ j := fun e => h (by simp [e])
    show ((unhid l own hs).set j x)[i]? = l[i]?
    rw [List.getElem?_set_ne (Ne.symm h1)]
    exact unhid_get l fun e => h (List.mem_cons_of_mem _ e)
/-- the own names' things are put back -/
theorem Rel.unhide {s : St} {σ : L2.St} {vs : List (Option V)} {H : Hp} {gk : List GS} : ∀ (own : List Nat) (ga gh gr : List GS) (gl : List GS), Rel G s σ vs H gl gk → gk = ga ++ (gh ++ gr) → gh.length = own.length → own.Nodup →
    (∀ i ∈ own, s.l[i]? = some .emp ∨ s.l[i]? = none) → (∀ i ∈ own, ∀ w, GS.br i w ∉ ga ++ gr) → (∀ i w, GS.br i w ∉ gh) →
    ∃ gl', Rel G ⟨unhid s.l own (gh.map GS.slot), (ga ++ gr).map GS.slot⟩ (resto σ own (gh.map GS.val)) ((ga ++ gr).map GS.val) H gl' (ga ++ gr)
  | [], ga, [], gr, gl, R, e, hl, nd, he, hb, hg => by
    refine ⟨gl, ?_⟩
    have e : gk = ga ++ gr := e
    have R' := R
    subst e
    have e1 : s = ⟨unhid s.l [] [], (ga ++ gr).map GS.slot⟩ := by rw [R.ek]; unfold unhid; rfl
    rw [R.vk]
    show Rel G ⟨unhid s.l [] [], (ga ++ gr).map GS.slot⟩ σ vs H gl (ga ++ gr)
    rw [← e1]
    exact R
  | [], _, _ :: _, _, _, _, _, hl, _, _, _, _ => by simp at hl
  | _ :: _, _, [], _, _, _, _, hl, _, _, _, _ => by simp at hl
  | i :: own, ga, g :: gh, gr, gl, R, e, hl, nd, he, hb, hg => by
    obtain ⟨n1, n2⟩ := List.nodup_cons.mp nd
    have hgi : ∀ j w, g ≠ .br j w := fun j w z => hg j w (by rw [z]; exact List.mem_cons_self)
    obtain ⟨gl1, R1⟩ := Rel.unhide own (ga ++ [g]) gh gr gl R (by rw [e]; simp) (by simpa using hl) n2 (fun j hj => he j (List.mem_cons_of_mem _ hj)) (fun j hj w hw => by
      rcases List.mem_append.mp hw with z | z
      · rcases List.mem_append.mp z with z | z
        · exact hb j (List.mem_cons_of_mem _ hj) w (List.mem_append_left _ z)
        · exact hgi j w (List.mem_singleton.mp z).symm
      · exact hb j (List.mem_cons_of_mem _ hj) w (List.mem_append_right _ z)) (fun j w hw => hg j w (List.mem_cons_of_mem _ hw))
    obtain ⟨gl2, R2⟩ := R1.back (ga := ga) (gr := gr) (g := g) (by simp) i (by
      show (unhid s.l own (gh.map GS.slot))[i]? = some .emp ∨ (unhid s.l own (gh.map GS.slot))[i]? = none
      rw [unhid_get _ n1]
      exact he i List.mem_cons_self) (hb i List.mem_cons_self) hgi
    exact ⟨gl2, R2⟩
theorem hids_len (l : List Slot) : ∀ own : List Nat, (hids l own).length = own.length
  | [] => rfl
  | _ :: own => by show (hids l own).length + 1 = own.length + 1; rw [hids_len l own]
theorem hidv_len (l : L2.St) : ∀ own : List Nat, (hidv l own).length = own.length
  | [] => rfl
  | _ :: own => by show (hidv l own).length + 1 = own.length + 1; rw [hidv_len l own]
/-- the top is taken by the list below it -/
theorem Rel.acc {s : St} {σ : L2.St} {vs : List (Option V)} {H : Hp} {gl gk : List GS} {y : V} {p : Addr} {Q : St → Prop} (ok : G.Ok) (R : Rel G s σ (some y :: some (.ref p) :: vs) H gl gk) (h : s.acc Q) :
    ∃ acc d as s' gl' gk' k0, s.k.tail = .ow (.lst as) :: k0 ∧ H p = some (.lst acc) ∧ acc.length < sizeLine ∧ Rel G s' σ (some (.ref p) :: vs) (upd H p (.lst (acc ++ [y]))) gl' gk' ∧ Q s' ∧ s'.k = .ow (.lst (as ++ [d])) :: k0 := by
  unfold St.acc at h
  split at h
  · rename_i x as k0 hk
    obtain ⟨d, hd, hlen, q⟩ := h
    have ha : s.args 1 = some [d] := by
      unfold St.args
      rw [hk]
      show svs s.l [x] = some [d]
      simp [svs, hd]
    obtain ⟨gl1, xs, R1, e1, rep⟩ := R.gives ok ha
    have exs : xs = [y] := (map_some_inj (ys := [y]) e1.symm)
    subst exs
    rw [hk] at R1
    have R1 : Rel G ⟨DP.frz s.l [x], .ow (.lst as) :: k0⟩ σ (some (.ref p) :: vs) H gl1 (gk.drop 1) := R1
    have ek := R1.ek
    have vk := R1.vk
    cases hg : gk.drop 1 with
    | nil => rw [hg] at ek; cases ek
    | cons g gr =>
      rw [hg] at ek vk R1 rep
      simp only [List.map_cons, List.cons.injEq] at ek vk
      cases g with
      | ow d0 q0 =>
        have e3 : d0 = .lst as := by have := ek.1; simpa [GS.slot] using this
        have e4 : q0 = p := by have := vk.1; simpa [GS.val] using this
        subst e3 e4
        have hO : OwAt G.m (Av G gl1 (.ow (.lst as) q0 :: gr)) H (.lst as) q0 := R1.rp (.ow (.lst as) q0) (List.mem_append_right _ List.mem_cons_self)
        obtain ⟨acc, hacc, rs⟩ := hO
        have kA : Kp (Av G gl1 (.ow (.lst as) q0 :: gr)) H (upd H q0 (.lst (acc ++ [y]))) := Kp.mut hacc trivial (.inr (List.mem_append_right _ (mem_owns.mpr ⟨_, List.mem_cons_self⟩)))
        have O2 : OwAt G.m (Av G gl1 (.ow (.lst as) q0 :: gr)) (upd H q0 (.lst (acc ++ [y]))) (.lst (as ++ [d])) q0 := ⟨acc ++ [y], upd_same, (Reps.keep ok.m kA _ _ rs).app (Reps.keep ok.m kA _ _ rep)⟩
        obtain ⟨R2, _⟩ := R1.mutk ok (d := .lst as) (d' := .lst (as ++ [d])) rfl O2
        have hl : acc.length < sizeLine := by rw [← Reps.len rs]; exact hlen
        exact ⟨acc, d, as, _, _, _, k0, by rw [hk]; rfl, hacc, hl, R2, q, rfl⟩
      | emp o => simp [GS.slot] at ek
      | crd o => simp [GS.slot] at ek
      | sh d v => simp [GS.slot] at ek
      | br i v => simp [GS.slot] at ek
  · exact h.elim
end
end DP

set_option Elab.async false
set_option linter.all false
set_option maxRecDepth 100000
set_option maxHeartbeats 1000000
/-! E9: the rule of comprehensions. -/
namespace DP
open PySem PySem.Spec PyProof.Rows L2
section
variable {G : GC} {C : Ctx} {W : WX} {M : MD} {use : List Nat} {N : List Str} {k : Nat} {X : Cx} {sc : Scope}
variable {e a b c : Expr} {ca cb cc : E} {pos : Pos}
theorem tk0 {X : Cx} : Takes X (fun _ _ _ _ => False) := fun u s' ⟨a, B, sI, pins, σ, H, cls, d, e, I, nb, up, sky, na, os, ag, w⟩ => w.elim
theorem Good.blk (g : Good G C M use N k X sc W) (scope : Scope) (s : Shared) (H : Hp) (p : Addr) (cl : List (Str × Addr)) (fp : List Addr) :
    Good G C M use N k (X.blk s H scope (compEnvC scope cl p X.env) fp) (relS scope sc) (fun _ _ _ _ => False) :=
  ⟨g.ok, g.calm, g.K, g.nm, g.nd, by rw [← g.sc]; rfl, g.room, tk0, g.fns, g.fvs, g.cvs, g.cts, g.free, g.cls, g.k3, g.sk, g.cc, fun h => ⟨(g.lam h).tab, (g.lam h).fns⟩⟩
def notSet (e : Expr) : Bool := match e with | .Set .. => false | _ => true
theorem notSet_ok {e : Expr} {env : Env} (h : notSet e = true) (x : Value) : foldedSetIterable e env x = pure x := by
  cases e <;> first | rfl | (simp [notSet] at h)
def wbody (C : Ctx) (own : List Nat) (tg : T) (hc : Bool) (c elt : E) (base : List Slot) : D → St → (St → Prop) → Prop := fun x s2 Q2 =>
  (∃ as, s2.k = .ow (.lst as) :: base) ∧ ∃ l, asgn tg (.inl x) (emps s2.l own) = some l ∧
        if hc then we C c ⟨l, s2.k⟩ (fun s3 => s3.topB fun b s3 => if b then we C elt s3 (fun s4 => s4.acc fun s5 => Q2 ⟨emps s5.l own, s5.k⟩) (fun _ _ => False) else Q2 ⟨emps s3.l own, s3.k⟩) (fun _ _ => False)
        else we C elt ⟨l, s2.k⟩ (fun s4 => s4.acc fun s5 => Q2 ⟨emps s5.l own, s5.k⟩) (fun _ _ => False)
theorem EQ.none {σ : L2.St} : EQ G (fun _ _ _ _ => False) σ (fun _ _ => False) := fun _ _ _ _ _ _ _ _ _ _ h => h
def wfin (P : St → Prop) (ov : List Nat) (base hs kk : List Slot) : St → Prop := fun s6 => ∃ as, s6.k = .ow (.lst as) :: base ∧ P ⟨unhid s6.l ov hs, .ow (.lst as) :: kk⟩
theorem wc_k {P : St → Prop} {ov : List Nat} {base hs kk : List Slot} {tg : T} {hc : Bool} : ∀ {items : List D} {s : St}, wcomp (wbody C ov tg hc cc ca base) items s (wfin P ov base hs kk) → ∃ as, s.k = .ow (.lst as) :: base
  | [], _, ⟨as, h, _⟩ => ⟨as, h⟩
  | _ :: _, _, h => h.1
theorem hids_nobr {l : List Slot} (hl : ∀ (i j : Nat), l[i]? ≠ some (Slot.br j)) : ∀ (own : List Nat) (i : Nat), Slot.br i ∉ hids l own
  | [], _, h => by simp [hids] at h
  | j :: own, i, h => by
    rcases List.mem_cons.mp h with z | z
    · cases e : l[j]? with
      | none => rw [e] at z; cases z
      | some x => rw [e] at z; exact hl j i (by rw [e]; exact congrArg some z.symm)
    · exact hids_nobr hl own i z
def ifsOk (hc : Bool) (ifs : List Expr) (q : Expr → Prop) : Prop := match hc with | true => ∃ ce, ifs = [ce] ∧ q ce | false => ifs = []
def ttOf (hc : Bool) (t : TT) : TT := match hc with | true => t | false => tYes
/-- what a comprehension's code asks is enough for the rule -/
theorem lc_imp (g : Good G C M use N k X sc W) {own : List (Str × Nat)} {tg : T} {it : ItK} {n : Nat} {src : E} {hc : Bool} (hnd : (own.map (·.2)).Nodup) {σ : L2.St} {H : Hp} {Q : VK} (h : tE G C W (.lc (own.map (·.2)) tg it n src hc cc ca) σ H Q) :
    tLc (tI G C W it n src) (tG G tg) (ttOf hc (tB (tE G C (fun _ _ _ _ => False) cc))) (tE G C (fun _ _ _ _ => False) ca) (own.map (·.2)) σ H Q := by
  obtain ⟨s, vs, gl, gk, P, Xd, R0, hP, hX, w⟩ := h
  refine ⟨s, vs, gl, gk, _, Xd, R0, hX, w, fun s1 xs H1 gl1 gk1 hl p R1 => ?_⟩
  obtain ⟨ds, e1, e2, hit⟩ := p
  obtain ⟨cnd, items, e3, hcnd, hnb, htn, hw⟩ := hit
  refine ⟨ds, cnd, items, e1, e2, e3, hcnd, fun J wd p hD => ?_⟩
  generalize hov : own.map (·.2) = ov at *
  obtain ⟨gl2, gk2, R2⟩ := R1.shd g.ok hl e1
  obtain ⟨gl3, gk3, R3, _⟩ := R2.hide ov hnd hnb
  have R4 := R3.push_new g.ok (d := .lst []) (o := .lst []) hD ⟨[], upd_same, rfl⟩
  obtain ⟨hs, ehs⟩ : ∃ hs, hs = hids (s1.shd n ds).l ov := ⟨_, rfl⟩
  obtain ⟨base, hbase⟩ : ∃ base, base = hids (s1.shd n ds).l ov ++ (s1.shd n ds).k := ⟨_, rfl⟩
  obtain ⟨vb, hvb⟩ : ∃ vb, vb = hidv σ ov ++ (xs.reverse.map some ++ vs) := ⟨_, rfl⟩
  have R4 : Rel G ⟨emps (s1.shd n ds).l ov, .ow (.lst []) :: base⟩ (wipe σ ov) (some (.ref p) :: vb) (upd H1 p (.lst [])) gl3 (.ow (.lst []) p :: gk3) := by rw [hbase, hvb]; exact R4
  have hw : wcomp (wbody C ov tg hc cc ca base) items ⟨emps (s1.shd n ds).l ov, .ow (.lst []) :: base⟩ (wfin P ov base hs (s1.k.drop n)) := by rw [hbase, ehs]; exact hw
  have hbl : nbrs base ov = true := by rw [hbase, nbrs_hids R2.nobr]; exact hnb
  have hsrc : ∀ {s2 : St} {σ' : L2.St} {H2 : Hp} {gl4 gk4 : List GS} {as : List D}, Rel G s2 σ' (some (.ref p) :: vb) H2 gl4 gk4 → s2.k = .ow (.lst as) :: base → Reps G.m (Av G gl4 gk4) H2 ds xs := by
    intro s2 σ' H2 gl4 gk4 as R hk
    refine Rel.srcsP (vp := some (.ref p) :: hidv σ ov) (vs := vs) (kp := .ow (.lst as) :: hids (s1.shd n ds).l ov) (k0 := s1.k.drop n) (by rw [e2, hl]) (by rw [List.cons_append, ← hvb]; exact R) (by rw [hk, hbase]; rfl) ?_
    show (hids _ ov).length + 1 = (hidv σ ov).length + 1
    rw [hids_len, hidv_len]
  -- the invariant
  refine lc_it (n := items.length) (G := fun H => ∃ A, Reps G.m A H ds xs) (Y := fun i H x H' => J.yld i H x H')
    ⟨fun i H hi ⟨A, r⟩ => (wd A H r).1 i hi, fun H ⟨A, r⟩ => (wd A H r).2.1, fun i H x H' _ _ y => y⟩
    (fun i H => ∃ s2 gl4 gk4, Rel G s2 (wipe σ ov) (some (.ref p) :: vb) H gl4 gk4 ∧ (∀ i ∈ ov, s2.l[i]? = some .emp ∨ s2.l[i]? = none) ∧ wcomp (wbody C ov tg hc cc ca base) (items.drop i) s2 (wfin P ov base hs (s1.k.drop n)))
    ⟨_, _, _, R4, fun i hi => emps_mem hi, hw⟩ (fun i H _ ⟨s2, gl4, gk4, R, _, wc⟩ => by obtain ⟨as, hk⟩ := wc_k wc; exact ⟨_, hsrc R hk⟩) (fun i x H2 H3 hi ⟨s2, gl4, gk4, R, hem, wc⟩ y => ?_) fun H6 ⟨s6, gl4, gk4, R, hem, wc⟩ => ?_
  · -- a turn
    obtain ⟨as, hk⟩ := wc_k wc
    obtain ⟨hkp, hj, d, hd, hr⟩ := (wd _ _ (hsrc R hk)).2.2 i x H3 hi y
    obtain ⟨hi', ed⟩ := List.getElem?_eq_some_iff.mp hd
    rw [List.drop_eq_getElem_cons hi', ed] at wc
    obtain ⟨⟨as', hk'⟩, l, hl', hbody⟩ := (show wbody C ov tg hc cc ca base d s2 _ from wc)
    have R5 := R.heap g.ok (hkp.mono fun _ z => z.elim) (hj _ R.j)
    have hr5 : Rep G.m (Av G gl4 gk4) H3 d x := hr
    have nb2 : nbrs s2.k ov = true := by rw [hk]; exact hbl
    have hsub : ∀ j ∈ tg.names, j ∈ ov := fun j hj => List.contains_iff_mem.mp (List.all_eq_true.mp htn j hj)
    obtain ⟨gl5, R6, av6⟩ := R5.clr ov nb2
    rw [wipe_idem] at R6
    refine ⟨⟨emps s2.l ov, s2.k⟩, _, gl5, gk4, d, l, R6, Rep.sub (fun a z => .inl (av6 a z)) _ _ hr5, hl', nbrs_sub hsub nb2, fun σ2 gl6 R7 av7 hw2 => ?_⟩
    have ew : wipe σ2 ov = wipe σ ov := by rw [hw2 ov hsub, wipe_idem]
    refine ⟨ew, ?_⟩
    have hback : ∀ (s3 : St) (H4 : Hp) (gl7 gk7 : List GS), Rel G s3 σ2 (some (.ref p) :: vb) H4 gl7 gk7 → wcomp (wbody C ov tg hc cc ca base) (items.drop (i + 1)) ⟨emps s3.l ov, s3.k⟩ (wfin P ov base hs (s1.k.drop n)) →
        ∃ s2 gl4 gk4, Rel G s2 (wipe σ ov) (some (.ref p) :: vb) H4 gl4 gk4 ∧ (∀ i ∈ ov, s2.l[i]? = some .emp ∨ s2.l[i]? = none) ∧ wcomp (wbody C ov tg hc cc ca base) (items.drop (i + 1)) s2 (wfin P ov base hs (s1.k.drop n)) := by
      intro s3 H4 gl7 gk7 R8 wc2
      obtain ⟨as2, hk2⟩ := wc_k wc2
      have hk2 : s3.k = .ow (.lst as2) :: base := hk2
      obtain ⟨gl8, R9, _⟩ := R8.clr ov (by rw [hk2]; exact hbl)
      rw [ew] at R9
      exact ⟨_, _, _, R9, fun i hi => emps_mem hi, wc2⟩
    have hel : ∀ (s3 : St) (H4 : Hp) (gl7 gk7 : List GS), Rel G s3 σ2 (some (.ref p) :: vb) H4 gl7 gk7 → we C ca s3 (fun s4 => s4.acc fun s5 => wcomp (wbody C ov tg hc cc ca base) (items.drop (i + 1)) ⟨emps s5.l ov, s5.k⟩ (wfin P ov base hs (s1.k.drop n))) (fun _ _ => False) →
        tE G C (fun _ _ _ _ => False) ca σ2 H4 fun y H5 => ∃ acc, H5 p = some (.lst acc) ∧ acc.length < sizeLine ∧ ∃ s2 gl4 gk4, Rel G s2 (wipe σ ov) (some (.ref p) :: vb) (upd H5 p (.lst (acc ++ [y]))) gl4 gk4 ∧ (∀ i ∈ ov, s2.l[i]? = some .emp ∨ s2.l[i]? = none) ∧ wcomp (wbody C ov tg hc cc ca base) (items.drop (i + 1)) s2 (wfin P ov base hs (s1.k.drop n)) := by
      intro s3 H4 gl7 gk7 R8 hwe
      refine ⟨s3, _, gl7, gk7, _, _, R8, fun s4 v H5 gl8 gk8 p4 R9 => ?_, EQ.none, hwe⟩
      obtain ⟨acc, d', as2, s5, gl9, gk9, k0, hkk, hacc, hlen, R10, q5, hk5⟩ := R9.acc g.ok p4
      exact ⟨acc, hacc, hlen, hback s5 _ _ _ R10 q5⟩
    cases hc with
    | true =>
      refine ⟨⟨l, s2.k⟩, _, gl6, gk4, _, _, R7, fun s3 v H4 gl7 gk7 p3 R8 => ?_, EQ.none, hbody⟩
      obtain ⟨r, s4, gk5, er, q4, R9⟩ := R8.topB p3
      refine ⟨r, er, ?_⟩
      cases r with
      | true => exact hel _ _ _ _ R9 q4
      | false => exact hback _ _ _ _ R9 q4
    | false => exact hel _ _ _ _ R7 hbody
  · -- the end
    rw [List.drop_length] at wc
    obtain ⟨as, hk, hp⟩ := (show wfin P ov base hs (s1.k.drop n) s6 from wc)
    have ek := R.ek
    have vk := R.vk
    rw [hk, hbase] at ek
    rw [hvb] at vk
    obtain ⟨g0, gt, rfl, k1, k2⟩ := List.map_eq_cons_iff.mp ek
    obtain ⟨gh, gu, rfl, k3, k4⟩ := List.map_eq_append_iff.mp k2
    obtain ⟨gs, gr, rfl, k5, k6⟩ := List.map_eq_append_iff.mp (show gu.map GS.slot = ds.reverse.map Slot.sh ++ s1.k.drop n from k4)
    simp only [List.map_cons, List.map_append, List.cons.injEq] at vk
    obtain ⟨v1, v2⟩ := vk
    have lh : gh.length = ov.length := by rw [← hids_len (s1.shd n ds).l ov, ← k3, List.length_map]
    obtain ⟨v3, v4⟩ := List.append_inj v2 (by rw [List.length_map, lh, hidv_len])
    have ls : gs.length = xs.length := by
      have := congrArg List.length k5
      simp at this
      omega
    obtain ⟨v5, v6⟩ := List.append_inj v4 (by simp [ls])
    have nbg : ∀ i w, GS.br i w ∉ gh := fun i w hm => by
      have : Slot.br i ∈ hids (s1.shd n ds).l ov := by rw [← k3]; exact List.mem_map.mpr ⟨_, hm, rfl⟩
      exact hids_nobr R2.nobr ov i this
    obtain ⟨gl5, R5⟩ := R.unhide ov [g0] gh (gs ++ gr) gl4 rfl lh hnd hem (fun i hi w hm => by
      refine nbrs_ok R (is := ov) (i := i) (by rw [hk]; exact hbl) hi w ?_
      rcases List.mem_append.mp hm with z | z
      · rw [List.mem_singleton.mp z]; exact List.mem_cons_self
      · exact List.mem_cons_of_mem _ (List.mem_append_right _ z)) nbg
    have R6 := R5.mid (ga := [g0]) (gb := gs) (gr := gr) rfl
    rw [k3, v3, resto_wipe ov σ hnd] at R6
    have R7 : Rel G ⟨unhid s6.l ov hs, .ow (.lst as) :: s1.k.drop n⟩ σ (some (.ref p) :: vs) H6 gl5 ([g0] ++ gr) := by
      have e1 : ([g0] ++ gr).map GS.slot = .ow (.lst as) :: s1.k.drop n := by rw [← k6, ← k1]; rfl
      have e2 : ([g0] ++ gr).map GS.val = some (.ref p) :: vs := by rw [← v6, ← v1]; rfl
      rw [← e1, ← e2, ehs]
      exact R6
    exact hP _ _ _ _ _ hp R7
theorem o_lc (g : Good G C M use N k X sc W) {own : List (Str × Nat)} {tg : T} {it : ItK} {n : Nat} {src : E} {hc : Bool} {elt tgE iter : Expr} {ifs : List Expr} {scope : Scope}
    (hns : notSet iter = true) (hb : blkC N sc scope own = true) (hnd : (own.map (·.2)).Nodup)
    (hi : PI X tgE iter (tI G C W it n src)) (ht : ∀ X', Good G C M use N k X' (relS scope sc) (fun _ _ _ _ => False) → X'.fn = (fun x => scope.names.lookup x == some .cell) → PG X' tgE (tG G tg))
    (hif : ∀ X', Good G C M use N k X' (relS scope sc) (fun _ _ _ _ => False) → X'.fn = (fun x => scope.names.lookup x == some .cell) → ifsOk hc ifs fun ce => PT X' ce (tB (tE G C (fun _ _ _ _ => False) cc)))
    (he : ∀ X', Good G C M use N k X' (relS scope sc) (fun _ _ _ _ => False) → X'.fn = (fun x => scope.names.lookup x == some .cell) → PE X' elt (tE G C (fun _ _ _ _ => False) ca)) :
    PE X (.ListComp elt [⟨tgE, iter, ifs, 0⟩] scope pos) (tE G C W (.lc (own.map (·.2)) tg it n src hc cc ca)) := by
  have hpts : ∀ (s : Shared) (H : Hp) (p : Addr) (cl : List (Str × Addr)) (fp : List Addr), PTs (X.blk s H scope (compEnvC scope cl p X.env) fp) ifs (ttOf hc (tB (tE G C (fun _ _ _ _ => False) cc))) := by
    intro s H p cl fp
    have q := hif _ (g.blk scope s H p cl fp) rfl
    cases hc with
    | true =>
      obtain ⟨ce, e, q⟩ := q
      subst e
      exact pts_one q
    | false =>
      have q : ifs = [] := q
      subst q
      exact pts_nil
  exact pe_conv (pe_lc g.calm (by rw [g.nm]; exact g.nd) hi (by rw [g.nm, g.sc]; exact blkOk_by hb) (fun s H p cl fp => ht _ (g.blk scope s H p cl fp) rfl) hpts (fun s H p cl fp => he _ (g.blk scope s H p cl fp) rfl) (notSet_ok hns)) fun σ H Q h => lc_imp g hnd h
/-- a name's comprehension on one line -/
theorem s_setLc (g : Good G C M use N k X sc W) {own : List (Str × Nat)} {tg : T} {it : ItK} {n : Nat} {src : E} {hc : Bool} {elt tgE iter : Expr} {ifs : List Expr} {scope : Scope}
    (hns : notSet iter = true) (hb : blkC N sc scope own = true) (hnd : (own.map (·.2)).Nodup)
    (hi : PI X tgE iter (tI G C W it n src)) (ht : ∀ X', Good G C M use N k X' (relS scope sc) (fun _ _ _ _ => False) → X'.fn = (fun x => scope.names.lookup x == some .cell) → PG X' tgE (tG G tg))
    (hif : ∀ X', Good G C M use N k X' (relS scope sc) (fun _ _ _ _ => False) → X'.fn = (fun x => scope.names.lookup x == some .cell) → ifsOk hc ifs fun ce => PT X' ce (tB (tE G C (fun _ _ _ _ => False) cc)))
    (he : ∀ X', Good G C M use N k X' (relS scope sc) (fun _ _ _ _ => False) → X'.fn = (fun x => scope.names.lookup x == some .cell) → PE X' elt (tE G C (fun _ _ _ _ => False) ca))
    {i : Nat} {y : Str} {py spos : Pos} (hy : N[i]? = some y) (hyl : sc.names.lookup y = some .local) (hsw : swapsWith (.ListComp elt [⟨tgE, iter, ifs, 0⟩] scope pos) (some (.Name y py)) spos.line X.env = pure true) :
    PS X (.Assign [.Name y py] (.ListComp elt [⟨tgE, iter, ifs, 0⟩] scope pos) spos) (tAsg (tE G C W (.lc (own.map (·.2)) tg it n src hc cc ca)) (gName i)) := by
  have hpts : ∀ (s : Shared) (H : Hp) (p : Addr) (cl : List (Str × Addr)) (fp : List Addr), PTs (X.blk s H scope (compEnvC scope cl p X.env) fp) ifs (ttOf hc (tB (tE G C (fun _ _ _ _ => False) cc))) := by
    intro s H p cl fp
    have q := hif _ (g.blk scope s H p cl fp) rfl
    cases hc with
    | true =>
      obtain ⟨ce, e, q⟩ := q
      subst e
      exact pts_one q
    | false =>
      have q : ifs = [] := q
      subst q
      exact pts_nil
  have key := ps_setLc (i := i) (y := y) (py := py) (spos := spos) g.calm (by rw [g.nm]; exact g.nd) (by rw [g.nm]; exact hy) (by rw [g.sc]; exact hyl) hsw hi (by rw [g.nm, g.sc]; exact blkOk_by hb) (fun s H p cl fp => ht _ (g.blk scope s H p cl fp) rfl) hpts (fun s H p cl fp => he _ (g.blk scope s H p cl fp) rfl) (notSet_ok hns)
  exact ⟨fun pins s σ H D I h => key.run pins s σ H D I (lc_imp g hnd h)⟩
/-! ### over a list that a local alone holds, and keeps -/
def wbodyB (C : Ctx) (own : List Nat) (tg : T) (hc : Bool) (c elt : E) (i : Nat) (its : List D) (base : List Slot) : D → St → (St → Prop) → Prop := fun x s2 Q2 =>
  ((∃ as, s2.k = .ow (.lst as) :: base) ∧ s2.l[i]? = some (.ow (.lst its))) ∧ ∃ l, asgn tg (.inl x) (emps s2.l own) = some l ∧
        if hc then we C c ⟨l, s2.k⟩ (fun s3 => s3.topB fun b s3 => if b then we C elt s3 (fun s4 => s4.acc fun s5 => Q2 ⟨emps s5.l own, s5.k⟩) (fun _ _ => False) else Q2 ⟨emps s3.l own, s3.k⟩) (fun _ _ => False)
        else we C elt ⟨l, s2.k⟩ (fun s4 => s4.acc fun s5 => Q2 ⟨emps s5.l own, s5.k⟩) (fun _ _ => False)
def wfinB (P : St → Prop) (ov : List Nat) (i : Nat) (its : List D) (base hs kk : List Slot) : St → Prop := fun s6 => ∃ as, (s6.k = .ow (.lst as) :: base ∧ s6.l[i]? = some (.ow (.lst its))) ∧ P ⟨unhid s6.l ov hs, .ow (.lst as) :: kk⟩
theorem wcB_k {P : St → Prop} {ov : List Nat} {i : Nat} {its : List D} {base hs kk : List Slot} {tg : T} {hc : Bool} : ∀ {items : List D} {s : St}, wcomp (wbodyB C ov tg hc cc ca i its base) items s (wfinB P ov i its base hs kk) → (∃ as, s.k = .ow (.lst as) :: base) ∧ s.l[i]? = some (.ow (.lst its))
  | [], _, ⟨as, h, _⟩ => ⟨⟨as, h.1⟩, h.2⟩
  | _ :: _, _, h => h.1
theorem at_own {s : St} {σ : L2.St} {vs : List (Option V)} {H : Hp} {gl gk : List GS} {i : Nat} {ds : List D} (R : Rel G s σ vs H gl gk) (h : s.l[i]? = some (.ow (.lst ds))) :
    ∃ p xs, σ[i]? = some (some (.ref p)) ∧ H p = some (.lst xs) ∧ Reps G.m (Av G gl gk) H ds xs := by
  obtain ⟨gg, hg, es⟩ := R.loc h
  have hv := R.locv hg
  have hr := R.lrep hg
  cases gg with
  | ow d p =>
    have e : d = .lst ds := by simpa [GS.slot] using es
    subst e
    obtain ⟨xs, e, r⟩ := (show OwAt G.m _ H (.lst ds) p from hr)
    exact ⟨p, xs, hv, e, r⟩
  | _ => simp [GS.slot] at es
theorem lcb_imp (g : Good G C M use N k X sc W) {own : List (Str × Nat)} {tg : T} {i0 : Nat} {hc : Bool} (hnd : (own.map (·.2)).Nodup) {σ : L2.St} {H : Hp} {Q : VK} (h : tE G C W (.lcb (own.map (·.2)) tg i0 hc cc ca) σ H Q) :
    tLc (iList X.K (tVar i0)) (tG G tg) (ttOf hc (tB (tE G C (fun _ _ _ _ => False) cc))) (tE G C (fun _ _ _ _ => False) ca) (own.map (·.2)) σ H Q := by
  obtain ⟨s, vs, gl, gk, P, Xd, R0, hP, hX, w⟩ := h
  generalize hov : own.map (·.2) = ov at *
  obtain ⟨items, h0, hni, hnb, htn, hw⟩ := w
  obtain ⟨a, ys0, hσ, ha, rs0⟩ := at_own R0 h0
  refine ⟨.ref a, hσ, a, rfl, ⟨ys0, SqL.of ha⟩, fun p hD => ?_⟩
  have R1 : Rel G ⟨s.l, .br i0 :: s.k⟩ σ (some (.ref a) :: vs) H gl (.br i0 (.ref a) :: gk) := R0.push_br hσ
  have hnb1 : nbrs (.br i0 :: s.k) ov = true := by simp only [nbrs, hni, hnb]; rfl
  obtain ⟨gl3, gk3, R3, _⟩ := R1.hide ov hnd hnb1
  have R4 := R3.push_new g.ok (d := .lst []) (o := .lst []) hD ⟨[], upd_same, rfl⟩
  obtain ⟨hs, ehs⟩ : ∃ hs, hs = hids s.l ov := ⟨_, rfl⟩
  obtain ⟨base, hbase⟩ : ∃ base, base = hids s.l ov ++ (.br i0 :: s.k) := ⟨_, rfl⟩
  obtain ⟨vb, hvb⟩ : ∃ vb, vb = hidv σ ov ++ (some (.ref a) :: vs) := ⟨_, rfl⟩
  have R4 : Rel G ⟨emps s.l ov, .ow (.lst []) :: base⟩ (wipe σ ov) (some (.ref p) :: vb) (upd H p (.lst [])) gl3 (.ow (.lst []) p :: gk3) := by rw [hbase, hvb]; exact R4
  have hw : wcomp (wbodyB C ov tg hc cc ca i0 items base) items ⟨emps s.l ov, .ow (.lst []) :: base⟩ (wfinB P ov i0 items base hs s.k) := by rw [hbase, ehs]; exact hw
  have hbl : nbrs base ov = true := by rw [hbase, nbrs_hids R0.nobr]; exact hnb1
  have hi0 : i0 ∉ ov := fun z => by
    have := List.contains_iff_mem.mpr z
    rw [hni] at this
    cases this
  have hσw : (wipe σ ov)[i0]? = some (some (.ref a)) := by rw [wipe_get hi0]; exact hσ
  have hread : ∀ {s2 : St} {H2 : Hp} {gl4 gk4 : List GS}, Rel G s2 (wipe σ ov) (some (.ref p) :: vb) H2 gl4 gk4 → s2.l[i0]? = some (.ow (.lst items)) → ∃ ys, H2 a = some (.lst ys) ∧ Reps G.m (Av G gl4 gk4) H2 items ys := by
    intro s2 H2 gl4 gk4 R hl
    obtain ⟨b, ys, e1, e2, e3⟩ := at_own R hl
    rw [hσw] at e1
    cases e1
    exact ⟨ys, e2, e3⟩
  refine lc_it (J := Itl X.K a) (n := items.length) (G := fun H => ∃ ys, H a = some (.lst ys) ∧ ys.length = items.length) (Y := fun i H x H' => H' = H ∧ ∀ ys, SqL X.K H a ys → ys[i]? = some x)
    ⟨fun i H hi ⟨ys, e, el⟩ => ⟨ys, ys[i]'(by omega), SqL.of e, by simp⟩, fun H ⟨ys, e, el⟩ => ⟨ys, SqL.of e, by omega⟩, fun i H x H' _ _ y => y⟩
    (fun i H => ∃ s2 gl4 gk4, Rel G s2 (wipe σ ov) (some (.ref p) :: vb) H gl4 gk4 ∧ (∀ i ∈ ov, s2.l[i]? = some .emp ∨ s2.l[i]? = none) ∧ wcomp (wbodyB C ov tg hc cc ca i0 items base) (items.drop i) s2 (wfinB P ov i0 items base hs s.k))
    ⟨_, _, _, R4, fun i hi => emps_mem hi, hw⟩ (fun i H _ ⟨s2, gl4, gk4, R, _, wc⟩ => by obtain ⟨_, hl⟩ := wcB_k wc; obtain ⟨ys, e, r⟩ := hread R hl; exact ⟨ys, e, (Reps.len r).symm⟩) (fun i x H2 H3 hi ⟨s2, gl4, gk4, R, hem, wc⟩ y => ?_) fun H6 ⟨s6, gl4, gk4, R, hem, wc⟩ => ?_
  · -- a turn
    obtain ⟨⟨as, hk⟩, hl0⟩ := wcB_k wc
    obtain ⟨ys, ey, ry⟩ := hread R hl0
    obtain ⟨eH, y⟩ := y
    subst eH
    obtain ⟨z, ez, hr⟩ := Reps.get ry (show items[i]? = some items[i] by simp)
    rw [y ys (SqL.of ey)] at ez
    cases ez
    rw [List.drop_eq_getElem_cons hi] at wc
    obtain ⟨_, l, hl', hbody⟩ := (show wbodyB C ov tg hc cc ca i0 items base items[i] s2 _ from wc)
    have nb2 : nbrs s2.k ov = true := by rw [hk]; exact hbl
    have hsub : ∀ j ∈ tg.names, j ∈ ov := fun j hj => List.contains_iff_mem.mp (List.all_eq_true.mp htn j hj)
    obtain ⟨gl5, R6, av6⟩ := R.clr ov nb2
    rw [wipe_idem] at R6
    refine ⟨⟨emps s2.l ov, s2.k⟩, _, gl5, gk4, items[i], l, R6, Rep.sub (fun a z => .inl (av6 a z)) _ _ hr, hl', nbrs_sub hsub nb2, fun σ2 gl6 R7 av7 hw2 => ?_⟩
    have ew : wipe σ2 ov = wipe σ ov := by rw [hw2 ov hsub, wipe_idem]
    refine ⟨ew, ?_⟩
    have hback : ∀ (s3 : St) (H4 : Hp) (gl7 gk7 : List GS), Rel G s3 σ2 (some (.ref p) :: vb) H4 gl7 gk7 → wcomp (wbodyB C ov tg hc cc ca i0 items base) (items.drop (i + 1)) ⟨emps s3.l ov, s3.k⟩ (wfinB P ov i0 items base hs s.k) →
        ∃ s2 gl4 gk4, Rel G s2 (wipe σ ov) (some (.ref p) :: vb) H4 gl4 gk4 ∧ (∀ i ∈ ov, s2.l[i]? = some .emp ∨ s2.l[i]? = none) ∧ wcomp (wbodyB C ov tg hc cc ca i0 items base) (items.drop (i + 1)) s2 (wfinB P ov i0 items base hs s.k) := by
      intro s3 H4 gl7 gk7 R8 wc2
      obtain ⟨⟨as2, hk2⟩, _⟩ := wcB_k wc2
      have hk2 : s3.k = .ow (.lst as2) :: base := hk2
      obtain ⟨gl8, R9, _⟩ := R8.clr ov (by rw [hk2]; exact hbl)
      rw [ew] at R9
      exact ⟨_, _, _, R9, fun i hi => emps_mem hi, wc2⟩
    have hel : ∀ (s3 : St) (H4 : Hp) (gl7 gk7 : List GS), Rel G s3 σ2 (some (.ref p) :: vb) H4 gl7 gk7 → we C ca s3 (fun s4 => s4.acc fun s5 => wcomp (wbodyB C ov tg hc cc ca i0 items base) (items.drop (i + 1)) ⟨emps s5.l ov, s5.k⟩ (wfinB P ov i0 items base hs s.k)) (fun _ _ => False) →
        tE G C (fun _ _ _ _ => False) ca σ2 H4 fun y H5 => ∃ acc, H5 p = some (.lst acc) ∧ acc.length < sizeLine ∧ ∃ s2 gl4 gk4, Rel G s2 (wipe σ ov) (some (.ref p) :: vb) (upd H5 p (.lst (acc ++ [y]))) gl4 gk4 ∧ (∀ i ∈ ov, s2.l[i]? = some .emp ∨ s2.l[i]? = none) ∧ wcomp (wbodyB C ov tg hc cc ca i0 items base) (items.drop (i + 1)) s2 (wfinB P ov i0 items base hs s.k) := by
      intro s3 H4 gl7 gk7 R8 hwe
      refine ⟨s3, _, gl7, gk7, _, _, R8, fun s4 v H5 gl8 gk8 p4 R9 => ?_, EQ.none, hwe⟩
      obtain ⟨acc, d', as2, s5, gl9, gk9, k0, hkk, hacc, hlen, R10, q5, hk5⟩ := R9.acc g.ok p4
      exact ⟨acc, hacc, hlen, hback s5 _ _ _ R10 q5⟩
    cases hc with
    | true =>
      refine ⟨⟨l, s2.k⟩, _, gl6, gk4, _, _, R7, fun s3 v H4 gl7 gk7 p3 R8 => ?_, EQ.none, hbody⟩
      obtain ⟨r, s4, gk5, er, q4, R9⟩ := R8.topB p3
      refine ⟨r, er, ?_⟩
      cases r with
      | true => exact hel _ _ _ _ R9 q4
      | false => exact hback _ _ _ _ R9 q4
    | false => exact hel _ _ _ _ R7 hbody
  · -- the end
    rw [List.drop_length] at wc
    obtain ⟨as, ⟨hk, _⟩, hp⟩ := (show wfinB P ov i0 items base hs s.k s6 from wc)
    have ek := R.ek
    have vk := R.vk
    rw [hk, hbase] at ek
    rw [hvb] at vk
    obtain ⟨g0, gt, rfl, k1, k2⟩ := List.map_eq_cons_iff.mp ek
    obtain ⟨gh, gu, rfl, k3, k4⟩ := List.map_eq_append_iff.mp k2
    obtain ⟨gs, gr, rfl, k5, k6⟩ := List.map_eq_cons_iff.mp k4
    simp only [List.map_cons, List.map_append, List.cons.injEq] at vk
    obtain ⟨v1, v2⟩ := vk
    have lh : gh.length = ov.length := by rw [← hids_len s.l ov, ← k3, List.length_map]
    obtain ⟨v3, v4⟩ := List.append_inj v2 (by rw [List.length_map, lh, hidv_len])
    have v6 : gr.map GS.val = vs := by injection v4
    have nbg : ∀ i w, GS.br i w ∉ gh := fun i w hm => by
      have : Slot.br i ∈ hids s.l ov := by rw [← k3]; exact List.mem_map.mpr ⟨_, hm, rfl⟩
      exact hids_nobr R0.nobr ov i this
    obtain ⟨gl5, R5⟩ := R.unhide ov [g0] gh (gs :: gr) gl4 rfl lh hnd hem (fun i hi w hm => by
      refine nbrs_ok R (is := ov) (i := i) (by rw [hk]; exact hbl) hi w ?_
      rcases List.mem_append.mp hm with z | z
      · rw [List.mem_singleton.mp z]; exact List.mem_cons_self
      · exact List.mem_cons_of_mem _ (List.mem_append_right _ z)) nbg
    have R6 := R5.mid (ga := [g0]) (gb := [gs]) (gr := gr) rfl
    rw [k3, v3, resto_wipe ov σ hnd] at R6
    have R7 : Rel G ⟨unhid s6.l ov hs, .ow (.lst as) :: s.k⟩ σ (some (.ref p) :: vs) H6 gl5 ([g0] ++ gr) := by
      have e1 : ([g0] ++ gr).map GS.slot = .ow (.lst as) :: s.k := by rw [← k6, ← k1]; rfl
      have e2 : ([g0] ++ gr).map GS.val = some (.ref p) :: vs := by rw [← v6, ← v1]; rfl
      rw [← e1, ← e2, ehs]
      exact R6
    exact hP _ _ _ _ _ hp R7
theorem o_lcb (g : Good G C M use N k X sc W) {own : List (Str × Nat)} {tg : T} {i : Nat} {x : Str} {p : Pos} {hc : Bool} {elt tgE : Expr} {ifs : List Expr} {scope : Scope}
    (hi : N[i]? = some x) (hv : visB sc x = true) (ho : okN x = true) (hb : blkC N sc scope own = true) (hnd : (own.map (·.2)).Nodup) (ht : ∀ X', Good G C M use N k X' (relS scope sc) (fun _ _ _ _ => False) → X'.fn = (fun x => scope.names.lookup x == some .cell) → PG X' tgE (tG G tg))
    (hif : ∀ X', Good G C M use N k X' (relS scope sc) (fun _ _ _ _ => False) → X'.fn = (fun x => scope.names.lookup x == some .cell) → ifsOk hc ifs fun ce => PT X' ce (tB (tE G C (fun _ _ _ _ => False) cc)))
    (he : ∀ X', Good G C M use N k X' (relS scope sc) (fun _ _ _ _ => False) → X'.fn = (fun x => scope.names.lookup x == some .cell) → PE X' elt (tE G C (fun _ _ _ _ => False) ca)) :
    PE X (.ListComp elt [⟨tgE, .Name x p, ifs, 0⟩] scope pos) (tE G C W (.lcb (own.map (·.2)) tg i hc cc ca)) := by
  have hpts : ∀ (s : Shared) (H : Hp) (p : Addr) (cl : List (Str × Addr)) (fp : List Addr), PTs (X.blk s H scope (compEnvC scope cl p X.env) fp) ifs (ttOf hc (tB (tE G C (fun _ _ _ _ => False) cc))) := by
    intro s H p cl fp
    have q := hif _ (g.blk scope s H p cl fp) rfl
    cases hc with
    | true =>
      obtain ⟨ce, e, q⟩ := q
      subst e
      exact pts_one q
    | false =>
      have q : ifs = [] := q
      subst q
      exact pts_nil
  have hl : PE X (.Name x p) (tVar i) := pe_var (i := i) (by rw [g.nm]; exact hi) (by rw [g.sc]; exact visB_ok hv) (okN_ok ho).1 (okN_ok ho).2.1
  exact pe_conv (pe_lc g.calm (by rw [g.nm]; exact g.nd) (pi_list hl) (by rw [g.nm, g.sc]; exact blkOk_by hb) (fun s H p cl fp => ht _ (g.blk scope s H p cl fp) rfl) hpts (fun s H p cl fp => he _ (g.blk scope s H p cl fp) rfl) (fun _ => rfl)) fun σ H Q h => lcb_imp g hnd h
theorem s_setLcb (g : Good G C M use N k X sc W) {own : List (Str × Nat)} {tg : T} {i : Nat} {x : Str} {p : Pos} {hc : Bool} {elt tgE : Expr} {ifs : List Expr} {scope : Scope}
    (hi : N[i]? = some x) (hv : visB sc x = true) (ho : okN x = true) (hb : blkC N sc scope own = true) (hnd : (own.map (·.2)).Nodup) (ht : ∀ X', Good G C M use N k X' (relS scope sc) (fun _ _ _ _ => False) → X'.fn = (fun x => scope.names.lookup x == some .cell) → PG X' tgE (tG G tg))
    (hif : ∀ X', Good G C M use N k X' (relS scope sc) (fun _ _ _ _ => False) → X'.fn = (fun x => scope.names.lookup x == some .cell) → ifsOk hc ifs fun ce => PT X' ce (tB (tE G C (fun _ _ _ _ => False) cc)))
    (he : ∀ X', Good G C M use N k X' (relS scope sc) (fun _ _ _ _ => False) → X'.fn = (fun x => scope.names.lookup x == some .cell) → PE X' elt (tE G C (fun _ _ _ _ => False) ca))
    {j : Nat} {y : Str} {py spos : Pos} (hy : N[j]? = some y) (hyl : sc.names.lookup y = some .local) (hsw : swapsWith (.ListComp elt [⟨tgE, .Name x p, ifs, 0⟩] scope pos) (some (.Name y py)) spos.line X.env = pure true) :
    PS X (.Assign [.Name y py] (.ListComp elt [⟨tgE, .Name x p, ifs, 0⟩] scope pos) spos) (tAsg (tE G C W (.lcb (own.map (·.2)) tg i hc cc ca)) (gName j)) := by
  have hpts : ∀ (s : Shared) (H : Hp) (p : Addr) (cl : List (Str × Addr)) (fp : List Addr), PTs (X.blk s H scope (compEnvC scope cl p X.env) fp) ifs (ttOf hc (tB (tE G C (fun _ _ _ _ => False) cc))) := by
    intro s H p cl fp
    have q := hif _ (g.blk scope s H p cl fp) rfl
    cases hc with
    | true =>
      obtain ⟨ce, e, q⟩ := q
      subst e
      exact pts_one q
    | false =>
      have q : ifs = [] := q
      subst q
      exact pts_nil
  have hl : PE X (.Name x p) (tVar i) := pe_var (i := i) (by rw [g.nm]; exact hi) (by rw [g.sc]; exact visB_ok hv) (okN_ok ho).1 (okN_ok ho).2.1
  have key := ps_setLc (i := j) (y := y) (py := py) (spos := spos) g.calm (by rw [g.nm]; exact g.nd) (by rw [g.nm]; exact hy) (by rw [g.sc]; exact hyl) hsw (pi_list hl) (by rw [g.nm, g.sc]; exact blkOk_by hb) (fun s H p cl fp => ht _ (g.blk scope s H p cl fp) rfl) hpts (fun s H p cl fp => he _ (g.blk scope s H p cl fp) rfl) (fun _ => rfl)
  exact ⟨fun pins s σ H D I h => key.run pins s σ H D I (lcb_imp g hnd h)⟩
end
end DP

set_option Elab.async false
set_option linter.all false
set_option maxRecDepth 100000
set_option maxHeartbeats 1000000
/-! E9d: the rule of dict comprehensions. -/
namespace DP
open PySem PySem.Spec PyProof.Rows L2
section
variable {G : GC} {C : Ctx} {W : WX} {M : MD} {use : List Nat} {N : List Str} {k : Nat} {X : Cx} {sc : Scope}
variable {e a b c : Expr} {ca cb cc ck cv : E} {pos : Pos}
def wbodyD (C : Ctx) (own : List Nat) (tg : T) (hc : Bool) (c key val : E) (base : List Slot) : D → St → (St → Prop) → Prop := fun x s2 Q2 =>
  (∃ as, s2.k = .ow (.dct false as) :: base) ∧ ∃ l, asgn tg (.inl x) (emps s2.l own) = some l ∧
        if hc then we C c ⟨l, s2.k⟩ (fun s3 => s3.topB fun b s3 => if b then we C key s3 (fun s4 => we C val s4 (fun s5 => s5.accD fun s6 => Q2 ⟨emps s6.l own, s6.k⟩) (fun _ _ => False)) (fun _ _ => False) else Q2 ⟨emps s3.l own, s3.k⟩) (fun _ _ => False)
        else we C key ⟨l, s2.k⟩ (fun s4 => we C val s4 (fun s5 => s5.accD fun s6 => Q2 ⟨emps s6.l own, s6.k⟩) (fun _ _ => False)) (fun _ _ => False)
def wfinD (P : St → Prop) (ov : List Nat) (base hs kk : List Slot) : St → Prop := fun s6 => ∃ as, s6.k = .ow (.dct false as) :: base ∧ P ⟨unhid s6.l ov hs, .ow (.dct false as) :: kk⟩
theorem wcD_k {P : St → Prop} {ov : List Nat} {base hs kk : List Slot} {tg : T} {hc : Bool} : ∀ {items : List D} {s : St}, wcomp (wbodyD C ov tg hc cc ck cv base) items s (wfinD P ov base hs kk) → ∃ as, s.k = .ow (.dct false as) :: base
  | [], _, ⟨as, h, _⟩ => ⟨as, h⟩
  | _ :: _, _, h => h.1
/-- the two on the top are taken by the dict below them -/
theorem Rel.accD {s : St} {σ : L2.St} {vs : List (Option V)} {H : Hp} {gl gk : List GS} {x y : V} {p : Addr} {Q : St → Prop} (ok : G.Ok) (R : Rel G s σ (some y :: some x :: some (.ref p) :: vs) H gl gk) (h : s.accD Q) :
    ∃ kk key s' gl' gk', H p = some (.dK kk) ∧ x = kV key ∧ kk.length < sizeLine ∧ Rel G s' σ (some (.ref p) :: vs) (upd H p (.dK (putK kk key y))) gl' gk' ∧ Q s' := by
  unfold St.accD at h
  split at h
  · rename_i sy sx kvs k0 hk
    obtain ⟨dx, dv, hdx, hkx, hdv, hlen, q⟩ := h
    have ha : s.args 2 = some [dx, dv] := by
      unfold St.args
      rw [hk]
      show svs s.l [sx, sy] = some [dx, dv]
      simp [svs, hdx, hdv]
    obtain ⟨gl1, xs, R1, e1, rep⟩ := R.gives ok ha
    have exs : xs = [x, y] := (map_some_inj (ys := [x, y]) e1.symm)
    subst exs
    rw [hk] at R1
    have R1 : Rel G ⟨DP.frz s.l [sy, sx], .ow (.dct false kvs) :: k0⟩ σ (some (.ref p) :: vs) H gl1 (gk.drop 2) := R1
    obtain ⟨_, _, ev, rx, _, _, ev2, ry, _⟩ := rep
    cases ev
    cases ev2
    obtain ⟨key, hkey⟩ := Option.isSome_iff_exists.mp hkx
    obtain ⟨hx, hdx2⟩ := keyOf_rep hkey rx
    have ek := R1.ek
    have vk := R1.vk
    cases hg : gk.drop 2 with
    | nil => rw [hg] at ek; cases ek
    | cons g gr =>
      rw [hg] at ek vk R1 ry
      simp only [List.map_cons, List.cons.injEq] at ek vk
      cases g with
      | ow d0 q0 =>
        have e3 : d0 = .dct false kvs := by have := ek.1; simpa [GS.slot] using this
        have e4 : q0 = p := by have := vk.1; simpa [GS.val] using this
        subst e3 e4
        have hO : OwAt G.m (Av G gl1 (.ow (.dct false kvs) q0 :: gr)) H (.dct false kvs) q0 := R1.rp (.ow (.dct false kvs) q0) (List.mem_append_right _ List.mem_cons_self)
        rcases hO with ⟨kk, hkk, ⟨_, h2⟩, h3⟩ | ⟨kk', h1, ⟨hf, _⟩, _⟩
        · skip
          have kA : Kp (Av G gl1 (.ow (.dct false kvs) q0 :: gr)) H (upd H q0 (.dK (putK kk key y))) := Kp.mut hkk trivial (.inr (List.mem_append_right _ (mem_owns.mpr ⟨_, List.mem_cons_self⟩)))
          have O2 : OwAt G.m (Av G gl1 (.ow (.dct false kvs) q0 :: gr)) (upd H q0 (.dK (putK kk key y))) (.dct false (putD kvs dx dv)) q0 := by
            rw [hdx2]
            exact .inl ⟨putK kk key y, upd_same, ⟨rfl, put_keys h2⟩, put_rep (Rep.keep ok.m kA _ _ ry) h2 (Repk.keep ok.m kA _ _ h3)⟩
          obtain ⟨R2, _⟩ := R1.mutk ok (d := .dct false kvs) (d' := .dct false (putD kvs dx dv)) rfl O2
          have hl : kk.length < sizeLine := by
            have := congrArg List.length h2
            simp only [List.length_map] at this
            omega
          exact ⟨kk, key, _, _, _, hkk, hx, hl, R2, q⟩
        · cases hf
      | emp o => simp [GS.slot] at ek
      | crd o => simp [GS.slot] at ek
      | sh d v => simp [GS.slot] at ek
      | br i v => simp [GS.slot] at ek
  · exact h.elim
/-- a dict comprehension over it: Pv by the turn and the heap (the new dict at D within) -/
theorem dc_it {J : It} {n : Nat} {G : Hp → Prop} {Y : Nat → Hp → V → Hp → Prop} (w : Walk J n G Y) {g : TG} {tt : TT} {tk tv : TE} {vs : List Nat} {σ : L2.St} {H1 : Hp} {D : Addr} {Qd : Hp → Prop} (Pv : Nat → Hp → Prop) (h0 : Pv 0 (upd H1 D (.dK []))) (hG : ∀ i H, i ≤ n → Pv i H → G H)
    (hs : ∀ i x H H', i < n → Pv i H → Y i H x H' → g x (wipe σ vs) H' fun σ2 H2 => wipe σ2 vs = wipe σ vs ∧ tt σ2 H2 fun b H3 =>
      if b = true then tk σ2 H3 fun y H4 => tv σ2 H4 fun z H5 => ∃ kvs k, y = kV k ∧ H5 D = some (.dK kvs) ∧ kvs.length < sizeLine ∧ Pv (i + 1) (upd H5 D (.dK (putK kvs k z))) else Pv (i + 1) H3) (hd : ∀ H, Pv n H → Qd H) :
    ∃ W : Nat → Nat → Hp → Prop, (∃ m, W 0 m (upd H1 D (.dK []))) ∧ ∀ i m H, W i m H →
      (J.stop i H ∧ Qd H) ∨ (J.go i H ∧ ∃ Nx : Hp → Prop, (∀ H', Nx H' → ∃ m', m' < m ∧ W (i + 1) m' H') ∧ ∀ x H', J.yld i H x H' → g x (wipe σ vs) H' fun σ2 H2 => wipe σ2 vs = wipe σ vs ∧ tt σ2 H2 fun b H3 =>
        if b = true then tk σ2 H3 fun y H4 => tv σ2 H4 fun z H5 => ∃ kvs k, y = kV k ∧ H5 D = some (.dK kvs) ∧ kvs.length < sizeLine ∧ Nx (upd H5 D (.dK (putK kvs k z))) else Nx H3) := by
  refine ⟨fun i m H => m = n - i ∧ i ≤ n ∧ Pv i H, ⟨n, by simp, Nat.zero_le _, h0⟩, fun i m H ⟨em, hi, p⟩ => ?_⟩
  subst em
  by_cases hlt : i < n
  · exact .inr ⟨w.goes i H hlt (hG i H hi p), Pv (i + 1), fun H' p' => ⟨n - (i + 1), by omega, rfl, hlt, p'⟩, fun x H' y => hs i x H H' hlt p (w.yields i H x H' hlt (hG i H hi p) y)⟩
  · have e : i = n := by omega
    subst e
    exact .inl ⟨w.stops H (hG i H hi p), hd H p⟩
/-- what a comprehension's code asks is enough for the rule -/
theorem dc_imp (g : Good G C M use N k X sc W) {own : List (Str × Nat)} {tg : T} {it : ItK} {n : Nat} {src : E} {hc : Bool} (hnd : (own.map (·.2)).Nodup) {σ : L2.St} {H : Hp} {Q : VK} (h : tE G C W (.dc (own.map (·.2)) tg it n src hc cc ck cv) σ H Q) :
    tDc (tI G C W it n src) (tG G tg) (ttOf hc (tB (tE G C (fun _ _ _ _ => False) cc))) (tE G C (fun _ _ _ _ => False) ck) (tE G C (fun _ _ _ _ => False) cv) (own.map (·.2)) σ H Q := by
  obtain ⟨s, vs, gl, gk, P, Xd, R0, hP, hX, w⟩ := h
  refine ⟨s, vs, gl, gk, _, Xd, R0, hX, w, fun s1 xs H1 gl1 gk1 hl p R1 => ?_⟩
  obtain ⟨ds, e1, e2, hit⟩ := p
  obtain ⟨cnd, items, e3, hcnd, hnb, htn, hw⟩ := hit
  refine ⟨ds, cnd, items, e1, e2, e3, hcnd, fun J wd p hD => ?_⟩
  generalize hov : own.map (·.2) = ov at *
  obtain ⟨gl2, gk2, R2⟩ := R1.shd g.ok hl e1
  obtain ⟨gl3, gk3, R3, _⟩ := R2.hide ov hnd hnb
  have R4 := R3.push_new g.ok (d := .dct false []) (o := .dK []) hD (.inl ⟨[], upd_same, ⟨rfl, rfl⟩, rfl⟩)
  obtain ⟨hs, ehs⟩ : ∃ hs, hs = hids (s1.shd n ds).l ov := ⟨_, rfl⟩
  obtain ⟨base, hbase⟩ : ∃ base, base = hids (s1.shd n ds).l ov ++ (s1.shd n ds).k := ⟨_, rfl⟩
  obtain ⟨vb, hvb⟩ : ∃ vb, vb = hidv σ ov ++ (xs.reverse.map some ++ vs) := ⟨_, rfl⟩
  have R4 : Rel G ⟨emps (s1.shd n ds).l ov, .ow (.dct false []) :: base⟩ (wipe σ ov) (some (.ref p) :: vb) (upd H1 p (.dK [])) gl3 (.ow (.dct false []) p :: gk3) := by rw [hbase, hvb]; exact R4
  have hw : wcomp (wbodyD C ov tg hc cc ck cv base) items ⟨emps (s1.shd n ds).l ov, .ow (.dct false []) :: base⟩ (wfinD P ov base hs (s1.k.drop n)) := by rw [hbase, ehs]; exact hw
  have hbl : nbrs base ov = true := by rw [hbase, nbrs_hids R2.nobr]; exact hnb
  have hsrc : ∀ {s2 : St} {σ' : L2.St} {H2 : Hp} {gl4 gk4 : List GS} {as : List (D × D)}, Rel G s2 σ' (some (.ref p) :: vb) H2 gl4 gk4 → s2.k = .ow (.dct false as) :: base → Reps G.m (Av G gl4 gk4) H2 ds xs := by
    intro s2 σ' H2 gl4 gk4 as R hk
    refine Rel.srcsP (vp := some (.ref p) :: hidv σ ov) (vs := vs) (kp := .ow (.dct false as) :: hids (s1.shd n ds).l ov) (k0 := s1.k.drop n) (by rw [e2, hl]) (by rw [List.cons_append, ← hvb]; exact R) (by rw [hk, hbase]; rfl) ?_
    show (hids _ ov).length + 1 = (hidv σ ov).length + 1
    rw [hids_len, hidv_len]
  -- the invariant
  refine dc_it (n := items.length) (G := fun H => ∃ A, Reps G.m A H ds xs) (Y := fun i H x H' => J.yld i H x H')
    ⟨fun i H hi ⟨A, r⟩ => (wd A H r).1 i hi, fun H ⟨A, r⟩ => (wd A H r).2.1, fun i H x H' _ _ y => y⟩
    (fun i H => ∃ s2 gl4 gk4, Rel G s2 (wipe σ ov) (some (.ref p) :: vb) H gl4 gk4 ∧ (∀ i ∈ ov, s2.l[i]? = some .emp ∨ s2.l[i]? = none) ∧ wcomp (wbodyD C ov tg hc cc ck cv base) (items.drop i) s2 (wfinD P ov base hs (s1.k.drop n)))
    ⟨_, _, _, R4, fun i hi => emps_mem hi, hw⟩ (fun i H _ ⟨s2, gl4, gk4, R, _, wc⟩ => by obtain ⟨as, hk⟩ := wcD_k wc; exact ⟨_, hsrc R hk⟩) (fun i x H2 H3 hi ⟨s2, gl4, gk4, R, hem, wc⟩ y => ?_) fun H6 ⟨s6, gl4, gk4, R, hem, wc⟩ => ?_
  · -- a turn
    obtain ⟨as, hk⟩ := wcD_k wc
    obtain ⟨hkp, hj, d, hd, hr⟩ := (wd _ _ (hsrc R hk)).2.2 i x H3 hi y
    obtain ⟨hi', ed⟩ := List.getElem?_eq_some_iff.mp hd
    rw [List.drop_eq_getElem_cons hi', ed] at wc
    obtain ⟨⟨as', hk'⟩, l, hl', hbody⟩ := (show wbodyD C ov tg hc cc ck cv base d s2 _ from wc)
    have R5 := R.heap g.ok (hkp.mono fun _ z => z.elim) (hj _ R.j)
    have hr5 : Rep G.m (Av G gl4 gk4) H3 d x := hr
    have nb2 : nbrs s2.k ov = true := by rw [hk]; exact hbl
    have hsub : ∀ j ∈ tg.names, j ∈ ov := fun j hj => List.contains_iff_mem.mp (List.all_eq_true.mp htn j hj)
    obtain ⟨gl5, R6, av6⟩ := R5.clr ov nb2
    rw [wipe_idem] at R6
    refine ⟨⟨emps s2.l ov, s2.k⟩, _, gl5, gk4, d, l, R6, Rep.sub (fun a z => .inl (av6 a z)) _ _ hr5, hl', nbrs_sub hsub nb2, fun σ2 gl6 R7 av7 hw2 => ?_⟩
    have ew : wipe σ2 ov = wipe σ ov := by rw [hw2 ov hsub, wipe_idem]
    refine ⟨ew, ?_⟩
    have hback : ∀ (s3 : St) (H4 : Hp) (gl7 gk7 : List GS), Rel G s3 σ2 (some (.ref p) :: vb) H4 gl7 gk7 → wcomp (wbodyD C ov tg hc cc ck cv base) (items.drop (i + 1)) ⟨emps s3.l ov, s3.k⟩ (wfinD P ov base hs (s1.k.drop n)) →
        ∃ s2 gl4 gk4, Rel G s2 (wipe σ ov) (some (.ref p) :: vb) H4 gl4 gk4 ∧ (∀ i ∈ ov, s2.l[i]? = some .emp ∨ s2.l[i]? = none) ∧ wcomp (wbodyD C ov tg hc cc ck cv base) (items.drop (i + 1)) s2 (wfinD P ov base hs (s1.k.drop n)) := by
      intro s3 H4 gl7 gk7 R8 wc2
      obtain ⟨as2, hk2⟩ := wcD_k wc2
      have hk2 : s3.k = .ow (.dct false as2) :: base := hk2
      obtain ⟨gl8, R9, _⟩ := R8.clr ov (by rw [hk2]; exact hbl)
      rw [ew] at R9
      exact ⟨_, _, _, R9, fun i hi => emps_mem hi, wc2⟩
    have hel : ∀ (s3 : St) (H4 : Hp) (gl7 gk7 : List GS), Rel G s3 σ2 (some (.ref p) :: vb) H4 gl7 gk7 → we C ck s3 (fun s4 => we C cv s4 (fun s5 => s5.accD fun s6 => wcomp (wbodyD C ov tg hc cc ck cv base) (items.drop (i + 1)) ⟨emps s6.l ov, s6.k⟩ (wfinD P ov base hs (s1.k.drop n))) (fun _ _ => False)) (fun _ _ => False) →
        tE G C (fun _ _ _ _ => False) ck σ2 H4 fun y H5 => tE G C (fun _ _ _ _ => False) cv σ2 H5 fun z H6 => ∃ kvs key, y = kV key ∧ H6 p = some (.dK kvs) ∧ kvs.length < sizeLine ∧ ∃ s2 gl4 gk4, Rel G s2 (wipe σ ov) (some (.ref p) :: vb) (upd H6 p (.dK (putK kvs key z))) gl4 gk4 ∧ (∀ i ∈ ov, s2.l[i]? = some .emp ∨ s2.l[i]? = none) ∧ wcomp (wbodyD C ov tg hc cc ck cv base) (items.drop (i + 1)) s2 (wfinD P ov base hs (s1.k.drop n)) := by
      intro s3 H4 gl7 gk7 R8 hwe
      refine ⟨s3, _, gl7, gk7, _, _, R8, fun s4 y H5 gl8 gk8 p4 R9 => ?_, EQ.none, hwe⟩
      refine ⟨s4, _, gl8, gk8, _, _, R9, fun s5 z H6 gl9 gk9 p5 R10 => ?_, EQ.none, p4⟩
      obtain ⟨kvs, key, s6, gl10, gk10, hkv, hx, hlen, R11, q6⟩ := R10.accD g.ok p5
      exact ⟨kvs, key, hx, hkv, hlen, hback s6 _ _ _ R11 q6⟩
    cases hc with
    | true =>
      refine ⟨⟨l, s2.k⟩, _, gl6, gk4, _, _, R7, fun s3 v H4 gl7 gk7 p3 R8 => ?_, EQ.none, hbody⟩
      obtain ⟨r, s4, gk5, er, q4, R9⟩ := R8.topB p3
      refine ⟨r, er, ?_⟩
      cases r with
      | true => exact hel _ _ _ _ R9 q4
      | false => exact hback _ _ _ _ R9 q4
    | false => exact hel _ _ _ _ R7 hbody
  · -- the end
    rw [List.drop_length] at wc
    obtain ⟨as, hk, hp⟩ := (show wfinD P ov base hs (s1.k.drop n) s6 from wc)
    have ek := R.ek
    have vk := R.vk
    rw [hk, hbase] at ek
    rw [hvb] at vk
    obtain ⟨g0, gt, rfl, k1, k2⟩ := List.map_eq_cons_iff.mp ek
    obtain ⟨gh, gu, rfl, k3, k4⟩ := List.map_eq_append_iff.mp k2
    obtain ⟨gs, gr, rfl, k5, k6⟩ := List.map_eq_append_iff.mp (show gu.map GS.slot = ds.reverse.map Slot.sh ++ s1.k.drop n from k4)
    simp only [List.map_cons, List.map_append, List.cons.injEq] at vk
    obtain ⟨v1, v2⟩ := vk
    have lh : gh.length = ov.length := by rw [← hids_len (s1.shd n ds).l ov, ← k3, List.length_map]
    obtain ⟨v3, v4⟩ := List.append_inj v2 (by rw [List.length_map, lh, hidv_len])
    have ls : gs.length = xs.length := by
      have := congrArg List.length k5
      simp at this
      omega
    obtain ⟨v5, v6⟩ := List.append_inj v4 (by simp [ls])
    have nbg : ∀ i w, GS.br i w ∉ gh := fun i w hm => by
      have : Slot.br i ∈ hids (s1.shd n ds).l ov := by rw [← k3]; exact List.mem_map.mpr ⟨_, hm, rfl⟩
      exact hids_nobr R2.nobr ov i this
    obtain ⟨gl5, R5⟩ := R.unhide ov [g0] gh (gs ++ gr) gl4 rfl lh hnd hem (fun i hi w hm => by
      refine nbrs_ok R (is := ov) (i := i) (by rw [hk]; exact hbl) hi w ?_
      rcases List.mem_append.mp hm with z | z
      · rw [List.mem_singleton.mp z]; exact List.mem_cons_self
      · exact List.mem_cons_of_mem _ (List.mem_append_right _ z)) nbg
    have R6 := R5.mid (ga := [g0]) (gb := gs) (gr := gr) rfl
    rw [k3, v3, resto_wipe ov σ hnd] at R6
    have R7 : Rel G ⟨unhid s6.l ov hs, .ow (.dct false as) :: s1.k.drop n⟩ σ (some (.ref p) :: vs) H6 gl5 ([g0] ++ gr) := by
      have e1 : ([g0] ++ gr).map GS.slot = .ow (.dct false as) :: s1.k.drop n := by rw [← k6, ← k1]; rfl
      have e2 : ([g0] ++ gr).map GS.val = some (.ref p) :: vs := by rw [← v6, ← v1]; rfl
      rw [← e1, ← e2, ehs]
      exact R6
    exact hP _ _ _ _ _ hp R7
theorem o_dc (g : Good G C M use N k X sc W) {own : List (Str × Nat)} {tg : T} {it : ItK} {n : Nat} {src : E} {hc : Bool} {kx vx tgE iter : Expr} {ifs : List Expr} {scope : Scope}
    (hns : notSet iter = true) (hb : blkC N sc scope own = true) (hnd : (own.map (·.2)).Nodup)
    (hi : PI X tgE iter (tI G C W it n src)) (ht : ∀ X', Good G C M use N k X' (relS scope sc) (fun _ _ _ _ => False) → X'.fn = (fun x => scope.names.lookup x == some .cell) → PG X' tgE (tG G tg))
    (hif : ∀ X', Good G C M use N k X' (relS scope sc) (fun _ _ _ _ => False) → X'.fn = (fun x => scope.names.lookup x == some .cell) → ifsOk hc ifs fun ce => PT X' ce (tB (tE G C (fun _ _ _ _ => False) cc)))
    (he : ∀ X', Good G C M use N k X' (relS scope sc) (fun _ _ _ _ => False) → X'.fn = (fun x => scope.names.lookup x == some .cell) → PE X' kx (tE G C (fun _ _ _ _ => False) ck))
    (hv : ∀ X', Good G C M use N k X' (relS scope sc) (fun _ _ _ _ => False) → X'.fn = (fun x => scope.names.lookup x == some .cell) → PE X' vx (tE G C (fun _ _ _ _ => False) cv)) :
    PE X (.DictComp kx vx [⟨tgE, iter, ifs, 0⟩] scope pos) (tE G C W (.dc (own.map (·.2)) tg it n src hc cc ck cv)) := by
  have hpts : ∀ (s : Shared) (H : Hp) (p : Addr) (cl : List (Str × Addr)) (fp : List Addr), PTs (X.blk s H scope (compEnvC scope cl p X.env) fp) ifs (ttOf hc (tB (tE G C (fun _ _ _ _ => False) cc))) := by
    intro s H p cl fp
    have q := hif _ (g.blk scope s H p cl fp) rfl
    cases hc with
    | true =>
      obtain ⟨ce, e, q⟩ := q
      subst e
      exact pts_one q
    | false =>
      have q : ifs = [] := q
      subst q
      exact pts_nil
  exact pe_conv (pe_dc g.calm (by rw [g.nm]; exact g.nd) hi (by rw [g.nm, g.sc]; exact blkOk_by hb) (fun s H p cl fp => ht _ (g.blk scope s H p cl fp) rfl) hpts (fun s H p cl fp => he _ (g.blk scope s H p cl fp) rfl) (fun s H p cl fp => hv _ (g.blk scope s H p cl fp) rfl) (notSet_ok hns)) fun σ H Q h => dc_imp g hnd h
end
end DP

set_option Elab.async false
set_option linter.all false
set_option maxRecDepth 100000
set_option maxHeartbeats 1000000
/-! E5k: calls by keywords alone (not yet in the check). -/
namespace DP
open PySem PySem.Spec PyProof.Rows L2
theorem vals_perm {vs : List V} {us : List Value} (r : Vals vs us) : ∀ perm : List Nat, Vals (permL perm vs) (permL perm us)
  | [] => .nil
  | i :: perm => by
    have ih := vals_perm r perm
    unfold permL
    rw [List.filterMap_cons, List.filterMap_cons]
    cases e : vs[i]? with
    | none =>
      have : us[i]? = none := by
        have hl := r.length
        rw [List.getElem?_eq_none_iff] at e ⊢
        omega
      rw [this]
      exact ih
    | some v =>
      obtain ⟨u, hu, ru⟩ := r.get e
      rw [hu]
      exact .cons ru ih
theorem reps_perm {m : MG} {A : Addr → Prop} {H : Hp} {ds : List D} {xs : List V} (r : Reps m A H ds xs) : ∀ perm : List Nat, Reps m A H (permL perm ds) (permL perm xs)
  | [] => rfl
  | i :: perm => by
    have ih := reps_perm r perm
    unfold permL
    rw [List.filterMap_cons, List.filterMap_cons]
    cases e : ds[i]? with
    | none =>
      have : xs[i]? = none := by
        have hl := Reps.len r
        rw [List.getElem?_eq_none_iff] at e ⊢
        omega
      rw [this]
      exact ih
    | some d =>
      obtain ⟨v, hv, rv⟩ := Reps.get r e
      rw [hv]
      exact ⟨v, _, rfl, rv, ih⟩
theorem pe_callK0S {X : Cx} {CX : CXT} {j : Nat} {f : Addr} {fd : FuncData} {ps ks : List Str} {sp : Sp} {E : L2.St → XK} {x : Str} {p pos : Pos} {kws : List Keyword} {tk : TA} {perm : List Nat}
    (F : FnOk X.prog X.w X.K X.mg X.base CX j f fd ps sp) (hr : Room j X.A) (hg : Gl X x) (hm : X.mg x = some (.ref f)) (hk : PySem.W.keepIn X.K (.ref f) = true) (hb : KwTo X.K fd ps ks perm) (hx : ∀ σ, PassesAt CX X σ (E σ)) (hkw : PK X kws tk)
    (hall : (backToKw pos (keywordEach kws X.env)).all (·.1.isSome) = true) (hks : (backToKw pos (keywordEach kws X.env)).filterMap (·.1) = ks) (hdb : (x == ("__debug__" : Str)) = false)
    (hpl : ((backTo pos (starEach [] X.env)).any (·.1) || (backToKw pos (keywordEach kws X.env)).any (·.1.isNone)) = false) :
    PE X (.Call (.Name x p) [] kws pos) (fun σ H Q => tk σ H fun zs H1 => zs.length = ks.length ∧ sp (permL perm zs) H1 Q (E σ)) := by
  refine ⟨fun pins s σ H Q I h => ?_⟩
  refine wpAny_Call_Name_kw (ld_glob I hg hm ?_ hdb)
  refine PySem.W.callWith_KW0 (h₀ := X.base) I.ok.mod.kin hk hall ?_ hpl
  refine thn (hkw.run pos pins s σ H _ I h) fun ws s2 ⟨zs, H2, I2, rz, hl, q2⟩ => ⟨I2.kIn, ?_⟩
  rw [hks]
  refine wpAny_call (codeAny_mono (F.run X.A X.stack s2 H2 ⟨[], ks.zip ws⟩ (permL perm ws) (permL perm zs) Q (E σ) hr I2.env0 (hb s2 ws I2.kIn (by rw [← rz.length]; exact hl)) (vals_perm rz perm) q2) fun r s' hq => ?_)
  cases r with
  | error e => exact hx σ pins H2 s2 e s' I2 hq
  | ok fl =>
    cases fl with
    | ret u => exact I2.after hq
    | next => exact False.elim hq
    | brk => exact False.elim hq
    | cont => exact False.elim hq
/-- the keywords' names and values -/
def kwN : List Keyword → Option (List Str × List Expr)
  | [] => some ([], [])
  | ⟨some n, e, _⟩ :: r => (kwN r).map fun p => (n :: p.1, e :: p.2)
  | ⟨none, _, _⟩ :: _ => none
theorem kwN_each {env : Env} {pos : Pos} : ∀ {kws : List Keyword} {ks : List Str} {es : List Expr}, kwN kws = some (ks, es) →
    (backToKw pos (keywordEach kws env)).all (·.1.isSome) = true ∧ (backToKw pos (keywordEach kws env)).filterMap (·.1) = ks ∧ (backToKw pos (keywordEach kws env)).any (·.1.isNone) = false
  | [], ks, es, h => by cases h; exact ⟨rfl, rfl, rfl⟩
  | ⟨some n, e, p⟩ :: r, ks, es, h => by
    have h : (kwN r).map (fun p => (n :: p.1, e :: p.2)) = some (ks, es) := h
    cases eq : kwN r with
    | none => rw [eq] at h; cases h
    | some q =>
      rw [eq] at h
      cases h
      obtain ⟨h1, h2, h3⟩ := kwN_each (env := env) (pos := pos) eq
      refine ⟨?_, ?_, ?_⟩
      · show (true && (backToKw pos (keywordEach r env)).all (·.1.isSome)) = true
        rw [h1]; rfl
      · show n :: (backToKw pos (keywordEach r env)).filterMap (·.1) = _
        rw [h2]
      · show (false || (backToKw pos (keywordEach r env)).any (·.1.isNone)) = false
        rw [h3]; rfl
  | ⟨none, _, _⟩ :: _, _, _, h => by cases h
section
variable {G : GC} {C : Ctx} {W : WX} {M : MD} {use : List Nat} {N : List Str} {k : Nat} {X : Cx} {sc : Scope}
variable {e : Expr} {ca cb : E} {pos : Pos}
theorem pk_conv {X : Cx} {e : List Keyword} {t t' : TA} (h : PK X e t) (i : ∀ σ H Q, t' σ H Q → t σ H Q) : PK X e t' := ⟨fun pos pins s σ H Q I q => h.run pos pins s σ H Q I (i σ H Q q)⟩
theorem o_knil : PK X [] (tA G C W .nil) := by
  refine pk_conv pk_nil fun σ H Q h => ?_
  obtain ⟨s, vs, gl, gk, P, Xd, R, hP, hX, w⟩ := h
  exact hP _ [] _ _ _ rfl w R
theorem o_kcons {kws : List Keyword} {nm : Option Str} {kp : Pos} (ha : PE X e (tE G C W ca)) (hb : PK X kws (tA G C W cb)) : PK X (⟨nm, e, kp⟩ :: kws) (tA G C W (.cons ca cb)) := by
  refine pk_conv (pk_cons ha hb) fun σ H Q h => ?_
  obtain ⟨s, vs, gl, gk, P, Xd, R, hP, hX, w⟩ := h
  refine ⟨s, vs, gl, gk, _, Xd, R, fun s1 v H1 gl1 gk1 p R1 => ⟨s1, _, gl1, gk1, _, Xd, R1, fun s2 xs H2 gl2 gk2 hl p2 R2 => ?_, hX, p⟩, hX, w⟩
  refine hP s2 (v :: xs) H2 gl2 gk2 (by show xs.length + 1 = nE cb + 1; rw [hl]) p2 ?_
  rw [List.reverse_cons, List.map_append, List.append_assoc]
  exact R2
theorem kwN_len : ∀ {kws : List Keyword} {ks : List Str} {es : List Expr}, kwN kws = some (ks, es) → ks.length = es.length
  | [], ks, es, h => by cases h; rfl
  | ⟨some n, e, p⟩ :: r, ks, es, h => by
    have h : (kwN r).map (fun p => (n :: p.1, e :: p.2)) = some (ks, es) := h
    cases eq : kwN r with
    | none => rw [eq] at h; cases h
    | some q => rw [eq] at h; cases h; simp [kwN_len eq]
  | ⟨none, _, _⟩ :: _, _, _, h => by cases h
theorem call_readsP (ok : G.Ok) {f n : Nat} {perm : List Nat} {S : FSpec} (hS : FMono S) {s1 : St} {σ : L2.St} {vs : List (Option V)} {H1 : Hp} {gl1 gk1 : List GS} {xs : List V} {ds : List D} {Q : VK} {E : XK} {P : St → Prop}
    (R1 : Rel G s1 σ (xs.reverse.map some ++ vs) H1 gl1 gk1) (hl : xs.length = n) (e1 : s1.args n = some ds) (e2 : (permL perm ds).length = n)
    (hP : ∀ s1 v H1 gl1 gk1, P s1 → Rel G s1 σ (some v :: vs) H1 gl1 gk1 → Q v H1) {Xs : D → Prop} (hX : ∀ x cls d H', (∃ gl gk, Rel G s1 σ (xs.reverse.map some ++ vs) H' gl gk) → ExR G.m H' x cls d → Xs x → E cls d H')
    (w : S (permL perm ds) (fun d fr => if d.imm = true then P ⟨s1.l, fsh d fr :: s1.k.drop n⟩ else P ⟨frz s1.l (s1.k.take n), fsh d fr :: s1.k.drop n⟩) Xs) : lift G.m n 0 S (permL perm xs) H1 Q E := by
  obtain ⟨gl', xs', R2, e4, rep⟩ := R1.gives ok e1
  obtain ⟨t1, t2⟩ := take_args (vs := vs) hl
  rw [t1] at e4
  have e5 := map_some_inj e4
  subst e5
  rw [t2] at R2
  have hcd : (⟨s1.l, s1.k.drop n⟩ : St).cr ≤ s1.cr := Nat.add_le_add_left (cred_drop _ _) _
  have hcf : (⟨DP.frz s1.l (s1.k.take n), s1.k.drop n⟩ : St).cr ≤ s1.cr := Nat.add_le_add (cred_frz _ _) (cred_drop _ _)
  refine ⟨Av G gl' (gk1.drop n), permL perm ds, _, ⟨fun a h => .inl (ok.ra a h), fun a h => ?_, R1.j⟩, reps_perm rep perm, e2, hS _ _ _ _ _ (fun d fr q v H' r => ?_) (fun x q cls dd H' k j ex => ?_) w⟩
  · rcases h with h | h
    · exact R1.ke.d a (ok.ah a h)
    · obtain ⟨u, hu, w⟩ := R2.there h
      exact ⟨u, hu, ow_nt w⟩
  · split at q
    · rename_i im
      obtain ⟨R3, av⟩ := R1.pops n
      rw [t2] at R3
      have hr := r.r
      cases fr with
      | true =>
        obtain ⟨p, _, _, ho⟩ := (show ∃ p, v = .ref p ∧ ¬ Nt H1 p ∧ OwAt G.m (fun a => _ ∨ a = p) H' d p from hr)
        cases d <;> first | exact ho.elim | (simp [D.imm] at im)
      | false =>
        have hr : Rep G.m _ H' d v := hr
        exact hP _ _ _ _ _ q ((R3.heap ok r.k (r.j.le (Nat.add_le_add_left hcd _))).push_sh (Rep.any _ _ im hr))
    · obtain ⟨gk', R4⟩ := Rel.push_ret ok R2 (fun _ z => z) ⟨r.k, r.j.le (Nat.add_le_add_left hcf _), r.r⟩
      exact hP _ _ _ _ _ q R4
  · exact hX x cls dd H' ⟨_, _, R1.heap ok k j⟩ ex q
theorem o_callk (g : Good G C M use N k X sc W) (hC : CMono C) {f n : Nat} {x : Str} {ps ks : List Str} {p : Pos} {kws : List Keyword} {es : List Expr} {perm : List Nat} (hf : (M.fn f) = some (x, ps)) (hu : f ∈ use) (hps : ps.length = n) (hg : glB sc x = true) (ho : okN x = true) (hn : nE ca = n)
    (hkw : (f, ks, perm) ∈ M.kw) (hk : kwN kws = some (ks, es)) (hkl : ks.length = n) (ha : PK X kws (tA G C W ca)) : PE X (.Call (.Name x p) [] kws pos) (tE G C W (.callk f n perm ca)) := by
  obtain ⟨fa, fd, F, hm, hkp, hb, _, hkt⟩ := g.fns f hu x ps hf
  rw [hps] at F
  obtain ⟨k1, k2, k3⟩ := kwN_each (env := X.env) (pos := pos) hk
  refine pe_conv (pe_callK0S F g.room (glB_ok g.sc hg) hm hkp (hkt _ hkw rfl) (fun σ => passAt g.tk σ) ha k1 k2 (okN_ok ho).1 (by rw [k3]; rfl)) fun σ H Q h => ?_
  obtain ⟨s, vs, gl, gk, P, Xd, R, hP, hX, w⟩ := h
  refine ⟨s, vs, gl, gk, _, Xd, R, fun s1 xs H1 gl1 gk1 hl p R1 => ?_, hX, w⟩
  obtain ⟨ds, e1, e2, e3, e0, q⟩ := p
  rw [hn] at hl
  refine ⟨by rw [hl, hkl], ?_⟩
  rw [e0]
  exact call_readsP g.ok (f := f) (hC f) R1 hl e1 e3 hP (fun x cls d H' ⟨gl, gk, R'⟩ ex q => hX x s1 _ H' gl gk cls d R' ex q) q
end
end DP

set_option Elab.async false
set_option linter.all false
set_option maxRecDepth 100000
set_option maxHeartbeats 1000000
/-! E10: slices, list methods, list(range(..)), names of the module. -/
namespace DP
open PySem PySem.Spec PyProof.Rows L2
section
variable {G : GC} {C : Ctx} {W : WX} {M : MD} {use : List Nat} {N : List Str} {k : Nat} {X : Cx} {sc : Scope}
variable {e a b c : Expr} {ca cb cc : E} {pos : Pos}
theorem o_fnv (g : Good G C M use N k X sc W) {f : Nat} {x : Str} {ps : List Str} (hf : (M.fn f) = some (x, ps)) (hg : glB sc x = true) (ho : okN x = true) : PE X (.Name x pos) (tE G C W (.fnv f)) := by
  obtain ⟨a, hm, hfa⟩ := g.fvs f x ps hf
  exact o_val (d := .fn f) (v := .ref a) (fun s P Xd h => h) (fun A H => ⟨a, rfl, hfa⟩) (pe_glob (glB_ok g.sc hg) hm rfl (okN_ok ho).1)
theorem o_clv (g : Good G C M use N k X sc W) {f : Nat} {x : Str} {o : Option Str} (hf : (M.cl f) = some (x, o)) (hg : glB sc x = true) (ho : okN x = true) : PE X (.Name x pos) (tE G C W (.clv f)) := by
  obtain ⟨a, hm, hfa⟩ := g.cvs f x o hf
  exact o_val (d := .cls f) (v := .ref a) (fun s P Xd h => h) (fun A H => ⟨a, rfl, hfa⟩) (pe_glob (glB_ok g.sc hg) hm rfl (okN_ok ho).1)
theorem o_cst (g : Good G C M use N k X sc W) {f : Nat} {x : Str} (hf : (M.ct f) = some x) (hg : glB sc x = true) (ho : okN x = true) : PE X (.Name x pos) (tE G C W (.cst f)) := by
  obtain ⟨u, v, hm, hr, hfa⟩ := g.cts f x hf
  exact o_val (d := C.cst f) (v := v) (fun s P Xd h => h) hfa (pe_glob (glB_ok g.sc hg) hm hr (okN_ok ho).1)
def tyOk (x : Str) (n : String) : Bool := match bootBuiltins x with
  | some (.type m) => m == n
  | _ => false
theorem o_tyv (g : Good G C M use N k X sc W) {x : Str} {n : String} (ht : tyOk x n = true) (hg : glB sc x = true) (hm : x ∈ M.free) (ho : okN x = true) : PE X (.Name x pos) (tE G C W (.tyv n)) := by
  have hb : bootBuiltins x = some (.type n) := by
    unfold tyOk at ht
    split at ht
    · rename_i m e
      rw [e, eq_of_beq ht]
    · cases ht
  refine o_val (d := .ty n) (v := .ty n) (fun s P Xd h => h) (fun A H => rfl) ⟨fun pins s σ H Q I h => ?_⟩
  exact ld_blt I (glB_ok g.sc hg) (g.free x hm) hb ⟨.ty n, H, I, (rfl : RelV (.ty n) (.type n)), h⟩ (okN_ok ho).2.2 (okN_ok ho).1
/-- a part of a slice -/
def tP (G : GC) (C : Ctx) (W : WX) (c : E) : TO := fun σ H Q => ∃ s vs gl gk K Xd, Rel G s σ vs H gl gk ∧ (∀ s1 i H1 gl1 gk1, K i s1 → Rel G s1 σ vs H1 gl1 gk1 → Q i H1) ∧ EQ G W σ Xd ∧ wprt (notNone c) (fun s Q => we C c s Q Xd) s K
theorem po_conv {X : Cx} {e : Option Expr} {t t' : TO} (h : PO X e t) (i : ∀ σ H Q, t' σ H Q → t σ H Q) : PO X e t' := ⟨fun pins s σ H Q I q => h.run pins s σ H Q I (i σ H Q q)⟩
theorem part_none : PO X none (tP G C W (.lit .non)) := by
  refine po_conv po_none fun σ H Q h => ?_
  obtain ⟨s, vs, gl, gk, K, Xd, R, hP, hX, w⟩ := h
  exact hP _ _ _ _ _ w R
theorem part_some {cl : E} (hn : notNone cl = true) (h : PE X e (tE G C W cl)) : PO X (some e) (tP G C W cl) := by
  refine po_conv (po_some h) fun σ H Q h => ?_
  obtain ⟨s, vs, gl, gk, K, Xd, R, hP, hX, w⟩ := h
  unfold wprt at w
  rw [if_pos hn] at w
  refine ⟨s, vs, gl, gk, _, Xd, R, fun s1 v H1 gl1 gk1 p R1 => ?_, hX, w⟩
  obtain ⟨x, s4, gk4, tx, ⟨i, e, q⟩, R4⟩ := R1.top1 p
  subst e
  have tx : v = .int i := tx
  exact ⟨i, tx, hP _ _ _ _ _ q R4⟩
theorem o_slc (g : Good G C M use N k X sc W) {lo hi : Option Expr} {cl ch : E} {p2 : Pos} (ha : PE X a (tE G C W ca)) (hl : PO X lo (tP G C W cl)) (hh : PO X hi (tP G C W ch)) :
    PE X (.Subscript a (.Slice lo hi none p2) pos) (tE G C W (.slc ca cl ch)) := by
  refine pe_conv (pe_slice (sl_ok (G := G.m) g.ok.m g.K) ha hl hh) fun σ H Q h => ?_
  obtain ⟨s, vs, gl, gk, P, Xd, R, hP, hX, w⟩ := h
  refine ⟨s, vs, gl, gk, _, Xd, R, fun s1 v H1 gl1 gk1 p R1 => ⟨s1, _, gl1, gk1, _, Xd, R1, fun s2 i H2 gl2 gk2 p2 R2 => ⟨s2, _, gl2, gk2, _, Xd, R2, fun s3 j H3 gl3 gk3 p3 R3 => ?_, hX, p2⟩, hX, p⟩, hX, w⟩
  obtain ⟨x, s4, gk4, tx, q, R4⟩ := R3.top1 p3
  refine ⟨_, x, tx, slcS_mono (fun d fr q v' H' r => ?_) q⟩
  obtain ⟨gk', R5⟩ := Rel.push_ret g.ok R4 (fun _ z => z) (r.ret R4.j)
  exact hP _ _ _ _ _ q R5

/-! ### lists of a local changed -/
theorem at_local {s : St} {σ : L2.St} {vs : List (Option V)} {H : Hp} {gl gk : List GS} {i : Nat} {ds : List D} (R : Rel G s σ vs H gl gk) (h : s.l[i]? = some (.ow (.lst ds))) :
    ∃ p xs, gl[i]? = some (.ow (.lst ds) p) ∧ σ[i]? = some (some (.ref p)) ∧ H p = some (.lst xs) ∧ Reps G.m (Av G gl gk) H ds xs := by
  obtain ⟨gg, hg, es⟩ := R.loc h
  have hv := R.locv hg
  have hr := R.lrep hg
  cases gg with
  | ow d p =>
    have e : d = .lst ds := by simpa [GS.slot] using es
    subst e
    obtain ⟨xs, h1, h2⟩ := (show ∃ xs, H p = some (.lst xs) ∧ _ from hr)
    exact ⟨p, xs, hg, hv, h1, h2⟩
  | _ => cases es
theorem pe_loc (g : Good G C M use N k X sc W) {i : Nat} {x : Str} (hi : N[i]? = some x) (hv : visB sc x = true) (ho : okN x = true) : PE X (.Name x pos) (tVar i) :=
  pe_var (i := i) (by rw [g.nm]; exact hi) (by rw [g.sc]; exact visB_ok hv) (okN_ok ho).1 (okN_ok ho).2.1
theorem o_append (g : Good G C M use N k X sc W) {i : Nat} {x : Str} {p ap : Pos} (hi : N[i]? = some x) (hv : visB sc x = true) (ho : okN x = true) (hl : (ap.endLine == pos.line) = true) (he : ordB a = true) (ha : PE X a (tE G C W ca)) :
    PE X (.Call (.Attribute (.Name x p) "append" ap) [a] [] pos) (tE G C W (.append i ca)) := by
  have pa := pa_cons ha pa_nil (star_ord he)
  refine pe_conv (pe_bm PySem.F.plainAttrs_list PySem.F.slot_list_append PySem.F.type_list_append mt_append (pe_loc g hi hv ho) pa rfl (by rw [star_ord he]; rfl) hl (star_ord he) rfl) fun σ H Q h => ?_
  obtain ⟨s, vs, gl, gk, P, Xd, R, hP, hX, ⟨ds0, h0⟩, w⟩ := h
  obtain ⟨q0, xs0, _, hσ, hq0, _⟩ := at_local R h0
  refine ⟨.ref q0, hσ, .inl ⟨rfl, _, SqL.of hq0⟩, s, vs, gl, gk, _, Xd, R, fun s1 v H1 gl1 gk1 w1 R1 => ?_, hX, w⟩
  unfold St.top at w1
  split at w1
  · rename_i x' k0 hk
    obtain ⟨d, hd, ds, hds, hlen, q⟩ := w1
    have hargs : s1.args 1 = some [d] := by
      unfold St.args
      rw [hk]
      simp [svs, hd]
    obtain ⟨gl2, xs2, R2, e2, rep⟩ := R1.gives g.ok hargs
    have exs : xs2 = [v] := (map_some_inj (ys := [v]) e2.symm)
    subst exs
    obtain ⟨p', acc, hg', hσ', hp', rs⟩ := at_local R2 hds
    rw [hσ] at hσ'
    cases hσ'
    have kA : Kp (Av G gl2 (gk1.drop 1)) H1 (upd H1 q0 (.lst (acc ++ [v]))) := Kp.mut hp' trivial (.inr (List.mem_append_left _ (mem_owns.mpr ⟨_, List.mem_of_getElem? hg'⟩)))
    obtain ⟨gl3, R3, _⟩ := R2.mut g.ok hg' (d' := .lst (ds ++ [d])) (o := .lst (acc ++ [v])) ⟨acc ++ [v], upd_same, (Reps.keep g.ok.m kA _ _ rs).app (Reps.keep g.ok.m kA _ _ rep)⟩
    have R4 := R3.push_sh (d := .non) (v := .non) rfl
    have ek : s1.k.drop 1 = (⟨s1.l, s1.k.tail⟩ : St).k := by rw [hk]; rfl
    rw [hk] at R4 q
    exact ⟨q0, acc, v, rfl, rfl, hp', by rw [← Reps.len rs]; exact hlen, hP _ _ _ _ _ q R4⟩
  · exact w1.elim
theorem o_pop (g : Good G C M use N k X sc W) {i : Nat} {x : Str} {p ap : Pos} (hi : N[i]? = some x) (hv : visB sc x = true) (ho : okN x = true) (hl : (ap.endLine == pos.line) = true) :
    PE X (.Call (.Attribute (.Name x p) "pop" ap) [] [] pos) (tE G C W (.pop i)) := by
  refine pe_conv (pe_bm0 PySem.F.plainAttrs_list PySem.F.slot_list_pop PySem.F.type_list_pop mt_pop (pe_loc g hi hv ho) rfl hl) fun σ H Q h => ?_
  obtain ⟨s, vs, gl, gk, P, Xd, R, hP, hX, ds, d, h0, hd, q⟩ := h
  obtain ⟨q0, xs0, hg, hσ, hq0, rs⟩ := at_local R h0
  have hl := Reps.len rs
  rw [List.getLast?_eq_getElem?] at hd
  obtain ⟨y, hy, ry⟩ := Reps.get rs hd
  have kA : Kp (Av G gl gk) H (upd H q0 (.lst xs0.dropLast)) := Kp.mut hq0 trivial (.inr (List.mem_append_left _ (mem_owns.mpr ⟨_, List.mem_of_getElem? hg⟩)))
  obtain ⟨gl3, R3, av⟩ := R.mut g.ok hg (d' := .lst ds.dropLast) (o := .lst xs0.dropLast) ⟨_, upd_same, by
    have := Reps.take (ds.length - 1) (Reps.keep g.ok.m kA _ _ rs)
    rw [← List.dropLast_eq_take, hl, ← List.dropLast_eq_take] at this
    exact this⟩
  refine ⟨.ref q0, hσ, .inl ⟨rfl, _, SqL.of hq0⟩, q0, xs0, y, rfl, rfl, hq0, by rw [← hl]; exact hy, hP _ _ _ _ _ q (R3.push_sh (Rep.sub (fun a z => .inl ((av a).mp z)) _ _ (Rep.keep g.ok.m kA _ _ ry)))⟩
theorem o_popAt (g : Good G C M use N k X sc W) {i : Nat} {x : Str} {p ap : Pos} (hi : N[i]? = some x) (hv : visB sc x = true) (ho : okN x = true) (hl : (ap.endLine == pos.line) = true) (he : ordB a = true) (ha : PE X a (tE G C W ca)) :
    PE X (.Call (.Attribute (.Name x p) "pop" ap) [a] [] pos) (tE G C W (.popAt i ca)) := by
  have pa := pa_cons ha pa_nil (star_ord he)
  refine pe_conv (pe_bm PySem.F.plainAttrs_list PySem.F.slot_list_pop PySem.F.type_list_pop mt_popAt (pe_loc g hi hv ho) pa rfl (by rw [star_ord he]; rfl) hl (star_ord he) rfl) fun σ H Q h => ?_
  obtain ⟨s, vs, gl, gk, P, Xd, R, hP, hX, ⟨ds0, h0⟩, w⟩ := h
  obtain ⟨q0, xs0, _, hσ, hq0, _⟩ := at_local R h0
  refine ⟨.ref q0, hσ, .inl ⟨rfl, _, SqL.of hq0⟩, s, vs, gl, gk, _, Xd, R, fun s1 v H1 gl1 gk1 w1 R1 => ?_, hX, w⟩
  obtain ⟨y, v', vr, gk4, ev, ⟨j, m, ds, d, ej, hds, h1, h2, hix, hd, q⟩, ty, R4, a4⟩ := R1.top w1
  cases ev
  subst ej
  have ty : v = .int j := ty
  subst ty
  obtain ⟨p', acc, hg', hσ', hp', rs⟩ := at_local R4 (show s1.l[i]? = some (.ow (.lst ds)) from hds)
  rw [hσ] at hσ'
  cases hσ'
  obtain ⟨y, hy, ry⟩ := Reps.get rs hd
  have hlen := Reps.len rs
  obtain ⟨x1, x2, x3, x4⟩ := ixN_seq hix
  have kA : Kp (Av G gl1 gk4) H1 (upd H1 q0 (.lst (acc.eraseIdx m))) := Kp.mut hp' trivial (.inr (List.mem_append_left _ (mem_owns.mpr ⟨_, List.mem_of_getElem? hg'⟩)))
  obtain ⟨gl3, R3, av⟩ := R4.mut g.ok hg' (d' := .lst (ds.eraseIdx m)) (o := .lst (acc.eraseIdx m)) ⟨_, upd_same, by
    have rk := Reps.keep g.ok.m kA _ _ rs
    have rz := (Reps.take m rk).app (Reps.drop (m + 1) rk)
    rw [← List.eraseIdx_eq_take_drop_succ, ← List.eraseIdx_eq_take_drop_succ] at rz
    exact rz⟩
  have R5 := R3.push_sh (Rep.sub (fun a z => .inl ((av a).mp z)) _ _ (Rep.keep g.ok.m kA _ _ ry))
  exact ⟨q0, acc, j, m, y, rfl, rfl, hp', by omega, by omega, by rw [← hlen]; exact x1, hy, hP _ _ _ _ _ q R5⟩
theorem o_extend (g : Good G C M use N k X sc W) {i : Nat} {x : Str} {p ap : Pos} (hi : N[i]? = some x) (hv : visB sc x = true) (ho : okN x = true) (hl : (ap.endLine == pos.line) = true) (he : ordB a = true) (ha : PE X a (tE G C W ca)) :
    PE X (.Call (.Attribute (.Name x p) "extend" ap) [a] [] pos) (tE G C W (.extend i ca)) := by
  have pa := pa_cons ha pa_nil (star_ord he)
  refine pe_conv (pe_bm PySem.F.plainAttrs_list PySem.F.slot_list_extend PySem.F.type_list_extend mt_extend (pe_loc g hi hv ho) pa rfl (by rw [star_ord he]; rfl) hl (star_ord he) rfl) fun σ H Q h => ?_
  obtain ⟨s, vs, gl, gk, P, Xd, R, hP, hX, ⟨ds0, h0⟩, w⟩ := h
  obtain ⟨q0, xs0, _, hσ, hq0, _⟩ := at_local R h0
  refine ⟨.ref q0, hσ, .inl ⟨rfl, _, SqL.of hq0⟩, s, vs, gl, gk, _, Xd, R, fun s1 v H1 gl1 gk1 w1 R1 => ?_, hX, w⟩
  obtain ⟨y, v', vr, gk4, ev, ⟨ds, es, ed, hds, hlen, hbr, q⟩, ty, R4, a4⟩ := R1.top w1
  cases ev
  subst ed
  obtain ⟨b, ys, rfl, hb, ry⟩ := (show ∃ b ys, v = .ref b ∧ H1 b = some (.lst ys) ∧ Reps G.m (Av G gl1 gk4) H1 es ys from Top.sub (fun a z => .inl (a4 a z)) ty)
  obtain ⟨p', acc, hg', hσ', hp', rs⟩ := at_local R4 (show s1.l[i]? = some (.ow (.lst ds)) from hds)
  rw [hσ] at hσ'
  cases hσ'
  have kA : Kp (Av G gl1 gk4) H1 (upd H1 q0 (.lst (acc ++ ys))) := Kp.mut hp' trivial (.inr (List.mem_append_left _ (mem_owns.mpr ⟨_, List.mem_of_getElem? hg'⟩)))
  obtain ⟨gl3, R3, av⟩ := R4.mut g.ok hg' (d' := .lst (ds ++ es)) (o := .lst (acc ++ ys)) ⟨_, upd_same, (Reps.keep g.ok.m kA _ _ rs).app (Reps.keep g.ok.m kA _ _ ry)⟩
  have R5 := R3.push_sh (d := .non) (v := .non) rfl
  exact ⟨q0, b, acc, ys, rfl, rfl, hp', hb, by rw [← Reps.len rs, ← Reps.len ry]; exact hlen, hP _ _ _ _ _ q R5⟩

/-! ### isinstance -/
theorem isi_ty {m : MG} {A : Addr → Prop} {H : Hp} {x : D} {v : V} {n : String} {b : Bool} (t : Top m A H x v) (h : isiB C x (.ty n) = some b) : ∃ ty, TyX m.K H v ty ∧ PySem.W.kitOne m.K ty (.type n) = some b := by
  cases e : tyIs x with
  | none => rw [isiB_ty, e] at h; cases h
  | some q => exact ⟨_, ty_of t e, kit_tys C e h⟩
theorem isi_tys {K : PySem.W.Frag} {x : D} {m : String} (e : tyIs x = some m) : ∀ {ns : List String} {b : Bool}, isiBs C x (ns.map .ty) = some b → PySem.W.kitAny K (.type m) (ns.map .type) = some b
  | [], b, h => h
  | n :: ns, b, h => by
    have h : (isiB C x (.ty n)).bind (fun b => if b then some true else isiBs C x (ns.map .ty)) = some b := h
    cases hb : isiB C x (.ty n) with
    | none => rw [hb] at h; cases h
    | some c =>
      rw [hb] at h
      have hk := kit_tys C (K := K) e hb
      show (match PySem.W.kitOne K (.type m) (.type n) with | some true => some true | some false => PySem.W.kitAny K (.type m) (ns.map .type) | none => none) = some b
      rw [hk]
      cases c with
      | true => exact h
      | false => exact isi_tys e h
/-- a caught error's kind, or any other's -/
def KindD (K : PySem.W.Frag) (H : Hp) (x : V) (t : Value) : Prop := TyX K H x t ∨ ∃ a D, x = .ref a ∧ t = .ref D ∧ H a = some (ExT (.ref D) none a) ∧ ExcC K D
def rIsiD (K : PySem.W.Frag) : List V → Hp → VK → Prop := fun xs H Q => ∃ x c t u b, xs = [x, c] ∧ ClsV c u ∧ KindD K H x t ∧ PySem.W.kitOne K t u = some b ∧ Q (.bl b) H
theorem call_isiD : CallR X (.builtin "isinstance") (rIsiD X.K) := by
  intro pins s σ H xs us Q I r h
  obtain ⟨x, c, t, u, b, rfl, k, ty | ⟨a, D, rfl, rfl, ha, ec⟩, e, q⟩ := h
  · exact call_isi pins s σ H _ us Q I r ⟨x, c, t, u, b, rfl, k, ty, e, q⟩
  · obtain ⟨u1, u2, rfl, r1, r2⟩ := vals2 r
    obtain rfl : u1 = Value.ref a := r1
    have e2 := k.eq r2
    subst e2
    obtain ⟨⟨oe, vs, ho, hz, hd⟩, _⟩ := I.hok a _ ha
    have inst : PySem.W.InstAt s.heap a oe D none := by
      cases oe
      obtain ⟨z1, z2⟩ := hz
      simp only at z1 z2 hd
      cases z1
      cases z2
      cases hd
      exact ⟨ho, rfl, rfl, trivial⟩
    refine PySem.W.kia_one (PySem.W.handS_kitx_exc ec.hg ec.hk ec.hs ec.hd ec.ha ec.hn ec.ht ec.hm) I.kIn inst e (fun z => nomatch z) fun tk => ?_
    exact ⟨.bl b, H, I.tok tk, rfl, q⟩
theorem o_isi (g : Good G C M use N k X sc W) {x : Str} {p : Pos} (hx : x = "isinstance") (hg : glB sc x = true) (hm : x ∈ M.free) (hea : ordB a = true) (heb : ordB b = true) (ha : PE X a (tE G C W ca)) (hb : PE X b (tE G C W cb)) :
    PE X (.Call (.Name x p) [a, b] [] pos) (tE G C W (.isi ca cb)) := by
  subst hx
  refine pe_conv (pe_callB call_isiD (glB_ok g.sc hg) (g.free _ hm) (by decide +kernel) (pa_cons ha (pa_cons hb pa_nil (star_ord heb)) (star_ord hea)) (by decide) (by decide) (star_ord hea) (star_all (by simp [heb]) _)) fun σ H Q h => ?_
  obtain ⟨s, vs, gl, gk, P, Xd, R, hP, hX, w⟩ := h
  refine ⟨s, vs, gl, gk, _, Xd, R, fun s1 v H1 gl1 gk1 p R1 => ⟨s1, _, gl1, gk1, _, Xd, R1, fun s2 u H2 gl2 gk2 p2 R2 => ?_, hX, p⟩, hX, w⟩
  obtain ⟨x, y, s4, gk4, tx, ty, ⟨r, hr, q⟩, R4⟩ := R2.top2 p2
  have q := hP _ _ _ _ _ q (R4.push_sh (d := .bl r) (v := .bl r) rfl)
  cases y with
  | ty n =>
    have hr : isiB C x (.ty n) = some r := hr
    obtain ⟨t, h1, h2⟩ := isi_ty tx hr
    have ty : u = .ty n := ty
    subst ty
    exact ⟨v, .ty n, t, .type n, r, rfl, .ty n, .inl (g.K ▸ h1), g.K ▸ h2, q⟩
  | cls c =>
    obtain ⟨E, rfl, hE⟩ := (show ∃ a, u = .ref a ∧ G.m.ca c = some a from ty)
    cases x with
    | non =>
      have hr : some false = some r := hr
      cases hr
      have tx : v = .non := tx
      subst tx
      refine ⟨.non, .ref E, .type "NoneType", .ref E, false, rfl, .own E, .inl (.base .non), ?_, q⟩
      rw [g.K]; exact g.cls.non c E hE
    | exc c2 fs =>
      have hr : some (C.sub c2 c) = some r := hr
      cases hr
      obtain ⟨a2, rfl, hex⟩ := (show ∃ a, v = .ref a ∧ G.m.ex H2 a c2 fs from tx)
      obtain ⟨D2, hD, ht, hec⟩ := g.cls.ext H2 a2 c2 fs hex
      refine ⟨.ref a2, .ref E, .ref D2, .ref E, _, rfl, .own E, .inr ⟨a2, D2, rfl, rfl, ht, g.K ▸ hec⟩, ?_, q⟩
      rw [g.K]; exact g.cls.sub c2 c D2 E hD hE
    | _ => cases hr
  | _ => cases x <;> cases hr
def tysOk (M : MD) (sc : Scope) : List String → List Expr → Bool
  | [], [] => true
  | n :: ns, .Name x _ :: es => tyOk x n && glB sc x && M.free.contains x && okN x && tysOk M sc ns es
  | _, _ => false
theorem pa_tys (g : Good G C M use N k X sc W) : ∀ {ns : List String} {es : List Expr}, tysOk M sc ns es = true → PA X es (fun σ H Q => Q (ns.map V.ty) H)
  | [], [], _ => pa_conv pa_nil fun σ H Q h => h
  | n :: ns, e :: es, h => by
    cases e with
    | Name x p =>
      simp only [tysOk, Bool.and_eq_true, List.contains_iff_mem] at h
      obtain ⟨⟨⟨⟨h1, h2⟩, h3⟩, h4⟩, h5⟩ := h
      have hb : bootBuiltins x = some (.type n) := by
        unfold tyOk at h1
        split at h1
        · rename_i m e
          rw [e, eq_of_beq h1]
        · cases h1
      have p1 : PE X (.Name x p) (tC (.ty n)) := ⟨fun pins s σ H Q I h => ld_blt I (glB_ok g.sc h2) (g.free x h3) hb ⟨.ty n, H, I, (rfl : RelV (.ty n) (.type n)), h⟩ (okN_ok h4).2.2 (okN_ok h4).1⟩
      exact pa_conv (pa_cons p1 (pa_tys g h5) rfl) fun σ H Q h => h
    | _ => simp [tysOk] at h
  | [], _ :: _, h => by simp [tysOk] at h
  | _ :: _, [], h => by simp [tysOk] at h
theorem Top.new {m : MG} (ok : m.Ok) {A : Addr → Prop} {H : Hp} {p : Addr} {o : HO} (hp : H p = none) {d : D} {v : V} (h : Top m A H d v) : Top m A (upd H p o) d v := by
  have k : Kp A H (upd H p o) := Kp.new hp
  cases d with
  | lst ds => obtain ⟨a, xs, e, s, r⟩ := h; exact ⟨a, xs, e, by rw [upd_ne (ne_of_none s hp)]; exact s, Reps.keep ok k _ _ r⟩
  | dct tk kvs =>
    obtain ⟨a, e, r⟩ := h
    refine ⟨a, e, ?_⟩
    rcases r with ⟨kk, s, e1, r⟩ | ⟨kk, s, e1, r⟩
    · exact .inl ⟨kk, Rd.keep (A := fun _ => False) (Kp.new hp) s id (fun _ z => by cases z), e1, Repk.keep ok k _ _ r⟩
    · exact .inr ⟨kk, by rw [upd_ne (ne_of_none s hp)]; exact s, e1, Repk.keep ok k _ _ r⟩
  | rng lo hi =>
    obtain ⟨a, e, r⟩ := h
    exact ⟨a, e, Rd.keep (A := fun _ => False) (Kp.new hp) r id (fun _ z => by cases z)⟩
  | _ => exact Rep.keep ok k _ _ h
theorem paired_tys : ∀ ns : List String, Paired ClsV (ns.map V.ty) (ns.map Value.type)
  | [] => .nil
  | n :: ns => .cons (.ty n) (paired_tys ns)
theorem o_isiT (g : Good G C M use N k X sc W) {x : Str} {p tp : Pos} {es : List Expr} {kk : Nat} {ns : List String} (hx : x = "isinstance") (hg : glB sc x = true) (hm : x ∈ M.free) (hea : ordB a = true) (ha : PE X a (tE G C W ca)) (hns : ns ≠ []) (hlen : ns.length ≤ 100) (ht : tysOk M sc ns es = true) :
    PE X (.Call (.Name x p) [a, .Tuple es kk tp] [] pos) (tE G C W (.isiT ca ns)) := by
  subst hx
  refine pe_conv (pe_callB call_isiT (glB_ok g.sc hg) (g.free _ hm) (by decide +kernel) (pa_cons ha (pa_cons (pe_tup (pa_tys g ht)) pa_nil rfl) (star_ord hea)) (by decide) (by decide) (star_ord hea) (star_all (by rfl) _)) fun σ H Q h => ?_
  obtain ⟨s, vs, gl, gk, P, Xd, R, hP, hX, w⟩ := h
  refine ⟨s, vs, gl, gk, _, Xd, R, fun s1 v H1 gl1 gk1 p R1 => ?_, hX, w⟩
  obtain ⟨x, s4, gk4, tx, ⟨r, hr, q⟩, R4⟩ := R1.top1 p
  refine ⟨by rw [List.length_map]; exact Nat.le_trans hlen (by rw [sizeLine_eq]; omega), fun tp htp => ?_⟩
  have hm : ∃ m, tyIs x = some m := by
    cases ns with
    | nil => exact absurd rfl hns
    | cons n ns =>
      have hr : (isiB C x (.ty n)).bind (fun b => if b then some true else isiBs C x (ns.map .ty)) = some r := hr
      cases e : tyIs x with
      | none => rw [isiB_ty, e] at hr; cases hr
      | some m => exact ⟨m, rfl⟩
  obtain ⟨m, hm⟩ := hm
  have R5 := (R4.new g.ok (o := .tup (ns.map V.ty)) htp).1
  have tx2 : Top G.m (Av G gl1 gk4) (upd H1 tp (.tup (ns.map V.ty))) x v := Top.new g.ok.m htp tx
  refine ⟨v, tp, ns.map V.ty, .type m, ns.map Value.type, r, rfl, upd_same, paired_tys ns, g.K ▸ ty_of tx2 hm, isi_tys hm hr, hP _ _ _ _ _ q (R5.push_sh (d := .bl r) (v := .bl r) rfl)⟩

/-! ### list(range(..)), tuple(range(..)) -/
theorem reps_rg {m : MG} {A : Addr → Prop} {H : Hp} (a b : Int) : Reps m A H (rngD a b) (rgV a b) := by
  unfold rngD rgV
  generalize List.range (b - a).toNat = l
  induction l with
  | nil => rfl
  | cons x l ih => exact ⟨_, _, rfl, rfl, ih⟩
theorem rgl_fin (g : Good G C M use N k X sc W) {t : Bool} {m n : Int} {s4 : St} {σ : L2.St} {vs : List (Option V)} {H : Hp} {gl gk : List GS} {P : St → Prop} {Q : VK} (hP : ∀ s1 v H1 gl1 gk1, P s1 → Rel G s1 σ (some v :: vs) H1 gl1 gk1 → Q v H1)
    (R : Rel G s4 σ vs H gl gk) (q : rglS t m n fun d fr => P (s4.push (fsh d fr))) : RgOk m n ∧ ∀ p, H p = none → Q (.ref p) (upd H p (if t then .tup (rgV m n) else .lst (rgV m n))) := by
  obtain ⟨h1, h2, h3, q⟩ := q
  refine ⟨⟨h1.1, h1.2, h2.1, h2.2, h3⟩, fun p hp => ?_⟩
  cases t with
  | true =>
    have q : P (s4.push (fsh (.tup (rngD m n)) false)) := q
    obtain ⟨gk', R3⟩ := Rel.push_ret g.ok R (fun _ z => z) ((Res.new g.ok.m hp (Rep.newTup g.ok.m hp (reps_rg m n))).ret R.j)
    exact hP _ _ _ _ _ q R3
  | false =>
    have q : P (s4.push (fsh (.lst (rngD m n)) true)) := q
    obtain ⟨gk', R3⟩ := Rel.push_ret g.ok R (fun _ z => z) ((Res.newO g.ok.m hp (OwAt.newLst g.ok.m hp (reps_rg m n))).ret R.j)
    exact hP _ _ _ _ _ q R3
def rgN (t : Bool) : Str := if t then "tuple" else "list"
theorem o_rgl {te : L2.St → Hp → (Int → Int → Hp → Prop) → Prop} (g : Good G C M use N k X sc W) {t : Bool} {x : Str} {p : Pos} {e : Expr} (hx : x = rgN t) (hg : glB sc x = true) (hm : x ∈ M.free) (he : ordB e = true) (h : PRg X e te) :
    PE X (.Call (.Name x p) [e] [] pos) (fun σ H Q => te σ H fun a b H1 => RgOk a b ∧ ∀ q, H1 q = none → Q (.ref q) (upd H1 q (if t then .tup (rgV a b) else .lst (rgV a b)))) := by
  subst hx
  cases t with
  | true => exact pe_tupRg g.calm (glB_ok g.sc hg) (g.free _ hm) h (star_ord he)
  | false => exact pe_listRg g.calm (glB_ok g.sc hg) (g.free _ hm) h (star_ord he)
theorem o_rgl1 (g : Good G C M use N k X sc W) {t : Bool} {x y : Str} {p p2 pos2 : Pos} (hx : x = rgN t) (hg : glB sc x = true) (hm : x ∈ M.free) (hy : y = "range") (hgy : glB sc y = true) (hmy : y ∈ M.free) (hea : ordB a = true) (ha : PE X a (tE G C W ca)) :
    PE X (.Call (.Name x p) [.Call (.Name y p2) [a] [] pos2] [] pos) (tE G C W (.rgl1 t ca)) := by
  subst hy
  refine pe_conv (o_rgl g hx hg hm rfl (prg_1 (glB_ok g.sc hgy) (g.free _ hmy) ha (star_ord hea))) fun σ H Q h => ?_
  obtain ⟨s, vs, gl, gk, P, Xd, R, hP, hX, w⟩ := h
  refine ⟨s, vs, gl, gk, _, Xd, R, fun s1 v H1 gl1 gk1 p R1 => ?_, hX, w⟩
  obtain ⟨x, s4, gk4, tx, ⟨n, e, q⟩, R4⟩ := R1.top1 p
  subst e
  have tx : v = .int n := tx
  exact ⟨n, tx, rgl_fin g hP R4 q⟩
theorem o_rgl2 (g : Good G C M use N k X sc W) {t : Bool} {x y : Str} {p p2 pos2 : Pos} (hx : x = rgN t) (hg : glB sc x = true) (hm : x ∈ M.free) (hy : y = "range") (hgy : glB sc y = true) (hmy : y ∈ M.free) (hea : ordB a = true) (heb : ordB b = true) (ha : PE X a (tE G C W ca)) (hb : PE X b (tE G C W cb)) :
    PE X (.Call (.Name x p) [.Call (.Name y p2) [a, b] [] pos2] [] pos) (tE G C W (.rgl2 t ca cb)) := by
  subst hy
  refine pe_conv (o_rgl g hx hg hm rfl (prg_2 (glB_ok g.sc hgy) (g.free _ hmy) ha hb (star_ord hea) (star_ord heb) (star_all (by simp [heb]) _))) fun σ H Q h => ?_
  obtain ⟨s, vs, gl, gk, P, Xd, R, hP, hX, w⟩ := h
  refine ⟨s, vs, gl, gk, _, Xd, R, fun s1 v H1 gl1 gk1 p R1 => ⟨s1, _, gl1, gk1, _, Xd, R1, fun s2 u H2 gl2 gk2 p2 R2 => ?_, hX, p⟩, hX, w⟩
  obtain ⟨x, y, s4, gk4, tx, ty, ⟨m, n, e1, e2, q⟩, R4⟩ := R2.top2 p2
  subst e1 e2
  have tx : v = .int m := tx
  have ty : u = .int n := ty
  exact ⟨m, n, tx, ty, rgl_fin g hP R4 q⟩
end
end DP

set_option Elab.async false
set_option linter.all false
set_option maxRecDepth 100000
set_option maxHeartbeats 1000000
/-! E10s: sorted by a key; a lambda's error caught. -/
namespace DP
open PySem PySem.Spec PyProof.Rows L2
open PySem.W (EachIs)
theorem ints_vals : ∀ {b : List Int} {its : List Value}, Vals (b.map V.int) its → IntsAre its b
  | [], _, h => by cases h; exact .nil
  | _ :: _, _, h => by
    cases h with
    | cons r1 r2 =>
      obtain ⟨t, e⟩ := r1
      subst e
      exact .cons _ t (ints_vals r2)
theorem ints_of_reps {m : MG} {A : Addr → Prop} {H : Hp} : ∀ {b : List Int} {xs : List V}, Reps m A H (b.map D.int) xs → xs = b.map V.int
  | [], _, h => h
  | _ :: _, _, h => by
    obtain ⟨v, r, rfl, h1, h2⟩ := h
    obtain rfl := (show v = V.int _ from h1)
    rw [ints_of_reps h2]
    rfl
/-- an item of the list that is sorted -/
def LotV (K : PySem.W.Frag) (H : Hp) (v : Value) (b : List Int) : Prop := ∃ a, v = .ref a ∧ SqT K H a (b.map V.int) ∧ b.length ≤ 1000
theorem lots_in {m : MG} {A : Addr → Prop} {H : Hp} : ∀ {bs : List (List Int)} {xs : List V} {vs : List Value}, Reps m A H (bs.map tupI) xs → Vals xs vs → (∀ b ∈ bs, b.length ≤ 1000) → EachIs (LotV m.K H) vs bs
  | [], xs, vs, h, r, _ => by
    have h : xs = [] := h
    subst h
    cases r
    exact .nil
  | b :: bs, xs, vs, h, r, hl => by
    obtain ⟨v, q, rfl, h1, h2⟩ := h
    obtain ⟨a, ys, rfl, s, hy⟩ := (show ∃ a xs, v = .ref a ∧ SqT m.K H a xs ∧ Reps m A H (b.map D.int) xs from h1)
    cases r with
    | cons r1 r2 =>
      cases r1
      rw [ints_of_reps hy] at s
      exact .cons ⟨a, rfl, s, hl b List.mem_cons_self⟩ (lots_in h2 r2 fun b hb => hl b (List.mem_cons_of_mem _ hb))
theorem lots_out {m : MG} {A : Addr → Prop} {H : Hp} : ∀ {bs : List (List Int)} {vs : List Value}, EachIs (LotV m.K H) vs bs → ∃ xs, Reps m A H (bs.map tupI) xs ∧ Vals xs vs
  | [], _, h => by cases h; exact ⟨[], rfl, .nil⟩
  | b :: bs, _, h => by
    cases h with
    | cons h r =>
      obtain ⟨a, rfl, s, _⟩ := h
      obtain ⟨xs, h1, h2⟩ := lots_out (m := m) (A := A) r
      exact ⟨.ref a :: xs, ⟨_, _, rfl, ⟨a, _, rfl, s, reps_ints b⟩, h1⟩, .cons rfl h2⟩
theorem depth_ints : ∀ b : List Int, PyData.depthAll (b.map PyData.int) = 0
  | [] => by simp [PyData.depthAll]
  | i :: b => by
    have := depth_ints b
    simp [PyData.depthAll, PyData.depth, this]
section
variable {X : Cx} {pins : List (Addr × Obj)} {σ : L2.St} {H : Hp} {s : Shared}
theorem srt_run {Q : VK} {l : Addr} {xs : List V} {bs : List (List Int)} {f : Addr} {ok : Shared → Hp → Prop} {A : Addr → Prop} {m : MG} (mo : m.Ok) (hK : m.K = X.K) (I : Inv X pins σ H s) (hr : Room 3 X.A) (hl : H l = some (.lst xs)) (hx : Reps m A H (bs.map tupI) xs)
    (hn : bs.length ≤ 1000000) (hb : ∀ b ∈ bs, b.length ≤ 1000) (T : SizeTurn X.prog X.w X.K X.mg X.base ok (.ref f)) (hok : ∀ h tk, (∀ b o, s.heap.get? b = some o → h.get? b = some o) → ok { s with heap := h, toks := tk } H)
    (q : ∀ (ys : List V) (p : Addr), H p = none → Reps m A H ((sortK bs).map tupI) ys → Q (.ref p) (upd H p (.lst ys))) :
    wpAny (model X.prog X.w) X.A (call (.builtin "sorted") [.ref l] [(Str.ofString "key", .ref f)]) (EP X pins σ Q) X.xe s := by
  obtain ⟨its, rv, hl', hz⟩ := I.list (SqL.of hl)
  have e : EachIs (LotV X.K H) its bs := hK ▸ lots_in hx rv hb
  have un := hr.un
  refine PySem.W.sorted_key_data (b := false) (R := LotV X.K H) sizeK hl'.isList e (PySem.W.AllAlike.of fun a b => ?_) (PySem.W.Sortable.tuples fun b => ⟨_, _, rfl⟩) (by rw [sizeLine_eq]; omega) (fun b _ => ?_) (PyProof.Rows.ksk_s1 _ _) (fun _ => PyProof.Rows.ksk_l1 _ _) (fun _ => PyProof.Rows.ksk_t1 _ _)
    (fun v b hv hm h tk kp => ?_) fun out c h' tk kp fresh ho hlen eo => ?_
  · simp [sizeK, PySem.W.alike, PySem.W.alikeAll, PySem.W.alike_ints]
  · have : (sizeK b).depth = 2 := by simp [sizeK, PyData.depth, PyData.depthAll, depth_ints]
    omega
  · obtain ⟨a, rfl, st, hb1⟩ := hv
    obtain ⟨its2, rv2, it2, _⟩ := I.tuple st
    have I2 : Inv X pins σ H { s with heap := h, toks := tk } := I.kept kp
    refine T _ _ _ H a its2 b ?_ I2.env0.in1.in1 (hok h tk kp) ?_ (ints_vals rv2) hb1
    · exact (hr.in1).in1
    · obtain ⟨o, h1, h2⟩ := (show IsTup s.heap a its2.toArray from it2)
      exact ⟨o, kp _ _ h1, h2⟩
  · have eo' : EachIs (LotV m.K H) out (sortK bs) := hK ▸ eo
    obtain ⟨ys, h1, h2⟩ := lots_out (A := A) eo'
    have hz2 : ys.length ≤ sizeLine := by rw [h2.length, hlen, sizeLine_eq]; omega
    exact ⟨.ref _, upd H (s.heap.objs.size + 1) (.lst ys), I.laid (t' := tk) kp (Nat.le_succ _) ⟨hz2, out, c, h2, ho⟩, rfl, q ys _ (I.hok.fresh (Nat.le_succ _)) h1⟩
end
section
variable {G : GC} {C : Ctx} {W : WX} {M : MD} {use : List Nat} {N : List Str} {k : Nat} {X : Cx} {sc : Scope}
variable {e a b c : Expr} {ca cb cc : E} {pos : Pos}
theorem tE_mono {σ : L2.St} {H : Hp} {Q Q' : VK} (h : tE G C W ca σ H Q) (hq : ∀ v H1, Q v H1 → Q' v H1) : tE G C W ca σ H Q' := by
  obtain ⟨s, vs, gl, gk, P, Xd, R, hP, hX, w⟩ := h
  exact ⟨s, vs, gl, gk, P, Xd, R, fun s1 v H1 gl1 gk1 p R1 => hq _ _ (hP s1 v H1 gl1 gk1 p R1), hX, w⟩
theorem lots_keep {m : MG} {A : Addr → Prop} {H H' : Hp} (e : LamX.ExtN H H') : ∀ {bs : List (List Int)} {xs : List V}, Reps m A H (bs.map tupI) xs → Reps m A H' (bs.map tupI) xs
  | [], _, h => h
  | b :: bs, _, h => by
    obtain ⟨v, r, rfl, h1, h2⟩ := h
    obtain ⟨a, ys, rfl, s, hy⟩ := (show ∃ a xs, v = .ref a ∧ SqT m.K H a xs ∧ Reps m A H (b.map D.int) xs from h1)
    rw [ints_of_reps hy] at s
    exact ⟨_, _, rfl, ⟨a, _, rfl, SqT.keep (A := fun _ => False) (kp_extN e) s, reps_ints b⟩, lots_keep e h2⟩
/-- what is sorted, what follows -/
def SrtP (m : MG) (Q : VK) (v : V) (H1 : Hp) : Prop := ∃ l xs bs A, v = .ref l ∧ H1 l = some (.lst xs) ∧ Reps m A H1 (bs.map tupI) xs ∧ bs.length ≤ 1000000 ∧ (∀ b ∈ bs, b.length ≤ 1000) ∧
  LamX.Tabs m.T H1 ∧ ∀ H2, (H2 = H1 ∨ (LamX.ExtN H1 H2 ∧ LamX.Tabs m.T H2)) → ∀ ys p, H2 p = none → Reps m A H2 ((sortK bs).map tupI) ys → Q (.ref p) (upd H2 p (.lst ys))
theorem srt_conv (g : Good G C M use N k X sc W) {w : Option Nat} {σ : L2.St} {H : Hp} {Q : VK} (h : tE G C W (.srt w ca) σ H Q) : tE G C W ca σ H (SrtP G.m Q) := by
  obtain ⟨s, vs, gl, gk, P, Xd, R, hP, hX, w⟩ := h
  refine ⟨s, vs, gl, gk, _, Xd, R, fun s1 v H1 gl1 gk1 p R1 => ?_, hX, w⟩
  obtain ⟨d, s2, gk2, td, ⟨bs, rfl, h1, h2, q⟩, R2⟩ := R1.top1 p
  obtain ⟨l, xs, rfl, hl, rs⟩ := (show ∃ l xs, v = .ref l ∧ H1 l = some (.lst xs) ∧ Reps G.m (Av G gl1 gk2) H1 (bs.map tupI) xs from td)
  refine ⟨l, xs, bs, _, rfl, hl, rs, h1, h2, g.ok.m.jt' R2.j, fun H2 hH ys p hp hy => ?_⟩
  have R3 : Rel G s2 σ vs H2 gl1 gk2 := by
    rcases hH with rfl | ⟨en, tb⟩
    · exact R2
    · exact R2.heap g.ok (kp_extN en) (g.ok.m.jx' R2.j en tb)
  exact hP _ _ _ _ _ q (R3.push_new g.ok hp ⟨ys, upd_same, Reps.keep g.ok.m (Kp.new hp) _ _ (Reps.sub (fun a z => z.elim .inl fun q => .inr (by rw [q]; exact nt_none hp)) _ _ hy)⟩)
theorem o_edct (g : Good G C M use N k X sc W) : PE X (.Dict [] [] pos) (tE G C W .edct) := by
  refine pe_conv pe_dnewK fun σ H Q h => ?_
  obtain ⟨s, vs, gl, gk, P, Xd, R, hP, hX, w⟩ := h
  exact fun p hp => hP _ _ _ _ _ w (R.push_new g.ok hp (.inl ⟨[], upd_same, ⟨rfl, rfl⟩, rfl⟩))
theorem boot_srt : bootBuiltins ("sorted" : Str) = some (.builtin "sorted") := by decide +kernel
/-- sorted(a, key=f) -/
theorem o_srtf (g : Good G C M use N k X sc W) {f : Nat} {x sx : Str} {ps : List Str} {p kp kq : Pos} (hsx : sx = "sorted") (hg : glB sc sx = true) (hm : sx ∈ M.free) (hea : ordB a = true) (hf : (M.fn f) = some (x, ps)) (hs : f ∈ M.sk) (hgx : glB sc x = true) (hox : okN x = true) (ha : PE X a (tE G C W ca)) :
    PE X (.Call (.Name sx p) [a] [⟨some "key", .Name x kp, kq⟩] pos) (tE G C W (.srt (some f) ca)) := by
  subst hsx
  refine ⟨fun pins s σ H Q I h => ?_⟩
  obtain ⟨fa, hx, T⟩ := g.sk f hs x ps hf
  refine wpAny_Call_Name_kw (ld_blt I (glB_ok g.sc hg) (g.free _ hm) boot_srt ?_ (by decide) (by decide))
  refine PyProof.Rows.callWith_kw (thn ((pa_cons ha pa_nil (star_ord hea)).run pos pins s σ H (fun vs H1 => SrtP G.m Q (vs.headD .non) H1 ∧ vs.length = 1) I ?_) fun us s1 ⟨vs, H1, I1, r1, q1, hl1⟩ => ?_) (by rw [star_ord hea] <;> rfl) (star_all (es := [a]) (by simp [hea]) _) rfl rfl
  · exact tE_mono (srt_conv g h) fun v H1 z => ⟨z, rfl⟩
  · obtain ⟨v, rfl⟩ : ∃ v, vs = [v] := by
      cases vs with
      | nil => cases hl1
      | cons v r => cases r with
        | nil => exact ⟨v, rfl⟩
        | cons _ _ => cases hl1
    obtain ⟨l, xs, bs, A, rfl, hl, rs, h1, h2, _, q⟩ := (show SrtP G.m Q v H1 from q1)
    obtain rfl := Vals.ref1 r1
    show wpAny _ _ (evalAll ((do let v ← eval (.Name x kp) X.env; standAt pos; pure v) :: [])) _ _ s1
    refine wpAny_evalAll_cons (wpAny_bind (ld_glob I1 (glB_ok g.sc hgx) hx (wpAny_bind (wpAny_standAt (wpAny_pure (wpAny_evalAll_nil ?_)))) (okN_ok hox).1))
    exact srt_run g.ok.m g.K.symm I1 (g.room.mono g.k3) hl rs h1 h2 T (fun _ _ _ => trivial) fun ys p hp hy => q H1 (.inl rfl) ys p hp hy
/-- a lambda by size -/
def lamKB (e : Expr) : Bool := match e with
  | .Lambda ⟨[], [⟨a0, none, _⟩], none, [], [], none, []⟩ (.Tuple [.Call (.Name l _) [.Name a1 _] [] _, .Name a2 _] _ _) scope _ =>
    decide (l = "len") && decide (a1 = a0) && decide (a2 = a0) && decide (a0 = "lot") && decide (scope.names = [(a0, .local), ("len", .globalImplicit)]) && decide (scope.kind = .function) && !scope.isGenerator && !scope.isCoroutine
  | _ => false
/-- sorted(a, key=lambda x: (len(x), x)) -/
theorem o_srtl (g : Good G C M use N k X sc W) {sx : Str} {kv : Expr} {p kq : Pos} (hsx : sx = "sorted") (hg : glB sc sx = true) (hm : sx ∈ M.free) (hlen : ("len" : Str) ∈ M.free) (hea : ordB a = true) (hk : lamKB kv = true) (hu : 1000 ∈ use) (ha : PE X a (tE G C W ca)) :
    PE X (.Call (.Name sx p) [a] [⟨some "key", kv, kq⟩] pos) (tE G C W (.srt none ca)) := by
  subst hsx
  unfold lamKB at hk
  split at hk
  · rename_i a0 pa l p1 a1 p2 p3 a2 p4 c5 p5 scope p6
    simp only [Bool.and_eq_true, decide_eq_true_eq, Bool.not_eq_true'] at hk
    obtain ⟨⟨⟨⟨⟨⟨⟨rfl, rfl⟩, rfl⟩, rfl⟩, hn⟩, hkd⟩, hgen⟩, hco⟩ := hk
    have lk0 : scope.names.lookup ("lot" : Str) = some .local := by rw [hn]; decide +kernel
    have lk1 : scope.names.lookup ("len" : Str) = some .globalImplicit := by rw [hn]; decide +kernel
    have S : FnScope ["lot"] ["lot"] scope := ⟨hkd, hco, hgen, by simp, rfl, fun y hy => by
      have e : y = "lot" := by simpa using hy
      rw [e]
      exact .inl lk0, fun y hy => by
      rw [hn] at hy
      simp at hy
      rcases hy with rfl | rfl <;> decide⟩
    have hcl : cloFrom X.env.cells scope.names [] = [] := by rw [hn]; rfl
    obtain ⟨cc, PP, TB, hcode, hmT, huq⟩ := (g.lam hu).tab
    refine ⟨fun pins s σ H Q I h => ?_⟩
    refine wpAny_Call_Name_kw (ld_blt I (glB_ok g.sc hg) (g.free _ hm) boot_srt ?_ (by decide) (by decide))
    refine PyProof.Rows.callWith_kw (thn ((pa_cons ha pa_nil (star_ord hea)).run pos pins s σ H (fun vs H1 => SrtP G.m Q (vs.headD .non) H1 ∧ vs.length = 1) I ?_) fun us s1 ⟨vs, H1, I1, r1, q1, hl1⟩ => ?_) (by rw [star_ord hea] <;> rfl) (star_all (es := [a]) (by simp [hea]) _) rfl rfl
    · exact tE_mono (srt_conv g h) fun v H1 z => ⟨z, rfl⟩
    · obtain ⟨v, rfl⟩ : ∃ v, vs = [v] := by
        cases vs with
        | nil => cases hl1
        | cons v r => cases r with
          | nil => exact ⟨v, rfl⟩
          | cons _ _ => cases hl1
      obtain ⟨l, xs, bs, A, rfl, hl, rs, h1, h2, tb, q⟩ := (show SrtP G.m Q v H1 from q1)
      obtain rfl := Vals.ref1 r1
      refine wpAny_evalAll_cons (wpAny_bind (LamX.lam_make2 I1 TB hcode hmT huq tb rfl (fun y hy e => by
        rw [hn] at hy
        simp at hy
        rcases hy with rfl | rfl <;> cases e) fun f c' pm ctv H2 s2 I2 eN T2 hf hfn hfr hco' => wpAny_bind (wpAny_standAt (wpAny_pure (wpAny_evalAll_nil ?_)))))
      rw [hcl] at hf
      have T := size_turn_lam (P := X.prog) (w := X.w) (K := X.K) (mg := X.mg) (base := X.base) (f := f) (q := X.env.qual ++ "<lambda>") (params := ⟨[], [⟨"lot", none, pa⟩], none, [], [], none, []⟩) (c' := c') (pm := pm) (ctv := ctv) (p1 := p1) (p2 := p2) (p3 := p3) (p4 := p4) (p5 := p5) (c := c5)
        S (fun u => by kernel_rfl) lk0 (by decide) lk1 (g.free _ hlen)
      obtain ⟨⟨oc, ws, t, ho1, ho2, ho3⟩, _⟩ := I2.hok c' _ hco'
      have rs2 : Reps G.m A H2 (bs.map tupI) xs := lots_keep eN rs
      exact srt_run g.ok.m g.K.symm I2 (g.room.mono g.k3) (eN _ _ hl fun _ z => by cases z) rs2 h1 h2 T (fun h tk kp => ⟨kp _ _ hf, oc, ws, t, kp _ _ ho1, ho2, ho3⟩) fun ys p hp hy => q H2 (.inr ⟨eN, T2⟩) ys p hp hy
  · cases hk
/-! ### a lambda handed to the def that catches -/
def lks (σ : L2.St) : List Nat → Option (List V)
  | [] => some []
  | i :: r => match σ[i]? with
    | some (some v) => (lks σ r).map fun vs => v :: vs
    | _ => none
def vsOk (N : List Str) (sc : Scope) : List Nat → List Expr → Bool
  | [], [] => true
  | i :: is, .Name x _ :: es => decide (N[i]? = some x) && visB sc x && okN x && vsOk N sc is es
  | _, _ => false
theorem vs_ord : ∀ {is : List Nat} {es : List Expr}, vsOk N sc is es = true → es.all ordB = true
  | [], [], _ => rfl
  | [], _ :: _, h => by cases h
  | i :: is, [], h => by cases h
  | i :: is, e :: es, h => by
    cases e <;> first | (cases h; done) | skip
    simp only [vsOk, Bool.and_eq_true] at h
    simp [ordB, vs_ord h.2]
theorem vs_len : ∀ {is : List Nat} {es : List Expr}, vsOk N sc is es = true → es.length = is.length
  | [], [], _ => rfl
  | [], _ :: _, h => by cases h
  | i :: is, [], h => by cases h
  | i :: is, e :: es, h => by
    cases e <;> first | (cases h; done) | skip
    simp only [vsOk, Bool.and_eq_true] at h
    simp [vs_len h.2]
theorem pa_vars {Y : Cx} (hN : Y.N = N) (hs : Y.env.scope = sc) : ∀ {is : List Nat} {es : List Expr}, vsOk N sc is es = true → PA Y es (fun σ H Q => ∃ vs, lks σ is = some vs ∧ Q vs H)
  | [], [], _ => pa_conv pa_nil fun σ H Q ⟨vs, e, q⟩ => by cases e; exact q
  | [], _ :: _, h => by cases h
  | i :: is, [], h => by cases h
  | i :: is, e :: es, h => by
    cases e <;> first | (cases h; done) | skip
    rename_i x p
    simp only [vsOk, Bool.and_eq_true, decide_eq_true_eq] at h
    obtain ⟨⟨⟨h1, h2⟩, h3⟩, h4⟩ := h
    refine pa_conv (pa_cons (pe_var (i := i) (by rw [hN]; exact h1) (by rw [hs]; exact visB_ok h2) (okN_ok h3).1 (okN_ok h3).2.1) (pa_vars hN hs h4) rfl) fun σ H Q ⟨vs, e, q⟩ => ?_
    unfold lks at e
    split at e
    · rename_i v ev
      cases el : lks σ is with
      | none => rw [el] at e; cases e
      | some ws =>
        rw [el] at e
        cases e
        exact ⟨v, ev, ws, el, q⟩
    · cases e
/-- the lambda's body -/
def tLamB (G : GC) (C : Ctx) (loc : Bool) (h : Nat) (is : List Nat) (E : XK) : TE := fun σ H Q => ∃ f vs, (if loc then (∃ fa, σ[h]? = some (some (.ref fa)) ∧ G.m.fa f = some fa) ∧ C.hd f = some is.length else f = h) ∧ lks σ is = some vs ∧ C.cost f = 0 ∧ lift G.m is.length 0 (C.fs f) vs H Q E
def lamBB (M : MD) (use : List Nat) (N : List Str) (sc : Scope) (loc : Bool) (h : Nat) (is : List Nat) : Expr → Bool
  | .Call (.Name y _) (e :: es) [] _ => vsOk N sc is (e :: es) && okN y && (if loc then decide (N[h]? = some y) && visB sc y else use.contains h && glB sc y && (match (M.fn h) with | some p => decide (p.1 = y) && p.2.length == is.length | none => false))
  | _ => false
theorem takes_lam {A : Around} {outer : List Env} {s : Shared} {H : Hp} {E : XK} {scope : Scope} {f c' : Addr} : Takes (LamX.lamCx X A outer s H E scope f c') (fun cls d _ H' => E cls d H') := takes_of rfl rfl rfl rfl
theorem lam_body (g : Good G C M use N k X sc W) {j : Nat} (hj : ∀ f ∈ use, ∀ x ps, (M.fn f) = some (x, ps) → Has X.prog X.w X.K X.mg X.base G.m j x ps (C.fs f) f (C.cost f) M.kw)
    (hd : ∀ f n, C.hd f = some n → ∃ x ps, (M.fn f) = some (x, ps) ∧ ps.length = n ∧ Has X.prog X.w X.K X.mg X.base G.m j x ps (C.fs f) f (C.cost f) M.kw) {scope : Scope} {loc : Bool} {h : Nat} {is : List Nat} {body : Expr} (hb : lamBB M use N scope loc h is body = true)
    {A : Around} {outer : List Env} {s : Shared} {H : Hp} {E : XK} {f c' : Addr} (hr : Room j (A.deeper (LamX.lamEnv X scope s.heap.objs.size f c'))) : PE (LamX.lamCx X A outer s H E scope f c') body (tLamB G C loc h is E) := by
  unfold lamBB at hb
  split at hb
  · rename_i y py e es pos
    simp only [Bool.and_eq_true] at hb
    obtain ⟨⟨hv, ho⟩, hb⟩ := hb
    have hor := vs_ord hv
    have h1 : ordB e = true ∧ es.all ordB = true := by simpa using hor
    have pa := pa_vars (Y := LamX.lamCx X A outer s H E scope f c') g.nm rfl hv
    have px : ∀ (pins : List (Addr × Obj)) (σ : L2.St) (H1 : Hp) (s1 : Shared) (e : Value) (s' : Shared), Inv (LamX.lamCx X A outer s H E scope f c') pins σ H1 s1 → L2.CX X.prog X.w (LamX.lamCx X A outer s H E scope f c').stack H1 s1 E e s' → (LamX.lamCx X A outer s H E scope f c').xe e s' := passes_call (takes_lam) fun _ _ _ _ z => z
    cases loc with
    | true =>
      simp only [if_true, Bool.and_eq_true, decide_eq_true_eq] at hb
      refine ⟨fun pins s1 σ H1 Q I q => ?_⟩
      obtain ⟨f0, vs, ⟨⟨fa, e1, e2⟩, e3⟩, e4, e9, q⟩ := q
      obtain ⟨x, ps, hM, hl, fa', fd, F, hm, hk, hbd, hfa, _⟩ := hd f0 _ e3
      rw [e2] at hfa
      cases hfa
      rw [hl, e9] at F
      refine (pe_callL (X := LamX.lamCx X A outer s H E scope f c') (i := h) (f := fa) (dvs := []) (E := E) F hr (by show X.N[h]? = _; rw [g.nm]; exact hb.1) (visB_ok hb.2) hk hbd .nil px pa (okN_ok ho).1 (okN_ok ho).2.1 (star_ord h1.1) (star_all h1.2 _)).run pins s1 σ H1 Q I ⟨e1, vs, e4, ?_⟩
      show lift G.m is.length 0 (C.fs f0) (vs ++ []) H1 Q E
      rw [List.append_nil]
      exact q
    | false =>
      simp only [Bool.false_eq_true, if_false, Bool.and_eq_true, List.contains_iff_mem] at hb
      obtain ⟨⟨hu, hg⟩, hM⟩ := hb
      split at hM
      · rename_i p eM
        obtain ⟨px1, px2⟩ := p
        simp only [Bool.and_eq_true, decide_eq_true_eq, beq_iff_eq] at hM
        obtain ⟨rfl, hl⟩ := hM
        obtain ⟨fa', fd, F, hm, hk, hbd, hfa, _⟩ := hj h hu _ _ eM
        refine ⟨fun pins s1 σ H1 Q I q => ?_⟩
        obtain ⟨f0, vs, e0, e4, e9, q⟩ := q
        obtain rfl : f0 = h := e0
        rw [hl, e9] at F
        refine (pe_call (X := LamX.lamCx X A outer s H E scope f c') (f := fa') (dvs := []) (E := E) F hr (show Gl _ _ from glB_ok rfl hg) hm hk hbd .nil px pa (okN_ok ho).1 (star_ord h1.1) (star_all h1.2 _)).run pins s1 σ H1 Q I ⟨vs, e4, ?_⟩
        show lift G.m is.length 0 (C.fs f0) (vs ++ []) H1 Q E
        rw [List.append_nil]
        exact q
      · cases hM
  · cases hb
theorem Rel.shs {s : St} {σ : L2.St} {vs : List (Option V)} {H : Hp} {gl gk : List GS} (R : Rel G s σ vs H gl gk) : ∀ {is : List Nat} {ds : List D}, shs s.l is = some ds → ∃ xs, lks σ is = some xs ∧ Reps G.m (Av G gl gk) H ds xs ∧ ds.length = is.length
  | [], _, h => by cases h; exact ⟨[], rfl, rfl, rfl⟩
  | i :: is, ds, h => by
    unfold DP.shs at h
    split at h
    · rename_i d e
      cases el : DP.shs s.l is with
      | none => rw [el] at h; cases h
      | some ds' =>
        rw [el] at h
        cases h
        obtain ⟨xs, h1, h2, h3⟩ := Rel.shs R el
        obtain ⟨gg, hg, es⟩ := R.loc e
        have hv := R.locv hg
        have hr := R.lrep hg
        cases gg with
        | sh d' v =>
          cases es
          refine ⟨v :: xs, ?_, ⟨v, xs, rfl, hr, h2⟩, by simp [h3]⟩
          unfold lks
          rw [hv, h1]
          rfl
        | _ => cases es
    · cases h
/-- f(lambda: g(..)), f the def that catches -/
theorem o_ctch (g : Good G C M use N k X sc W) (hC : CMono C) {gg : Nat} {x : Str} {ps : List Str} {p lpos : Pos} {loc : Bool} {h : Nat} {is : List Nat} {body : Expr} {scope : Scope} (hf : (M.fn gg) = some (x, ps)) (hc : gg ∈ M.cc) (hgx : glB sc x = true) (hox : okN x = true) (hu : 1000 ∈ use)
    (hL : LamX.lamSB sc scope = true) (hb : lamBB M use N scope loc h is body = true) : PE X (.Call (.Name x p) [.Lambda ⟨[], [], none, [], [], none, []⟩ body scope lpos] [] pos) (tE G C W (.ctch gg loc h is)) := by
  obtain ⟨ga, pg, bg, sg, dV, kV, doc, pm, cdv, ct, oc, an, od, osl, Ng, a, hm, hk, lk, hcd, hbn, Sg, hN0, hva, ha1, ha2, hG⟩ := g.cc gg hc x ps hf
  obtain ⟨j, hj, hfn, hhd⟩ := (g.lam hu).fns
  obtain ⟨c, P, TB, hcode, hmT, huq⟩ := (g.lam hu).tab
  refine pe_conv (LamX.pe_lamcall (T := G.m.T) (TT := TTc G.m C) (k := j) (t := tLamB G C loc h is) (Ng := Ng) (a := a) (glB_ok g.sc hgx) hm hk lk hcd hbn Sg hN0 hva (hG X _ rfl rfl rfl rfl rfl) TB hcode hmT huq (g.room.mono hj) (by rw [g.sc]; exact LamX.lamS_by hL) rfl
    (fun q cl pm cv ctv => by kernel_rfl) (fun A outer s H E f c' hr => lam_body g hfn hhd hb hr) (okN_ok hox).1 ha1 ha2) fun σ H Q h => ?_
  obtain ⟨s, vs, gl, gk, PP, Xd, R, hP, hX, w⟩ := h
  obtain ⟨f, ds, e1, e2, e9, w⟩ := w
  refine ⟨g.ok.m.jt' R.j, fun H1 eN T1 => ?_⟩
  have R1 : Rel G s σ vs H1 gl gk := R.heap g.ok (kp_extN eN) (g.ok.m.jx' R.j eN T1)
  obtain ⟨xs, h1, h2, h3⟩ := Rel.shs R1 e2
  refine ⟨f, xs, ?_, h1, e9, Av G gl gk, ds, G.c0 + s.cr, ⟨fun a z => .inl (g.ok.ra a z), fun a z => ?_, R1.j⟩, h2, h3, hC f _ _ _ _ _ (fun d fr q v H' r => ?_) (fun y ⟨c, ey, hw, q⟩ cls dd H' kk jj ex => ?_) w⟩
  · split at e1
    · rename_i hl
      rw [if_pos hl]
      obtain ⟨gg, hg, es⟩ := R1.loc e1.1
      have hv := R1.locv hg
      have hr := R1.lrep hg
      cases gg with
      | sh d v =>
        cases es
        obtain ⟨fa, rfl, hfa⟩ := (show ∃ a, v = .ref a ∧ G.m.fa f = some a from hr)
        exact ⟨⟨fa, hv, hfa⟩, e1.2⟩
      | _ => cases es
    · rename_i hl
      rw [if_neg hl]
      exact e1
  · rcases z with z | z
    · exact R1.ke.d a (g.ok.ah a z)
    · obtain ⟨u, hu, w⟩ := R1.there z
      exact ⟨u, hu, ow_nt w⟩
  · exact hP _ _ _ _ _ q ((R1.heap g.ok r.k r.j).push_sh (d := .non) (v := .non) rfl)
  · subst ey
    obtain ⟨c2, fs, CC, e3, e4, e5, e6⟩ := ex
    cases e3
    subst e5
    have ed : dd = none := by
      rcases e6 with ⟨_, z⟩ | ⟨_, _, _, _, z, _⟩
      · exact z
      · cases z
    refine ⟨c, CC, rfl, e4, ed, hw, fun a na => ?_⟩
    have R2 := (R1.heap g.ok kk jj).new g.ok (o := ExT (.ref CC) none a) na
    exact hP _ _ _ _ _ q (R2.1.push_sh (d := .exc c []) (v := .ref a) ⟨a, rfl, g.cls.exi _ _ _ _ e4 upd_same⟩)
end
end DP

set_option Elab.async false
set_option linter.all false
set_option maxRecDepth 100000
set_option maxHeartbeats 1000000
/-! E11: the check that a code is a given expression; its soundness. -/
namespace DP
open PySem PySem.Spec PyProof.Rows L2
abbrev ES := Expr ⊕ List Expr
def ownL (N : List Str) (own : List Nat) : List (Str × Nat) := own.map fun i => ((N[i]?).getD "", i)
theorem ownL_snd (N : List Str) : ∀ own : List Nat, (ownL N own).map (·.2) = own
  | [] => rfl
  | i :: r => congrArg (i :: ·) (ownL_snd N r)
def cellB (scope : Scope) : Str → Bool := fun x => scope.names.lookup x == some .cell
/-- what a loop or a comprehension walks; the source's own check is R -/
def chkI (M : MD) (sc : Scope) (it : ItK) (n : Nat) (src : E) (tg iter : Expr) (R : ES → Bool) : Bool :=
  match it with
  | .seq => n == 1 && R (.inl iter)
  | .range1 => match iter with
    | .Call (.Name x _) [a] [] _ => n == 1 && nE src == 1 && decide (x = "range") && glB sc x && M.free.contains x && ordB a && R (.inr [a])
    | _ => false
  | .range2 => match iter with
    | .Call (.Name x _) [a, b] [] _ => n == 2 && nE src == 2 && decide (x = "range") && glB sc x && M.free.contains x && ordB a && ordB b && R (.inr [a, b])
    | _ => false
  | .zip => match iter, tg with
    | .Call (.Name x _) [a, b] [] _, .Tuple .. => n == 2 && nE src == 2 && decide (x = "zip") && glB sc x && M.free.contains x && ordB a && ordB b && R (.inr [a, b])
    | _, _ => false
  | _ => false
section
variable (M : MD) (use : List Nat) (N : List Str) (sc : Scope)
def kNil : ES → Bool
  | .inr [] => true
  | _ => false
def kCons (A R : ES → Bool) : ES → Bool
  | .inr (e :: es) => ordB e && A (.inl e) && R (.inr es)
  | _ => false
def kVar (i : Nat) : ES → Bool
  | .inl (.Name x _) => decide (N[i]? = some x) && visB sc x && okN x
  | _ => false
def kLit (d : D) : ES → Bool
  | .inl (.Constant (.int j) _ _) => (match d with | .int i => decide (i = j) | _ => false)
  | .inl (.Constant (.bool j) _ _) => (match d with | .bl i => decide (i = j) | _ => false)
  | .inl (.Constant .none _ _) => (match d with | .non => true | _ => false)
  | .inl (.Constant (.str j) _ _) => (match d with | .str i => decide (i = j) | _ => false)
  | _ => false
def kFnv (f : Nat) : ES → Bool
  | .inl (.Name x _) => (match (M.fn f) with | some p => decide (p.1 = x) | none => false) && glB sc x && okN x
  | _ => false
def kClv (f : Nat) : ES → Bool
  | .inl (.Name x _) => (match (M.cl f) with | some p => decide (p.1 = x) | none => false) && glB sc x && okN x
  | _ => false
def kCst (f : Nat) : ES → Bool
  | .inl (.Name x _) => decide ((M.ct f) = some x) && glB sc x && okN x
  | _ => false
def kTyv (n : String) : ES → Bool
  | .inl (.Name x _) => tyOk x n && glB sc x && M.free.contains x && okN x
  | _ => false
def kUn (o : UnaryOp) (A : ES → Bool) : ES → Bool
  | .inl (.UnaryOp op x _) => decide (op = o) && A (.inl x)
  | _ => false
def kBin (o : Operator) (A B : ES → Bool) : ES → Bool
  | .inl (.BinOp x op y _) => decide (op = o) && A (.inl x) && B (.inl y)
  | _ => false
def kCmp (o : CmpOp) (A B : ES → Bool) : ES → Bool
  | .inl (.Compare x [op] [y] _) => decide (op = o) && ordB y && A (.inl x) && B (.inl y)
  | _ => false
def kChain (o o' : CmpOp) (A B C : ES → Bool) : ES → Bool
  | .inl (.Compare x [op, op'] [y, z] _) => decide (op = o) && decide (op' = o') && ordB y && ordB z && A (.inl x) && B (.inl y) && C (.inl z)
  | _ => false
def kBool (o : BoolOp) (more : Bool) (A B : ES → Bool) : ES → Bool
  | .inl (.BoolOp op [x, y] _) => decide (op = o) && A (.inl x) && B (.inl y)
  | .inl (.BoolOp op (x :: y :: z :: r) p) => decide (op = o) && more && A (.inl x) && B (.inl (.BoolOp op (y :: z :: r) p))
  | _ => false
def kIte (C A B : ES → Bool) : ES → Bool
  | .inl (.IfExp x y z _) => C (.inl x) && A (.inl y) && B (.inl z)
  | _ => false
def kTup (n m : Nat) (A : ES → Bool) : ES → Bool
  | .inl (.Tuple xs _ _) => n == m && A (.inr xs)
  | _ => false
def kLst (n m : Nat) (A : ES → Bool) : ES → Bool
  | .inl (.List xs _) => n == m && A (.inr xs)
  | _ => false
def kIdx (A I : ES → Bool) : ES → Bool
  | .inl (.Subscript x y _) => ordB y && A (.inl x) && I (.inl y)
  | _ => false
def kPart (nn : Bool) (L : ES → Bool) : Option Expr → Bool
  | none => !nn
  | some l => nn && L (.inl l)
def kSlc (ln hn : Bool) (A L H : ES → Bool) : ES → Bool
  | .inl (.Subscript x (.Slice l h none _) _) => A (.inl x) && kPart ln L l && kPart hn H h
  | _ => false
def kCall (f n m : Nat) (A : ES → Bool) : ES → Bool
  | .inl (.Call (.Name x _) (e :: xs) [] _) => (match (M.fn f) with | some p => decide (p.1 = x) && p.2.length == n | none => false) && use.contains f && n == m && glB sc x && okN x && (e :: xs).all ordB && A (.inr (e :: xs))
  | _ => false
def kCallk (f n m : Nat) (perm : List Nat) (A : ES → Bool) : ES → Bool
  | .inl (.Call (.Name x _) [] kws _) => (match (M.fn f) with | some p => decide (p.1 = x) && p.2.length == n | none => false) && use.contains f && n == m && glB sc x && okN x && (match kwN kws with | some p => decide ((f, p.1, perm) ∈ M.kw) && p.1.length == n && A (.inr p.2) | none => false)
  | _ => false
def bootK : BiK → Bool
  | .listzip => false
  | _ => true
def kBi (k : BiK) (n m : Nat) (A : ES → Bool) : ES → Bool
  | .inl (.Call (.Name x _) (e :: xs) [] _) => decide (x = Str.ofString k.nm) && bootK k && n == m && glB sc x && M.free.contains x && (e :: xs).all ordB && A (.inr (e :: xs))
  | _ => false
def kRgl1 (t : Bool) (A : ES → Bool) : ES → Bool
  | .inl (.Call (.Name x _) [.Call (.Name y _) [e] [] _] [] _) => decide (x = rgN t) && glB sc x && M.free.contains x && decide (y = "range") && glB sc y && M.free.contains y && ordB e && A (.inl e)
  | _ => false
def kRgl2 (t : Bool) (A B : ES → Bool) : ES → Bool
  | .inl (.Call (.Name x _) [.Call (.Name y _) [e, e'] [] _] [] _) => decide (x = rgN t) && glB sc x && M.free.contains x && decide (y = "range") && glB sc y && M.free.contains y && ordB e && ordB e' && A (.inl e) && B (.inl e')
  | _ => false
def kIsi (A B : ES → Bool) : ES → Bool
  | .inl (.Call (.Name x _) [e, e'] [] _) => decide (x = "isinstance") && glB sc x && M.free.contains x && ordB e && ordB e' && A (.inl e) && B (.inl e')
  | _ => false
def kIsiT (ns : List String) (A : ES → Bool) : ES → Bool
  | .inl (.Call (.Name x _) [e, .Tuple es _ _] [] _) => decide (x = "isinstance") && glB sc x && M.free.contains x && ordB e && !ns.isEmpty && decide (ns.length ≤ 100) && tysOk M sc ns es && A (.inl e)
  | _ => false
def kIfs (hc : Bool) (C : ES → Bool) : List Expr → Bool
  | [ce] => hc && C (.inl ce)
  | [] => !hc
  | _ => false
def kLc (own : List Nat) (tg : T) (it : ItK) (n : Nat) (src : E) (hc : Bool) (R : ES → Bool) (C L : (Str → Bool) → Scope → ES → Bool) : ES → Bool
  | .inl (.ListComp el [⟨tgE, iter, ifs, ia⟩] scope _) => decide (ia = 0) && notSet iter && blkC N sc scope (ownL N own) && decide own.Nodup && chkI M sc it n src tgE iter R &&
      chkT N (relS scope sc) (cellB scope) tg (.inl tgE) && kIfs hc (C (cellB scope) (relS scope sc)) ifs && L (cellB scope) (relS scope sc) (.inl el)
  | _ => false
def kLcb (own : List Nat) (tg : T) (i : Nat) (hc : Bool) (C L : (Str → Bool) → Scope → ES → Bool) : ES → Bool
  | .inl (.ListComp el [⟨tgE, .Name x _, ifs, ia⟩] scope _) => decide (ia = 0) && decide (N[i]? = some x) && visB sc x && okN x && blkC N sc scope (ownL N own) && decide own.Nodup &&
      chkT N (relS scope sc) (cellB scope) tg (.inl tgE) && kIfs hc (C (cellB scope) (relS scope sc)) ifs && L (cellB scope) (relS scope sc) (.inl el)
  | _ => false
def kDc (own : List Nat) (tg : T) (it : ItK) (n : Nat) (src : E) (hc : Bool) (R : ES → Bool) (C K V : (Str → Bool) → Scope → ES → Bool) : ES → Bool
  | .inl (.DictComp kx vx [⟨tgE, iter, ifs, ia⟩] scope _) => decide (ia = 0) && notSet iter && blkC N sc scope (ownL N own) && decide own.Nodup && chkI M sc it n src tgE iter R &&
      chkT N (relS scope sc) (cellB scope) tg (.inl tgE) && kIfs hc (C (cellB scope) (relS scope sc)) ifs && K (cellB scope) (relS scope sc) (.inl kx) && V (cellB scope) (relS scope sc) (.inl vx)
  | _ => false
def kSrt (w : Option Nat) (A : ES → Bool) : ES → Bool
  | .inl (.Call (.Name sx _) [a] [⟨some kn, kv, _⟩] _) => decide (sx = "sorted") && decide (kn = "key") && glB sc sx && M.free.contains sx && ordB a && A (.inl a) && (match w with
    | some f => (match kv with
      | .Name x _ => (match (M.fn f) with | some p => decide (p.1 = x) | none => false) && M.sk.contains f && glB sc x && okN x
      | _ => false)
    | none => M.free.contains "len" && lamKB kv && use.contains 1000)
  | _ => false
def kEdct : ES → Bool
  | .inl (.Dict [] [] _) => true
  | _ => false
def kCtch (gg : Nat) (loc : Bool) (h : Nat) (is : List Nat) : ES → Bool
  | .inl (.Call (.Name x _) [.Lambda ⟨[], [], none, [], [], none, []⟩ body scope _] [] _) => (match (M.fn gg) with | some p => decide (p.1 = x) | none => false) && M.cc.contains gg && glB sc x && okN x && use.contains 1000 && LamX.lamSB sc scope && lamBB M use N scope loc h is body
  | _ => false
def kMeth (nm : Str) (i : Nat) (A : ES → Bool) : ES → Bool
  | .inl (.Call (.Attribute (.Name x _) m ap) [e] [] p) => decide (m = nm) && decide (N[i]? = some x) && visB sc x && okN x && (ap.endLine == p.line) && ordB e && A (.inl e)
  | _ => false
def kMeth0 (nm : Str) (i : Nat) : ES → Bool
  | .inl (.Call (.Attribute (.Name x _) m ap) [] [] p) => decide (m = nm) && decide (N[i]? = some x) && visB sc x && okN x && (ap.endLine == p.line)
  | _ => false
end
def isAnd : E → Bool
  | .and .. => true
  | _ => false
def isOr : E → Bool
  | .or .. => true
  | _ => false
def chk (M : MD) (use : List Nat) (N : List Str) : E → (Str → Bool) → Scope → ES → Bool
  | .nil, _, _ => kNil
  | .cons a r, fb, sc => kCons (chk M use N a fb sc) (chk M use N r fb sc)
  | .var i, _, sc => kVar N sc i
  | .lit d, _, _ => kLit d
  | .fnv f, _, sc => kFnv M sc f
  | .clv f, _, sc => kClv M sc f
  | .cst f, _, sc => kCst M sc f
  | .tyv n, _, sc => kTyv M sc n
  | .neg a, fb, sc => kUn .USub (chk M use N a fb sc)
  | .not a, fb, sc => kUn .Not (chk M use N a fb sc)
  | .bin k a b, fb, sc => kBin k.op (chk M use N a fb sc) (chk M use N b fb sc)
  | .cmp k a b, fb, sc => kCmp k.op (chk M use N a fb sc) (chk M use N b fb sc)
  | .chain k k' a b c, fb, sc => kChain k.op k'.op (chk M use N a fb sc) (chk M use N b fb sc) (chk M use N c fb sc)
  | .and a b, fb, sc => kBool .And (isAnd b) (chk M use N a fb sc) (chk M use N b fb sc)
  | .or a b, fb, sc => kBool .Or (isOr b) (chk M use N a fb sc) (chk M use N b fb sc)
  | .ite c a b, fb, sc => kIte (chk M use N c fb sc) (chk M use N a fb sc) (chk M use N b fb sc)
  | .tup n es, fb, sc => kTup n (nE es) (chk M use N es fb sc)
  | .lst n es, fb, sc => kLst n (nE es) (chk M use N es fb sc)
  | .idx a i, fb, sc => kIdx (chk M use N a fb sc) (chk M use N i fb sc)
  | .slc a lo hi, fb, sc => kSlc (notNone lo) (notNone hi) (chk M use N a fb sc) (chk M use N lo fb sc) (chk M use N hi fb sc)
  | .call f n es, fb, sc => kCall M use sc f n (nE es) (chk M use N es fb sc)
  | .callk f n perm es, fb, sc => kCallk M use sc f n (nE es) perm (chk M use N es fb sc)
  | .bi k n es, fb, sc => kBi M sc k n (nE es) (chk M use N es fb sc)
  | .rgl1 t a, fb, sc => kRgl1 M sc t (chk M use N a fb sc)
  | .rgl2 t a b, fb, sc => kRgl2 M sc t (chk M use N a fb sc) (chk M use N b fb sc)
  | .isi a b, fb, sc => kIsi M sc (chk M use N a fb sc) (chk M use N b fb sc)
  | .isiT a ns, fb, sc => kIsiT M sc ns (chk M use N a fb sc)
  | .lc own tg it n src hc c elt, fb, sc => kLc M N sc own tg it n src hc (chk M use N src fb sc) (chk M use N c) (chk M use N elt)
  | .lcb own tg i hc c elt, _, sc => kLcb N sc own tg i hc (chk M use N c) (chk M use N elt)
  | .dc own tg it n src hc c key val, fb, sc => kDc M N sc own tg it n src hc (chk M use N src fb sc) (chk M use N c) (chk M use N key) (chk M use N val)
  | .append i a, fb, sc => kMeth N sc "append" i (chk M use N a fb sc)
  | .extend i a, fb, sc => kMeth N sc "extend" i (chk M use N a fb sc)
  | .pop i, _, sc => kMeth0 N sc "pop" i
  | .popAt i a, fb, sc => kMeth N sc "pop" i (chk M use N a fb sc)
  | .edct, _, _ => kEdct
  | .srt w a, fb, sc => kSrt M use sc w (chk M use N a fb sc)
  | .ctch gg loc h is, _, sc => kCtch M use N sc gg loc h is
theorem boot_of (k : BiK) (h : bootK k = true) : bootBuiltins (Str.ofString k.nm) = some k.fv := by cases k <;> first | (decide +kernel) | (cases h; done)
theorem okN_bi (k : BiK) : okN (Str.ofString k.nm) = true := by cases k <;> decide +kernel
section
variable {G : GC} {C : Ctx} {M : MD} {use : List Nat} {N : List Str} {k : Nat}
/-- what a code's check promises -/
structure CS (G : GC) (C : Ctx) (M : MD) (use : List Nat) (N : List Str) (k : Nat) (c : E) : Prop where
  pe : ∀ (X : Cx) (sc : Scope) (W : WX) (fb : Str → Bool), Good G C M use N k X sc W → (∀ x, fb x = true → X.fn x = true) → ∀ e, chk M use N c fb sc (.inl e) = true → PE X e (tE G C W c)
  pt : ∀ (X : Cx) (sc : Scope) (W : WX) (fb : Str → Bool), Good G C M use N k X sc W → (∀ x, fb x = true → X.fn x = true) → ∀ e, chk M use N c fb sc (.inl e) = true → PT X e (tB (tE G C W c))
  pw : ∀ (X : Cx) (sc : Scope) (W : WX) (fb : Str → Bool), Good G C M use N k X sc W → (∀ x, fb x = true → X.fn x = true) → (isAnd c = true ∨ isOr c = true) → ∀ e, chk M use N c fb sc (.inl e) = true → PW X e (tB (tE G C W c))
  pa : ∀ (X : Cx) (sc : Scope) (W : WX) (fb : Str → Bool), Good G C M use N k X sc W → (∀ x, fb x = true → X.fn x = true) → ∀ es, chk M use N c fb sc (.inr es) = true → PA X es (tA G C W c)
  pk : ∀ (X : Cx) (sc : Scope) (W : WX) (fb : Str → Bool), Good G C M use N k X sc W → (∀ x, fb x = true → X.fn x = true) → ∀ kws ks es, kwN kws = some (ks, es) → chk M use N c fb sc (.inr es) = true → PK X kws (tA G C W c)
/-- a code that is neither a list of codes nor a bool's operation -/
theorem CS.of {c : E} (pe : ∀ (X : Cx) (sc : Scope) (W : WX) (fb : Str → Bool), Good G C M use N k X sc W → (∀ x, fb x = true → X.fn x = true) → ∀ e, chk M use N c fb sc (.inl e) = true → PE X e (tE G C W c) ∧ tstB e = true)
    (hn : isAnd c = false) (ho : isOr c = false) (ha : ∀ (fb : Str → Bool) (sc : Scope) es, chk M use N c fb sc (.inr es) = false) : CS G C M use N k c :=
  ⟨fun X sc W fb g hf e h => (pe X sc W fb g hf e h).1, fun X sc W fb g hf e h => o_test (pe X sc W fb g hf e h).2 (pe X sc W fb g hf e h).1, fun X sc W fb g hf q e h => by rw [hn, ho] at q; simp at q, fun X sc W fb g hf es h => (by rw [ha fb sc es] at h; cases h), fun X sc W fb g hf kws ks es hk h => (by rw [ha fb sc es] at h; cases h)⟩
variable {a b c : E}
theorem cs_nil : CS G C M use N k .nil := by
  refine ⟨fun X sc W fb g hf e h => ?_, fun X sc W fb g hf e h => ?_, fun X sc W fb g hf q e h => ?_, fun X sc W fb g hf es h => ?_, fun X sc W fb g hf kws ks es hk h => ?_⟩
  · cases h
  · cases h
  · cases h
  · cases es with
    | nil => exact o_nil
    | cons _ _ => cases h
  · cases kws with
    | nil => exact o_knil
    | cons q r =>
      obtain ⟨nm, e, p⟩ := q
      have hl := kwN_len hk
      cases es with
      | nil =>
        cases nm with
        | none => cases hk
        | some nm =>
          have hk : (kwN r).map (fun p => (nm :: p.1, e :: p.2)) = some (ks, []) := hk
          cases eq : kwN r with
          | none => rw [eq] at hk; cases hk
          | some q => rw [eq] at hk; cases hk
      | cons _ _ => cases h
theorem cs_cons (ia : CS G C M use N k a) (ib : CS G C M use N k b) : CS G C M use N k (.cons a b) := by
  refine ⟨fun X sc W fb g hf e h => ?_, fun X sc W fb g hf e h => ?_, fun X sc W fb g hf q e h => ?_, fun X sc W fb g hf es h => ?_, fun X sc W fb g hf kws ks es hk h => ?_⟩
  · cases h
  · cases h
  · cases h
  · cases es with
    | nil => cases h
    | cons e es =>
      have h : (ordB e && chk M use N a fb sc (.inl e) && chk M use N b fb sc (.inr es)) = true := h
      simp only [Bool.and_eq_true] at h
      exact o_cons h.1.1 (ia.pe X sc W fb g hf _ h.1.2) (ib.pa X sc W fb g hf _ h.2)
  · cases kws with
    | nil => cases hk; cases h
    | cons q r =>
      obtain ⟨nm, e, p⟩ := q
      cases nm with
      | none => cases hk
      | some nm =>
        have hk : (kwN r).map (fun p => (nm :: p.1, e :: p.2)) = some (ks, es) := hk
        cases eq : kwN r with
        | none => rw [eq] at hk; cases hk
        | some q =>
          rw [eq] at hk
          cases hk
          have h : (ordB e && chk M use N a fb sc (.inl e) && chk M use N b fb sc (.inr q.2)) = true := h
          simp only [Bool.and_eq_true] at h
          exact o_kcons (ia.pe X sc W fb g hf _ h.1.2) (ib.pk X sc W fb g hf r q.1 q.2 eq h.2)
theorem cs_var {i : Nat} : CS G C M use N k (.var i) := by
  refine CS.of (fun X sc W fb g hf e h => ?_) rfl rfl (fun _ _ _ => rfl)
  replace h : kVar N sc i (.inl e) = true := h
  unfold kVar at h
  split at h
  · rename_i x p e
    cases e
    simp only [Bool.and_eq_true, decide_eq_true_eq] at h
    exact ⟨o_var g h.1.1 h.1.2 h.2, rfl⟩
  · cases h
theorem cs_lit {d : D} : CS G C M use N k (.lit d) := by
  refine CS.of (fun X sc W fb g hf e h => ?_) rfl rfl (fun _ _ _ => rfl)
  replace h : kLit d (.inl e) = true := h
  unfold kLit at h
  split at h
  · rename_i e
    cases e
    split at h
    · rw [decide_eq_true_eq] at h; subst h; exact ⟨o_lit (fun _ _ => rfl) pe_int, rfl⟩
    · cases h
  · rename_i e
    cases e
    split at h
    · rw [decide_eq_true_eq] at h; subst h; exact ⟨o_lit (fun _ _ => rfl) pe_bl, rfl⟩
    · cases h
  · rename_i e
    cases e
    split at h
    · exact ⟨o_lit (fun _ _ => rfl) pe_non, rfl⟩
    · cases h
  · rename_i e
    cases e
    split at h
    · rw [decide_eq_true_eq] at h; subst h; exact ⟨o_lit (fun _ _ => rfl) pe_str, rfl⟩
    · cases h
  · cases h
theorem fn_get {f : Nat} {x : Str} (h : (match (M.fn f) with | some p => decide (p.1 = x) | none => false) = true) : ∃ ps, (M.fn f) = some (x, ps) := by
  split at h
  · rename_i p e
    rw [decide_eq_true_eq] at h
    exact ⟨p.2, by rw [e, ← h]⟩
  · cases h
theorem cl_get {f : Nat} {x : Str} (h : (match (M.cl f) with | some p => decide (p.1 = x) | none => false) = true) : ∃ ps, (M.cl f) = some (x, ps) := by
  split at h
  · rename_i p e
    rw [decide_eq_true_eq] at h
    exact ⟨p.2, by rw [e, ← h]⟩
  · cases h
theorem cs_fnv {f : Nat} : CS G C M use N k (.fnv f) := by
  refine CS.of (fun X sc W fb g hf e h => ?_) rfl rfl (fun _ _ _ => rfl)
  replace h : kFnv M sc f (.inl e) = true := h
  unfold kFnv at h
  split at h
  · rename_i e
    cases e
    simp only [Bool.and_eq_true] at h
    obtain ⟨ps, hp⟩ := fn_get h.1.1
    exact ⟨o_fnv g hp h.1.2 h.2, rfl⟩
  · cases h
theorem cs_clv {f : Nat} : CS G C M use N k (.clv f) := by
  refine CS.of (fun X sc W fb g hf e h => ?_) rfl rfl (fun _ _ _ => rfl)
  replace h : kClv M sc f (.inl e) = true := h
  unfold kClv at h
  split at h
  · rename_i e
    cases e
    simp only [Bool.and_eq_true] at h
    obtain ⟨ps, hp⟩ := cl_get h.1.1
    exact ⟨o_clv g hp h.1.2 h.2, rfl⟩
  · cases h
theorem cs_cst {f : Nat} : CS G C M use N k (.cst f) := by
  refine CS.of (fun X sc W fb g hf e h => ?_) rfl rfl (fun _ _ _ => rfl)
  replace h : kCst M sc f (.inl e) = true := h
  unfold kCst at h
  split at h
  · rename_i e
    cases e
    simp only [Bool.and_eq_true, decide_eq_true_eq] at h
    exact ⟨o_cst g h.1.1 h.1.2 h.2, rfl⟩
  · cases h
theorem cs_tyv {f : String} : CS G C M use N k (.tyv f) := by
  refine CS.of (fun X sc W fb g hf e h => ?_) rfl rfl (fun _ _ _ => rfl)
  replace h : kTyv M sc f (.inl e) = true := h
  unfold kTyv at h
  split at h
  · rename_i e
    cases e
    simp only [Bool.and_eq_true, List.contains_iff_mem] at h
    exact ⟨o_tyv g h.1.1.1 h.1.1.2 h.1.2 h.2, rfl⟩
  · cases h
theorem cs_neg (ia : CS G C M use N k a) : CS G C M use N k (.neg a) := by
  refine CS.of (fun X sc W fb g hf e h => ?_) rfl rfl (fun _ _ _ => rfl)
  replace h : kUn .USub (chk M use N a fb sc) (.inl e) = true := h
  unfold kUn at h
  split at h
  · rename_i e
    cases e
    simp only [Bool.and_eq_true, decide_eq_true_eq] at h
    obtain ⟨rfl, h2⟩ := h
    exact ⟨o_neg (ia.pe X sc W fb g hf _ h2), rfl⟩
  · cases h
theorem cs_not (ia : CS G C M use N k a) : CS G C M use N k (.not a) := by
  refine ⟨fun X sc W fb g hf e h => ?_, fun X sc W fb g hf e h => ?_, fun X sc W fb g hf q e h => by simp [isAnd, isOr] at q, fun X sc W fb g hf es h => (by cases h), fun X sc W fb g hf kws ks es hk h => (by cases h)⟩
  · replace h : kUn .Not (chk M use N a fb sc) (.inl e) = true := h
    unfold kUn at h
    split at h
    · rename_i e
      cases e
      simp only [Bool.and_eq_true, decide_eq_true_eq] at h
      obtain ⟨rfl, h2⟩ := h
      exact o_not (ia.pe X sc W fb g hf _ h2)
    · cases h
  · replace h : kUn .Not (chk M use N a fb sc) (.inl e) = true := h
    unfold kUn at h
    split at h
    · rename_i e
      cases e
      simp only [Bool.and_eq_true, decide_eq_true_eq] at h
      obtain ⟨rfl, h2⟩ := h
      exact o_notT (ia.pt X sc W fb g hf _ h2)
    · cases h
theorem cs_bin {kk : BinK} (ia : CS G C M use N k a) (ib : CS G C M use N k b) : CS G C M use N k (.bin kk a b) := by
  refine CS.of (fun X sc W fb g hf e h => ?_) rfl rfl (fun _ _ _ => rfl)
  replace h : kBin kk.op (chk M use N a fb sc) (chk M use N b fb sc) (.inl e) = true := h
  unfold kBin at h
  split at h
  · rename_i e
    cases e
    simp only [Bool.and_eq_true, decide_eq_true_eq] at h
    obtain ⟨⟨rfl, h2⟩, h3⟩ := h
    exact ⟨o_bin g (ia.pe X sc W fb g hf _ h2) (ib.pe X sc W fb g hf _ h3), rfl⟩
  · cases h
theorem cs_cmp {kk : CmpK} (ia : CS G C M use N k a) (ib : CS G C M use N k b) : CS G C M use N k (.cmp kk a b) := by
  refine ⟨fun X sc W fb g hf e h => ?_, fun X sc W fb g hf e h => ?_, fun X sc W fb g hf q e h => by simp [isAnd, isOr] at q, fun X sc W fb g hf es h => (by cases h), fun X sc W fb g hf kws ks es hk h => (by cases h)⟩
  · replace h : kCmp kk.op (chk M use N a fb sc) (chk M use N b fb sc) (.inl e) = true := h
    unfold kCmp at h
    split at h
    · rename_i e
      cases e
      simp only [Bool.and_eq_true, decide_eq_true_eq] at h
      obtain ⟨⟨⟨rfl, h1⟩, h2⟩, h3⟩ := h
      exact o_cmp g h1 (ia.pe X sc W fb g hf _ h2) (ib.pe X sc W fb g hf _ h3)
    · cases h
  · replace h : kCmp kk.op (chk M use N a fb sc) (chk M use N b fb sc) (.inl e) = true := h
    unfold kCmp at h
    split at h
    · rename_i e
      cases e
      simp only [Bool.and_eq_true, decide_eq_true_eq] at h
      obtain ⟨⟨⟨rfl, h1⟩, h2⟩, h3⟩ := h
      exact o_cmpT g h1 (ia.pe X sc W fb g hf _ h2) (ib.pe X sc W fb g hf _ h3)
    · cases h
theorem cs_chain {kk kk' : CmpK} (ia : CS G C M use N k a) (ib : CS G C M use N k b) (ic : CS G C M use N k c) : CS G C M use N k (.chain kk kk' a b c) := by
  refine ⟨fun X sc W fb g hf e h => ?_, fun X sc W fb g hf e h => ?_, fun X sc W fb g hf q e h => by simp [isAnd, isOr] at q, fun X sc W fb g hf es h => (by cases h), fun X sc W fb g hf kws ks es hk h => (by cases h)⟩
  · replace h : kChain kk.op kk'.op (chk M use N a fb sc) (chk M use N b fb sc) (chk M use N c fb sc) (.inl e) = true := h
    unfold kChain at h
    split at h
    · rename_i e
      cases e
      simp only [Bool.and_eq_true, decide_eq_true_eq] at h
      obtain ⟨⟨⟨⟨⟨⟨rfl, rfl⟩, h1⟩, h2⟩, h3⟩, h4⟩, h5⟩ := h
      exact o_chain g h1 h2 (ia.pe X sc W fb g hf _ h3) (ib.pe X sc W fb g hf _ h4) (ic.pe X sc W fb g hf _ h5)
    · cases h
  · replace h : kChain kk.op kk'.op (chk M use N a fb sc) (chk M use N b fb sc) (chk M use N c fb sc) (.inl e) = true := h
    unfold kChain at h
    split at h
    · rename_i e
      cases e
      simp only [Bool.and_eq_true, decide_eq_true_eq] at h
      obtain ⟨⟨⟨⟨⟨⟨rfl, rfl⟩, h1⟩, h2⟩, h3⟩, h4⟩, h5⟩ := h
      exact o_chainT g h1 h2 (ia.pe X sc W fb g hf _ h3) (ib.pe X sc W fb g hf _ h4) (ic.pe X sc W fb g hf _ h5)
    · cases h
theorem cs_and (ia : CS G C M use N k a) (ib : CS G C M use N k b) : CS G C M use N k (.and a b) := by
  have key : ∀ (X : Cx) (sc : Scope) (W : WX) (fb : Str → Bool), Good G C M use N k X sc W → (∀ x, fb x = true → X.fn x = true) → ∀ e, chk M use N (.and a b) fb sc (.inl e) = true → PE X e (tE G C W (.and a b)) ∧ PW X e (tB (tE G C W (.and a b))) := by
    intro X sc W fb g hf e h
    replace h : kBool .And (isAnd b) (chk M use N a fb sc) (chk M use N b fb sc) (.inl e) = true := h
    unfold kBool at h
    split at h
    · rename_i e
      cases e
      simp only [Bool.and_eq_true, decide_eq_true_eq] at h
      obtain ⟨⟨rfl, h2⟩, h3⟩ := h
      exact ⟨o_and (ia.pe X sc W fb g hf _ h2) (pe_one (ib.pe X sc W fb g hf _ h3)), o_andW (ia.pt X sc W fb g hf _ h2) (pw_and1 (ib.pt X sc W fb g hf _ h3))⟩
    · rename_i e
      cases e
      simp only [Bool.and_eq_true, decide_eq_true_eq] at h
      obtain ⟨⟨⟨rfl, h1⟩, h2⟩, h3⟩ := h
      exact ⟨o_and (ia.pe X sc W fb g hf _ h2) (ib.pe X sc W fb g hf _ h3), o_andW (ia.pt X sc W fb g hf _ h2) (ib.pw X sc W fb g hf (.inl h1) _ h3)⟩
    · cases h
  exact ⟨fun X sc W fb g hf e h => (key X sc W fb g hf e h).1, fun X sc W fb g hf e h => (key X sc W fb g hf e h).2.pt, fun X sc W fb g hf q e h => (key X sc W fb g hf e h).2, fun X sc W fb g hf es h => (by cases h), fun X sc W fb g hf kws ks es hk h => (by cases h)⟩
theorem cs_or (ia : CS G C M use N k a) (ib : CS G C M use N k b) : CS G C M use N k (.or a b) := by
  have key : ∀ (X : Cx) (sc : Scope) (W : WX) (fb : Str → Bool), Good G C M use N k X sc W → (∀ x, fb x = true → X.fn x = true) → ∀ e, chk M use N (.or a b) fb sc (.inl e) = true → PE X e (tE G C W (.or a b)) ∧ PW X e (tB (tE G C W (.or a b))) := by
    intro X sc W fb g hf e h
    replace h : kBool .Or (isOr b) (chk M use N a fb sc) (chk M use N b fb sc) (.inl e) = true := h
    unfold kBool at h
    split at h
    · rename_i e
      cases e
      simp only [Bool.and_eq_true, decide_eq_true_eq] at h
      obtain ⟨⟨rfl, h2⟩, h3⟩ := h
      exact ⟨o_or (ia.pe X sc W fb g hf _ h2) (pe_one (ib.pe X sc W fb g hf _ h3)), o_orW (ia.pt X sc W fb g hf _ h2) (pw_or1 (ib.pt X sc W fb g hf _ h3))⟩
    · rename_i e
      cases e
      simp only [Bool.and_eq_true, decide_eq_true_eq] at h
      obtain ⟨⟨⟨rfl, h1⟩, h2⟩, h3⟩ := h
      exact ⟨o_or (ia.pe X sc W fb g hf _ h2) (ib.pe X sc W fb g hf _ h3), o_orW (ia.pt X sc W fb g hf _ h2) (ib.pw X sc W fb g hf (.inr h1) _ h3)⟩
    · cases h
  exact ⟨fun X sc W fb g hf e h => (key X sc W fb g hf e h).1, fun X sc W fb g hf e h => (key X sc W fb g hf e h).2.pt, fun X sc W fb g hf q e h => (key X sc W fb g hf e h).2, fun X sc W fb g hf es h => (by cases h), fun X sc W fb g hf kws ks es hk h => (by cases h)⟩
theorem cs_ite (ic : CS G C M use N k c) (ia : CS G C M use N k a) (ib : CS G C M use N k b) : CS G C M use N k (.ite c a b) := by
  refine ⟨fun X sc W fb g hf e h => ?_, fun X sc W fb g hf e h => ?_, fun X sc W fb g hf q e h => by simp [isAnd, isOr] at q, fun X sc W fb g hf es h => (by cases h), fun X sc W fb g hf kws ks es hk h => (by cases h)⟩
  · replace h : kIte (chk M use N c fb sc) (chk M use N a fb sc) (chk M use N b fb sc) (.inl e) = true := h
    unfold kIte at h
    split at h
    · rename_i e
      cases e
      simp only [Bool.and_eq_true] at h
      exact o_ite (ic.pt X sc W fb g hf _ h.1.1) (ia.pe X sc W fb g hf _ h.1.2) (ib.pe X sc W fb g hf _ h.2)
    · cases h
  · replace h : kIte (chk M use N c fb sc) (chk M use N a fb sc) (chk M use N b fb sc) (.inl e) = true := h
    unfold kIte at h
    split at h
    · rename_i e
      cases e
      simp only [Bool.and_eq_true] at h
      exact o_iteT (ic.pt X sc W fb g hf _ h.1.1) (ia.pt X sc W fb g hf _ h.1.2) (ib.pt X sc W fb g hf _ h.2)
    · cases h
theorem cs_tup {n : Nat} (ia : CS G C M use N k a) : CS G C M use N k (.tup n a) := by
  refine CS.of (fun X sc W fb g hf e h => ?_) rfl rfl (fun _ _ _ => rfl)
  replace h : kTup n (nE a) (chk M use N a fb sc) (.inl e) = true := h
  unfold kTup at h
  split at h
  · rename_i e
    cases e
    simp only [Bool.and_eq_true, beq_iff_eq] at h
    exact ⟨o_tup g h.1.symm (ia.pa X sc W fb g hf _ h.2), rfl⟩
  · cases h
theorem cs_lst {n : Nat} (ia : CS G C M use N k a) : CS G C M use N k (.lst n a) := by
  refine CS.of (fun X sc W fb g hf e h => ?_) rfl rfl (fun _ _ _ => rfl)
  replace h : kLst n (nE a) (chk M use N a fb sc) (.inl e) = true := h
  unfold kLst at h
  split at h
  · rename_i e
    cases e
    simp only [Bool.and_eq_true, beq_iff_eq] at h
    exact ⟨o_lst g h.1.symm (ia.pa X sc W fb g hf _ h.2), rfl⟩
  · cases h
theorem cs_idx (ia : CS G C M use N k a) (ib : CS G C M use N k b) : CS G C M use N k (.idx a b) := by
  refine CS.of (fun X sc W fb g hf e h => ?_) rfl rfl (fun _ _ _ => rfl)
  replace h : kIdx (chk M use N a fb sc) (chk M use N b fb sc) (.inl e) = true := h
  unfold kIdx at h
  split at h
  · rename_i e
    cases e
    simp only [Bool.and_eq_true] at h
    exact ⟨o_idx g h.1.1 (ia.pe X sc W fb g hf _ h.1.2) (ib.pe X sc W fb g hf _ h.2), rfl⟩
  · cases h
theorem cs_part {X : Cx} {sc : Scope} {W : WX} {fb : Str → Bool} {cl : E} {l : Option Expr} (ic : CS G C M use N k cl) (g : Good G C M use N k X sc W) (hf : ∀ x, fb x = true → X.fn x = true) (h : kPart (notNone cl) (chk M use N cl fb sc) l = true) : PO X l (tP G C W cl) := by
  unfold kPart at h
  split at h
  · have e : cl = .lit .non := by
      unfold notNone at h
      split at h
      · rfl
      · cases h
    subst e
    exact part_none
  · simp only [Bool.and_eq_true] at h
    exact part_some h.1 (ic.pe X sc W fb g hf _ h.2)
theorem cs_slc (ia : CS G C M use N k a) (ib : CS G C M use N k b) (ic : CS G C M use N k c) : CS G C M use N k (.slc a b c) := by
  refine CS.of (fun X sc W fb g hf e h => ?_) rfl rfl (fun _ _ _ => rfl)
  replace h : kSlc (notNone b) (notNone c) (chk M use N a fb sc) (chk M use N b fb sc) (chk M use N c fb sc) (.inl e) = true := h
  unfold kSlc at h
  split at h
  · rename_i e
    cases e
    simp only [Bool.and_eq_true] at h
    exact ⟨o_slc g (ia.pe X sc W fb g hf _ h.1.1) (cs_part ib g hf h.1.2) (cs_part ic g hf h.2), rfl⟩
  · cases h
theorem cs_call (hC : CMono C) {f n : Nat} (ia : CS G C M use N k a) : CS G C M use N k (.call f n a) := by
  refine CS.of (fun X sc W fb g hf e h => ?_) rfl rfl (fun _ _ _ => rfl)
  replace h : kCall M use sc f n (nE a) (chk M use N a fb sc) (.inl e) = true := h
  unfold kCall at h
  split at h
  · rename_i e
    cases e
    simp only [Bool.and_eq_true, beq_iff_eq, List.contains_iff_mem] at h
    obtain ⟨⟨⟨⟨⟨⟨h1, h2⟩, h3⟩, h4⟩, h5⟩, h6⟩, h7⟩ := h
    split at h1
    · rename_i p ep
      simp only [Bool.and_eq_true, decide_eq_true_eq, beq_iff_eq] at h1
      exact ⟨o_call g hC (ps := p.2) (by rw [ep, ← h1.1]) h2 h1.2 h4 h5 h3.symm h6 (ia.pa X sc W fb g hf _ h7), rfl⟩
    · cases h1
  · cases h
theorem cs_callk (hC : CMono C) {f n : Nat} {perm : List Nat} (ia : CS G C M use N k a) : CS G C M use N k (.callk f n perm a) := by
  refine CS.of (fun X sc W fb g hf e h => ?_) rfl rfl (fun _ _ _ => rfl)
  replace h : kCallk M use sc f n (nE a) perm (chk M use N a fb sc) (.inl e) = true := h
  unfold kCallk at h
  split at h
  · rename_i e
    cases e
    simp only [Bool.and_eq_true, beq_iff_eq, List.contains_iff_mem] at h
    obtain ⟨⟨⟨⟨⟨h1, h2⟩, h3⟩, h4⟩, h5⟩, h6⟩ := h
    split at h1
    · rename_i p ep
      simp only [Bool.and_eq_true, decide_eq_true_eq, beq_iff_eq] at h1
      split at h6
      · rename_i q eq
        simp only [Bool.and_eq_true, decide_eq_true_eq, beq_iff_eq] at h6
        exact ⟨o_callk g hC (ps := p.2) (ks := q.1) (es := q.2) (by rw [ep, ← h1.1]) h2 h1.2 h4 h5 h3.symm h6.1.1 eq h6.1.2 (ia.pk X sc W fb g hf _ _ _ eq h6.2), rfl⟩
      · cases h6
    · cases h1
  · cases h
theorem cs_bi {kk : BiK} {n : Nat} (ia : CS G C M use N k a) : CS G C M use N k (.bi kk n a) := by
  refine CS.of (fun X sc W fb g hf e h => ?_) rfl rfl (fun _ _ _ => rfl)
  replace h : kBi M sc kk n (nE a) (chk M use N a fb sc) (.inl e) = true := h
  unfold kBi at h
  split at h
  · rename_i e
    cases e
    simp only [Bool.and_eq_true, beq_iff_eq, List.contains_iff_mem, decide_eq_true_eq] at h
    obtain ⟨⟨⟨⟨⟨⟨rfl, h2⟩, h3⟩, h4⟩, h5⟩, h6⟩, h7⟩ := h
    refine ⟨?_, rfl⟩
    cases hc : kk.cls with
    | false => exact o_bi g rfl h4 h5 (okN_bi kk) (boot_of kk h2) hc h3.symm h6 (ia.pa X sc W fb g hf _ h7)
    | true => exact o_biT g h4 h5 (okN_bi kk) (boot_of kk h2) hc h3.symm h6 (ia.pa X sc W fb g hf _ h7)
  · cases h
theorem cs_rgl1 {t : Bool} (ia : CS G C M use N k a) : CS G C M use N k (.rgl1 t a) := by
  refine CS.of (fun X sc W fb g hf e h => ?_) rfl rfl (fun _ _ _ => rfl)
  replace h : kRgl1 M sc t (chk M use N a fb sc) (.inl e) = true := h
  unfold kRgl1 at h
  split at h
  · rename_i e
    cases e
    simp only [Bool.and_eq_true, List.contains_iff_mem, decide_eq_true_eq] at h
    obtain ⟨⟨⟨⟨⟨⟨⟨h1, h2⟩, h3⟩, h4⟩, h5⟩, h6⟩, h7⟩, h8⟩ := h
    exact ⟨o_rgl1 g h1 h2 h3 h4 h5 h6 h7 (ia.pe X sc W fb g hf _ h8), rfl⟩
  · cases h
theorem cs_rgl2 {t : Bool} (ia : CS G C M use N k a) (ib : CS G C M use N k b) : CS G C M use N k (.rgl2 t a b) := by
  refine CS.of (fun X sc W fb g hf e h => ?_) rfl rfl (fun _ _ _ => rfl)
  replace h : kRgl2 M sc t (chk M use N a fb sc) (chk M use N b fb sc) (.inl e) = true := h
  unfold kRgl2 at h
  split at h
  · rename_i e
    cases e
    simp only [Bool.and_eq_true, List.contains_iff_mem, decide_eq_true_eq] at h
    obtain ⟨⟨⟨⟨⟨⟨⟨⟨⟨h1, h2⟩, h3⟩, h4⟩, h5⟩, h6⟩, h7⟩, h8⟩, h9⟩, h10⟩ := h
    exact ⟨o_rgl2 g h1 h2 h3 h4 h5 h6 h7 h8 (ia.pe X sc W fb g hf _ h9) (ib.pe X sc W fb g hf _ h10), rfl⟩
  · cases h
theorem cs_isi (ia : CS G C M use N k a) (ib : CS G C M use N k b) : CS G C M use N k (.isi a b) := by
  refine CS.of (fun X sc W fb g hf e h => ?_) rfl rfl (fun _ _ _ => rfl)
  replace h : kIsi M sc (chk M use N a fb sc) (chk M use N b fb sc) (.inl e) = true := h
  unfold kIsi at h
  split at h
  · rename_i e
    cases e
    simp only [Bool.and_eq_true, List.contains_iff_mem, decide_eq_true_eq] at h
    obtain ⟨⟨⟨⟨⟨⟨h1, h2⟩, h3⟩, h4⟩, h5⟩, h6⟩, h7⟩ := h
    exact ⟨o_isi g h1 h2 h3 h4 h5 (ia.pe X sc W fb g hf _ h6) (ib.pe X sc W fb g hf _ h7), rfl⟩
  · cases h
theorem cs_isiT {ns : List String} (ia : CS G C M use N k a) : CS G C M use N k (.isiT a ns) := by
  refine CS.of (fun X sc W fb g hf e h => ?_) rfl rfl (fun _ _ _ => rfl)
  replace h : kIsiT M sc ns (chk M use N a fb sc) (.inl e) = true := h
  unfold kIsiT at h
  split at h
  · rename_i e
    cases e
    simp only [Bool.and_eq_true, List.contains_iff_mem, decide_eq_true_eq, Bool.not_eq_true', List.isEmpty_eq_false_iff] at h
    obtain ⟨⟨⟨⟨⟨⟨⟨h1, h2⟩, h3⟩, h4⟩, h5⟩, h6⟩, h7⟩, h8⟩ := h
    exact ⟨o_isiT g h1 h2 h3 h4 (ia.pe X sc W fb g hf _ h8) h5 h6 h7, rfl⟩
  · cases h
end
end DP

set_option Elab.async false
set_option linter.all false
set_option maxRecDepth 100000
set_option maxHeartbeats 1000000
/-! E12: the check is sound. -/
namespace DP
open PySem PySem.Spec PyProof.Rows L2
section
variable {G : GC} {C : Ctx} {M : MD} {use : List Nat} {N : List Str} {k : Nat}
variable {a b c : E}
theorem chkI_ok {X : Cx} {sc : Scope} {W : WX} {fb : Str → Bool} {it : ItK} {n : Nat} {src : E} {tg iter : Expr} (is : CS G C M use N k src) (g : Good G C M use N k X sc W) (hf : ∀ x, fb x = true → X.fn x = true)
    (h : chkI M sc it n src tg iter (chk M use N src fb sc) = true) : PI X tg iter (tI G C W it n src) := by
  unfold chkI at h
  cases it <;> dsimp only at h
  case seq =>
    simp only [Bool.and_eq_true, beq_iff_eq] at h
    obtain ⟨rfl, h⟩ := h
    exact i_seq g (is.pe X sc W fb g hf _ h)
  case range1 =>
    split at h
    · simp only [Bool.and_eq_true, beq_iff_eq, List.contains_iff_mem, decide_eq_true_eq] at h
      obtain ⟨⟨⟨⟨⟨⟨rfl, h2⟩, h3⟩, h4⟩, h5⟩, h6⟩, h7⟩ := h
      exact i_range1 g h3 h4 h5 h6 h2 (is.pa X sc W fb g hf _ h7)
    · cases h
  case range2 =>
    split at h
    · simp only [Bool.and_eq_true, beq_iff_eq, List.contains_iff_mem, decide_eq_true_eq] at h
      obtain ⟨⟨⟨⟨⟨⟨⟨rfl, h2⟩, h3⟩, h4⟩, h5⟩, h6⟩, h7⟩, h8⟩ := h
      exact i_range2 g h3 h4 h5 h6 h7 h2 (is.pa X sc W fb g hf _ h8)
    · cases h
  case zip =>
    split at h
    · simp only [Bool.and_eq_true, beq_iff_eq, List.contains_iff_mem, decide_eq_true_eq] at h
      obtain ⟨⟨⟨⟨⟨⟨⟨rfl, h2⟩, h3⟩, h4⟩, h5⟩, h6⟩, h7⟩, h8⟩ := h
      exact i_zip g h3 h4 h5 h6 h7 h2 (is.pa X sc W fb g hf _ h8)
    · cases h
  all_goals cases h
theorem cs_lc {own : List Nat} {tg : T} {it : ItK} {n : Nat} {src : E} {hc : Bool} {elt : E} (is : CS G C M use N k src) (ic : CS G C M use N k c) (ie : CS G C M use N k elt) : CS G C M use N k (.lc own tg it n src hc c elt) := by
  refine CS.of (fun X sc W fb g hf e h => ?_) rfl rfl (fun _ _ _ => rfl)
  replace h : kLc M N sc own tg it n src hc (chk M use N src fb sc) (chk M use N c) (chk M use N elt) (.inl e) = true := h
  unfold kLc at h
  split at h
  · rename_i e
    cases e
    simp only [Bool.and_eq_true, decide_eq_true_eq] at h
    obtain ⟨⟨⟨⟨⟨⟨⟨rfl, h2⟩, h3⟩, h4⟩, h5⟩, h6⟩, h7⟩, h8⟩ := h
    refine ⟨?_, rfl⟩
    have hown := ownL_snd N own
    suffices key : PE X _ (tE G C W (.lc ((ownL N own).map (·.2)) tg it n src hc c elt)) by rw [hown] at key; exact key
    refine o_lc (cc := c) (ca := elt) g h2 h3 (by rw [hown]; exact h4)
      (chkI_ok is g hf h5) (fun X' g' hfn => (g_T g' (fnB := cellB _) (fun x hx => by rw [hfn]; exact hx) tg).1 _ h6) (fun X' g' hfn => ?_) (fun X' g' hfn => ie.pe X' _ _ (cellB _) g' (fun x hx => by rw [hfn]; exact hx) _ h8)
    · unfold kIfs at h7
      unfold ifsOk
      split at h7
      · simp only [Bool.and_eq_true] at h7
        obtain ⟨rfl, h7⟩ := h7
        exact ⟨_, rfl, ic.pt X' _ _ (cellB _) g' (fun x hx => by rw [hfn]; exact hx) _ h7⟩
      · have h7 : hc = false := by simpa using h7
        subst h7
        rfl
      · cases h7
  · cases h
theorem cs_lcb {own : List Nat} {tg : T} {i : Nat} {hc : Bool} {elt : E} (ic : CS G C M use N k c) (ie : CS G C M use N k elt) : CS G C M use N k (.lcb own tg i hc c elt) := by
  refine CS.of (fun X sc W fb g hf e h => ?_) rfl rfl (fun _ _ _ => rfl)
  replace h : kLcb N sc own tg i hc (chk M use N c) (chk M use N elt) (.inl e) = true := h
  unfold kLcb at h
  split at h
  · rename_i e
    cases e
    simp only [Bool.and_eq_true, decide_eq_true_eq] at h
    obtain ⟨⟨⟨⟨⟨⟨⟨⟨rfl, h1⟩, h2⟩, h2'⟩, h3⟩, h4⟩, h6⟩, h7⟩, h8⟩ := h
    refine ⟨?_, rfl⟩
    have hown := ownL_snd N own
    suffices key : PE X _ (tE G C W (.lcb ((ownL N own).map (·.2)) tg i hc c elt)) by rw [hown] at key; exact key
    refine o_lcb (cc := c) (ca := elt) g h1 h2 h2' h3 (by rw [hown]; exact h4)
      (fun X' g' hfn => (g_T g' (fnB := cellB _) (fun x hx => by rw [hfn]; exact hx) tg).1 _ h6) (fun X' g' hfn => ?_) (fun X' g' hfn => ie.pe X' _ _ (cellB _) g' (fun x hx => by rw [hfn]; exact hx) _ h8)
    · unfold kIfs at h7
      unfold ifsOk
      split at h7
      · simp only [Bool.and_eq_true] at h7
        obtain ⟨rfl, h7⟩ := h7
        exact ⟨_, rfl, ic.pt X' _ _ (cellB _) g' (fun x hx => by rw [hfn]; exact hx) _ h7⟩
      · have h7 : hc = false := by simpa using h7
        subst h7
        rfl
      · cases h7
  · cases h
theorem cs_dc {own : List Nat} {tg : T} {it : ItK} {n : Nat} {src : E} {hc : Bool} {key val : E} (is : CS G C M use N k src) (ic : CS G C M use N k c) (ie : CS G C M use N k key) (iv : CS G C M use N k val) : CS G C M use N k (.dc own tg it n src hc c key val) := by
  refine CS.of (fun X sc W fb g hf e h => ?_) rfl rfl (fun _ _ _ => rfl)
  replace h : kDc M N sc own tg it n src hc (chk M use N src fb sc) (chk M use N c) (chk M use N key) (chk M use N val) (.inl e) = true := h
  unfold kDc at h
  split at h
  · rename_i e
    cases e
    simp only [Bool.and_eq_true, decide_eq_true_eq] at h
    obtain ⟨⟨⟨⟨⟨⟨⟨⟨rfl, h2⟩, h3⟩, h4⟩, h5⟩, h6⟩, h7⟩, h8⟩, h9⟩ := h
    refine ⟨?_, rfl⟩
    have hown := ownL_snd N own
    suffices key : PE X _ (tE G C W (.dc ((ownL N own).map (·.2)) tg it n src hc c key val)) by rw [hown] at key; exact key
    refine o_dc (cc := c) (ck := key) (cv := val) g h2 h3 (by rw [hown]; exact h4)
      (chkI_ok is g hf h5) (fun X' g' hfn => (g_T g' (fnB := cellB _) (fun x hx => by rw [hfn]; exact hx) tg).1 _ h6) (fun X' g' hfn => ?_) (fun X' g' hfn => ie.pe X' _ _ (cellB _) g' (fun x hx => by rw [hfn]; exact hx) _ h8) (fun X' g' hfn => iv.pe X' _ _ (cellB _) g' (fun x hx => by rw [hfn]; exact hx) _ h9)
    · unfold kIfs at h7
      unfold ifsOk
      split at h7
      · simp only [Bool.and_eq_true] at h7
        obtain ⟨rfl, h7⟩ := h7
        exact ⟨_, rfl, ic.pt X' _ _ (cellB _) g' (fun x hx => by rw [hfn]; exact hx) _ h7⟩
      · have h7 : hc = false := by simpa using h7
        subst h7
        rfl
      · cases h7
  · cases h
theorem meth_inv {sc : Scope} {nm : Str} {i : Nat} {A : ES → Bool} {e : Expr} (h : kMeth N sc nm i A (.inl e) = true) : ∃ x p ap y pos, e = .Call (.Attribute (.Name x p) nm ap) [y] [] pos ∧ N[i]? = some x ∧ visB sc x = true ∧ okN x = true ∧ (ap.endLine == pos.line) = true ∧ ordB y = true ∧ A (.inl y) = true := by
  unfold kMeth at h
  split at h
  · rename_i e
    cases e
    simp only [Bool.and_eq_true, decide_eq_true_eq] at h
    obtain ⟨⟨⟨⟨⟨⟨rfl, h2⟩, h3⟩, h4⟩, h5⟩, h6⟩, h7⟩ := h
    exact ⟨_, _, _, _, _, rfl, h2, h3, h4, h5, h6, h7⟩
  · cases h
theorem cs_append {i : Nat} (ia : CS G C M use N k a) : CS G C M use N k (.append i a) := by
  refine CS.of (fun X sc W fb g hf e h => ?_) rfl rfl (fun _ _ _ => rfl)
  obtain ⟨x, p, ap, y, pos, rfl, h2, h3, h4, h5, h6, h7⟩ := meth_inv (A := chk M use N a fb sc) h
  exact ⟨o_append g h2 h3 h4 h5 h6 (ia.pe X sc W fb g hf _ h7), rfl⟩
theorem cs_extend {i : Nat} (ia : CS G C M use N k a) : CS G C M use N k (.extend i a) := by
  refine CS.of (fun X sc W fb g hf e h => ?_) rfl rfl (fun _ _ _ => rfl)
  obtain ⟨x, p, ap, y, pos, rfl, h2, h3, h4, h5, h6, h7⟩ := meth_inv (A := chk M use N a fb sc) h
  exact ⟨o_extend g h2 h3 h4 h5 h6 (ia.pe X sc W fb g hf _ h7), rfl⟩
theorem cs_edct : CS G C M use N k .edct := by
  refine CS.of (fun X sc W fb g hf e h => ?_) rfl rfl (fun _ _ _ => rfl)
  replace h : kEdct (.inl e) = true := h
  unfold kEdct at h
  split at h
  · rename_i e
    cases e
    exact ⟨o_edct g, rfl⟩
  · cases h
theorem cs_srt {w : Option Nat} (ia : CS G C M use N k a) : CS G C M use N k (.srt w a) := by
  refine CS.of (fun X sc W fb g hf e h => ?_) rfl rfl (fun _ _ _ => rfl)
  replace h : kSrt M use sc w (chk M use N a fb sc) (.inl e) = true := h
  unfold kSrt at h
  split at h
  · rename_i sx p y kn kv kq pos e
    cases e
    simp only [Bool.and_eq_true, decide_eq_true_eq, List.contains_iff_mem] at h
    obtain ⟨⟨⟨⟨⟨⟨h1, rfl⟩, h2⟩, h3⟩, h4⟩, h5⟩, h6⟩ := h
    refine ⟨?_, rfl⟩
    cases w with
    | none =>
      simp only [Bool.and_eq_true, List.contains_iff_mem] at h6
      exact o_srtl g h1 h2 h3 h6.1.1 h4 h6.1.2 h6.2 (ia.pe X sc W fb g hf _ h5)
    | some f =>
      dsimp only at h6
      split at h6
      · simp only [Bool.and_eq_true, List.contains_iff_mem] at h6
        obtain ⟨⟨⟨h7, h8⟩, h9⟩, h10⟩ := h6
        split at h7
        · rename_i q eq
          rw [decide_eq_true_eq] at h7
          obtain ⟨q1, q2⟩ := q
          have h7 : q1 = _ := h7
          subst h7
          exact o_srtf g h1 h2 h3 h4 eq h8 h9 h10 (ia.pe X sc W fb g hf _ h5)
        · cases h7
      · cases h6
  · cases h
theorem cs_ctch (hC : CMono C) {gg : Nat} {loc : Bool} {h : Nat} {is : List Nat} : CS G C M use N k (.ctch gg loc h is) := by
  refine CS.of (fun X sc W fb g hf e hh => ?_) rfl rfl (fun _ _ _ => rfl)
  replace hh : kCtch M use N sc gg loc h is (.inl e) = true := hh
  unfold kCtch at hh
  split at hh
  · rename_i e
    cases e
    simp only [Bool.and_eq_true, List.contains_iff_mem] at hh
    obtain ⟨⟨⟨⟨⟨⟨h1, h2⟩, h3⟩, h4⟩, h5⟩, h6⟩, h7⟩ := hh
    refine ⟨?_, rfl⟩
    split at h1
    · rename_i q eq
      rw [decide_eq_true_eq] at h1
      obtain ⟨q1, q2⟩ := q
      have h1 : q1 = _ := h1
      subst h1
      exact o_ctch g hC eq h2 h3 h4 h5 h6 h7
    · cases h1
  · cases hh
theorem cs_popAt {i : Nat} (ia : CS G C M use N k a) : CS G C M use N k (.popAt i a) := by
  refine CS.of (fun X sc W fb g hf e h => ?_) rfl rfl (fun _ _ _ => rfl)
  obtain ⟨x, p, ap, y, pos, rfl, h2, h3, h4, h5, h6, h7⟩ := meth_inv (A := chk M use N a fb sc) h
  exact ⟨o_popAt g h2 h3 h4 h5 h6 (ia.pe X sc W fb g hf _ h7), rfl⟩
theorem cs_pop {i : Nat} : CS G C M use N k (.pop i) := by
  refine CS.of (fun X sc W fb g hf e h => ?_) rfl rfl (fun _ _ _ => rfl)
  replace h : kMeth0 N sc "pop" i (.inl e) = true := h
  unfold kMeth0 at h
  split at h
  · rename_i e
    cases e
    simp only [Bool.and_eq_true, decide_eq_true_eq] at h
    obtain ⟨⟨⟨⟨rfl, h2⟩, h3⟩, h4⟩, h5⟩ := h
    exact ⟨o_pop g h2 h3 h4 h5, rfl⟩
  · cases h
theorem chk_ok (hC : CMono C) : ∀ c : E, CS G C M use N k c := by
  intro c
  induction c with
  | nil => exact cs_nil
  | cons a r ia ir => exact cs_cons ia ir
  | var i => exact cs_var
  | lit d => exact cs_lit
  | fnv f => exact cs_fnv
  | clv f => exact cs_clv
  | tyv f => exact cs_tyv
  | cst f => exact cs_cst
  | neg a ia => exact cs_neg ia
  | not a ia => exact cs_not ia
  | bin k a b ia ib => exact cs_bin ia ib
  | cmp k a b ia ib => exact cs_cmp ia ib
  | chain k k' a b c ia ib ic => exact cs_chain ia ib ic
  | and a b ia ib => exact cs_and ia ib
  | or a b ia ib => exact cs_or ia ib
  | ite c a b ic ia ib => exact cs_ite ic ia ib
  | tup n es ia => exact cs_tup ia
  | lst n es ia => exact cs_lst ia
  | idx a i ia ii => exact cs_idx ia ii
  | slc a lo hi ia il ih => exact cs_slc ia il ih
  | call f n es ia => exact cs_call hC ia
  | callk f n perm es ia => exact cs_callk hC ia
  | bi k n es ia => exact cs_bi ia
  | rgl1 t a ia => exact cs_rgl1 ia
  | rgl2 t a b ia ib => exact cs_rgl2 ia ib
  | isi a t ia it => exact cs_isi ia it
  | isiT a ns ia => exact cs_isiT ia
  | lc own tg it n src hc c elt is ic ie => exact cs_lc is ic ie
  | lcb own tg i hc c elt ic ie => exact cs_lcb ic ie
  | dc own tg it n src hc c key val is ic ik iv => exact cs_dc is ic ik iv
  | append i a ia => exact cs_append ia
  | extend i a ia => exact cs_extend ia
  | pop i => exact cs_pop
  | popAt i a ia => exact cs_popAt ia
  | edct => exact cs_edct
  | srt w a ia => exact cs_srt ia
  | ctch gg loc h is => exact cs_ctch hC
end
end DP

set_option Elab.async false
set_option linter.all false
set_option maxRecDepth 100000
set_option maxHeartbeats 1000000
/-! E13: statements. -/
namespace DP
open PySem PySem.Spec PyProof.Rows L2
section
variable {G : GC} {s : St} {σ : L2.St} {vs : List (Option V)} {H : Hp} {gl gk : List GS}
def Fx : GS → Prop
  | .sh _ _ => True
  | .ow _ _ => True
  | _ => False
theorem Fx.nbr {g : GS} (h : Fx g) : ∀ j w, g ≠ .br j w := by intro j w e; subst e; exact h
theorem Rel.unb (ok : G.Ok) (R : Rel G s σ vs H gl gk) {ga gr : List GS} {g : GS} (ek : gk = ga ++ g :: gr) {l : List Slot} {x : Slot} (h : DP.unb s.l g.slot = some (l, x)) :
    ∃ gl' g', Rel G ⟨l, (ga ++ g' :: gr).map GS.slot⟩ σ vs H gl' (ga ++ g' :: gr) ∧ g'.slot = x ∧ g'.val = g.val ∧ Fx g' := by
  have es : s = ⟨s.l, gk.map GS.slot⟩ := by rw [R.ek]
  cases g with
  | emp o => cases h
  | crd o => cases h
  | sh d v => cases h; refine ⟨gl, .sh d v, ?_, rfl, rfl, trivial⟩; rw [← ek, ← es]; exact R
  | ow d p => cases h; refine ⟨gl, .ow d p, ?_, rfl, rfl, trivial⟩; rw [← ek, ← es]; exact R
  | br j v =>
    have h : (lv s.l j).map (fun d => (DP.frz1 s.l j, Slot.sh d)) = some (l, x) := h
    cases e : lv s.l j with
    | none => rw [e] at h; cases h
    | some d =>
      rw [e] at h
      cases h
      obtain ⟨gl', R1, av, hv⟩ := R.frz1 ok j
      obtain ⟨v', e1, hr⟩ := hv d e
      have e2 : σ[j]? = some (some v) := R.bv j v (by rw [ek]; simp)
      rw [e2] at e1
      cases e1
      subst ek
      have ho : owns (ga ++ GS.sh d v :: gr) = owns (ga ++ GS.br j v :: gr) := by rw [owns_mid, owns_mid]; rfl
      have av' : ∀ a, Av G gl' (ga ++ GS.sh d v :: gr) a → Av G gl' (ga ++ GS.br j v :: gr) a := fun a z => by unfold Av at *; rwa [ho] at z
      refine ⟨gl', .sh d v, R1.re R1.el rfl R1.vl (by rw [← R1.vk]; simp [GS.val]) (by rw [ho]; exact R1.nd) (fun p hp => by rw [ho] at hp; exact hp) (fun y hy => ?_) R1.nb (fun i w hw => ?_) (Nat.add_le_add_left (by show cred _ ≤ cred s.k; rw [← R.ek]; simp only [List.map_append, List.map_cons, cred_append, cred, GS.slot, Slot.cr]; exact Nat.le_refl _) _), rfl, rfl, trivial⟩
      · rcases List.mem_append.mp hy with z | z
        · exact .inl (List.mem_append_left _ z)
        · rcases List.mem_append.mp z with z | z
          · exact .inl (List.mem_append_right _ (List.mem_append_left _ z))
          · rcases List.mem_cons.mp z with z | z
            · subst z; exact .inr (Rep.sub (fun a z => .inl (av' a z)) _ _ hr)
            · exact .inl (List.mem_append_right _ (List.mem_append_right _ (List.mem_cons_of_mem _ z)))
      · rcases List.mem_append.mp hw with z | z
        · exact R1.bv i w (List.mem_append_left _ z)
        · rcases List.mem_cons.mp z with z | z
          · cases z
          · exact R1.bv i w (List.mem_append_right _ (List.mem_cons_of_mem _ z))
theorem Rel.unbs (ok : G.Ok) : ∀ (n : Nat) {s : St} {gl : List GS} (ga gb : List GS) {l k : List Slot}, Rel G s σ vs H gl (ga ++ gb) → DP.unbs n (gb.map GS.slot) s.l = some (l, k) →
    ∃ gl' gb', Rel G ⟨l, (ga ++ gb').map GS.slot⟩ σ vs H gl' (ga ++ gb') ∧ gb'.map GS.slot = k ∧ gb'.map GS.val = gb.map GS.val ∧ ∀ g ∈ gb'.take n, Fx g
  | 0, s, gl, ga, gb, l, k, R, h => by
    cases h
    refine ⟨gl, gb, ?_, rfl, rfl, fun g hg => by simp at hg⟩
    have es : s = ⟨s.l, (ga ++ gb).map GS.slot⟩ := by rw [R.ek]
    rw [← es]; exact R
  | n + 1, s, gl, ga, [], l, k, R, h => by cases h
  | n + 1, s, gl, ga, g :: gb, l, k, R, h => by
    have h : (DP.unb s.l g.slot).bind (fun p => (DP.unbs n (gb.map GS.slot) p.1).map fun q => (q.1, p.2 :: q.2)) = some (l, k) := h
    cases e : DP.unb s.l g.slot with
    | none => rw [e] at h; cases h
    | some p =>
      rw [e] at h
      have h : (DP.unbs n (gb.map GS.slot) p.1).map (fun q => (q.1, p.2 :: q.2)) = some (l, k) := h
      cases e2 : DP.unbs n (gb.map GS.slot) p.1 with
      | none => rw [e2] at h; cases h
      | some q =>
        rw [e2] at h
        cases h
        obtain ⟨gl1, g1, R1, x1, x2, x3⟩ := R.unb ok rfl e
        have R1' : Rel G ⟨p.1, ((ga ++ [g1]) ++ gb).map GS.slot⟩ σ vs H gl1 ((ga ++ [g1]) ++ gb) := by simpa using R1
        obtain ⟨gl2, gb2, R2, y1, y2, y3⟩ := Rel.unbs ok n (ga ++ [g1]) gb R1' e2
        refine ⟨gl2, g1 :: gb2, by simpa using R2, by rw [List.map_cons, x1, y1], by rw [List.map_cons, x2, y2, List.map_cons], fun g hg => ?_⟩
        rcases List.mem_cons.mp (show g ∈ g1 :: gb2.take n from hg) with z | z
        · rw [z]; exact x3
        · exact y3 g z
/-- the top goes into a local -/
theorem Rel.store (R : Rel G s σ vs H gl gk) {g : GS} {gr : List GS} (ek : gk = g :: gr) (fx : Fx g) {i : Nat} (hb : ∀ w, GS.br i w ∉ gr) :
    ∃ gl', Rel G ⟨s.l.set i g.slot, gr.map GS.slot⟩ (σ.set i g.val) (gr.map GS.val) H gl' gr := by
  subst ek
  have R1 := R.pop rfl
  have e1 : (⟨s.l, s.k.tail⟩ : St) = ⟨s.l, gr.map GS.slot⟩ := by rw [← R.ek]; rfl
  have e2 : vs.tail = gr.map GS.val := by rw [← R.vk]; rfl
  rw [e1, e2] at R1
  cases g with
  | emp o => exact fx.elim
  | crd o => exact fx.elim
  | br j w => exact fx.elim
  | sh d v =>
    have hr : Rep G.m (Av G gl gr) H d v := by
      have := R.rp (.sh d v) (List.mem_append_right _ List.mem_cons_self)
      exact Rep.sub (fun a z => .inl (by unfold Av at *; rw [owns_cons]; exact z)) _ _ this
    obtain ⟨gl', R2, _⟩ := R1.set_sh hb hr
    exact ⟨gl', R2⟩
  | ow d p =>
    by_cases hi : i < s.l.length
    · obtain ⟨gl', R2⟩ := R.set_ow rfl hb hi
      have a1 : s.k.tail = gr.map GS.slot := by rw [← R.ek]; rfl
      have R3 : Rel G ⟨s.l.set i (.ow d), s.k.tail⟩ (σ.set i (some (.ref p))) vs.tail H gl' gr := R2
      rw [a1, e2] at R3
      exact ⟨gl', R3⟩
    · have q1 := congrArg List.length R1.el
      have q2 := congrArg List.length R1.vl
      rw [List.length_map] at q1 q2
      have q1 : gl.length = s.l.length := q1
      rw [List.set_eq_of_length_le (by omega), List.set_eq_of_length_le (by omega)]
      exact ⟨gl, R1⟩
def stv : List Nat → List (Option V) → L2.St → L2.St
  | i :: is, x :: k, σ => stv is k (σ.set i x)
  | _, _, σ => σ
theorem Rel.stores : ∀ (is : List Nat) (gt : List GS) {gr : List GS} {s : St} {σ : L2.St} {vs : List (Option V)} {gl : List GS}, Rel G s σ vs H gl (gt ++ gr) → gt.length = is.length → (∀ g ∈ gt, Fx g) → (∀ i ∈ is, ∀ w, GS.br i w ∉ gr) →
    ∃ gl', Rel G ⟨sts is (gt.map GS.slot) s.l, gr.map GS.slot⟩ (stv is (gt.map GS.val) σ) (gr.map GS.val) H gl' gr
  | [], [], gr, s, σ, vs, gl, R, _, _, _ => by
    refine ⟨gl, ?_⟩
    show Rel G ⟨s.l, gr.map GS.slot⟩ σ (gr.map GS.val) H gl gr
    have es : s = ⟨s.l, gr.map GS.slot⟩ := by rw [show gr.map GS.slot = s.k from R.ek]
    rw [← es, show gr.map GS.val = vs from R.vk]
    exact R
  | [], _ :: _, _, _, _, _, _, _, h, _, _ => by simp at h
  | _ :: _, [], _, _, _, _, _, _, h, _, _ => by simp at h
  | i :: is, g :: gt, gr, s, σ, vs, gl, R, h, hf, hb => by
    obtain ⟨gl1, R1⟩ := R.store (g := g) (gr := gt ++ gr) rfl (hf g List.mem_cons_self) (i := i) (fun w hm => by
      rcases List.mem_append.mp hm with z | z
      · exact (hf _ (List.mem_cons_of_mem _ z))
      · exact hb i List.mem_cons_self w z)
    exact Rel.stores is gt R1 (by simpa using h) (fun g hg => hf g (List.mem_cons_of_mem _ hg)) (fun i hi => hb i (List.mem_cons_of_mem _ hi))
end

/-! ### statements, one by one -/
/-- what is wanted behind a statement is enough -/
structure EO (G : GC) (W : WX) (vs : List (Option V)) (D : Ends) (N : En) : Prop where
  nx : ∀ s σ H gl gk, N.nx s → Rel G s σ vs H gl gk → D.nx σ H
  bk : ∀ s σ H gl gk, N.bk s → Rel G s σ vs H gl gk → D.bk σ H
  ct : ∀ s σ H gl gk, N.ct s → Rel G s σ vs H gl gk → D.ct σ H
  rt : ∀ d fr v H, N.rt d fr → Ret G.m G.A G.c0 G.H0 H d fr v → D.rt v H
  ex : ∀ x s σ vs1 H gl gk cls d, N.ex x s → Rel G s σ vs1 H gl gk → ExR G.m H x cls d → W cls d σ H
def tS (G : GC) (C : Ctx) (W : WX) (c : S) : TS := fun D σ H => ∃ s vs gl gk N, Rel G s σ vs H gl gk ∧ EO G W vs D N ∧ ws C c s N
theorem EO.eq {G : GC} {W : WX} {vs : List (Option V)} {D : Ends} {N : En} (h : EO G W vs D N) (σ : L2.St) : EQ G W σ N.ex := fun x s1 vs1 H1 gl1 gk1 cls d R ex q => h.ex x s1 σ vs1 H1 gl1 gk1 cls d q R ex
theorem ps_conv {X : Cx} {e : Stmt} {t t' : TS} (h : PS X e t) (i : ∀ D σ H, t' D σ H → t D σ H) : PS X e t' := ⟨fun pins s σ H Q I q => h.run pins s σ H Q I (i Q σ H q)⟩
theorem pss_conv {X : Cx} {e : List Stmt} {t t' : TS} (h : PSs X e t) (i : ∀ D σ H, t' D σ H → t D σ H) : PSs X e t' := ⟨fun pins s σ H Q I q => h.run pins s σ H Q I (i Q σ H q)⟩
section
variable {G : GC} {C : Ctx} {W : WX} {M : MD} {use : List Nat} {N : List Str} {k : Nat} {X : Cx} {sc : Scope}
variable {e a b c : Expr} {ca cb cc : E} {pos : Pos} {st : Stmt} {sts' : List Stmt} {sa sb : S}
theorem s_skip : PSs X [] (tS G C W .skip) := by
  refine pss_conv pss_nil fun D σ H h => ?_
  obtain ⟨s, vs, gl, gk, Nn, R, eo, w⟩ := h
  exact eo.nx _ _ _ _ _ w R
theorem s_seq (ha : PS X st (tS G C W sa)) (hb : PSs X sts' (tS G C W sb)) : PSs X (st :: sts') (tS G C W (.seq sa sb)) := by
  refine pss_conv (pss_cons ha hb) fun D σ H h => ?_
  obtain ⟨s, vs, gl, gk, Nn, R, eo, w⟩ := h
  exact ⟨s, vs, gl, gk, { Nn with nx := fun s1 => ws C sb s1 Nn }, R, ⟨fun s1 σ1 H1 gl1 gk1 q R1 => ⟨s1, vs, gl1, gk1, Nn, R1, eo, q⟩, eo.bk, eo.ct, eo.rt, eo.ex⟩, w⟩
theorem s_never : PS X st (tS G C W .never) := by
  refine ps_conv ps_never fun D σ H h => ?_
  obtain ⟨s, vs, gl, gk, Nn, R, eo, w⟩ := h
  exact w
theorem s_break : PS X (.Break pos) (tS G C W .brk) := by
  refine ps_conv ps_break fun D σ H h => ?_
  obtain ⟨s, vs, gl, gk, Nn, R, eo, w⟩ := h
  exact eo.bk _ _ _ _ _ w R
theorem s_cont : PS X (.Continue pos) (tS G C W .cont) := by
  refine ps_conv ps_continue fun D σ H h => ?_
  obtain ⟨s, vs, gl, gk, Nn, R, eo, w⟩ := h
  exact eo.ct _ _ _ _ _ w R
def notComp : Expr → Bool
  | .ListComp .. => false
  | .SetComp .. => false
  | .DictComp .. => false
  | _ => true
theorem sw_not {t : Option Expr} {l : Nat} {env : Env} (h : notComp e = true) : swapsWith e t l env = pure false := by
  cases e <;> first | rfl | (simp [notComp] at h)
theorem s_ex (hn : notComp e = true) (he : PE X e (tE G C W ca)) : PS X (.Expr e pos) (tS G C W (.ex ca)) := by
  refine ps_conv (ps_expr he (sw_not hn)) fun D σ H h => ?_
  obtain ⟨s, vs, gl, gk, Nn, R, eo, w⟩ := h
  refine ⟨s, vs, gl, gk, _, _, R, fun s1 v H1 gl1 gk1 p R1 => ?_, eo.eq σ, w⟩
  split at p
  · rename_i x k0 hk
    have R2 := R1.pops 1
    rw [hk] at R2
    exact eo.nx _ _ _ _ _ p R2.1
  · exact p.elim
theorem s_retn : PS X (.Return none pos) (tS G C W .retn) := by
  refine ps_conv ps_retN fun D σ H h => ?_
  obtain ⟨s, vs, gl, gk, Nn, R, eo, w⟩ := h
  exact eo.rt _ _ _ _ w ⟨R.ke, R.j.le (Nat.le_add_right _ _), rfl⟩
theorem s_ret (he : PE X e (tE G C W ca)) : PS X (.Return (some e) pos) (tS G C W (.ret ca)) := by
  refine ps_conv (ps_ret he) fun D σ H h => ?_
  obtain ⟨s, vs, gl, gk, Nn, R, eo, w⟩ := h
  refine ⟨s, vs, gl, gk, _, _, R, fun s1 v H1 gl1 gk1 p R1 => ?_, eo.eq σ, w⟩
  have ek := R1.ek
  have vk := R1.vk
  have sub : ∀ a, G.A a → Av G gl1 gk1 a ∨ ¬ Nt H1 a := fun a z => .inl (.inl z)
  have ow : ∀ d p, GS.ow d p ∈ gl1 ++ gk1 → Ret G.m G.A G.c0 G.H0 H1 d true (.ref p) := fun d p hm => by
    have hp : p ∈ owns gl1 ++ owns gk1 := by
      rcases List.mem_append.mp hm with z | z
      · exact List.mem_append_left _ (mem_owns.mpr ⟨d, z⟩)
      · exact List.mem_append_right _ (mem_owns.mpr ⟨d, z⟩)
    refine ⟨R1.ke, R1.j.le (Nat.le_add_right _ _), p, rfl, R1.fr p hp, OwAt.sub (fun a z => .inl ?_) (R1.rp _ hm)⟩
    rcases z with z | z
    · exact .inl z
    · subst z; exact .inr hp
  split at p
  · rename_i d k0 hk
    cases hg : gk1 with
    | nil => rw [hg, hk] at ek; cases ek
    | cons g gr =>
      rw [hg, hk] at ek
      rw [hg] at vk
      simp only [List.map_cons, List.cons.injEq] at ek vk
      cases g with
      | sh d' v' =>
        have e1 : d' = d := by simpa [GS.slot] using ek.1
        have e2 : v' = v := by simpa [GS.val] using vk.1
        subst e1 e2
        exact eo.rt _ _ _ _ p ⟨R1.ke, R1.j.le (Nat.le_add_right _ _), Rep.sub sub _ _ (R1.rp (.sh d' v') (by rw [hg]; exact List.mem_append_right _ List.mem_cons_self))⟩
      | _ => simp [GS.slot] at ek
  · rename_i d k0 hk
    cases hg : gk1 with
    | nil => rw [hg, hk] at ek; cases ek
    | cons g gr =>
      rw [hg, hk] at ek
      rw [hg] at vk
      simp only [List.map_cons, List.cons.injEq] at ek vk
      cases g with
      | ow d' p' =>
        have e1 : d' = d := by simpa [GS.slot] using ek.1
        have e2 : .ref p' = v := by simpa [GS.val] using vk.1
        subst e1 e2
        exact eo.rt _ _ _ _ p (ow d' p' (by rw [hg]; exact List.mem_append_right _ List.mem_cons_self))
      | _ => simp [GS.slot] at ek
  · rename_i j k0 hk
    have hv : σ[j]? = some (some v) := by
      cases hg : gk1 with
      | nil => rw [hg, hk] at ek; cases ek
      | cons g gr =>
        rw [hg, hk] at ek
        rw [hg] at vk
        simp only [List.map_cons, List.cons.injEq] at ek vk
        cases g with
        | br j' v' =>
          have e1 : j' = j := by simpa [GS.slot] using ek.1
          have e2 : v' = v := by simpa [GS.val] using vk.1
          subst e1 e2
          exact R1.bv j' v' (by rw [hg]; exact List.mem_cons_self)
        | _ => simp [GS.slot] at ek
    split at p
    · rename_i d ed
      obtain ⟨g, hg, es⟩ := R1.loc ed
      have hv' := R1.locv hg
      rw [hv] at hv'
      cases g with
      | ow d' p' =>
        have e1 : d' = d := by simpa [GS.slot] using es
        have e2 : v = .ref p' := by simpa [GS.val] using hv'
        subst e1 e2
        exact eo.rt _ _ _ _ p (ow d' p' (List.mem_append_left _ (List.mem_of_getElem? hg)))
      | _ => simp [GS.slot] at es
    · rename_i d ed
      obtain ⟨g, hg, es⟩ := R1.loc ed
      have hv' := R1.locv hg
      rw [hv] at hv'
      cases g with
      | sh d' v' =>
        have e1 : d' = d := by simpa [GS.slot] using es
        have e2 : v = v' := by simpa [GS.val] using hv'
        subst e1 e2
        exact eo.rt _ _ _ _ p ⟨R1.ke, R1.j.le (Nat.le_add_right _ _), Rep.sub sub _ _ (R1.rp (.sh d' v) (List.mem_append_left _ (List.mem_of_getElem? hg)))⟩
      | _ => simp [GS.slot] at es
    · exact p.elim
  · exact p.elim
theorem s_ite {pa pb : List Stmt} (hc : PT X c (tB (tE G C W cc))) (ha : PSs X pa (tS G C W sa)) (hb : PSs X pb (tS G C W sb)) : PS X (.If c pa pb pos) (tS G C W (.ite cc sa sb)) := by
  refine ps_conv (ps_if hc ha hb) fun D σ H h => ?_
  obtain ⟨s, vs, gl, gk, Nn, R, eo, w⟩ := h
  refine ⟨s, vs, gl, gk, _, _, R, fun s1 v H1 gl1 gk1 p R1 => ?_, eo.eq σ, w⟩
  obtain ⟨r, s4, gk4, e, q, R4⟩ := R1.topB p
  refine ⟨r, e, ?_⟩
  cases r with
  | true => exact ⟨_, _, _, _, Nn, R4, eo, q⟩
  | false => exact ⟨_, _, _, _, Nn, R4, eo, q⟩
end
end DP

set_option Elab.async false
set_option linter.all false
set_option maxRecDepth 100000
set_option maxHeartbeats 1000000
/-! E14: assignments, loops. -/
namespace DP
open PySem PySem.Spec PyProof.Rows L2
section
variable {G : GC} {C : Ctx} {W : WX} {M : MD} {use : List Nat} {N : List Str} {k : Nat} {X : Cx} {sc : Scope}
variable {e a b c : Expr} {ca cb cc : E} {pos : Pos} {st : Stmt} {sa sb : S}
theorem set_top (ok : G.Ok) {i : Nat} {s1 : St} {σ : L2.St} {v : V} {vs : List (Option V)} {H1 : Hp} {gl1 gk1 : List GS} {Q : St → Prop} (R1 : Rel G s1 σ (some v :: vs) H1 gl1 gk1)
    (p : match s1.k with
      | .sh d :: k => nbrs k [i] = true ∧ Q ⟨s1.l.set i (.sh d), k⟩
      | .ow d :: k => nbrs k [i] = true ∧ Q ⟨s1.l.set i (.ow d), k⟩
      | .br j :: k => nbrs k [i] = true ∧ ∃ d, lv s1.l j = some d ∧ Q ⟨(frz1 s1.l j).set i (.sh d), k⟩
      | _ => False) : ∃ s2 gl2 gk2, Rel G s2 (σ.set i (some v)) vs H1 gl2 gk2 ∧ Q s2 := by
  have ek := R1.ek
  have vk := R1.vk
  cases hg : gk1 with
  | nil => rw [hg] at vk; cases vk
  | cons g gr =>
    rw [hg] at ek vk
    simp only [List.map_cons, List.cons.injEq] at ek vk
    obtain ⟨v1, v2⟩ := vk
    have key : ∀ {l : List Slot} {x : Slot}, DP.unb s1.l g.slot = some (l, x) → nbrs (gr.map GS.slot) [i] = true → ∃ gl2, Rel G ⟨l.set i x, gr.map GS.slot⟩ (σ.set i (some v)) vs H1 gl2 gr := by
      intro l x hu hn
      obtain ⟨gl', g', R2, x1, x2, fx⟩ := R1.unb ok (ga := []) (gr := gr) (g := g) hg hu
      have R2 : Rel G ⟨l, (g' :: gr).map GS.slot⟩ σ _ H1 gl' (g' :: gr) := R2
      have R2b := (R2.pop rfl)
      obtain ⟨gl2, R3⟩ := R2.store rfl fx (i := i) (fun w hm => nbrs_ok R2b (is := [i]) (i := i) hn List.mem_cons_self w hm)
      rw [x1, x2, v1, v2] at R3
      exact ⟨gl2, R3⟩
    rw [← ek] at p
    cases g with
    | emp o => exact p.elim
    | crd o => exact p.elim
    | sh d u => obtain ⟨gl2, R3⟩ := key (l := s1.l) (x := .sh d) rfl p.1; exact ⟨_, _, _, R3, p.2⟩
    | ow d u => obtain ⟨gl2, R3⟩ := key (l := s1.l) (x := .ow d) rfl p.1; exact ⟨_, _, _, R3, p.2⟩
    | br j u =>
      obtain ⟨p1, d, hd, q⟩ := p
      obtain ⟨gl2, R3⟩ := key (l := frz1 s1.l j) (x := .sh d) (by show (lv s1.l j).map _ = _; rw [hd]; rfl) p1
      exact ⟨_, _, _, R3, q⟩
theorem set_conv (g : Good G C M use N k X sc W) {i : Nat} {st : Stmt} (h : PS X st (tAsg (tE G C W ca) (gName i))) : PS X st (tS G C W (.set i ca)) := by
  refine ps_conv h fun D σ H h => ?_
  obtain ⟨s, vs, gl, gk, Nn, R, eo, w⟩ := h
  refine ⟨s, vs, gl, gk, _, _, R, fun s1 v H1 gl1 gk1 p R1 => ?_, eo.eq σ, w⟩
  obtain ⟨s2, gl2, gk2, R2, q⟩ := set_top g.ok R1 p
  exact eo.nx _ _ _ _ _ q R2
def annB (sc : Scope) : Bool := (if sc.kind.isAnnotationScope then .function else sc.kind) == .function
def swB (sc : Scope) (t : Str) (pos : Pos) : Expr → Bool
  | .ListComp a b s p => annB sc && sc.names.lookup t == some .local && pos.line == p.line && !(s.names.any fun (n, k) => n == t && (k == .local || k == .cell))
  | .SetComp a s b p => true
  | .DictComp a b c s p => true
  | _ => false
theorem swB_ok {sc : Scope} {env : Env} {t : Str} {pos : Pos} {l : Nat} {e : Expr} {r : Bool} (hs : env.scope = sc) (h : swB sc t pos e = r) (hd : match e with | .SetComp .. => False | .DictComp .. => False | _ => True) : swapsWith e (some (.Name t pos)) l env = pure r := by
  subst h hs
  cases e <;> first | exact hd.elim | rfl
def stB (sc : Scope) (fb : Str → Bool) (x : Str) : Bool := match sc.names.lookup x with
  | some .local => true
  | some .cell => fb x
  | _ => false
theorem stB_ok {fb : Str → Bool} {x : Str} (hf : ∀ x, fb x = true → X.fn x = true) (hs : X.env.scope = sc) (h : stB sc fb x = true) : Loc X.env.scope x ∧ (X.fn x = true ∨ X.env.scope.names.lookup x = some .local) := by
  subst hs
  unfold stB at h
  split at h
  · rename_i e; exact ⟨.inl e, .inr e⟩
  · rename_i e; exact ⟨.inr e, .inl (hf x h)⟩
  · cases h
theorem s_set (g : Good G C M use N k X sc W) {fb : Str → Bool} (hf : ∀ x, fb x = true → X.fn x = true) {i : Nat} {x : Str} {p : Pos} (hi : N[i]? = some x) (hx : stB sc fb x = true) (hn : swB sc x p e = false) (he : PE X e (tE G C W ca)) :
    PS X (.Assign [.Name x p] e pos) (tS G C W (.set i ca)) := by
  obtain ⟨h1, h2⟩ := stB_ok hf g.sc hx
  refine set_conv g (ps_set (by rw [g.nm]; exact g.nd) (by rw [g.nm]; exact hi) h1 he (swB_ok g.sc hn ?_) h2)
  cases e <;> first | trivial | (simp [swB] at hn)
theorem sw_tup {es : List Expr} {kk : Nat} {tp : Pos} {l : Nat} {env : Env} {e : Expr} : swapsWithSole [.Tuple es kk tp] e l env = pure false := by cases e <;> rfl
theorem nosw {ts : List Expr} {kk : Nat} {tp : Pos} {env : Env} {e : Expr} (h : match e with | .Tuple .. => False | _ => True) : swappedStores [.Tuple ts kk tp] e env = pure none := by
  cases e <;> first | exact h.elim | rfl
/-- a tuple of names, all of them locals on one line -/
def swL (sc : Scope) (ts : List Expr) : List Str := ts.filterMap fun
    | .Name id pos => if sc.names.lookup id == some .local && pos.line == (ts.head?.map (·.pos.line)).getD 0 then some id else none
    | _ => none
/-- the stores of a tuple's display into a tuple are swapped (some true), are not (some false) -/
def swT (sc : Scope) (ts vs : List Expr) : Option Bool :=
  if !(ts.length == 2 || ts.length == 3) || vs.length != ts.length || !annB sc then some false
  else if vs.any fun | .Starred .. => true | _ => false then some false
  else if (swL sc ts).length != ts.length || (swL sc ts).eraseDups.length != (swL sc ts).length then some false
  else if vs.all (foldedForSure 8) then some false
  else if vs.all (constantsAlone 8) then none
  else some true
theorem swT_ok {ts vs : List Expr} {kt kv : Nat} {pt pv : Pos} {env : Env} {r : Bool} (hs : env.scope = sc) (h : swT sc ts vs = some r) : swappedStores [.Tuple ts kt pt] (.Tuple vs kv pv) env = pure (if r then some (swL sc ts) else none) := by
  subst hs
  unfold swT at h
  unfold swappedStores
  have hb : (env.blockKind != .function) = !annB env.scope := by unfold Env.blockKind annB; rfl
  dsimp only
  rw [hb]
  split at h
  · rename_i c; cases h; exact if_pos c
  · rename_i c1
    split at h
    · rename_i c; cases h; exact (if_neg c1).trans (if_pos c)
    · rename_i c2
      split at h
      · rename_i c; cases h; exact (if_neg c1).trans ((if_neg c2).trans (if_pos c))
      · rename_i c3
        split at h
        · rename_i c; cases h; exact (if_neg c1).trans ((if_neg c2).trans ((if_neg c3).trans (if_pos c)))
        · rename_i c4
          split at h
          · cases h
          · rename_i c5; cases h; exact (if_neg c1).trans ((if_neg c2).trans ((if_neg c3).trans ((if_neg c4).trans (if_neg c5))))
theorem s_setT (g : Good G C M use N k X sc W) {fb : Str → Bool} (hf : ∀ x, fb x = true → X.fn x = true) {t : T} {es : List Expr} {kk : Nat} {tp : Pos} (ht : chkT N sc fb t (.inl (.Tuple es kk tp)) = true) (hw : swappedStores [.Tuple es kk tp] e X.env = pure none) (he : PE X e (tE G C W ca)) :
    PS X (.Assign [.Tuple es kk tp] e pos) (tS G C W (.setT t ca)) := by
  refine ps_conv (ps_asg he ((g_T g hf t).1 _ ht) sw_tup hw rfl) fun D σ H h => ?_
  obtain ⟨s, vs, gl, gk, Nn, R, eo, w⟩ := h
  refine ⟨s, vs, gl, gk, _, _, R, fun s1 v H1 gl1 gk1 p R1 => ?_, eo.eq σ, w⟩
  unfold St.top at p
  split at p
  · rename_i x k0 hk
    obtain ⟨d, hd, hn, l, hl, q⟩ := p
    have hargs : s1.args 1 = some [d] := by
      unfold St.args
      rw [hk]
      simp [svs, hd]
    obtain ⟨gl2, xs2, R2, e2, rep⟩ := R1.gives g.ok hargs
    have exs : xs2 = [v] := (map_some_inj (ys := [v]) e2.symm)
    subst exs
    rw [hk] at R2 hl
    refine ⟨⟨frz s1.l [x], k0⟩, vs, gl2, gk1.drop 1, d, l, R2, tops_of_reps rep, hl, hn, fun σ' gl' R3 _ _ => eo.nx _ _ _ _ _ q R3⟩
  · exact p.elim
theorem par_top (ok : G.Ok) {is : List Nat} {s1 : St} {σ : L2.St} {xs : List V} {vs : List (Option V)} {H1 : Hp} {gl1 gk1 : List GS} {Q : St → Prop} (R1 : Rel G s1 σ (xs.reverse.map some ++ vs) H1 gl1 gk1) (hl : xs.length = is.length)
    (p : ∃ l k, unbs is.length s1.k s1.l = some (l, k) ∧ nbrs (k.drop is.length) is = true ∧ Q ⟨sts is.reverse (k.take is.length) l, k.drop is.length⟩) : ∃ s2 gl2 gk2, Rel G s2 (stv is.reverse (xs.reverse.map some) σ) vs H1 gl2 gk2 ∧ Q s2 := by
  obtain ⟨l, k, hu, hn, q⟩ := p
  have ek := R1.ek
  have vk := R1.vk
  rw [← ek] at hu
  obtain ⟨gl2, gb, R2, y1, y2, y3⟩ := Rel.unbs ok is.length [] gk1 (show Rel G s1 σ _ H1 gl1 ([] ++ gk1) from R1) hu
  have R2 : Rel G ⟨l, gb.map GS.slot⟩ σ _ H1 gl2 gb := R2
  have hlen : is.length ≤ gb.length := by
    have := congrArg List.length (y2.trans vk)
    simp at this
    omega
  have e1 : gb = gb.take is.length ++ gb.drop is.length := (List.take_append_drop _ _).symm
  have R3 : Rel G ⟨l, gb.map GS.slot⟩ σ (xs.reverse.map some ++ vs) H1 gl2 (gb.take is.length ++ gb.drop is.length) := by rw [← e1]; exact R2
  have Rd := (R2.pops is.length).1
  have hnb : nbrs ((gb.map GS.slot).drop is.length) is = true := by rw [y1]; exact hn
  obtain ⟨gl3, R4⟩ := Rel.stores is.reverse (gb.take is.length) R3 (by rw [List.length_take, List.length_reverse]; omega) y3 (fun i hi w hm => nbrs_ok Rd (is := is) (i := i) hnb (List.mem_reverse.mp hi) w hm)
  have v1 : (gb.take is.length).map GS.val = xs.reverse.map some := by rw [List.map_take, y2, vk, ← hl, ← List.length_reverse, ← List.length_map (f := some), List.take_left]
  have v2 : (gb.drop is.length).map GS.val = vs := by rw [List.map_drop, y2, vk, ← hl, ← List.length_reverse, ← List.length_map (f := some), List.drop_left]
  have k1 : (gb.take is.length).map GS.slot = k.take is.length := by rw [List.map_take, y1]
  have k2 : (gb.drop is.length).map GS.slot = k.drop is.length := by rw [List.map_drop, y1]
  rw [v1, v2, k1, k2] at R4
  exact ⟨_, _, _, R4, q⟩
theorem s_par2 (g : Good G C M use N k X sc W) {i j : Nat} {x y : Str} {px py pt pv : Pos} {kt kv : Nat} (hi : N[i]? = some x) (hj : N[j]? = some y) (hij : i ≠ j) (hx : sc.names.lookup x = some .local) (hy : sc.names.lookup y = some .local)
    (hw : swappedStores [.Tuple [.Name x px, .Name y py] kt pt] (.Tuple [a, b] kv pv) X.env = pure (some [x, y])) (hn : nE ca = 2) (ha : PA X [a, b] (tA G C W ca)) :
    PS X (.Assign [.Tuple [.Name x px, .Name y py] kt pt] (.Tuple [a, b] kv pv) pos) (tS G C W (.par [i, j] ca)) := by
  refine ps_conv (ps_par g.calm (by rw [g.nm]; exact g.nd) (by rw [g.nm]; exact hi) (by rw [g.nm]; exact hj) hij (by rw [g.sc]; exact hx) (by rw [g.sc]; exact hy) ha hw sw_tup) fun D σ H h => ?_
  obtain ⟨s, vs, gl, gk, Nn, R, eo, w⟩ := h
  refine ⟨s, vs, gl, gk, _, _, R, fun s1 xs H1 gl1 gk1 hl p R1 => ?_, eo.eq σ, w⟩
  rw [hn] at hl
  obtain ⟨s2, gl2, gk2, R2, q⟩ := par_top g.ok (is := [i, j]) R1 hl p
  match xs, hl with
  | [v, u], _ =>
    refine ⟨v, u, rfl, ?_⟩
    rw [List.set_comm _ _ hij]
    exact eo.nx _ _ _ _ _ q R2
theorem s_par3 (g : Good G C M use N k X sc W) {i j l : Nat} {x y z : Str} {px py pz pt pv : Pos} {kt kv : Nat} (hi : N[i]? = some x) (hj : N[j]? = some y) (hl : N[l]? = some z) (hij : i ≠ j) (hil : i ≠ l) (hjl : j ≠ l) (hx : sc.names.lookup x = some .local) (hy : sc.names.lookup y = some .local) (hz : sc.names.lookup z = some .local)
    (hw : swappedStores [.Tuple [.Name x px, .Name y py, .Name z pz] kt pt] (.Tuple [a, b, c] kv pv) X.env = pure (some [x, y, z])) (hn : nE ca = 3) (ha : PA X [a, b, c] (tA G C W ca)) :
    PS X (.Assign [.Tuple [.Name x px, .Name y py, .Name z pz] kt pt] (.Tuple [a, b, c] kv pv) pos) (tS G C W (.par [i, j, l] ca)) := by
  refine ps_conv (ps_par3 g.calm (by rw [g.nm]; exact g.nd) (by rw [g.nm]; exact hi) (by rw [g.nm]; exact hj) (by rw [g.nm]; exact hl) hij hil hjl (by rw [g.sc]; exact hx) (by rw [g.sc]; exact hy) (by rw [g.sc]; exact hz) ha hw sw_tup) fun D σ H h => ?_
  obtain ⟨s, vs, gl, gk, Nn, R, eo, w⟩ := h
  refine ⟨s, vs, gl, gk, _, _, R, fun s1 xs H1 gl1 gk1 hl p R1 => ?_, eo.eq σ, w⟩
  rw [hn] at hl
  obtain ⟨s2, gl2, gk2, R2, q⟩ := par_top g.ok (is := [i, j, l]) R1 hl p
  match xs, hl with
  | [v, u, w], _ =>
    refine ⟨v, u, w, rfl, ?_⟩
    have e : ((σ.set i (some v)).set j (some u)).set l (some w) = ((σ.set l (some w)).set j (some u)).set i (some v) := by
      rw [List.set_comm _ _ hij, List.set_comm _ _ hil, List.set_comm _ _ hjl]
    rw [e]
    exact eo.nx _ _ _ _ _ q R2
end
end DP

set_option Elab.async false
set_option linter.all false
set_option maxRecDepth 100000
set_option maxHeartbeats 1000000
/-! E15: loops. -/
namespace DP
open PySem PySem.Spec PyProof.Rows L2
section
variable {G : GC} {C : Ctx} {W : WX} {M : MD} {use : List Nat} {N : List Str} {k : Nat} {X : Cx} {sc : Scope}
variable {e a b c : Expr} {ca cb cc : E} {pos : Pos} {st : Stmt} {sa sb : S}
def wfbody (C : Ctx) (tg : T) (body : S) (base : List Slot) : D → St → En → Prop := fun x s2 N2 => s2.k = base ∧ ∃ l, asgn tg (.inl x) s2.l = some l ∧ ws C body ⟨l, s2.k⟩ N2
theorem wf_k {tg : T} {body : S} {base : List Slot} {Nn : En} {n : Nat} : ∀ {items : List D} {s : St}, wfor (wfbody C tg body base) items s { Nn with nx := fun s3 => s3.k = base ∧ Nn.nx (s3.pops n) } → s.k = base
  | [], _, h => h.1
  | _ :: _, _, h => h.1
theorem s_for (g : Good G C M use N k X sc W) (hp : PassesOwn (model X.prog X.w) X.A X.env X.xe) {tg : T} {it : ItK} {n : Nat} {src : E} {tgE iter : Expr} {body : List Stmt} (hns : notSet iter = true)
    (hi : PI X tgE iter (tI G C W it n src)) (ht : PG X tgE (tG G tg)) (hb : PSs X body (tS G C W sa)) : PS X (.For tgE iter body [] pos) (tS G C W (.forr it n src tg sa)) := by
  refine ps_conv (ps_for hp g.calm hi ht hb (notSet_ok hns)) fun D σ H h => ?_
  obtain ⟨s, vs, gl, gk, Nn, R0, eo, w⟩ := h
  refine ⟨s, vs, gl, gk, _, _, R0, eo.eq σ, w, fun s1 xs H1 gl1 gk1 hl p R1 => ?_⟩
  obtain ⟨ds, e1, e2, cnd, items, e3, hcnd, hnb, hw⟩ := p
  refine ⟨ds, cnd, items, e1, e2, e3, hcnd, fun J wd => ?_⟩
  obtain ⟨gl2, gk2, R2⟩ := R1.shd g.ok hl e1
  obtain ⟨base, hbase⟩ : ∃ base, base = (s1.shd n ds).k := ⟨_, rfl⟩
  rw [← hbase] at hnb
  have hw : wfor (wfbody C tg sa base) items (s1.shd n ds) { Nn with nx := fun s3 => s3.k = base ∧ Nn.nx (s3.pops n) } := by rw [hbase]; exact hw
  have hsrc : ∀ {s2 : St} {σ' : L2.St} {H2 : Hp} {gl4 gk4 : List GS}, Rel G s2 σ' (xs.reverse.map some ++ vs) H2 gl4 gk4 → s2.k = base → Reps G.m (Av G gl4 gk4) H2 ds xs := fun R hk =>
    Rel.srcs (by rw [e2, hl]) R (by rw [hk, hbase]; rfl)
  refine for_it (n := items.length) (G := fun H => ∃ A, Reps G.m A H ds xs) (Y := fun i H x H' => J.yld i H x H')
    ⟨fun i H hi ⟨A, r⟩ => (wd A H r).1 i hi, fun H ⟨A, r⟩ => (wd A H r).2.1, fun i H x H' _ _ y => y⟩
    (fun i σ' H => ∃ s2 gl4 gk4, Rel G s2 σ' (xs.reverse.map some ++ vs) H gl4 gk4 ∧ wfor (wfbody C tg sa base) (items.drop i) s2 { Nn with nx := fun s3 => s3.k = base ∧ Nn.nx (s3.pops n) })
    ⟨_, _, _, R2, hw⟩ (fun i σ' H _ ⟨s2, gl4, gk4, R, wc⟩ => ⟨_, hsrc R (wf_k wc)⟩) (fun i x σ' H2 H3 hi ⟨s2, gl4, gk4, R, wc⟩ y => ?_) fun σ' H6 ⟨s6, gl4, gk4, R, wc⟩ => ?_
  · have hk := wf_k wc
    obtain ⟨hkp, hj, d, hd, hr⟩ := (wd _ _ (hsrc R hk)).2.2 i x H3 hi y
    obtain ⟨hi', ed⟩ := List.getElem?_eq_some_iff.mp hd
    rw [List.drop_eq_getElem_cons hi', ed] at wc
    obtain ⟨hk', l, hl', hbody⟩ := (show wfbody C tg sa base d s2 _ from wc)
    have R5 := R.heap g.ok (hkp.mono fun _ z => z.elim) (hj _ R.j)
    refine ⟨s2, _, gl4, gk4, d, l, R5, hr, hl', by rw [hk]; exact hnb, fun σ2 gl6 R7 _ _ => ?_⟩
    refine ⟨⟨l, s2.k⟩, _, gl6, gk4, _, R7, ?_, hbody⟩
    refine ⟨fun s3 σ3 H4 gl7 gk7 q R8 => ⟨s3, gl7, gk7, R8, q⟩, fun s3 σ3 H4 gl7 gk7 q R8 => ?_, fun s3 σ3 H4 gl7 gk7 q R8 => ⟨s3, gl7, gk7, R8, q⟩, eo.rt, eo.ex⟩
    obtain ⟨q1, q2⟩ := (show s3.k = base ∧ Nn.nx (s3.pops n) from q)
    have R9 := (R8.pops n).1
    have ev : (xs.reverse.map some ++ vs).drop n = vs := (take_args (vs := vs) hl).2
    rw [ev] at R9
    exact eo.nx _ _ _ _ _ q2 R9
  · rw [List.drop_length] at wc
    obtain ⟨q1, q2⟩ := (show s6.k = base ∧ Nn.nx (s6.pops n) from wc)
    have R9 := (R.pops n).1
    have ev : (xs.reverse.map some ++ vs).drop n = vs := (take_args (vs := vs) hl).2
    rw [ev] at R9
    exact eo.nx _ _ _ _ _ q2 R9
theorem s_while (g : Good G C M use N k X sc W) (hp : PassesOwn (model X.prog X.w) X.A X.env X.xe) {body : List Stmt} (hc : PT X c (tB (tE G C W cc))) (hb : PSs X body (tS G C W sa)) : PS X (.While c body [] pos) (tS G C W (.whl cc sa)) := by
  refine ps_conv (ps_while hp hc hb) fun D σ H h => ?_
  obtain ⟨s, vs, gl, gk, Nn, R0, eo, m0, w⟩ := h
  refine ⟨fun m σ' H' => ∃ s2 gl4 gk4, Rel G s2 σ' vs H' gl4 gk4 ∧ wwhl (fun s Q => we C cc s Q Nn.ex) (fun s N2 => ws C sa s N2) m s2 Nn, ⟨m0, s, gl, gk, R0, w⟩, ?_⟩
  rintro m σ' H' ⟨s2, gl4, gk4, R, wc⟩
  cases m with
  | zero => exact wc.elim
  | succ m =>
    refine ⟨s2, vs, gl4, gk4, _, _, R, fun s3 v H3 gl5 gk5 p R3 => ?_, eo.eq σ', wc⟩
    obtain ⟨r, s4, gk6, e, q, R4⟩ := R3.topB p
    refine ⟨r, e, ?_⟩
    cases r with
    | true =>
      refine ⟨fun σ' H' => ∃ s2 gl4 gk4, Rel G s2 σ' vs H' gl4 gk4 ∧ wwhl (fun s Q => we C cc s Q Nn.ex) (fun s N2 => ws C sa s N2) m s2 Nn, fun σ1 H1 h1 => ⟨m, by omega, h1⟩, ?_⟩
      refine ⟨s4, vs, _, _, _, R4, ?_, q⟩
      exact ⟨fun s5 σ5 H5 gl7 gk7 q R5 => ⟨s5, gl7, gk7, R5, q⟩, eo.nx, fun s5 σ5 H5 gl7 gk7 q R5 => ⟨s5, gl7, gk7, R5, q⟩, eo.rt, eo.ex⟩
    | false => exact eo.nx _ _ _ _ _ q R4
end
end DP

set_option Elab.async false
set_option linter.all false
set_option maxRecDepth 100000
set_option maxHeartbeats 1000000
/-! E16: the check of statements; its soundness. -/
namespace DP
open PySem PySem.Spec PyProof.Rows L2
/-- where a def's body runs -/
structure GoodS (G : GC) (C : Ctx) (M : MD) (use : List Nat) (N : List Str) (k : Nat) (X : Cx) (sc : Scope) (W : WX) : Prop where
  g : Good G C M use N k X sc W
  hp : PassesOwn (model X.prog X.w) X.A X.env X.xe
  rz : ∀ c x m j p p2 pos, (M.cl c) = some (x, none) → glB sc x = true → okN x = true → PMk X (.Call (.Name x p) [.Constant (.str m) j p2] [] pos) (fun _ H Q => ∃ Ca, G.m.ca c = some Ca ∧ Q (.ref Ca) none H)
  rzf : ∀ c x f e ta p pos, (M.cl c) = some (x, some f) → glB sc x = true → okN x = true → ordB e = true → PE X e ta →
    PMk X (.Call (.Name x p) [e] [] pos) (fun σ H Q => ta σ H fun v H1 => ∃ Ca, G.m.ca c = some Ca ∧ ∀ d, H1 d = none → Q (.ref Ca) (some d) (upd H1 d (.xd [(f, v)])))
  fld : ∀ c x o, (M.cl c) = some (x, o) → C.fld c = o
section
variable {G : GC} {C : Ctx} {W : WX} {M : MD} {use : List Nat} {N : List Str} {k : Nat} {X : Cx} {sc : Scope}
variable {e a b c : Expr} {ca cb cc : E} {pos : Pos} {st : Stmt} {sa sb : S}
theorem s_raise0 (g : GoodS G C M use N k X sc W) {c : Nat} {x m : Str} {j : Nat} {p p2 pos' : Pos} (hc : (M.cl c) = some (x, none)) (hg : glB sc x = true) (ho : okN x = true) :
    PS X (.Raise (some (.Call (.Name x p) [.Constant (.str m) j p2] [] pos')) none pos) (tS G C W (.raise c ca)) := by
  refine ps_conv (ps_raise g.g.calm g.g.tk (g.rz c x m j p p2 pos' hc hg ho)) fun D σ H h => ?_
  obtain ⟨s, vs, gl, gk, Nn, R, eo, w⟩ := h
  have w : (match C.fld c with
      | none => Nn.ex (.exc c []) s
      | some f => we C ca s (fun s1 => s1.top fun d s2 => d.imm = true ∧ Nn.ex (.exc c [(f, d)]) s2) Nn.ex) := w
  rw [g.fld c x none hc] at w
  obtain ⟨Ca, _, hCa⟩ := g.g.cvs c x none hc
  exact ⟨Ca, hCa, eo.ex _ _ _ _ _ _ _ _ _ w R ⟨c, [], Ca, rfl, hCa, rfl, .inl ⟨rfl, rfl⟩⟩⟩
theorem s_raise1 (g : GoodS G C M use N k X sc W) {c : Nat} {x f : Str} {p pos' : Pos} (hc : (M.cl c) = some (x, some f)) (hg : glB sc x = true) (ho : okN x = true) (hoe : ordB e = true) (he : PE X e (tE G C W ca)) :
    PS X (.Raise (some (.Call (.Name x p) [e] [] pos')) none pos) (tS G C W (.raise c ca)) := by
  refine ps_conv (ps_raise g.g.calm g.g.tk (g.rzf c x f e _ p pos' hc hg ho hoe he)) fun D σ H h => ?_
  obtain ⟨s, vs, gl, gk, Nn, R, eo, w⟩ := h
  have w : (match C.fld c with
      | none => Nn.ex (.exc c []) s
      | some f => we C ca s (fun s1 => s1.top fun d s2 => d.imm = true ∧ Nn.ex (.exc c [(f, d)]) s2) Nn.ex) := w
  rw [g.fld c x (some f) hc] at w
  refine ⟨s, vs, gl, gk, _, _, R, fun s1 v H1 gl1 gk1 p R1 => ?_, eo.eq σ, w⟩
  obtain ⟨Ca, _, hCa⟩ := g.g.cvs c x (some f) hc
  obtain ⟨y, s4, gk4, ty, ⟨im, q⟩, R4⟩ := R1.top1 p
  have ry : Rep G.m (Av G gl1 gk4) H1 y v := by cases y <;> first | exact ty | (simp [DP.D.imm] at im)
  refine ⟨Ca, hCa, fun d hd => ?_⟩
  have R5 := (R4.new g.g.ok (o := .xd [(f, v)]) hd).1
  exact eo.ex _ _ _ _ _ _ _ _ _ q R5 ⟨c, [(f, y)], Ca, rfl, hCa, rfl, .inr ⟨f, y, v, d, rfl, rfl, upd_same, Rep.keep g.g.ok.m (Kp.new hd) _ _ (Rep.any _ _ im ry), im⟩⟩
end
def isLC : Expr → Bool
  | .ListComp .. => true
  | _ => false
def swE (sc : Scope) (es : List Expr) : Expr → Bool
  | .Tuple vs _ _ => decide (swT sc es vs = some false)
  | _ => true
theorem swE_ok {sc : Scope} {es : List Expr} {e : Expr} {kt : Nat} {pt : Pos} {env : Env} (hs : env.scope = sc) (h : swE sc es e = true) : swappedStores [.Tuple es kt pt] e env = pure none := by
  cases e with
  | Tuple vs kv pv =>
    have h : decide (swT sc es vs = some false) = true := h
    rw [decide_eq_true_eq] at h
    exact swT_ok hs h
  | _ => rfl
abbrev SS := Stmt ⊕ List Stmt
section
variable (M : MD) (use : List Nat) (N : List Str) (fb : Str → Bool) (sc : Scope)
def hSkip : SS → Bool
  | .inr [] => true
  | _ => false
def hSeq (A B : SS → Bool) : SS → Bool
  | .inr (s :: r) => A (.inl s) && B (.inr r)
  | _ => false
def hEx (A : ES → Bool) : SS → Bool
  | .inl (.Expr e _) => notComp e && A (.inl e)
  | _ => false
def hSet (i : Nat) (A : ES → Bool) : SS → Bool
  | .inl (.Assign [.Name x p] e _) => decide (N[i]? = some x) && stB sc fb x && (!swB sc x p e || (decide (sc.names.lookup x = some .local) && isLC e)) && A (.inl e)
  | _ => false
def hSetT (t : T) (A : ES → Bool) : SS → Bool
  | .inl (.Assign [.Tuple es kk tp] e _) => chkT N sc fb t (.inl (.Tuple es kk tp)) && swE sc es e && A (.inl e)
  | _ => false
def hPar (is : List Nat) (n : Nat) (A : ES → Bool) : SS → Bool
  | .inl (.Assign [.Tuple [.Name x px, .Name y py] kt tp] (.Tuple [a, b] kv vp) _) => (match is with
    | [i, j] => n == 2 && decide (N[i]? = some x) && decide (N[j]? = some y) && decide (i ≠ j) && decide (sc.names.lookup x = some .local) && decide (sc.names.lookup y = some .local) && decide (swT sc [.Name x px, .Name y py] [a, b] = some true) && decide (swL sc [.Name x px, .Name y py] = [x, y]) && A (.inr [a, b])
    | _ => false)
  | .inl (.Assign [.Tuple [.Name x px, .Name y py, .Name z pz] kt tp] (.Tuple [a, b, c] kv vp) _) => (match is with
    | [i, j, l] => n == 3 && decide (N[i]? = some x) && decide (N[j]? = some y) && decide (N[l]? = some z) && decide (i ≠ j) && decide (i ≠ l) && decide (j ≠ l) && decide (sc.names.lookup x = some .local) && decide (sc.names.lookup y = some .local) && decide (sc.names.lookup z = some .local) && decide (swT sc [.Name x px, .Name y py, .Name z pz] [a, b, c] = some true) && decide (swL sc [.Name x px, .Name y py, .Name z pz] = [x, y, z]) && A (.inr [a, b, c])
    | _ => false)
  | _ => false
def hIte (C : ES → Bool) (A B : SS → Bool) : SS → Bool
  | .inl (.If c a b _) => C (.inl c) && A (.inr a) && B (.inr b)
  | _ => false
def hFor (it : ItK) (n : Nat) (src : E) (tg : T) (R : ES → Bool) (A : SS → Bool) : SS → Bool
  | .inl (.For tgE iter body [] _) => notSet iter && chkI M sc it n src tgE iter R && chkT N sc fb tg (.inl tgE) && A (.inr body)
  | _ => false
def hWhl (C : ES → Bool) (A : SS → Bool) : SS → Bool
  | .inl (.While c body [] _) => C (.inl c) && A (.inr body)
  | _ => false
def hRet (A : ES → Bool) : SS → Bool
  | .inl (.Return (some e) _) => A (.inl e)
  | _ => false
def hRetn : SS → Bool
  | .inl (.Return none _) => true
  | _ => false
def hBrk : SS → Bool
  | .inl (.Break _) => true
  | _ => false
def hCont : SS → Bool
  | .inl (.Continue _) => true
  | _ => false
def hRaise (c : Nat) (A : ES → Bool) : SS → Bool
  | .inl (.Raise (some (.Call (.Name x _) [e] [] _)) none _) => (match (M.cl c) with
    | some (y, none) => decide (y = x) && (match e with | .Constant (.str _) _ _ => true | _ => false)
    | some (y, some _) => decide (y = x) && ordB e && A (.inl e)
    | none => false) && glB sc x && okN x
  | _ => false
end
def chkS (M : MD) (use : List Nat) (N : List Str) (fb : Str → Bool) (sc : Scope) : S → SS → Bool
  | .skip => hSkip
  | .seq a b => hSeq (chkS M use N fb sc a) (chkS M use N fb sc b)
  | .ex e => hEx (chk M use N e fb sc)
  | .set i e => hSet N fb sc i (chk M use N e fb sc)
  | .setT t e => hSetT N fb sc t (chk M use N e fb sc)
  | .par is es => hPar N sc is (nE es) (chk M use N es fb sc)
  | .ite c a b => hIte (chk M use N c fb sc) (chkS M use N fb sc a) (chkS M use N fb sc b)
  | .forr it n src tg body => hFor M N fb sc it n src tg (chk M use N src fb sc) (chkS M use N fb sc body)
  | .whl c body => hWhl (chk M use N c fb sc) (chkS M use N fb sc body)
  | .ret e => hRet (chk M use N e fb sc)
  | .retn => hRetn
  | .brk => hBrk
  | .cont => hCont
  | .raise c e => hRaise M sc c (chk M use N e fb sc)
  | .never => fun s => match s with | .inl _ => true | .inr _ => false
section
variable {G : GC} {C : Ctx} {M : MD} {use : List Nat} {N : List Str} {k : Nat} {fb : Str → Bool} {sc : Scope} {W : WX} {X : Cx}
theorem set_lc (hC : CMono C) (g : Good G C M use N k X sc W) (hf : ∀ x, fb x = true → X.fn x = true) {i : Nat} {x : Str} {p spos : Pos} {e : Expr} {ce : E} (hi : N[i]? = some x) (hl : sc.names.lookup x = some .local) (hs : swB sc x p e = true) (hlc : isLC e = true)
    (h : chk M use N ce fb sc (.inl e) = true) : PS X (.Assign [.Name x p] e spos) (tAsg (tE G C W ce) (gName i)) := by
  have key : (∃ own tg it n src hc cc elt, ce = .lc own tg it n src hc cc elt) ∨ ∃ own tg j hc cc elt, ce = .lcb own tg j hc cc elt := by
    cases e with
    | ListComp a b c d => cases ce <;> first | exact .inl ⟨_, _, _, _, _, _, _, _, rfl⟩ | exact .inr ⟨_, _, _, _, _, _, rfl⟩ | (exact absurd h (by simp [chk, kNil, kCons, kVar, kLit, kFnv, kClv, kCst, kTyv, kUn, kBin, kCmp, kChain, kBool, kIte, kTup, kLst, kIdx, kSlc, kCall, kBi, kRgl1, kRgl2, kIsi, kIsiT, kDc, kCallk, kMeth, kMeth0, kSrt, kEdct, kCtch]))
    | _ => cases hlc
  rcases key with ⟨own, tg, it, n, src, hc, cc, elt, rfl⟩ | ⟨own, tg, i0, hc, cc, elt, rfl⟩
  · replace h : kLc M N sc own tg it n src hc (chk M use N src fb sc) (chk M use N cc) (chk M use N elt) (.inl e) = true := h
    unfold kLc at h
    split at h
    · rename_i e
      cases e
      simp only [Bool.and_eq_true, decide_eq_true_eq] at h
      obtain ⟨⟨⟨⟨⟨⟨⟨rfl, h2⟩, h3⟩, h4⟩, h5⟩, h6⟩, h7⟩, h8⟩ := h
      have hown := ownL_snd N own
      suffices key : PS X _ (tAsg (tE G C W (.lc ((ownL N own).map (·.2)) tg it n src hc cc elt)) (gName i)) by rw [hown] at key; exact key
      refine s_setLc (cc := cc) (ca := elt) g h2 h3 (by rw [hown]; exact h4)
        (chkI_ok (chk_ok hC src) g hf h5) (fun X' g' hfn => (g_T g' (fnB := cellB _) (fun x hx => by rw [hfn]; exact hx) tg).1 _ h6) (fun X' g' hfn => ?_) (fun X' g' hfn => (chk_ok hC elt).pe X' _ _ (cellB _) g' (fun x hx => by rw [hfn]; exact hx) _ h8) hi hl (swB_ok g.sc hs trivial)
      unfold kIfs at h7
      unfold ifsOk
      split at h7
      · simp only [Bool.and_eq_true] at h7
        obtain ⟨rfl, h7⟩ := h7
        exact ⟨_, rfl, (chk_ok hC cc).pt X' _ _ (cellB _) g' (fun x hx => by rw [hfn]; exact hx) _ h7⟩
      · have h7 : hc = false := by simpa using h7
        subst h7
        rfl
      · cases h7
    · cases h
  · replace h : kLcb N sc own tg i0 hc (chk M use N cc) (chk M use N elt) (.inl e) = true := h
    unfold kLcb at h
    split at h
    · rename_i e
      cases e
      simp only [Bool.and_eq_true, decide_eq_true_eq] at h
      obtain ⟨⟨⟨⟨⟨⟨⟨⟨rfl, h1⟩, h2⟩, h2'⟩, h3⟩, h4⟩, h6⟩, h7⟩, h8⟩ := h
      have hown := ownL_snd N own
      suffices key : PS X _ (tAsg (tE G C W (.lcb ((ownL N own).map (·.2)) tg i0 hc cc elt)) (gName i)) by rw [hown] at key; exact key
      refine s_setLcb (cc := cc) (ca := elt) g h1 h2 h2' h3 (by rw [hown]; exact h4)
        (fun X' g' hfn => (g_T g' (fnB := cellB _) (fun x hx => by rw [hfn]; exact hx) tg).1 _ h6) (fun X' g' hfn => ?_) (fun X' g' hfn => (chk_ok hC elt).pe X' _ _ (cellB _) g' (fun x hx => by rw [hfn]; exact hx) _ h8) hi hl (swB_ok g.sc hs trivial)
      unfold kIfs at h7
      unfold ifsOk
      split at h7
      · simp only [Bool.and_eq_true] at h7
        obtain ⟨rfl, h7⟩ := h7
        exact ⟨_, rfl, (chk_ok hC cc).pt X' _ _ (cellB _) g' (fun x hx => by rw [hfn]; exact hx) _ h7⟩
      · have h7 : hc = false := by simpa using h7
        subst h7
        rfl
      · cases h7
    · cases h
theorem chkS_ok (hC : CMono C) (g : GoodS G C M use N k X sc W) (hf : ∀ x, fb x = true → X.fn x = true) : ∀ c : S, (∀ st, chkS M use N fb sc c (.inl st) = true → PS X st (tS G C W c)) ∧ (∀ sts, chkS M use N fb sc c (.inr sts) = true → PSs X sts (tS G C W c)) := by
  have pe := fun (c : E) e h => (chk_ok (G := G) (C := C) (M := M) (use := use) (N := N) (k := k) hC c).pe X sc W fb g.g hf e h
  have pt := fun (c : E) e h => (chk_ok (G := G) (C := C) (M := M) (use := use) (N := N) (k := k) hC c).pt X sc W fb g.g hf e h
  have pa := fun (c : E) e h => (chk_ok (G := G) (C := C) (M := M) (use := use) (N := N) (k := k) hC c).pa X sc W fb g.g hf e h
  intro c
  induction c with
  | skip =>
    refine ⟨fun st h => (by cases h), fun sts h => ?_⟩
    cases sts with
    | nil => exact s_skip
    | cons _ _ => cases h
  | seq a b ia ib =>
    refine ⟨fun st h => (by cases h), fun sts h => ?_⟩
    cases sts with
    | nil => cases h
    | cons st sts =>
      replace h : (chkS M use N fb sc a (.inl st) && chkS M use N fb sc b (.inr sts)) = true := h
      simp only [Bool.and_eq_true] at h
      exact s_seq (ia.1 _ h.1) (ib.2 _ h.2)
  | ex e =>
    refine ⟨fun st h => ?_, fun sts h => (by cases h)⟩
    replace h : hEx (chk M use N e fb sc) (.inl st) = true := h
    unfold hEx at h
    split at h
    · rename_i e'
      cases e'
      simp only [Bool.and_eq_true] at h
      exact s_ex h.1 (pe _ _ h.2)
    · cases h
  | set i e =>
    refine ⟨fun st h => ?_, fun sts h => (by cases h)⟩
    replace h : hSet N fb sc i (chk M use N e fb sc) (.inl st) = true := h
    unfold hSet at h
    split at h
    · rename_i e'
      cases e'
      simp only [Bool.and_eq_true, Bool.or_eq_true, decide_eq_true_eq, Bool.not_eq_true'] at h
      obtain ⟨⟨⟨h1, h2⟩, h3⟩, h4⟩ := h
      rename_i x p e0 spos
      by_cases hs : swB sc x p e0 = false
      · exact s_set g.g hf h1 h2 hs (pe _ _ h4)
      · have h3' := h3.resolve_left hs
        exact set_conv g.g (set_lc hC g.g hf h1 h3'.1 (by simpa using hs) h3'.2 h4)
    · cases h
  | setT t e =>
    refine ⟨fun st h => ?_, fun sts h => (by cases h)⟩
    replace h : hSetT N fb sc t (chk M use N e fb sc) (.inl st) = true := h
    unfold hSetT at h
    split at h
    · rename_i e'
      cases e'
      simp only [Bool.and_eq_true] at h
      obtain ⟨⟨h1, h2⟩, h3⟩ := h
      exact s_setT g.g hf h1 (swE_ok g.g.sc h2) (pe _ _ h3)
    · cases h
  | par is es =>
    refine ⟨fun st h => ?_, fun sts h => (by cases h)⟩
    replace h : hPar N sc is (nE es) (chk M use N es fb sc) (.inl st) = true := h
    unfold hPar at h
    split at h
    · rename_i e'
      cases e'
      split at h
      · simp only [Bool.and_eq_true, decide_eq_true_eq, beq_iff_eq] at h
        obtain ⟨⟨⟨⟨⟨⟨⟨⟨h1, h2⟩, h3⟩, h4⟩, h5⟩, h6⟩, h7⟩, h8⟩, h9⟩ := h
        refine s_par2 g.g h2 h3 h4 h5 h6 ?_ h1 (pa _ _ h9)
        rw [swT_ok g.g.sc h7, h8]; rfl
      · cases h
    · rename_i e'
      cases e'
      split at h
      · simp only [Bool.and_eq_true, decide_eq_true_eq, beq_iff_eq] at h
        obtain ⟨⟨⟨⟨⟨⟨⟨⟨⟨⟨⟨⟨h1, h2⟩, h3⟩, h4⟩, h5⟩, h6⟩, h7⟩, h8⟩, h9⟩, h10⟩, h11⟩, h12⟩, h13⟩ := h
        refine s_par3 g.g h2 h3 h4 h5 h6 h7 h8 h9 h10 ?_ h1 (pa _ _ h13)
        rw [swT_ok g.g.sc h11, h12]; rfl
      · cases h
    · cases h
  | ite c a b ia ib =>
    refine ⟨fun st h => ?_, fun sts h => (by cases h)⟩
    replace h : hIte (chk M use N c fb sc) (chkS M use N fb sc a) (chkS M use N fb sc b) (.inl st) = true := h
    unfold hIte at h
    split at h
    · rename_i e'
      cases e'
      simp only [Bool.and_eq_true] at h
      exact s_ite (pt _ _ h.1.1) (ia.2 _ h.1.2) (ib.2 _ h.2)
    · cases h
  | forr it n src tg body ib =>
    refine ⟨fun st h => ?_, fun sts h => (by cases h)⟩
    replace h : hFor M N fb sc it n src tg (chk M use N src fb sc) (chkS M use N fb sc body) (.inl st) = true := h
    unfold hFor at h
    split at h
    · rename_i e'
      cases e'
      simp only [Bool.and_eq_true] at h
      exact s_for g.g g.hp h.1.1.1 (chkI_ok (chk_ok hC src) g.g hf h.1.1.2) ((g_T g.g hf tg).1 _ h.1.2) (ib.2 _ h.2)
    · cases h
  | whl c body ib =>
    refine ⟨fun st h => ?_, fun sts h => (by cases h)⟩
    replace h : hWhl (chk M use N c fb sc) (chkS M use N fb sc body) (.inl st) = true := h
    unfold hWhl at h
    split at h
    · rename_i e'
      cases e'
      simp only [Bool.and_eq_true] at h
      exact s_while g.g g.hp (pt _ _ h.1) (ib.2 _ h.2)
    · cases h
  | ret e =>
    refine ⟨fun st h => ?_, fun sts h => (by cases h)⟩
    replace h : hRet (chk M use N e fb sc) (.inl st) = true := h
    unfold hRet at h
    split at h
    · rename_i e'
      cases e'
      exact s_ret (pe _ _ h)
    · cases h
  | retn =>
    refine ⟨fun st h => ?_, fun sts h => (by cases h)⟩
    replace h : hRetn (.inl st) = true := h
    unfold hRetn at h
    split at h
    · rename_i e'; cases e'; exact s_retn
    · cases h
  | brk =>
    refine ⟨fun st h => ?_, fun sts h => (by cases h)⟩
    replace h : hBrk (.inl st) = true := h
    unfold hBrk at h
    split at h
    · rename_i e'; cases e'; exact s_break
    · cases h
  | cont =>
    refine ⟨fun st h => ?_, fun sts h => (by cases h)⟩
    replace h : hCont (.inl st) = true := h
    unfold hCont at h
    split at h
    · rename_i e'; cases e'; exact s_cont
    · cases h
  | raise c e =>
    refine ⟨fun st h => ?_, fun sts h => (by cases h)⟩
    replace h : hRaise M sc c (chk M use N e fb sc) (.inl st) = true := h
    unfold hRaise at h
    split at h
    · rename_i e'
      cases e'
      simp only [Bool.and_eq_true] at h
      obtain ⟨⟨h1, h2⟩, h3⟩ := h
      split at h1
      · rename_i y hy
        simp only [Bool.and_eq_true, decide_eq_true_eq] at h1
        obtain ⟨rfl, h1⟩ := h1
        split at h1
        · exact s_raise0 g hy h2 h3
        · cases h1
      · rename_i y f hy
        simp only [Bool.and_eq_true, decide_eq_true_eq] at h1
        obtain ⟨⟨rfl, h4⟩, h5⟩ := h1
        exact s_raise1 g hy h2 h3 h4 (pe _ _ h5)
      · cases h1
    · cases h
  | never => exact ⟨fun st h => s_never, fun sts h => (by cases h)⟩
end
end DP

set_option Elab.async false
set_option linter.all false
set_option maxRecDepth 100000
set_option maxHeartbeats 1000000
/-! E17: a def keeps its promise. -/
namespace DP
open PySem PySem.Spec PyProof.Rows L2
/-- what holds of the module -/
structure ModOk (P : Program) (w : World) (K : PySem.W.Frag) (mg : Str → Option Value) (base : Heap) (m : MG) (C : Ctx) (M : MD) : Prop where
  ok : m.Ok
  mK : m.K = K
  fvs : ∀ f x ps, (M.fn f) = some (x, ps) → ∃ a, mg x = some (.ref a) ∧ m.fa f = some a
  cvs : ∀ c x o, (M.cl c) = some (x, o) → ∃ a, mg x = some (.ref a) ∧ m.ca c = some a
  cts : ∀ c x, (M.ct c) = some x → ∃ u v, mg x = some u ∧ RelV v u ∧ ∀ A H, Rep m A H (C.cst c) v
  free : ∀ x ∈ M.free, mg x = none
  cls : ClsOk m C
  fld : ∀ c x o, (M.cl c) = some (x, o) → C.fld c = o
  sk : ∀ f ∈ M.sk, ∀ x ps, (M.fn f) = some (x, ps) → ∃ fa, mg x = some (.ref fa) ∧ SizeTurn P w K mg base (fun _ _ => True) (.ref fa)
  cc : ∀ f ∈ M.cc, ∀ x ps, (M.fn f) = some (x, ps) → CatchOk P w K mg base m C x
  rz : ∀ (X : Cx), X.K = K → X.mg = mg → X.prog = P → X.w = w → ∀ c x mm j p p2 pos, (M.cl c) = some (x, none) → Gl X x → okN x = true → PMk X (.Call (.Name x p) [.Constant (.str mm) j p2] [] pos) (fun _ H Q => ∃ Ca, m.ca c = some Ca ∧ Q (.ref Ca) none H)
  rzf : ∀ (X : Cx) k, X.K = K → X.mg = mg → X.base = base → X.prog = P → X.w = w → Room k X.A → ∀ c x f e ta p pos, (M.cl c) = some (x, some f) → Gl X x → okN x = true → ordB e = true → PE X e ta →
    PMk X (.Call (.Name x p) [e] [] pos) (fun σ H Q => ta σ H fun v H1 => ∃ Ca, m.ca c = some Ca ∧ ∀ d, H1 d = none → Q (.ref Ca) (some d) (upd H1 d (.xd [(f, v)])))
theorem zip_start : ∀ {m : MG} {A : Addr → Prop} {H : Hp} {ds : List D} {vs : List V} (n : Nat), Reps m A H ds vs → ∃ gl : List GS, gl.map GS.slot = ds.map Slot.sh ++ List.replicate (n - ds.length) .emp ∧ gl.map GS.val = vs.map some ++ List.replicate (n - vs.length) none ∧ owns gl = [] ∧ (∀ g ∈ gl, GRep m A H g) ∧ ∀ i v, GS.br i v ∉ gl
  | m, A, H, [], vs, n, h => by
    have h : vs = [] := h
    subst h
    have e : owns (List.replicate n (GS.emp none)) = [] := by
      induction n with
      | zero => rfl
      | succ n ih => rw [List.replicate_succ, owns_cons, ih]; rfl
    refine ⟨List.replicate n (.emp none), by simp [GS.slot], by simp [GS.val], e, fun g hg => ?_, fun i v hg => ?_⟩
    · rw [(List.mem_replicate.mp hg).2]; trivial
    · have := (List.mem_replicate.mp hg).2; cases this
  | m, A, H, d :: ds, vs, n, h => by
    obtain ⟨v, r, rfl, h1, h2⟩ := h
    obtain ⟨gl, e1, e2, e3, e4, e5⟩ := zip_start (n - 1) h2
    refine ⟨.sh d v :: gl, ?_, ?_, by rw [owns_cons, e3]; rfl, fun g hg => ?_, fun i w hg => ?_⟩
    · rw [List.map_cons, e1]
      show Slot.sh d :: _ = _
      simp [Nat.sub_sub, Nat.add_comm]
    · rw [List.map_cons, e2]
      show some v :: _ = _
      simp [Nat.sub_sub, Nat.add_comm]
    · rcases List.mem_cons.mp hg with z | z
      · rw [z]; exact h1
      · exact e4 g z
    · rcases List.mem_cons.mp hg with z | z
      · cases z
      · exact e5 i w z
/-- what a def must have whose body makes lambdas -/
def LamD (P : Program) (w : World) (K : PySem.W.Frag) (mg : Str → Option Value) (base : Heap) (m : MG) (C : Ctx) (M : MD) (use : List Nat) (k : Nat) (x : Str) (fd : FuncData) : Prop :=
  (∃ c P', LamX.TabB base mg c P' ∧ fd.code = .ref c ∧ (P', x ++ ".<locals>." ++ "<lambda>") ∈ m.T ∧ ∀ p ∈ m.T, p.1 = P' → p.2 = x ++ ".<locals>." ++ "<lambda>") ∧
  ∃ j, j + 2 ≤ k ∧ (∀ f ∈ use, ∀ x ps, (M.fn f) = some (x, ps) → Has P w K mg base m j x ps (C.fs f) f (C.cost f) M.kw) ∧ ∀ f n, C.hd f = some n → ∃ x ps, (M.fn f) = some (x, ps) ∧ ps.length = n ∧ Has P w K mg base m j x ps (C.fs f) f (C.cost f) M.kw
/-- the credit's place behind the names -/
def wdefx (C : Ctx) (n : Nat) (ex : List Slot) (body : S) : FSpec := fun ds Q X =>
  ws C body ⟨ds.map .sh ++ (List.replicate (n - ds.length) .emp ++ ex), []⟩ ⟨fun _ => Q .non false, Q, fun _ => False, fun _ => False, fun x _ => X x⟩
def Ext (ex : List Slot) (q : Nat) : Prop := (ex = [] ∧ q = 0) ∨ ex = [.crd q]
theorem zip_ext {m : MG} {A : Addr → Prop} {H : Hp} {ds : List D} {vs : List V} {n q : Nat} {ex : List Slot} (h : Reps m A H ds vs) (he : Ext ex q) (hn : vs.length ≤ n) : ∃ gl : List GS, gl.map GS.slot = ds.map Slot.sh ++ (List.replicate (n - ds.length) .emp ++ ex) ∧ gl.map GS.val = vs.map some ++ List.replicate (n + ex.length - vs.length) none ∧ owns gl = [] ∧ (∀ g ∈ gl, GRep m A H g) ∧ (∀ i v, GS.br i v ∉ gl) ∧ cred (gl.map GS.slot) = q := by
  obtain ⟨gl, e1, e2, e3, e4, e5⟩ := zip_start n h
  have hc : cred (gl.map GS.slot) = 0 := by
    rw [e1, cred_append]
    have h1 : ∀ l : List D, cred (l.map Slot.sh) = 0 := fun l => by
      induction l with
      | nil => rfl
      | cons x l ih => rw [List.map_cons, cred, ih]; rfl
    have h2 : ∀ k, cred (List.replicate k Slot.emp) = 0 := fun k => by
      induction k with
      | zero => rfl
      | succ k ih => rw [List.replicate_succ, cred, ih]; rfl
    rw [h1, h2]
  rcases he with ⟨rfl, rfl⟩ | rfl
  · exact ⟨gl, by rw [List.append_nil]; exact e1, e2, e3, e4, e5, hc⟩
  · refine ⟨gl ++ [.crd q], ?_, ?_, ?_, fun g hg => ?_, fun i v hg => ?_, ?_⟩
    · rw [List.map_append, e1, List.append_assoc]; rfl
    · rw [List.map_append, e2, List.append_assoc]
      have : n + [Slot.crd q].length - vs.length = (n - vs.length) + 1 := by simp; omega
      rw [this, List.replicate_succ']
      rfl
    · rw [owns_append, e3]; rfl
    · rcases List.mem_append.mp hg with z | z
      · exact e4 g z
      · rw [List.mem_singleton.mp z]; trivial
    · rcases List.mem_append.mp hg with z | z
      · exact e5 i v z
      · cases List.mem_singleton.mp z
    · rw [List.map_append, cred_append, hc]; simp [cred, Slot.cr, GS.slot]
theorem def_ok {P : Program} {w : World} {K : PySem.W.Frag} {mg : Str → Option Value} {base : Heap} {m : MG} {C : Ctx} {M : MD} {use : List Nat} {N ps : List Str} {k n q : Nat} {ex : List Slot} {x : Str} {params : Arguments} {body : List Stmt} {scope : Scope} {f : Addr} {fd : FuncData} {code : S}
    (F : FunD K x x params body scope [] [] f fd) (S' : FnScope N ps scope) (he : Ext ex q) (hN : N.length = n + ex.length) (hpn : ps.length ≤ n) (hC : CMono C) (mo : ModOk P w K mg base m C M) (hu : ∀ f ∈ use, ∀ x ps, (M.fn f) = some (x, ps) → Has P w K mg base m k x ps (C.fs f) f (C.cost f) M.kw)
    (h3 : 3 ≤ k) (hlam : 1000 ∈ use → LamD P w K mg base m C M use k x fd) (hs : chkS M use N (fun _ => true) scope code (.inr body) = true) : FnOk P w K mg base (L2.CX P w) (k + 1) f fd ps (lift m ps.length q (wdefx C n ex code)) := by
  obtain ⟨oc, od, dV, kV, doc, pm, an, cdv, ct, osl, rfl, lk, hcd, _, _⟩ := F.ex
  refine fn_of lk hcd S' (fun vs H Q E h => ?_) fun A outer s H vs Q E hr h => ?_
  · obtain ⟨A, ds, c, _, r, hl, _⟩ := h
    rw [← Reps.len r]; exact hl
  · obtain ⟨Aa, ds, c, pre, rep, hl, wd⟩ := h
    have hlv : vs.length ≤ n := by rw [← Reps.len rep, hl]; exact hpn
    obtain ⟨gl, e1, e2, e3, e4, e5, e6⟩ := zip_ext rep he hlv
    let G : GC := ⟨m, H, Aa, c⟩
    have gok : G.Ok := ⟨mo.ok, pre.ra, pre.ah⟩
    let X := cxOf (L2.CX P w) P w K mg base N x scope f cdv A outer s H E
    let W : WX := fun cls d _ H' => E cls d H'
    have tk : Takes X W := takes_of rfl rfl rfl rfl
    have gg : Good G C M use N k X scope W := ⟨gok, rfl, mo.mK.symm, rfl, S'.nd, rfl, hr, tk, hu, mo.fvs, mo.cvs, mo.cts, mo.free, mo.cls, h3, mo.sk, mo.cc, fun hh => by
      obtain ⟨⟨c, P', t1, t2, t3, t4⟩, j, j1, j2, j3⟩ := hlam hh
      exact ⟨⟨c, P', t1, t2, t3, t4⟩, ⟨j, j1, j2, j3⟩⟩⟩
    have gs : GoodS G C M use N k X scope W := ⟨gg, passes_of rfl, fun c x mm j p p2 pos hc hg ho => mo.rz X rfl rfl rfl rfl c x mm j p p2 pos hc (glB_ok (X := X) rfl hg) ho,
      fun c x f e ta p pos hc hg ho hoe he => mo.rzf X k rfl rfl rfl rfl rfl hr c x f e ta p pos hc (glB_ok (X := X) rfl hg) ho hoe he, mo.fld⟩
    refine ⟨tS G C W code, (chkS_ok hC gs (fun _ _ => rfl) code).2 body hs, ?_⟩
    have R : Rel G ⟨ds.map Slot.sh ++ (List.replicate (n - ds.length) .emp ++ ex), []⟩ (start N vs) [] H gl [] := by
      have e3' : owns gl ++ owns ([] : List GS) = [] := by rw [e3]; rfl
      refine ⟨e1, rfl, by rw [e2, ← hN]; rfl, rfl, by rw [e3']; exact .nil, fun p hp => ?_, fun g hg => ?_, e5, fun i v h => ?_, Kp.refl _ _, pre.j.le ?_⟩
      · rw [e3'] at hp; simp at hp
      · rw [List.append_nil] at hg
        refine GRep.sub (fun a z => .inl ?_) (e4 g hg)
        rcases z with z | z
        · exact z
        · rw [e3'] at z; simp at z
      · simp at h
      · show c + (cred _ + cred []) ≤ c + q
        rw [← e1, e6]; exact Nat.le_refl _
    refine ⟨_, _, gl, [], _, R, ?_, wd⟩
    refine ⟨fun s1 σ1 H1 gl1 gk1 q R1 => ?_, fun _ _ _ _ _ q _ => q.elim, fun _ _ _ _ _ q _ => q.elim, fun d fr v H1 q r => q v H1 r, fun y s1 σ1 vs1 H1 gl1 gk1 cls d q R1 ex => ?_⟩
    · exact (show ∀ v H', Ret m Aa c H H' .non false v → Q v H' from q) .non H1 ⟨R1.ke, R1.j.le (Nat.le_add_right _ _), rfl⟩
    · exact (show ∀ cls dd H', Kp m.R H H' → m.Jc c H' → ExR m H' y cls dd → E cls dd H' from q) cls d H1 R1.ke (R1.j.le (Nat.le_add_right _ _)) ex
/-- a weaker promise -/
theorem lift_imp {m : MG} {n q : Nat} {S S' : FSpec} (h : ∀ ds Q X, S' ds Q X → S ds Q X) : ∀ vs H Q E, lift m n q S' vs H Q E → lift m n q S vs H Q E := fun vs H Q E ⟨A, ds, c, p, r, l, w⟩ => ⟨A, ds, c, p, r, l, h _ _ _ w⟩
theorem has_of {P : Program} {w : World} {K : PySem.W.Frag} {mg : Str → Option Value} {base : Heap} {m : MG} {C : Ctx} {M : MD} {use : List Nat} {N ps : List Str} {k : Nat} {x : Str} {params : Arguments} {body : List Stmt} {scope : Scope} {f : Addr} {fd : FuncData} {code : S} {n : Nat} {S : FSpec}
    (F : FunD K x x params body scope [] [] f fd) (S' : FnScope N ps scope) (hb : Binds K fd ps []) (hg : mg x = some (.ref f)) (hm : m.fa n = some f) (hC : CMono C) (mo : ModOk P w K mg base m C M) (hu : ∀ f ∈ use, ∀ x ps, (M.fn f) = some (x, ps) → Has P w K mg base m k x ps (C.fs f) f (C.cost f) M.kw)
    (hs : chkS M use N (fun _ => true) scope code (.inr body) = true) (hS : ∀ ds Q X, S ds Q X → wdef C N.length code ds Q X) (hpn : ps.length ≤ N.length) (h3 : 3 ≤ k) (hlam : 1000 ∈ use → LamD P w K mg base m C M use k x fd) (hkw : ∀ q ∈ M.kw, q.1 = n → KwTo K fd ps q.2.1 q.2.2) : Has P w K mg base m (k + 1) x ps S n 0 M.kw :=
  ⟨f, fd, (def_ok (n := N.length) (ex := []) F S' (.inl ⟨rfl, rfl⟩) rfl hpn hC mo hu h3 hlam hs).imp (lift_imp fun ds Q X h => by
    have := hS ds Q X h
    unfold wdefx
    rw [List.append_nil]
    exact this), hg, F.kp, hb, hm, hkw⟩
/-- .. of one that asks the draws -/
theorem has_ofc {P : Program} {w : World} {K : PySem.W.Frag} {mg : Str → Option Value} {base : Heap} {m : MG} {C : Ctx} {M : MD} {use : List Nat} {N ps : List Str} {k q : Nat} {x : Str} {params : Arguments} {body : List Stmt} {scope : Scope} {f : Addr} {fd : FuncData} {code : S} {n j : Nat} {S : FSpec}
    (F : FunD K x x params body scope [] [] f fd) (S' : FnScope N ps scope) (hb : Binds K fd ps []) (hg : mg x = some (.ref f)) (hm : m.fa n = some f) (hC : CMono C) (mo : ModOk P w K mg base m C M) (hu : ∀ f ∈ use, ∀ x ps, (M.fn f) = some (x, ps) → Has P w K mg base m k x ps (C.fs f) f (C.cost f) M.kw)
    (hs : chkS M use N (fun _ => true) scope code (.inr body) = true) (hN : N.length = j + 1) (hS : ∀ ds Q X, S ds Q X → wdefc C j q code ds Q X) (hpn : ps.length ≤ j) (h3 : 3 ≤ k) (hlam : 1000 ∈ use → LamD P w K mg base m C M use k x fd) (hkw : ∀ q ∈ M.kw, q.1 = n → KwTo K fd ps q.2.1 q.2.2) : Has P w K mg base m (k + 1) x ps S n q M.kw :=
  ⟨f, fd, (def_ok (n := j) (ex := [.crd q]) F S' (.inr rfl) hN hpn hC mo hu h3 hlam hs).imp (lift_imp fun ds Q X h => hS ds Q X h), hg, F.kp, hb, hm, hkw⟩
end DP

set_option Elab.async false
set_option linter.all false
set_option maxRecDepth 100000
set_option maxHeartbeats 1000000
/-! E18: steps of the plain proofs. -/
namespace DP
open PySem PySem.Spec PyProof.Rows L2
@[irreducible] def WE (C : Ctx) (c : E) (s : St) (Q : St → Prop) (X : D → St → Prop) : Prop := we C c s Q X
@[irreducible] def WS (C : Ctx) (c : S) (s : St) (N : En) : Prop := ws C c s N
theorem WE.of {C : Ctx} {c : E} {s : St} {Q : St → Prop} {X : D → St → Prop} (h : WE C c s Q X) : we C c s Q X := by unfold WE at h; exact h
theorem WE.to {C : Ctx} {c : E} {s : St} {Q : St → Prop} {X : D → St → Prop} (h : we C c s Q X) : WE C c s Q X := by unfold WE; exact h
theorem WS.of {C : Ctx} {c : S} {s : St} {N : En} (h : WS C c s N) : ws C c s N := by unfold WS at h; exact h
section
variable {C : Ctx} {l k : List Slot} {Q : St → Prop} {X : D → St → Prop} {a b c : E} {d e : D}
def varK (i : Nat) (l k : List Slot) (Q : St → Prop) : Option Slot → Prop
  | some (.sh d) => Q ⟨l, .sh d :: k⟩
  | some (.ow _) => Q ⟨l, .br i :: k⟩
  | _ => False
@[simp] theorem varK_sh {i : Nat} : varK i l k Q (some (.sh d)) = Q ⟨l, .sh d :: k⟩ := rfl
@[simp] theorem varK_ow {i : Nat} : varK i l k Q (some (.ow d)) = Q ⟨l, .br i :: k⟩ := rfl
@[simp] theorem x_nil : WE C .nil ⟨l, k⟩ Q X = Q ⟨l, k⟩ := by simp only [WE, we]
@[simp] theorem x_cons : WE C (.cons a b) ⟨l, k⟩ Q X = WE C a ⟨l, k⟩ (fun s1 => WE C b s1 Q X) X := by simp only [WE, we]
@[simp] theorem x_var {i : Nat} : WE C (.var i) ⟨l, k⟩ Q X = varK i l k Q l[i]? := by
  simp only [WE, we, varK, St.push]; try rfl
@[simp] theorem x_lit : WE C (.lit d) ⟨l, k⟩ Q X = Q ⟨l, .sh d :: k⟩ := by simp only [WE, we, St.push]
@[simp] theorem x_fnv {n : Nat} : WE C (.fnv n) ⟨l, k⟩ Q X = Q ⟨l, .sh (.fn n) :: k⟩ := by simp only [WE, we, St.push]
@[simp] theorem x_clv {n : Nat} : WE C (.clv n) ⟨l, k⟩ Q X = Q ⟨l, .sh (.cls n) :: k⟩ := by simp only [WE, we, St.push]
@[simp] theorem x_edct : WE C .edct ⟨l, k⟩ Q X = Q ⟨l, .ow (.dct false []) :: k⟩ := by simp only [WE, we, St.push]
@[simp] theorem x_tyv {n : String} : WE C (.tyv n) ⟨l, k⟩ Q X = Q ⟨l, .sh (.ty n) :: k⟩ := by simp only [WE, we, St.push]
@[simp] theorem x_cst {n : Nat} : WE C (.cst n) ⟨l, k⟩ Q X = Q ⟨l, .sh (C.cst n) :: k⟩ := by simp only [WE, we, St.push]
@[irreducible] def TP (s : St) (Q : D → St → Prop) : Prop := s.top Q
@[irreducible] def TPB (s : St) (Q : Bool → St → Prop) : Prop := s.topB Q
def lvK (l k : List Slot) (Q : D → St → Prop) : Option D → Prop
  | some d => Q d ⟨l, k⟩
  | none => False
@[simp] theorem lvK_some {Q : D → St → Prop} : lvK l k Q (some d) = Q d ⟨l, k⟩ := rfl
@[simp] theorem t_sh {Q : D → St → Prop} : TP ⟨l, .sh d :: k⟩ Q = Q d ⟨l, k⟩ := by
  unfold TP; exact propext ⟨fun ⟨d', e, q⟩ => by cases e; exact q, fun q => ⟨d, rfl, q⟩⟩
@[simp] theorem t_ow {Q : D → St → Prop} : TP ⟨l, .ow d :: k⟩ Q = Q d ⟨l, k⟩ := by
  unfold TP; exact propext ⟨fun ⟨d', e, q⟩ => by cases e; exact q, fun q => ⟨d, rfl, q⟩⟩
@[simp] theorem t_br {Q : D → St → Prop} {i : Nat} : TP ⟨l, .br i :: k⟩ Q = lvK l k Q (lv l i) := by
  unfold TP
  refine propext ⟨fun ⟨d', e, q⟩ => ?_, fun q => ?_⟩
  · have e : lv l i = some d' := e
    rw [e]; exact q
  · cases e : lv l i with
    | none => rw [e] at q; exact q.elim
    | some d => rw [e] at q; exact ⟨d, e, q⟩
@[simp] theorem b_sh {Q : Bool → St → Prop} {r : Bool} : TPB ⟨l, .sh (.bl r) :: k⟩ Q = Q r ⟨l, k⟩ := by
  unfold TPB; exact propext ⟨fun ⟨d', e, r', e', q⟩ => by cases e; cases e'; exact q, fun q => ⟨_, rfl, r, rfl, q⟩⟩
@[simp] theorem x_not : WE C (.not a) ⟨l, k⟩ Q X = WE C a ⟨l, k⟩ (fun s1 => TPB s1 fun b s2 => Q ⟨s2.l, .sh (.bl (!b)) :: s2.k⟩) X := by simp only [WE, we, TPB, St.push]
@[simp] theorem x_bin {kk : BinK} : WE C (.bin kk a b) ⟨l, k⟩ Q X = WE C a ⟨l, k⟩ (fun s1 => WE C b s1 (fun s2 => TP s2 fun y s3 => TP s3 fun x s4 => binS kk x y fun d fr => Q ⟨s4.l, fsh d fr :: s4.k⟩) X) X := by simp only [WE, we, TP, St.push]
@[simp] theorem x_cmp {kk : CmpK} : WE C (.cmp kk a b) ⟨l, k⟩ Q X = WE C a ⟨l, k⟩ (fun s1 => WE C b s1 (fun s2 => TP s2 fun y s3 => TP s3 fun x s4 => cmpS kk x y fun r => Q ⟨s4.l, .sh (.bl r) :: s4.k⟩) X) X := by simp only [WE, we, TP, St.push]
@[simp] theorem x_and : WE C (.and a b) ⟨l, k⟩ Q X = WE C a ⟨l, k⟩ (fun s1 => TPB s1 fun r s2 => if r = true then WE C b s2 Q X else Q ⟨s2.l, .sh (.bl false) :: s2.k⟩) X := by simp only [WE, we, TPB, St.push]
@[simp] theorem x_or : WE C (.or a b) ⟨l, k⟩ Q X = WE C a ⟨l, k⟩ (fun s1 => TPB s1 fun r s2 => if r = true then Q ⟨s2.l, .sh (.bl true) :: s2.k⟩ else WE C b s2 Q X) X := by simp only [WE, we, TPB, St.push]
@[simp] theorem x_ite : WE C (.ite c a b) ⟨l, k⟩ Q X = WE C c ⟨l, k⟩ (fun s1 => TPB s1 fun r s2 => if r = true then WE C a s2 Q X else WE C b s2 Q X) X := by simp only [WE, we, TPB]
@[simp] theorem x_idx : WE C (.idx a b) ⟨l, k⟩ Q X = WE C a ⟨l, k⟩ (fun s1 => WE C b s1 (fun s2 => TP s2 fun y s3 => TP s3 fun x s4 => idxS x y fun d => Q ⟨s4.l, .sh d :: s4.k⟩) X) X := by simp only [WE, we, TP, St.push]
@[simp] theorem x_isi : WE C (.isi a b) ⟨l, k⟩ Q X = WE C a ⟨l, k⟩ (fun s1 => WE C b s1 (fun s2 => TP s2 fun y s3 => TP s3 fun x s4 => isiS C x y fun r => Q ⟨s4.l, .sh (.bl r) :: s4.k⟩) X) X := by simp only [WE, we, TP, St.push]
@[simp] theorem x_isiT {ns : List String} : WE C (.isiT a ns) ⟨l, k⟩ Q X = WE C a ⟨l, k⟩ (fun s1 => TP s1 fun x s2 => isiTS C x ns fun r => Q ⟨s2.l, .sh (.bl r) :: s2.k⟩) X := by simp only [WE, we, TP, St.push]
@[simp] theorem x_chain {k1 k2 : CmpK} : WE C (.chain k1 k2 a b c) ⟨l, k⟩ Q X = WE C a ⟨l, k⟩ (fun s1 => WE C b s1 (fun s2 => TP s2 fun y s3 => TP s3 fun x s4 => y.imm = true ∧ cmpS k1 x y fun r =>
      if r = true then WE C c ⟨s4.l, .sh y :: s4.k⟩ (fun s5 => TP s5 fun z s6 => TP s6 fun y' s7 => cmpS k2 y' z fun r' => Q ⟨s7.l, .sh (.bl r') :: s7.k⟩) X else Q ⟨s4.l, .sh (.bl false) :: s4.k⟩) X) X := by simp only [WE, we, TP, St.push]
@[irreducible] def AG (s : St) (n : Nat) (P : List D → Prop) : Prop := ∃ ds, s.args n = some ds ∧ ds.length = n ∧ P ds
def agK (n : Nat) (P : List D → Prop) : Option (List D) → Prop
  | some ds => ds.length = n ∧ P ds
  | none => False
@[simp] theorem agK_some {n : Nat} {P : List D → Prop} {ds : List D} : agK n P (some ds) = (ds.length = n ∧ P ds) := rfl
@[simp] theorem a_args {n : Nat} {P : List D → Prop} : AG ⟨l, k⟩ n P = agK n P (svs l (k.take n).reverse) := by
  unfold AG
  refine propext ⟨fun ⟨ds, e, q⟩ => ?_, fun q => ?_⟩
  · have e : svs l (k.take n).reverse = some ds := e
    rw [e]; exact q
  · cases e : svs l (k.take n).reverse with
    | none => rw [e] at q; exact q.elim
    | some d => rw [e] at q; exact ⟨d, e, q⟩
@[simp] theorem x_bi {kk : BiK} {n : Nat} : WE C (.bi kk n a) ⟨l, k⟩ Q X = WE C a ⟨l, k⟩ (fun s1 => AG s1 n fun ds => biS kk ds fun d fr => Q ⟨s1.l, fsh d fr :: s1.k.drop n⟩) X := by simp only [WE, we, AG]
@[simp] theorem x_tup {n : Nat} : WE C (.tup n a) ⟨l, k⟩ Q X = WE C a ⟨l, k⟩ (fun s1 => AG s1 n fun ds => n ≤ sizeLine ∧ Q ⟨frz s1.l (s1.k.take n), .sh (.tup ds) :: s1.k.drop n⟩) X := by simp only [WE, we, AG]
@[simp] theorem x_lst {n : Nat} : WE C (.lst n a) ⟨l, k⟩ Q X = WE C a ⟨l, k⟩ (fun s1 => AG s1 n fun ds => n ≤ sizeLine ∧ Q ⟨frz s1.l (s1.k.take n), .ow (.lst ds) :: s1.k.drop n⟩) X := by simp only [WE, we, AG]
/-- behind a call -/
def CK (l k : List Slot) (n : Nat) (Q : St → Prop) (d : D) (fr : Bool) : Prop := if d.imm = true then Q ⟨l, fsh d fr :: k.drop n⟩ else Q ⟨frz l (k.take n), fsh d fr :: k.drop n⟩
@[simp] theorem py_none {P : List Slot → Prop} : PY 0 l P = P l := rfl
@[simp] theorem py_some {q : Nat} {P : List Slot → Prop} : PY (q + 1) l P = payR (q + 1) l P := by unfold PY; rw [if_neg (by omega)]
@[simp] theorem payR_end {q c : Nat} {P : List Slot → Prop} : payR q [.crd c] P = (q ≤ c ∧ P [.crd (c - q)]) := rfl
@[simp] theorem payR_cons {q : Nat} {x y : Slot} {P : List Slot → Prop} : payR q (x :: y :: l) P = payR q (y :: l) fun l' => P (x :: l') := by
  rw [payR]
  intro c _ e
  cases e
@[simp] theorem x_call {f n : Nat} : WE C (.call f n a) ⟨l, k⟩ Q X = WE C a ⟨l, k⟩ (fun s1 => AG s1 n fun ds => PY (C.cost f) s1.l fun l' => C.fs f ds (CK l' s1.k n Q) (fun x => X x ⟨l', s1.k⟩)) X := by simp only [WE, we, AG]; rfl
@[simp] theorem x_callk {f n : Nat} {perm : List Nat} : WE C (.callk f n perm a) ⟨l, k⟩ Q X = WE C a ⟨l, k⟩ (fun s1 => AG s1 n fun ds => (permL perm ds).length = n ∧ C.cost f = 0 ∧ C.fs f (permL perm ds) (CK s1.l s1.k n Q) (fun x => X x s1)) X := by simp only [WE, we, AG]; rfl
@[simp] theorem ck_eq {n : Nat} {fr : Bool} : CK l k n Q d fr = if d.imm = true then Q ⟨l, fsh d fr :: k.drop n⟩ else Q ⟨frz l (k.take n), fsh d fr :: k.drop n⟩ := rfl
@[simp] theorem imm_non : D.imm .non = true := rfl
@[simp] theorem imm_bl {r : Bool} : D.imm (.bl r) = true := rfl
@[simp] theorem imm_int {r : Int} : D.imm (.int r) = true := rfl
@[simp] theorem imm_str {r : Str} : D.imm (.str r) = true := rfl
@[simp] theorem imm_lst {r : List D} : D.imm (.lst r) = false := rfl
@[simp] theorem imm_dct {tk : Bool} {r : List (D × D)} : D.imm (.dct tk r) = false := rfl
@[simp] theorem fsh_t : fsh d true = .ow d := rfl
@[simp] theorem fsh_f : fsh d false = .sh d := rfl
@[simp] theorem svs_nil : svs l [] = some [] := rfl
@[simp] theorem svs_sh {r : List Slot} : svs l (.sh d :: r) = (svs l r).map (d :: ·) := rfl
@[simp] theorem svs_ow {r : List Slot} : svs l (.ow d :: r) = (svs l r).map (d :: ·) := rfl
@[simp] theorem svs_br {i : Nat} {r : List Slot} : svs l (.br i :: r) = (lv l i).bind fun d => (svs l r).map (d :: ·) := rfl
def lvs : Option Slot → Option D
  | some (.sh d) => some d
  | some (.ow d) => some d
  | _ => none
theorem lv_eq {i : Nat} : lv l i = lvs l[i]? := by unfold lv lvs; rfl
@[simp] theorem lvs_sh : lvs (some (.sh d)) = some d := rfl
@[simp] theorem lvs_ow : lvs (some (.ow d)) = some d := rfl
@[simp] theorem frz_nil : frz l [] = l := rfl
@[simp] theorem frz_sh {r : List Slot} : frz l (.sh d :: r) = frz l r := rfl
@[simp] theorem frz_ow {r : List Slot} : frz l (.ow d :: r) = frz l r := rfl
@[simp] theorem frz_br {i : Nat} {r : List Slot} : frz l (.br i :: r) = frz (frz1 l i) r := rfl
theorem sizeL : (30 : Nat) ≤ sizeLine := by rw [sizeLine_eq]; omega
@[simp] theorem sz0 : 0 ≤ sizeLine := Nat.zero_le _
@[simp] theorem sz1 : 1 ≤ sizeLine := by rw [sizeLine_eq]; omega
@[simp] theorem sz2 : 2 ≤ sizeLine := by rw [sizeLine_eq]; omega
@[simp] theorem sz3 : 3 ≤ sizeLine := by rw [sizeLine_eq]; omega
@[simp] theorem sz4 : 4 ≤ sizeLine := by rw [sizeLine_eq]; omega
@[simp] theorem x_rgl1 {t : Bool} : WE C (.rgl1 t a) ⟨l, k⟩ Q X = WE C a ⟨l, k⟩ (fun s1 => TP s1 fun d s2 => ∃ n, d = .int n ∧ rglS t 0 n fun d fr => Q ⟨s2.l, fsh d fr :: s2.k⟩) X := by simp only [WE, we, TP, St.push]
@[simp] theorem x_rgl2 {t : Bool} : WE C (.rgl2 t a b) ⟨l, k⟩ Q X = WE C a ⟨l, k⟩ (fun s1 => WE C b s1 (fun s2 => TP s2 fun y s3 => TP s3 fun x s4 => ∃ m n, x = .int m ∧ y = .int n ∧ rglS t m n fun d fr => Q ⟨s4.l, fsh d fr :: s4.k⟩) X) X := by simp only [WE, we, TP, St.push]
@[simp] theorem x_slc {lo hi : E} : WE C (.slc a lo hi) ⟨l, k⟩ Q X = WE C a ⟨l, k⟩ (fun s1 => wprt (notNone lo) (fun s Q => WE C lo s Q X) s1 fun i s2 => wprt (notNone hi) (fun s Q => WE C hi s Q X) s2 fun j s3 => TP s3 fun x s6 =>
      slcS x i j fun d fr => Q ⟨s6.l, fsh d fr :: s6.k⟩) X := by simp only [WE, we, TP, St.push]
/-- isinstance -/
@[simp] theorem isiS_eq {x : D} {n : String} {P : Bool → Prop} : isiS C x (.ty n) P = ∃ m, tyIs x = some m ∧ knownTy n = true ∧ P (m == n || (m == "bool" && n == "int")) := by
  unfold isiS
  refine propext ⟨fun ⟨b, e, q⟩ => ?_, fun ⟨m, e, hk, q⟩ => ⟨_, by rw [isiB_ty, e]; simp [hk], q⟩⟩
  rw [isiB_ty] at e
  cases hm : tyIs x with
  | none => rw [hm] at e; cases e
  | some m =>
    rw [hm] at e
    cases hk : knownTy n with
    | false => rw [hk] at e; cases e
    | true => rw [hk] at e; cases e; exact ⟨m, rfl, rfl, q⟩
@[simp] theorem known1 : knownTy "int" = true := by decide
@[simp] theorem known2 : knownTy "bool" = true := by decide
@[simp] theorem known3 : knownTy "str" = true := by decide
@[simp] theorem known4 : knownTy "tuple" = true := by decide
@[simp] theorem known5 : knownTy "list" = true := by decide
@[simp] theorem known6 : knownTy "dict" = true := by decide
@[simp] theorem ty_non : tyIs .non = some "NoneType" := rfl
@[simp] theorem ty_bl {r : Bool} : tyIs (.bl r) = some "bool" := rfl
@[simp] theorem ty_int {i : Int} : tyIs (.int i) = some "int" := rfl
@[simp] theorem ty_str {i : Str} : tyIs (.str i) = some "str" := rfl
@[simp] theorem ty_tup {i : List D} : tyIs (.tup i) = some "tuple" := rfl
@[simp] theorem ty_lst {i : List D} : tyIs (.lst i) = some "list" := rfl
@[simp] theorem ty_dct {tk : Bool} {i : List (D × D)} : tyIs (.dct tk i) = some "dict" := rfl
@[simp] theorem ty_rng {i j : Int} : tyIs (.rng i j) = none := rfl
@[simp] theorem ty_exc {i : Nat} {j : List (Str × D)} : tyIs (.exc i j) = none := rfl
@[simp] theorem ty_fn {i : Nat} : tyIs (.fn i) = none := rfl
@[simp] theorem ty_cls {i : Nat} : tyIs (.cls i) = none := rfl
@[simp] theorem ty_ty {i : String} : tyIs (.ty i) = none := rfl
@[simp] theorem ty_lam {i : Nat} : tyIs (.lam i) = none := rfl
@[simp] theorem ty_thk {i : Nat} {j : List D} : tyIs (.thk i j) = none := rfl
@[simp] theorem ty_res : tyIs .res = none := rfl
@[simp] theorem ty_scr {i : List Int} : tyIs (.scr i) = none := rfl
@[simp] theorem pln_int {i : Int} : D.pln (.int i) 60 = true := rfl
@[simp] theorem pln_bl {i : Bool} : D.pln (.bl i) 60 = true := rfl
@[simp] theorem pln_non : D.pln .non 60 = true := rfl
@[simp] theorem pln_str {i : Str} : D.pln (.str i) 60 = PyData.strOk i := rfl
@[simp] theorem len_tup {ds : List D} {P : D → Bool → Prop} : biS .len [.tup ds] P = P (.int ds.length) false := rfl
@[simp] theorem len_lst {ds : List D} {P : D → Bool → Prop} : biS .len [.lst ds] P = P (.int ds.length) false := rfl
@[simp] theorem tuple_tup {ds : List D} {P : D → Bool → Prop} : biS .tuple [.tup ds] P = P (.tup ds) false := rfl
@[simp] theorem tuple_lst {ds : List D} {P : D → Bool → Prop} : biS .tuple [.lst ds] P = P (.tup ds) false := rfl
@[simp] theorem list_tup {ds : List D} {P : D → Bool → Prop} : biS .list [.tup ds] P = P (.lst ds) true := rfl
@[simp] theorem list_lst {ds : List D} {P : D → Bool → Prop} : biS .list [.lst ds] P = P (.lst ds) true := rfl
@[simp] theorem min_int {i j : Int} {P : D → Bool → Prop} : biS .min2 [.int i, .int j] P = P (.int (if j < i then j else i)) false := rfl
@[simp] theorem max_int {i j : Int} {P : D → Bool → Prop} : biS .max2 [.int i, .int j] P = P (.int (if j > i then j else i)) false := rfl
@[simp] theorem abs_int {i : Int} {P : D → Bool → Prop} : biS .abs [.int i] P = P (.int (if i < 0 then -i else i)) false := rfl
@[simp] theorem int_int {i : Int} {P : D → Bool → Prop} : biS .int [.int i] P = P (.int i) false := rfl
@[simp] theorem all_lst {ds : List D} {P : D → Bool → Prop} : biS .all [.lst ds] P = ∃ bs, bls? ds = some bs ∧ P (.bl (bs.all id)) false := rfl
@[simp] theorem any_lst {ds : List D} {P : D → Bool → Prop} : biS .any [.lst ds] P = ∃ bs, bls? ds = some bs ∧ P (.bl (bs.any id)) false := rfl
@[simp] theorem bls_map {α : Type} {f : α → Bool} : ∀ {l : List α}, bls? (l.map fun x => .bl (f x)) = some (l.map f)
  | [] => rfl
  | x :: l => by simp [bls?, bls_map (l := l)]
@[simp] theorem eqq_int {i j : Int} : D.eqq (.int i) (.int j) = (i == j) := rfl
@[simp] theorem asgn_name {i : Nat} {l : List Slot} : asgn (.name i) (.inl d) l = some (l.set i (.sh d)) := rfl
@[simp] theorem asgn_tup {r : T} {ds : List D} {l : List Slot} : asgn (.tup r) (.inl (.tup ds)) l = asgn r (.inr ds) l := rfl
@[simp] theorem asgn_nil {l : List Slot} : asgn .nil (.inr []) l = some l := rfl
@[simp] theorem asgn_cons {a r : T} {ds : List D} {l : List Slot} : asgn (.cons a r) (.inr (d :: ds)) l = (asgn a (.inl d) l).bind fun l1 => asgn r (.inr ds) l1 := rfl
@[simp] theorem names_name {i : Nat} : T.names (.name i) = [i] := rfl
@[simp] theorem emps_nil {l : List Slot} : emps l [] = l := rfl
@[simp] theorem emps_cons {l : List Slot} {i : Nat} {r : List Nat} : emps l (i :: r) = (emps l r).set i .emp := rfl
@[simp] theorem hids_nil {l : List Slot} : hids l [] = [] := rfl
@[simp] theorem hids_cons {l : List Slot} {i : Nat} {r : List Nat} : hids l (i :: r) = (l[i]?).getD .emp :: hids l r := rfl
@[simp] theorem unhid_nil {l hs : List Slot} : unhid l [] hs = l := by unfold unhid; rfl
@[simp] theorem unhid_cons {l hs : List Slot} {x : Slot} {i : Nat} {r : List Nat} : unhid l (i :: r) (x :: hs) = (unhid l r hs).set i x := rfl
@[simp] theorem frz1_eq {l : List Slot} {i : Nat} : frz1 l i = match l[i]? with | some (.ow d) => l.set i (.sh d) | _ => l := rfl
@[simp] theorem itX_t {ds : List D} : itX .seq [.tup ds] = some (True, ds) := rfl
@[simp] theorem itX_l {ds : List D} : itX .seq [.lst ds] = some (True, ds) := rfl
/-- operations -/
@[simp] theorem m_eq {x y : D} {P : Bool → Prop} : cmpS .eq x y P = (x.pln 60 = true ∧ y.pln 60 = true ∧ P (D.eqq x y)) := by cases x <;> cases y <;> rfl
@[simp] theorem m_ne {x y : D} {P : Bool → Prop} : cmpS .ne x y P = (x.pln 60 = true ∧ y.pln 60 = true ∧ P (!D.eqq x y)) := by cases x <;> cases y <;> rfl
@[simp] theorem m_lt {i j : Int} {P : Bool → Prop} : cmpS .lt (.int i) (.int j) P = P (decide (i < j)) := rfl
@[simp] theorem m_le {i j : Int} {P : Bool → Prop} : cmpS .le (.int i) (.int j) P = P (decide (i ≤ j)) := rfl
@[simp] theorem m_gt {i j : Int} {P : Bool → Prop} : cmpS .gt (.int i) (.int j) P = P (decide (j < i)) := rfl
@[simp] theorem m_ge {i j : Int} {P : Bool → Prop} : cmpS .ge (.int i) (.int j) P = P (decide (j ≤ i)) := rfl
def opK (P : D → Prop) : Option D → Prop
  | some d => P d
  | none => False
@[simp] theorem opK_some {P : D → Prop} : opK P (some d) = P d := rfl
@[simp] theorem n_it {ds : List D} {i : Int} {P : D → Prop} : idxS (.tup ds) (.int i) P = opK P (L2.atI ds i) := by
  refine propext ⟨fun ⟨d, e, q⟩ => by rw [e]; exact q, fun q => ?_⟩
  cases e : L2.atI ds i with
  | none => rw [e] at q; exact q.elim
  | some d => rw [e] at q; exact ⟨d, e, q⟩
@[simp] theorem n_il {ds : List D} {i : Int} {P : D → Prop} : idxS (.lst ds) (.int i) P = opK P (L2.atI ds i) := by
  refine propext ⟨fun ⟨d, e, q⟩ => by rw [e]; exact q, fun q => ?_⟩
  cases e : L2.atI ds i with
  | none => rw [e] at q; exact q.elim
  | some d => rw [e] at q; exact ⟨d, e, q⟩
/-! statements -/
def En.to (N : En) (K : St → Prop) : En := { N with nx := K }
@[simp] theorem to_nx {N : En} {K : St → Prop} {s : St} : (N.to K).nx s = K s := rfl
@[simp] theorem to_rt {N : En} {K : St → Prop} : (N.to K).rt = N.rt := rfl
@[simp] theorem to_bk {N : En} {K : St → Prop} : (N.to K).bk = N.bk := rfl
@[simp] theorem to_ct {N : En} {K : St → Prop} : (N.to K).ct = N.ct := rfl
@[simp] theorem to_ex {N : En} {K : St → Prop} : (N.to K).ex = N.ex := rfl
@[irreducible] def retK (R : D → Bool → Prop) (s1 : St) : Prop := match s1.k with
      | .sh d :: _ => R d false
      | .ow d :: _ => R d true
      | .br j :: _ => (match s1.l[j]? with
        | some (.ow d) => R d true
        | some (.sh d) => R d false
        | _ => False)
      | _ => False
def retO (R : D → Bool → Prop) : Option Slot → Prop
  | some (.ow d) => R d true
  | some (.sh d) => R d false
  | _ => False
@[simp] theorem retO_ow {R : D → Bool → Prop} : retO R (some (.ow d)) = R d true := rfl
@[simp] theorem retO_sh {R : D → Bool → Prop} : retO R (some (.sh d)) = R d false := rfl
@[simp] theorem r_sh {R : D → Bool → Prop} : retK R ⟨l, .sh d :: k⟩ = R d false := by unfold retK; rfl
@[simp] theorem r_ow {R : D → Bool → Prop} : retK R ⟨l, .ow d :: k⟩ = R d true := by unfold retK; rfl
@[simp] theorem r_br {R : D → Bool → Prop} {j : Nat} : retK R ⟨l, .br j :: k⟩ = retO R l[j]? := by unfold retK retO; rfl
@[irreducible] def setK (K : St → Prop) (i : Nat) (s1 : St) : Prop := match s1.k with
      | .sh d :: k => nbrs k [i] = true ∧ K ⟨s1.l.set i (.sh d), k⟩
      | .ow d :: k => nbrs k [i] = true ∧ K ⟨s1.l.set i (.ow d), k⟩
      | .br j :: k => nbrs k [i] = true ∧ ∃ d, lv s1.l j = some d ∧ K ⟨(frz1 s1.l j).set i (.sh d), k⟩
      | _ => False
@[simp] theorem s_sh {K : St → Prop} {i : Nat} : setK K i ⟨l, .sh d :: k⟩ = (nbrs k [i] = true ∧ K ⟨l.set i (.sh d), k⟩) := by unfold setK; rfl
@[simp] theorem s_ow {K : St → Prop} {i : Nat} : setK K i ⟨l, .ow d :: k⟩ = (nbrs k [i] = true ∧ K ⟨l.set i (.ow d), k⟩) := by unfold setK; rfl
@[simp] theorem s_br {K : St → Prop} {i j : Nat} : setK K i ⟨l, .br j :: k⟩ = (nbrs k [i] = true ∧ ∃ d, lv l j = some d ∧ K ⟨(frz1 l j).set i (.sh d), k⟩) := by unfold setK; rfl
@[irreducible] def exK (K : St → Prop) (s1 : St) : Prop := match s1.k with | _ :: k => K ⟨s1.l, k⟩ | [] => False
@[simp] theorem e_pop {K : St → Prop} {x : Slot} : exK K ⟨l, x :: k⟩ = K ⟨l, k⟩ := by unfold exK; rfl
@[simp] theorem nb_nil {is : List Nat} : nbrs [] is = true := rfl
variable {N : En} {sa sb : S}
@[simp] theorem y_skip : WS C .skip ⟨l, k⟩ N = N.nx ⟨l, k⟩ := by simp only [WS, ws]
@[simp] theorem y_seq : WS C (.seq sa sb) ⟨l, k⟩ N = WS C sa ⟨l, k⟩ (N.to fun s1 => WS C sb s1 N) := by simp only [WS, ws, En.to]
@[simp] theorem y_ite {c : E} : WS C (.ite c sa sb) ⟨l, k⟩ N = WE C c ⟨l, k⟩ (fun s1 => TPB s1 fun r s2 => if r = true then WS C sa s2 N else WS C sb s2 N) N.ex := by simp only [WS, ws, WE, TPB]
@[simp] theorem y_ret {e : E} : WS C (.ret e) ⟨l, k⟩ N = WE C e ⟨l, k⟩ (retK N.rt) N.ex := by simp only [WS, ws, WE]; unfold retK; rfl
@[simp] theorem y_set {i : Nat} {e : E} : WS C (.set i e) ⟨l, k⟩ N = WE C e ⟨l, k⟩ (setK N.nx i) N.ex := by simp only [WS, ws, WE]; unfold setK; rfl
@[simp] theorem y_ex {e : E} : WS C (.ex e) ⟨l, k⟩ N = WE C e ⟨l, k⟩ (exK N.nx) N.ex := by simp only [WS, ws, WE]; unfold exK; rfl
@[simp] theorem y_retn : WS C .retn ⟨l, k⟩ N = N.rt .non false := by simp only [WS, ws]
@[simp] theorem y_brk : WS C .brk ⟨l, k⟩ N = N.bk ⟨l, k⟩ := by simp only [WS, ws]
@[simp] theorem y_cont : WS C .cont ⟨l, k⟩ N = N.ct ⟨l, k⟩ := by simp only [WS, ws]
@[simp] theorem y_setT {t : T} {e : E} : WS C (.setT t e) ⟨l, k⟩ N = WE C e ⟨l, k⟩ (fun s1 => TP s1 fun d s2 => nbrs s2.k t.names = true ∧ ∃ l, asgn t (.inl d) (frz s1.l (s1.k.take 1)) = some l ∧ N.nx ⟨l, s2.k⟩) N.ex := by simp only [WS, ws, WE, TP]
@[simp] theorem y_par {is : List Nat} {e : E} : WS C (.par is e) ⟨l, k⟩ N = WE C e ⟨l, k⟩ (fun s1 => ∃ l k, unbs is.length s1.k s1.l = some (l, k) ∧ nbrs (k.drop is.length) is = true ∧ N.nx ⟨sts is.reverse (k.take is.length) l, k.drop is.length⟩) N.ex := by simp only [WS, ws, WE]
/-! loops -/
/-- one turn of a comprehension -/
def WB (C : Ctx) (own : List Nat) (tg : T) (hc : Bool) (c elt : E) (base : List Slot) (x : D) (s2 : St) (P : St → Prop) : Prop := wbody C own tg hc c elt base x s2 P
@[irreducible] def AC (s : St) (P : St → Prop) : Prop := s.acc P
@[simp] theorem acc_sh {as : List D} {P : St → Prop} : AC ⟨l, .sh d :: .ow (.lst as) :: k⟩ P = (as.length < sizeLine ∧ P ⟨l, .ow (.lst (as ++ [d])) :: k⟩) := by
  unfold AC; exact propext ⟨fun ⟨d', e, h, q⟩ => by cases e; exact ⟨h, q⟩, fun ⟨h, q⟩ => ⟨d, rfl, h, q⟩⟩
@[simp] theorem acc_ow {as : List D} {P : St → Prop} : AC ⟨l, .ow d :: .ow (.lst as) :: k⟩ P = (as.length < sizeLine ∧ P ⟨l, .ow (.lst (as ++ [d])) :: k⟩) := by
  unfold AC; exact propext ⟨fun ⟨d', e, h, q⟩ => by cases e; exact ⟨h, q⟩, fun ⟨h, q⟩ => ⟨d, rfl, h, q⟩⟩
def asK (P : List Slot → Prop) : Option (List Slot) → Prop
  | some l => P l
  | none => False
@[simp] theorem asK_some {P : List Slot → Prop} : asK P (some l) = P l := rfl
theorem asK_eq {P : List Slot → Prop} {o : Option (List Slot)} : (∃ l, o = some l ∧ P l) = asK P o := by
  refine propext ⟨fun ⟨l, e, q⟩ => by rw [e]; exact q, fun q => ?_⟩
  cases o with
  | none => exact q.elim
  | some l => exact ⟨l, rfl, q⟩
@[simp] theorem wb_plain {own : List Nat} {tg : T} {cc elt : E} {base : List Slot} {x : D} {as : List D} {P : St → Prop} :
    WB C own tg false cc elt base x ⟨l, .ow (.lst as) :: base⟩ P = asK (fun l' => WE C elt ⟨l', .ow (.lst as) :: base⟩ (fun s4 => AC s4 fun s5 => P ⟨emps s5.l own, s5.k⟩) (fun _ _ => False)) (asgn tg (.inl x) (emps l own)) := by
  rw [← asK_eq]
  simp only [WB, wbody, WE, AC]
  exact propext ⟨fun q => q.2, fun q => ⟨⟨as, rfl⟩, q⟩⟩
@[simp] theorem wb_if {own : List Nat} {tg : T} {cc elt : E} {base : List Slot} {x : D} {as : List D} {P : St → Prop} :
    WB C own tg true cc elt base x ⟨l, .ow (.lst as) :: base⟩ P = asK (fun l' => WE C cc ⟨l', .ow (.lst as) :: base⟩ (fun s3 => TPB s3 fun b s3 => if b = true then WE C elt s3 (fun s4 => AC s4 fun s5 => P ⟨emps s5.l own, s5.k⟩) (fun _ _ => False) else P ⟨emps s3.l own, s3.k⟩) (fun _ _ => False)) (asgn tg (.inl x) (emps l own)) := by
  rw [← asK_eq]
  simp only [WB, wbody, WE, AC, TPB]
  exact propext ⟨fun q => q.2, fun q => ⟨⟨as, rfl⟩, q⟩⟩
theorem wcomp_map {own : List Nat} {tg : T} {cc elt : E} {base : List Slot} {l0 : List Slot} {fin : St → Prop} (f : D → D) : ∀ (items acc : List D), acc.length + items.length ≤ sizeLine →
    (∀ x ∈ items, ∀ (as : List D) (P : St → Prop), as.length < sizeLine → P ⟨l0, .ow (.lst (as ++ [f x])) :: base⟩ → WB C own tg false cc elt base x ⟨l0, .ow (.lst as) :: base⟩ P) →
    fin ⟨l0, .ow (.lst (acc ++ items.map f)) :: base⟩ → wcomp (WB C own tg false cc elt base) items ⟨l0, .ow (.lst acc) :: base⟩ fin
  | [], acc, _, _, h => by rw [List.map_nil, List.append_nil] at h; exact h
  | x :: items, acc, hl, hb, h => by
    rw [List.length_cons] at hl
    refine hb x List.mem_cons_self acc _ (by omega) ?_
    refine wcomp_map f items (acc ++ [f x]) (by rw [List.length_append, List.length_singleton]; omega) (fun y hy => hb y (List.mem_cons_of_mem _ hy)) ?_
    rw [List.append_assoc]
    exact h
theorem wcomp_fil {own : List Nat} {tg : T} {cc elt : E} {base : List Slot} {l0 : List Slot} {fin : St → Prop} (p : D → Bool) (f : D → D) : ∀ (items acc : List D), acc.length + items.length ≤ sizeLine →
    (∀ x ∈ items, ∀ (as : List D) (P : St → Prop), as.length < sizeLine → P ⟨l0, .ow (.lst (if p x then as ++ [f x] else as)) :: base⟩ → WB C own tg true cc elt base x ⟨l0, .ow (.lst as) :: base⟩ P) →
    fin ⟨l0, .ow (.lst (acc ++ (items.filter p).map f)) :: base⟩ → wcomp (WB C own tg true cc elt base) items ⟨l0, .ow (.lst acc) :: base⟩ fin
  | [], acc, _, _, h => by rw [List.filter_nil, List.map_nil, List.append_nil] at h; exact h
  | x :: items, acc, hl, hb, h => by
    rw [List.length_cons] at hl
    refine hb x List.mem_cons_self acc _ (by omega) ?_
    cases hp : p x with
    | true =>
      rw [if_pos rfl]
      refine wcomp_fil p f items (acc ++ [f x]) (by rw [List.length_append, List.length_singleton]; omega) (fun y hy => hb y (List.mem_cons_of_mem _ hy)) ?_
      rw [List.append_assoc]
      rw [List.filter_cons, if_pos hp] at h
      exact h
    | false =>
      rw [if_neg (by simp)]
      refine wcomp_fil p f items acc (by omega) (fun y hy => hb y (List.mem_cons_of_mem _ hy)) ?_
      rw [List.filter_cons, if_neg (by simp [hp])] at h
      exact h
/-- a loop whose turns lead from st a to st (g a x) -/
theorem wfor_fold {α : Type} {F : D → St → En → Prop} (st : α → St) (g : α → D → α) : ∀ (items : List D) (a : α) {N : En}, (∀ x ∈ items, ∀ a (N' : En), N'.nx (st (g a x)) → F x (st a) N') → N.nx (st (items.foldl g a)) → wfor F items (st a) N
  | [], a, N, _, h => h
  | x :: items, a, N, hb, h => hb x List.mem_cons_self a _ (wfor_fold st g items (g a x) (fun y hy => hb y (List.mem_cons_of_mem _ hy)) h)
/-- with an invariant -/
theorem wfor_inv {α : Type} {F : D → St → En → Prop} (st : α → St) (I : α → Prop) (g : α → D → α) : ∀ (items : List D) (a : α) {N : En}, I a → (∀ x ∈ items, ∀ a, I a → I (g a x) ∧ ∀ (N' : En), N'.nx (st (g a x)) → F x (st a) N') → N.nx (st (items.foldl g a)) → wfor F items (st a) N
  | [], a, N, _, _, h => h
  | x :: items, a, N, ia, hb, h => (hb x List.mem_cons_self a ia).2 _ (wfor_inv st I g items (g a x) (hb x List.mem_cons_self a ia).1 (fun y hy => hb y (List.mem_cons_of_mem _ hy)) h)
/-- behind a comprehension's source -/
def LK (C : Ctx) (own : List Nat) (tg : T) (it : ItK) (n : Nat) (hc : Bool) (cc elt : E) (Q : St → Prop) (l k : List Slot) (ds : List D) : Prop := ∃ cnd xs, itX it ds = some (cnd, xs) ∧ cnd ∧
      nbrs ((⟨l, k⟩ : St).shd n ds).k own = true ∧ tg.names.all (fun i => own.contains i) = true ∧ wcomp (WB C own tg hc cc elt (hids ((⟨l, k⟩ : St).shd n ds).l own ++ ((⟨l, k⟩ : St).shd n ds).k)) xs ⟨emps ((⟨l, k⟩ : St).shd n ds).l own, .ow (.lst []) :: (hids ((⟨l, k⟩ : St).shd n ds).l own ++ ((⟨l, k⟩ : St).shd n ds).k)⟩
        (wfin Q own (hids ((⟨l, k⟩ : St).shd n ds).l own ++ ((⟨l, k⟩ : St).shd n ds).k) (hids ((⟨l, k⟩ : St).shd n ds).l own) (k.drop n))
@[simp] theorem x_lc {own : List Nat} {tg : T} {it : ItK} {n : Nat} {src : E} {hc : Bool} {cc elt : E} : WE C (.lc own tg it n src hc cc elt) ⟨l, k⟩ Q X = WE C src ⟨l, k⟩ (fun s1 => AG s1 n fun ds => LK C own tg it n hc cc elt Q s1.l s1.k ds) X := by
  simp only [WE, AG, LK]
  rfl
/-- a comprehension without a condition -/
theorem lk_map {own : List Nat} {tg : T} {it : ItK} {n : Nat} {cc elt : E} {ds : List D} {cnd : Prop} {xs : List D} (f : D → D) (hx : itX it ds = some (cnd, xs)) (hcnd : cnd) (hnb : nbrs ((⟨l, k⟩ : St).shd n ds).k own = true) (htn : tg.names.all (fun i => own.contains i) = true) (hl : xs.length ≤ sizeLine)
    (hb : ∀ x ∈ xs, ∀ (as : List D) (P : St → Prop), as.length < sizeLine → P ⟨emps (frz l (k.take n)) own, .ow (.lst (as ++ [f x])) :: (hids (frz l (k.take n)) own ++ (ds.reverse.map Slot.sh ++ k.drop n))⟩ →
      WB C own tg false cc elt (hids (frz l (k.take n)) own ++ (ds.reverse.map Slot.sh ++ k.drop n)) x ⟨emps (frz l (k.take n)) own, .ow (.lst as) :: (hids (frz l (k.take n)) own ++ (ds.reverse.map Slot.sh ++ k.drop n))⟩ P)
    (q : Q ⟨unhid (emps (frz l (k.take n)) own) own (hids (frz l (k.take n)) own), .ow (.lst (xs.map f)) :: k.drop n⟩) : LK C own tg it n false cc elt Q l k ds :=
  ⟨cnd, xs, hx, hcnd, hnb, htn, wcomp_map f xs [] (by simpa using hl) hb ⟨_, rfl, q⟩⟩
theorem lk_fil {own : List Nat} {tg : T} {it : ItK} {n : Nat} {cc elt : E} {ds : List D} {cnd : Prop} {xs : List D} (p : D → Bool) (f : D → D) (hx : itX it ds = some (cnd, xs)) (hcnd : cnd) (hnb : nbrs ((⟨l, k⟩ : St).shd n ds).k own = true) (htn : tg.names.all (fun i => own.contains i) = true) (hl : xs.length ≤ sizeLine)
    (hb : ∀ x ∈ xs, ∀ (as : List D) (P : St → Prop), as.length < sizeLine → P ⟨emps (frz l (k.take n)) own, .ow (.lst (if p x then as ++ [f x] else as)) :: (hids (frz l (k.take n)) own ++ (ds.reverse.map Slot.sh ++ k.drop n))⟩ →
      WB C own tg true cc elt (hids (frz l (k.take n)) own ++ (ds.reverse.map Slot.sh ++ k.drop n)) x ⟨emps (frz l (k.take n)) own, .ow (.lst as) :: (hids (frz l (k.take n)) own ++ (ds.reverse.map Slot.sh ++ k.drop n))⟩ P)
    (q : Q ⟨unhid (emps (frz l (k.take n)) own) own (hids (frz l (k.take n)) own), .ow (.lst ((xs.filter p).map f)) :: k.drop n⟩) : LK C own tg it n true cc elt Q l k ds :=
  ⟨cnd, xs, hx, hcnd, hnb, htn, wcomp_fil p f xs [] (by simpa using hl) hb ⟨_, rfl, q⟩⟩
/-! dict comprehensions -/
def WBD (C : Ctx) (own : List Nat) (tg : T) (hc : Bool) (c key val : E) (base : List Slot) (x : D) (s2 : St) (P : St → Prop) : Prop := wbodyD C own tg hc c key val base x s2 P
@[irreducible] def ACD (s : St) (P : St → Prop) : Prop := s.accD P
@[simp] theorem accD_sh {as : List (D × D)} {x v : D} {P : St → Prop} : ACD ⟨l, .sh v :: .sh x :: .ow (.dct false as) :: k⟩ P = ((keyOf x).isSome = true ∧ as.length < sizeLine ∧ P ⟨l, .ow (.dct false (putD as x v)) :: k⟩) := by
  unfold ACD; exact propext ⟨fun ⟨_, _, e, h1, e2, h2, q⟩ => by cases e; cases e2; exact ⟨h1, h2, q⟩, fun ⟨h1, h2, q⟩ => ⟨x, v, rfl, h1, rfl, h2, q⟩⟩
@[simp] theorem accD_ow {as : List (D × D)} {x v : D} {P : St → Prop} : ACD ⟨l, .ow v :: .sh x :: .ow (.dct false as) :: k⟩ P = ((keyOf x).isSome = true ∧ as.length < sizeLine ∧ P ⟨l, .ow (.dct false (putD as x v)) :: k⟩) := by
  unfold ACD; exact propext ⟨fun ⟨_, _, e, h1, e2, h2, q⟩ => by cases e; cases e2; exact ⟨h1, h2, q⟩, fun ⟨h1, h2, q⟩ => ⟨x, v, rfl, h1, rfl, h2, q⟩⟩
@[simp] theorem wbd_plain {own : List Nat} {tg : T} {cc ck cv : E} {base : List Slot} {x : D} {as : List (D × D)} {P : St → Prop} :
    WBD C own tg false cc ck cv base x ⟨l, .ow (.dct false as) :: base⟩ P = asK (fun l' => WE C ck ⟨l', .ow (.dct false as) :: base⟩ (fun s4 => WE C cv s4 (fun s5 => ACD s5 fun s6 => P ⟨emps s6.l own, s6.k⟩) (fun _ _ => False)) (fun _ _ => False)) (asgn tg (.inl x) (emps l own)) := by
  rw [← asK_eq]
  simp only [WBD, wbodyD, WE, ACD]
  exact propext ⟨fun q => q.2, fun q => ⟨⟨as, rfl⟩, q⟩⟩
@[simp] theorem wbd_if {own : List Nat} {tg : T} {cc ck cv : E} {base : List Slot} {x : D} {as : List (D × D)} {P : St → Prop} :
    WBD C own tg true cc ck cv base x ⟨l, .ow (.dct false as) :: base⟩ P = asK (fun l' => WE C cc ⟨l', .ow (.dct false as) :: base⟩ (fun s3 => TPB s3 fun b s3 => if b = true then WE C ck s3 (fun s4 => WE C cv s4 (fun s5 => ACD s5 fun s6 => P ⟨emps s6.l own, s6.k⟩) (fun _ _ => False)) (fun _ _ => False) else P ⟨emps s3.l own, s3.k⟩) (fun _ _ => False)) (asgn tg (.inl x) (emps l own)) := by
  rw [← asK_eq]
  simp only [WBD, wbodyD, WE, ACD, TPB]
  exact propext ⟨fun q => q.2, fun q => ⟨⟨as, rfl⟩, q⟩⟩
theorem wcompD_map {own : List Nat} {tg : T} {cc ck cv : E} {base : List Slot} {l0 : List Slot} {fin : St → Prop} (f g : D → D) : ∀ (items : List D) (acc : List (D × D)), acc.length + items.length ≤ sizeLine →
    (∀ x ∈ items, ∀ (as : List (D × D)) (P : St → Prop), as.length < sizeLine → P ⟨l0, .ow (.dct false (putD as (f x) (g x))) :: base⟩ → WBD C own tg false cc ck cv base x ⟨l0, .ow (.dct false as) :: base⟩ P) →
    fin ⟨l0, .ow (.dct false (items.foldl (fun a x => putD a (f x) (g x)) acc)) :: base⟩ → wcomp (WBD C own tg false cc ck cv base) items ⟨l0, .ow (.dct false acc) :: base⟩ fin
  | [], acc, _, _, h => h
  | x :: items, acc, hl, hb, h => by
    rw [List.length_cons] at hl
    refine hb x List.mem_cons_self acc _ (by omega) ?_
    refine wcompD_map f g items _ ?_ (fun y hy => hb y (List.mem_cons_of_mem _ hy)) h
    have : (putD acc (f x) (g x)).length ≤ acc.length + 1 := by unfold putD; split <;> simp
    omega
/-- behind a dict comprehension's source -/
def LKD (C : Ctx) (own : List Nat) (tg : T) (it : ItK) (n : Nat) (hc : Bool) (cc ck cv : E) (Q : St → Prop) (l k : List Slot) (ds : List D) : Prop := ∃ cnd xs, itX it ds = some (cnd, xs) ∧ cnd ∧
      nbrs ((⟨l, k⟩ : St).shd n ds).k own = true ∧ tg.names.all (fun i => own.contains i) = true ∧ wcomp (WBD C own tg hc cc ck cv (hids ((⟨l, k⟩ : St).shd n ds).l own ++ ((⟨l, k⟩ : St).shd n ds).k)) xs ⟨emps ((⟨l, k⟩ : St).shd n ds).l own, .ow (.dct false []) :: (hids ((⟨l, k⟩ : St).shd n ds).l own ++ ((⟨l, k⟩ : St).shd n ds).k)⟩
        (wfinD Q own (hids ((⟨l, k⟩ : St).shd n ds).l own ++ ((⟨l, k⟩ : St).shd n ds).k) (hids ((⟨l, k⟩ : St).shd n ds).l own) (k.drop n))
@[simp] theorem x_dc {own : List Nat} {tg : T} {it : ItK} {n : Nat} {src : E} {hc : Bool} {cc ck cv : E} : WE C (.dc own tg it n src hc cc ck cv) ⟨l, k⟩ Q X = WE C src ⟨l, k⟩ (fun s1 => AG s1 n fun ds => LKD C own tg it n hc cc ck cv Q s1.l s1.k ds) X := by
  simp only [WE, AG, LKD]
  rfl
theorem lkd_map {own : List Nat} {tg : T} {it : ItK} {n : Nat} {cc ck cv : E} {ds : List D} {cnd : Prop} {xs : List D} (f g : D → D) (hx : itX it ds = some (cnd, xs)) (hcnd : cnd) (hnb : nbrs ((⟨l, k⟩ : St).shd n ds).k own = true) (htn : tg.names.all (fun i => own.contains i) = true) (hl : xs.length ≤ sizeLine)
    (hb : ∀ x ∈ xs, ∀ (as : List (D × D)) (P : St → Prop), as.length < sizeLine → P ⟨emps (frz l (k.take n)) own, .ow (.dct false (putD as (f x) (g x))) :: (hids (frz l (k.take n)) own ++ (ds.reverse.map Slot.sh ++ k.drop n))⟩ →
      WBD C own tg false cc ck cv (hids (frz l (k.take n)) own ++ (ds.reverse.map Slot.sh ++ k.drop n)) x ⟨emps (frz l (k.take n)) own, .ow (.dct false as) :: (hids (frz l (k.take n)) own ++ (ds.reverse.map Slot.sh ++ k.drop n))⟩ P)
    (q : Q ⟨unhid (emps (frz l (k.take n)) own) own (hids (frz l (k.take n)) own), .ow (.dct false (xs.foldl (fun a x => putD a (f x) (g x)) [])) :: k.drop n⟩) : LKD C own tg it n false cc ck cv Q l k ds :=
  ⟨cnd, xs, hx, hcnd, hnb, htn, wcompD_map f g xs [] (by simpa using hl) hb ⟨_, rfl, q⟩⟩
/-- a loop's turn -/
def WF (C : Ctx) (tg : T) (body : S) (base : List Slot) (x : D) (s2 : St) (N2 : En) : Prop := wfbody C tg body base x s2 N2
@[simp] theorem wf_body {tg : T} {body : S} {base : List Slot} {x : D} {N : En} : WF C tg body base x ⟨l, base⟩ N = asK (fun l' => WS C body ⟨l', base⟩ N) (asgn tg (.inl x) l) := by
  rw [← asK_eq]
  simp only [WF, wfbody, WS]
  exact propext ⟨fun q => q.2, fun q => ⟨by trivial, q⟩⟩
def FK (C : Ctx) (it : ItK) (n : Nat) (tg : T) (body : S) (N : En) (l k : List Slot) (ds : List D) : Prop := ∃ cnd xs, itX it ds = some (cnd, xs) ∧ cnd ∧
      nbrs ((⟨l, k⟩ : St).shd n ds).k tg.names = true ∧ wfor (WF C tg body ((⟨l, k⟩ : St).shd n ds).k) xs ((⟨l, k⟩ : St).shd n ds) (N.to fun s3 => s3.k = ((⟨l, k⟩ : St).shd n ds).k ∧ N.nx (s3.pops n))
@[simp] theorem y_for {it : ItK} {n : Nat} {src : E} {tg : T} {body : S} {N : En} : WS C (.forr it n src tg body) ⟨l, k⟩ N = WE C src ⟨l, k⟩ (fun s1 => AG s1 n fun ds => FK C it n tg body N s1.l s1.k ds) N.ex := by
  simp only [WE, WS, AG, FK]
  rfl
/-- a loop with an invariant: st a the locals -/
theorem fk_inv {α : Type} {it : ItK} {n : Nat} {tg : T} {body : S} {N : En} {ds : List D} {cnd : Prop} {xs : List D} (st : α → List Slot) (I : α → Prop) (g : α → D → α) (a : α) (hx : itX it ds = some (cnd, xs)) (hcnd : cnd) (hnb : nbrs ((⟨l, k⟩ : St).shd n ds).k tg.names = true) (hdn : ds.length = n)
    (h0 : frz l (k.take n) = st a) (ia : I a) (hb : ∀ x ∈ xs, ∀ a, I a → I (g a x) ∧ ∀ (N' : En), N'.nx ⟨st (g a x), ds.reverse.map Slot.sh ++ k.drop n⟩ → WF C tg body (ds.reverse.map Slot.sh ++ k.drop n) x ⟨st a, ds.reverse.map Slot.sh ++ k.drop n⟩ N')
    (q : N.nx ⟨st (xs.foldl g a), k.drop n⟩) : FK C it n tg body N l k ds := by
  refine ⟨cnd, xs, hx, hcnd, hnb, ?_⟩
  have e : (⟨l, k⟩ : St).shd n ds = ⟨st a, ds.reverse.map Slot.sh ++ k.drop n⟩ := by unfold St.shd; rw [h0]
  rw [e]
  refine wfor_inv (fun a => ⟨st a, ds.reverse.map Slot.sh ++ k.drop n⟩) I g xs a ia hb ⟨rfl, ?_⟩
  show N.nx ⟨_, (ds.reverse.map Slot.sh ++ k.drop n).drop n⟩
  have : (ds.reverse.map Slot.sh).length = n := by simp [hdn]
  rw [← this, List.drop_left, this]
  exact q
theorem w_def {n : Nat} {body : S} {ds : List D} {Q : D → Bool → Prop} {X : D → Prop} (q : WS C body ⟨ds.map .sh ++ List.replicate (n - ds.length) .emp, []⟩ ⟨fun _ => Q .non false, Q, fun _ => False, fun _ => False, fun x _ => X x⟩) : wdef C n body ds Q X := by
  simp only [WS] at q
  exact q
theorem w_defc {n q : Nat} {body : S} {ds : List D} {Q : D → Bool → Prop} {X : D → Prop} (h : WS C body ⟨ds.map .sh ++ (List.replicate (n - ds.length) .emp ++ [.crd q]), []⟩ ⟨fun _ => Q .non false, Q, fun _ => False, fun _ => False, fun x _ => X x⟩) : wdefc C n q body ds Q X := by
  simp only [WS] at h
  exact h
end
end DP

set_option Elab.async false
set_option linter.all false
set_option maxRecDepth 100000
set_option maxHeartbeats 1000000
/-! E19: more steps of the plain proofs. -/
namespace DP
open PySem PySem.Spec PyProof.Rows L2
section
variable {C : Ctx} {l k : List Slot} {Q : St → Prop} {X : D → St → Prop} {a b c : E} {d e : D}
@[simp] theorem names_tup {r : T} : T.names (.tup r) = T.names r := rfl
@[simp] theorem names_nil : T.names .nil = [] := rfl
@[simp] theorem names_cons {x r : T} : T.names (.cons x r) = T.names x ++ T.names r := rfl
@[simp] theorem x_srt {w : Option Nat} : WE C (.srt w a) ⟨l, k⟩ Q X = WE C a ⟨l, k⟩ (fun s1 => TP s1 fun d s2 => ∃ bs : List (List Int), d = .lst (bs.map tupI) ∧ bs.length ≤ 1000000 ∧ (∀ b ∈ bs, b.length ≤ 1000) ∧ Q ⟨s2.l, .ow (.lst ((sortK bs).map tupI)) :: s2.k⟩) X := by simp only [WE, we, TP, St.push]
@[simp] theorem x_ctch {g h : Nat} {loc : Bool} {is : List Nat} : WE C (.ctch g loc h is) ⟨l, k⟩ Q X = ∃ f ds, (if loc = true then l[h]? = some (.sh (.fn f)) ∧ C.hd f = some is.length else f = h) ∧ shs l is = some ds ∧ C.cost f = 0 ∧
      C.fs f ds (fun _ _ => Q ⟨l, .sh .non :: k⟩) (fun x => ∃ c, x = .exc c [] ∧ C.web c = true ∧ Q ⟨l, .sh x :: k⟩) := by simp only [WE, we, St.push]
def owK (P : List D → Prop) : Option Slot → Prop
  | some (.ow (.lst ds)) => P ds
  | _ => False
@[simp] theorem owK_some {P : List D → Prop} {ds : List D} : owK P (some (.ow (.lst ds))) = P ds := rfl
theorem owK_eq {P : List D → Prop} {o : Option Slot} : (∃ ds, o = some (.ow (.lst ds)) ∧ P ds) = owK P o := by
  refine propext ⟨fun ⟨l, e, q⟩ => by rw [e]; exact q, fun q => ?_⟩
  unfold owK at q
  split at q
  · exact ⟨_, rfl, q⟩
  · exact q.elim
@[simp] theorem x_append {i : Nat} : WE C (.append i a) ⟨l, k⟩ Q X = (owK (fun _ => True) l[i]? ∧ WE C a ⟨l, k⟩ (fun s1 => TP s1 fun d s2 => owK (fun ds => ds.length < sizeLine ∧ Q ⟨(frz s1.l (s1.k.take 1)).set i (.ow (.lst (ds ++ [d]))), .sh .non :: s2.k⟩) (frz s1.l (s1.k.take 1))[i]?) X) := by
  simp only [WE, we, TP, ← owK_eq, and_true]
@[simp] theorem x_pop {i : Nat} : WE C (.pop i) ⟨l, k⟩ Q X = owK (fun ds => ∃ d, ds.getLast? = some d ∧ Q ⟨l.set i (.ow (.lst ds.dropLast)), .sh d :: k⟩) l[i]? := by
  simp only [WE, we, ← owK_eq]
  refine propext ⟨fun ⟨ds, d, h1, h2, q⟩ => ⟨ds, h1, d, h2, q⟩, fun ⟨ds, h1, d, h2, q⟩ => ⟨ds, d, h1, h2, q⟩⟩
@[simp] theorem x_popAt {i : Nat} : WE C (.popAt i a) ⟨l, k⟩ Q X = (owK (fun _ => True) l[i]? ∧ WE C a ⟨l, k⟩ (fun s1 => TP s1 fun y s2 => owK (fun ds => ∃ j k d, y = .int j ∧ -(2 ^ 62) ≤ j ∧ j < 2 ^ 62 ∧ L2.ixN ds.length j = some k ∧ ds[k]? = some d ∧
      Q ⟨s1.l.set i (.ow (.lst (ds.eraseIdx k))), .sh d :: s2.k⟩) s1.l[i]?) X) := by
  simp only [WE, we, TP, ← owK_eq, and_true]
  congr 1
  refine congrArg (fun f => we C a ⟨l, k⟩ f X) (funext fun s1 => congrArg (St.top s1) (funext fun y => funext fun s2 => propext ⟨fun ⟨j, k, ds, d, h1, h2, h3, h4, h5, h6, q⟩ => ⟨ds, h2, j, k, d, h1, h3, h4, h5, h6, q⟩, fun ⟨ds, h2, j, k, d, h1, h3, h4, h5, h6, q⟩ => ⟨j, k, ds, d, h1, h2, h3, h4, h5, h6, q⟩⟩))
@[simp] theorem x_extend {i : Nat} : WE C (.extend i a) ⟨l, k⟩ Q X = (owK (fun _ => True) l[i]? ∧ WE C a ⟨l, k⟩ (fun s1 => TP s1 fun d s2 => owK (fun ds => ∃ es, d = .lst es ∧ ds.length + es.length ≤ sizeLine ∧ (match s1.k with | .br j :: _ => j ≠ i | _ => True) ∧
      Q ⟨s1.l.set i (.ow (.lst (ds ++ es))), .sh .non :: s2.k⟩) s1.l[i]?) X) := by
  simp only [WE, we, TP, ← owK_eq, and_true]
  congr 1
  refine congrArg (fun f => we C a ⟨l, k⟩ f X) (funext fun s1 => congrArg (St.top s1) (funext fun y => funext fun s2 => propext ⟨fun ⟨ds, es, h1, h2, q⟩ => ⟨ds, h2, es, h1, q⟩, fun ⟨ds, h2, es, h1, q⟩ => ⟨ds, es, h1, h2, q⟩⟩))
@[simp] theorem wprt_f {F : St → (St → Prop) → Prop} {s : St} {K : Option Int → St → Prop} : wprt false F s K = K none s := rfl
@[simp] theorem wprt_t {F : St → (St → Prop) → Prop} {s : St} {K : Option Int → St → Prop} : wprt true F s K = F s fun s2 => TP s2 fun d s3 => ∃ i, d = .int i ∧ K (some i) s3 := by unfold TP; rfl
@[simp] theorem nn_var {i : Nat} : notNone (.var i) = true := rfl
@[simp] theorem nn_int {i : Int} : notNone (.lit (.int i)) = true := rfl
@[simp] theorem nn_non : notNone (.lit .non) = false := rfl
@[simp] theorem sl_t {ds : List D} {lo hi : Option Int} {P : D → Bool → Prop} : slcS (.tup ds) lo hi P = P (.tup (cutL ds lo hi)) false := rfl
@[simp] theorem sl_l {ds : List D} {lo hi : Option Int} {P : D → Bool → Prop} : slcS (.lst ds) lo hi P = P (.lst (cutL ds lo hi)) true := rfl
@[simp] theorem add_int {i j : Int} {P : D → Bool → Prop} : binS .add (.int i) (.int j) P = P (.int (i + j)) false := rfl
@[simp] theorem sub_int {i j : Int} {P : D → Bool → Prop} : binS .sub (.int i) (.int j) P = P (.int (i - j)) false := rfl
@[simp] theorem add_tup {x y : List D} {P : D → Bool → Prop} : binS .add (.tup x) (.tup y) P = (x.length + y.length ≤ sizeLine ∧ P (.tup (x ++ y)) false) := rfl
@[simp] theorem add_lst {x y : List D} {P : D → Bool → Prop} : binS .add (.lst x) (.lst y) P = (x.length + y.length ≤ sizeLine ∧ P (.lst (x ++ y)) true) := rfl
@[simp] theorem mul_tup {x : List D} {i : Int} {P : D → Bool → Prop} : binS .mul (.tup x) (.int i) P = (x ≠ [] ∧ 2 ≤ i ∧ i ≤ 1000 ∧ x.length ≤ 1000 ∧ P (.tup (List.replicate i.toNat x).flatten) false) := rfl
@[simp] theorem mul_lst {x : List D} {i : Int} {P : D → Bool → Prop} : binS .mul (.lst x) (.int i) P = (-(2 ^ 62) ≤ i ∧ i < 2 ^ 62 ∧ x.length * i.toNat ≤ sizeLine ∧ P (.lst (List.replicate i.toNat x).flatten) true) := rfl
@[simp] theorem mod_int {i j : Int} {P : D → Bool → Prop} : binS .mod (.int i) (.int j) P = (j ≠ 0 ∧ P (.int (i.fmod j)) false) := rfl
@[simp] theorem fdiv_int {i j : Int} {P : D → Bool → Prop} : binS .fdiv (.int i) (.int j) P = (L2.CDivN i j ∧ P (.int (i.fdiv j)) false) := rfl
@[simp] theorem rgl_t {m n : Int} {P : D → Bool → Prop} : rglS true m n P = (bigI m ∧ bigI n ∧ (n - m).toNat ≤ 16777216 ∧ P (.tup (rngD m n)) false) := rfl
@[simp] theorem rgl_f {m n : Int} {P : D → Bool → Prop} : rglS false m n P = (bigI m ∧ bigI n ∧ (n - m).toNat ≤ 16777216 ∧ P (.lst (rngD m n)) true) := rfl
@[simp] theorem itX_r1 {n : Int} : itX .range1 [.int n] = some (bigI n, rngD 0 n) := rfl
@[simp] theorem itX_r2 {m n : Int} : itX .range2 [.int m, .int n] = some (bigI m ∧ bigI n, rngD m n) := rfl
@[simp] theorem itX_z {x y : List D} : itX .zip [.tup x, .tup y] = some (True, (x.zip y).map fun p => D.tup [p.1, p.2]) := rfl
@[simp] theorem itX_zl {x y : List D} : itX .zip [.lst x, .lst y] = some (True, (x.zip y).map fun p => D.tup [p.1, p.2]) := rfl
@[simp] theorem srt_dct {kvs : List (D × D)} {P : D → Bool → Prop} : biS .sorted [.dct false kvs] P = ∃ ns, ints? (kvs.map (·.1)) = some ns ∧ ns.length < 64 ∧ ∀ ms : List Int, ms.Perm ns → ms.Pairwise (· ≤ ·) → P (.lst (ms.map D.int)) true := rfl
@[simp] theorem len_dct {tk : Bool} {kvs : List (D × D)} {P : D → Bool → Prop} : biS .len [.dct tk kvs] P = P (.int kvs.length) false := rfl
@[simp] theorem len_scr {ns : List Int} {P : D → Bool → Prop} : biS .len [.scr ns] P = P (.int ns.length) false := rfl
@[simp] theorem dict_lst {ds : List D} {P : D → Bool → Prop} : biS .dict [.lst ds] P = ∃ kvs : List (D × D), ds = kvs.map (fun p => .tup [p.1, p.2]) ∧ (∀ p ∈ kvs, (keyOf p.1).isSome = true) ∧ P (.dct false (kvs.foldl (fun a p => putD a p.1 p.2) [])) true := rfl
@[simp] theorem ints_map : ∀ {l : List Int}, ints? (l.map D.int) = some l
  | [] => rfl
  | x :: l => by simp [ints?, ints_map (l := l)]
@[simp] theorem m_isN {x : D} {P : Bool → Prop} : cmpS .is x .non P = P x.isNon := by cases x <;> rfl
@[simp] theorem m_isnN {x : D} {P : Bool → Prop} : cmpS .isnot x .non P = P (!x.isNon) := by cases x <;> rfl
@[simp] theorem m_isB {x y : Bool} {P : Bool → Prop} : cmpS .is (.bl x) (.bl y) P = P (x == y) := rfl
@[simp] theorem m_isnB {x y : Bool} {P : Bool → Prop} : cmpS .isnot (.bl x) (.bl y) P = P (x != y) := rfl
@[simp] theorem m_mem {x : D} {ds : List D} {P : Bool → Prop} : cmpS .mem x (.lst ds) P = (x.pln 60 = true ∧ (D.lst ds).pln 60 = true ∧ P (memD x ds)) := by cases x <;> rfl
@[simp] theorem m_nmem {x : D} {ds : List D} {P : Bool → Prop} : cmpS .nmem x (.lst ds) P = (x.pln 60 = true ∧ (D.lst ds).pln 60 = true ∧ P (!memD x ds)) := by cases x <;> rfl
@[simp] theorem m_memT {x : D} {ds : List D} {P : Bool → Prop} : cmpS .mem x (.tup ds) P = (x.pln 60 = true ∧ (D.tup ds).pln 60 = true ∧ P (memD x ds)) := by cases x <;> rfl
@[simp] theorem isn_non : D.isNon .non = true := rfl
@[simp] theorem isn_int {i : Int} : D.isNon (.int i) = false := rfl
@[simp] theorem isn_bl {i : Bool} : D.isNon (.bl i) = false := rfl
@[simp] theorem isn_tup {i : List D} : D.isNon (.tup i) = false := rfl
@[simp] theorem isn_lst {i : List D} : D.isNon (.lst i) = false := rfl
@[simp] theorem isn_str {i : Str} : D.isNon (.str i) = false := rfl
@[simp] theorem isi_cls {cc kk : Nat} {fs : List (Str × D)} {P : Bool → Prop} : isiS C (.exc cc fs) (.cls kk) P = P (C.sub cc kk) := by
  refine propext ⟨fun ⟨b, e, q⟩ => by cases e; exact q, fun q => ⟨_, rfl, q⟩⟩
@[simp] theorem isi_non {kk : Nat} {P : Bool → Prop} : isiS C .non (.cls kk) P = P false := by
  refine propext ⟨fun ⟨b, e, q⟩ => by cases e; exact q, fun q => ⟨_, rfl, q⟩⟩
variable {N : En} {sa sb : S}
@[simp] theorem y_never : WS C .never ⟨l, k⟩ N = False := by simp only [WS, ws]
theorem y_raise0 {cc : Nat} {e : E} (h : C.fld cc = none) : WS C (.raise cc e) ⟨l, k⟩ N = N.ex (.exc cc []) ⟨l, k⟩ := by simp only [WS, ws, h]
/-- a while loop with an invariant and a measure -/
theorem y_whl {α : Type} {cc : E} {body : S} (st : α → St) (I : α → Prop) (μ : α → Nat) (a : α) (ia : I a)
    (hs : ∀ a, I a → ∀ K : St → Prop, (∀ a', I a' → μ a' < μ a → K (st a')) → WE C cc (st a) (fun s1 => TPB s1 fun b s2 => if b = true then WS C body s2 ⟨K, N.rt, N.nx, K, N.ex⟩ else N.nx s2) N.ex) : WS C (.whl cc body) (st a) N := by
  have key : ∀ (n : Nat) (a : α), μ a ≤ n → I a → wwhl (fun s Q => we C cc s Q N.ex) (fun s N2 => ws C body s N2) (n + 1) (st a) N := by
    intro n
    induction n with
    | zero =>
      intro a ha ia
      have h := hs a ia (fun s3 => wwhl (fun s Q => we C cc s Q N.ex) (fun s N2 => ws C body s N2) 0 s3 N) (fun a' _ m => by omega)
      simp only [WE, TPB, WS] at h
      exact h
    | succ n ih =>
      intro a ha ia
      have h := hs a ia (fun s3 => wwhl (fun s Q => we C cc s Q N.ex) (fun s N2 => ws C body s N2) (n + 1) s3 N) (fun a' i' m => ih a' (by omega) i')
      simp only [WE, TPB, WS] at h
      exact h
  simp only [WS, ws]
  exact ⟨_, key (μ a) a (Nat.le_refl _) ia⟩
/-- a comprehension with an invariant of what is done and what is gathered -/
theorem wcomp_any {own : List Nat} {tg : T} {hc : Bool} {cc elt : E} {base : List Slot} {l0 : List Slot} {fin : St → Prop} (I : List D → List D → Prop) : ∀ (items pre acc : List D), I pre acc → acc.length ≤ pre.length → pre.length + items.length ≤ sizeLine →
    (∀ pre' x post, pre ++ items = pre' ++ x :: post → ∀ as, I pre' as → as.length < sizeLine → ∀ P : St → Prop, (∀ as', I (pre' ++ [x]) as' → as'.length ≤ as.length + 1 → P ⟨l0, .ow (.lst as') :: base⟩) → WB C own tg hc cc elt base x ⟨l0, .ow (.lst as) :: base⟩ P) →
    (∀ as, I (pre ++ items) as → as.length ≤ (pre ++ items).length → fin ⟨l0, .ow (.lst as) :: base⟩) → wcomp (WB C own tg hc cc elt base) items ⟨l0, .ow (.lst acc) :: base⟩ fin
  | [], pre, acc, ia, hl, _, _, h => by rw [List.append_nil] at h; exact h acc ia hl
  | x :: items, pre, acc, ia, hl, hz, hb, h => by
    rw [List.length_cons] at hz
    refine hb pre x items rfl acc ia (by omega) _ fun as' ia' hl' => ?_
    refine wcomp_any I items (pre ++ [x]) as' ia' (by rw [List.length_append, List.length_singleton]; omega) (by rw [List.length_append, List.length_singleton]; omega) (fun pre' y post e => hb pre' y post (by rw [← e, List.append_assoc]; rfl)) ?_
    rw [List.append_assoc]
    exact h
theorem lk_any {own : List Nat} {tg : T} {it : ItK} {n : Nat} {hc : Bool} {cc elt : E} {ds : List D} {cnd : Prop} {xs : List D} (I : List D → List D → Prop) (hx : itX it ds = some (cnd, xs)) (hcnd : cnd) (hnb : nbrs ((⟨l, k⟩ : St).shd n ds).k own = true) (htn : tg.names.all (fun i => own.contains i) = true) (hl : xs.length ≤ sizeLine) (i0 : I [] [])
    (hb : ∀ pre x post, xs = pre ++ x :: post → ∀ as, I pre as → as.length < sizeLine → ∀ P : St → Prop, (∀ as', I (pre ++ [x]) as' → as'.length ≤ as.length + 1 → P ⟨emps (frz l (k.take n)) own, .ow (.lst as') :: (hids (frz l (k.take n)) own ++ (ds.reverse.map Slot.sh ++ k.drop n))⟩) →
      WB C own tg hc cc elt (hids (frz l (k.take n)) own ++ (ds.reverse.map Slot.sh ++ k.drop n)) x ⟨emps (frz l (k.take n)) own, .ow (.lst as) :: (hids (frz l (k.take n)) own ++ (ds.reverse.map Slot.sh ++ k.drop n))⟩ P)
    (q : ∀ as, I xs as → as.length ≤ xs.length → Q ⟨unhid (emps (frz l (k.take n)) own) own (hids (frz l (k.take n)) own), .ow (.lst as) :: k.drop n⟩) : LK C own tg it n hc cc elt Q l k ds :=
  ⟨cnd, xs, hx, hcnd, hnb, htn, wcomp_any I xs [] [] i0 (Nat.le_refl _) (by simpa using hl) hb (fun as ia hl' => ⟨_, rfl, q as ia hl'⟩)⟩
/-- a loop with an invariant of what is done and the locals -/
theorem wfor_any {F : D → St → En → Prop} {base : List Slot} (I : List D → List Slot → Prop) {N : En} : ∀ (items pre : List D) (l : List Slot), I pre l →
    (∀ pre' x post, pre ++ items = pre' ++ x :: post → ∀ l, I pre' l → ∀ K : St → Prop, (∀ l', I (pre' ++ [x]) l' → K ⟨l', base⟩) → F x ⟨l, base⟩ ⟨K, N.rt, N.nx, K, N.ex⟩) → (∀ l, I (pre ++ items) l → N.nx ⟨l, base⟩) → wfor F items ⟨l, base⟩ N
  | [], pre, l, il, _, h => by rw [List.append_nil] at h; exact h l il
  | x :: items, pre, l, il, hb, h => by
    refine hb pre x items rfl l il (fun s1 => wfor F items s1 N) fun l' il' => ?_
    refine wfor_any I items (pre ++ [x]) l' il' (fun pre' y post e => hb pre' y post (by rw [← e, List.append_assoc]; rfl)) ?_
    rw [List.append_assoc]
    exact h
theorem fk_any {it : ItK} {n : Nat} {tg : T} {body : S} {ds : List D} {cnd : Prop} {xs : List D} (I : List D → List Slot → Prop) (hx : itX it ds = some (cnd, xs)) (hcnd : cnd) (hnb : nbrs ((⟨l, k⟩ : St).shd n ds).k tg.names = true) (hdn : ds.length = n) (i0 : I [] (frz l (k.take n)))
    (hb : ∀ pre x post, xs = pre ++ x :: post → ∀ l, I pre l → ∀ K Bk : St → Prop, (∀ l', I (pre ++ [x]) l' → K ⟨l', ds.reverse.map Slot.sh ++ k.drop n⟩) → WF C tg body (ds.reverse.map Slot.sh ++ k.drop n) x ⟨l, ds.reverse.map Slot.sh ++ k.drop n⟩ ⟨K, N.rt, Bk, K, N.ex⟩)
    (q : ∀ l, I xs l → N.nx ⟨l, k.drop n⟩) : FK C it n tg body N l k ds := by
  refine ⟨cnd, xs, hx, hcnd, hnb, ?_⟩
  refine wfor_any (base := ds.reverse.map Slot.sh ++ k.drop n) I xs [] _ i0 (fun pre' x post e l il K hK => hb pre' x post e l il K _ hK) fun l il => ⟨rfl, ?_⟩
  show N.nx ⟨_, (ds.reverse.map Slot.sh ++ k.drop n).drop n⟩
  have : (ds.reverse.map Slot.sh).length = n := by simp [hdn]
  rw [← this, List.drop_left, this]
  exact q l il
/-- a comprehension that asks the draws, with an invariant of what is done, what is gathered, and the credit -/
def setC (l : List Slot) (c : Nat) : List Slot := l.dropLast ++ [.crd c]
theorem wcomp_crd {own : List Nat} {tg : T} {hc : Bool} {cc elt : E} {base : List Slot} {l0 : List Slot} {fin : St → Prop} (I : List D → List D → Nat → Prop) : ∀ (items pre acc : List D) (c : Nat), I pre acc c → acc.length ≤ pre.length → pre.length + items.length ≤ sizeLine →
    (∀ pre' x post, pre ++ items = pre' ++ x :: post → ∀ as c, I pre' as c → as.length < sizeLine → ∀ P : St → Prop, (∀ as' c', I (pre' ++ [x]) as' c' → as'.length ≤ as.length + 1 → P ⟨setC l0 c', .ow (.lst as') :: base⟩) → WB C own tg hc cc elt base x ⟨setC l0 c, .ow (.lst as) :: base⟩ P) →
    (∀ as c, I (pre ++ items) as c → as.length ≤ (pre ++ items).length → fin ⟨setC l0 c, .ow (.lst as) :: base⟩) → wcomp (WB C own tg hc cc elt base) items ⟨setC l0 c, .ow (.lst acc) :: base⟩ fin
  | [], pre, acc, c, ia, hl, _, _, h => by rw [List.append_nil] at h; exact h acc c ia hl
  | x :: items, pre, acc, c, ia, hl, hz, hb, h => by
    rw [List.length_cons] at hz
    refine hb pre x items rfl acc c ia (by omega) _ fun as' c' ia' hl' => ?_
    refine wcomp_crd I items (pre ++ [x]) as' c' ia' (by rw [List.length_append, List.length_singleton]; omega) (by rw [List.length_append, List.length_singleton]; omega) (fun pre' y post e => hb pre' y post (by rw [← e, List.append_assoc]; rfl)) ?_
    rw [List.append_assoc]
    exact h
theorem lk_crd {own : List Nat} {tg : T} {it : ItK} {n : Nat} {hc : Bool} {cc elt : E} {ds : List D} {cnd : Prop} {xs : List D} {c0 : Nat} (I : List D → List D → Nat → Prop) (hx : itX it ds = some (cnd, xs)) (hcnd : cnd) (hnb : nbrs ((⟨l, k⟩ : St).shd n ds).k own = true) (htn : tg.names.all (fun i => own.contains i) = true)
    (hC : emps (frz l (k.take n)) own = setC (emps (frz l (k.take n)) own) c0) (hl : xs.length ≤ sizeLine) (i0 : I [] [] c0)
    (hb : ∀ pre x post, xs = pre ++ x :: post → ∀ as c, I pre as c → as.length < sizeLine → ∀ P : St → Prop, (∀ as' c', I (pre ++ [x]) as' c' → as'.length ≤ as.length + 1 → P ⟨setC (emps (frz l (k.take n)) own) c', .ow (.lst as') :: (hids (frz l (k.take n)) own ++ (ds.reverse.map Slot.sh ++ k.drop n))⟩) →
      WB C own tg hc cc elt (hids (frz l (k.take n)) own ++ (ds.reverse.map Slot.sh ++ k.drop n)) x ⟨setC (emps (frz l (k.take n)) own) c, .ow (.lst as) :: (hids (frz l (k.take n)) own ++ (ds.reverse.map Slot.sh ++ k.drop n))⟩ P)
    (q : ∀ as c, I xs as c → as.length ≤ xs.length → Q ⟨unhid (setC (emps (frz l (k.take n)) own) c) own (hids (frz l (k.take n)) own), .ow (.lst as) :: k.drop n⟩) : LK C own tg it n hc cc elt Q l k ds := by
  refine ⟨cnd, xs, hx, hcnd, hnb, htn, ?_⟩
  have h := wcomp_crd (C := C) (l0 := emps (frz l (k.take n)) own) (fin := wfin Q own (hids (frz l (k.take n)) own ++ (ds.reverse.map Slot.sh ++ k.drop n)) (hids (frz l (k.take n)) own) (k.drop n)) I xs [] [] c0 i0 (Nat.le_refl _) (by simpa using hl) hb (fun as c ia hl' => ⟨_, rfl, q as c ia hl'⟩)
  rw [← hC] at h
  exact h
@[simp] theorem setC_one {x : Slot} {c : Nat} : setC [x] c = [.crd c] := rfl
@[simp] theorem setC_cons {x y : Slot} {c : Nat} : setC (x :: y :: l) c = x :: setC (y :: l) c := rfl
end
end DP

set_option Elab.async false
set_option linter.all false
set_option maxRecDepth 100000
set_option maxHeartbeats 1000000
/-! E20: what the head says. -/
namespace DP
open PySem PySem.Spec PyProof.Rows L2
/-- def number i of a text's top -/
def topI (l : PySem.W.OpenLaw) (i : Nat) : Stmt := l.prog.main.body.getD i (.Pass ⟨0, 0, 0, 0⟩)
def dfD (l : PySem.W.OpenLaw) (x : Str) (i : Nat) : He.DefD := ⟨(x, none), x, x, defArgs (topI l i), defBody (topI l i), defScope (topI l i), [], []⟩
/-- an own class of errors -/
def clsB (K : PySem.W.Frag) (x : Str) : Bool :=
  He.eqO (PySem.W.findIn K (.ref (He.ga K x)) "__getattribute__") (some (some (.builtin "BaseException.__getattribute__"))) &&
  (He.eqO (PySem.W.findIn K (.ref (He.ga K x)) "__getattr__") (some none) &&
  (decide (PySem.W.subIn K (.ref (He.ga K x)) (.type "BaseException") = some true) &&
  (PySem.W.hasDictIn K (He.ga K x) &&
  (He.eqO (PySem.W.findIn K (.ref (He.ga K x)) "__class__") (some (some (.builtin "object.__class__"))) &&
  (He.eqO (PySem.W.specialIn K (.builtin "object.__class__") "__get__") (some (some (.builtin "getset_descriptor.__get__"))) &&
  (decide (PySem.W.takesIn K (.builtin "object.__class__") = some true) &&
  (decide (PySem.W.mroIn K (He.ga K x) (.type "object") = some true) &&
  decide (PySem.W.kitOne K (.type "NoneType") (.ref (He.ga K x)) = some false))))))))
theorem clsB_ok {K : PySem.W.Frag} {x : Str} (h : clsB K x = true) : ExcC K (He.ga K x) ∧ PySem.W.kitOne K (.type "NoneType") (.ref (He.ga K x)) = some false := by
  unfold clsB at h
  simp only [Bool.and_eq_true] at h
  obtain ⟨h1, h2, h3, h4, h5, h6, h7, h8, h9⟩ := h
  exact ⟨⟨He.eqO_ok h1, He.eqO_ok h2, of_decide_eq_true h3, h4, He.eqO_ok h5, He.eqO_ok h6, of_decide_eq_true h7, of_decide_eq_true h8⟩, of_decide_eq_true h9⟩
/-- the classes, one beneath another or not -/
def clsSubB (K : PySem.W.Frag) (xs : List (Nat × Str)) (sub : Nat → Nat → Bool) : Bool :=
  xs.all fun p => xs.all fun q => decide (PySem.W.kitOne K (.ref (He.ga K p.2)) (.ref (He.ga K q.2)) = some (sub p.1 q.1))
def exB (xs : List (Nat × Str)) (sub : Nat → Nat → Bool) (K : PySem.W.Frag) : Bool := xs.all (fun p => clsB K p.2) && clsSubB K xs sub
theorem exB_cls {K : PySem.W.Frag} {xs : List (Nat × Str)} {sub : Nat → Nat → Bool} (h : exB xs sub K = true) {c : Nat} {x : Str} (e : (c, x) ∈ xs) : ExcC K (He.ga K x) ∧ PySem.W.kitOne K (.type "NoneType") (.ref (He.ga K x)) = some false :=
  clsB_ok (List.all_eq_true.mp (Bool.and_eq_true_iff.mp h).1 _ e)
theorem exB_sub {K : PySem.W.Frag} {xs : List (Nat × Str)} {sub : Nat → Nat → Bool} (h : exB xs sub K = true) {c d : Nat} {x y : Str} (e : (c, x) ∈ xs) (e2 : (d, y) ∈ xs) : PySem.W.kitOne K (.ref (He.ga K x)) (.ref (He.ga K y)) = some (sub c d) := by
  have h2 := (Bool.and_eq_true_iff.mp h).2
  unfold clsSubB at h2
  exact of_decide_eq_true (List.all_eq_true.mp (List.all_eq_true.mp h2 _ e) _ e2)
/-- .. and the tables of code objects apart -/
def exT (xs : List (Nat × Str)) (sub : Nat → Nat → Bool) (tf : List He.Defn) (K : PySem.W.Frag) : Bool := exB xs sub K && decide ((tf.map fun p => (He.cT K p).2).Nodup)
end DP

set_option linter.all false
set_option maxRecDepth 100000
set_option maxHeartbeats 1000000
/-! LAc: codes of shared defs (written by mkc.py out of Gen's rows). -/
namespace DP.L
open PySem DP
-- 0 is_whole
def N_is_whole : List Str := ["value"]
def c_is_whole : S := .seq (.ret (.and (.isi (.var 0) (.tyv "int")) (.not (.isi (.var 0) (.tyv "bool"))))) .skip
-- 1 is_below
def N_is_below : List Str := ["value", "bound"]
def c_is_below : S := .seq (.ret (.and (.call 0 1 (.cons (.var 0) .nil)) (.chain .le .lt (.lit (.int 0)) (.var 0) (.var 1)))) .skip
-- 2 is_pair
def N_is_pair : List Str := ["n", "value", "place"]
def c_is_pair : S := .seq (.ite (.or (.not (.isi (.var 1) (.tyv "tuple"))) (.or (.cmp .ne (.bi .len 1 (.cons (.var 1) .nil)) (.lit (.int 2))) (.not (.bi .all 1 (.cons (.lc [2] (.name 2) .seq 1 (.var 1) false .nil (.call 1 2 (.cons (.var 2) (.cons (.var 0) .nil)))) .nil))))) (.seq (.ret (.lit (.bl false))) .skip) .skip) (.seq (.ret (.cmp .le (.idx (.var 1) (.lit (.int 0))) (.idx (.var 1) (.lit (.int 1))))) .skip)
-- 3 is_web
def N_is_web : List Str := ["value", "tie"]
def c_is_web : S := .seq (.ite (.or (.not (.isi (.var 0) (.tyv "tuple"))) (.or (.cmp .ne (.bi .len 1 (.cons (.var 0) .nil)) (.lit (.int 3))) (.or (.not (.isi (.idx (.var 0) (.lit (.int 0))) (.tyv "str"))) (.cmp .ne (.idx (.var 0) (.lit (.int 0))) (.lit (.str "web")))))) (.seq (.ret (.lit (.bl false))) .skip) .skip) (.seq (.ite (.or (.not (.call 0 1 (.cons (.idx (.var 0) (.lit (.int 1))) .nil))) (.or (.not (.chain .le .le (.lit (.int 1)) (.idx (.var 0) (.lit (.int 1))) (.cst 0))) (.not (.isi (.idx (.var 0) (.lit (.int 2))) (.tyv "tuple"))))) (.seq (.ret (.lit (.bl false))) .skip) .skip) (.seq (.ret (.and (.cmp .le (.bi .len 1 (.cons (.idx (.var 0) (.lit (.int 2))) .nil)) (.cst 1)) (.bi .all 1 (.cons (.lc [1] (.name 1) .seq 1 (.idx (.var 0) (.lit (.int 2))) false .nil (.call 2 2 (.cons (.idx (.var 0) (.lit (.int 1))) (.cons (.var 1) .nil)))) .nil)))) .skip))
-- 4 need_web
def N_need_web : List Str := ["web"]
def c_need_web : S := .seq (.ite (.not (.call 3 1 (.cons (.var 0) .nil))) (.seq (.raise 1 .nil) .skip) .skip) .skip
-- 5 is_lot
def N_is_lot : List Str := ["web", "value", "tie", "one", "other"]
def c_is_lot : S := .seq (.ite (.or (.not (.isi (.var 1) (.tyv "tuple"))) (.not (.bi .all 1 (.cons (.lc [2] (.name 2) .seq 1 (.var 1) false .nil (.call 1 2 (.cons (.var 2) (.cons (.bi .len 1 (.cons (.idx (.var 0) (.lit (.int 2))) .nil)) .nil)))) .nil)))) (.seq (.ret (.lit (.bl false))) .skip) .skip) (.seq (.ret (.bi .all 1 (.cons (.lc [3, 4] (.tup (.cons (.name 3) (.cons (.name 4) .nil))) .zip 2 (.cons (.var 1) (.cons (.slc (.var 1) (.lit (.int 1)) (.lit .non)) .nil)) false .nil (.cmp .lt (.var 3) (.var 4))) .nil))) .skip)
-- 6 need_lot
def N_need_lot : List Str := ["web", "lot"]
def c_need_lot : S := .seq (.ite (.not (.call 5 2 (.cons (.var 0) (.cons (.var 1) .nil)))) (.seq (.raise 2 .nil) .skip) .skip) .skip
-- 7 names_by
def N_names_by : List Str := ["n", "ties", "names", "a", "b", "low", "high", "name"]
def c_names_by : S := .seq (.set 2 (.rgl1 false (.var 0))) (.seq (.forr .seq 1 (.var 1) (.tup (.cons (.name 3) (.cons (.name 4) .nil))) (.seq (.setT (.tup (.cons (.name 5) (.cons (.name 6) .nil))) (.tup 2 (.cons (.bi .min2 2 (.cons (.idx (.var 2) (.var 3)) (.cons (.idx (.var 2) (.var 4)) .nil))) (.cons (.bi .max2 2 (.cons (.idx (.var 2) (.var 3)) (.cons (.idx (.var 2) (.var 4)) .nil))) .nil)))) (.seq (.set 2 (.lc [7] (.name 7) .seq 1 (.var 2) false .nil (.ite (.cmp .eq (.var 7) (.var 6)) (.var 5) (.var 7)))) .skip))) (.seq (.ret (.var 2)) .skip))
-- 8 pieces_by
def N_pieces_by : List Str := ["n", "ties", "names", "firsts", "name", "place"]
def c_pieces_by : S := .seq (.set 2 (.call 7 2 (.cons (.var 0) (.cons (.var 1) .nil)))) (.seq (.set 3 (.bi .sorted 1 (.cons (.dc [4] (.name 4) .seq 1 (.var 2) false .nil (.var 4) (.lit (.bl true))) .nil))) (.seq (.ret (.bi .tuple 1 (.cons (.lc [4] (.name 4) .seq 1 (.var 3) false .nil (.bi .tuple 1 (.cons (.lc [5] (.name 5) .range1 1 (.cons (.var 0) .nil) true (.cmp .eq (.idx (.var 2) (.var 5)) (.var 4)) (.var 5)) .nil))) .nil))) .skip))
-- 9 pieces_in
def N_pieces_in : List Str := ["web", "lot", "tie"]
def c_pieces_in : S := .seq (.ret (.call 8 2 (.cons (.idx (.var 0) (.lit (.int 1))) (.cons (.lc [2] (.name 2) .seq 1 (.var 1) false .nil (.idx (.idx (.var 0) (.lit (.int 2))) (.var 2))) .nil)))) .skip
-- 10 pieces
def N_pieces : List Str := ["web", "lot"]
def c_pieces : S := .seq (.ex (.call 4 1 (.cons (.var 0) .nil))) (.seq (.ex (.call 6 2 (.cons (.var 0) (.cons (.var 1) .nil)))) (.seq (.ret (.call 9 2 (.cons (.var 0) (.cons (.var 1) .nil)))) .skip))
-- 11 rank_in
def N_rank_in : List Str := ["web", "lot", "names", "tie", "name"]
def c_rank_in : S := .seq (.set 2 (.call 7 2 (.cons (.idx (.var 0) (.lit (.int 1))) (.cons (.lc [3] (.name 3) .seq 1 (.var 1) false .nil (.idx (.idx (.var 0) (.lit (.int 2))) (.var 3))) .nil)))) (.seq (.ret (.bin .sub (.idx (.var 0) (.lit (.int 1))) (.bi .len 1 (.cons (.dc [4] (.name 4) .seq 1 (.var 2) false .nil (.var 4) (.lit (.bl true))) .nil)))) .skip)
-- 12 rank
def N_rank : List Str := ["web", "lot"]
def c_rank : S := .seq (.ex (.call 4 1 (.cons (.var 0) .nil))) (.seq (.ex (.call 6 2 (.cons (.var 0) (.cons (.var 1) .nil)))) (.seq (.ret (.call 11 2 (.cons (.var 0) (.cons (.var 1) .nil)))) .skip))
-- 13 all_ties
def N_all_ties : List Str := ["web"]
def c_all_ties : S := .seq (.ret (.rgl1 true (.bi .len 1 (.cons (.idx (.var 0) (.lit (.int 2))) .nil)))) .skip
-- 14 by_size
def N_by_size : List Str := ["lot"]
def c_by_size : S := .seq (.ret (.tup 2 (.cons (.bi .len 1 (.cons (.var 0) .nil)) (.cons (.var 0) .nil)))) .skip
-- 15 all_lots
def N_all_lots : List Str := ["web", "found", "tie", "lot"]
def c_all_lots : S := .seq (.set 1 (.lst 1 (.cons (.tup 0 .nil) .nil))) (.seq (.forr .range1 1 (.cons (.bi .len 1 (.cons (.idx (.var 0) (.lit (.int 2))) .nil)) .nil) (.name 2) (.seq (.set 1 (.bin .add (.var 1) (.lc [3] (.name 3) .seq 1 (.var 1) false .nil (.bin .add (.var 3) (.tup 1 (.cons (.var 2) .nil)))))) .skip)) (.seq (.ret (.srt (some 14) (.var 1))) .skip))
-- 16 is_tree_in
def N_is_tree_in : List Str := ["web", "lot", "whole"]
def c_is_tree_in : S := .seq (.set 2 (.call 11 2 (.cons (.var 0) (.cons (.call 13 1 (.cons (.var 0) .nil)) .nil)))) (.seq (.ret (.and (.cmp .eq (.bi .len 1 (.cons (.var 1) .nil)) (.var 2)) (.cmp .eq (.call 11 2 (.cons (.var 0) (.cons (.var 1) .nil))) (.var 2)))) .skip)
-- 17 is_tree
def N_is_tree : List Str := ["web", "lot"]
def c_is_tree : S := .seq (.ex (.call 4 1 (.cons (.var 0) .nil))) (.seq (.ex (.call 6 2 (.cons (.var 0) (.cons (.var 1) .nil)))) (.seq (.ret (.call 16 2 (.cons (.var 0) (.cons (.var 1) .nil)))) .skip))
-- 18 trees_in
def N_trees_in : List Str := ["web", "whole", "lot"]
def c_trees_in : S := .seq (.set 1 (.call 11 2 (.cons (.var 0) (.cons (.call 13 1 (.cons (.var 0) .nil)) .nil)))) (.seq (.ret (.bi .tuple 1 (.cons (.lc [2] (.name 2) .seq 1 (.call 15 1 (.cons (.var 0) .nil)) true (.and (.cmp .eq (.bi .len 1 (.cons (.var 2) .nil)) (.var 1)) (.cmp .eq (.call 11 2 (.cons (.var 0) (.cons (.var 2) .nil))) (.var 1))) (.var 2)) .nil))) .skip)
-- 19 trees
def N_trees : List Str := ["web"]
def c_trees : S := .seq (.ex (.call 4 1 (.cons (.var 0) .nil))) (.seq (.ret (.call 18 1 (.cons (.var 0) .nil))) .skip)
-- 23 _law_pick
def N__law_pick : List Str := ["state", "some"]
def c__law_pick : S := .seq (.ret (.idx (.var 1) (.call 22 2 (.cons (.var 0) (.cons (.bi .len 1 (.cons (.var 1) .nil)) .nil))))) .skip
-- 24 _law_shuffled
def N__law_shuffled : List Str := ["state", "some", "left", "found"]
def c__law_shuffled : S := .seq (.par [2, 3] (.cons (.bi .list 1 (.cons (.var 1) .nil)) (.cons (.lst 0 .nil) .nil))) (.seq (.whl (.cmp .ne (.var 2) (.lst 0 .nil)) (.seq (.ex (.append 3 (.popAt 2 (.call 22 2 (.cons (.var 0) (.cons (.bi .len 1 (.cons (.var 2) .nil)) .nil)))))) .skip)) (.seq (.ret (.var 3)) .skip))
-- 26 _law_is_truth
def N__law_is_truth : List Str := ["found", "due"]
def c__law_is_truth : S := .seq (.ret (.ite (.var 1) (.cmp .is (.var 0) (.lit (.bl true))) (.cmp .is (.var 0) (.lit (.bl false))))) .skip
-- 27 _law_same
def N__law_same : List Str := ["found", "due", "unseen_here", "one", "other", "alike", "key", "left", "right"]
def c__law_same : S := .seq (.set 2 (.lst 1 (.cons (.tup 2 (.cons (.var 0) (.cons (.var 1) .nil))) .nil))) (.seq (.whl (.cmp .ne (.var 2) (.lst 0 .nil)) (.seq (.setT (.tup (.cons (.name 3) (.cons (.name 4) .nil))) (.pop 2)) (.seq (.ite (.or (.cmp .is (.var 4) (.lit .non)) (.isi (.var 4) (.tyv "bool"))) (.seq (.ite (.ite (.cmp .is (.var 4) (.lit .non)) (.cmp .isnot (.var 3) (.lit .non)) (.not (.call 26 2 (.cons (.var 3) (.cons (.var 4) .nil))))) (.seq (.ret (.lit (.bl false))) .skip) .skip) .skip) (.seq (.ite (.isiT (.var 4) ["int", "str"]) (.seq (.ite (.or (.isi (.var 3) (.tyv "bool")) (.or (.cmp .ne (.isi (.var 3) (.tyv "int")) (.isi (.var 4) (.tyv "int"))) (.cmp .ne (.var 3) (.var 4)))) (.seq (.ret (.lit (.bl false))) .skip) .skip) .skip) (.seq (.ite (.isi (.var 4) (.tyv "dict")) (.seq (.ite (.or (.not (.isi (.var 3) (.tyv "dict"))) (.cmp .ne (.bi .list 1 (.cons (.var 3) .nil)) (.bi .list 1 (.cons (.var 4) .nil)))) (.seq (.ret (.lit (.bl false))) .skip) .skip) (.seq .never (.seq (.ex (.extend 2 (.lc [6] (.name 6) .seq 1 (.var 4) false .nil (.tup 2 (.cons (.idx (.var 3) (.var 6)) (.cons (.idx (.var 4) (.var 6)) .nil)))))) .skip))) (.seq (.set 5 (.lst 2 (.cons (.and (.isi (.var 3) (.tyv "tuple")) (.isi (.var 4) (.tyv "tuple"))) (.cons (.and (.isi (.var 3) (.tyv "list")) (.isi (.var 4) (.tyv "list"))) .nil)))) (.seq (.ite (.or (.cmp .nmem (.lit (.bl true)) (.var 5)) (.cmp .ne (.bi .len 1 (.cons (.var 3) .nil)) (.bi .len 1 (.cons (.var 4) .nil)))) (.seq (.ret (.lit (.bl false))) .skip) .skip) (.seq (.ex (.extend 2 (.lc [7, 8] (.tup (.cons (.name 7) (.cons (.name 8) .nil))) .zip 2 (.cons (.var 3) (.cons (.var 4) .nil)) false .nil (.tup 2 (.cons (.var 7) (.cons (.var 8) .nil)))))) .skip)))) .skip)) .skip)) .skip))) (.seq (.ret (.lit (.bl true))) .skip))
-- 28 _law_pieces
def N__law_pieces : List Str := ["n", "ties", "names", "a", "b", "low", "high", "name", "place", "own"]
def c__law_pieces : S := .seq (.set 2 (.rgl1 false (.var 0))) (.seq (.forr .seq 1 (.var 1) (.tup (.cons (.name 3) (.cons (.name 4) .nil))) (.seq (.setT (.tup (.cons (.name 5) (.cons (.name 6) .nil))) (.tup 2 (.cons (.bi .min2 2 (.cons (.idx (.var 2) (.var 3)) (.cons (.idx (.var 2) (.var 4)) .nil))) (.cons (.bi .max2 2 (.cons (.idx (.var 2) (.var 3)) (.cons (.idx (.var 2) (.var 4)) .nil))) .nil)))) (.seq (.set 2 (.lc [7] (.name 7) .seq 1 (.var 2) false .nil (.ite (.cmp .eq (.var 7) (.var 6)) (.var 5) (.var 7)))) .skip))) (.seq (.ret (.bi .tuple 1 (.cons (.lc [7] (.name 7) .seq 1 (.bi .sorted 1 (.cons (.bi .dict 1 (.cons (.lc [9] (.name 9) .seq 1 (.var 2) false .nil (.tup 2 (.cons (.var 9) (.cons (.lit (.bl true)) .nil)))) .nil)) .nil)) false .nil (.bi .tuple 1 (.cons (.lc [8] (.name 8) .range1 1 (.cons (.var 0) .nil) true (.cmp .eq (.idx (.var 2) (.var 8)) (.var 7)) (.var 8)) .nil))) .nil))) .skip))
-- 29 _law_rank
def N__law_rank : List Str := ["web", "lot", "tie"]
def c__law_rank : S := .seq (.ret (.bin .sub (.idx (.var 0) (.lit (.int 1))) (.bi .len 1 (.cons (.call 28 2 (.cons (.idx (.var 0) (.lit (.int 1))) (.cons (.lc [2] (.name 2) .seq 1 (.var 1) false .nil (.idx (.idx (.var 0) (.lit (.int 2))) (.var 2))) .nil))) .nil)))) .skip
-- 30 _law_lots
def N__law_lots : List Str := ["many", "found", "own", "lot"]
def c__law_lots : S := .seq (.set 1 (.lst 1 (.cons (.tup 0 .nil) .nil))) (.seq (.forr .range1 1 (.cons (.var 0) .nil) (.name 2) (.seq (.set 1 (.bin .add (.var 1) (.lc [3] (.name 3) .seq 1 (.var 1) false .nil (.bin .add (.var 3) (.tup 1 (.cons (.var 2) .nil)))))) .skip)) (.seq (.ret (.srt none (.var 1))) .skip))
-- 31 _law_trees
def N__law_trees : List Str := ["web", "whole", "lot"]
def c__law_trees : S := .seq (.set 1 (.call 29 2 (.cons (.var 0) (.cons (.rgl1 true (.bi .len 1 (.cons (.idx (.var 0) (.lit (.int 2))) .nil))) .nil)))) (.seq (.ret (.bi .tuple 1 (.cons (.lc [2] (.name 2) .seq 1 (.call 30 1 (.cons (.bi .len 1 (.cons (.idx (.var 0) (.lit (.int 2))) .nil)) .nil)) true (.and (.cmp .eq (.bi .len 1 (.cons (.var 2) .nil)) (.var 1)) (.cmp .eq (.call 29 2 (.cons (.var 0) (.cons (.var 2) .nil))) (.var 1))) (.var 2)) .nil))) .skip)
-- 32 _law_made
def N__law_made : List Str := ["n", "ties", "a", "b"]
def c__law_made : S := .seq (.ret (.tup 3 (.cons (.lit (.str "web")) (.cons (.var 0) (.cons (.bi .tuple 1 (.cons (.lc [2, 3] (.tup (.cons (.name 2) (.cons (.name 3) .nil))) .seq 1 (.var 1) false .nil (.tup 2 (.cons (.bi .min2 2 (.cons (.var 2) (.cons (.var 3) .nil))) (.cons (.bi .max2 2 (.cons (.var 2) (.cons (.var 3) .nil))) .nil)))) .nil)) .nil))))) .skip
-- 33 _law_web
def N__law_web : List Str := ["draws", "places", "most", "way", "n", "many", "ties", "a", "b", "lap", "place"]
def c__law_web : S := .seq (.setT (.tup (.cons (.name 3) (.cons (.name 4) .nil))) (.tup 2 (.cons (.call 22 2 (.cons (.var 0) (.cons (.lit (.int 7)) .nil))) (.cons (.bin .add (.lit (.int 1)) (.call 22 2 (.cons (.var 0) (.cons (.var 1) .nil)))) .nil)))) (.seq (.set 5 (.call 22 2 (.cons (.var 0) (.cons (.bin .add (.var 2) (.lit (.int 1))) .nil)))) (.seq (.ite (.cmp .eq (.var 3) (.lit (.int 0))) (.seq (.set 6 (.slc (.lc [10] (.name 10) .range1 1 (.cons (.var 4) .nil) false .nil (.tup 2 (.cons (.var 10) (.cons (.bin .mod (.bi .int 1 (.cons (.bin .add (.var 10) (.lit (.int 1))) .nil)) (.var 4)) .nil)))) (.lit .non) (.var 2))) (.seq (.ret (.call 34 3 (.cons (.var 0) (.cons (.var 4) (.cons (.var 6) .nil))))) .skip)) .skip) (.seq (.ite (.cmp .eq (.var 3) (.lit (.int 1))) (.seq (.set 6 (.lst 0 .nil)) (.seq (.forr .range1 1 (.cons (.var 4) .nil) (.name 7) (.seq (.set 6 (.bin .add (.var 6) (.lc [8] (.name 8) .range2 2 (.cons (.bin .add (.var 7) (.lit (.int 1))) (.cons (.var 4) .nil)) false .nil (.tup 2 (.cons (.var 7) (.cons (.var 8) .nil)))))) .skip)) (.seq (.ret (.call 34 3 (.cons (.var 0) (.cons (.var 4) (.cons (.slc (.call 24 2 (.cons (.var 0) (.cons (.var 6) .nil))) (.lit .non) (.var 5)) .nil))))) .skip))) .skip) (.seq (.ite (.or (.cmp .eq (.var 3) (.lit (.int 2))) (.cmp .eq (.var 3) (.lit (.int 3)))) (.seq (.set 6 (.slc (.lc [10] (.name 10) .range2 2 (.cons (.lit (.int 1)) (.cons (.var 4) .nil)) false .nil (.tup 2 (.cons (.var 10) (.cons (.call 22 2 (.cons (.var 0) (.cons (.var 10) .nil))) .nil)))) (.lit .non) (.var 2))) (.seq (.forr .range1 1 (.cons (.bi .max2 2 (.cons (.lit (.int 0)) (.cons (.bin .sub (.var 5) (.bi .len 1 (.cons (.var 6) .nil))) .nil))) .nil) (.name 9) (.seq (.ex (.append 6 (.tup 2 (.cons (.call 22 2 (.cons (.var 0) (.cons (.var 4) .nil))) (.cons (.call 22 2 (.cons (.var 0) (.cons (.var 4) .nil))) .nil))))) .skip)) (.seq (.ret (.call 34 3 (.cons (.var 0) (.cons (.var 4) (.cons (.var 6) .nil))))) .skip))) .skip) (.seq (.ite (.and (.cmp .eq (.var 3) (.lit (.int 4))) (.cmp .gt (.var 4) (.lit (.int 1)))) (.seq (.setT (.tup (.cons (.name 7) (.cons (.name 8) .nil))) (.tup 2 (.cons (.call 22 2 (.cons (.var 0) (.cons (.var 4) .nil))) (.cons (.call 22 2 (.cons (.var 0) (.cons (.var 4) .nil))) .nil)))) (.seq (.ret (.call 34 3 (.cons (.var 0) (.cons (.var 4) (.cons (.bin .add (.bin .mul (.lst 1 (.cons (.tup 2 (.cons (.var 7) (.cons (.var 8) .nil))) .nil)) (.bi .int 1 (.cons (.bin .fdiv (.var 5) (.lit (.int 2))) .nil))) (.lc [9] (.name 9) .range1 1 (.cons (.bin .sub (.var 5) (.bi .int 1 (.cons (.bin .fdiv (.var 5) (.lit (.int 2))) .nil))) .nil) false .nil (.tup 2 (.cons (.call 22 2 (.cons (.var 0) (.cons (.var 4) .nil))) (.cons (.call 22 2 (.cons (.var 0) (.cons (.var 4) .nil))) .nil))))) .nil))))) .skip)) .skip) (.seq (.ret (.call 32 2 (.cons (.var 4) (.cons (.lc [9] (.name 9) .range1 1 (.cons (.var 5) .nil) false .nil (.tup 2 (.cons (.call 22 2 (.cons (.var 0) (.cons (.var 4) .nil))) (.cons (.call 22 2 (.cons (.var 0) (.cons (.var 4) .nil))) .nil)))) .nil)))) .skip))))))
-- 34 _law_shuffled_web
def N__law_shuffled_web : List Str := ["draws", "n", "ties"]
def c__law_shuffled_web : S := .seq (.ret (.call 32 2 (.cons (.var 1) (.cons (.call 24 2 (.cons (.var 0) (.cons (.bi .list 1 (.cons (.var 2) .nil)) .nil))) .nil)))) .skip
-- 35 _law_is_web
def N__law_is_web : List Str := ["value", "n", "ties", "tie", "place"]
def c__law_is_web : S := .seq (.ite (.or (.not (.isi (.var 0) (.tyv "tuple"))) (.or (.cmp .ne (.bi .len 1 (.cons (.var 0) .nil)) (.lit (.int 3))) (.or (.not (.isi (.idx (.var 0) (.lit (.int 0))) (.tyv "str"))) (.cmp .ne (.idx (.var 0) (.lit (.int 0))) (.lit (.str "web")))))) (.seq (.ret (.lit (.bl false))) .skip) .skip) (.seq (.setT (.tup (.cons (.name 1) (.cons (.name 2) .nil))) (.tup 2 (.cons (.idx (.var 0) (.lit (.int 1))) (.cons (.idx (.var 0) (.lit (.int 2))) .nil)))) (.seq (.ite (.or (.not (.isi (.var 1) (.tyv "int"))) (.or (.isi (.var 1) (.tyv "bool")) (.or (.not (.chain .le .le (.lit (.int 1)) (.var 1) (.lit (.int 8)))) (.or (.not (.isi (.var 2) (.tyv "tuple"))) (.cmp .gt (.bi .len 1 (.cons (.var 2) .nil)) (.lit (.int 12))))))) (.seq (.ret (.lit (.bl false))) .skip) .skip) (.seq (.forr .seq 1 (.var 2) (.name 3) (.seq (.ite (.or (.not (.isi (.var 3) (.tyv "tuple"))) (.or (.cmp .ne (.bi .len 1 (.cons (.var 3) .nil)) (.lit (.int 2))) (.cmp .ne (.lc [4] (.name 4) .seq 1 (.var 3) true (.or (.not (.isi (.var 4) (.tyv "int"))) (.or (.isi (.var 4) (.tyv "bool")) (.not (.chain .le .lt (.lit (.int 0)) (.var 4) (.var 1))))) (.lit (.int 1))) (.lst 0 .nil)))) (.seq (.ret (.lit (.bl false))) .skip) .skip) (.seq (.ite (.cmp .gt (.idx (.var 3) (.lit (.int 0))) (.idx (.var 3) (.lit (.int 1)))) (.seq (.ret (.lit (.bl false))) .skip) .skip) .skip))) (.seq (.ret (.lit (.bl true))) .skip))))
-- 36 _law_lot
def N__law_lot : List Str := ["draws", "web", "tie"]
def c__law_lot : S := .seq (.ret (.bi .tuple 1 (.cons (.lc [2] (.name 2) .range1 1 (.cons (.bi .len 1 (.cons (.idx (.var 1) (.lit (.int 2))) .nil)) .nil) true (.cmp .eq (.call 22 2 (.cons (.var 0) (.cons (.lit (.int 2)) .nil))) (.lit (.int 0))) (.var 2)) .nil))) .skip
-- 37 _law_odd
def N__law_odd : List Str := ["draws", "some"]
def c__law_odd : S := .seq (.set 1 (.lst 16 (.cons (.lit .non) (.cons (.lit (.bl true)) (.cons (.lit (.int 5)) (.cons (.lit (.str "")) (.cons (.lit (.str "web")) (.cons (.tup 0 .nil) (.cons (.lst 0 .nil) (.cons .edct (.cons (.tup 1 (.cons (.lit (.str "web")) .nil)) (.cons (.tup 2 (.cons (.lit (.str "web")) (.cons (.lit (.int 3)) .nil))) (.cons (.lst 3 (.cons (.lit (.str "web")) (.cons (.lit (.int 3)) (.cons (.tup 0 .nil) .nil)))) (.cons (.tup 3 (.cons (.lit (.str "web")) (.cons (.lit (.int 0)) (.cons (.tup 0 .nil) .nil)))) (.cons (.tup 3 (.cons (.lit (.str "web")) (.cons (.lit (.int 9)) (.cons (.tup 0 .nil) .nil)))) (.cons (.tup 3 (.cons (.lit (.str "web")) (.cons (.lit (.int 3)) (.cons (.lst 1 (.cons (.tup 2 (.cons (.lit (.int 0)) (.cons (.lit (.int 1)) .nil))) .nil)) .nil)))) (.cons (.tup 3 (.cons (.lit (.str "web")) (.cons (.lit (.bl true)) (.cons (.tup 0 .nil) .nil)))) (.cons (.tup 3 (.cons (.lit (.str "web")) (.cons (.lit (.str "3")) (.cons (.tup 0 .nil) .nil)))) .nil)))))))))))))))))) (.seq (.ret (.call 23 2 (.cons (.var 0) (.cons (.bin .add (.var 1) (.lst 7 (.cons (.tup 3 (.cons (.lit (.str "web")) (.cons (.lit (.int 3)) (.cons (.tup 1 (.cons (.tup 2 (.cons (.lit (.int 1)) (.cons (.lit (.int 0)) .nil))) .nil)) .nil)))) (.cons (.tup 3 (.cons (.lit (.str "web")) (.cons (.lit (.int 3)) (.cons (.tup 1 (.cons (.tup 2 (.cons (.lit (.int 0)) (.cons (.lit (.int 3)) .nil))) .nil)) .nil)))) (.cons (.tup 3 (.cons (.lit (.str "web")) (.cons (.lit (.int 3)) (.cons (.tup 1 (.cons (.tup 1 (.cons (.lit (.int 0)) .nil)) .nil)) .nil)))) (.cons (.tup 3 (.cons (.lit (.str "web")) (.cons (.lit (.int 3)) (.cons (.tup 1 (.cons (.tup 2 (.cons (.lit (.int 0)) (.cons (.lit (.bl true)) .nil))) .nil)) .nil)))) (.cons (.tup 3 (.cons (.lit (.str "net")) (.cons (.lit (.int 3)) (.cons (.tup 0 .nil) .nil)))) (.cons (.tup 3 (.cons (.lit (.str "web")) (.cons (.lit (.int 2)) (.cons (.bin .mul (.tup 1 (.cons (.tup 2 (.cons (.lit (.int 0)) (.cons (.lit (.int 1)) .nil))) .nil)) (.lit (.int 13))) .nil)))) (.cons (.tup 3 (.cons (.lit (.str "web")) (.cons (.lit (.int 3)) (.cons (.tup 1 (.cons (.lst 2 (.cons (.lit (.int 0)) (.cons (.lit (.int 1)) .nil))) .nil)) .nil)))) .nil))))))))) .nil)))) .skip)
-- 38 _law_odd_lot
def N__law_odd_lot : List Str := ["draws", "web"]
def c__law_odd_lot : S := .seq (.ret (.call 23 2 (.cons (.var 0) (.cons (.lst 12 (.cons (.lit .non) (.cons (.lit (.int 0)) (.cons (.lst 1 (.cons (.lit (.int 0)) .nil)) (.cons (.tup 2 (.cons (.lit (.int 0)) (.cons (.lit (.int 0)) .nil))) (.cons (.tup 1 (.cons (.bi .len 1 (.cons (.idx (.var 1) (.lit (.int 2))) .nil)) .nil)) (.cons (.tup 1 (.cons (.neg (.lit (.int 1))) .nil)) (.cons (.tup 2 (.cons (.lit (.int 1)) (.cons (.lit (.int 0)) .nil))) (.cons (.tup 1 (.cons (.lit (.bl true)) .nil)) (.cons (.lit (.str "0")) (.cons (.tup 1 (.cons (.lit (.str "0")) .nil)) (.cons (.tup 1 (.cons (.lit .non) .nil)) (.cons .edct .nil))))))))))))) .nil)))) .skip
-- 41 least_of
def N_least_of : List Str := ["lots", "found", "lot", "other", "tie"]
def c_least_of : S := .seq (.set 1 (.lst 0 .nil)) (.seq (.forr .seq 1 (.var 0) (.name 2) (.seq (.ite (.not (.bi .any 1 (.cons (.lcb [3] (.name 3) 1 false .nil (.bi .all 1 (.cons (.lc [4] (.name 4) .seq 1 (.var 3) false .nil (.cmp .mem (.var 4) (.var 2))) .nil))) .nil))) (.seq (.ex (.append 1 (.var 2))) .skip) .skip) .skip)) (.seq (.ret (.bi .tuple 1 (.cons (.var 1) .nil))) .skip))
-- 42 rings_in
def N_rings_in : List Str := ["web", "lot"]
def c_rings_in : S := .seq (.ret (.call 41 1 (.cons (.lc [1] (.name 1) .seq 1 (.call 15 1 (.cons (.var 0) .nil)) true (.cmp .lt (.call 11 2 (.cons (.var 0) (.cons (.var 1) .nil))) (.bi .len 1 (.cons (.var 1) .nil))) (.var 1)) .nil))) .skip
-- 43 rings_of
def N_rings_of : List Str := ["web"]
def c_rings_of : S := .seq (.ex (.call 4 1 (.cons (.var 0) .nil))) (.seq (.ret (.call 42 1 (.cons (.var 0) .nil))) .skip)
-- 44 without
def N_without : List Str := ["web", "lot", "tie"]
def c_without : S := .seq (.ret (.bi .tuple 1 (.cons (.lc [2] (.name 2) .seq 1 (.call 13 1 (.cons (.var 0) .nil)) true (.cmp .nmem (.var 2) (.var 1)) (.var 2)) .nil))) .skip
-- 45 cuts_in
def N_cuts_in : List Str := ["web", "whole", "lot"]
def c_cuts_in : S := .seq (.set 1 (.call 11 2 (.cons (.var 0) (.cons (.call 13 1 (.cons (.var 0) .nil)) .nil)))) (.seq (.ret (.call 41 1 (.cons (.lc [2] (.name 2) .seq 1 (.call 15 1 (.cons (.var 0) .nil)) true (.cmp .lt (.call 11 2 (.cons (.var 0) (.cons (.call 44 2 (.cons (.var 0) (.cons (.var 2) .nil))) .nil))) (.var 1)) (.var 2)) .nil))) .skip)
-- 46 cuts_of
def N_cuts_of : List Str := ["web"]
def c_cuts_of : S := .seq (.ex (.call 4 1 (.cons (.var 0) .nil))) (.seq (.ret (.call 45 1 (.cons (.var 0) .nil))) .skip)
end DP.L

set_option Elab.async false
set_option linter.all false
set_option maxRecDepth 100000
set_option maxHeartbeats 1000000
/-! E21: the draws as things of the heap. -/
namespace DP
open PySem PySem.Spec PyProof.Rows L2
/-- the draws' dict -/
def dkv (g cl : Addr) (rest turn : Int) : List (Key × V) := [(.inr "great", .ref g), (.inr "cells", .ref cl), (.inr "rest", .int rest), (.inr "turn", .int turn)]
/-- the draws stand at r, g, cl, and may be asked c times more -/
structure DrAt (r g cl : Addr) (gs cs : List Int) (rest turn : Int) (H : Hp) : Prop where
  dd : H r = some (.dK (dkv g cl rest turn))
  dg : H g = some (.lst (gs.map V.int))
  dc : H cl = some (.lst (cs.map V.int))
  ne : g ≠ cl
def lim : Int := 1000000
def DrJ (r g cl : Addr) (c : Nat) (H : Hp) : Prop := ∃ gs cs rest turn, DrAt r g cl gs cs rest turn H ∧ 0 ≤ turn ∧ turn + c ≤ lim
theorem DrAt.rg {r g cl : Addr} {gs cs : List Int} {rest turn : Int} {H : Hp} (h : DrAt r g cl gs cs rest turn H) : r ≠ g ∧ r ≠ cl := by
  refine ⟨fun e => ?_, fun e => ?_⟩
  · have := h.dd; rw [e, h.dg] at this; cases this
  · have := h.dd; rw [e, h.dc] at this; cases this
def drR (r g cl : Addr) : Addr → Prop := fun a => a = r ∨ a = g ∨ a = cl
/-- the surroundings behind the law's first line -/
structure IsDr (m : MG) (K : PySem.W.Frag) (r g cl : Addr) : Prop where
  hK : m.K = K
  hR : m.R = drR r g cl
  hr : m.r = some r
  hJ : m.J = fun c H => LamX.Tabs m.T H ∧ DrJ r g cl c H
theorem DrAt.put {r g cl : Addr} {gs cs : List Int} {rest turn rest' turn' : Int} {H : Hp} (h : DrAt r g cl gs cs rest turn H) : DrAt r g cl gs cs rest' turn' (upd H r (.dK (dkv g cl rest' turn'))) := by
  obtain ⟨n1, n2⟩ := h.rg
  exact ⟨upd_same, by rw [upd_ne n1.symm]; exact h.dg, by rw [upd_ne n2.symm]; exact h.dc, h.ne⟩
theorem DrAt.pop {r g cl : Addr} {gs gs' cs : List Int} {rest turn : Int} {H : Hp} (h : DrAt r g cl gs cs rest turn H) : DrAt r g cl gs' cs rest turn (upd H g (.lst (gs'.map V.int))) := by
  obtain ⟨n1, n2⟩ := h.rg
  exact ⟨by rw [upd_ne n1]; exact h.dd, upd_same, by rw [upd_ne h.ne.symm]; exact h.dc, h.ne⟩
theorem dkv_rest {g cl : Addr} {rest turn x : Int} : putK (dkv g cl rest turn) (.inr "rest") (.int x) = dkv g cl x turn := by rfl
theorem dkv_turn {g cl : Addr} {rest turn x : Int} : putK (dkv g cl rest turn) (.inr "turn") (.int x) = dkv g cl rest x := by rfl
theorem get_great {g cl : Addr} {rest turn : Int} : valV (dkv g cl rest turn) (.inr "great") = some (.ref g) := rfl
theorem get_cells {g cl : Addr} {rest turn : Int} : valV (dkv g cl rest turn) (.inr "cells") = some (.ref cl) := by rfl
theorem get_rest {g cl : Addr} {rest turn : Int} : valV (dkv g cl rest turn) (.inr "rest") = some (.int rest) := by rfl
theorem get_turn {g cl : Addr} {rest turn : Int} : valV (dkv g cl rest turn) (.inr "turn") = some (.int turn) := by rfl
theorem Kp.at {A : Addr → Prop} {H : Hp} {p : Addr} {o u : HO} (h : H p = some u) (hu : Ownable u) (ho : Ownable o) (hA : A p) : Kp A H (upd H p o) := Kp.mut h hu hA (ow_nt ho)
theorem Tabs.at {T : List (Addr × Str)} {H : Hp} {p : Addr} {o u : HO} (h : LamX.Tabs T H) (e : H p = some u) (hu : Ownable u) : LamX.Tabs T (upd H p o) := by
  intro q hq
  obtain ⟨ps, e1, e2, e3⟩ := h q hq
  refine ⟨ps, ?_, e2, fun pos cv hc => ?_⟩
  · rw [upd_ne (fun z => by rw [z, e] at e1; cases e1; exact hu)]
    exact e1
  · obtain ⟨c, h1, h2⟩ := e3 pos cv hc
    refine ⟨c, h1, ?_⟩
    rw [upd_ne (fun z => by rw [z, e] at h2; cases h2; exact hu)]
    exact h2
/-- all stays -/
def Gr (H H' : Hp) : Prop := ∀ b o, H b = some o → H' b = some o
theorem Gr.refl (H : Hp) : Gr H H := fun _ _ h => h
theorem Gr.trans {H H1 H2 : Hp} (a : Gr H H1) (b : Gr H1 H2) : Gr H H2 := fun c o h => b c o (a c o h)
theorem Gr.new {H : Hp} {p : Addr} {o : HO} (h : H p = none) : Gr H (upd H p o) := fun b u e => by rw [upd_ne (ne_of_none e h)]; exact e
/-- .. at a place that was free at first -/
theorem Gr.at {H H1 : Hp} {p : Addr} {o : HO} (a : Gr H H1) (h : H p = none) : Gr H (upd H1 p o) := fun b u e => by rw [upd_ne (ne_of_none e h)]; exact a b u e
theorem Gr.none {H H1 : Hp} {p : Addr} (a : Gr H H1) (h : H1 p = none) : H p = none := by
  cases e : H p with
  | none => rfl
  | some o => rw [a p o e] at h; cases h
theorem Gr.kp {A : Addr → Prop} {H H' : Hp} (a : Gr H H') : Kp A H H' := kp_extN fun b o e _ => a b o e
theorem Gr.sql {K : PySem.W.Frag} {H H' : Hp} {a : Addr} {xs : List V} (g : Gr H H') (h : SqL K H a xs) : SqL K H' a xs := by
  rcases h with (h | ⟨o, h⟩) | h
  · exact .inl (.inl (g _ _ h))
  · exact .inl (.inr ⟨o, g _ _ h⟩)
  · exact .inr h
theorem Gr.tabs {T : List (Addr × Str)} {H H' : Hp} (g : Gr H H') (h : LamX.Tabs T H) : LamX.Tabs T H' := fun q hq => by
  obtain ⟨ps, e1, e2, e3⟩ := h q hq
  exact ⟨ps, g _ _ e1, e2, fun pos cv hc => by obtain ⟨c, h1, h2⟩ := e3 pos cv hc; exact ⟨c, h1, g _ _ h2⟩⟩
theorem iteB {b : Bool} {A B : Prop} (h1 : b = true → A) (h2 : b = false → B) : if b = true then A else B := by
  cases b with
  | true => rw [if_pos rfl]; exact h1 rfl
  | false => rw [if_neg (by simp)]; exact h2 rfl
theorem yes_of {σ : L2.St} {H : Hp} {A B : Hp → Prop} (h : A H) : tYes σ H fun b H3 => if b = true then A H3 else B H3 := by
  show if true = true then A H else B H
  rw [if_pos rfl]
  exact h
def spBegun (K : PySem.W.Frag) : Sp := fun vs H Q _ => ∃ (a : Addr) (ns : List Int), vs = [.ref a] ∧ SqL K H a (ns.map V.int) ∧ ns.length < sizeLine ∧
  ∀ r g cl gs cs H', Gr H H' → DrAt r g cl gs cs 0 0 H' → H r = none → H g = none → H cl = none → Q (.ref r) H'
def sBlend : FSpec := fun ds Q _ => ds = [.res] ∧ ∀ k : Int, Q (.int k) false
def sDrawn : FSpec := fun ds Q _ => ∃ r : Int, ds = [.res, .int r] ∧ 1 ≤ r ∧ r ≤ 1000000 ∧ ∀ k : Int, 0 ≤ k → k < r → Q (.int k) false
theorem reps_ints2 {m : MG} {A : Addr → Prop} {H : Hp} : ∀ gs : List Int, Reps m A H (gs.map D.int) (gs.map V.int)
  | [] => rfl
  | i :: gs => ⟨.int i, _, rfl, rfl, reps_ints2 gs⟩
theorem ints_pln (gs : List Int) : (D.lst (gs.map D.int)).pln 60 = true := by
  show D.pln.plns (gs.map D.int) 59 = true
  induction gs with
  | nil => rfl
  | cons i gs ih => rw [List.map_cons]; simp only [D.pln.plns, ih, Bool.and_true]; rfl
theorem eqq_nil (gs : List Int) : D.eqq (.lst (gs.map D.int)) (.lst []) = gs.isEmpty := by
  cases gs <;> rfl
theorem DrAt.new {r g cl : Addr} {gs cs : List Int} {rest turn : Int} {H : Hp} {p : Addr} {o : HO} (h : DrAt r g cl gs cs rest turn H) (hp : H p = none) : DrAt r g cl gs cs rest turn (upd H p o) :=
  ⟨by rw [upd_ne (ne_of_none h.dd hp)]; exact h.dd, by rw [upd_ne (ne_of_none h.dg hp)]; exact h.dg, by rw [upd_ne (ne_of_none h.dc hp)]; exact h.dc, h.ne⟩
theorem Tabs.new {T : List (Addr × Str)} {H : Hp} {p : Addr} {o : HO} (h : LamX.Tabs T H) (hp : H p = none) : LamX.Tabs T (upd H p o) := by
  intro q hq
  obtain ⟨ps, e1, e2, e3⟩ := h q hq
  refine ⟨ps, ?_, e2, fun pos cv hc => ?_⟩
  · rw [upd_ne (ne_of_none e1 hp)]
    exact e1
  · obtain ⟨c, h1, h2⟩ := e3 pos cv hc
    refine ⟨c, h1, ?_⟩
    rw [upd_ne (ne_of_none h2 hp)]
    exact h2
/-- how a draw ends -/
def tDrawEnd : TS := tSeq (tAsg (tOp (rI (fun _ j => 0 < j) fun i j => .int (i % j)) (tCB (fun xs H Q => (∃ i, xs = [V.int i] ∧ Q (V.int i) H) ∨ ∃ k, xs = [V.bl k] ∧ Q (V.int (if k = true then 1 else 0)) H) (tCons (tDGet (tVar 0) (tC (.str "rest"))) tNil)) (tVar 1)) (gName 2))
  (tSeq (sDPut (tVar 0) (tC (.str "rest")) (tOp (rI CDivW fun i j => .int (i / j)) (tDGet (tVar 0) (tC (.str "rest"))) (tVar 1))) (tRet (tVar 2)))
theorem draw_end {r g cl : Addr} {gs cs : List Int} {rest turn rm : Int} {H : Hp} {x : Option V} {N : Ends} (dr : DrAt r g cl gs cs rest turn H) (r1 : 1 ≤ rm) (r2 : rm ≤ 1000000)
    (h : N.rt (.int (rest % rm)) (upd H r (.dK (dkv g cl (rest / rm) turn)))) : tDrawEnd N [some (.ref r), some (.int rm), x] H := by
  have sz15 : 15 < sizeLine := by rw [sizeLine_eq]; omega
  refine ⟨_, rfl, r, .int rest, rfl, DGet.k (k := .inr "rest") dr.dd, .inl ⟨rest, rfl, ?_⟩⟩
  refine ⟨_, rfl, rest, rm, rfl, rfl, by omega, ?_⟩
  refine ⟨_, rfl, r, .int rest, rfl, DGet.k (k := .inr "rest") dr.dd, _, rfl, rest, rm, rfl, rfl, ⟨by omega, ?_⟩, ?_⟩
  · have h1 : rm.natAbs < 2 ^ 20 := by omega
    have := Nat.log2_lt (n := rm.natAbs) (k := 20) (by omega)
    omega
  · refine ⟨_, rfl, r, _, rfl, DPut.k (k := .inr "rest") dr.dd (by show 4 < sizeLine; omega), _, rfl, ?_⟩
    rw [dkv_rest]
    exact h
end DP

set_option Elab.async false
set_option linter.all false
set_option maxRecDepth 100000
set_option maxHeartbeats 1000000
/-! E22: the surroundings of a law; def by def; the law's own def. -/
namespace DP
open PySem PySem.Spec PyProof.Rows L2
def caD (K : PySem.W.Frag) (M : MD) (c : Nat) : Option Addr := ((M.cl c)).map fun p => He.ga K p.1
/-- behind the law's first line: the draws at r, g, cl -/
def mgD (K : PySem.W.Frag) (M : MD) (T : List (Addr × Str)) (r g cl : Addr) : MG where
  K := K
  R := drR r g cl
  J := fun c H => LamX.Tabs T H ∧ DrJ r g cl c H
  r := some r
  T := T
  fa := fun f => ((M.fn f)).map fun p => He.ga K p.1
  ca := caD K M
  ex := fun H a c fs => fs = [] ∧ ∃ D, caD K M c = some D ∧ H a = some (ExT (.ref D) none a) ∧ ExcC K D
theorem isDr {K : PySem.W.Frag} {M : MD} {T : List (Addr × Str)} {r g cl : Addr} : IsDr (mgD K M T r g cl) K r g cl := ⟨rfl, rfl, rfl, rfl⟩
theorem mgD_ok {K : PySem.W.Frag} {M : MD} {T : List (Addr × Str)} {r g cl : Addr} : (mgD K M T r g cl).Ok := by
  refine ⟨fun c H p o ⟨t, gs, cs, rest, turn, d, h⟩ n => ⟨Tabs.new t n, gs, cs, rest, turn, d.new n, h⟩, fun c H p o u ⟨t, gs, cs, rest, turn, d, h⟩ e hu nR => ?_, fun A H H' a c fs k ⟨h1, D, h2, h3, h4⟩ => ⟨h1, D, h2, k.x _ _ h3 trivial, h4⟩, fun c H h => h.1, fun c H H1 ⟨t, gs, cs, rest, turn, d, h⟩ e t1 => ?_, fun c H p od u ⟨t, gs, cs, rest, turn, d, h⟩ e hu nR => ?_⟩
  · refine ⟨Tabs.at t e hu, gs, cs, rest, turn, ⟨?_, ?_, ?_, d.ne⟩, h⟩
    · rw [upd_ne (fun z => nR (.inl z.symm))]; exact d.dd
    · rw [upd_ne (fun z => nR (.inr (.inl z.symm)))]; exact d.dg
    · rw [upd_ne (fun z => nR (.inr (.inr z.symm)))]; exact d.dc
  rotate_left
  · refine ⟨fun q hq => ?_, gs, cs, rest, turn, ⟨?_, ?_, ?_, d.ne⟩, h⟩
    · obtain ⟨ps, h1, h2, h3⟩ := t q hq
      have ne : q.1 ≠ p := fun z => by rw [z, e] at h1; cases h1
      refine ⟨ps, by rw [upd_ne ne]; exact h1, h2, fun pos cv hc => ?_⟩
      obtain ⟨c, ec, hc⟩ := h3 pos cv hc
      refine ⟨c, ec, ?_⟩
      have ne2 : c ≠ p := fun z => by rw [z, e] at hc; cases hc
      rw [upd_ne ne2]; exact hc
    · rw [upd_ne (fun z => nR (.inl z.symm))]; exact d.dd
    · rw [upd_ne (fun z => nR (.inr (.inl z.symm)))]; exact d.dg
    · rw [upd_ne (fun z => nR (.inr (.inr z.symm)))]; exact d.dc
  · exact ⟨t1, gs, cs, rest, turn, ⟨e _ _ d.dd (fun _ z => by cases z), e _ _ d.dg (fun _ z => by cases z), e _ _ d.dc (fun _ z => by cases z), d.ne⟩, h⟩
/-- what the module says of an own class -/
structure ClsFa (K : PySem.W.Frag) (mg : Str → Option Value) (x : Str) : Prop where
  g : mg x = some (.ref (He.ga K x))
  e : ExcC K (He.ga K x)
  n : PySem.W.kitOne K (.type "NoneType") (.ref (He.ga K x)) = some false
  xi : PySem.W.excIn K (He.ga K x) He.veBase "ValueError.__new__" = true
  k : PySem.W.keepIn K (.ref (He.ga K x)) = true
  b : PySem.W.subIn K (.ref (He.ga K x)) (.type "BaseException") = some true
  t : PySem.W.typeIn K (.ref (He.ga K x)) = some (.type "type")
theorem modOk_D {P : Program} {w : World} {K : PySem.W.Frag} {mg : Str → Option Value} {base : Heap} {C : Ctx} {M : MD} {T : List (Addr × Str)} {r g cl : Addr}
    (hg : ∀ p ∈ M.fnL, mg p.2.1 = some (.ref (He.ga K p.2.1))) (hc : ∀ p ∈ M.clL, ClsFa K mg p.2.1 ∧ p.2.2 = none) (hs : ∀ (c d : Nat) (x y : Str × Option Str), M.cl c = some x → M.cl d = some y → PySem.W.kitOne K (.ref (He.ga K x.1)) (.ref (He.ga K y.1)) = some (C.sub c d))
    (ht : ∀ c x, (M.ct c) = some x → ∃ (i : Int) (t : Tok), mg x = some (.int i t) ∧ C.cst c = .int i) (hf : ∀ x ∈ M.free, mg x = none) (hfl : ∀ c, C.fld c = none)
    (sk : ∀ f ∈ M.sk, ∀ x ps, (M.fn f) = some (x, ps) → ∃ fa, mg x = some (.ref fa) ∧ SizeTurn P w K mg base (fun _ _ => True) (.ref fa))
    (cc : ∀ f ∈ M.cc, ∀ x ps, (M.fn f) = some (x, ps) → CatchOk P w K mg base (mgD K M T r g cl) C x) : ModOk P w K mg base (mgD K M T r g cl) C M := by
  have key : ∀ {c : Nat} {D : Addr}, caD K M c = some D → ∃ p, (M.cl c) = some p ∧ D = He.ga K p.1 := fun {c D} e => by
    unfold caD at e
    cases h : (M.cl c) with
    | none => rw [h] at e; cases e
    | some p => rw [h] at e; cases e; exact ⟨p, rfl, rfl⟩
  refine ⟨mgD_ok, rfl, fun f x ps e => ⟨_, hg _ (mem_lk e), ?_⟩, fun c x o e => ⟨_, (hc _ (mem_lk e)).1.g, ?_⟩, fun c x e => ?_, hf, ⟨fun k E e => ?_, fun H a c fs ⟨h1, D, h2, h3, h4⟩ => ⟨D, h2, h3, h4⟩, fun H a c D e h => ?_, fun c k D E e1 e2 => ?_⟩, fun c x o e => ?_, sk, cc, fun X e1 e2 e3 e4 c x mm j p p2 pos hm hgl ho => ?_, fun X k e1 e2 e3 e4 e5 hr c x f e ta p pos hm => ?_⟩
  · show ((M.fn f)).map _ = _
    rw [e]; rfl
  · show ((M.cl c)).map _ = _
    rw [e]; rfl
  · obtain ⟨i, t, h1, h2⟩ := ht c x e
    exact ⟨_, .int i, h1, ⟨t, rfl⟩, fun A H => by rw [h2]; rfl⟩
  · obtain ⟨p, h1, rfl⟩ := key e
    exact (hc _ (mem_lk h1)).1.n
  · obtain ⟨p, h1, rfl⟩ := key e
    exact ⟨rfl, _, e, h, (hc _ (mem_lk h1)).1.e⟩
  · obtain ⟨p, h1, rfl⟩ := key e1
    obtain ⟨q, h2, rfl⟩ := key e2
    exact hs c k p q h1 h2
  · have := (hc _ (mem_lk e)).2
    have e2 : o = none := this
    rw [e2]; exact hfl c
  · obtain ⟨f, _⟩ := hc _ (mem_lk hm)
    intro pins s σ H Q I ⟨Ca, h1, q⟩
    have h1 : caD K M c = some Ca := h1
    obtain ⟨p', h2, rfl⟩ := key h1
    rw [hm] at h2
    cases h2
    exact pmk_own PySem.F.excBase_ValueError (by rw [e1]; exact f.xi) (by rw [e2]; exact f.g) (by rw [e1]; exact f.k) (raises_own (by rw [e1]; exact f.b) (by rw [e1]; exact f.t)) hgl (okN_ok ho).1 pins s σ H Q I q
  · have e2 : some f = none := (hc _ (mem_lk hm)).2
    cases e2
/-- the def of number i keeps its promise, k calls deep -/
def HI (P : Program) (w : World) (K : PySem.W.Frag) (mg : Str → Option Value) (base : Heap) (m : MG) (C : Ctx) (M : MD) (i k : Nat) : Prop := ∀ x ps, (M.fn i) = some (x, ps) → Has P w K mg base m k x ps (C.fs i) i (C.cost i) M.kw
theorem HI.mono {P : Program} {w : World} {K : PySem.W.Frag} {mg : Str → Option Value} {base : Heap} {m : MG} {C : Ctx} {M : MD} {i j k : Nat} (h : HI P w K mg base m C M i j) (hk : j ≤ k) : HI P w K mg base m C M i k := fun x ps e => (h x ps e).mono hk
/-- the table of a def's code -/
def TabFa (base : Heap) (K : PySem.W.Frag) (mg : Str → Option Value) (T : List (Addr × Str)) (x : Str) : Prop :=
  LamX.TabB base mg (He.cT K (x, none)).1 (He.cT K (x, none)).2 ∧ ((He.cT K (x, none)).2, x ++ ".<locals>." ++ "<lambda>") ∈ T ∧ ∀ p ∈ T, p.1 = (He.cT K (x, none)).2 → p.2 = x ++ ".<locals>." ++ "<lambda>"
def usesIn (M : MD) (use L : List Nat) : Bool := use.all fun f => L.contains f || ((M.fn f)).isNone
def hdsIn (M : MD) (hds : List (Nat × Nat)) (L : List Nat) : Bool := hds.all fun q => L.contains q.1 && (match (M.fn (q.1)) with | some p => p.2.length == q.2 | none => false)
section
variable {P : Program} {w : World} {K : PySem.W.Frag} {mg : Str → Option Value} {base : Heap} {m : MG} {C : Ctx} {M : MD} {use L : List Nat} {N ps : List Str} {k i j q : Nat} {x : Str} {params : Arguments} {body : List Stmt} {scope : Scope} {fd : FuncData} {code : S}
theorem uses_of (hA : ∀ f ∈ L, HI P w K mg base m C M f k) (h : usesIn M use L = true) : ∀ f ∈ use, ∀ x ps, (M.fn f) = some (x, ps) → Has P w K mg base m k x ps (C.fs f) f (C.cost f) M.kw := fun f hf x ps e => by
  have h2 := List.all_eq_true.mp h f hf
  rcases Bool.or_eq_true_iff.mp h2 with z | z
  · exact hA f (List.contains_iff_mem.mp z) x ps e
  · rw [e] at z; cases z
theorem lam_of (F : FunD K x x params body scope [] [] (He.fAd K (x, none)) fd) (hT : TabFa base K mg m.T x) (hA : ∀ f ∈ L, HI P w K mg base m C M f j) (h : usesIn M use L = true) {hds : List (Nat × Nat)} (hd : ∀ f n, C.hd f = some n → (f, n) ∈ hds) (h2 : hdsIn M hds L = true) (hk : j + 2 ≤ k) : LamD P w K mg base m C M use k x fd := by
  obtain ⟨oc, od, dV, kV, doc, pm, an, cdv, ct, osl, e, lk, hcd, _, _⟩ := F.ex
  obtain ⟨c, ec⟩ := He.codeIn_ref hcd
  have ec' : fd.code = .ref c := by rw [e]; exact ec
  have e1 := He.codeOf_eq lk ec'
  refine ⟨⟨_, _, hT.1, ?_, hT.2.1, hT.2.2⟩, j, hk, uses_of hA h, fun f n e => ?_⟩
  · rw [ec', ← e1]; rfl
  · have h3 := List.all_eq_true.mp h2 _ (hd f n e)
    obtain ⟨z1, z2⟩ := Bool.and_eq_true_iff.mp h3
    cases e4 : (M.fn f) with
    | none => dsimp only at z2; rw [e4] at z2; cases z2
    | some p =>
      dsimp only at z2
      rw [e4] at z2
      exact ⟨p.1, p.2, rfl, by simpa using z2, hA f (List.contains_iff_mem.mp z1) _ _ e4⟩
theorem cons_HI (hA : ∀ f ∈ L, HI P w K mg base m C M f k) (h : HI P w K mg base m C M i (k + 3)) : ∀ f ∈ i :: L, HI P w K mg base m C M f (k + 3) := fun f hf => by
  rcases List.mem_cons.mp hf with z | z
  · rw [z]; exact h
  · exact (hA f z).mono (by omega)
/-- one def more -/
theorem step_HI (mo : ModOk P w K mg base m C M) (hC : CMono C) (h3 : 3 ≤ k) (hA : ∀ f ∈ L, HI P w K mg base m C M f k) (e : (M.fn i) = some (x, ps)) (F : FunD K x x params body scope [] [] (He.fAd K (x, none)) fd) (hma : m.fa i = some (He.ga K x)) (S' : FnScope N ps scope) (hb : Binds K fd ps []) (hg : mg x = some (.ref (He.ga K x)))
    (hu : usesIn M use L = true) (hs : chkS M use N (fun _ => true) scope code (.inr body) = true) (hS : ∀ ds Q X, C.fs i ds Q X → wdef C N.length code ds Q X) (hc : C.cost i = 0) (hpn : ps.length ≤ N.length) (hlam : 1000 ∈ use → LamD P w K mg base m C M use (k + 2) x fd) (hkw : ∀ q ∈ M.kw, q.1 = i → KwTo K fd ps q.2.1 q.2.2) :
    ∀ f ∈ i :: L, HI P w K mg base m C M f (k + 3) := by
  refine cons_HI hA fun x' ps' e' => ?_
  rw [e] at e'
  cases e'
  rw [hc]
  exact has_of (k := k + 2) F S' hb hg hma hC mo (uses_of (fun f hf => (hA f hf).mono (by omega)) hu) hs hS hpn (by omega) hlam hkw
/-- one more that asks the draws -/
theorem step_HIc (mo : ModOk P w K mg base m C M) (hC : CMono C) (h3 : 3 ≤ k) (hA : ∀ f ∈ L, HI P w K mg base m C M f k) (e : (M.fn i) = some (x, ps)) (F : FunD K x x params body scope [] [] (He.fAd K (x, none)) fd) (hma : m.fa i = some (He.ga K x)) (S' : FnScope N ps scope) (hb : Binds K fd ps []) (hg : mg x = some (.ref (He.ga K x)))
    (hu : usesIn M use L = true) (hs : chkS M use N (fun _ => true) scope code (.inr body) = true) (hN : N.length = j + 1) (hS : ∀ ds Q X, C.fs i ds Q X → wdefc C j q code ds Q X) (hc : C.cost i = q) (hpn : ps.length ≤ j) (hlam : 1000 ∈ use → LamD P w K mg base m C M use (k + 2) x fd) (hkw : ∀ q ∈ M.kw, q.1 = i → KwTo K fd ps q.2.1 q.2.2) :
    ∀ f ∈ i :: L, HI P w K mg base m C M f (k + 3) := by
  refine cons_HI hA fun x' ps' e' => ?_
  rw [e] at e'
  cases e'
  rw [hc]
  exact has_ofc (k := k + 2) F S' hb hg hma hC mo (uses_of (fun f hf => (hA f hf).mono (by omega)) hu) hs hN hS hpn (by omega) hlam hkw
end
end DP

set_option Elab.async false
set_option linter.all false
set_option maxRecDepth 100000
set_option maxHeartbeats 1000000
/-! E23: the law's own def. -/
namespace DP
open PySem PySem.Spec PyProof.Rows L2
def spLaw (K : PySem.W.Frag) (T : List (Addr × Str)) : Sp := fun vs H Q _ => ∃ (a : Addr) (ns : List Int), vs = [.ref a] ∧ SqL K H a (ns.map V.int) ∧ ns.length < sizeLine ∧ LamX.Tabs T H ∧ ∀ H', Q (.bl true) H'
def lawGl (ns : List Int) (a r : Addr) (n q : Nat) : List GS := .sh (.scr ns) (.ref a) :: .sh .res (.ref r) :: (List.replicate n (.emp none) ++ [.crd q])
theorem owns_emp : ∀ (n : Nat) (l : List GS), owns (List.replicate n (.emp none) ++ l) = owns l
  | 0, _ => rfl
  | n + 1, l => by rw [List.replicate_succ, List.cons_append, owns_cons, owns_emp n l]; rfl
theorem law_fn {P : Program} {w : World} {K : PySem.W.Frag} {mg : Str → Option Value} {base : Heap} {C : Ctx} {M : MD} {T : List (Addr × Str)} {use L : List Nat} {N : List Str} {k n q : Nat} {params : Arguments} {body rest : List Stmt} {scope : Scope} {f fb : Addr} {fd fdb : FuncData} {ct : S} {p1 p2 p3 p4 p5 : Pos}
    (F : FunD K "law" "law" params body scope [] [] f fd) (hbody : body = .Assign [.Name "draws" p1] (.Call (.Name "_law_begun" p2) [.Name "script" p3] [] p4) p5 :: rest) (S' : FnScope N ["script"] scope) (hN : N.length = n + 3) (h0 : N[0]? = some ("script" : Str)) (h1 : N[1]? = some ("draws" : Str))
    (vsc : scope.names.lookup ("script" : Str) = some .local ∨ scope.names.lookup ("script" : Str) = some .cell) (vd : scope.names.lookup ("draws" : Str) = some .local) (vb : scope.names.lookup ("_law_begun" : Str) = some .globalImplicit)
    (FB : FnOk P w K mg base (L2.CX P w) k fb fdb ["script"] (spBegun K)) (gB : mg "_law_begun" = some (.ref fb)) (kB : PySem.W.keepIn K (.ref fb) = true) (bB : Binds K fdb ["script"] [])
    (hC : CMono C) (mo : ∀ r g cl, ModOk P w K mg base (mgD K M T r g cl) C M) (hI : ∀ r g cl, ∀ f ∈ L, HI P w K mg base (mgD K M T r g cl) C M f k) (hu : usesIn M use L = true) (h3 : 3 ≤ k) (hlam : 1000 ∈ use → ∀ r g cl, LamD P w K mg base (mgD K M T r g cl) C M use k "law" fd)
    (hs : chkS M use N (fun _ => true) scope ct (.inr rest) = true) (hq : (q : Int) ≤ lim)
    (hW : ∀ (ns : List Int) (Q : D → Bool → Prop) (X : D → Prop), Q (.bl true) false → ws C ct ⟨.sh (.scr ns) :: .sh .res :: (List.replicate n .emp ++ [.crd q]), []⟩ ⟨fun _ => Q .non false, Q, fun _ => False, fun _ => False, fun x _ => X x⟩) :
    FnOk P w K mg base (L2.CX P w) (k + 1) f fd ["script"] (spLaw K T) := by
  subst hbody
  obtain ⟨oc, od, dV, kV, doc, pm, an, cdv, cta, osl, rfl, lk, hcd, _, _⟩ := F.ex
  refine fn_of lk hcd S' (fun vs H Q E h => ?_) fun A outer s H vs Q E hr h => ?_
  · obtain ⟨a, ns, rfl, _⟩ := h
    rfl
  · let X := cxOf (L2.CX P w) P w K mg base N "law" scope f cdv A outer s H E
    let W : WX := fun cls d _ H' => E cls d H'
    have tk : Takes X W := takes_of rfl rfl rfl rfl
    have st : start N vs = vs.map some ++ List.replicate (N.length - vs.length) none := rfl
    refine ⟨_, pss_cons (ps_set (X := X) (i := 1) S'.nd h1 (Or.inl vd) (pe_callS FB hr vb gB kB bB (fun σ => passAt tk σ) (pa_cons (pv 0 h0 (vsc.elim .inl fun z => .inr (.inl z)) (by decide) (by decide)) pa_nil) (by decide)) (by rfl) (.inr vd))
      (show PSs X rest (fun D σ H => ∃ G : GC, (∃ r g cl, G.m = mgD K M T r g cl) ∧ G.Ok ∧ tS G C W ct D σ H) from ⟨fun pins s σ H D I ⟨G, ⟨r, g, cl, hm⟩, ok, h⟩ => ?_⟩), ?_⟩
    · have mo' := mo r g cl
      have gg : Good G C M use N k X scope W := ⟨ok, rfl, by rw [hm]; rfl, rfl, S'.nd, rfl, hr, tk, by rw [hm]; exact uses_of (hI r g cl) hu, by rw [hm]; exact mo'.fvs, by rw [hm]; exact mo'.cvs, by rw [hm]; exact mo'.cts, mo'.free, by rw [hm]; exact mo'.cls, h3, mo'.sk, by rw [hm]; exact mo'.cc, fun hh => by
        obtain ⟨⟨c, P', t1, t2, t3, t4⟩, j, j1, j2, j3⟩ := hlam hh r g cl
        refine ⟨⟨c, P', t1, t2, ?_, ?_⟩, ⟨j, j1, ?_, ?_⟩⟩
        · rw [hm]; exact t3
        · rw [hm]; exact t4
        · rw [hm]; exact j2
        · rw [hm]; exact j3⟩
      have gs : GoodS G C M use N k X scope W := ⟨gg, passes_of rfl, fun c x mm j p p2 pos hc hg ho => by rw [hm]; exact mo'.rz X rfl rfl rfl rfl c x mm j p p2 pos hc (glB_ok (X := X) rfl hg) ho,
        fun c x f e ta p pos hc hg ho hoe he => by rw [hm]; exact mo'.rzf X k rfl rfl rfl rfl rfl hr c x f e ta p pos hc (glB_ok (X := X) rfl hg) ho hoe he, mo'.fld⟩
      exact ((chkS_ok hC gs (fun _ _ => rfl) ct).2 rest hs).run pins s σ H D I h
    · obtain ⟨a, ns, rfl, sq, hl, tb, q1⟩ := h
      refine ⟨_, rfl, a, ns, rfl, sq, hl, fun r g cl gs cs H' gr dr n1 n2 n3 => ?_⟩
      have es : (start N [V.ref a]).set 1 (some (.ref r)) = (lawGl ns a r n q).map GS.val := by
        rw [st, hN]
        show some (V.ref a) :: (List.replicate (n + 2) none).set 0 (some (V.ref r)) = some (V.ref a) :: some (V.ref r) :: (List.replicate n (GS.emp none) ++ [GS.crd q]).map GS.val
        rw [List.map_append, List.map_replicate, List.replicate_succ, List.set_cons_zero, List.replicate_succ']
        rfl
      show ∃ G : GC, (∃ r g cl, G.m = mgD K M T r g cl) ∧ G.Ok ∧ tS G C W ct _ ((start N [V.ref a]).set 1 (some (.ref r))) H'
      have hA : ∀ b, drR r g cl b → Nt H' b := by
        rintro b (z | z | z)
        · rw [z]; exact ⟨_, dr.dd, fun _ w => by cases w⟩
        · rw [z]; exact ⟨_, dr.dg, fun _ w => by cases w⟩
        · rw [z]; exact ⟨_, dr.dc, fun _ w => by cases w⟩
      have ow : owns (lawGl ns a r n q) ++ owns ([] : List GS) = [] := by
        unfold lawGl
        rw [owns_cons, owns_cons, owns_emp]
        rfl
      have av : ∀ b, Av ⟨mgD K M T r g cl, H', drR r g cl, 0⟩ (lawGl ns a r n q) [] b → drR r g cl b := fun b hb => by
        rcases hb with z | z
        · exact z
        · rw [ow] at z; cases z
      have rs : ScrAt K (drR r g cl) H' a (ns.map V.int) := by
        have nd : ∀ {o : HO}, H a = some o → ¬ drR r g cl a := fun {o} e z => by
          rcases z with z | z | z
          · rw [z, n1] at e; cases e
          · rw [z, n2] at e; cases e
          · rw [z, n3] at e; cases e
        rcases sq with (h | ⟨o, h⟩) | h
        · exact .inr (.inl ⟨gr _ _ h, nd h⟩)
        · exact .inl ⟨o, gr _ _ h⟩
        · exact .inr (.inr h)
      refine ⟨⟨mgD K M T r g cl, H', drR r g cl, 0⟩, ⟨r, g, cl, rfl⟩, ⟨mgD_ok, fun _ h => h, hA⟩, ⟨.sh (.scr ns) :: .sh .res :: (List.replicate n .emp ++ [.crd q]), []⟩, [], lawGl ns a r n q, [],
        ⟨fun _ => ∀ v H2, Ret (mgD K M T r g cl) (drR r g cl) 0 H' H2 .non false v → Q v H2, fun d fr => ∀ v H2, Ret (mgD K M T r g cl) (drR r g cl) 0 H' H2 d fr v → Q v H2, fun _ => False, fun _ => False, fun _ _ => False⟩,
        ⟨?_, rfl, es.symm, rfl, by rw [ow]; exact .nil, fun p hp => (by rw [ow] at hp; cases hp), fun z hz => ?_, fun i v hz => ?_, fun i v hz => (by cases hz), Kp.refl _ _, q, ?_, ⟨gr.tabs tb, gs, cs, 0, 0, dr, Int.le_refl _, by omega⟩⟩,
        ⟨fun s1 σ1 H1 gl1 gk1 q R1 => ?_, fun _ _ _ _ _ q _ => q.elim, fun _ _ _ _ _ q _ => q.elim, fun d fr v H1 q r => q v H1 r, fun y s1 σ1 vs1 H1 gl1 gk1 cls d q R1 ex => q.elim⟩, hW ns (fun d fr => ∀ v H2, Ret (mgD K M T r g cl) (drR r g cl) 0 H' H2 d fr v → Q v H2) (fun _ => False) ?_⟩
      · unfold lawGl
        simp [GS.slot]
      · unfold lawGl at hz
        rw [List.append_nil] at hz
        rcases List.mem_cons.mp hz with z | hz
        · rw [z]; exact Rep.sub (fun b hb => .inl (av b hb)) _ _ ⟨a, rfl, rs⟩
        · rcases List.mem_cons.mp hz with z | hz
          · rw [z]; exact ⟨r, rfl, rfl⟩
          · rcases List.mem_append.mp hz with z | z
            · rw [(List.mem_replicate.mp z).2]; trivial
            · rw [List.mem_singleton.mp z]; trivial
      · unfold lawGl at hz
        rcases List.mem_cons.mp hz with z | hz
        · cases z
        · rcases List.mem_cons.mp hz with z | hz
          · cases z
          · rcases List.mem_append.mp hz with z | z
            · have := (List.mem_replicate.mp z).2; cases this
            · cases List.mem_singleton.mp z
      · show 0 + (cred _ + cred []) ≤ q
        have e0 : ∀ n, cred (List.replicate n Slot.emp) = 0 := fun n => by
          induction n with
          | zero => rfl
          | succ n ih => rw [List.replicate_succ, cred, ih]; rfl
        simp [cred, cred_append, e0, Slot.cr]
      · exact (show ∀ v H2, Ret (mgD K M T r g cl) (drR r g cl) 0 H' H2 .non false v → Q v H2 from q) .non H1 ⟨R1.ke, R1.j.le (Nat.zero_le _), rfl⟩
      · intro v H2 ret
        obtain rfl : v = .bl true := ret.r
        exact q1 H2
/-- the tables by their names -/
def tabT (K : PySem.W.Frag) (tf : List He.Defn) : List (Addr × Str) := tf.map fun p => ((He.cT K p).2, p.1 ++ ".<locals>." ++ "<lambda>")
theorem tabFa_of {base : Heap} {K : PySem.W.Frag} {mg : Str → Option Value} {tf : List He.Defn} (hT : ∀ p ∈ tf.map (He.cT K), LamX.TabB base mg p.1 p.2) (nd : (tf.map fun p => (He.cT K p).2).Nodup) {x : Str} (hx : ((x, none) : He.Defn) ∈ tf) : TabFa base K mg (tabT K tf) x := by
  refine ⟨hT _ (List.mem_map.mpr ⟨_, hx, rfl⟩), List.mem_map.mpr ⟨_, hx, rfl⟩, fun p hp e => ?_⟩
  obtain ⟨q, hq, rfl⟩ := List.mem_map.mp hp
  have key : ∀ {l : List He.Defn}, (l.map fun p => (He.cT K p).2).Nodup → q ∈ l → (x, none) ∈ l → q = (x, none) := by
    intro l
    induction l with
    | nil => intro _ h; cases h
    | cons y l ih =>
      intro nd h1 h2
      obtain ⟨n1, n2⟩ := List.nodup_cons.mp nd
      rcases List.mem_cons.mp h1 with z1 | z1
      · rcases List.mem_cons.mp h2 with z2 | z2
        · rw [z1, z2]
        · exact absurd (List.mem_map.mpr ⟨_, z2, by rw [← z1]; exact e.symm⟩) n1
      · rcases List.mem_cons.mp h2 with z2 | z2
        · exact absurd (List.mem_map.mpr ⟨_, z1, by rw [← z2]; exact e⟩) n1
        · exact ih n2 z1 z2
  rw [key nd hq hx]
theorem tabs_start {K : PySem.W.Frag} {tf : List He.Defn} {H : Hp} (h : ∀ p ∈ tf.map (He.cT K), H p.2 = some (.tbl #[])) : LamX.Tabs (tabT K tf) H := fun q hq => by
  obtain ⟨p, hp, rfl⟩ := List.mem_map.mp hq
  exact LamX.TabS.nil (h _ (List.mem_map.mpr ⟨p, hp, rfl⟩))
theorem cx_no {P : Program} (w : World) (H : Hp) (s : Shared) (e : Value) (s' : Shared) (h : L2.CX P w [] H s (fun _ _ _ => False) e s') : False := by
  unfold L2.CX at h
  revert h
  simp
/-- what the head says of an own class -/
theorem clsFa_of {K : PySem.W.Frag} {h : Heap} {mg : Str → Option Value} (X : K.In h) (G : h.Ns mainGlobals mg) {x : Str} (c1 : (He.Fa.glo x).ok K = true) (c2 : (He.Fa.exc x).ok K = true) (c3 : ExcC K (He.ga K x) ∧ PySem.W.kitOne K (.type "NoneType") (.ref (He.ga K x)) = some false) : ClsFa K mg x := by
  obtain ⟨h1, h2, h3, h4⟩ := He.exc_ok c2
  exact ⟨He.glo_ok X G c1, c3.1, c3.2, h1, h2, h3, h4⟩
end DP

set_option Elab.async false
set_option linter.all false
set_option maxRecDepth 100000
set_option maxHeartbeats 1000000
/-! E24: steps at a comprehension over a local's own list. -/
namespace DP
open PySem PySem.Spec PyProof.Rows L2
section
variable {C : Ctx} {l k : List Slot} {Q : St → Prop} {X : D → St → Prop} {a b c : E} {d e : D}
def LKB (C : Ctx) (own : List Nat) (tg : T) (i : Nat) (hc : Bool) (cc elt : E) (Q : St → Prop) (l k : List Slot) (its : List D) : Prop := own.contains i = false ∧ nbrs k own = true ∧ tg.names.all (fun i => own.contains i) = true ∧
  wcomp (wbodyB C own tg hc cc elt i its (hids l own ++ (.br i :: k))) its ⟨emps l own, .ow (.lst []) :: (hids l own ++ (.br i :: k))⟩ (wfinB Q own i its (hids l own ++ (.br i :: k)) (hids l own) k)
@[simp] theorem x_lcb {own : List Nat} {tg : T} {i : Nat} {hc : Bool} {cc elt : E} : WE C (.lcb own tg i hc cc elt) ⟨l, k⟩ Q X = owK (fun its => LKB C own tg i hc cc elt Q l k its) l[i]? := by
  simp only [WE, we, ← owK_eq, LKB]
  rfl
theorem lkb_fil {own : List Nat} {tg : T} {i : Nat} {hc : Bool} {cc elt : E} {its : List D} (p : D → Bool) (f : D → D) (hni : own.contains i = false) (hnb : nbrs k own = true) (htn : tg.names.all (fun i => own.contains i) = true) (hl : its.length ≤ sizeLine) (hli : (emps l own)[i]? = some (.ow (.lst its)))
    (hb : ∀ x ∈ its, ∀ (as : List D) (P : St → Prop), as.length < sizeLine → P ⟨emps l own, .ow (.lst (if p x then as ++ [f x] else as)) :: (hids l own ++ (.br i :: k))⟩ → WB C own tg hc cc elt (hids l own ++ (.br i :: k)) x ⟨emps l own, .ow (.lst as) :: (hids l own ++ (.br i :: k))⟩ P)
    (q : Q ⟨unhid (emps l own) own (hids l own), .ow (.lst ((its.filter p).map f)) :: k⟩) : LKB C own tg i hc cc elt Q l k its := by
  refine ⟨hni, hnb, htn, ?_⟩
  have key : ∀ (items acc : List D), (∀ x ∈ items, x ∈ its) → acc.length + items.length ≤ sizeLine → Q ⟨unhid (emps l own) own (hids l own), .ow (.lst (acc ++ (items.filter p).map f)) :: k⟩ →
      wcomp (wbodyB C own tg hc cc elt i its (hids l own ++ (.br i :: k))) items ⟨emps l own, .ow (.lst acc) :: (hids l own ++ (.br i :: k))⟩ (wfinB Q own i its (hids l own ++ (.br i :: k)) (hids l own) k) := by
    intro items
    induction items with
    | nil =>
      intro acc _ _ q
      rw [List.filter_nil, List.map_nil, List.append_nil] at q
      exact ⟨acc, ⟨rfl, hli⟩, q⟩
    | cons x items ih =>
      intro acc hm hz q
      rw [List.length_cons] at hz
      refine ⟨⟨⟨acc, rfl⟩, hli⟩, ?_⟩
      refine (hb x (hm x List.mem_cons_self) acc (fun s1 => wcomp (wbodyB C own tg hc cc elt i its (hids l own ++ (.br i :: k))) items s1 (wfinB Q own i its (hids l own ++ (.br i :: k)) (hids l own) k)) (by omega) ?_).2
      show wcomp _ items _ _
      cases hp : p x with
      | true =>
        rw [if_pos rfl]
        refine ih (acc ++ [f x]) (fun y hy => hm y (List.mem_cons_of_mem _ hy)) (by rw [List.length_append, List.length_singleton]; omega) ?_
        rw [List.append_assoc]
        rw [List.filter_cons, if_pos hp] at q
        exact q
      | false =>
        rw [if_neg (by simp)]
        refine ih acc (fun y hy => hm y (List.mem_cons_of_mem _ hy)) (by omega) ?_
        rw [List.filter_cons, if_neg (by simp [hp])] at q
        exact q
  exact key its [] (fun _ h => h) (by simpa using hl) q
/-- no borrowed slot -/
def Nb (x : Slot) : Prop := ∀ k is, nbrs (x :: k) is = nbrs k is
theorem nbx {x : Slot} (h : Nb x) {k : List Slot} {is : List Nat} : nbrs (x :: k) is = nbrs k is := h k is
@[simp] theorem nb_sh' {d : D} {k : List Slot} {is : List Nat} : nbrs (.sh d :: k) is = nbrs k is := rfl
@[simp] theorem nb_ow' {d : D} {k : List Slot} {is : List Nat} : nbrs (.ow d :: k) is = nbrs k is := rfl
@[simp] theorem nb_emp' {k : List Slot} {is : List Nat} : nbrs (.emp :: k) is = nbrs k is := rfl
@[simp] theorem nb_crd' {c : Nat} {k : List Slot} {is : List Nat} : nbrs (.crd c :: k) is = nbrs k is := rfl
@[simp] theorem shd_k {l k : List Slot} {n : Nat} {ds : List D} : ((⟨l, k⟩ : St).shd n ds).k = ds.reverse.map Slot.sh ++ k.drop n := rfl
@[simp] theorem Nb.sh {d : D} : Nb (.sh d) := fun _ _ => rfl
@[simp] theorem Nb.emp : Nb .emp := fun _ _ => rfl
/-! typed: the items are the g x of some xs -/
theorem wcomp_filT {α : Type} {own : List Nat} {tg : T} {hc : Bool} {cc elt : E} {base : List Slot} {l0 : List Slot} {fin : St → Prop} (g f : α → D) (p : α → Bool) : ∀ (xs : List α) (acc : List D), acc.length + xs.length ≤ sizeLine →
    (∀ x ∈ xs, ∀ (as : List D) (P : St → Prop), as.length < sizeLine → P ⟨l0, .ow (.lst (if p x = true then as ++ [f x] else as)) :: base⟩ → WB C own tg hc cc elt base (g x) ⟨l0, .ow (.lst as) :: base⟩ P) →
    fin ⟨l0, .ow (.lst (acc ++ (xs.filter p).map f)) :: base⟩ → wcomp (WB C own tg hc cc elt base) (xs.map g) ⟨l0, .ow (.lst acc) :: base⟩ fin
  | [], acc, _, _, h => by rw [List.filter_nil, List.map_nil, List.append_nil] at h; exact h
  | x :: xs, acc, hl, hb, h => by
    rw [List.length_cons] at hl
    refine hb x List.mem_cons_self acc _ (by omega) ?_
    cases hp : p x with
    | true =>
      rw [if_pos rfl]
      refine wcomp_filT g f p xs (acc ++ [f x]) (by rw [List.length_append, List.length_singleton]; omega) (fun y hy => hb y (List.mem_cons_of_mem _ hy)) ?_
      rw [List.append_assoc]
      rw [List.filter_cons, if_pos hp] at h
      exact h
    | false =>
      rw [if_neg (by simp)]
      refine wcomp_filT g f p xs acc (by omega) (fun y hy => hb y (List.mem_cons_of_mem _ hy)) ?_
      rw [List.filter_cons, if_neg (by simp [hp])] at h
      exact h
theorem lk_filT {α : Type} {own : List Nat} {tg : T} {it : ItK} {n : Nat} {hc : Bool} {cc elt : E} {ds : List D} {cnd : Prop} (xs : List α) (g f : α → D) (p : α → Bool) (hx : itX it ds = some (cnd, xs.map g)) (hcnd : cnd) (hnb : nbrs ((⟨l, k⟩ : St).shd n ds).k own = true) (htn : tg.names.all (fun i => own.contains i) = true) (hl : xs.length ≤ sizeLine)
    (hb : ∀ x ∈ xs, ∀ (as : List D) (P : St → Prop), as.length < sizeLine → P ⟨emps (frz l (k.take n)) own, .ow (.lst (if p x = true then as ++ [f x] else as)) :: (hids (frz l (k.take n)) own ++ (ds.reverse.map Slot.sh ++ k.drop n))⟩ →
      WB C own tg hc cc elt (hids (frz l (k.take n)) own ++ (ds.reverse.map Slot.sh ++ k.drop n)) (g x) ⟨emps (frz l (k.take n)) own, .ow (.lst as) :: (hids (frz l (k.take n)) own ++ (ds.reverse.map Slot.sh ++ k.drop n))⟩ P)
    (q : Q ⟨unhid (emps (frz l (k.take n)) own) own (hids (frz l (k.take n)) own), .ow (.lst ((xs.filter p).map f)) :: k.drop n⟩) : LK C own tg it n hc cc elt Q l k ds :=
  ⟨cnd, xs.map g, hx, hcnd, hnb, htn, wcomp_filT g f p xs [] (by simpa using hl) hb ⟨_, rfl, q⟩⟩
theorem lk_mapT {α : Type} {own : List Nat} {tg : T} {it : ItK} {n : Nat} {hc : Bool} {cc elt : E} {ds : List D} {cnd : Prop} (xs : List α) (g f : α → D) (hx : itX it ds = some (cnd, xs.map g)) (hcnd : cnd) (hnb : nbrs ((⟨l, k⟩ : St).shd n ds).k own = true) (htn : tg.names.all (fun i => own.contains i) = true) (hl : xs.length ≤ sizeLine)
    (hb : ∀ x ∈ xs, ∀ (as : List D) (P : St → Prop), as.length < sizeLine → P ⟨emps (frz l (k.take n)) own, .ow (.lst (as ++ [f x])) :: (hids (frz l (k.take n)) own ++ (ds.reverse.map Slot.sh ++ k.drop n))⟩ →
      WB C own tg hc cc elt (hids (frz l (k.take n)) own ++ (ds.reverse.map Slot.sh ++ k.drop n)) (g x) ⟨emps (frz l (k.take n)) own, .ow (.lst as) :: (hids (frz l (k.take n)) own ++ (ds.reverse.map Slot.sh ++ k.drop n))⟩ P)
    (q : Q ⟨unhid (emps (frz l (k.take n)) own) own (hids (frz l (k.take n)) own), .ow (.lst (xs.map f)) :: k.drop n⟩) : LK C own tg it n hc cc elt Q l k ds :=
  lk_filT xs g f (fun _ => true) hx hcnd hnb htn hl (fun x hx as P ha hP => hb x hx as P ha (by rw [if_pos rfl] at hP; exact hP)) (by rw [List.filter_eq_self.mpr fun _ _ => rfl]; exact q)
theorem lkb_filT {α : Type} {own : List Nat} {tg : T} {i : Nat} {hc : Bool} {cc elt : E} (xs : List α) (g f : α → D) (p : α → Bool) (hni : own.contains i = false) (hnb : nbrs k own = true) (htn : tg.names.all (fun i => own.contains i) = true) (hl : xs.length ≤ sizeLine) (hli : (emps l own)[i]? = some (.ow (.lst (xs.map g))))
    (hb : ∀ x ∈ xs, ∀ (as : List D) (P : St → Prop), as.length < sizeLine → P ⟨emps l own, .ow (.lst (if p x = true then as ++ [f x] else as)) :: (hids l own ++ (.br i :: k))⟩ → WB C own tg hc cc elt (hids l own ++ (.br i :: k)) (g x) ⟨emps l own, .ow (.lst as) :: (hids l own ++ (.br i :: k))⟩ P)
    (q : Q ⟨unhid (emps l own) own (hids l own), .ow (.lst ((xs.filter p).map f)) :: k⟩) : LKB C own tg i hc cc elt Q l k (xs.map g) := by
  refine ⟨hni, hnb, htn, ?_⟩
  have key : ∀ (items : List α) (acc : List D), (∀ x ∈ items, x ∈ xs) → acc.length + items.length ≤ sizeLine → Q ⟨unhid (emps l own) own (hids l own), .ow (.lst (acc ++ (items.filter p).map f)) :: k⟩ →
      wcomp (wbodyB C own tg hc cc elt i (xs.map g) (hids l own ++ (.br i :: k))) (items.map g) ⟨emps l own, .ow (.lst acc) :: (hids l own ++ (.br i :: k))⟩ (wfinB Q own i (xs.map g) (hids l own ++ (.br i :: k)) (hids l own) k) := by
    intro items
    induction items with
    | nil =>
      intro acc _ _ q
      rw [List.filter_nil, List.map_nil, List.append_nil] at q
      exact ⟨acc, ⟨rfl, hli⟩, q⟩
    | cons x items ih =>
      intro acc hm hz q
      rw [List.length_cons] at hz
      refine ⟨⟨⟨acc, rfl⟩, hli⟩, ?_⟩
      refine (hb x (hm x List.mem_cons_self) acc (fun s1 => wcomp (wbodyB C own tg hc cc elt i (xs.map g) (hids l own ++ (.br i :: k))) (items.map g) s1 (wfinB Q own i (xs.map g) (hids l own ++ (.br i :: k)) (hids l own) k)) (by omega) ?_).2
      show wcomp _ (items.map g) _ _
      cases hp : p x with
      | true =>
        rw [if_pos rfl]
        refine ih (acc ++ [f x]) (fun y hy => hm y (List.mem_cons_of_mem _ hy)) (by rw [List.length_append, List.length_singleton]; omega) ?_
        rw [List.append_assoc]
        rw [List.filter_cons, if_pos hp] at q
        exact q
      | false =>
        rw [if_neg (by simp)]
        refine ih acc (fun y hy => hm y (List.mem_cons_of_mem _ hy)) (by omega) ?_
        rw [List.filter_cons, if_neg (by simp [hp])] at q
        exact q
  exact key xs [] (fun _ h => h) (by simpa using hl) q
/-- a loop over the g x of some xs, with an invariant of what is done and the locals -/
theorem fk_anyT {α : Type} {N : En} {it : ItK} {n : Nat} {tg : T} {body : S} {ds : List D} {cnd : Prop} (xs : List α) (g : α → D) (I : List α → List Slot → Prop) (hx : itX it ds = some (cnd, xs.map g)) (hcnd : cnd) (hnb : nbrs ((⟨l, k⟩ : St).shd n ds).k tg.names = true) (hdn : ds.length = n) (i0 : I [] (frz l (k.take n)))
    (hb : ∀ pre x post, xs = pre ++ x :: post → ∀ l, I pre l → ∀ K Bk : St → Prop, (∀ l', I (pre ++ [x]) l' → K ⟨l', ds.reverse.map Slot.sh ++ k.drop n⟩) → WF C tg body (ds.reverse.map Slot.sh ++ k.drop n) (g x) ⟨l, ds.reverse.map Slot.sh ++ k.drop n⟩ ⟨K, N.rt, Bk, K, N.ex⟩)
    (q : ∀ l, I xs l → N.nx ⟨l, k.drop n⟩) : FK C it n tg body N l k ds := by
  refine fk_any (fun pre l => ∃ ys post, xs = ys ++ post ∧ pre = ys.map g ∧ I ys l) hx hcnd hnb hdn ⟨[], xs, rfl, rfl, i0⟩ (fun pre x post e l ⟨ys, zs, e1, e2, hi⟩ K Bk hK => ?_) (fun l ⟨ys, zs, e1, e2, hi⟩ => ?_)
  · subst e2
    rw [e1, List.map_append] at e
    have e3 := List.append_cancel_left e
    cases zs with
    | nil => cases e3
    | cons z zs =>
      rw [List.map_cons] at e3
      injection e3 with e4 e5
      subst e4
      refine hb ys z zs e1 l hi K Bk fun l' hi' => hK l' ⟨ys ++ [z], zs, by rw [e1, List.append_assoc]; rfl, by rw [List.map_append]; rfl, hi'⟩
  · have e3 : xs.length = ys.length := by
      have := congrArg List.length e2
      simpa using this
    have e4 : zs = [] := by
      have := congrArg List.length e1
      rw [List.length_append] at this
      exact List.length_eq_zero_iff.mp (by omega)
    subst e4
    rw [List.append_nil] at e1
    subst e1
    exact q l hi
end
end DP

set_option linter.all false
set_option maxRecDepth 100000
/-! G0: ranks of lots, as tests of ties below m. -/
namespace DP.Mx
abbrev Lo := Nat → Bool
def cnt (m : Nat) (p : Lo) : Nat := (List.range m).countP p
def ins (p : Lo) (t : Nat) : Lo := fun i => i == t || p i
def rem (p : Lo) (t : Nat) : Lo := fun i => !(i == t) && p i
def cut (p q : Lo) : Lo := fun i => p i && q i
def uni (p q : Lo) : Lo := fun i => p i || q i
def com (p : Lo) : Lo := fun i => !p i
def emp : Lo := fun _ => false
def all : Lo := fun _ => true
def Sub (m : Nat) (p q : Lo) : Prop := ∀ i, i < m → p i = true → q i = true
def Same (m : Nat) (p q : Lo) : Prop := ∀ i, i < m → p i = q i
theorem Sub.refl {m : Nat} {p : Lo} : Sub m p p := fun _ _ h => h
theorem Sub.trans {m : Nat} {p q s : Lo} (a : Sub m p q) (b : Sub m q s) : Sub m p s := fun i hi h => b i hi (a i hi h)
theorem Sub.anti {m : Nat} {p q : Lo} (a : Sub m p q) (b : Sub m q p) : Same m p q := fun i hi => Bool.eq_iff_iff.mpr ⟨a i hi, b i hi⟩
theorem Same.sub {m : Nat} {p q : Lo} (a : Same m p q) : Sub m p q := fun i hi h => by rw [← a i hi]; exact h
theorem Same.symm {m : Nat} {p q : Lo} (a : Same m p q) : Same m q p := fun i hi => (a i hi).symm
theorem Same.trans {m : Nat} {p q s : Lo} (a : Same m p q) (b : Same m q s) : Same m p s := fun i hi => (a i hi).trans (b i hi)
theorem cnt_same {m : Nat} {p q : Lo} (h : Same m p q) : cnt m p = cnt m q := by
  unfold cnt
  exact List.countP_congr fun x hx => by rw [h x (List.mem_range.mp hx)]
theorem cnt_sub {m : Nat} {p q : Lo} (h : Sub m p q) : cnt m p ≤ cnt m q := by
  unfold cnt
  exact List.countP_mono_left fun x hx hp => h x (List.mem_range.mp hx) hp
theorem cnt_succ {m : Nat} {p : Lo} : cnt (m + 1) p = cnt m p + if p m = true then 1 else 0 := by
  unfold cnt
  rw [List.range_succ, List.countP_append, List.countP_singleton]
theorem cnt_ins {m t : Nat} {p : Lo} (ht : t < m) (hp : p t = false) : cnt m (ins p t) = cnt m p + 1 := by
  induction m with
  | zero => omega
  | succ m ih =>
    rw [cnt_succ, cnt_succ]
    by_cases e : t = m
    · subst e
      have h1 : Same t (ins p t) p := fun i hi => by unfold ins; simp; omega
      rw [cnt_same h1, hp]
      simp [ins]
    · rw [ih (by omega)]
      have : ins p t m = p m := by unfold ins; simp; omega
      rw [this]; omega
theorem ins_same {m t : Nat} {p : Lo} (h : p t = true ∨ m ≤ t) : Same m (ins p t) p := fun i hi => by
  unfold ins
  by_cases e : i = t
  · subst e
    rcases h with h | h
    · simp [h]
    · omega
  · simp [e]
theorem cnt_rem {m t : Nat} {p : Lo} (ht : t < m) (hp : p t = true) : cnt m p = cnt m (rem p t) + 1 := by
  rw [← cnt_ins (p := rem p t) ht (by simp [rem])]
  refine cnt_same fun i hi => ?_
  by_cases e : i = t
  · subst e; simp [ins, hp]
  · have e2 : (i == t) = false := by simp [e]
    simp [ins, rem, e2]
theorem cnt_emp {m : Nat} : cnt m emp = 0 := by unfold cnt emp; simp
theorem cnt_all {m : Nat} : cnt m all = m := by unfold cnt all; simp
theorem cnt_com {m : Nat} {p : Lo} : cnt m p + cnt m (com p) = m := by
  induction m with
  | zero => rfl
  | succ m ih => rw [cnt_succ, cnt_succ]; unfold com at *; cases p m <;> simp <;> omega
theorem cnt_uni {m : Nat} {p q : Lo} : cnt m (uni p q) + cnt m (cut p q) = cnt m p + cnt m q := by
  induction m with
  | zero => rfl
  | succ m ih => rw [cnt_succ, cnt_succ, cnt_succ, cnt_succ]; unfold uni cut at *; cases p m <;> cases q m <;> simp <;> omega
theorem cnt_diff {m : Nat} {p q : Lo} : cnt m p = cnt m (cut p q) + cnt m (cut p (com q)) := by
  induction m with
  | zero => rfl
  | succ m ih => rw [cnt_succ, cnt_succ, cnt_succ]; unfold cut com at *; cases p m <;> cases q m <;> simp <;> omega
theorem cnt_pos {m : Nat} {p : Lo} (h : 0 < cnt m p) : ∃ i, i < m ∧ p i = true := by
  unfold cnt at h
  obtain ⟨x, hx, hp⟩ := List.countP_pos_iff.mp h
  exact ⟨x, List.mem_range.mp hx, hp⟩
theorem cnt_zero {m : Nat} {p : Lo} (h : cnt m p = 0) {i : Nat} (hi : i < m) : p i = false := by
  unfold cnt at h
  have := List.countP_eq_zero.mp h i (List.mem_range.mpr hi)
  simpa using this
theorem cnt_lt {m : Nat} {p q : Lo} (h : cnt m p < cnt m q) : ∃ i, i < m ∧ q i = true ∧ p i = false := by
  have e1 := cnt_diff (m := m) (p := q) (q := p)
  have e2 : cnt m (cut q p) ≤ cnt m p := cnt_sub fun i hi hh => by unfold cut at hh; simp at hh; exact hh.2
  obtain ⟨i, hi, hp⟩ := cnt_pos (p := cut q (com p)) (m := m) (by omega)
  unfold cut com at hp
  simp at hp
  exact ⟨i, hi, hp.1, hp.2⟩
theorem same_of {m : Nat} {p q : Lo} (h : Sub m p q) (hc : cnt m q ≤ cnt m p) : Same m p q := fun i hi => by
  cases hp : p i with
  | true => exact (h i hi hp).symm
  | false =>
    cases hq : q i with
    | false => rfl
    | true =>
      have h2 : Sub m (ins p i) q := fun j hj hh => by
        unfold ins at hh
        simp at hh
        rcases hh with rfl | hh
        · exact hq
        · exact h j hj hh
      have := cnt_sub h2
      rw [cnt_ins hi hp] at this
      omega
/-- a rank of lots of ties below m -/
structure Mat (m : Nat) (r : Lo → Nat) : Prop where
  ext : ∀ p q, Same m p q → r p = r q
  emp : r emp = 0
  up : ∀ p t, r p ≤ r (ins p t)
  one : ∀ p t, r (ins p t) ≤ r p + 1
  loc : ∀ p q t, Sub m p q → r (ins p t) = r p → r (ins q t) = r q
/-- p and the members of q below k -/
def upto (p q : Lo) (k : Nat) : Lo := fun i => p i || (decide (i < k) && q i)
theorem upto_zero {p q : Lo} : upto p q 0 = p := by funext i; simp [upto]
theorem upto_succ {p q : Lo} {k : Nat} : upto p q (k + 1) = if q k = true then ins (upto p q k) k else upto p q k := by
  funext i
  by_cases hq : q k = true
  · rw [if_pos hq]
    unfold upto ins
    by_cases e : i = k
    · subst e; simp [hq]
    · have : decide (i < k + 1) = decide (i < k) := by simp; omega
      simp [this, e]
  · rw [if_neg hq]
    unfold upto
    by_cases e : i = k
    · subst e; simp at hq; simp [hq]
    · have : decide (i < k + 1) = decide (i < k) := by simp; omega
      simp [this]
theorem upto_all {m : Nat} {p q : Lo} : Same m (upto p q m) (uni p q) := fun i hi => by simp [upto, uni, hi]
theorem uni_sub {m : Nat} {p q : Lo} (h : Sub m p q) : Same m (uni p q) q := fun i hi => by
  unfold uni
  cases hp : p i with
  | true => rw [h i hi hp]; rfl
  | false => rfl
section
variable {m : Nat} {r : Lo → Nat} (M : Mat m r)
include M
theorem Mat.mono {p q : Lo} (h : Sub m p q) : r p ≤ r q := by
  have key : ∀ k, r p ≤ r (upto p q k) := fun k => by
    induction k with
    | zero => rw [upto_zero]; exact Nat.le_refl _
    | succ k ih =>
      rw [upto_succ]
      split
      · exact Nat.le_trans ih (M.up _ _)
      · exact ih
  have := key m
  rwa [M.ext _ _ (upto_all.trans (uni_sub h))] at this
theorem Mat.le_cnt (p : Lo) : r p ≤ cnt m p := by
  have key : ∀ k, k ≤ m → r (upto Mx.emp p k) ≤ cnt k p := fun k => by
    induction k with
    | zero => intro _; rw [upto_zero, M.emp]; exact Nat.zero_le _
    | succ k ih =>
      intro hk
      rw [upto_succ, cnt_succ]
      have := ih (by omega)
      split
      · have := M.one (upto Mx.emp p k) k; omega
      · omega
  have := key m (Nat.le_refl _)
  rw [M.ext _ p (upto_all.trans fun i _ => by simp [uni, Mx.emp])] at this
  exact this
theorem Mat.top (p : Lo) : r p ≤ r Mx.all := M.mono fun _ _ _ => rfl
/-- what is spanned one by one is spanned together -/
theorem Mat.span {p q : Lo} (h : ∀ t, t < m → q t = true → r (ins p t) = r p) : r (uni p q) = r p := by
  have key : ∀ k, k ≤ m → r (upto p q k) = r p := fun k => by
    induction k with
    | zero => intro _; rw [upto_zero]
    | succ k ih =>
      intro hk
      rw [upto_succ]
      split
      · rename_i hq
        rw [M.loc p (upto p q k) k (fun i _ hi => by simp [upto, hi]) (h k (by omega) hq)]
        exact ih (by omega)
      · exact ih (by omega)
  rw [← key m (Nat.le_refl _)]
  exact M.ext _ _ upto_all.symm
/-- a lot of less rank can be joined by a tie of the greater -/
theorem Mat.aug {p q : Lo} (h : r p < r q) : ∃ t, t < m ∧ q t = true ∧ p t = false ∧ r (ins p t) = r p + 1 := by
  apply Classical.byContradiction
  intro hn
  have : r (uni p q) = r p := M.span fun t ht hq => by
    apply Classical.byContradiction
    intro he
    have h1 := M.up p t
    have h2 := M.one p t
    have hpt : p t = false := by
      cases hp : p t with
      | false => rfl
      | true => exact absurd (M.ext _ _ (ins_same (.inl hp))) he
    exact hn ⟨t, ht, hq, hpt, by omega⟩
  have h3 := M.mono (p := q) (q := uni p q) fun i _ hi => by simp [uni, hi]
  omega
/-- lots without a ring within -/
def Mat.Ind (_ : Mat m r) (p : Lo) : Prop := r p = cnt m p
theorem Mat.ind_sub {p q : Lo} (hq : M.Ind q) (h : Sub m p q) : M.Ind p := by
  unfold Mat.Ind at *
  have key : ∀ k, k ≤ m → r (upto p q k) ≤ r p + (cnt m (upto p q k) - cnt m p) ∧ cnt m p ≤ cnt m (upto p q k) := fun k => by
    induction k with
    | zero => intro _; rw [upto_zero]; omega
    | succ k ih =>
      intro hk
      obtain ⟨h1, h2⟩ := ih (by omega)
      rw [upto_succ]
      split
      · cases hu : upto p q k k with
        | true =>
          have := M.ext _ _ (ins_same (m := m) (p := upto p q k) (.inl hu))
          have h3 := cnt_same (ins_same (m := m) (p := upto p q k) (.inl hu))
          omega
        | false =>
          have h3 := cnt_ins (m := m) (by omega) hu
          have := M.one (upto p q k) k
          omega
      · exact ⟨h1, h2⟩
  obtain ⟨h1, h2⟩ := key m (Nat.le_refl _)
  have e := (upto_all (m := m) (p := p) (q := q)).trans (uni_sub h)
  rw [M.ext _ _ e, cnt_same e] at h1
  rw [cnt_same e] at h2
  have := M.le_cnt p
  omega
theorem Mat.ind_ins {p : Lo} {t : Nat} (ht : t < m) (hp : M.Ind p) (hn : p t = false) (h : r (ins p t) = r p + 1) : M.Ind (ins p t) := by
  unfold Mat.Ind at *
  rw [h, hp, cnt_ins ht hn]
/-- .. grown within q to the rank of q -/
theorem Mat.grow {p q : Lo} (hp : M.Ind p) (h : Sub m p q) : ∃ b, Sub m p b ∧ Sub m b q ∧ M.Ind b ∧ r b = r q := by
  have key : ∀ n p, M.Ind p → Sub m p q → r q - r p ≤ n → ∃ b, Sub m p b ∧ Sub m b q ∧ M.Ind b ∧ r b = r q := fun n => by
    induction n with
    | zero =>
      intro p hp h hl
      exact ⟨p, .refl, h, hp, by have := M.mono h; omega⟩
    | succ n ih =>
      intro p hp h hl
      by_cases e : r p = r q
      · exact ⟨p, .refl, h, hp, e⟩
      · have h1 := M.mono h
        obtain ⟨t, ht, hq, hpt, hr⟩ := M.aug (p := p) (q := q) (by omega)
        obtain ⟨b, b1, b2, b3, b4⟩ := ih (ins p t) (M.ind_ins ht hp hpt hr) (fun i hi hh => by
          unfold ins at hh
          simp at hh
          rcases hh with rfl | hh
          · exact hq
          · exact h i hi hh) (by omega)
        exact ⟨b, fun i hi hh => b1 i hi (by simp [ins, hh]), b2, b3, b4⟩
  exact key _ p hp h (Nat.le_refl _)
theorem Mat.ind_emp : M.Ind Mx.emp := by unfold Mat.Ind; rw [M.emp, cnt_emp]
theorem Mat.sub_mod {p q : Lo} : r (uni p q) + r (cut p q) ≤ r p + r q := by
  have key : ∀ k, k ≤ m → r (upto p q k) + r (cut p q) ≤ r p + r (upto (cut p q) q k) := fun k => by
    induction k with
    | zero => intro _; rw [upto_zero, upto_zero]; omega
    | succ k ih =>
      intro hk
      have h := ih (by omega)
      rw [upto_succ, upto_succ]
      split
      · have h1 := M.one (upto p q k) k
        have h2 := M.up (upto (cut p q) q k) k
        by_cases e : r (ins (upto (cut p q) q k) k) = r (upto (cut p q) q k)
        · have := M.loc (upto (cut p q) q k) (upto p q k) k (fun i _ hi => by
            unfold upto cut at hi
            unfold upto
            simp at hi ⊢
            rcases hi with hi | hi
            · exact .inl hi.1
            · exact .inr hi) e
          omega
        · omega
      · exact h
  have := key m (Nat.le_refl _)
  rw [M.ext _ _ upto_all, M.ext (upto (cut p q) q m) q (upto_all.trans (uni_sub fun i _ hi => by simp [cut] at hi; exact hi.2))] at this
  exact this
end
end DP.Mx

set_option linter.all false
set_option maxRecDepth 100000
/-! G1: names of pieces, ranks of lots of ties. -/
namespace DP.L
open DP.Mx
def InR (n : Int) (p : Int × Int) : Prop := 0 ≤ p.1 ∧ p.1 < n ∧ 0 ≤ p.2 ∧ p.2 < n
def nameStep (names : List Int) (p : Int × Int) : List Int :=
  let x := names.getD p.1.toNat 0
  let y := names.getD p.2.toNat 0
  names.map fun z => if z = (if y > x then y else x) then (if y < x then y else x) else z
def namesF (n : Int) (ps : List (Int × Int)) : List Int := ps.foldl nameStep ((List.range n.toNat).map Int.ofNat)
def dedup (xs : List Int) : List Int := xs.foldl (fun acc x => if acc.contains x then acc else acc ++ [x]) []
def pick (ts : List (Int × Int)) (l : List Int) : List (Int × Int) := l.map fun i => ts.getD i.toNat (0, 0)
def rankF (n : Int) (ts : List (Int × Int)) (l : List Int) : Int := n - (dedup (namesF n (pick ts l))).length
def allF (m : Nat) : List Int := (List.range m).map Int.ofNat
/-! ### places joined by pairs -/
inductive Cn (ps : List (Int × Int)) : Int → Int → Prop where
  | refl (i : Int) : Cn ps i i
  | step {i : Int} {p : Int × Int} (h : p ∈ ps) (c : Cn ps i p.1) : Cn ps i p.2
  | back {i : Int} {p : Int × Int} (h : p ∈ ps) (c : Cn ps i p.2) : Cn ps i p.1
theorem Cn.trans {ps : List (Int × Int)} {i j k : Int} (a : Cn ps i j) (b : Cn ps j k) : Cn ps i k := by
  induction b with
  | refl => exact a
  | step h _ ih => exact .step h ih
  | back h _ ih => exact .back h ih
theorem Cn.of {ps : List (Int × Int)} {p : Int × Int} (h : p ∈ ps) : Cn ps p.1 p.2 := .step h (.refl _)
theorem Cn.symm {ps : List (Int × Int)} {i j : Int} (a : Cn ps i j) : Cn ps j i := by
  induction a with
  | refl => exact .refl _
  | step h _ ih => exact Cn.trans (.back h (.refl _)) ih
  | back h _ ih => exact Cn.trans (.step h (.refl _)) ih
theorem Cn.mono {ps qs : List (Int × Int)} (h : ∀ p ∈ ps, p ∈ qs) {i j : Int} (a : Cn ps i j) : Cn qs i j := by
  induction a with
  | refl => exact .refl _
  | step h' _ ih => exact .step (h _ h') ih
  | back h' _ ih => exact .back (h _ h') ih
theorem Cn.nil {i j : Int} (a : Cn [] i j) : i = j := by
  induction a with
  | refl => rfl
  | step h => cases h
  | back h => cases h
/-- what one pair more joins -/
theorem Cn.snoc {ps : List (Int × Int)} {p : Int × Int} {i j : Int} : Cn (ps ++ [p]) i j ↔ Cn ps i j ∨ (Cn ps i p.1 ∧ Cn ps p.2 j) ∨ (Cn ps i p.2 ∧ Cn ps p.1 j) := by
  constructor
  · intro a
    induction a with
    | refl => exact .inl (.refl _)
    | step h _ ih =>
      rename_i q _
      rcases List.mem_append.mp h with h | h
      · rcases ih with ih | ih | ih
        · exact .inl (.step h ih)
        · exact .inr (.inl ⟨ih.1, .step h ih.2⟩)
        · exact .inr (.inr ⟨ih.1, .step h ih.2⟩)
      · obtain rfl := List.mem_singleton.mp h
        rcases ih with ih | ih | ih
        · exact .inr (.inl ⟨ih, .refl _⟩)
        · exact .inr (.inl ⟨ih.1, .refl _⟩)
        · exact .inl ih.1
    | back h _ ih =>
      rename_i q _
      rcases List.mem_append.mp h with h | h
      · rcases ih with ih | ih | ih
        · exact .inl (.back h ih)
        · exact .inr (.inl ⟨ih.1, .back h ih.2⟩)
        · exact .inr (.inr ⟨ih.1, .back h ih.2⟩)
      · obtain rfl := List.mem_singleton.mp h
        rcases ih with ih | ih | ih
        · exact .inr (.inr ⟨ih, .refl _⟩)
        · exact .inl ih.1
        · exact .inr (.inr ⟨ih.1, .refl _⟩)
  · have m : ∀ {i j}, Cn ps i j → Cn (ps ++ [p]) i j := fun c => c.mono fun q hq => List.mem_append_left _ hq
    have e : Cn (ps ++ [p]) p.1 p.2 := .of (List.mem_append_right _ List.mem_cons_self)
    rintro (a | a | a)
    · exact m a
    · exact (m a.1).trans (e.trans (m a.2))
    · exact (m a.1).trans (e.symm.trans (m a.2))
/-! ### how many unlike names -/
theorem gdedup_snoc (xs : List Int) (x : Int) : dedup (xs ++ [x]) = if (dedup xs).contains x then dedup xs else dedup xs ++ [x] := by
  unfold dedup
  rw [List.foldl_append]
  rfl
theorem gsnoc_ind {α : Type} {P : List α → Prop} (h0 : P []) (h1 : ∀ l x, P l → P (l ++ [x])) (l : List α) : P l := by
  have key : ∀ n, ∀ l : List α, l.length = n → P l := fun n => by
    induction n with
    | zero => intro l hl; rw [List.length_eq_zero_iff.mp hl]; exact h0
    | succ n ih =>
      intro l hl
      have hne : l ≠ [] := fun e => by rw [e] at hl; cases hl
      rw [← List.dropLast_concat_getLast hne]
      exact h1 _ _ (ih _ (by rw [List.length_dropLast, hl]; rfl))
  exact key _ l rfl
theorem gmem_dedup' (xs : List Int) : ∀ x, x ∈ dedup xs ↔ x ∈ xs := by
  induction xs using gsnoc_ind with
  | h0 => exact fun _ => Iff.rfl
  | h1 l y ih =>
    intro x
    rw [gdedup_snoc]
    split
    · rename_i h
      rw [List.mem_append, List.mem_singleton, ih]
      refine ⟨.inl, fun h2 => h2.elim id fun e => ?_⟩
      rw [e]
      simp only [List.contains_iff_mem] at h
      exact (ih y).mp h
    · simp [ih]
theorem gmem_dedup {xs : List Int} {x : Int} : x ∈ dedup xs ↔ x ∈ xs := gmem_dedup' xs x
/-- the places at which a name stands for the first time -/
def firsts (n : Nat) (f : Nat → Int) : Nat := (List.range n).countP fun i => (List.range i).all fun j => !(f j == f i)
theorem firsts_succ {n : Nat} {f : Nat → Int} : firsts (n + 1) f = firsts n f + if (List.range n).all (fun j => !(f j == f n)) = true then 1 else 0 := by
  unfold firsts
  rw [List.range_succ, List.countP_append, List.countP_singleton]
theorem gdedup_len : ∀ (xs : List Int), (dedup xs).length = firsts xs.length fun i => xs.getD i 0 := by
  intro xs
  induction xs using gsnoc_ind with
  | h0 => rfl
  | h1 l y ih =>
    have e1 : firsts l.length (fun i => (l ++ [y]).getD i 0) = firsts l.length fun i => l.getD i 0 := by
      unfold firsts
      refine List.countP_congr fun i hi => ?_
      have hi := List.mem_range.mp hi
      have ge : ∀ j, j < l.length → (l ++ [y]).getD j 0 = l.getD j 0 := fun j hj => by simp [List.getD, List.getElem?_append, hj]
      simp only [List.all_eq_true, List.mem_range]
      constructor
      · intro h j hj; have := h j hj; rwa [ge j (by omega), ge i hi] at this
      · intro h j hj; have := h j hj; rwa [ge j (by omega), ge i hi]
    have e2 : (l ++ [y]).getD l.length 0 = y := by simp [List.getD]
    rw [gdedup_snoc, List.length_append, List.length_singleton, firsts_succ, e1, ← ih]
    by_cases h : y ∈ l
    · have h1 : (dedup l).contains y = true := by rw [List.contains_iff_mem]; exact gmem_dedup.mpr h
      rw [if_pos h1]
      have : ¬ ((List.range l.length).all (fun j => !((l ++ [y]).getD j 0 == (l ++ [y]).getD l.length 0)) = true) := by
        intro hh
        obtain ⟨i, hi, e⟩ := List.mem_iff_getElem.mp h
        have := List.all_eq_true.mp hh i (List.mem_range.mpr hi)
        rw [e2] at this
        simp [List.getD, List.getElem?_append, hi, e] at this
      rw [if_neg this, Nat.add_zero]
    · have h1 : ¬ ((dedup l).contains y = true) := by rw [List.contains_iff_mem, gmem_dedup]; exact h
      rw [if_neg h1]
      have : (List.range l.length).all (fun j => !((l ++ [y]).getD j 0 == (l ++ [y]).getD l.length 0)) = true := by
        refine List.all_eq_true.mpr fun i hi => ?_
        have hi := List.mem_range.mp hi
        rw [e2]
        simp [List.getD, List.getElem?_append, hi]
        intro e
        exact h (List.mem_of_getElem (h := hi) e)
      rw [if_pos this, List.length_append, List.length_singleton]
theorem firsts_congr {n : Nat} {f g : Nat → Int} (h : ∀ i j, i < n → j < n → (f i = f j ↔ g i = g j)) : firsts n f = firsts n g := by
  unfold firsts
  refine List.countP_congr fun i hi => ?_
  have hi := List.mem_range.mp hi
  simp only [List.all_eq_true, List.mem_range, Bool.not_eq_true', beq_eq_false_iff_ne]
  constructor
  · intro hh j hj e; exact hh j hj ((h j i (by omega) hi).mpr e)
  · intro hh j hj e; exact hh j hj ((h j i (by omega) hi).mp e)
/-! ### the names -/
theorem gF_snoc {n : Int} {ps : List (Int × Int)} {p : Int × Int} : namesF n (ps ++ [p]) = nameStep (namesF n ps) p := by
  unfold namesF
  rw [List.foldl_append]
  rfl
theorem step_len {N : List Int} {p : Int × Int} : (nameStep N p).length = N.length := by unfold nameStep; rw [List.length_map]
theorem gF_len {n : Int} (ps : List (Int × Int)) : (namesF n ps).length = n.toNat := by
  induction ps using gsnoc_ind with
  | h0 => simp [namesF]
  | h1 l p ih => rw [gF_snoc, step_len, ih]
/-- merging two names -/
theorem merge_eq {x y z w : Int} : ((if z = (if y > x then y else x) then (if y < x then y else x) else z) = (if w = (if y > x then y else x) then (if y < x then y else x) else w)) ↔ (z = w ∨ (z = x ∧ w = y) ∨ (z = y ∧ w = x)) := by
  split <;> split <;> split <;> (try split) <;> omega
def nm (n : Int) (ps : List (Int × Int)) (i : Nat) : Int := (namesF n ps).getD i 0
theorem nm_step {n : Int} {ps : List (Int × Int)} {p : Int × Int} {i : Nat} (hi : i < n.toNat) : nm n (ps ++ [p]) i = (fun z => if z = (if nm n ps p.2.toNat > nm n ps p.1.toNat then nm n ps p.2.toNat else nm n ps p.1.toNat) then (if nm n ps p.2.toNat < nm n ps p.1.toNat then nm n ps p.2.toNat else nm n ps p.1.toNat) else z) (nm n ps i) := by
  unfold nm
  rw [gF_snoc]
  have hl := gF_len (n := n) ps
  unfold nameStep
  simp only [List.getD, List.getElem?_map, List.getElem?_eq_getElem (show i < (namesF n ps).length by omega), Option.map_some, Option.getD_some]
  rfl
/-- alike names exactly where pairs join -/
theorem nmG_iff {n : Int} {ps : List (Int × Int)} : (∀ p ∈ ps, InR n p) → ∀ i j : Nat, i < n.toNat → j < n.toNat → (nm n ps i = nm n ps j ↔ Cn ps i j) := by
  induction ps using gsnoc_ind with
  | h0 =>
    intro _ i j hi hj
    have e : ∀ k, k < n.toNat → nm n [] k = k := fun k hk => by simp [nm, namesF, List.getD, hk]
    rw [e i hi, e j hj]
    exact ⟨fun h => by rw [h]; exact .refl _, fun h => h.nil⟩
  | h1 l p ih =>
    intro hp i j hi hj
    have ih := ih fun q hq => hp q (List.mem_append_left _ hq)
    obtain ⟨p1, p2, p3, p4⟩ := hp p (List.mem_append_right _ List.mem_cons_self)
    have c1 : ((p.1.toNat : Nat) : Int) = p.1 := by omega
    have c2 : ((p.2.toNat : Nat) : Int) = p.2 := by omega
    have h1 : p.1.toNat < n.toNat := by omega
    have h2 : p.2.toNat < n.toNat := by omega
    rw [nm_step hi, nm_step hj, Cn.snoc]
    dsimp only
    rw [merge_eq, ih i j hi hj, ih i _ hi h1, ih i _ hi h2, ih j _ hj h1, ih j _ hj h2, c1, c2]
    constructor
    · rintro (a | a | a)
      · exact .inl a
      · exact .inr (.inl ⟨a.1, a.2.symm⟩)
      · exact .inr (.inr ⟨a.1, a.2.symm⟩)
    · rintro (a | a | a)
      · exact .inl a
      · exact .inr (.inl ⟨a.1, a.2.symm⟩)
      · exact .inr (.inr ⟨a.1, a.2.symm⟩)
/-- how many pieces -/
def pcs (n : Int) (ps : List (Int × Int)) : Nat := (dedup (namesF n ps)).length
theorem pcs_eq {n : Int} {ps : List (Int × Int)} : pcs n ps = firsts n.toNat (nm n ps) := by
  unfold pcs
  rw [gdedup_len, gF_len]
  rfl
theorem pcs_congr {n : Int} {ps qs : List (Int × Int)} (hp : ∀ p ∈ ps, InR n p) (hq : ∀ p ∈ qs, InR n p) (h : ∀ i j : Int, Cn ps i j ↔ Cn qs i j) : pcs n ps = pcs n qs := by
  rw [pcs_eq, pcs_eq]
  exact firsts_congr fun i j hi hj => by rw [nmG_iff hp i j hi hj, nmG_iff hq i j hi hj]; exact h _ _
/-- merging two unlike names takes one of them away -/
theorem firsts_le {n : Nat} {f : Nat → Int} : firsts n f ≤ n := by
  unfold firsts
  have := List.countP_le_length (p := fun i => (List.range i).all fun j => !(f j == f i)) (l := List.range n)
  rwa [List.length_range] at this
theorem firsts_merge {n : Nat} {f g : Nat → Int} {a b : Nat} (ha : a < n) (hb : b < n) (h : ∀ i j, i < n → j < n → (g i = g j ↔ (f i = f j ∨ (f i = f a ∧ f j = f b) ∨ (f i = f b ∧ f j = f a)))) (hn : f a ≠ f b) : firsts n f = firsts n g + 1 := by
  -- a0, b0: where both names stand for the first time
  have ex : ∀ c, c < n → ∃ c0, c0 < n ∧ f c0 = f c ∧ ∀ j, j < c0 → f j ≠ f c := by
    intro c
    induction c using Nat.strongRecOn with
    | _ c ih =>
      intro hc
      by_cases hh : ∃ j, j < c ∧ f j = f c
      · obtain ⟨j, hj, e⟩ := hh
        obtain ⟨c0, h1, h2, h3⟩ := ih j hj (by omega)
        exact ⟨c0, h1, h2.trans e, fun k hk => by rw [← e]; exact h3 k hk⟩
      · exact ⟨c, hc, rfl, fun j hj e => hh ⟨j, hj, e⟩⟩
  obtain ⟨a0, ha0, ea, ma⟩ := ex a ha
  obtain ⟨b0, hb0, eb, mb⟩ := ex b hb
  have key : ∀ a0 b0, a0 < b0 → a0 < n → b0 < n → (∀ j, j < b0 → f j ≠ f b0) → f a0 ≠ f b0 → (∀ i j, i < n → j < n → (g i = g j ↔ (f i = f j ∨ (f i = f a0 ∧ f j = f b0) ∨ (f i = f b0 ∧ f j = f a0)))) → firsts n f = firsts n g + 1 := by
    intro a0 b0 hab h1 h2 mb hn h
    have cf : ∀ k, k ≤ n → firsts k f = firsts k g + if b0 < k then 1 else 0 := by
      intro k
      induction k with
      | zero => intro _; rfl
      | succ k ih =>
        intro hk
        rw [firsts_succ, firsts_succ, ih (by omega)]
        by_cases e : k = b0
        · subst e
          have t1 : (List.range k).all (fun j => !(f j == f k)) = true := List.all_eq_true.mpr fun j hj => by
            have := mb j (List.mem_range.mp hj)
            simpa using this
          have t2 : ¬ ((List.range k).all (fun j => !(g j == g k)) = true) := fun hh => by
            have := List.all_eq_true.mp hh a0 (List.mem_range.mpr hab)
            have e2 : g a0 = g k := (h a0 k h1 h2).mpr (.inr (.inl ⟨rfl, rfl⟩))
            simp [e2] at this
          rw [if_pos t1, if_neg t2, if_neg (by omega), if_pos (by omega)]
        · have t : ((List.range k).all (fun j => !(f j == f k)) = true) ↔ ((List.range k).all (fun j => !(g j == g k)) = true) := by
            simp only [List.all_eq_true, List.mem_range, Bool.not_eq_true', beq_eq_false_iff_ne]
            constructor
            · intro hh j hj e2
              rcases (h j k (by omega) (by omega)).mp e2 with e3 | e3 | e3
              · exact hh j hj e3
              · -- f k = f b0: b0 is the first, so b0 < k
                have hbk : b0 < k := by
                  rcases Nat.lt_trichotomy b0 k with z | z | z
                  · exact z
                  · exact absurd z.symm e
                  · exact absurd e3.2 (mb k z)
                exact hh b0 hbk e3.2.symm
              · by_cases z : a0 < k
                · exact hh a0 z e3.2.symm
                · have hjb : ¬ j < b0 := fun q => mb j q e3.1
                  omega
            · intro hh j hj e2
              exact hh j hj ((h j k (by omega) (by omega)).mpr (.inl e2))
          have t' : (if (List.range k).all (fun j => !(f j == f k)) = true then 1 else 0) = if (List.range k).all (fun j => !(g j == g k)) = true then 1 else 0 := by
            by_cases z : (List.range k).all (fun j => !(f j == f k)) = true
            · rw [if_pos z, if_pos (t.mp z)]
            · rw [if_neg z, if_neg fun y => z (t.mpr y)]
          rw [t']
          by_cases z : b0 < k
          · rw [if_pos z, if_pos (show b0 < k + 1 by omega)]; omega
          · rw [if_neg z, if_neg (show ¬ b0 < k + 1 by omega)]; omega
    have := cf n (Nat.le_refl _)
    rwa [if_pos h2] at this
  have hne : a0 ≠ b0 := fun e => hn (by rw [← ea, ← eb, e])
  rcases Nat.lt_or_gt_of_ne hne with z | z
  · exact key a0 b0 z ha0 hb0 (fun j hj => by rw [eb]; exact mb j hj) (by rw [ea, eb]; exact hn) (by rw [ea, eb]; exact h)
  · refine key b0 a0 z hb0 ha0 (fun j hj => by rw [ea]; exact ma j hj) (by rw [ea, eb]; exact Ne.symm hn) fun i j hi hj => ?_
    rw [ea, eb, h i j hi hj]
    constructor
    · rintro (q | q | q)
      · exact .inl q
      · exact .inr (.inr q)
      · exact .inr (.inl q)
    · rintro (q | q | q)
      · exact .inl q
      · exact .inr (.inr q)
      · exact .inr (.inl q)
theorem pcs_snoc {n : Int} {ps : List (Int × Int)} {p : Int × Int} (hp : ∀ q ∈ ps ++ [p], InR n q) : (Cn ps p.1 p.2 → pcs n (ps ++ [p]) = pcs n ps) ∧ (¬ Cn ps p.1 p.2 → pcs n ps = pcs n (ps ++ [p]) + 1) := by
  have hp' : ∀ q ∈ ps, InR n q := fun q hq => hp q (List.mem_append_left _ hq)
  obtain ⟨p1, p2, p3, p4⟩ := hp p (List.mem_append_right _ List.mem_cons_self)
  have c1 : ((p.1.toNat : Nat) : Int) = p.1 := by omega
  have c2 : ((p.2.toNat : Nat) : Int) = p.2 := by omega
  have h1 : p.1.toNat < n.toNat := by omega
  have h2 : p.2.toNat < n.toNat := by omega
  constructor
  · intro hc
    refine pcs_congr hp hp' fun i j => ?_
    rw [Cn.snoc]
    exact ⟨fun h => h.elim id fun h => h.elim (fun h => h.1.trans (hc.trans h.2)) fun h => h.1.trans (hc.symm.trans h.2), .inl⟩
  · intro hc
    rw [pcs_eq, pcs_eq]
    refine firsts_merge (a := p.1.toNat) (b := p.2.toNat) h1 h2 (fun i j hi hj => ?_) fun e => hc ?_
    · rw [nmG_iff hp i j hi hj, nmG_iff hp' i j hi hj, nmG_iff hp' i _ hi h1, nmG_iff hp' i _ hi h2, nmG_iff hp' j _ hj h1, nmG_iff hp' j _ hj h2, Cn.snoc, c1, c2]
      constructor
      · rintro (a | a | a)
        · exact .inl a
        · exact .inr (.inl ⟨a.1, a.2.symm⟩)
        · exact .inr (.inr ⟨a.1, a.2.symm⟩)
      · rintro (a | a | a)
        · exact .inl a
        · exact .inr (.inl ⟨a.1, a.2.symm⟩)
        · exact .inr (.inr ⟨a.1, a.2.symm⟩)
    · have := (nmG_iff hp' _ _ h1 h2).mp e
      rwa [c1, c2] at this
theorem pcs_leG {n : Int} {ps : List (Int × Int)} : pcs n ps ≤ n.toNat := by rw [pcs_eq]; exact firsts_le
theorem pcs_nil {n : Int} : pcs n [] = n.toNat := by
  have : ∀ k, k ≤ n.toNat → firsts k (nm n []) = k := fun k => by
    induction k with
    | zero => intro _; rfl
    | succ k ih =>
      intro hk
      rw [firsts_succ, ih (by omega), if_pos]
      have e : ∀ k, k < n.toNat → nm n [] k = k := fun k hk => by simp [nm, namesF, List.getD, hk]
      refine List.all_eq_true.mpr fun j hj => ?_
      have := List.mem_range.mp hj
      rw [e j (by omega), e k (by omega)]
      simp
      omega
  rw [pcs_eq, this _ (Nat.le_refl _)]
/-! ### the rank of a lot -/
/-- the ties of a lot, as pairs -/
def prs (ts : List (Int × Int)) (p : Lo) : List (Int × Int) := ((List.range ts.length).filter p).map fun i => ts.getD i (0, 0)
def rk (n : Int) (ts : List (Int × Int)) (p : Lo) : Nat := n.toNat - pcs n (prs ts p)
theorem mem_prs {ts : List (Int × Int)} {p : Lo} {q : Int × Int} : q ∈ prs ts p ↔ ∃ i, i < ts.length ∧ p i = true ∧ ts.getD i (0, 0) = q := by
  unfold prs
  rw [List.mem_map]
  constructor
  · rintro ⟨i, hi, e⟩
    obtain ⟨h1, h2⟩ := List.mem_filter.mp hi
    exact ⟨i, List.mem_range.mp h1, h2, e⟩
  · rintro ⟨i, h1, h2, e⟩
    exact ⟨i, List.mem_filter.mpr ⟨List.mem_range.mpr h1, h2⟩, e⟩
theorem getD_mem {ts : List (Int × Int)} {i : Nat} (h : i < ts.length) : ts.getD i (0, 0) ∈ ts := by
  rw [List.getD, List.getElem?_eq_getElem h]
  exact List.getElem_mem h
theorem prs_in {n : Int} {ts : List (Int × Int)} (ht : ∀ p ∈ ts, InR n p) {p : Lo} : ∀ q ∈ prs ts p, InR n q := fun q hq => by
  obtain ⟨i, h1, _, e⟩ := mem_prs.mp hq
  rw [← e]
  exact ht _ (getD_mem h1)
theorem prs_same {ts : List (Int × Int)} {p q : Lo} (h : Same ts.length p q) : prs ts p = prs ts q := by
  unfold prs
  congr 1
  exact List.filter_congr fun i hi => h i (List.mem_range.mp hi)
/-- joined by the ties of a lot -/
def Jn (ts : List (Int × Int)) (p : Lo) (i j : Int) : Prop := Cn (prs ts p) i j
theorem Jn.mono {ts : List (Int × Int)} {p q : Lo} (h : Sub ts.length p q) {i j : Int} (a : Jn ts p i j) : Jn ts q i j :=
  Cn.mono (fun x hx => by
    obtain ⟨k, h1, h2, e⟩ := mem_prs.mp hx
    exact mem_prs.mpr ⟨k, h1, h k h1 h2, e⟩) a
theorem rk_ins {n : Int} {ts : List (Int × Int)} (ht : ∀ p ∈ ts, InR n p) {p : Lo} {t : Nat} (h : t < ts.length) :
    (Jn ts p (ts.getD t (0, 0)).1 (ts.getD t (0, 0)).2 → rk n ts (ins p t) = rk n ts p) ∧ (¬ Jn ts p (ts.getD t (0, 0)).1 (ts.getD t (0, 0)).2 → rk n ts (ins p t) = rk n ts p + 1) := by
  have hin : ∀ q ∈ prs ts p ++ [ts.getD t (0, 0)], InR n q := fun q hq => by
    rcases List.mem_append.mp hq with z | z
    · exact prs_in ht _ z
    · rw [List.mem_singleton.mp z]; exact ht _ (getD_mem h)
  have e : pcs n (prs ts (ins p t)) = pcs n (prs ts p ++ [ts.getD t (0, 0)]) := by
    refine pcs_congr (prs_in ht) hin fun i j => ⟨fun a => a.mono fun x hx => ?_, fun a => a.mono fun x hx => ?_⟩
    · obtain ⟨k, h1, h2, e⟩ := mem_prs.mp hx
      unfold ins at h2
      simp only [Bool.or_eq_true, beq_iff_eq] at h2
      rcases h2 with rfl | h2
      · exact List.mem_append_right _ (by rw [e]; exact List.mem_cons_self)
      · exact List.mem_append_left _ (mem_prs.mpr ⟨k, h1, h2, e⟩)
    · rcases List.mem_append.mp hx with z | z
      · obtain ⟨k, h1, h2, e⟩ := mem_prs.mp z
        exact mem_prs.mpr ⟨k, h1, by simp [ins, h2], e⟩
      · rw [List.mem_singleton.mp z]
        exact mem_prs.mpr ⟨t, h, by simp [ins], rfl⟩
  obtain ⟨h1, h2⟩ := pcs_snoc hin
  unfold rk Jn
  rw [e]
  refine ⟨fun c => by rw [h1 c], fun c => ?_⟩
  have := h2 c
  have := pcs_leG (n := n) (ps := prs ts p)
  omega
theorem mat {n : Int} {ts : List (Int × Int)} (ht : ∀ p ∈ ts, InR n p) : Mat ts.length (rk n ts) where
  ext p q h := by unfold rk; rw [prs_same h]
  emp := by
    have : prs ts Mx.emp = [] := by unfold prs; rw [List.filter_eq_nil_iff.mpr (by simp [Mx.emp])]; rfl
    unfold rk
    rw [this, pcs_nil]
    omega
  up p t := by
    by_cases h : t < ts.length
    · obtain ⟨h1, h2⟩ := rk_ins ht (p := p) h
      by_cases c : Jn ts p (ts.getD t (0, 0)).1 (ts.getD t (0, 0)).2
      · rw [h1 c]; exact Nat.le_refl _
      · rw [h2 c]; omega
    · unfold rk
      rw [prs_same (ins_same (.inr (by omega)))]
      exact Nat.le_refl _
  one p t := by
    by_cases h : t < ts.length
    · obtain ⟨h1, h2⟩ := rk_ins ht (p := p) h
      by_cases c : Jn ts p (ts.getD t (0, 0)).1 (ts.getD t (0, 0)).2
      · rw [h1 c]; omega
      · rw [h2 c]; exact Nat.le_refl _
    · unfold rk
      rw [prs_same (ins_same (.inr (by omega)))]
      omega
  loc p q t hs he := by
    by_cases h : t < ts.length
    · obtain ⟨h1, h2⟩ := rk_ins ht (p := p) h
      by_cases c : Jn ts p (ts.getD t (0, 0)).1 (ts.getD t (0, 0)).2
      · exact (rk_ins ht (p := q) h).1 (c.mono hs)
      · rw [h2 c] at he; omega
    · unfold rk
      rw [prs_same (ins_same (.inr (by omega)))]
end DP.L

set_option Elab.async false
set_option linter.all false
set_option maxRecDepth 100000
set_option maxHeartbeats 1000000
/-! LA: what the shared defs 0-99 promise. -/
namespace DP.L
open PySem PySem.Spec PyProof.Rows L2 DP
/-- small plain data -/
inductive Sd : D → Prop where
  | non : Sd .non
  | bl (b : Bool) : Sd (.bl b)
  | int (i : Int) : Sd (.int i)
  | str {x : Str} (h : PyData.strOk x = true) : Sd (.str x)
  | tup {ds : List D} (hl : ds.length ≤ 1000) (h : ∀ d ∈ ds, Sd d) : Sd (.tup ds)
  | lst {ds : List D} (hl : ds.length ≤ 1000) (h : ∀ d ∈ ds, Sd d) : Sd (.lst ds)
  | dct {tk : Bool} {kvs : List (D × D)} : Sd (.dct tk kvs)
def belowB (v : D) (b : Int) : Bool := match v with | .int i => decide (0 ≤ i) && decide (i < b) | _ => false
def leB (a b : D) : Bool := match a, b with | .int i, .int j => decide (i ≤ j) | _, _ => false
def ltB (a b : D) : Bool := match a, b with | .int i, .int j => decide (i < j) | _, _ => false
def pairB (n : Int) (v : D) : Bool := match v with | .tup [a, b] => belowB a n && belowB b n && leB a b | _ => false
def webB (v : D) : Bool := match v with
  | .tup [.str x, .int n, .tup ts] => (x == ("web" : Str)) && decide (1 ≤ n) && decide (n ≤ 8) && decide (ts.length ≤ 12) && ts.all (pairB n)
  | _ => false
def lotB (m : Nat) (v : D) : Bool := match v with
  | .tup es => es.all (fun e => belowB e m) && (es.zip es.tail).all (fun p => ltB p.1 p.2)
  | _ => false
def pairD (p : Int × Int) : D := .tup [.int p.1, .int p.2]
def webD (n : Int) (ts : List (Int × Int)) : D := .tup [.str "web", .int n, .tup (ts.map pairD)]
def GW (n : Int) (ts : List (Int × Int)) : Prop := 1 ≤ n ∧ n ≤ 8 ∧ ts.length ≤ 12 ∧ ∀ p ∈ ts, InR n p ∧ p.1 ≤ p.2
def GL (m : Nat) (l : List Int) : Prop := l.length ≤ 1000 ∧ ∀ i ∈ l, 0 ≤ i ∧ i < m
/-- what the functions compute -/
def sortI (xs : List Int) : List Int := xs.mergeSort (fun a b => decide (a ≤ b))
def piecesF (n : Int) (ps : List (Int × Int)) : List (List Int) := (sortI (dedup (namesF n ps))).map fun nm => ((List.range n.toNat).map Int.ofNat).filter fun i => (namesF n ps).getD i.toNat 0 == nm
def piecesW (n : Int) (ts : List (Int × Int)) (l : List Int) : D := .tup ((piecesF n (pick ts l)).map tupI)
def lotsF : Nat → List (List Int)
  | 0 => [[]]
  | m + 1 => lotsF m ++ (lotsF m).map fun l => l ++ [(m : Int)]
def treeB (n : Int) (ts : List (Int × Int)) (l : List Int) : Bool := decide ((l.length : Int) = rankF n ts (allF ts.length)) && decide (rankF n ts l = rankF n ts (allF ts.length))
def treesF (n : Int) (ts : List (Int × Int)) : List (List Int) := (sortK (lotsF ts.length)).filter (treeB n ts)
def treesW (n : Int) (ts : List (Int × Int)) : D := .tup ((treesF n ts).map tupI)
/-- the tie of o are all in l -/
def subB (o l : List Int) : Bool := o.all fun t => l.contains t
def leastStep (acc : List (List Int)) (l : List Int) : List (List Int) := if (acc.any fun o => subB o l) = true then acc else acc ++ [l]
def leastF (ls : List (List Int)) : List (List Int) := ls.foldl leastStep []
def withoutF (m : Nat) (l : List Int) : List Int := (allF m).filter fun t => !l.contains t
def ringB (n : Int) (ts : List (Int × Int)) (l : List Int) : Bool := decide (rankF n ts l < (l.length : Int))
def cutB (n : Int) (ts : List (Int × Int)) (l : List Int) : Bool := decide (rankF n ts (withoutF ts.length l) < rankF n ts (allF ts.length))
def ringsF (n : Int) (ts : List (Int × Int)) : List (List Int) := leastF ((sortK (lotsF ts.length)).filter (ringB n ts))
def cutsF (n : Int) (ts : List (Int × Int)) : List (List Int) := leastF ((sortK (lotsF ts.length)).filter (cutB n ts))
def Ls (ls : List (List Int)) : Prop := ls.length ≤ 4096 ∧ ∀ l ∈ ls, l.length ≤ 12
/-! promises -/
def sWhole : FSpec := fun ds Q _ => ∃ v, ds = [v] ∧ Sd v ∧ Q (.bl (isInt? v).isSome) false
def sBelow : FSpec := fun ds Q _ => ∃ v b, ds = [v, .int b] ∧ Sd v ∧ Q (.bl (belowB v b)) false
def sPair : FSpec := fun ds Q _ => ∃ n v, ds = [.int n, v] ∧ Sd v ∧ Q (.bl (pairB n v)) false
def sWeb : FSpec := fun ds Q _ => ∃ v, ds = [v] ∧ Sd v ∧ Q (.bl (webB v)) false
def sNeedWeb : FSpec := fun ds Q X => ∃ v, ds = [v] ∧ Sd v ∧ (webB v = false → X (.exc 1 [])) ∧ (webB v = true → Q .non false)
def sLot : FSpec := fun ds Q _ => ∃ n ts v, ds = [webD n ts, v] ∧ GW n ts ∧ Sd v ∧ Q (.bl (lotB ts.length v)) false
def sNeedLot : FSpec := fun ds Q X => ∃ n ts v, ds = [webD n ts, v] ∧ GW n ts ∧ Sd v ∧ (lotB ts.length v = false → X (.exc 2 [])) ∧ (lotB ts.length v = true → Q .non false)
def Ps (n : Int) (ps : List (Int × Int)) : Prop := 0 ≤ n ∧ n ≤ 8 ∧ ps.length ≤ 1000 ∧ ∀ p ∈ ps, InR n p
def sNames : FSpec := fun ds Q _ => ∃ n ps, ds = [.int n, .lst (ps.map pairD)] ∧ Ps n ps ∧ Q (.lst ((namesF n ps).map .int)) true
def sPiecesBy : FSpec := fun ds Q _ => ∃ n ps, ds = [.int n, .lst (ps.map pairD)] ∧ Ps n ps ∧ Q (.tup ((piecesF n ps).map tupI)) false
def sPiecesIn : FSpec := fun ds Q _ => ∃ n ts l, ds = [webD n ts, tupI l] ∧ GW n ts ∧ GL ts.length l ∧ Q (piecesW n ts l) false
/-- a web and a lot are needed -/
def sBoth (R : Int → List (Int × Int) → List Int → D) : FSpec := fun ds Q X => ∃ v o, ds = [v, o] ∧ Sd v ∧ Sd o ∧ (webB v = false → X (.exc 1 [])) ∧
  ∀ n ts, v = webD n ts → GW n ts → (lotB ts.length o = false → X (.exc 2 [])) ∧ ∀ l, o = tupI l → GL ts.length l → lotB ts.length o = true → Q (R n ts l) false
def rkD (n : Int) (ts : List (Int × Int)) (l : List Int) : D := .int (rankF n ts l)
def trD (n : Int) (ts : List (Int × Int)) (l : List Int) : D := .bl (treeB n ts l)
def sIn (R : Int → List (Int × Int) → List Int → D) : FSpec := fun ds Q _ => ∃ n ts l, ds = [webD n ts, tupI l] ∧ GW n ts ∧ GL ts.length l ∧ Q (R n ts l) false
def sAllTies : FSpec := fun ds Q _ => ∃ n ts, ds = [webD n ts] ∧ GW n ts ∧ Q (tupI (allF ts.length)) false
def sAllLots : FSpec := fun ds Q _ => ∃ n ts, ds = [webD n ts] ∧ GW n ts ∧ Q (.lst ((sortK (lotsF ts.length)).map tupI)) true
def sTreesIn : FSpec := fun ds Q _ => ∃ n ts, ds = [webD n ts] ∧ GW n ts ∧ Q (treesW n ts) false
def sTrees : FSpec := fun ds Q X => ∃ v, ds = [v] ∧ Sd v ∧ (webB v = false → X (.exc 1 [])) ∧ ∀ n ts, v = webD n ts → GW n ts → Q (treesW n ts) false
def sDraw : FSpec := fun ds Q _ => ∃ r : Int, ds = [.res, .int r] ∧ 1 ≤ r ∧ r ≤ 1000000 ∧ ∀ k : Int, 0 ≤ k → k < r → Q (.int k) false
def sPick : FSpec := fun ds Q _ => ∃ xs, ds = [.res, .lst xs] ∧ xs ≠ [] ∧ xs.length ≤ 1000000 ∧ ∀ d ∈ xs, Q d false
def sShuf : FSpec := fun ds Q _ => ∃ ps : List (Int × Int), ds = [.res, .lst (ps.map pairD)] ∧ ps.length ≤ 64 ∧ ∀ qs : List (Int × Int), qs.Perm ps → Q (.lst (qs.map pairD)) true
def sTruth : FSpec := fun ds Q _ => ∃ a b, ds = [.bl a, .bl b] ∧ Q (.bl (a == b)) false
/-- ints, tuples, lists of such, at most k deep -/
inductive Sm : Nat → D → Prop where
  | int (k : Nat) (i : Int) : Sm k (.int i)
  | tup {k : Nat} {ds : List D} (h : ∀ d ∈ ds, Sm k d) : Sm (k + 1) (.tup ds)
  | lst {k : Nat} {ds : List D} (h : ∀ d ∈ ds, Sm k d) : Sm (k + 1) (.lst ds)
def szD : D → Nat
  | .tup ds => 1 + szs ds
  | .lst ds => 1 + szs ds
  | _ => 1
where
  szs : List D → Nat
  | [] => 0
  | x :: xs => szD x + szs xs
def sSame : FSpec := fun ds Q _ => ∃ v, ds = [v, v] ∧ Sm 5 v ∧ szD v ≤ 1000000 ∧ Q (.bl true) false
def sLots : FSpec := fun ds Q _ => ∃ m : Nat, ds = [.int m] ∧ m ≤ 12 ∧ Q (.lst ((sortK (lotsF m)).map tupI)) true
def sMade : FSpec := fun ds Q _ => ∃ (n : Int) (ps : List (Int × Int)), ds = [.int n, .lst (ps.map pairD)] ∧ ps.length ≤ 1000 ∧ Q (webD n (ps.map fun p => (min p.1 p.2, max p.1 p.2))) false
def sShufWeb : FSpec := fun ds Q _ => ∃ (n : Int) (ps : List (Int × Int)), ds = [.res, .int n, .lst (ps.map pairD)] ∧ ps.length ≤ 12 ∧ 1 ≤ n ∧ n ≤ 8 ∧ (∀ p ∈ ps, InR n p) ∧ ∀ ts, GW n ts → Q (webD n ts) false
def sWebDrawn : FSpec := fun ds Q _ => ∃ p m : Int, ds = [.res, .int p, .int m] ∧ 1 ≤ p ∧ p ≤ 8 ∧ 0 ≤ m ∧ m ≤ 12 ∧ ∀ n ts, GW n ts → Q (webD n ts) false
def sLotDrawn : FSpec := fun ds Q _ => ∃ n ts, ds = [.res, webD n ts] ∧ GW n ts ∧ ∀ l : List Int, GL ts.length l → lotB ts.length (tupI l) = true → Q (tupI l) false
def sOdd : FSpec := fun ds Q _ => ds = [.res] ∧ ∀ v, Sd v → webB v = false → Q v false
def sOddLot : FSpec := fun ds Q _ => ∃ n ts, ds = [.res, webD n ts] ∧ GW n ts ∧ ∀ v, Sd v → lotB ts.length v = false → Q v false
def sLeast : FSpec := fun ds Q _ => ∃ ls, ds = [.lst (ls.map tupI)] ∧ Ls ls ∧ Q (.tup ((leastF ls).map tupI)) false
def sRingsIn : FSpec := fun ds Q _ => ∃ n ts, ds = [webD n ts] ∧ GW n ts ∧ Q (.tup ((ringsF n ts).map tupI)) false
def sRingsOf : FSpec := fun ds Q X => ∃ v, ds = [v] ∧ Sd v ∧ (webB v = false → X (.exc 1 [])) ∧ ∀ n ts, v = webD n ts → GW n ts → Q (.tup ((ringsF n ts).map tupI)) false
def sWithout : FSpec := fun ds Q _ => ∃ n ts l, ds = [webD n ts, tupI l] ∧ GW n ts ∧ GL ts.length l ∧ Q (tupI (withoutF ts.length l)) false
def sCutsIn : FSpec := fun ds Q _ => ∃ n ts, ds = [webD n ts] ∧ GW n ts ∧ Q (.tup ((cutsF n ts).map tupI)) false
def sCutsOf : FSpec := fun ds Q X => ∃ v, ds = [v] ∧ Sd v ∧ (webB v = false → X (.exc 1 [])) ∧ ∀ n ts, v = webD n ts → GW n ts → Q (.tup ((cutsF n ts).map tupI)) false
def sNo : FSpec := fun _ _ _ => False
def specsA (f : Nat) : FSpec := match f with
  | 0 => sWhole | 1 => sBelow | 2 => sPair | 3 => sWeb | 4 => sNeedWeb | 5 => sLot | 6 => sNeedLot | 7 => sNames | 8 => sPiecesBy | 9 => sIn piecesW | 10 => sBoth piecesW | 11 => sIn rkD | 12 => sBoth rkD | 13 => sAllTies
  | 15 => sAllLots | 16 => sIn trD | 17 => sBoth trD | 18 => sTreesIn | 19 => sTrees | 22 => sDraw | 23 => sPick | 24 => sShuf | 26 => sTruth | 27 => sSame | 28 => sPiecesBy | 29 => sIn rkD | 30 => sLots | 31 => sTreesIn
  | 32 => sMade | 33 => sWebDrawn | 34 => sShufWeb | 35 => sWeb | 36 => sLotDrawn | 37 => sOdd | 38 => sOddLot | 41 => sLeast | 42 => sRingsIn | 43 => sRingsOf | 44 => sWithout | 45 => sCutsIn | 46 => sCutsOf | _ => sNo
/-- how often a def asks the draws, at most -/
def costsA (f : Nat) : Nat := if f = 22 then 1 else if f = 23 then 1 else if f = 24 then 64 else if f = 33 then 200 else if f = 34 then 64 else if f = 36 then 12 else if f = 37 then 1 else if f = 38 then 1 else 0
/-- a promise goes over to weaker wishes -/
def Mono (s : FSpec) : Prop := ∀ ds Q Q' X X', (∀ d fr, Q d fr → Q' d fr) → (∀ x, X x → X' x) → s ds Q X → s ds Q' X'
theorem monoA : ∀ f, Mono (specsA f) := by
  intro f ds Q Q' X X' hq hx h
  unfold specsA at h ⊢
  split at h
  all_goals first
    | exact h.elim
    | (obtain ⟨v, e, s, q⟩ := h; exact ⟨v, e, s, hq _ _ q⟩)
    | (obtain ⟨v, e, s, q⟩ := h; exact ⟨v, e, s, fun k a => hq _ _ (q k a)⟩)
    | (obtain ⟨v, w, e, q⟩ := h; exact ⟨v, w, e, hq _ _ q⟩)
    | (obtain ⟨v, w, e, s, q⟩ := h; exact ⟨v, w, e, s, hq _ _ q⟩)
    | (obtain ⟨v, w, u, e, s, t, q⟩ := h; exact ⟨v, w, u, e, s, t, hq _ _ q⟩)
    | (obtain ⟨v, e, s, p, q⟩ := h; exact ⟨v, e, s, fun z => hx _ (p z), fun z => hq _ _ (q z)⟩)
    | (obtain ⟨v, e, s, p, q⟩ := h; exact ⟨v, e, s, fun z => hx _ (p z), fun n ts z g => hq _ _ (q n ts z g)⟩)
    | (obtain ⟨v, w, u, e, s, t, p, q⟩ := h; exact ⟨v, w, u, e, s, t, fun z => hx _ (p z), fun z => hq _ _ (q z)⟩)
    | (obtain ⟨v, w, e, s, t, p, q⟩ := h; exact ⟨v, w, e, s, t, fun z => hx _ (p z), fun n ts z g => ⟨fun y => hx _ ((q n ts z g).1 y), fun l y g' z' => hq _ _ ((q n ts z g).2 l y g' z')⟩⟩)
    | (obtain ⟨v, e, s, t, q⟩ := h; exact ⟨v, e, s, t, fun k a b => hq _ _ (q k a b)⟩)
    | (obtain ⟨v, e, s, t, q⟩ := h; exact ⟨v, e, s, t, fun k a => hq _ _ (q k a)⟩)
    | (obtain ⟨v, w, e, s, q⟩ := h; exact ⟨v, w, e, s, fun k a b => hq _ _ (q k a b)⟩)
    | (obtain ⟨v, w, e, s, q⟩ := h; exact ⟨v, w, e, s, fun k a => hq _ _ (q k a)⟩)
    | (obtain ⟨v, w, e, s, s2, s3, s4, q⟩ := h; exact ⟨v, w, e, s, s2, s3, s4, fun k a => hq _ _ (q k a)⟩)
    | (obtain ⟨v, w, e, s, s2, s3, s4, q⟩ := h; exact ⟨v, w, e, s, s2, s3, s4, fun n ts g => hq _ _ (q n ts g)⟩)
    | (obtain ⟨v, e, s, s2, q⟩ := h; exact ⟨v, e, s, s2, fun k t a => hq _ _ (q k t a)⟩)
    | (obtain ⟨e, q⟩ := h; exact ⟨e, fun v a b => hq _ _ (q v a b)⟩)
    | (obtain ⟨v, e, s, t, q⟩ := h; exact ⟨v, e, s, t, hq _ _ q⟩)
end DP.L

set_option Elab.async false
set_option linter.all false
set_option maxRecDepth 100000
set_option maxHeartbeats 1000000
/-! LX: the surroundings of all laws: shared defs by number, a law's own ones from 2000 on. -/
namespace DP.L
open PySem PySem.Spec PyProof.Rows L2 DP
/-- a law's own defs -/
structure Own where
  fs : Nat → FSpec
  cost : Nat → Nat
  hd : Nat → Option Nat
def specs (f : Nat) : FSpec := if f < 100 then specsA f else sNo
def costs (f : Nat) : Nat := if f < 100 then costsA f else 0
def fldA (c : Nat) : Option Str := if c = 7 then some "word" else if c = 8 then some "most" else if c = 15 then some "at" else none
def Cx (o : Own) : DP.Ctx where
  fs := fun f => if f < 2000 then specs f else o.fs (f - 2000)
  cost := fun f => if f < 2000 then costs f else o.cost (f - 2000)
  sub := fun c k => k == 0 || c == k
  cst := fun | 0 => .int 8 | _ => .int 12
  fld := fun _ => none
  web := fun _ => true
  hd := o.hd
theorem cmono {o : Own} (h : ∀ f, Mono (o.fs f)) : CMono (Cx o) := by
  intro f ds Q Q' X X' hq hx z
  have z : (if f < 2000 then specs f else o.fs (f - 2000)) ds Q X := z
  show (if f < 2000 then specs f else o.fs (f - 2000)) ds Q' X'
  by_cases h1 : f < 2000
  · rw [if_pos h1] at z ⊢
    unfold specs at z ⊢
    by_cases h2 : f < 100
    · rw [if_pos h2] at z ⊢
      exact monoA f ds Q Q' X X' hq hx z
    · rw [if_neg h2] at z
      exact z.elim
  · rw [if_neg h1] at z ⊢
    exact h _ ds Q Q' X X' hq hx z
section
variable {o : Own}
@[simp] theorem cost0 : (Cx o).cost 0 = 0 := rfl
@[simp] theorem cost1 : (Cx o).cost 1 = 0 := rfl
@[simp] theorem cost2 : (Cx o).cost 2 = 0 := rfl
@[simp] theorem cost3 : (Cx o).cost 3 = 0 := rfl
@[simp] theorem cost4 : (Cx o).cost 4 = 0 := rfl
@[simp] theorem cost5 : (Cx o).cost 5 = 0 := rfl
@[simp] theorem cost6 : (Cx o).cost 6 = 0 := rfl
@[simp] theorem cost7 : (Cx o).cost 7 = 0 := rfl
@[simp] theorem cost8 : (Cx o).cost 8 = 0 := rfl
@[simp] theorem cost9 : (Cx o).cost 9 = 0 := rfl
@[simp] theorem cost10 : (Cx o).cost 10 = 0 := rfl
@[simp] theorem cost11 : (Cx o).cost 11 = 0 := rfl
@[simp] theorem cost12 : (Cx o).cost 12 = 0 := rfl
@[simp] theorem cost13 : (Cx o).cost 13 = 0 := rfl
@[simp] theorem cost14 : (Cx o).cost 14 = 0 := rfl
@[simp] theorem cost15 : (Cx o).cost 15 = 0 := rfl
@[simp] theorem cost16 : (Cx o).cost 16 = 0 := rfl
@[simp] theorem cost17 : (Cx o).cost 17 = 0 := rfl
@[simp] theorem cost18 : (Cx o).cost 18 = 0 := rfl
@[simp] theorem cost19 : (Cx o).cost 19 = 0 := rfl
@[simp] theorem cost20 : (Cx o).cost 20 = 0 := rfl
@[simp] theorem cost21 : (Cx o).cost 21 = 0 := rfl
@[simp] theorem cost22 : (Cx o).cost 22 = 1 := rfl
@[simp] theorem cost23 : (Cx o).cost 23 = 1 := rfl
@[simp] theorem cost24 : (Cx o).cost 24 = 64 := rfl
@[simp] theorem cost25 : (Cx o).cost 25 = 0 := rfl
@[simp] theorem cost26 : (Cx o).cost 26 = 0 := rfl
@[simp] theorem cost27 : (Cx o).cost 27 = 0 := rfl
@[simp] theorem cost28 : (Cx o).cost 28 = 0 := rfl
@[simp] theorem cost29 : (Cx o).cost 29 = 0 := rfl
@[simp] theorem cost30 : (Cx o).cost 30 = 0 := rfl
@[simp] theorem cost31 : (Cx o).cost 31 = 0 := rfl
@[simp] theorem cost32 : (Cx o).cost 32 = 0 := rfl
@[simp] theorem cost33 : (Cx o).cost 33 = 200 := rfl
@[simp] theorem cost34 : (Cx o).cost 34 = 64 := rfl
@[simp] theorem cost35 : (Cx o).cost 35 = 0 := rfl
@[simp] theorem cost36 : (Cx o).cost 36 = 12 := rfl
@[simp] theorem cost37 : (Cx o).cost 37 = 1 := rfl
@[simp] theorem cost38 : (Cx o).cost 38 = 1 := rfl
@[simp] theorem cost41 : (Cx o).cost 41 = 0 := rfl
@[simp] theorem cost42 : (Cx o).cost 42 = 0 := rfl
@[simp] theorem cost43 : (Cx o).cost 43 = 0 := rfl
@[simp] theorem cost44 : (Cx o).cost 44 = 0 := rfl
@[simp] theorem cost45 : (Cx o).cost 45 = 0 := rfl
@[simp] theorem cost46 : (Cx o).cost 46 = 0 := rfl
theorem f0 : (Cx o).fs 0 = sWhole := rfl
theorem f1 : (Cx o).fs 1 = sBelow := rfl
theorem f2 : (Cx o).fs 2 = sPair := rfl
theorem f3 : (Cx o).fs 3 = sWeb := rfl
theorem f4 : (Cx o).fs 4 = sNeedWeb := rfl
theorem f5 : (Cx o).fs 5 = sLot := rfl
theorem f6 : (Cx o).fs 6 = sNeedLot := rfl
theorem f7 : (Cx o).fs 7 = sNames := rfl
theorem f8 : (Cx o).fs 8 = sPiecesBy := rfl
theorem f9 : (Cx o).fs 9 = sIn piecesW := rfl
theorem f10 : (Cx o).fs 10 = sBoth piecesW := rfl
theorem f11 : (Cx o).fs 11 = sIn rkD := rfl
theorem f12 : (Cx o).fs 12 = sBoth rkD := rfl
theorem f13 : (Cx o).fs 13 = sAllTies := rfl
theorem f15 : (Cx o).fs 15 = sAllLots := rfl
theorem f16 : (Cx o).fs 16 = sIn trD := rfl
theorem f17 : (Cx o).fs 17 = sBoth trD := rfl
theorem f18 : (Cx o).fs 18 = sTreesIn := rfl
theorem f19 : (Cx o).fs 19 = sTrees := rfl
theorem f22 : (Cx o).fs 22 = sDraw := rfl
theorem f23 : (Cx o).fs 23 = sPick := rfl
theorem f24 : (Cx o).fs 24 = sShuf := rfl
theorem f26 : (Cx o).fs 26 = sTruth := rfl
theorem f27 : (Cx o).fs 27 = sSame := rfl
theorem f28 : (Cx o).fs 28 = sPiecesBy := rfl
theorem f29 : (Cx o).fs 29 = sIn rkD := rfl
theorem f30 : (Cx o).fs 30 = sLots := rfl
theorem f31 : (Cx o).fs 31 = sTreesIn := rfl
theorem f32 : (Cx o).fs 32 = sMade := rfl
theorem f33 : (Cx o).fs 33 = sWebDrawn := rfl
theorem f34 : (Cx o).fs 34 = sShufWeb := rfl
theorem f35 : (Cx o).fs 35 = sWeb := rfl
theorem f36 : (Cx o).fs 36 = sLotDrawn := rfl
theorem f37 : (Cx o).fs 37 = sOdd := rfl
theorem f38 : (Cx o).fs 38 = sOddLot := rfl
theorem f41 : (Cx o).fs 41 = sLeast := rfl
theorem f42 : (Cx o).fs 42 = sRingsIn := rfl
theorem f43 : (Cx o).fs 43 = sRingsOf := rfl
theorem f44 : (Cx o).fs 44 = sWithout := rfl
theorem f45 : (Cx o).fs 45 = sCutsIn := rfl
theorem f46 : (Cx o).fs 46 = sCutsOf := rfl
end
end DP.L

set_option Elab.async false
set_option linter.all false
set_option maxRecDepth 100000
set_option maxHeartbeats 1000000
/-! K01c: codes of own defs, the module (written by mkl.py). -/
namespace DP.K01
open PySem PySem.Spec PyProof.Rows L2 DP DP.L
def fp (i : Nat) (x : Str) (ps : List Str) : Nat × (Str × List Str) := (i, (x, ps))
def cp (i : Nat) (x : Str) (o : Option Str) : Nat × (Str × Option Str) := (i, (x, o))
def M : MD where
  fnL := [fp 0 "is_whole" ["value"], fp 1 "is_below" ["value", "bound"], fp 2 "is_pair" ["n", "value"], fp 3 "is_web" ["value"], fp 4 "need_web" ["web"], fp 5 "is_lot" ["web", "value"], fp 6 "need_lot" ["web", "lot"], fp 7 "names_by" ["n", "ties"], fp 11 "rank_in" ["web", "lot"], fp 13 "all_ties" ["web"], fp 14 "by_size" ["lot"], fp 15 "all_lots" ["web"], fp 16 "is_tree_in" ["web", "lot"], fp 17 "is_tree" ["web", "lot"], fp 41 "least_of" ["lots"], fp 42 "rings_in" ["web"], fp 43 "rings_of" ["web"], fp 44 "without" ["web", "lot"], fp 45 "cuts_in" ["web"], fp 46 "cuts_of" ["web"], fp 20 "_law_begun" ["script"], fp 21 "_law_blended" ["state"], fp 22 "_law_draw" ["state", "room"], fp 23 "_law_pick" ["state", "some"], fp 24 "_law_shuffled" ["state", "some"], fp 25 "_law_caught" ["action"], fp 26 "_law_is_truth" ["found", "due"], fp 27 "_law_same" ["found", "due"], fp 28 "_law_pieces" ["n", "ties"], fp 29 "_law_rank" ["web", "lot"], fp 30 "_law_lots" ["many"], fp 32 "_law_made" ["n", "ties"], fp 33 "_law_web" ["draws", "places", "most"], fp 34 "_law_shuffled_web" ["draws", "n", "ties"], fp 36 "_law_lot" ["draws", "web"], fp 37 "_law_odd" ["draws"], fp 2036 "_law_least" ["lots"], fp 2037 "law" ["script"]]
  clL := [cp 0 "WebError" none, cp 1 "BadWeb" none, cp 2 "BadLot" none]
  ctL := [(0, "MOST_PLACES"), (1, "MOST_TIES")]
  free := ["isinstance", "int", "bool", "tuple", "len", "all", "str", "zip", "list", "range", "min", "max", "sorted", "any", "abs", "dict"]
  kw := [((43 : Nat), (["web"] : List Str), ([0] : List Nat))]
  sk := [14]
  cc := [25]
-- 2036 _law_least (top 44)
def N__law_least : List Str := ["lots", "found", "lot", "other", "tie"]
def c__law_least : S := .seq (.set 1 (.lst 0 .nil)) (.seq (.forr .seq 1 (.var 0) (.name 2) (.seq (.ite (.cmp .eq (.lcb [3] (.name 3) 1 true (.cmp .eq (.lc [4] (.name 4) .seq 1 (.var 3) true (.cmp .nmem (.var 4) (.var 2)) (.var 4)) (.lst 0 .nil)) (.lit (.int 1))) (.lst 0 .nil)) (.seq (.ex (.append 1 (.var 2))) .skip) .skip) .skip)) (.seq (.ret (.bi .tuple 1 (.cons (.var 1) .nil))) .skip))
-- 2037 law (top 45)
def N_law : List Str := ["script", "draws", "turn", "web", "every", "lots", "whole", "lot", "rings", "cuts", "ring", "lap", "is_free", "is_met", "bad", "tie", "cut"]
def c_law : S := .seq (.set 1 (.call 20 1 (.cons (.var 0) .nil))) (.seq (.forr .range1 1 (.cons (.bin .add (.lit (.int 2)) (.bi .min2 2 (.cons (.bi .len 1 (.cons (.var 0) .nil)) (.cons (.lit (.int 3)) .nil)))) .nil) (.name 2) (.seq (.set 3 (.call 33 3 (.cons (.var 1) (.cons (.lit (.int 6)) (.cons (.lit (.int 8)) .nil))))) (.seq (.set 4 (.rgl1 true (.bi .len 1 (.cons (.idx (.var 3) (.lit (.int 2))) .nil)))) (.seq (.setT (.tup (.cons (.name 5) (.cons (.name 6) .nil))) (.tup 2 (.cons (.call 30 1 (.cons (.bi .len 1 (.cons (.var 4) .nil)) .nil)) (.cons (.call 29 2 (.cons (.var 3) (.cons (.var 4) .nil))) .nil)))) (.seq (.set 8 (.call 2036 1 (.cons (.lc [7] (.name 7) .seq 1 (.var 5) true (.cmp .lt (.call 29 2 (.cons (.var 3) (.cons (.var 7) .nil))) (.bi .len 1 (.cons (.var 7) .nil))) (.var 7)) .nil))) (.seq (.set 9 (.call 2036 1 (.cons (.lc [7] (.name 7) .seq 1 (.var 5) true (.cmp .lt (.call 29 2 (.cons (.var 3) (.cons (.bi .tuple 1 (.cons (.lc [15] (.name 15) .seq 1 (.var 4) true (.cmp .nmem (.var 15) (.var 7)) (.var 15)) .nil)) .nil))) (.var 6)) (.var 7)) .nil))) (.seq (.ite (.or (.not (.call 27 2 (.cons (.lst 2 (.cons (.call 43 1 (.cons (.var 3) .nil)) (.cons (.call 46 1 (.cons (.var 3) .nil)) .nil))) (.cons (.lst 2 (.cons (.var 8) (.cons (.var 9) .nil))) .nil)))) (.cmp .ne (.callk 43 1 [0] (.cons (.var 3) .nil)) (.var 8))) (.seq (.ret (.lit (.bl false))) .skip) .skip) (.seq (.forr .seq 1 (.var 8) (.name 10) (.seq (.ite (.cmp .ne (.lc [16] (.name 16) .seq 1 (.var 9) true (.cmp .eq (.bi .len 1 (.cons (.lc [15] (.name 15) .seq 1 (.var 16) true (.cmp .mem (.var 15) (.var 10)) (.var 15)) .nil)) (.lit (.int 1))) (.lit (.int 1))) (.lst 0 .nil)) (.seq (.ret (.lit (.bl false))) .skip) .skip) .skip)) (.seq (.forr .range1 1 (.cons (.lit (.int 6)) .nil) (.name 11) (.seq (.set 7 (.call 36 2 (.cons (.var 1) (.cons (.var 3) .nil)))) (.seq (.set 12 (.cmp .eq (.lc [10] (.name 10) .seq 1 (.var 8) true (.cmp .eq (.lc [15] (.name 15) .seq 1 (.var 10) true (.cmp .nmem (.var 15) (.var 7)) (.var 15)) (.lst 0 .nil)) (.lit (.int 1))) (.lst 0 .nil))) (.seq (.set 13 (.cmp .eq (.lc [16] (.name 16) .seq 1 (.var 9) true (.cmp .eq (.lc [15] (.name 15) .seq 1 (.var 16) true (.cmp .mem (.var 15) (.var 7)) (.var 15)) (.lst 0 .nil)) (.lit (.int 1))) (.lst 0 .nil))) (.seq (.ite (.cmp .ne (.call 17 2 (.cons (.var 3) (.cons (.var 7) .nil))) (.and (.var 12) (.var 13))) (.seq (.ret (.lit (.bl false))) .skip) .skip) .skip))))) (.seq (.set 14 (.call 37 1 (.cons (.var 1) .nil))) (.seq (.ite (.not (.isi (.ctch 25 false 43 [14]) (.clv 1))) (.seq (.ret (.lit (.bl false))) .skip) .skip) (.seq (.ite (.not (.isi (.ctch 25 false 46 [14]) (.clv 1))) (.seq (.ret (.lit (.bl false))) .skip) .skip) .skip)))))))))))) (.seq (.ret (.cmp .eq (.call 43 1 (.cons (.tup 3 (.cons (.lit (.str "web")) (.cons (.lit (.int 1)) (.cons (.bin .mul (.tup 1 (.cons (.tup 2 (.cons (.lit (.int 0)) (.cons (.lit (.int 0)) .nil))) .nil)) (.lit (.int 12))) .nil)))) .nil)) (.bi .tuple 1 (.cons (.lc [15] (.name 15) .range1 1 (.cons (.lit (.int 12)) .nil) false .nil (.tup 1 (.cons (.var 15) .nil))) .nil)))) .skip))
end DP.K01

set_option Elab.async false
set_option linter.all false
set_option maxRecDepth 100000
set_option maxHeartbeats 0
/-! K01n: the head of law k01 (written by mkl.py). -/
namespace DP.K01
open PySem PySem.Spec PyProof.Rows L2 DP DP.L
abbrev lw : PySem.W.OpenLaw := PySem.Challenge.rw_ringsandcuts_k01_whole_rings_and_cuts
def names : List Str := M.fnL.map (·.2.1)
def defs : List He.DefD := [dfD lw "is_whole" 7, dfD lw "is_below" 8, dfD lw "is_pair" 9, dfD lw "is_web" 10, dfD lw "need_web" 11, dfD lw "is_lot" 12, dfD lw "need_lot" 13, dfD lw "names_by" 14, dfD lw "rank_in" 15, dfD lw "all_ties" 16, dfD lw "by_size" 17, dfD lw "all_lots" 18, dfD lw "is_tree_in" 19, dfD lw "is_tree" 20, dfD lw "least_of" 21, dfD lw "rings_in" 22, dfD lw "rings_of" 23, dfD lw "without" 24, dfD lw "cuts_in" 25, dfD lw "cuts_of" 26, dfD lw "_law_begun" 28, dfD lw "_law_blended" 29, dfD lw "_law_draw" 30, dfD lw "_law_pick" 31, dfD lw "_law_shuffled" 32, dfD lw "_law_caught" 33, dfD lw "_law_is_truth" 34, dfD lw "_law_same" 35, dfD lw "_law_pieces" 36, dfD lw "_law_rank" 37, dfD lw "_law_lots" 38, dfD lw "_law_made" 39, dfD lw "_law_web" 40, dfD lw "_law_shuffled_web" 41, dfD lw "_law_lot" 42, dfD lw "_law_odd" 43, dfD lw "_law_least" 44, dfD lw "law" 45]
def clsI : List (Nat × Str) := M.clL.map fun p => (p.1, p.2.1)
def clsN : List Str := M.clL.map (·.2.1)
def facts : List He.Fa := M.free.map .free ++ (M.fnL.map fun p => He.Fa.glo p.2.1) ++ [.int "MOST_PLACES" 8, .int "MOST_TIES" 12] ++ clsN.map .glo ++ clsN.map .exc ++ clsN.map .keep ++ (clsN.map fun x => He.Fa.exm x "WebError" true)
def tabs : List He.Defn := [("_law_lots", none), ("law", none)]
abbrev R : PySem.W.OpenRow := PySem.W.OpenLaw.row lw
abbrev subW : Nat → Nat → Bool := fun c k => k == 0 || c == k
abbrev hk : PySem.W.Hook := He.hookX 5 facts defs [] tabs (exT clsI subW tabs)
def ob (s : PySem.W.SharedT) : He.AlX := He.obsX 5 facts defs [] tabs (exT clsI subW tabs) (HandSHeadRun.getT s)
theorem ob_eq (s : PySem.W.SharedT) : ob s = hk.obs s.abs := He.obsX_eq (HandSHeadRun.getT_eq s)
def loose1 : List Str := names.take 30
def loose2 : List Str := names.drop 30
def loose : List Str := loose1 ++ (loose2 ++ (clsN ++ (["MOST_PLACES", "MOST_TIES", "__name__"] : List Str)))
theorem run (w : World) : HandSHeadRun.RunEq R (PySem.W.view R.prog [45]) hk ob 3000 loose w := by
  intro os
  kernel_rfl
end DP.K01

set_option Elab.async false
set_option linter.all false
set_option maxRecDepth 100000
set_option maxHeartbeats 1000000
/-! K01o: a draw. -/
namespace DP.K01
open PySem PySem.Spec PyProof.Rows L2 DP
abbrev stBlend : Stmt := topI lw 29
abbrev stDraw : Stmt := topI lw 30
theorem scDraw : FnScope ["state", "room", "found"] ["state", "room"] (defScope stDraw) := ⟨rfl, rfl, rfl, by decide +kernel, rfl, by decide +kernel, by decide +kernel⟩
section
variable {P : Program} {w : World} {K : PySem.W.Frag} {mg : Str → Option Value} {base : Heap} {m : MG} {r g cl f fb : Addr} {fd fdb : FuncData} {k : Nat}
theorem ok_draw (D : IsDr m K r g cl) (F : FunD K "_law_draw" "_law_draw" (defArgs stDraw) (defBody stDraw) (defScope stDraw) [] [] f fd)
    (GB : FnOk P w K mg base (L2.CX P w) k fb fdb ["state"] (lift m 1 1 sBlend)) (gB : mg "_law_blended" = some (.ref fb)) (kB : PySem.W.keepIn K (.ref fb) = true) (bB : Binds K fdb ["state"] []) (gI : mg "int" = none) :
    FnOk P w K mg base (L2.CX P w) (k + 1) f fd ["state", "room"] (lift m 2 1 sDrawn) := by
  refine F.ok scDraw (fun vs H Q E h => ?_) (fun cdv A outer s H vs Q E hr h => ?_)
  · obtain ⟨A, ds, c, _, rr, hl, _⟩ := h
    rw [← Reps.len rr]; exact hl
  · have hu : (cxOf (L2.CX P w) P w K mg base ["state", "room", "found"] "_law_draw" (defScope stDraw) f cdv A outer s H E).A.units + 80 < cLine := by
      have := hr.un
      show (A.deeper (envOfC _ _ _ _ _)).units + 80 < _
      omega
    have tk : Takes (cxOf (L2.CX P w) P w K mg base ["state", "room", "found"] "_law_draw" (defScope stDraw) f cdv A outer s H E) (fun cls d _ H' => E cls d H') := takes_of rfl rfl rfl rfl
    refine ⟨_, pss_cons (ps_if (pt_cmpR op_eq (pe_dget (by omega) (pv 0) pe_str (fun _ _ => rfl)) pe_int (nomark _))
      (pss_one (ps_dput (by omega) (pv 0) pe_str (pe_ifExp (pt_cmpR (opC_ok (G := m) D.hK.symm hu .ne) (pe_dget (by omega) (pv 0) pe_str (fun _ _ => rfl)) (pe_lst pa_nil) (nomark _))
        (pe_bm PySem.F.plainAttrs_list PySem.F.slot_list_pop PySem.F.type_list_pop mt_popAt (pe_dget (by omega) (pv 0) pe_str (fun _ _ => rfl)) (pa_cons pe_int pa_nil))
        (pe_callS GB hr rfl gB kB bB (fun σ => passAt tk σ) (pa_cons (pv 0) pa_nil))) rfl)) pss_nil)
      (pss_cons (ps_set (i := 2) scDraw.nd rfl (Or.inl rfl) (pe_op op_mod (pe_callTy call_int1 rfl gI rfl (pa_cons (pe_dget (by omega) (pv 0) pe_str (fun _ _ => rfl)) pa_nil)) (pv 1)))
      (pss_cons (ps_dput (by omega) (pv 0) pe_str (pe_op op_fdivW (pe_dget (by omega) (pv 0) pe_str (fun _ _ => rfl)) (pv 1)) rfl) (pss_one (ps_ret (pv 2))))), ?_⟩
    obtain ⟨Aa, ds, c, pre, rep, hl, rm, rfl, r1, r2, q⟩ := h
    have pj := pre.j
    obtain ⟨c', hc, pj⟩ := pj
    rw [D.hJ] at pj
    obtain ⟨tb, gs, cs, rest, turn, dr, t0, t1⟩ := pj
    obtain ⟨v1, vr, rfl, ⟨a, rfl, ha⟩, v2, vr2, rfl, e2, e3⟩ := rep
    have e2 : v2 = .int rm := e2
    have e3 : vr2 = [] := e3
    subst e2 e3
    rw [D.hr] at ha
    cases ha
    refine ⟨_, rfl, r, .int rest, rfl, DGet.k (k := .inr "rest") dr.dd, rfl, _, rfl, ?_⟩
    have t1' : turn + (c + 1 : Nat) ≤ lim := by omega
    have hRr : m.R r := by rw [D.hR]; exact .inl rfl
    have hRg : m.R g := by rw [D.hR]; exact .inr (.inl rfl)
    have fin : ∀ (H1 : Hp) (gs1 cs : List Int) (rest1 turn1 : Int) (x : Option V), DrAt r g cl gs1 cs rest1 turn1 H1 → Kp m.R H H1 → LamX.Tabs m.T H1 → 0 ≤ turn1 → turn1 + c ≤ lim →
        tDrawEnd { nx := fun _ H' => Q .non H', rt := Q } [some (.ref r), some (.int rm), x] H1 := by
      intro H1 gs1 cs rest1 turn1 x dr1 kp1 tb1 p0 p1
      refine draw_end dr1 r1 r2 (q (rest1 % rm) (Int.emod_nonneg _ (by omega)) (Int.emod_lt_of_pos _ (by omega)) _ _ ⟨kp1.trans (Kp.at dr1.dd trivial trivial hRr), ⟨c, Nat.le_refl _, ?_⟩, rfl⟩)
      rw [D.hJ]
      exact ⟨Tabs.at tb1 dr1.dd trivial, gs1, cs, _, _, dr1.put, p0, p1⟩
    by_cases hz : rest = 0
    · subst hz
      show if decide (V.int 0 = V.int 0) = true then _ else _
      rw [if_pos (by simp)]
      refine ⟨_, rfl, r, .ref g, rfl, DGet.k (k := .inr "great") dr.dd, Nat.zero_le _, fun p hp => ⟨fun _ => False, .lst (gs.map .int), .lst [], ⟨g, gs.map V.int, rfl, (dr.new hp).dg, reps_ints2 gs⟩, ⟨p, [], rfl, upd_same, rfl⟩, ints_pln gs, rfl, _, rfl, ?_⟩⟩
      have dr1 := dr.new (o := .lst []) hp
      have tb1 := Tabs.new (o := .lst []) tb hp
      rw [eqq_nil]
      cases gs with
      | cons x gs =>
        show if true = true then _ else _
        rw [if_pos rfl]
        refine ⟨_, rfl, r, .ref g, rfl, DGet.k (k := .inr "great") dr1.dd, .inl ⟨rfl, _, SqL.of dr1.dg⟩, g, (x :: gs).map V.int, 0, 0, .int x, rfl, rfl, dr1.dg, by omega, by omega, by simp [seqIndex?], rfl, ?_⟩
        have dr2 := dr1.pop (gs' := gs)
        refine ⟨_, rfl, r, _, rfl, DPut.k (k := .inr "rest") dr2.dd (by show 4 < sizeLine; rw [sizeLine_eq]; omega), ?_⟩
        rw [dkv_rest]
        refine fin _ gs cs x turn _ dr2.put ?_ ?_ t0 (by omega)
        · exact (Kp.new hp).trans ((Kp.at (o := .lst (gs.map V.int)) dr1.dg trivial trivial hRg).trans (Kp.at dr2.dd trivial trivial hRr))
        · exact Tabs.at (Tabs.at tb1 dr1.dg trivial) dr2.dd trivial
      | nil =>
        show if false = true then _ else _
        rw [if_neg (by simp)]
        refine ⟨_, rfl, Aa, [.res], c, ⟨pre.ra, fun a ha => (Kp.new (A := fun _ => False) hp).d a (pre.ah a ha), c', hc, ?_⟩, ⟨_, _, rfl, ⟨r, rfl, D.hr⟩, rfl⟩, rfl, rfl, fun y v H' ret => ?_⟩
        · rw [D.hJ]
          exact ⟨tb1, [], cs, 0, turn, dr1, t0, t1⟩
        · obtain ⟨c2, hc2, pj⟩ := ret.j
          rw [D.hJ] at pj
          obtain ⟨tb2, gs2, cs2, rest2, turn2, dr2, t02, t12⟩ := pj
          obtain rfl : v = .int y := ret.r
          refine ⟨_, rfl, r, _, rfl, DPut.k (k := .inr "rest") dr2.dd (by show 4 < sizeLine; rw [sizeLine_eq]; omega), ?_⟩
          rw [dkv_rest]
          refine fin _ gs2 cs2 y turn2 _ dr2.put ?_ (Tabs.at tb2 dr2.dd trivial) t02 (by omega)
          exact (Kp.new hp).trans (ret.k.trans (Kp.at dr2.dd trivial trivial hRr))
    · show if decide (V.int rest = V.int 0) = true then _ else _
      rw [if_neg (by simpa using hz)]
      exact fin H gs cs rest turn _ dr (Kp.refl _ _) tb t0 (by omega)
end
end DP.K01

set_option Elab.async false
set_option linter.all false
set_option maxRecDepth 100000
set_option maxHeartbeats 1000000
/-! K01p: the blend. -/
namespace DP.K01
open PySem PySem.Spec PyProof.Rows L2 DP
theorem scBlend : FnScope ["state", "turn", "found", "prime", "blend", "cell"] ["state"] (defScope stBlend) := ⟨rfl, rfl, rfl, by decide +kernel, rfl, by decide +kernel, by decide +kernel⟩
section
variable {P : Program} {w : World} {K : PySem.W.Frag} {mg : Str → Option Value} {base : Heap} {m : MG} {r g cl f : Addr} {fd : FuncData} {k : Nat}
theorem ok_blend (D : IsDr m K r g cl) (F : FunD K "_law_blended" "_law_blended" (defArgs stBlend) (defBody stBlend) (defScope stBlend) [] [] f fd) (gI : mg "int" = none) :
    FnOk P w K mg base (L2.CX P w) (k + 1) f fd ["state"] (lift m 1 1 sBlend) := by
  refine F.ok scBlend (fun vs H Q E h => ?_) (fun cdv A outer s H vs Q E hr h => ?_)
  · obtain ⟨A, ds, c, _, rr, hl, _⟩ := h
    rw [← Reps.len rr]; exact hl
  · have hu : (cxOf (L2.CX P w) P w K mg base ["state", "turn", "found", "prime", "blend", "cell"] "_law_blended" (defScope stBlend) f cdv A outer s H E).A.units + 80 < cLine := by
      have := hr.un
      show (A.deeper (envOfC _ _ _ _ _)).units + 80 < _
      omega
    refine ⟨_, pss_cons (ps_par (i := 1) (j := 2) rfl scBlend.nd rfl rfl (by decide) rfl rfl (pa_cons (pe_op op_add (pe_dget (by omega) (pv 0) pe_str (fun _ _ => rfl)) pe_int) (pa_cons pe_int pa_nil)) rfl)
      (pss_cons (ps_dput (by omega) (pv 0) pe_str (pv 1) rfl)
      (pss_cons (ps_for (passes_of rfl) rfl (pi_list (pe_lst (pa_cons pe_int (pa_cons pe_int (pa_cons pe_int pa_nil))))) (pg_name (i := 3) scBlend.nd rfl (Or.inl rfl))
        (pss_cons (ps_set (i := 4) scBlend.nd rfl (Or.inl rfl) (pe_op op_add (pe_op op_mul pe_int (pv 1)) (pe_op op_fdiv (pv 3) pe_int)))
        (pss_cons (ps_for (passes_of rfl) rfl (pi_list (pe_dget (by omega) (pv 0) pe_str (fun _ _ => rfl))) (pg_name (i := 5) scBlend.nd rfl (Or.inl rfl))
          (pss_one (ps_set (i := 4) scBlend.nd rfl (Or.inl rfl) (pe_op op_mod (pe_callTy call_int1 rfl gI rfl (pa_cons (pe_op op_add (pe_op op_add (pe_op op_mul (pv 4) pe_int) (pv 5)) (pv 1)) pa_nil)) (pv 3)))))
        (pss_one (ps_set (i := 2) scBlend.nd rfl (Or.inl rfl) (pe_op op_add (pe_op op_mul (pv 2) pe_int) (pe_op op_mod (pe_callTy call_int1 rfl gI rfl (pa_cons (pe_op op_pow (pv 4) pe_int) pa_nil)) (pv 3))))))))
      (pss_one (ps_ret (pv 2))))), ?_⟩
    obtain ⟨Aa, ds, c, pre, rep, hl, rfl, q⟩ := h
    obtain ⟨c', hc, pj⟩ := pre.j
    rw [D.hJ] at pj
    obtain ⟨tb, gs, cs, rest, turn, dr, t0, t1⟩ := pj
    obtain ⟨v1, vr, rfl, ⟨a, rfl, ha⟩, e3⟩ := rep
    have e3 : vr = [] := e3
    subst e3
    rw [D.hr] at ha
    cases ha
    have hRr : m.R r := by rw [D.hR]; exact .inl rfl
    have sz : 1000 < sizeLine := by rw [sizeLine_eq]; omega
    have tl : turn < 1000000 := by have : lim = 1000000 := rfl; omega
    refine ⟨_, rfl, r, .int turn, rfl, DGet.k (k := .inr "turn") dr.dd, turn, 1, rfl, rfl, _, _, rfl, ?_⟩
    refine ⟨_, rfl, _, rfl, r, _, rfl, DPut.k (k := .inr "turn") dr.dd (by show 4 < sizeLine; omega), ?_⟩
    rw [dkv_turn]
    have dr1 := dr.put (rest' := rest) (turn' := turn + 1)
    have tb1 := Tabs.at (o := .dK (dkv g cl rest (turn + 1))) tb dr.dd trivial
    have kp1 : Kp m.R H (upd H r (.dK (dkv g cl rest (turn + 1)))) := Kp.at dr.dd trivial trivial hRr
    generalize upd H r (.dK (dkv g cl rest (turn + 1))) = H1 at *
    refine ⟨by show 3 ≤ sizeLine; omega, fun p hp => ?_⟩
    have dr2 := dr1.new (o := .lst [.int 2147483579, .int 2147483629, .int 2147483563]) hp
    have tb2 := Tabs.new (o := .lst [.int 2147483579, .int 2147483629, .int 2147483563]) tb1 hp
    have kp2 : Kp m.R H (upd H1 p (.lst [.int 2147483579, .int 2147483629, .int 2147483563])) := kp1.trans (Kp.new hp)
    have hl2 : upd H1 p (.lst [.int 2147483579, .int 2147483629, .int 2147483563]) p = some (.lst [.int 2147483579, .int 2147483629, .int 2147483563]) := upd_same
    generalize upd H1 p (.lst [.int 2147483579, .int 2147483629, .int 2147483563]) = H2 at *
    refine ⟨p, rfl, ⟨_, SqL.of hl2⟩, for_list (xs := [.int 2147483579, .int 2147483629, .int 2147483563]) (fun i σ H' => H' = H2 ∧ ∃ (found : Int) (x3 x4 x5 : Option V), σ = [some (.ref r), some (.int (turn + 1)), some (.int found), x3, x4, x5])
      ⟨rfl, 0, _, _, _, rfl⟩ (fun i σ H' _ ⟨e, _⟩ => by rw [e]; exact SqL.of hl2) (fun i x σ H' hx ⟨e, found, x3, x4, x5, es⟩ => ?_) (fun σ H' ⟨e, found, x3, x4, x5, es⟩ => ?_)⟩
    · subst e es
      obtain ⟨pr, rfl, p0, p1⟩ : ∃ pr : Int, x = .int pr ∧ 0 < pr ∧ pr ≤ 2147483629 := by
        match i, hx with
        | 0, h => cases h; exact ⟨_, rfl, by omega, by omega⟩
        | 1, h => cases h; exact ⟨_, rfl, by omega, by omega⟩
        | 2, h => cases h; exact ⟨_, rfl, by omega, by omega⟩
        | n + 3, h => simp at h
      have b0 : 0 ≤ pr / 53 ∧ pr / 53 ≤ 2147483629 := by omega
      refine ⟨_, rfl, 48271, turn + 1, rfl, rfl, .inl ⟨by omega, by omega⟩, _, rfl, pr, 53, rfl, rfl, ⟨by decide, by decide⟩, _, _, rfl, rfl, ?_⟩
      refine ⟨_, rfl, r, .ref cl, rfl, DGet.k (k := .inr "cells") dr2.dd, cl, rfl, ⟨_, SqL.of dr2.dc⟩, for_list (xs := cs.map V.int) (fun i σ H'' => H'' = H' ∧ ∃ (b : Int) (y5 : Option V), σ = [some (.ref r), some (.int (turn + 1)), some (.int found), some (.int pr), some (.int b), y5] ∧ 0 ≤ b ∧ b < 2 ^ 40)
        ⟨rfl, _, _, rfl, by omega, by omega⟩ (fun i σ H' _ ⟨e, _⟩ => by rw [e]; exact SqL.of dr2.dc) (fun j x σ H'' hx ⟨e, b, y5, es, h0, h1⟩ => ?_) (fun σ H'' ⟨e, b, y5, es, h0, h1⟩ => ?_)⟩
      · subst e es
        obtain ⟨cell, _, rfl⟩ : ∃ cell, cs[j]? = some cell ∧ V.int cell = x := by
          rw [List.getElem?_map] at hx
          cases e : cs[j]? with
          | none => rw [e] at hx; cases hx
          | some cell => rw [e] at hx; cases hx; exact ⟨cell, rfl, rfl⟩
        refine ⟨_, rfl, b, 69621, rfl, rfl, .inl ⟨by omega, by omega⟩, _, rfl, _, _, rfl, rfl, _, rfl, _, _, rfl, rfl, .inl ⟨_, rfl, _, rfl, _, pr, rfl, rfl, p0, ?_⟩⟩
        exact ⟨rfl, _, _, rfl, Int.emod_nonneg _ (by omega), Int.lt_of_lt_of_le (Int.emod_lt_of_pos _ p0) (by omega)⟩
      · subst e es
        refine ⟨_, rfl, found, 2147483647, rfl, rfl, .inr ⟨by omega, by omega⟩, _, rfl, b, 5, rfl, rfl, ⟨by decide, by decide, by omega⟩, .inl ⟨_, rfl, _, rfl, _, pr, rfl, rfl, p0, _, _, rfl, rfl, ?_⟩⟩
        exact ⟨rfl, _, _, _, _, rfl⟩
    · subst e es
      refine ⟨_, rfl, q found _ _ ⟨kp2, ⟨c, Nat.le_refl _, ?_⟩, rfl⟩⟩
      rw [D.hJ]
      exact ⟨tb2, gs, cs, rest, turn + 1, dr2, by omega, by omega⟩
end
end DP.K01

set_option Elab.async false
set_option linter.all false
set_option maxRecDepth 100000
set_option maxHeartbeats 1000000
/-! K01q: how the draws begin. -/
namespace DP.K01
open PySem PySem.Spec PyProof.Rows L2 DP
abbrev stBegun : Stmt := topI lw 28
theorem scBegun : FnScope ["script", "great", "cell"] ["script"] (defScope stBegun) := ⟨rfl, rfl, rfl, by decide +kernel, rfl, by decide +kernel, by decide +kernel⟩
section
variable {P : Program} {w : World} {K : PySem.W.Frag} {mg : Str → Option Value} {base : Heap} {f : Addr} {fd : FuncData} {k : Nat}
theorem ok_begun (F : FunD K "_law_begun" "_law_begun" (defArgs stBegun) (defBody stBegun) (defScope stBegun) [] [] f fd) (gA : mg "abs" = none) :
    FnOk P w K mg base (L2.CX P w) (k + 1) f fd ["script"] (spBegun K) := by
  refine F.ok scBegun (fun vs H Q E h => ?_) (fun cdv A outer s H vs Q E hr h => ?_)
  · obtain ⟨a, ns, rfl, _⟩ := h
    rfl
  · refine ⟨_, pss_cons (ps_setLc (i := 1) (own := [("cell", 2)]) rfl scBegun.nd rfl rfl rfl (pi_list (pv 0)) (blkOk_by (N := ["script", "great", "cell"]) (sc := defScope stBegun) (by decide +kernel)) (fun _ _ _ _ _ => pg_name (i := 2) scBegun.nd rfl (Or.inl rfl))
      (fun _ _ _ _ _ => pts_one (pt_cmpR op_ge (pe_callB call_abs rfl gA rfl (pa_cons (pv 2) pa_nil)) (pe_op op_pow pe_int pe_int) (nomark _)))
      (fun _ _ _ _ _ => pe_op op_sub (pe_callB call_abs rfl gA rfl (pa_cons (pv 2) pa_nil)) (pe_op op_pow pe_int pe_int)))
      (pss_one (ps_ret (pe_disp (pps_cons pe_str (pv 1) (pps_cons pe_str (pe_lc (own := [("cell", 2)]) rfl scBegun.nd (pi_list (pv 0)) (blkOk_by (N := ["script", "great", "cell"]) (sc := defScope stBegun) (by decide +kernel)) (fun _ _ _ _ _ => pg_name (i := 2) scBegun.nd rfl (Or.inl rfl)) (fun _ _ _ _ _ => pts_nil)
        (fun _ _ _ _ _ => pe_callB call_abs rfl gA rfl (pa_cons (pv 2) pa_nil))) (pps_cons pe_str pe_int (pps_cons pe_str pe_int pps_nil)))) rfl rfl (by decide) (by decide)))), ?_⟩
    obtain ⟨a, ns, rfl, sq, hl, q⟩ := h
    refine ⟨_, rfl, a, rfl, ⟨_, sq⟩, fun g hg => lc_list (xs := ns.map V.int) (fun i H' => Gr H H' ∧ ∃ gs : List Int, H' g = some (.lst (gs.map V.int)) ∧ gs.length ≤ i) ⟨.new hg, [], upd_same, Nat.le_refl _⟩ (fun i H' _ ⟨e, _⟩ => e.sql sq) (fun i x H' hx ⟨e, gs, h1, h2⟩ => ?_) (fun H' ⟨e, gs, h1, h2⟩ => ?_)⟩
    · obtain ⟨cell, _, rfl⟩ : ∃ cell, ns[i]? = some cell ∧ V.int cell = x := by
        rw [List.getElem?_map] at hx
        cases e : ns[i]? with
        | none => rw [e] at hx; cases hx
        | some cell => rw [e] at hx; cases hx; exact ⟨cell, rfl, rfl⟩
      have hi : i < ns.length := by
        have := (List.getElem?_eq_some_iff.mp hx).1
        simpa using this
      have cp : CPow 10 18 := ⟨by decide, by decide, by decide⟩
      refine ⟨rfl, _, rfl, cell, rfl, 10, 18, rfl, rfl, cp, _, _, rfl, rfl, _, rfl, ?_⟩
      refine iteB (fun _ => ?_) fun _ => ⟨e, gs, h1, by omega⟩
      refine ⟨_, rfl, cell, rfl, 10, 18, rfl, rfl, cp, _, _, rfl, rfl, _, h1, by rw [List.length_map]; omega, e.at hg, gs ++ [(if cell < 0 then -cell else cell) - 10 ^ Int.toNat 18], ?_, ?_⟩
      · rw [upd_same, List.map_append]; rfl
      · rw [List.length_append, List.length_singleton]; omega
    · refine fun r hr => ⟨_, rfl, _, rfl, a, rfl, ⟨_, (e.trans (.new hr)).sql sq⟩, fun cl hcl => lc_list (xs := ns.map V.int) (fun i H'' => Gr (upd H' r (.dK [])) H'' ∧ ∃ cs : List Int, H'' cl = some (.lst (cs.map V.int)) ∧ cs.length ≤ i) ⟨.new hcl, [], upd_same, Nat.le_refl _⟩ (fun i H'' _ ⟨e2, _⟩ => (e.trans ((Gr.new hr).trans e2)).sql sq) (fun i x H'' hx ⟨e2, cs, h3, h4⟩ => ?_) (fun H'' ⟨e2, cs, h3, h4⟩ => ?_)⟩
      · obtain ⟨cell, _, rfl⟩ : ∃ cell, ns[i]? = some cell ∧ V.int cell = x := by
          rw [List.getElem?_map] at hx
          cases e : ns[i]? with
          | none => rw [e] at hx; cases hx
          | some cell => rw [e] at hx; cases hx; exact ⟨cell, rfl, rfl⟩
        have hi : i < ns.length := by
          have := (List.getElem?_eq_some_iff.mp hx).1
          simpa using this
        refine ⟨rfl, ?_⟩
        refine yes_of ?_
        refine ⟨_, rfl, cell, rfl, _, h3, by rw [List.length_map]; omega, e2.at hcl, cs ++ [if cell < 0 then -cell else cell], ?_, ?_⟩
        · rw [upd_same, List.map_append]; rfl
        · rw [List.length_append, List.length_singleton]; omega
      · have hr1 : H'' r = some (.dK []) := e2 _ _ upd_same
        refine ⟨hr1, [(.inr "great", .ref g), (.inr "cells", .ref cl), (.inr "rest", .int 0), (.inr "turn", .int 0)], rfl, by show 4 ≤ 15; omega, ?_⟩
        have hg2 : H'' g = some (.lst (gs.map V.int)) := e2 _ _ (by rw [upd_ne (ne_of_none h1 hr)]; exact h1)
        have ne1 : g ≠ r := fun z => by rw [z, hr1] at hg2; cases hg2
        have ne2 : cl ≠ r := fun z => by rw [z, hr1] at h3; cases h3
        have ne3 : g ≠ cl := fun z => by
          have : upd H' r (.dK []) g = some (.lst (gs.map V.int)) := by rw [upd_ne ne1]; exact h1
          rw [z, hcl] at this
          cases this
        have hr0 : H r = none := e.none hr
        refine q r g cl gs cs _ ((e.trans ((Gr.new hr).trans e2)).at hr0) ⟨by rw [upd_same]; rfl, by rw [upd_ne ne1]; exact hg2, by rw [upd_ne ne2]; exact h3, ne3⟩ hr0 hg ((e.trans (Gr.new hr)).none hcl)
end
end DP.K01

set_option Elab.async false
set_option linter.all false
set_option maxRecDepth 100000
set_option maxHeartbeats 1000000
/-! K01a: law k01's own defs. -/
namespace DP.K01
open PySem PySem.Spec PyProof.Rows L2 DP DP.L
def fsW (f : Nat) : FSpec := match f with | 36 => sLeast | _ => sNo
def hds : List (Nat × Nat) := []
def own : Own := ⟨fsW, fun _ => 0, fun f => hds.lookup f⟩
theorem cmonoW : CMono (Cx own) := cmono fun f => by
  intro ds Q Q' X X' hq hx h
  have h : fsW f ds Q X := h
  show fsW f ds Q' X'
  unfold fsW at h ⊢
  split at h
  · obtain ⟨v, e, s, q⟩ := h; exact ⟨v, e, s, hq _ _ q⟩
  · exact h.elim
end DP.K01

set_option Elab.async false
set_option linter.all false
set_option maxRecDepth 100000
set_option maxHeartbeats 1000000
/-! LAb: the tests of values. -/
namespace DP.L
open PySem PySem.Spec PyProof.Rows L2 DP
variable {o : Own}
section
variable {Q : D → Bool → Prop} {X : D → Prop} {v : D} {n b : Int} {ts : List (Int × Int)} {ps : List (Int × Int)} {l : List Int}
theorem q0 (h : Sd v) : sWhole [v] Q X = Q (.bl (isInt? v).isSome) false := propext ⟨fun ⟨_, e, _, q⟩ => by cases e; exact q, fun q => ⟨_, rfl, h, q⟩⟩
theorem q1 (h : Sd v) : sBelow [v, .int b] Q X = Q (.bl (belowB v b)) false := propext ⟨fun ⟨_, _, e, _, q⟩ => by cases e; exact q, fun q => ⟨_, _, rfl, h, q⟩⟩
theorem q2 (h : Sd v) : sPair [.int n, v] Q X = Q (.bl (pairB n v)) false := propext ⟨fun ⟨_, _, e, _, q⟩ => by cases e; exact q, fun q => ⟨_, _, rfl, h, q⟩⟩
theorem q3 (h : Sd v) : sWeb [v] Q X = Q (.bl (webB v)) false := propext ⟨fun ⟨_, e, _, q⟩ => by cases e; exact q, fun q => ⟨_, rfl, h, q⟩⟩
theorem q4 (h : Sd v) : sNeedWeb [v] Q X = ((webB v = false → X (.exc 1 [])) ∧ (webB v = true → Q .non false)) := propext ⟨fun ⟨_, e, _, q⟩ => by cases e; exact q, fun q => ⟨_, rfl, h, q⟩⟩
end
theorem Sd.ty {v : D} (h : Sd v) : (tyIs v).isSome = true := by cases h <;> rfl
theorem w_whole (ds : List D) (Q : D → Bool → Prop) (X : D → Prop) (h : sWhole ds Q X) : wdef (Cx o) N_is_whole.length c_is_whole ds Q X := by
  obtain ⟨v, rfl, s, q⟩ := h
  refine w_def ?_
  cases s <;> simp_all [c_is_whole, N_is_whole, isInt?]
theorem w_below (ds : List D) (Q : D → Bool → Prop) (X : D → Prop) (h : sBelow ds Q X) : wdef (Cx o) N_is_below.length c_is_below ds Q X := by
  obtain ⟨v, b, rfl, s, q⟩ := h
  refine w_def ?_
  have s' := s
  cases s <;> simp_all [c_is_below, N_is_below, f0, q0, isInt?, belowB]
  split <;> simp_all
theorem sd_line {n : Nat} (h : n ≤ 1000) : n ≤ sizeLine := by rw [sizeLine_eq]; omega
theorem below_int {v : D} {n : Int} (h : belowB v n = true) : ∃ i, v = .int i ∧ 0 ≤ i ∧ i < n := by
  cases v <;> simp [belowB] at h
  exact ⟨_, rfl, h⟩
theorem at0 {α : Type} {a : α} {r : List α} : L2.atI (a :: r) 0 = some a := L2.atI_nat (j := 0) rfl
theorem at1 {α : Type} {a b : α} {r : List α} : L2.atI (a :: b :: r) 1 = some b := L2.atI_nat (j := 1) rfl
theorem at2 {α : Type} {a b c : α} {r : List α} : L2.atI (a :: b :: c :: r) 2 = some c := L2.atI_nat (j := 2) rfl
theorem at_map {α : Type} {f : α → D} {d : α} {xs : List α} {i : Int} (h0 : 0 ≤ i) (h1 : i < xs.length) : L2.atI (xs.map f) i = some (f (xs.getD i.toNat d)) := by
  have e : i = ((i.toNat : Nat) : Int) := by omega
  have hl : i.toNat < xs.length := by omega
  rw [e]
  refine L2.atI_nat ?_
  have e2 : ((i.toNat : Nat) : Int).toNat = i.toNat := by omega
  rw [List.getElem?_map, List.getElem?_eq_getElem hl, e2]
  simp [List.getD, hl]
theorem w_pair (ds : List D) (Q : D → Bool → Prop) (X : D → Prop) (h : sPair ds Q X) : wdef (Cx o) N_is_pair.length c_is_pair ds Q X := by
  obtain ⟨n, v, rfl, s, q⟩ := h
  refine w_def ?_
  cases s with
  | tup hl hs =>
    rename_i es
    by_cases h2 : es.length = 2
    · obtain ⟨a, b, rfl⟩ : ∃ a b, es = [a, b] := by
        match es, h2 with
        | [a, b], _ => exact ⟨a, b, rfl⟩
      simp [c_is_pair, N_is_pair]
      refine lk_map (fun e => .bl (belowB e n)) rfl trivial rfl rfl (sd_line hl) (fun x hx as P ha hP => ?_) ?_
      · simp [f1, q1 (hs x hx), ha]
        simpa using hP
      · have hbs : bls? [D.bl (belowB a n), D.bl (belowB b n)] = some [belowB a n, belowB b n] := rfl
        simp [hbs]
        cases hab : belowB a n <;> cases hbb : belowB b n <;> simp_all [pairB]
        obtain ⟨i, rfl, _⟩ := below_int hab
        obtain ⟨j, rfl, _⟩ := below_int hbb
        simp [at0, at1]
        simpa [leB] using q
    · have e : pairB n (.tup es) = false := by
        unfold pairB
        split
        · rename_i e; cases e; simp at h2
        · rfl
      have e3 : ((es.length : Int) == 2) = false := by simp; omega
      rw [e] at q
      simp [c_is_pair, N_is_pair, e3, q]
  | _ => simp_all [c_is_pair, N_is_pair, pairB]
theorem Sd.pln_str {x : Str} (h : Sd (.str x)) : PyData.strOk x = true := by cases h; assumption
theorem cst0 : (Cx o).cst 0 = .int 8 := rfl
theorem cst1 : (Cx o).cst 1 = .int 12 := rfl
theorem ok_web : PyData.strOk ("web" : Str) = true := by decide +kernel
@[simp] theorem pln_web : D.pln (.str "web") 60 = true := ok_web
@[simp] theorem eqq_str {x y : Str} : D.eqq (.str x) (.str y) = (x == y) := rfl
theorem ty3 {v : D} (h : Sd v) (hn : ∀ x, v ≠ .str x) : ∃ m, tyIs v = some m ∧ ¬ m = "str" := by
  cases h <;> first | exact ⟨_, rfl, by decide⟩ | exact absurd rfl (hn _)
theorem tyt {v : D} (h : Sd v) (hn : ∀ x, v ≠ .tup x) : ∃ m, tyIs v = some m ∧ ¬ m = "tuple" := by
  cases h <;> first | exact ⟨_, rfl, by decide⟩ | exact absurd rfl (hn _)
theorem webB_tup {v : D} (hn : ∀ es, v ≠ .tup es) : webB v = false := by
  cases v <;> first | rfl | exact absurd rfl (hn _)
theorem webB_3 {es : List D} (hn : es.length ≠ 3) : webB (.tup es) = false := by
  unfold webB
  split
  · rename_i e; cases e; simp at hn
  · rfl
theorem webB_s {a b c : D} (hn : ∀ x, a ≠ .str x) : webB (.tup [a, b, c]) = false := by
  unfold webB
  split
  · rename_i e; cases e; exact absurd rfl (hn _)
  · rfl
theorem webB_i {a b c : D} (hn : ∀ x, b ≠ .int x) : webB (.tup [a, b, c]) = false := by
  unfold webB
  split
  · rename_i e; cases e; exact absurd rfl (hn _)
  · rfl
theorem webB_t {a b c : D} (hn : ∀ x, c ≠ .tup x) : webB (.tup [a, b, c]) = false := by
  unfold webB
  split
  · rename_i e; cases e; exact absurd rfl (hn _)
  · rfl
theorem w_web (ds : List D) (Q : D → Bool → Prop) (X : D → Prop) (h : sWeb ds Q X) : wdef (Cx o) N_is_web.length c_is_web ds Q X := by
  obtain ⟨v, rfl, s, q⟩ := h
  refine w_def ?_
  by_cases ht : ∃ es, v = .tup es
  · obtain ⟨es, rfl⟩ := ht
    cases s with | tup hl hs => ?_
    by_cases h3 : es.length = 3
    · obtain ⟨a, b, c, rfl⟩ : ∃ a b c, es = [a, b, c] := by
        match es, h3 with
        | [a, b, c], _ => exact ⟨a, b, c, rfl⟩
      have sa := hs a (by simp)
      have sb := hs b (by simp)
      have sc := hs c (by simp)
      by_cases hsx : ∃ x, a = .str x
      · obtain ⟨x, rfl⟩ := hsx
        have ox := sa.pln_str
        by_cases hx : x = "web"
        · subst hx
          by_cases hi : ∃ n, b = .int n
          · obtain ⟨n, rfl⟩ := hi
            by_cases hct : ∃ ts, c = .tup ts
            · obtain ⟨ts, rfl⟩ := hct
              cases sc with | tup hlt hst => ?_
              by_cases h1 : 1 ≤ n <;> by_cases h8 : n ≤ 8
              · have hbs : bls? (ts.map fun x => .bl (pairB n x)) = some (ts.map (pairB n)) := bls_map
                by_cases h12 : ts.length ≤ 12
                · have h12' : (ts.length : Int) ≤ 12 := by omega
                  simp [c_is_web, N_is_web, at0, at1, at2, f0, q0 sb, isInt?, h1, h8, cst0, cst1, ok_web, h12']
                  refine lk_map (fun e => .bl (pairB n e)) rfl trivial rfl rfl (sd_line hlt) (fun x hx as P ha hP => ?_) ?_
                  · simp [at1, f2, q2 (hst x hx), ha]
                    simpa using hP
                  · simp [hbs]
                    simpa [webB, h1, h8, h12] using q
                · have h12' : ¬ (ts.length : Int) ≤ 12 := by omega
                  simp [c_is_web, N_is_web, at0, at1, at2, f0, q0 sb, isInt?, h1, h8, cst0, cst1, ok_web, h12']
                  simpa [webB, h1, h8, h12] using q
              all_goals
                simp [c_is_web, N_is_web, at0, at1, at2, f0, q0 sb, isInt?, h1, h8, cst0, cst1, ok_web]
                simpa [webB, h1, h8] using q
            · have e := webB_t (a := .str "web") (b := .int n) (c := c) fun x e => hct ⟨x, e⟩
              rw [e] at q
              obtain ⟨m, hm, hm2⟩ := tyt sc fun x e => hct ⟨x, e⟩
              simp [c_is_web, N_is_web, at0, at1, at2, f0, q0 sb, isInt?, cst0, cst1, ok_web, hm, hm2, q]
          · have e := webB_i (a := .str "web") (b := b) (c := c) fun x e => hi ⟨x, e⟩
            rw [e] at q
            have e2 : isInt? b = none := by cases b <;> first | rfl | exact absurd ⟨_, rfl⟩ hi
            simp [c_is_web, N_is_web, at0, at1, at2, f0, q0 sb, e2, ok_web, q]
        · have e : webB (.tup [.str x, b, c]) = false := by
            unfold webB
            split
            · rename_i e; cases e
              have : (x == ("web" : Str)) = false := by simpa using hx
              simp [this]
            · rfl
          rw [e] at q
          have hx' : (x == ("web" : Str)) = false := by simpa using hx
          simp [c_is_web, N_is_web, at0, at1, at2, ox, hx', ok_web, q]
      · have e := webB_s (a := a) (b := b) (c := c) fun x e => hsx ⟨x, e⟩
        rw [e] at q
        obtain ⟨m, hm, hm2⟩ := ty3 sa fun x e => hsx ⟨x, e⟩
        simp [c_is_web, N_is_web, at0, hm, hm2, q]
    · have e := webB_3 h3
      rw [e] at q
      have e3 : ((es.length : Int) == 3) = false := by simp; omega
      simp [c_is_web, N_is_web, e3, q]
  · have e := webB_tup fun es e => ht ⟨es, e⟩
    rw [e] at q
    obtain ⟨m, hm, hm2⟩ := tyt s fun x e => ht ⟨x, e⟩
    simp [c_is_web, N_is_web, hm, hm2, q]
end DP.L

set_option Elab.async false
set_option linter.all false
set_option maxRecDepth 100000
set_option maxHeartbeats 1000000
/-! LAd: webs and lots needed. -/
namespace DP.L
open PySem PySem.Spec PyProof.Rows L2 DP
variable {o : Own}
theorem fld1 : (Cx o).fld 1 = none := rfl
theorem fld2 : (Cx o).fld 2 = none := rfl
theorem w_needWeb (ds : List D) (Q : D → Bool → Prop) (X : D → Prop) (h : sNeedWeb ds Q X) : wdef (Cx o) N_need_web.length c_need_web ds Q X := by
  obtain ⟨v, rfl, s, q1, q2⟩ := h
  refine w_def ?_
  cases hw : webB v <;> simp [c_need_web, N_need_web, f3, q3 s, hw, y_raise0 fld1, q1, q2]
section
variable {Q : D → Bool → Prop} {X : D → Prop} {v : D} {n b : Int} {ts : List (Int × Int)} {ps : List (Int × Int)} {l : List Int}
theorem webD_inj {n m : Int} {ts us : List (Int × Int)} (h : webD n ts = webD m us) : n = m ∧ ts = us := by
  simp only [webD, D.tup.injEq, List.cons.injEq, D.int.injEq, and_true, true_and] at h
  obtain ⟨rfl, h⟩ := h
  refine ⟨rfl, ?_⟩
  have inj : ∀ {xs ys : List (Int × Int)}, xs.map pairD = ys.map pairD → xs = ys := by
    intro xs
    induction xs with
    | nil => intro ys h; cases ys with
      | nil => rfl
      | cons _ _ => cases h
    | cons x xs ih => intro ys h; cases ys with
      | nil => cases h
      | cons y ys =>
        simp only [List.map_cons, List.cons.injEq, pairD, D.tup.injEq, D.int.injEq, and_true] at h
        rw [ih h.2]
        obtain ⟨⟨h1, h2⟩, _⟩ := h
        cases x; cases y; simp at h1 h2; subst h1 h2; rfl
  exact inj h
theorem q5 (g : GW n ts) (h : Sd v) : sLot [webD n ts, v] Q X = Q (.bl (lotB ts.length v)) false := propext ⟨fun ⟨_, _, _, e, _, _, q⟩ => by
  simp only [List.cons.injEq, and_true] at e; obtain ⟨e1, rfl⟩ := e; obtain ⟨rfl, rfl⟩ := webD_inj e1; exact q, fun q => ⟨_, _, _, rfl, g, h, q⟩⟩
theorem q6 (g : GW n ts) (h : Sd v) : sNeedLot [webD n ts, v] Q X = ((lotB ts.length v = false → X (.exc 2 [])) ∧ (lotB ts.length v = true → Q .non false)) := propext ⟨fun ⟨_, _, _, e, _, _, q⟩ => by
  simp only [List.cons.injEq, and_true] at e; obtain ⟨e1, rfl⟩ := e; obtain ⟨rfl, rfl⟩ := webD_inj e1; exact q, fun q => ⟨_, _, _, rfl, g, h, q⟩⟩
end
theorem w_needLot (ds : List D) (Q : D → Bool → Prop) (X : D → Prop) (h : sNeedLot ds Q X) : wdef (Cx o) N_need_lot.length c_need_lot ds Q X := by
  obtain ⟨n, ts, v, rfl, g, s, q1, q2⟩ := h
  refine w_def ?_
  cases hw : lotB ts.length v <;> simp [c_need_lot, N_need_lot, f5, q5 g s, hw, y_raise0 fld2, q1, q2]
theorem cut1 {α : Type} (xs : List α) : cutL xs (some 1) none = xs.tail := by
  unfold cutL HT.sIx
  cases xs with
  | nil => simp
  | cons x xs => simp
def ltF : D → D | .tup [a, b] => .bl (ltB a b) | _ => .non
theorem w_lot (ds : List D) (Q : D → Bool → Prop) (X : D → Prop) (h : sLot ds Q X) : wdef (Cx o) N_is_lot.length c_is_lot ds Q X := by
  obtain ⟨n, ts, v, rfl, g, s, q⟩ := h
  refine w_def ?_
  by_cases ht : ∃ es, v = .tup es
  · obtain ⟨es, rfl⟩ := ht
    cases s with | tup hl hs => ?_
    simp [c_is_lot, N_is_lot, webD]
    refine lk_map (fun e => .bl (belowB e ts.length)) rfl trivial rfl rfl (sd_line hl) (fun x hx as P ha hP => ?_) ?_
    · simp [webD, at2, f1, q1 (hs x hx), ha]
      simpa using hP
    · have hbs : bls? (es.map fun e => .bl (belowB e ts.length)) = some (es.map fun e => belowB e ts.length) := bls_map
      cases hb : es.all fun e => belowB e ts.length
      · have e2 : (es.map fun e => belowB e ts.length).all id = false := by rw [List.all_map]; exact hb
        have e3 : lotB ts.length (.tup es) = false := by simp only [lotB, hb]; rfl
        rw [e3] at q
        simp [hbs]
        rw [if_pos (by simpa using hb)]
        exact q
      · have hall : ∀ e ∈ es, ∃ i, e = .int i ∧ 0 ≤ i ∧ i < ts.length := fun e he => below_int (by simpa using (List.all_eq_true.mp hb) e he)
        simp [hbs]
        rw [if_neg (by simpa using hb), cut1]
        refine lk_map ltF rfl trivial rfl rfl (by simp; have := sd_line hl; omega) (fun x hx as P ha hP => ?_) ?_
        · obtain ⟨p, hp, rfl⟩ := List.mem_map.mp hx
          obtain ⟨i, hi, _⟩ := hall p.1 (List.of_mem_zip hp).1
          obtain ⟨j, hj, _⟩ := hall p.2 (List.mem_of_mem_tail (List.of_mem_zip hp).2)
          simp [hi, hj, ha]
          simpa [ltF, hi, hj, ltB] using hP
        · have e4 : ∀ l : List (D × D), bls? (l.map (ltF ∘ fun p => D.tup [p.1, p.2])) = some (l.map fun p => ltB p.1 p.2) := fun l => bls_map (α := D × D) (l := l) (f := fun p => ltB p.1 p.2)
          simp [e4]
          have e3 : lotB ts.length (.tup es) = ((es.zip es.tail).map fun p => ltB p.1 p.2).all id := by
            simp only [lotB, hb, Bool.true_and, List.all_map]
            rfl
          rw [e3] at q
          simpa using q
  · obtain ⟨m, hm, hm2⟩ := tyt s fun x e => ht ⟨x, e⟩
    have e : lotB ts.length v = false := by cases v <;> first | rfl | exact absurd ⟨_, rfl⟩ ht
    rw [e] at q
    simp [c_is_lot, N_is_lot, hm, hm2, q]
theorem pairB_f {n : Int} {v : D} (h : ∀ a b, v ≠ .tup [a, b]) : pairB n v = false := by
  unfold pairB
  split
  · exact absurd rfl (h _ _)
  · rfl
theorem w_lawWeb (ds : List D) (Q : D → Bool → Prop) (X : D → Prop) (h : sWeb ds Q X) : wdef (Cx o) N__law_is_web.length c__law_is_web ds Q X := by
  obtain ⟨v, rfl, s, q⟩ := h
  refine w_def ?_
  by_cases ht : ∃ es, v = .tup es
  · obtain ⟨es, rfl⟩ := ht
    cases s with | tup hl hs => ?_
    by_cases h3 : es.length = 3
    · obtain ⟨a, b, c, rfl⟩ : ∃ a b c, es = [a, b, c] := by
        match es, h3 with
        | [a, b, c], _ => exact ⟨a, b, c, rfl⟩
      have sa := hs a (by simp)
      have sb := hs b (by simp)
      have sc := hs c (by simp)
      by_cases hsx : ∃ x, a = .str x
      · obtain ⟨x, rfl⟩ := hsx
        have ox := sa.pln_str
        by_cases hx : x = "web"
        · subst hx
          by_cases hi : ∃ n, b = .int n
          · obtain ⟨n, rfl⟩ := hi
            by_cases hct : ∃ ts, c = .tup ts
            · obtain ⟨ts, rfl⟩ := hct
              cases sc with | tup hlt hst => ?_
              by_cases h1 : 1 ≤ n <;> by_cases h8 : n ≤ 8
              · by_cases h12 : ts.length ≤ 12
                · have h12' : ¬ (12 < (ts.length : Int)) := by omega
                  simp [c__law_is_web, N__law_is_web, at0, at1, at2, h1, h8, ok_web, h12']
                  have hq : webB (.tup [.str "web", .int n, .tup ts]) = ts.all (pairB n) := by simp [webB, h1, h8, h12]
                  rw [hq] at q
                  refine fk_any (fun pre l => (∃ x3, l = [.sh (.tup [.str "web", .int n, .tup ts]), .sh (.int n), .sh (.tup ts), x3, .emp]) ∧ pre.all (pairB n) = true) rfl trivial rfl rfl ⟨⟨_, rfl⟩, rfl⟩ (fun pre x post hxs l ⟨⟨x3, hl⟩, hpre⟩ K Bk hK => ?_) (fun l ⟨⟨x3, hl⟩, hpre⟩ => ?_)
                  · subst hl
                    have hsx := hst x (by rw [hxs]; simp)
                    have hno : pairB n x = false → Q (.bl false) false := fun e => by
                      have : ts.all (pairB n) = false := by rw [hxs]; simp [e]
                      rw [this] at q
                      exact q
                    by_cases htx : ∃ es, x = .tup es
                    · obtain ⟨es, rfl⟩ := htx
                      cases hsx with | tup hel hes => ?_
                      by_cases h2 : es.length = 2
                      · obtain ⟨a, b, rfl⟩ : ∃ a b, es = [a, b] := by
                          match es, h2 with
                          | [a, b], _ => exact ⟨a, b, rfl⟩
                        have sa := hes a (by simp)
                        have sb := hes b (by simp)
                        simp
                        refine lk_fil (fun e => !belowB e n) (fun _ => .int 1) rfl trivial rfl rfl (sd_line hel) (fun y hy as P ha hP => ?_) ?_
                        · have sy := hes y hy
                          cases sy <;> try (simp_all [belowB]; done)
                          rename_i i
                          simp [ha]
                          simp [belowB] at hP
                          by_cases c1 : 0 ≤ i
                          · by_cases c2 : i < n
                            · rw [if_pos c1, if_pos c2]; rwa [if_neg (by omega)] at hP
                            · rw [if_pos c1, if_neg c2]; rwa [if_pos (by omega)] at hP
                          · rw [if_neg c1]; rwa [if_pos (by omega)] at hP
                        · have p1 : D.pln (.lst [.int 1]) 60 = true := rfl
                          have p2 : D.pln (.lst [.int 1, .int 1]) 60 = true := rfl
                          have p0 : D.pln (.lst []) 60 = true := rfl
                          have e0 : D.eqq (.lst []) (.lst []) = true := rfl
                          have e1 : D.eqq (.lst [.int 1]) (.lst []) = false := rfl
                          have e2 : D.eqq (.lst [.int 1, .int 1]) (.lst []) = false := rfl
                          cases hab : belowB a n <;> cases hbb : belowB b n
                          · simp [hab, hbb, p0, p1, p2, e0, e1, e2]
                            exact hno (by simp [pairB, hab, hbb])
                          · simp [hab, hbb, p0, p1, p2, e0, e1, e2]
                            exact hno (by simp [pairB, hab, hbb])
                          · simp [hab, hbb, p0, p1, p2, e0, e1, e2]
                            exact hno (by simp [pairB, hab, hbb])
                          · simp [hab, hbb, p0, p1, p2, e0, e1, e2]
                            obtain ⟨i, rfl, _⟩ := below_int hab
                            obtain ⟨j, rfl, _⟩ := below_int hbb
                            simp [at0, at1]
                            by_cases hij : j < i
                            · rw [if_pos hij]
                              exact hno (by simp [pairB, hab, hbb, leB]; omega)
                            · rw [if_neg hij]
                              exact hK _ ⟨⟨_, rfl⟩, by simp [hpre, pairB, hab, hbb, leB] <;> omega⟩
                      · have e3 : ((es.length : Int) == 2) = false := by simp; omega
                        simp [e3]
                        exact hno (pairB_f fun a b e => by cases e; simp at h2)
                    · obtain ⟨m, hm, hm2⟩ := tyt hsx fun x e => htx ⟨x, e⟩
                      simp [hm, hm2]
                      exact hno (pairB_f fun a b e => htx ⟨_, e⟩)
                  · subst hl
                    rw [hpre] at q
                    simpa using q
                · have h12' : (12 < (ts.length : Int)) := by omega
                  simp [c__law_is_web, N__law_is_web, at0, at1, at2, h1, h8, ok_web, h12']
                  simpa [webB, h1, h8, h12] using q
              all_goals
                simp [c__law_is_web, N__law_is_web, at0, at1, at2, h1, h8, ok_web]
                simpa [webB, h1, h8] using q
            · have e := webB_t (a := .str "web") (b := .int n) (c := c) fun x e => hct ⟨x, e⟩
              rw [e] at q
              obtain ⟨m, hm, hm2⟩ := tyt sc fun x e => hct ⟨x, e⟩
              simp [c__law_is_web, N__law_is_web, at0, at1, at2, ok_web, hm, hm2, q]
          · have e := webB_i (a := .str "web") (b := b) (c := c) fun x e => hi ⟨x, e⟩
            rw [e] at q
            cases sb <;> first | (exfalso; exact hi ⟨_, rfl⟩) | (simp [c__law_is_web, N__law_is_web, at0, at1, at2, ok_web, q])
        · have e : webB (.tup [.str x, b, c]) = false := by
            unfold webB
            split
            · rename_i e; cases e
              have : (x == ("web" : Str)) = false := by simpa using hx
              simp [this]
            · rfl
          rw [e] at q
          have hx' : (x == ("web" : Str)) = false := by simpa using hx
          simp [c__law_is_web, N__law_is_web, at0, at1, at2, ox, hx', ok_web, q]
      · have e := webB_s (a := a) (b := b) (c := c) fun x e => hsx ⟨x, e⟩
        rw [e] at q
        obtain ⟨m, hm, hm2⟩ := ty3 sa fun x e => hsx ⟨x, e⟩
        simp [c__law_is_web, N__law_is_web, at0, hm, hm2, q]
    · have e := webB_3 h3
      rw [e] at q
      have e3 : ((es.length : Int) == 3) = false := by simp; omega
      simp [c__law_is_web, N__law_is_web, e3, q]
  · have e := webB_tup fun es e => ht ⟨es, e⟩
    rw [e] at q
    obtain ⟨m, hm, hm2⟩ := tyt s fun x e => ht ⟨x, e⟩
    simp [c__law_is_web, N__law_is_web, hm, hm2, q]
end DP.L

set_option Elab.async false
set_option linter.all false
set_option maxRecDepth 100000
set_option maxHeartbeats 1000000
/-! LAe: names, pieces. -/
namespace DP.L
open PySem PySem.Spec PyProof.Rows L2 DP
variable {o : Own}
theorem namesF_snoc (n : Int) (ps : List (Int × Int)) (p : Int × Int) : namesF n (ps ++ [p]) = nameStep (namesF n ps) p := by simp [namesF]
theorem nameStep_len (xs : List Int) (p : Int × Int) : (nameStep xs p).length = xs.length := by simp [nameStep]
theorem foldl_len (ps : List (Int × Int)) : ∀ xs : List Int, (ps.foldl nameStep xs).length = xs.length := by
  induction ps with
  | nil => intro xs; rfl
  | cons p ps ih => intro xs; rw [List.foldl_cons, ih, nameStep_len]
theorem namesF_len (n : Int) (ps : List (Int × Int)) : (namesF n ps).length = n.toNat := by
  unfold namesF
  rw [foldl_len]
  simp
def unp : D → Int × Int | .tup [.int a, .int b] => (a, b) | _ => (0, 0)
theorem unp_map (ps : List (Int × Int)) : (ps.map pairD).map unp = ps := by
  rw [List.map_map]
  conv => rhs; rw [← List.map_id ps]
  exact List.map_congr_left fun p _ => rfl
theorem rng0 (n : Int) : rngD 0 n = ((List.range n.toNat).map Int.ofNat).map .int := by
  unfold rngD
  rw [List.map_map]
  have : (n - 0).toNat = n.toNat := by omega
  rw [this]
  refine List.map_congr_left fun k _ => ?_
  simp
theorem big8 {n : Int} (h0 : 0 ≤ n) (h8 : n ≤ 8) : bigI n := by unfold bigI; omega
theorem big0 : bigI 0 := by unfold bigI; omega
def stepF (hi lo : Int) : D → D | .int z => .int (if z = hi then lo else z) | _ => .non
theorem map_stepF (hi lo : Int) (xs : List Int) : (xs.map D.int).map (stepF hi lo) = (xs.map fun z => if z = hi then lo else z).map D.int := by
  rw [List.map_map, List.map_map]
  rfl
theorem pairD_eq (p : Int × Int) : pairD p = .tup [.int p.1, .int p.2] := rfl
abbrev nTg : T := .tup (.cons (.name 3) (.cons (.name 4) .nil))
abbrev nBody : S := (.seq (.setT (.tup (.cons (.name 5) (.cons (.name 6) .nil))) (.tup 2 (.cons (.bi .min2 2 (.cons (.idx (.var 2) (.var 3)) (.cons (.idx (.var 2) (.var 4)) .nil))) (.cons (.bi .max2 2 (.cons (.idx (.var 2) (.var 3)) (.cons (.idx (.var 2) (.var 4)) .nil))) .nil)))) (.seq (.set 2 (.lc [7] (.name 7) .seq 1 (.var 2) false .nil (.ite (.cmp .eq (.var 7) (.var 6)) (.var 5) (.var 7)))) .skip))
theorem names_fk {n : Int} {ps : List (Int × Int)} (hp : Ps n ps) {N : En} {tail : List Slot} (q : ∀ x3 x4 x5 x6, N.nx ⟨.sh (.int n) :: .sh (.lst (ps.map pairD)) :: .ow (.lst ((namesF n ps).map .int)) :: x3 :: x4 :: x5 :: x6 :: .emp :: tail, []⟩) :
    FK (Cx o) .seq 1 nTg nBody N (.sh (.int n) :: .sh (.lst (ps.map pairD)) :: .ow (.lst (rngD 0 n)) :: .emp :: .emp :: .emp :: .emp :: .emp :: tail) [.sh (.lst (ps.map pairD))] [.lst (ps.map pairD)] := by
  obtain ⟨h0, h8, hl, hr⟩ := hp
  refine fk_any (fun pre l => ∃ x3 x4 x5 x6, l = .sh (.int n) :: .sh (.lst (ps.map pairD)) :: .ow (.lst ((namesF n (pre.map unp)).map .int)) :: x3 :: x4 :: x5 :: x6 :: .emp :: tail) rfl trivial rfl rfl ⟨.emp, .emp, .emp, .emp, by simp [namesF, rng0]⟩ (fun pre x post hxs l ⟨x3, x4, x5, x6, hl2⟩ K Bk hK => ?_) (fun l ⟨x3, x4, x5, x6, hl2⟩ => ?_)
  · subst hl2
    obtain ⟨p, hp, rfl⟩ : ∃ p ∈ ps, pairD p = x := List.mem_map.mp (by rw [hxs]; simp)
    obtain ⟨r1, r2, r3, r4⟩ := hr p hp
    have ln := namesF_len n (pre.map unp)
    have hsn := namesF_snoc n (pre.map unp) p
    rw [List.map_append] at hK
    have hup : List.map unp [pairD p] = [p] := rfl
    rw [hup, hsn] at hK
    generalize namesF n (pre.map unp) = nm at *
    have a1 := at_map (f := D.int) (d := 0) (xs := nm) r1 (by omega)
    have a2 := at_map (f := D.int) (d := 0) (xs := nm) r3 (by omega)
    unfold nameStep at hK
    dsimp only at hK
    generalize nm.getD p.1.toNat 0 = A at *
    generalize nm.getD p.2.toNat 0 = B at *
    simp [pairD_eq, a1, a2, lv_eq]
    refine lk_map (stepF (if A < B then B else A) (if B < A then B else A)) rfl trivial rfl rfl (by simp [ln]; have := sd_line (n := n.toNat) (by omega); omega) (fun y hy as P ha hP => ?_) ?_
    · obtain ⟨z, hz, rfl⟩ := List.mem_map.mp hy
      simp [ha]
      by_cases hz : z = (if A < B then B else A)
      · have e : stepF (if A < B then B else A) (if B < A then B else A) (.int z) = .int (if B < A then B else A) := by simp [stepF, hz]
        rw [e] at hP
        rw [if_pos hz]
        simpa using hP
      · have e : stepF (if A < B then B else A) (if B < A then B else A) (.int z) = .int z := by simp [stepF, hz]
        rw [e] at hP
        rw [if_neg hz]
        simpa using hP
    · have h2 := fun y3 y4 y5 y6 => hK _ ⟨y3, y4, y5, y6, rfl⟩
      rw [map_stepF]
      rw [List.map_map] at h2 ⊢
      simp
      exact h2 _ _ _ _
  · subst hl2
    rw [unp_map]
    exact q _ _ _ _
theorem w_names (ds : List D) (Q : D → Bool → Prop) (X : D → Prop) (h : sNames ds Q X) : wdef (Cx o) N_names_by.length c_names_by ds Q X := by
  obtain ⟨n, ps, rfl, hp, q⟩ := h
  refine w_def ?_
  have h0 := hp.1
  have h8 := hp.2.1
  have e1 : (n - 0).toNat ≤ 16777216 := by omega
  simp [c_names_by, N_names_by, big8 h0 h8, big0, e1]
  refine ⟨by omega, names_fk hp fun x3 x4 x5 x6 => ?_⟩
  simpa using q
end DP.L

set_option Elab.async false
set_option linter.all false
set_option maxRecDepth 100000
set_option maxHeartbeats 1000000
/-! LAf: pieces. -/
namespace DP.L
open PySem PySem.Spec PyProof.Rows L2 DP
variable {o : Own}
def dstep (acc : List Int) (x : Int) : List Int := if acc.contains x then acc else acc ++ [x]
theorem dedup_eq (xs : List Int) : dedup xs = xs.foldl dstep [] := rfl
theorem put_int {acc : List (D × D)} {accI : List Int} {z : Int} {v : D} (e : acc.map (·.1) = accI.map .int) : (putD acc (.int z) v).map (·.1) = (dstep accI z).map .int := by
  have ea : (acc.any fun kv => decide (keyOf kv.1 = keyOf (.int z))) = accI.contains z := by
    have h1 : (acc.any fun kv => decide (keyOf kv.1 = keyOf (.int z))) = ((acc.map (·.1)).any fun x => decide (keyOf x = keyOf (.int z))) := by rw [List.any_map]; rfl
    rw [h1, e, List.any_map, List.contains_eq_any_beq]
    congr 1
    funext y
    simp [keyOf]
    by_cases h : y = z <;> simp [h]
    exact fun q => h q.symm
  unfold putD dstep
  rw [ea]
  split
  · rw [List.map_map, ← e]
    refine List.map_congr_left fun p _ => ?_
    simp only [Function.comp]
    split <;> rfl
  · rw [List.map_append, List.map_append, e]; rfl
theorem dict_keys : ∀ (xs : List Int) (acc : List (D × D)) (accI : List Int), acc.map (·.1) = accI.map .int → ((xs.map D.int).foldl (fun a x => putD a x (.bl true)) acc).map (·.1) = (xs.foldl dstep accI).map .int
  | [], _, _, e => e
  | x :: xs, acc, accI, e => by
    rw [List.map_cons, List.foldl_cons, List.foldl_cons]
    exact dict_keys xs _ _ (put_int e)
theorem dedup_len' : ∀ (xs acc : List Int), (xs.foldl dstep acc).length ≤ acc.length + xs.length
  | [], acc => by simp
  | x :: xs, acc => by
    rw [List.foldl_cons]
    have := dedup_len' xs (dstep acc x)
    have h2 : (dstep acc x).length ≤ acc.length + 1 := by unfold dstep; split <;> simp
    simp only [List.length_cons]
    omega
theorem dedup_len (xs : List Int) : (dedup xs).length ≤ xs.length := by have := dedup_len' xs []; simpa [dedup_eq] using this
theorem sortI_perm (xs : List Int) : (sortI xs).Perm xs := List.mergeSort_perm _ _
theorem sortI_sorted (xs : List Int) : (sortI xs).Pairwise (· ≤ ·) := by
  have h := List.pairwise_mergeSort (le := fun a b : Int => decide (a ≤ b)) (fun a b c h1 h2 => by simp at *; omega) (fun a b => by simp; omega) xs
  exact h.imp fun h => by simpa using h
theorem sort_uniq {ms xs : List Int} (hp : ms.Perm xs) (hs : ms.Pairwise (· ≤ ·)) : ms = sortI xs :=
  List.Perm.eq_of_pairwise (fun a b _ _ h1 h2 => by omega) hs (sortI_sorted xs) (hp.trans (sortI_perm xs).symm)
theorem keys_of (xs : List Int) : ((xs.map D.int).foldl (fun a x => putD a x (.bl true)) []).map (·.1) = (dedup xs).map .int := dict_keys xs [] [] rfl
theorem dict_len (xs : List Int) : ((xs.map D.int).foldl (fun a x => putD a x (.bl true)) []).length = (dedup xs).length := by
  have := congrArg List.length (keys_of xs)
  simpa using this
theorem pairs_inj : ∀ {xs ys : List (Int × Int)}, xs.map pairD = ys.map pairD → xs = ys := by
  intro xs ys h
  have := congrArg (List.map unp) h
  rwa [unp_map, unp_map] at this
section
variable {Q : D → Bool → Prop} {X : D → Prop} {v : D} {n b : Int} {ts : List (Int × Int)} {ps : List (Int × Int)} {l : List Int}
theorem q7 (h : Ps n ps) : sNames [.int n, .lst (ps.map pairD)] Q X = Q (.lst ((namesF n ps).map .int)) true := propext ⟨fun ⟨_, _, e, _, q⟩ => by
  simp only [List.cons.injEq, D.int.injEq, D.lst.injEq, and_true] at e; obtain ⟨rfl, e⟩ := e; rw [pairs_inj e]; exact q, fun q => ⟨_, _, rfl, h, q⟩⟩
theorem q8 (h : Ps n ps) : sPiecesBy [.int n, .lst (ps.map pairD)] Q X = Q (.tup ((piecesF n ps).map tupI)) false := propext ⟨fun ⟨_, _, e, _, q⟩ => by
  simp only [List.cons.injEq, D.int.injEq, D.lst.injEq, and_true] at e; obtain ⟨rfl, e⟩ := e; rw [pairs_inj e]; exact q, fun q => ⟨_, _, rfl, h, q⟩⟩
end
/-- one piece, by its name -/
def pieceF (n : Int) (nm : List Int) (x : Int) : List Int := ((List.range n.toNat).map Int.ofNat).filter fun i => nm.getD i.toNat 0 == x
def pieceD (n : Int) (nm : List Int) : D → D | .int x => tupI (pieceF n nm x) | _ => .non
theorem pieces_eq (n : Int) (ps : List (Int × Int)) : .tup ((piecesF n ps).map tupI) = D.tup (((sortI (dedup (namesF n ps))).map D.int).map (pieceD n (namesF n ps))) := by
  unfold piecesF
  rw [List.map_map, List.map_map]
  rfl
def sameB (nm : List Int) (x : Int) : D → Bool | .int i => nm.getD i.toNat 0 == x | _ => false
theorem w_piecesBy (ds : List D) (Q : D → Bool → Prop) (X : D → Prop) (h : sPiecesBy ds Q X) : wdef (Cx o) N_pieces_by.length c_pieces_by ds Q X := by
  obtain ⟨n, ps, rfl, hp, q⟩ := h
  refine w_def ?_
  have h0 := hp.1
  have h8 := hp.2.1
  have ln := namesF_len n ps
  have sz : 1000000 ≤ sizeLine := by rw [sizeLine_eq]; omega
  rw [pieces_eq] at q
  simp [c_pieces_by, N_pieces_by, f7, q7 hp, lv_eq]
  generalize namesF n ps = nm at *
  refine lkd_map id (fun _ => .bl true) rfl trivial rfl rfl ?_ (fun x hx as P ha hP => ?_) ?_
  · simp [ln]; omega
  · obtain ⟨z, hz, rfl⟩ := List.mem_map.mp hx
    simp [keyOf, ha]
    exact hP
  · simp
    have dl := dedup_len nm
    refine ⟨dedup nm, by rw [keys_of]; simp, by omega, fun ms hp hs => ?_⟩
    rw [sort_uniq hp hs]
    have sl := (sortI_perm (dedup nm)).length_eq
    simp [lv_eq]
    refine lk_map (pieceD n nm) rfl trivial rfl rfl ?_ (fun x hx as P ha hP => ?_) ?_
    · simp; omega
    · obtain ⟨z, hz, rfl⟩ := List.mem_map.mp hx
      simp [ha]
      refine lk_fil (sameB nm z) id rfl (big8 h0 h8) rfl rfl ?_ (fun x hx as' P' ha' hP' => ?_) ?_
      · simp [rng0]; omega
      · rw [rng0] at hx
        obtain ⟨i, hi, rfl⟩ := List.mem_map.mp hx
        obtain ⟨i, hi2, rfl⟩ := List.mem_map.mp hi
        have hi : i < n.toNat := List.mem_range.mp hi2
        have a1 := at_map (f := D.int) (d := 0) (xs := nm) (i := (i : Int)) (by omega) (by omega)
        have e2 : sameB nm z (.int (Int.ofNat i)) = (nm.getD i 0 == z) := rfl
        rw [e2] at hP'
        have a1 : L2.atI (nm.map D.int) (i : Int) = some (.int (nm.getD i 0)) := a1
        simp [lv_eq, a1, -List.getD_eq_getElem?_getD]
        by_cases hz2 : nm.getD i 0 = z
        · rw [if_pos hz2]
          rw [if_pos (by simpa using hz2)] at hP'
          exact ⟨ha', hP'⟩
        · rw [if_neg hz2]
          rw [if_neg (by simpa using hz2)] at hP'
          exact hP'
      · have e3 : ((rngD 0 n).filter (sameB nm z)).map id = (pieceF n nm z).map D.int := by
          rw [List.map_id, rng0, List.filter_map]
          rfl
        rw [e3]
        simp [ha]
        exact hP
    · simpa using q
theorem w_lawPieces (ds : List D) (Q : D → Bool → Prop) (X : D → Prop) (h : sPiecesBy ds Q X) : wdef (Cx o) N__law_pieces.length c__law_pieces ds Q X := by
  obtain ⟨n, ps, rfl, hp, q⟩ := h
  refine w_def ?_
  have h0 := hp.1
  have h8 := hp.2.1
  have ln := namesF_len n ps
  have sz : 1000000 ≤ sizeLine := by rw [sizeLine_eq]; omega
  have e1 : (n - 0).toNat ≤ 16777216 := by omega
  rw [pieces_eq] at q
  simp [c__law_pieces, N__law_pieces, big8 h0 h8, big0, e1]
  refine ⟨by omega, names_fk hp fun x3 x4 x5 x6 => ?_⟩
  simp [lv_eq]
  generalize namesF n ps = nm at *
  refine lk_map (fun e => .tup [e, .bl true]) rfl trivial rfl rfl ?_ (fun x hx as P ha hP => ?_) ?_
  · simp [ln]; omega
  · obtain ⟨z, hz, rfl⟩ := List.mem_map.mp hx
    simp [ha]
    exact hP
  · simp
    have dl := dedup_len nm
    refine ⟨(nm.map D.int).map fun e => (e, .bl true), by rw [List.map_map, List.map_map]; rfl, ?_, ?_⟩
    · intro a b hm
      simp at hm
      obtain ⟨z, _, rfl, _⟩ := hm
      rfl
    have ef : ((nm.map D.int).map fun e => (e, D.bl true)).foldl (fun a p => putD a p.1 p.2) [] = (nm.map D.int).foldl (fun a x => putD a x (.bl true)) [] := by rw [List.foldl_map]
    rw [ef]
    refine ⟨dedup nm, by rw [keys_of]; simp, by omega, fun ms hp hs => ?_⟩
    rw [sort_uniq hp hs]
    have sl := (sortI_perm (dedup nm)).length_eq
    refine lk_map (pieceD n nm) rfl trivial rfl rfl ?_ (fun x hx as P ha hP => ?_) ?_
    · simp; omega
    · obtain ⟨z, hz, rfl⟩ := List.mem_map.mp hx
      simp [ha]
      refine lk_fil (sameB nm z) id rfl (big8 h0 h8) rfl rfl ?_ (fun x hx as' P' ha' hP' => ?_) ?_
      · simp [rng0]; omega
      · rw [rng0] at hx
        obtain ⟨i, hi, rfl⟩ := List.mem_map.mp hx
        obtain ⟨i, hi2, rfl⟩ := List.mem_map.mp hi
        have hi : i < n.toNat := List.mem_range.mp hi2
        have a1 := at_map (f := D.int) (d := 0) (xs := nm) (i := (i : Int)) (by omega) (by omega)
        have e2 : sameB nm z (.int (Int.ofNat i)) = (nm.getD i 0 == z) := rfl
        rw [e2] at hP'
        have a1 : L2.atI (nm.map D.int) (i : Int) = some (.int (nm.getD i 0)) := a1
        simp [lv_eq, a1, -List.getD_eq_getElem?_getD]
        by_cases hz2 : nm.getD i 0 = z
        · rw [if_pos hz2]
          rw [if_pos (by simpa using hz2)] at hP'
          exact ⟨ha', hP'⟩
        · rw [if_neg hz2]
          rw [if_neg (by simpa using hz2)] at hP'
          exact hP'
      · have e3 : ((rngD 0 n).filter (sameB nm z)).map id = (pieceF n nm z).map D.int := by
          rw [List.map_id, rng0, List.filter_map]
          rfl
        rw [e3]
        simp [ha]
        exact hP
    · simpa using q
theorem GW.ps {n : Int} {ts : List (Int × Int)} {l : List Int} (g : GW n ts) (h : GL ts.length l) : Ps n (pick ts l) := by
  obtain ⟨g1, g2, g3, g4⟩ := g
  refine ⟨by omega, g2, by simp [pick]; exact h.1, fun p hp => ?_⟩
  obtain ⟨i, hi, rfl⟩ := List.mem_map.mp hp
  obtain ⟨i0, i1⟩ := h.2 i hi
  have hl : i.toNat < ts.length := by omega
  have : ts.getD i.toNat (0, 0) = ts[i.toNat] := by simp [List.getD, hl]
  rw [this]
  exact (g4 _ (List.getElem_mem hl)).1
def pickD (ts : List (Int × Int)) : D → D | .int i => pairD (ts.getD i.toNat (0, 0)) | _ => .non
theorem pick_eq (ts : List (Int × Int)) (l : List Int) : (l.map D.int).map (pickD ts) = (pick ts l).map pairD := by
  unfold pick
  rw [List.map_map, List.map_map]
  rfl
section
variable {Q : D → Bool → Prop} {X : D → Prop} {v : D} {n b : Int} {ts : List (Int × Int)} {ps : List (Int × Int)} {l : List Int}
theorem ints_inj : ∀ {xs ys : List Int}, xs.map D.int = ys.map D.int → xs = ys := by
  intro xs
  induction xs with
  | nil => intro ys h; cases ys with
    | nil => rfl
    | cons _ _ => cases h
  | cons x xs ih => intro ys h; cases ys with
    | nil => cases h
    | cons y ys =>
      simp only [List.map_cons, List.cons.injEq, D.int.injEq] at h
      rw [ih h.2, h.1]
theorem tupI_inj {xs ys : List Int} (h : tupI xs = tupI ys) : xs = ys := ints_inj (by simpa [tupI] using h)
theorem qIn {R : Int → List (Int × Int) → List Int → D} (g : GW n ts) (hl : GL ts.length l) : sIn R [webD n ts, tupI l] Q X = Q (R n ts l) false := propext ⟨fun ⟨_, _, _, e, _, _, q⟩ => by
  simp only [List.cons.injEq, and_true] at e; obtain ⟨e1, e2⟩ := e; obtain ⟨rfl, rfl⟩ := webD_inj e1; rw [tupI_inj e2]; exact q, fun q => ⟨_, _, _, rfl, g, hl, q⟩⟩
theorem qAT (g : GW n ts) : sAllTies [webD n ts] Q X = Q (tupI (allF ts.length)) false := propext ⟨fun ⟨_, _, e, _, q⟩ => by
  simp only [List.cons.injEq, and_true] at e; obtain ⟨rfl, rfl⟩ := webD_inj e; exact q, fun q => ⟨_, _, rfl, g, q⟩⟩
theorem qAL (g : GW n ts) : sAllLots [webD n ts] Q X = Q (.lst ((sortK (lotsF ts.length)).map tupI)) true := propext ⟨fun ⟨_, _, e, _, q⟩ => by
  simp only [List.cons.injEq, and_true] at e; obtain ⟨rfl, rfl⟩ := webD_inj e; exact q, fun q => ⟨_, _, rfl, g, q⟩⟩
theorem qTI (g : GW n ts) : sTreesIn [webD n ts] Q X = Q (treesW n ts) false := propext ⟨fun ⟨_, _, e, _, q⟩ => by
  simp only [List.cons.injEq, and_true] at e; obtain ⟨rfl, rfl⟩ := webD_inj e; exact q, fun q => ⟨_, _, rfl, g, q⟩⟩
end
theorem w_piecesIn (ds : List D) (Q : D → Bool → Prop) (X : D → Prop) (h : sIn piecesW ds Q X) : wdef (Cx o) N_pieces_in.length c_pieces_in ds Q X := by
  obtain ⟨n, ts, l, rfl, g, hl, q⟩ := h
  refine w_def ?_
  have hps := g.ps hl
  have sz : 1000000 ≤ sizeLine := by rw [sizeLine_eq]; omega
  simp [c_pieces_in, N_pieces_in, webD, tupI, at1]
  refine lk_map (pickD ts) rfl trivial rfl rfl ?_ (fun x hx as P ha hP => ?_) ?_
  · simp; have := hl.1; omega
  · obtain ⟨i, hi, rfl⟩ := List.mem_map.mp hx
    obtain ⟨i0, i1⟩ := hl.2 i hi
    simp [at2, at_map (f := pairD) (d := (0, 0)) i0 i1, ha, -List.getD_eq_getElem?_getD]
    exact hP
  · rw [pick_eq]
    simp [f8, q8 hps]
    simpa [piecesW] using q
theorem w_rankIn (ds : List D) (Q : D → Bool → Prop) (X : D → Prop) (h : sIn rkD ds Q X) : wdef (Cx o) N_rank_in.length c_rank_in ds Q X := by
  obtain ⟨n, ts, l, rfl, g, hl, q⟩ := h
  refine w_def ?_
  have hps := g.ps hl
  have ln := namesF_len n (pick ts l)
  have h8 := hps.2.1
  have sz : 1000000 ≤ sizeLine := by rw [sizeLine_eq]; omega
  simp [c_rank_in, N_rank_in, webD, tupI, at1]
  refine lk_map (pickD ts) rfl trivial rfl rfl ?_ (fun x hx as P ha hP => ?_) ?_
  · simp; have := hl.1; omega
  · obtain ⟨i, hi, rfl⟩ := List.mem_map.mp hx
    obtain ⟨i0, i1⟩ := hl.2 i hi
    simp [at2, at_map (f := pairD) (d := (0, 0)) i0 i1, ha, -List.getD_eq_getElem?_getD]
    exact hP
  · rw [pick_eq]
    simp [f7, q7 hps, at1, lv_eq]
    unfold rkD rankF at q
    generalize namesF n (pick ts l) = nm at *
    refine lkd_map id (fun _ => .bl true) rfl trivial rfl rfl ?_ (fun x hx as P ha hP => ?_) ?_
    · simp [ln]; omega
    · obtain ⟨z, hz, rfl⟩ := List.mem_map.mp hx
      simp [keyOf, ha]
      exact hP
    · simp [dict_len]
      exact q
theorem w_lawRank (ds : List D) (Q : D → Bool → Prop) (X : D → Prop) (h : sIn rkD ds Q X) : wdef (Cx o) N__law_rank.length c__law_rank ds Q X := by
  obtain ⟨n, ts, l, rfl, g, hl, q⟩ := h
  refine w_def ?_
  have hps := g.ps hl
  have sz : 1000000 ≤ sizeLine := by rw [sizeLine_eq]; omega
  simp [c__law_rank, N__law_rank, webD, tupI, at1]
  refine lk_map (pickD ts) rfl trivial rfl rfl ?_ (fun x hx as P ha hP => ?_) ?_
  · simp; have := hl.1; omega
  · obtain ⟨i, hi, rfl⟩ := List.mem_map.mp hx
    obtain ⟨i0, i1⟩ := hl.2 i hi
    simp [at2, at_map (f := pairD) (d := (0, 0)) i0 i1, ha, -List.getD_eq_getElem?_getD]
    exact hP
  · rw [pick_eq]
    have e : (piecesF n (pick ts l)).length = (dedup (namesF n (pick ts l))).length := by
      unfold piecesF
      rw [List.length_map, (sortI_perm _).length_eq]
    simp [f28, q8 hps, e]
    simpa [rkD, rankF] using q
end DP.L

set_option Elab.async false
set_option linter.all false
set_option maxRecDepth 100000
set_option maxHeartbeats 1000000
/-! LAg: ranks, lots, trees. -/
namespace DP.L
open PySem PySem.Spec PyProof.Rows L2 DP
variable {o : Own}
theorem below_shape {es : List D} {m : Int} (h : es.all (fun e => belowB e m) = true) : ∃ l : List Int, es = l.map D.int ∧ ∀ i ∈ l, 0 ≤ i ∧ i < m := by
  induction es with
  | nil => exact ⟨[], rfl, by simp⟩
  | cons e es ih =>
    simp only [List.all_cons, Bool.and_eq_true] at h
    obtain ⟨i, rfl, hi⟩ := below_int h.1
    obtain ⟨l, rfl, hl⟩ := ih h.2
    exact ⟨i :: l, rfl, fun j hj => by rcases List.mem_cons.mp hj with z | z; · rw [z]; exact hi
                                       · exact hl j z⟩
theorem lot_shape {m : Nat} {o : D} (h : lotB m o = true) (s : Sd o) : ∃ l, o = tupI l ∧ GL m l := by
  cases s with
  | tup hl hs =>
    simp only [lotB, Bool.and_eq_true] at h
    obtain ⟨l, rfl, hi⟩ := below_shape h.1
    exact ⟨l, rfl, by simpa using hl, hi⟩
  | _ => cases h
theorem pair_shape {n : Int} {v : D} (h : pairB n v = true) : ∃ p, v = pairD p ∧ InR n p ∧ p.1 ≤ p.2 := by
  unfold pairB at h
  split at h
  · rename_i a b
    simp only [Bool.and_eq_true] at h
    obtain ⟨i, rfl, i0, i1⟩ := below_int h.1.1
    obtain ⟨j, rfl, j0, j1⟩ := below_int h.1.2
    exact ⟨(i, j), rfl, ⟨i0, i1, j0, j1⟩, by simpa [leB] using h.2⟩
  · cases h
theorem pairs_shape {n : Int} : ∀ {vs : List D}, vs.all (pairB n) = true → ∃ ps : List (Int × Int), vs = ps.map pairD ∧ ∀ p ∈ ps, InR n p ∧ p.1 ≤ p.2
  | [], _ => ⟨[], rfl, by simp⟩
  | v :: vs, h => by
    simp only [List.all_cons, Bool.and_eq_true] at h
    obtain ⟨p, rfl, hp⟩ := pair_shape h.1
    obtain ⟨ps, rfl, hps⟩ := pairs_shape h.2
    exact ⟨p :: ps, rfl, fun q hq => by rcases List.mem_cons.mp hq with z | z; · rw [z]; exact hp
                                        · exact hps q z⟩
theorem web_shape {v : D} (h : webB v = true) : ∃ n ts, v = webD n ts ∧ GW n ts := by
  unfold webB at h
  split at h
  · rename_i x n ts
    simp only [Bool.and_eq_true, decide_eq_true_eq, beq_iff_eq] at h
    obtain ⟨⟨⟨⟨rfl, h1⟩, h8⟩, h12⟩, hall⟩ := h
    obtain ⟨ps, rfl, hps⟩ := pairs_shape hall
    exact ⟨n, ps, rfl, h1, h8, by simpa using h12, hps⟩
  · cases h
theorem pair_ok {n : Int} {p : Int × Int} (h : InR n p) (h2 : p.1 ≤ p.2) : pairB n (pairD p) = true := by
  obtain ⟨a, b, c, d⟩ := h
  simp [pairB, pairD, belowB, leB, a, b, c, d, h2]
theorem web_ok {n : Int} {ts : List (Int × Int)} (g : GW n ts) : webB (webD n ts) = true := by
  obtain ⟨g1, g2, g3, g4⟩ := g
  simp [webB, webD, g1, g2, g3]
  exact fun a b hp => pair_ok (g4 _ hp).1 (g4 _ hp).2
theorem sd_ints {l : List Int} (h : l.length ≤ 1000) : Sd (tupI l) := .tup (by simpa using h) fun d hd => by
  obtain ⟨i, _, rfl⟩ := List.mem_map.mp hd
  exact .int i
theorem sd_pair (p : Int × Int) : Sd (pairD p) := .tup (by simp) fun d hd => by
  simp at hd
  rcases hd with rfl | rfl <;> exact .int _
theorem sd_pairs {ts : List (Int × Int)} (h : ts.length ≤ 1000) : Sd (.tup (ts.map pairD)) := .tup (by simpa using h) fun d hd => by
  obtain ⟨p, _, rfl⟩ := List.mem_map.mp hd
  exact sd_pair p
theorem sd_web {n : Int} {ts : List (Int × Int)} (g : GW n ts) : Sd (webD n ts) := .tup (by simp) fun d hd => by
  simp at hd
  rcases hd with rfl | rfl | rfl
  · exact .str ok_web
  · exact .int n
  · exact sd_pairs (by have := g.2.2.1; omega)
theorem w_pieces (ds : List D) (Q : D → Bool → Prop) (X : D → Prop) (h : sBoth piecesW ds Q X) : wdef (Cx o) N_pieces.length c_pieces ds Q X := by
  obtain ⟨v, o, rfl, sv, so, q1, q2⟩ := h
  refine w_def ?_
  cases hw : webB v
  · simp [c_pieces, N_pieces, f4, q4 sv, hw, q1]
  · obtain ⟨n, ts, rfl, g⟩ := web_shape hw
    obtain ⟨p1, p2⟩ := q2 n ts rfl g
    cases ho : lotB ts.length o
    · simp [c_pieces, N_pieces, f4, q4 sv, hw, f6, q6 g so, ho, p1]
    · obtain ⟨l, rfl, gl⟩ := lot_shape ho so
      simp [c_pieces, N_pieces, f4, q4 sv, hw, f6, q6 g so, ho, f9, qIn g gl]
      simpa using p2 l rfl gl ho
theorem w_rank (ds : List D) (Q : D → Bool → Prop) (X : D → Prop) (h : sBoth rkD ds Q X) : wdef (Cx o) N_rank.length c_rank ds Q X := by
  obtain ⟨v, o, rfl, sv, so, q1, q2⟩ := h
  refine w_def ?_
  cases hw : webB v
  · simp [c_rank, N_rank, f4, q4 sv, hw, q1]
  · obtain ⟨n, ts, rfl, g⟩ := web_shape hw
    obtain ⟨p1, p2⟩ := q2 n ts rfl g
    cases ho : lotB ts.length o
    · simp [c_rank, N_rank, f4, q4 sv, hw, f6, q6 g so, ho, p1]
    · obtain ⟨l, rfl, gl⟩ := lot_shape ho so
      simp [c_rank, N_rank, f4, q4 sv, hw, f6, q6 g so, ho, f11, qIn g gl]
      simpa using p2 l rfl gl ho
theorem w_isTree (ds : List D) (Q : D → Bool → Prop) (X : D → Prop) (h : sBoth trD ds Q X) : wdef (Cx o) N_is_tree.length c_is_tree ds Q X := by
  obtain ⟨v, o, rfl, sv, so, q1, q2⟩ := h
  refine w_def ?_
  cases hw : webB v
  · simp [c_is_tree, N_is_tree, f4, q4 sv, hw, q1]
  · obtain ⟨n, ts, rfl, g⟩ := web_shape hw
    obtain ⟨p1, p2⟩ := q2 n ts rfl g
    cases ho : lotB ts.length o
    · simp [c_is_tree, N_is_tree, f4, q4 sv, hw, f6, q6 g so, ho, p1]
    · obtain ⟨l, rfl, gl⟩ := lot_shape ho so
      simp [c_is_tree, N_is_tree, f4, q4 sv, hw, f6, q6 g so, ho, f16, qIn g gl]
      simpa using p2 l rfl gl ho
theorem rngD_all (m : Nat) : rngD 0 (m : Int) = (allF m).map D.int := by rw [rng0]; simp [allF]
theorem bigN {m : Nat} (h : m ≤ 1000) : bigI (m : Int) := by unfold bigI; omega
theorem w_allTies (ds : List D) (Q : D → Bool → Prop) (X : D → Prop) (h : sAllTies ds Q X) : wdef (Cx o) N_all_ties.length c_all_ties ds Q X := by
  obtain ⟨n, ts, rfl, g, q⟩ := h
  refine w_def ?_
  have hl := g.2.2.1
  simp [c_all_ties, N_all_ties, webD, at2, big0, bigN (m := ts.length) (by omega), rngD_all]
  exact ⟨by omega, q⟩
theorem allF_GL (m : Nat) (h : m ≤ 1000) : GL m (allF m) := by
  refine ⟨by simp [allF]; exact h, fun i hi => ?_⟩
  simp [allF] at hi
  obtain ⟨a, ha, rfl⟩ := hi
  omega
theorem w_treeIn (ds : List D) (Q : D → Bool → Prop) (X : D → Prop) (h : sIn trD ds Q X) : wdef (Cx o) N_is_tree_in.length c_is_tree_in ds Q X := by
  obtain ⟨n, ts, l, rfl, g, hl, q⟩ := h
  refine w_def ?_
  have ga := allF_GL ts.length (by have := g.2.2.1; omega)
  simp [c_is_tree_in, N_is_tree_in, f13, qAT g, f11, qIn g ga, qIn g hl, rkD]
  have e : tupI l = .tup (l.map .int) := rfl
  simp [e]
  unfold trD treeB at q
  by_cases c1 : (l.length : Int) = rankF n ts (allF ts.length)
  · simp [c1] at q ⊢
    rw [← e, qIn g hl]
    simpa [rkD, Bool.beq_eq_decide_eq] using q
  · simpa [c1] using q
theorem lotsF_len : ∀ m, (lotsF m).length = 2 ^ m
  | 0 => rfl
  | m + 1 => by simp [lotsF, lotsF_len m, Nat.pow_succ]; omega
theorem lotsF_mem : ∀ (m : Nat) (l : List Int), l ∈ lotsF m → l.length ≤ m ∧ ∀ i ∈ l, 0 ≤ i ∧ i < m
  | 0, l, h => by simp [lotsF] at h; subst h; simp
  | m + 1, l, h => by
    simp only [lotsF, List.mem_append, List.mem_map] at h
    rcases h with h | ⟨k, h, rfl⟩
    · obtain ⟨a, b⟩ := lotsF_mem m l h
      exact ⟨by omega, fun i hi => by have := b i hi; omega⟩
    · obtain ⟨a, b⟩ := lotsF_mem m k h
      refine ⟨by simp; exact a, fun i hi => ?_⟩
      simp at hi
      rcases hi with hi | rfl
      · have := b i hi; omega
      · omega
theorem pow_le {m : Nat} (h : m ≤ 12) : 2 ^ m ≤ 4096 := by
  calc 2 ^ m ≤ 2 ^ 12 := Nat.pow_le_pow_right (by omega) h
    _ = 4096 := by decide
abbrev lBody : S := (.seq (.set 1 (.bin .add (.var 1) (.lc [3] (.name 3) .seq 1 (.var 1) false .nil (.bin .add (.var 3) (.tup 1 (.cons (.var 2) .nil)))))) .skip)
def addF (k : Int) : D → D | .tup xs => .tup (xs ++ [.int k]) | _ => .non
theorem map_addF (k : Int) (ls : List (List Int)) : (ls.map tupI).map (addF k) = (ls.map fun l => l ++ [k]).map tupI := by
  rw [List.map_map, List.map_map]
  refine List.map_congr_left fun l _ => ?_
  simp [addF, tupI]
theorem rng_at {m : Nat} {pre post : List D} {x : D} (h : rngD 0 (m : Int) = pre ++ x :: post) : x = .int pre.length ∧ pre.length < m := by
  have e : (rngD 0 (m : Int))[pre.length]? = some x := by rw [h]; simp
  have hl : pre.length < m := by
    have := congrArg List.length h
    rw [rngD_all] at this
    simp [allF] at this
    omega
  rw [rngD_all] at e
  simp [allF, hl] at e
  exact ⟨by simpa using e.symm, hl⟩
theorem lots_fk {m : Nat} (hm : m ≤ 12) {N : En} {x0 : Slot} (q : ∀ x2, N.nx ⟨[x0, .ow (.lst ((lotsF m).map tupI)), x2, .emp], []⟩) :
    FK (Cx o) .range1 1 (.name 2) lBody N [x0, .ow (.lst [.tup []]), .emp, .emp] [.sh (.int m)] [.int m] := by
  have sz : 1000000 ≤ sizeLine := by rw [sizeLine_eq]; omega
  refine fk_any (fun pre l => ∃ x2, l = [x0, .ow (.lst ((lotsF pre.length).map tupI)), x2, .emp]) rfl (bigN (by omega)) rfl rfl ⟨.emp, rfl⟩ (fun pre x post hxs l ⟨x2, hl2⟩ K Bk hK => ?_) (fun l ⟨x2, hl2⟩ => ?_)
  · subst hl2
    obtain ⟨rfl, hlt⟩ := rng_at hxs
    have h2 := fun y2 => hK _ ⟨y2, rfl⟩
    have hlen := lotsF_len pre.length
    have hp := pow_le (m := pre.length) (by omega)
    have hmem := lotsF_mem pre.length
    rw [List.length_append, List.length_singleton] at h2
    simp only [lotsF] at h2
    generalize lotsF pre.length = ls at *
    generalize (pre.length : Int) = kk at *
    simp [lv_eq]
    refine lk_map (addF kk) rfl trivial rfl rfl ?_ (fun y hy as P ha hP => ?_) ?_
    · simp; omega
    · obtain ⟨z, hz, rfl⟩ := List.mem_map.mp hy
      have := (hmem z hz).1
      have e : tupI z = .tup (z.map .int) := rfl
      simp [e, ha]
      refine ⟨by omega, ?_⟩
      simpa [addF, tupI] using hP
    · rw [map_addF]
      simp [lv_eq]
      have h2 := h2 (.sh (.int kk))
      rw [List.map_append] at h2
      simp at h2
      exact ⟨by omega, h2⟩
  · subst hl2
    have e : (rngD 0 (m : Int)).length = m := by rw [rngD_all]; simp [allF]
    rw [e]
    exact q x2
theorem srt_ok {m : Nat} (hm : m ≤ 12) : (lotsF m).length ≤ 1000000 ∧ ∀ b ∈ lotsF m, b.length ≤ 1000 := by
  have := lotsF_len m
  have := pow_le hm
  exact ⟨by omega, fun b hb => by have := (lotsF_mem m b hb).1; omega⟩
theorem w_allLots (ds : List D) (Q : D → Bool → Prop) (X : D → Prop) (h : sAllLots ds Q X) : wdef (Cx o) N_all_lots.length c_all_lots ds Q X := by
  obtain ⟨n, ts, rfl, g, q⟩ := h
  refine w_def ?_
  have hl := g.2.2.1
  simp [c_all_lots, N_all_lots, webD, at2]
  refine lots_fk hl fun x2 => ?_
  simp [lv_eq]
  exact ⟨lotsF ts.length, rfl, (srt_ok hl).1, (srt_ok hl).2, q⟩
theorem w_lawLots (ds : List D) (Q : D → Bool → Prop) (X : D → Prop) (h : sLots ds Q X) : wdef (Cx o) N__law_lots.length c__law_lots ds Q X := by
  obtain ⟨m, rfl, hm, q⟩ := h
  refine w_def ?_
  simp [c__law_lots, N__law_lots]
  refine lots_fk hm fun x2 => ?_
  simp [lv_eq]
  exact ⟨lotsF m, rfl, (srt_ok hm).1, (srt_ok hm).2, q⟩
end DP.L

set_option Elab.async false
set_option linter.all false
set_option maxRecDepth 100000
set_option maxHeartbeats 1000000
/-! LAh: trees; truth; draws' picks. -/
namespace DP.L
open PySem PySem.Spec PyProof.Rows L2 DP
variable {o : Own}
def unJ : D → Int | .int i => i | _ => 0
def unI : D → List Int | .tup xs => xs.map unJ | _ => []
theorem unI_tupI (l : List Int) : unI (tupI l) = l := by
  simp only [unI, tupI, List.map_map]
  conv => rhs; rw [← List.map_id l]
  exact List.map_congr_left fun _ _ => rfl
theorem sortK_perm (bs : List (List Int)) : (sortK bs).Perm bs := List.mergeSort_perm _ _
theorem trees_eq (n : Int) (ts : List (Int × Int)) : treesW n ts = .tup ((((sortK (lotsF ts.length)).map tupI).filter (fun d => treeB n ts (unI d))).map id) := by
  unfold treesW treesF
  rw [List.map_id, List.filter_map]
  have : ((fun d => treeB n ts (unI d)) ∘ tupI) = treeB n ts := by funext l; simp [Function.comp, unI_tupI]
  rw [this]
theorem mem_lots {m : Nat} {l : List Int} (hm : m ≤ 12) (h : l ∈ sortK (lotsF m)) : GL m l ∧ l.length ≤ m := by
  have h2 := (sortK_perm (lotsF m)).mem_iff.mp h
  obtain ⟨a, b⟩ := lotsF_mem m l h2
  exact ⟨⟨by omega, b⟩, a⟩
theorem w_treesIn (ds : List D) (Q : D → Bool → Prop) (X : D → Prop) (h : sTreesIn ds Q X) : wdef (Cx o) N_trees_in.length c_trees_in ds Q X := by
  obtain ⟨n, ts, rfl, g, q⟩ := h
  refine w_def ?_
  have hl := g.2.2.1
  have ga := allF_GL ts.length (by omega)
  have sz : 1000000 ≤ sizeLine := by rw [sizeLine_eq]; omega
  have hlen : (sortK (lotsF ts.length)).length ≤ 4096 := by rw [(sortK_perm _).length_eq, lotsF_len]; exact pow_le hl
  rw [trees_eq] at q
  simp [c_trees_in, N_trees_in, f13, qAT g, f11, qIn g ga, rkD, f15, qAL g]
  refine lk_fil (fun d => treeB n ts (unI d)) id rfl trivial rfl rfl ?_ (fun x hx as P ha hP => ?_) ?_
  · simp; omega
  · obtain ⟨l, hl2, rfl⟩ := List.mem_map.mp hx
    obtain ⟨gl, _⟩ := mem_lots hl hl2
    simp only [unI_tupI] at hP
    have e : tupI l = .tup (l.map .int) := rfl
    simp [e]
    unfold treeB at hP
    by_cases c1 : (l.length : Int) = rankF n ts (allF ts.length)
    · simp [c1] at hP ⊢
      rw [← e, f11, qIn g gl]
      simp [rkD]
      by_cases c2 : rankF n ts l = rankF n ts (allF ts.length)
      · simp [c2, ha] at hP ⊢
        exact hP
      · simp [c2] at hP ⊢
        exact hP
    · simpa [c1] using hP
  · simpa using q
theorem w_lawTrees (ds : List D) (Q : D → Bool → Prop) (X : D → Prop) (h : sTreesIn ds Q X) : wdef (Cx o) N__law_trees.length c__law_trees ds Q X := by
  obtain ⟨n, ts, rfl, g, q⟩ := h
  refine w_def ?_
  have hl := g.2.2.1
  have ga := allF_GL ts.length (by omega)
  have sz : 1000000 ≤ sizeLine := by rw [sizeLine_eq]; omega
  have hlen : (sortK (lotsF ts.length)).length ≤ 4096 := by rw [(sortK_perm _).length_eq, lotsF_len]; exact pow_le hl
  rw [trees_eq] at q
  have ew : webD n ts = .tup [.str "web", .int n, .tup (ts.map pairD)] := rfl
  have ea : (D.tup (rngD 0 ts.length)) = tupI (allF ts.length) := by rw [rngD_all]; rfl
  simp [c__law_trees, N__law_trees, ew, at2, big0, bigN (m := ts.length) (by omega)]
  rw [ea, ← ew]
  refine ⟨by omega, ?_⟩
  simp [f29, qIn g ga, rkD]
  have qL : ∀ {Q : D → Bool → Prop} {X : D → Prop}, sLots [.int ts.length] Q X = Q (.lst ((sortK (lotsF ts.length)).map tupI)) true := fun {Q X} => propext ⟨fun ⟨m, e, _, q⟩ => by
    have e : (ts.length : Int) = m := by simpa using e
    have : ts.length = m := by omega
    rw [this]; exact q, fun q => ⟨_, rfl, hl, q⟩⟩
  simp [ew, at2, f30, qL]
  refine lk_fil (fun d => treeB n ts (unI d)) id rfl trivial rfl rfl ?_ (fun x hx as P ha hP => ?_) ?_
  · simp; omega
  · obtain ⟨l, hl2, rfl⟩ := List.mem_map.mp hx
    obtain ⟨gl, _⟩ := mem_lots hl hl2
    simp only [unI_tupI] at hP
    have e : tupI l = .tup (l.map .int) := rfl
    simp [e]
    unfold treeB at hP
    by_cases c1 : (l.length : Int) = rankF n ts (allF ts.length)
    · simp [c1] at hP ⊢
      rw [← ew] at hP
      rw [← e, ← ew, f29, qIn g gl]
      simp [rkD]
      by_cases c2 : rankF n ts l = rankF n ts (allF ts.length)
      · simp [c2, ha] at hP ⊢
        exact hP
      · simp [c2] at hP ⊢
        exact hP
    · simpa [c1] using hP
  · simpa using q
theorem w_trees (ds : List D) (Q : D → Bool → Prop) (X : D → Prop) (h : sTrees ds Q X) : wdef (Cx o) N_trees.length c_trees ds Q X := by
  obtain ⟨v, rfl, sv, q1, q2⟩ := h
  refine w_def ?_
  cases hw : webB v
  · simp [c_trees, N_trees, f4, q4 sv, hw, q1]
  · obtain ⟨n, ts, rfl, g⟩ := web_shape hw
    simp [c_trees, N_trees, f4, q4 sv, hw, f18, qTI g]
    simpa using q2 n ts rfl g
theorem w_truth (ds : List D) (Q : D → Bool → Prop) (X : D → Prop) (h : sTruth ds Q X) : wdef (Cx o) N__law_is_truth.length c__law_is_truth ds Q X := by
  obtain ⟨a, b, rfl, q⟩ := h
  refine w_def ?_
  cases b <;> simpa [c__law_is_truth, N__law_is_truth] using q
theorem w_made (ds : List D) (Q : D → Bool → Prop) (X : D → Prop) (h : sMade ds Q X) : wdef (Cx o) N__law_made.length c__law_made ds Q X := by
  obtain ⟨n, ps, rfl, hl, q⟩ := h
  refine w_def ?_
  have sz : 1000000 ≤ sizeLine := by rw [sizeLine_eq]; omega
  simp [c__law_made, N__law_made]
  refine lk_map (fun d => pairD (min (unp d).1 (unp d).2, max (unp d).1 (unp d).2)) rfl trivial rfl rfl ?_ (fun x hx as P ha hP => ?_) ?_
  · simp; omega
  · obtain ⟨p, hp, rfl⟩ := List.mem_map.mp hx
    have e1 : (if p.2 < p.1 then p.2 else p.1) = min p.1 p.2 := by omega
    have e2 : (if p.1 < p.2 then p.2 else p.1) = max p.1 p.2 := by omega
    simp [pairD_eq, ha, e1, e2]
    simpa [pairD_eq, unp] using hP
  · simp
    have e : ((fun d => pairD (min (unp d).1 (unp d).2, max (unp d).1 (unp d).2)) ∘ pairD) = fun p : Int × Int => pairD (min p.1 p.2, max p.1 p.2) := rfl
    rw [e]
    have e2 : webD n (ps.map fun p => (min p.1 p.2, max p.1 p.2)) = .tup [.str "web", .int n, .tup (ps.map fun p => pairD (min p.1 p.2, max p.1 p.2))] := by unfold webD; rw [List.map_map]; rfl
    rw [e2] at q
    exact q
section
variable {Q : D → Bool → Prop} {X : D → Prop} {v : D} {n b r : Int} {ts : List (Int × Int)} {ps : List (Int × Int)} {l : List Int} {xs : List D}
theorem qDraw (h : 1 ≤ r) (h2 : r ≤ 1000000) : sDraw [.res, .int r] Q X = ∀ k : Int, 0 ≤ k → k < r → Q (.int k) false := propext ⟨fun ⟨_, e, _, _, q⟩ => by cases e; exact q, fun q => ⟨_, rfl, h, h2, q⟩⟩
theorem qPick (h : xs ≠ []) (h2 : xs.length ≤ 1000000) : sPick [.res, .lst xs] Q X = ∀ d ∈ xs, Q d false := propext ⟨fun ⟨_, e, _, _, q⟩ => by cases e; exact q, fun q => ⟨_, rfl, h, h2, q⟩⟩
theorem qShuf (h : ps.length ≤ 64) : sShuf [.res, .lst (ps.map pairD)] Q X = ∀ qs : List (Int × Int), qs.Perm ps → Q (.lst (qs.map pairD)) true := propext ⟨fun ⟨ps', e, _, q⟩ => by
  simp only [List.cons.injEq, D.lst.injEq, and_true, true_and] at e; rw [pairs_inj e]; exact q, fun q => ⟨_, rfl, h, q⟩⟩
theorem qMade (h : ps.length ≤ 1000) : sMade [.int n, .lst (ps.map pairD)] Q X = Q (webD n (ps.map fun p => (min p.1 p.2, max p.1 p.2))) false := propext ⟨fun ⟨_, _, e, _, q⟩ => by
  simp only [List.cons.injEq, D.int.injEq, D.lst.injEq, and_true] at e; obtain ⟨rfl, e⟩ := e; rw [pairs_inj e]; exact q, fun q => ⟨_, _, rfl, h, q⟩⟩
end
theorem w_pick (ds : List D) (Q : D → Bool → Prop) (X : D → Prop) (h : sPick ds Q X) : wdefc (Cx o) N__law_pick.length 1 c__law_pick ds Q X := by
  obtain ⟨xs, rfl, h0, hl, q⟩ := h
  refine w_defc ?_
  have hp : 1 ≤ xs.length := List.length_pos_iff.mpr h0
  simp [c__law_pick, N__law_pick, f22, qDraw (r := xs.length) (by omega) (by omega)]
  intro k k0 k1
  have e : k = ((k.toNat : Nat) : Int) := by omega
  have hk : k.toNat < xs.length := by omega
  have a1 : L2.atI xs k = some xs[k.toNat] := by
    have h := L2.atI_nat (xs := xs) (j := k.toNat) (v := xs[k.toNat]) (by simp [hk])
    rwa [← e] at h
  simp [a1]
  exact q _ (List.getElem_mem hk)
theorem erase_map {α β : Type} (f : α → β) : ∀ (l : List α) (i : Nat), (l.map f).eraseIdx i = (l.eraseIdx i).map f
  | [], _ => rfl
  | _ :: _, 0 => rfl
  | x :: l, i + 1 => by simp [erase_map f l i]
theorem perm_swap {α : Type} {xs : List α} {k : Nat} (h : k < xs.length) (ys : List α) : (ys ++ [xs[k]] ++ xs.eraseIdx k).Perm (ys ++ xs) := by
  rw [List.append_assoc]
  refine List.Perm.append_left ys ?_
  rw [List.eraseIdx_eq_take_drop_succ]
  have h2 : xs.take k ++ xs[k] :: xs.drop (k + 1) = xs := by rw [List.getElem_cons_drop, List.take_append_drop]
  refine List.Perm.trans ?_ (List.Perm.of_eq h2)
  exact (List.perm_middle (a := xs[k]) (l₁ := xs.take k) (l₂ := xs.drop (k + 1))).symm
theorem w_shuf (ds : List D) (Q : D → Bool → Prop) (X : D → Prop) (h : sShuf ds Q X) : wdefc (Cx o) N__law_shuffled.length 64 c__law_shuffled ds Q X := by
  obtain ⟨ps, rfl, hl, q⟩ := h
  refine w_defc ?_
  have sz : 1000000 ≤ sizeLine := by rw [sizeLine_eq]; omega
  have pp : ∀ l : List (Int × Int), (D.lst (l.map pairD)).pln 60 = true := by
    intro l
    show D.pln.plns (l.map pairD) 59 = true
    induction l with
    | nil => rfl
    | cons p l ih => rw [List.map_cons]; simp only [D.pln.plns, ih, Bool.and_true]; rfl
  have p0 : (D.lst []).pln 60 = true := rfl
  simp [c__law_shuffled, N__law_shuffled]
  refine ⟨_, _, rfl, rfl, ?_⟩
  simp [sts]
  refine y_whl (fun (a : List (Int × Int) × List (Int × Int)) => ⟨[.sh .res, .sh (.lst (ps.map pairD)), .ow (.lst (a.1.map pairD)), .ow (.lst (a.2.map pairD)), .crd (64 - a.2.length)], []⟩) (fun a => (a.2 ++ a.1).Perm ps) (fun a => a.1.length) (ps, []) (by simp) (fun a ia K hK => ?_)
  obtain ⟨left, found⟩ := a
  have hln : left.length + found.length = ps.length := by have := ia.length_eq; simp at this; omega
  simp [lv_eq, pp, p0]
  cases left with
  | nil =>
    have e : D.eqq (.lst []) (.lst []) = true := rfl
    simp [e]
    exact q found (by simpa using ia)
  | cons p left =>
    have e : D.eqq (.lst (pairD p :: left.map pairD)) (.lst []) = false := rfl
    simp [e, lv_eq, f22]
    have hr : ((left.length : Int) + 1) ≤ 1000000 := by simp at hln; omega
    rw [qDraw (by omega) hr]
    refine ⟨by simp at hln; omega, ?_⟩
    intro k k0 k1
    simp
    have hk : k.toNat < (p :: left).length := by simp; omega
    have ek : ((k.toNat : Nat) : Int) = k := by omega
    refine ⟨by omega, by omega, k.toNat, ?_, pairD (p :: left)[k.toNat], ?_, by simp at hln; omega, ?_⟩
    · unfold L2.ixN
      rw [if_pos k0, if_pos (by omega)]
    · show ((p :: left).map pairD)[k.toNat]? = _
      rw [List.getElem?_map, List.getElem?_eq_getElem hk]
      rfl
    · have h2 := hK ((p :: left).eraseIdx k.toNat, found ++ [(p :: left)[k.toNat]]) ((perm_swap hk found).trans ia) (by rw [List.length_eraseIdx_of_lt hk]; exact Nat.sub_lt (by simp) (by omega))
      have e2 : (pairD p :: left.map pairD).eraseIdx k.toNat = ((p :: left).eraseIdx k.toNat).map pairD := erase_map pairD (p :: left) k.toNat
      rw [e2]
      dsimp only at h2
      rw [List.map_append] at h2
      rw [show 64 - found.length - 1 = 64 - (found ++ [(p :: left)[k.toNat]]).length by simp; omega]
      exact h2
theorem w_shufWeb (ds : List D) (Q : D → Bool → Prop) (X : D → Prop) (h : sShufWeb ds Q X) : wdefc (Cx o) N__law_shuffled_web.length 64 c__law_shuffled_web ds Q X := by
  obtain ⟨n, ps, rfl, hl, n1, n8, hr, q⟩ := h
  refine w_defc ?_
  simp [c__law_shuffled_web, N__law_shuffled_web, f24, qShuf (ps := ps) (by omega)]
  intro qs hq
  have hl2 := hq.length_eq
  simp [f32, qMade (ps := qs) (n := n) (by omega)]
  have hg : GW n (qs.map fun p => (min p.1 p.2, max p.1 p.2)) := by
    refine ⟨n1, n8, by simp; omega, fun p hp => ?_⟩
    obtain ⟨p, hp2, rfl⟩ := List.mem_map.mp hp
    obtain ⟨a, b, c, d⟩ := hr p (hq.mem_iff.mp hp2)
    refine ⟨⟨?_, ?_, ?_, ?_⟩, ?_⟩ <;> dsimp only <;> omega
  simpa using q _ hg
theorem atD {α : Type} {xs : List α} {i : Nat} {v : α} (h : xs[i]? = some v) : L2.atI xs (i : Int) = some v := L2.atI_nat h
theorem szD_pos (v : D) : 1 ≤ szD v := by cases v <;> simp [szD]
def szL (vs : List D) : Nat := szD.szs vs
theorem szs_app : ∀ xs ys : List D, szD.szs (xs ++ ys) = szD.szs xs + szD.szs ys
  | [], _ => by simp [szD.szs]
  | x :: xs, ys => by simp [szD.szs, szs_app xs ys]; omega
def twoD (v : D) : D := .tup [v, v]
theorem zip_self (ds : List D) : ((ds.zip ds).map fun p => D.tup [p.1, p.2]) = ds.map twoD := by
  induction ds with
  | nil => rfl
  | cons d ds ih => simp only [List.zip_cons_cons, List.map_cons, ih]; rfl
theorem sz_len : ∀ vs : List D, vs.length ≤ szD.szs vs
  | [] => Nat.zero_le _
  | v :: vs => by
    have := sz_len vs
    have := szD_pos v
    simp only [List.length_cons, szD.szs]
    omega
end DP.L

set_option Elab.async false
set_option linter.all false
set_option maxRecDepth 100000
set_option maxHeartbeats 1000000
/-! LAi: what is alike is alike. -/
namespace DP.L
open PySem PySem.Spec PyProof.Rows L2 DP
variable {o : Own}
theorem Sm.pln {k : Nat} {v : D} (h : Sm k v) : ∀ m, k ≤ m → v.pln m = true := by
  induction h with
  | int k i => intro m _; cases m <;> rfl
  | tup h ih =>
    rename_i k ds
    intro m hm
    cases m with
    | zero => omega
    | succ m =>
      show D.pln.plns ds m = true
      clear h
      induction ds with
      | nil => rfl
      | cons d ds ih2 =>
        simp only [D.pln.plns, Bool.and_eq_true]
        exact ⟨ih d List.mem_cons_self m (by omega), ih2 fun e he => ih e (List.mem_cons_of_mem _ he)⟩
  | lst h ih =>
    rename_i k ds
    intro m hm
    cases m with
    | zero => omega
    | succ m =>
      show D.pln.plns ds m = true
      clear h
      induction ds with
      | nil => rfl
      | cons d ds ih2 =>
        simp only [D.pln.plns, Bool.and_eq_true]
        exact ⟨ih d List.mem_cons_self m (by omega), ih2 fun e he => ih e (List.mem_cons_of_mem _ he)⟩
theorem plns_of {m : Nat} : ∀ {ds : List D}, (∀ d ∈ ds, d.pln m = true) → D.pln.plns ds m = true
  | [], _ => rfl
  | d :: ds, h => by
    simp only [D.pln.plns, Bool.and_eq_true]
    exact ⟨h d List.mem_cons_self, plns_of fun e he => h e (List.mem_cons_of_mem _ he)⟩
theorem two_pln {v : D} (h : Sm 5 v) : (twoD v).pln 59 = true := by
  show D.pln.plns [v, v] 58 = true
  exact plns_of fun d hd => by
    simp at hd
    rw [hd]
    exact h.pln 58 (by omega)
theorem stack_pln {vs : List D} (h : ∀ v ∈ vs, Sm 5 v) : (D.lst (vs.map twoD)).pln 60 = true := by
  show D.pln.plns (vs.map twoD) 59 = true
  exact plns_of fun d hd => by
    obtain ⟨v, hv, rfl⟩ := List.mem_map.mp hd
    exact two_pln (h v hv)
theorem sm_sub {k : Nat} {v : D} (h : Sm k v) : ∀ m, k ≤ m → Sm m v := by
  induction h with
  | int k i => intro m _; exact .int m i
  | tup h ih => intro m hm; cases m with
    | zero => omega
    | succ m => exact .tup fun d hd => ih d hd m (by omega)
  | lst h ih => intro m hm; cases m with
    | zero => omega
    | succ m => exact .lst fun d hd => ih d hd m (by omega)
def twoF : D → D | .tup [a, b] => .tup [a, b] | _ => .non
theorem last_snoc {α : Type} {vs : List α} (h : vs ≠ []) : ∃ us u, vs = us ++ [u] := ⟨vs.dropLast, vs.getLast h, (List.dropLast_concat_getLast h).symm⟩
theorem iT1 {i : Int} {P : Bool → Prop} : isiTS (Cx o) (.int i) ["int", "str"] P = P true := propext ⟨fun ⟨b, e, q⟩ => by cases e; exact q, fun q => ⟨true, rfl, q⟩⟩
theorem iT2 {i : List D} {P : Bool → Prop} : isiTS (Cx o) (.tup i) ["int", "str"] P = P false := propext ⟨fun ⟨b, e, q⟩ => by cases e; exact q, fun q => ⟨false, rfl, q⟩⟩
theorem iT3 {i : List D} {P : Bool → Prop} : isiTS (Cx o) (.lst i) ["int", "str"] P = P false := propext ⟨fun ⟨b, e, q⟩ => by cases e; exact q, fun q => ⟨false, rfl, q⟩⟩
theorem eB {a b : Bool} : D.eqq (.bl a) (.bl b) = (a == b) := rfl
theorem w_same (ds : List D) (Q : D → Bool → Prop) (X : D → Prop) (h : sSame ds Q X) : wdef (Cx o) N__law_same.length c__law_same ds Q X := by
  obtain ⟨v, rfl, hv, hz, q⟩ := h
  refine w_def ?_
  have sz : 1000000 < sizeLine := by rw [sizeLine_eq]; omega
  have p0 : (D.lst []).pln 60 = true := rfl
  simp [c__law_same, N__law_same]
  refine y_whl (fun (a : List D × Slot × Slot × Slot) => ⟨[.sh v, .sh v, .ow (.lst (a.1.map twoD)), a.2.1, a.2.2.1, a.2.2.2, .emp, .emp, .emp], []⟩) (fun a => (∀ u ∈ a.1, Sm 5 u) ∧ szD.szs a.1 ≤ 1000000) (fun a => szD.szs a.1) ([v], .emp, .emp, .emp) ⟨by simpa using hv, by simpa [szD.szs] using hz⟩ (fun a ia K hK => ?_)
  obtain ⟨vs, x3, x4, x5⟩ := a
  obtain ⟨hs, hsz⟩ := ia
  dsimp only at hs hsz hK ⊢
  have hpl := stack_pln hs
  simp [lv_eq, hpl, p0]
  by_cases hvs : vs = []
  · subst hvs
    have e : D.eqq (.lst []) (.lst []) = true := rfl
    simp [e]
    exact q
  · obtain ⟨us, u, rfl⟩ := last_snoc hvs
    have e : D.eqq (.lst (us.map twoD ++ [.tup [u, u]])) (.lst []) = false := by
      cases us <;> rfl
    have e2 : szD.szs (us ++ [u]) = szD.szs us + szD u := by rw [szs_app]; simp [szD.szs]
    have hu := hs u (by simp)
    have hus : ∀ w ∈ us, Sm 5 w := fun w hw => hs w (by simp [hw])
    have hpos := szD_pos u
    simp [e, twoD]
    cases hu with
    | int k i =>
      simp
      have h2 := fun y3 y4 y5 => hK (us, y3, y4, y5) ⟨hus, by dsimp only; omega⟩ (by dsimp only; omega)
      simp [iT1, eB]
      exact h2 _ _ _
    | tup hd =>
      rename_i es
      have m1 : memD (.bl true) [.bl true, .bl false] = true := rfl
      have m2 : (D.lst [.bl true, .bl false]).pln 60 = true := rfl
      simp [iT2, eB, lv_eq, m1, m2]
      have e4 : szD (D.tup es) = 1 + szD.szs es := by simp [szD]
      have hes : szD.szs es ≤ 1000000 := by omega
      have hle := sz_len es
      have hle2 := sz_len us
      refine lk_map id rfl trivial rfl rfl ?_ (fun y hy as P ha hP => ?_) ?_
      · simp; omega
      · obtain ⟨p, hp, rfl⟩ := List.mem_map.mp hy
        simp [ha]
        exact hP
      · rw [zip_self]
        have h2 := fun y3 y4 y5 => hK (us ++ es, y3, y4, y5) ⟨fun w hw => by
          rcases List.mem_append.mp hw with z | z
          · exact hus w z
          · exact sm_sub (hd w z) 5 (by omega), by dsimp only; rw [szs_app]; omega⟩ (by dsimp only; rw [szs_app]; omega)
        simp
        refine ⟨by omega, ?_⟩
        have h3 := h2 (.sh (.tup es)) (.sh (.tup es)) (.ow (.lst [.bl true, .bl false]))
        rw [List.map_append] at h3
        exact h3
    | lst hd =>
      rename_i es
      have m1 : memD (.bl true) [.bl false, .bl true] = true := rfl
      have m2 : (D.lst [.bl false, .bl true]).pln 60 = true := rfl
      simp [iT3, eB, lv_eq, m1, m2]
      have e4 : szD (D.lst es) = 1 + szD.szs es := by simp [szD]
      have hes : szD.szs es ≤ 1000000 := by omega
      have hle := sz_len es
      have hle2 := sz_len us
      refine lk_map id rfl trivial rfl rfl ?_ (fun y hy as P ha hP => ?_) ?_
      · simp; omega
      · obtain ⟨p, hp, rfl⟩ := List.mem_map.mp hy
        simp [ha]
        exact hP
      · rw [zip_self]
        have h2 := fun y3 y4 y5 => hK (us ++ es, y3, y4, y5) ⟨fun w hw => by
          rcases List.mem_append.mp hw with z | z
          · exact hus w z
          · exact sm_sub (hd w z) 5 (by omega), by dsimp only; rw [szs_app]; omega⟩ (by dsimp only; rw [szs_app]; omega)
        simp
        refine ⟨by omega, ?_⟩
        have h3 := h2 (.sh (.lst es)) (.sh (.lst es)) (.ow (.lst [.bl false, .bl true]))
        rw [List.map_append] at h3
        exact h3
end DP.L

set_option Elab.async false
set_option linter.all false
set_option maxRecDepth 100000
set_option maxHeartbeats 1000000
/-! LAj: odd values, refusals. -/
namespace DP.L
open PySem PySem.Spec PyProof.Rows L2 DP
variable {o : Own}
def sdB : D → Bool
  | .non => true
  | .bl _ => true
  | .int _ => true
  | .str x => PyData.strOk x
  | .tup ds => decide (ds.length ≤ 1000) && sdBs ds
  | .lst ds => decide (ds.length ≤ 1000) && sdBs ds
  | .dct _ _ => true
  | _ => false
where
  sdBs : List D → Bool
  | [] => true
  | x :: xs => sdB x && sdBs xs
mutual
theorem sdB_ok : ∀ v : D, sdB v = true → Sd v
  | .non, _ => .non
  | .bl b, _ => .bl b
  | .int i, _ => .int i
  | .str x, h => .str h
  | .tup ds, h => by
    simp only [sdB, Bool.and_eq_true, decide_eq_true_eq] at h
    exact .tup h.1 (sdBs_ok ds h.2)
  | .lst ds, h => by
    simp only [sdB, Bool.and_eq_true, decide_eq_true_eq] at h
    exact .lst h.1 (sdBs_ok ds h.2)
  | .dct _ _, _ => .dct
  | .rng _ _, h => by cases h
  | .exc _ _, h => by cases h
  | .fn _, h => by cases h
  | .cls _, h => by cases h
  | .ty _, h => by cases h
  | .res, h => by cases h
  | .scr _, h => by cases h
  | .lam _, h => by cases h
  | .thk _ _, h => by cases h
theorem sdBs_ok : ∀ vs : List D, sdB.sdBs vs = true → ∀ d ∈ vs, Sd d
  | [], _, d, hd => by cases hd
  | v :: vs, h, d, hd => by
    simp only [sdB.sdBs, Bool.and_eq_true] at h
    rcases List.mem_cons.mp hd with z | z
    · rw [z]; exact sdB_ok v h.1
    · exact sdBs_ok vs h.2 d z
end
theorem x_neg {C : Ctx} {l k : List Slot} {Q : St → Prop} {X : D → St → Prop} {a : E} : WE C (.neg a) ⟨l, k⟩ Q X = WE C a ⟨l, k⟩ (fun s1 => TP s1 fun d s2 => ∃ i, d = .int i ∧ Q ⟨s2.l, .sh (.int (-i)) :: s2.k⟩) X := by simp only [WE, we, TP, St.push]
theorem qOddLot {n : Int} {ts : List (Int × Int)} (g : GW n ts) {Q : D → Bool → Prop} {X : D → Prop} : sOddLot [.res, webD n ts] Q X = ∀ v, Sd v → lotB ts.length v = false → Q v false := propext ⟨fun ⟨_, _, e, _, q⟩ => by
  simp only [List.cons.injEq, and_true, true_and] at e; obtain ⟨rfl, rfl⟩ := webD_inj e; exact q, fun q => ⟨_, _, rfl, g, q⟩⟩
theorem w_odd (ds : List D) (Q : D → Bool → Prop) (X : D → Prop) (h : sOdd ds Q X) : wdefc (Cx o) N__law_odd.length 1 c__law_odd ds Q X := by
  obtain ⟨rfl, q⟩ := h
  refine w_defc ?_
  have sz : 1000000 < sizeLine := by rw [sizeLine_eq]; omega
  have s16 : 16 ≤ sizeLine := by omega
  have s7 : 7 ≤ sizeLine := by omega
  have s23 : 23 ≤ sizeLine := by omega
  simp [c__law_odd, N__law_odd, f23, s16, s7, s23, lv_eq]
  rw [qPick (by simp) (by simp)]
  intro d hd
  have key : sdB d = true ∧ webB d = false := by
    revert d
    decide +kernel
  simp
  exact q d (sdB_ok d key.1) key.2
theorem w_oddLot (ds : List D) (Q : D → Bool → Prop) (X : D → Prop) (h : sOddLot ds Q X) : wdefc (Cx o) N__law_odd_lot.length 1 c__law_odd_lot ds Q X := by
  obtain ⟨n, ts, rfl, g, q⟩ := h
  refine w_defc ?_
  have sz : 1000000 < sizeLine := by rw [sizeLine_eq]; omega
  have s12 : 12 ≤ sizeLine := by omega
  simp [c__law_odd_lot, N__law_odd_lot, f23, s12, lv_eq, webD, at2, x_neg]
  rw [qPick (by simp) (by simp)]
  intro d hd
  have key : Sd d ∧ lotB ts.length d = false := by
    simp at hd
    rcases hd with rfl | rfl | rfl | rfl | rfl | rfl | rfl | rfl | rfl | rfl | rfl | rfl
    all_goals refine ⟨sdB_ok _ (by first | decide +kernel | rfl), ?_⟩
    all_goals first
      | rfl
      | (simp [lotB, belowB, ltB]; done)
      | (simp [lotB, belowB, ltB]; omega)
  simp
  exact q d key.1 key.2
theorem ex1 : (Cx o).sub 1 1 = true := rfl
theorem ex2 : (Cx o).sub 2 2 = true := rfl
theorem hweb (c : Nat) : (Cx o).web c = true := rfl
theorem both_bad {R : Int → List (Int × Int) → List Int → D} {v o : D} (sv : Sd v) (so : Sd o) (hv : webB v = false) {Q : D → Bool → Prop} {X : D → Prop} (h : X (.exc 1 [])) : sBoth R [v, o] Q X :=
  ⟨v, o, rfl, sv, so, fun _ => h, fun n ts e g => by rw [e, web_ok g] at hv; cases hv⟩
theorem both_off {R : Int → List (Int × Int) → List Int → D} {n : Int} {ts : List (Int × Int)} {o : D} (g : GW n ts) (so : Sd o) (ho : lotB ts.length o = false) {Q : D → Bool → Prop} {X : D → Prop} (h : X (.exc 2 [])) : sBoth R [webD n ts, o] Q X := by
  refine ⟨_, o, rfl, sd_web g, so, fun z => (by rw [web_ok g] at z; cases z), fun n' ts' e g' => ?_⟩
  obtain ⟨rfl, rfl⟩ := webD_inj e
  exact ⟨fun _ => h, fun l e2 gl z => by rw [ho] at z; cases z⟩
end DP.L

set_option Elab.async false
set_option linter.all false
set_option maxRecDepth 100000
set_option maxHeartbeats 1000000
/-! LAk: drawn lots, bent webs. -/
namespace DP.L
open PySem PySem.Spec PyProof.Rows L2 DP
variable {o : Own}
theorem asc_lot {m : Nat} : ∀ {l : List Int}, (∀ i ∈ l, 0 ≤ i ∧ i < m) → l.Pairwise (· < ·) → lotB m (tupI l) = true := by
  intro l hr hp
  have h1 : (l.map D.int).all (fun e => belowB e m) = true := by
    rw [List.all_map, List.all_eq_true]
    intro i hi
    have := hr i hi
    simp [belowB, this]
  have h2 : ((l.map D.int).zip (l.map D.int).tail).all (fun p => ltB p.1 p.2) = true := by
    clear h1 hr
    induction l with
    | nil => rfl
    | cons x l ih =>
      cases l with
      | nil => rfl
      | cons y l =>
        have hp' := List.pairwise_cons.mp hp
        have hxy := hp'.1 y List.mem_cons_self
        have := ih hp'.2
        simp only [List.map_cons, List.tail_cons, List.zip_cons_cons, List.all_cons, Bool.and_eq_true] at this ⊢
        exact ⟨by simp [ltB, hxy], this⟩
  simp only [lotB, tupI, h1, h2, Bool.and_self]
theorem w_lotDrawn (ds : List D) (Q : D → Bool → Prop) (X : D → Prop) (h : sLotDrawn ds Q X) : wdefc (Cx o) N__law_lot.length 12 c__law_lot ds Q X := by
  obtain ⟨n, ts, rfl, g, q⟩ := h
  refine w_defc ?_
  have hl := g.2.2.1
  have sz : 1000000 < sizeLine := by rw [sizeLine_eq]; omega
  simp [c__law_lot, N__law_lot, webD, at2]
  refine lk_crd (c0 := 12) (fun pre as c => 12 ≤ c + pre.length ∧ ∃ l : List Int, as = l.map D.int ∧ l.Pairwise (· < ·) ∧ ∀ i ∈ l, 0 ≤ i ∧ i < pre.length) rfl (bigN (by omega)) rfl rfl rfl ?_ ⟨by simp, [], rfl, .nil, by simp⟩ (fun pre x post hxs as c hI ha P hP => ?_) (fun as c hI hle => ?_)
  · rw [rngD_all]; simp [allF]; omega
  · obtain ⟨hc, l, rfl, hp, hr⟩ := hI
    obtain ⟨rfl, hlt⟩ := rng_at hxs
    simp [f22]
    refine ⟨by omega, ?_⟩
    rw [qDraw (by omega) (by omega)]
    intro k k0 k1
    simp
    by_cases hk : k = 0
    · simp [hk]
      refine ⟨by simpa using ha, ?_⟩
      have h2 := hP ((l ++ [(pre.length : Int)]).map D.int) (c - 1) ⟨by simp; omega, _, rfl, ?_, ?_⟩ (by simp)
      · rw [List.map_append] at h2
        exact h2
      · rw [List.pairwise_append]
        refine ⟨hp, by simp, fun a ha b hb => ?_⟩
        have := hr a ha
        have hb : b = pre.length := by simpa using hb
        omega
      · intro i hi
        rw [List.length_append, List.length_singleton]
        rcases List.mem_append.mp hi with z | z
        · have := hr i z; omega
        · have : i = pre.length := by simpa using z
          omega
    · simp [hk]
      refine hP _ (c - 1) ⟨by simp; omega, l, rfl, hp, fun i hi => ?_⟩ (by simp)
      rw [List.length_append, List.length_singleton]
      have := hr i hi
      omega
  · obtain ⟨_, l, rfl, hp, hr⟩ := hI
    have e : (rngD 0 (ts.length : Int)).length = ts.length := by rw [rngD_all]; simp [allF]
    rw [e] at hr hle
    simp
    exact q l ⟨by simp at hle; omega, hr⟩ (asc_lot hr hp)
end DP.L

set_option Elab.async false
set_option linter.all false
set_option maxRecDepth 100000
set_option maxHeartbeats 1000000
/-! LAl: drawn webs. -/
namespace DP.L
open PySem PySem.Spec PyProof.Rows L2 DP
variable {o : Own}
theorem mem_rng {lo hi : Int} {x : D} (h : x ∈ rngD lo hi) : ∃ i, x = .int i ∧ lo ≤ i ∧ i < hi := by
  obtain ⟨k, hk, rfl⟩ := List.mem_map.mp h
  have := List.mem_range.mp hk
  exact ⟨lo + k, rfl, by omega, by omega⟩
theorem len_rng (lo hi : Int) : (rngD lo hi).length = (hi - lo).toNat := by simp [rngD]
theorem cut_hi {α : Type} (xs : List α) {m : Int} (h : 0 ≤ m) : cutL xs none (some m) = xs.take m.toNat := by
  unfold cutL HT.sIx
  have : ¬ m < 0 := by omega
  simp [this]
def Prs (n : Int) (as : List D) (k : Nat) : Prop := ∃ ps : List (Int × Int), as = ps.map pairD ∧ (∀ p ∈ ps, InR n p) ∧ ps.length = k
theorem Prs.snoc {n : Int} {as : List D} {k : Nat} (h : Prs n as k) {a b : Int} (hp : InR n (a, b)) : Prs n (as ++ [.tup [.int a, .int b]]) (k + 1) := by
  obtain ⟨ps, rfl, h1, h2⟩ := h
  refine ⟨ps ++ [(a, b)], by rw [List.map_append]; rfl, fun p hp2 => ?_, by simp [h2]⟩
  rcases List.mem_append.mp hp2 with z | z
  · exact h1 p z
  · obtain rfl : p = (a, b) := by simpa using z
    exact hp
section
variable {Q : D → Bool → Prop} {X : D → Prop} {n : Int} {ps : List (Int × Int)}
theorem qShufWeb (hl : ps.length ≤ 12) (n1 : 1 ≤ n) (n8 : n ≤ 8) (hr : ∀ p ∈ ps, InR n p) : sShufWeb [.res, .int n, .lst (ps.map pairD)] Q X = ∀ ts, GW n ts → Q (webD n ts) false := propext ⟨fun ⟨_, _, e, _, _, _, _, q⟩ => by
  simp only [List.cons.injEq, D.int.injEq, D.lst.injEq, and_true, true_and] at e; obtain ⟨rfl, e⟩ := e; exact q, fun q => ⟨_, _, rfl, hl, n1, n8, hr, q⟩⟩
end
theorem made_ok {n : Int} {ps : List (Int × Int)} (hl : ps.length ≤ 12) (n1 : 1 ≤ n) (n8 : n ≤ 8) (hr : ∀ p ∈ ps, InR n p) : GW n (ps.map fun p => (min p.1 p.2, max p.1 p.2)) := by
  refine ⟨n1, n8, by simp; omega, fun p hp => ?_⟩
  obtain ⟨p, hp2, rfl⟩ := List.mem_map.mp hp
  obtain ⟨a, b, c, d⟩ := hr p hp2
  refine ⟨⟨?_, ?_, ?_, ?_⟩, ?_⟩ <;> dsimp only <;> omega
theorem dr {r : Int} {Q : D → Bool → Prop} {X : D → Prop} (h : 1 ≤ r) (h2 : r ≤ 1000000) (q : ∀ k : Int, 0 ≤ k → k < r → Q (.int k) false) : (Cx o).fs 22 [.res, .int r] Q X := ⟨_, rfl, h, h2, q⟩
theorem sh {n : Int} {ps : List (Int × Int)} {Q : D → Bool → Prop} {X : D → Prop} (hl : ps.length ≤ 12) (n1 : 1 ≤ n) (n8 : n ≤ 8) (hr : ∀ p ∈ ps, InR n p) (q : ∀ ts, GW n ts → Q (webD n ts) false) : (Cx o).fs 34 [.res, .int n, .lst (ps.map pairD)] Q X := ⟨_, _, rfl, hl, n1, n8, hr, q⟩
def nextF (n : Int) : D → D | .int i => pairD (i, (i + 1).fmod n) | _ => .non
def withF (a : Int) : D → D | .int i => pairD (a, i) | _ => .non
theorem fmod_in {a n : Int} (h : 1 ≤ n) : 0 ≤ a.fmod n ∧ a.fmod n < n := by
  rw [Int.fmod_eq_emod_of_nonneg a (by omega)]
  exact ⟨Int.emod_nonneg a (by omega), Int.emod_lt_of_pos a (by omega)⟩
theorem w_webDrawn (ds : List D) (Q : D → Bool → Prop) (X : D → Prop) (h : sWebDrawn ds Q X) : wdefc (Cx o) N__law_web.length 200 c__law_web ds Q X := by
  obtain ⟨pl, m, rfl, pl1, pl8, m0, m12, q⟩ := h
  refine w_defc ?_
  have sz : 1000000 < sizeLine := by rw [sizeLine_eq]; omega
  simp [c__law_web, N__law_web]
  refine dr (by omega) (by omega) fun way w0 w7 => ?_
  simp
  refine dr (by omega) (by omega) fun k k0 k8 => ?_
  simp
  refine dr (by omega) (by omega) fun many y0 ym => ?_
  obtain ⟨n, hn⟩ : ∃ n, 1 + k = n := ⟨_, rfl⟩
  have n1 : 1 ≤ n := by omega
  have n8 : n ≤ 8 := by omega
  rw [hn]
  have nz : ¬ n = 0 := by omega
  have fin : ∀ {l k : List Slot}, True := trivial
  simp
  by_cases c0 : way = 0
  · simp [c0]
    refine lk_map (nextF n) rfl (big8 (by omega) n8) rfl rfl ?_ (fun x hx as P ha hP => ?_) ?_
    · rw [len_rng]; omega
    · obtain ⟨i, rfl, i0, i1⟩ := mem_rng hx
      simp [nz, ha]
      exact hP
    · obtain ⟨ps, e, hr, hl⟩ : Prs n ((rngD 0 n).map (nextF n)) n.toNat := by
        refine ⟨((List.range n.toNat).map Int.ofNat).map fun i => (i, (i + 1).fmod n), ?_, ?_, by simp⟩
        · rw [rng0, List.map_map, List.map_map, List.map_map, List.map_map]
          rfl
        · intro p hp
          obtain ⟨i, hi, rfl⟩ := List.mem_map.mp hp
          obtain ⟨j, hj, rfl⟩ := List.mem_map.mp hi
          have := List.mem_range.mp hj
          have := fmod_in (a := (j : Int) + 1) n1
          refine ⟨?_, ?_, ?_, ?_⟩ <;> simp <;> omega
      rw [e]
      simp [cut_hi _ m0, ← List.map_take, lv_eq]
      refine sh (by simp; omega) n1 n8 (fun p hp => hr p (List.mem_of_mem_take hp)) fun ts g => ?_
      simpa using q n ts g
  · simp [c0]
    by_cases c1 : way = 1
    · simp [c1]
      refine fk_any (fun pre l => ∃ ps x7, l = [.sh .res, .sh (.int pl), .sh (.int m), .sh (.int 1), .sh (.int n), .sh (.int many), .ow (.lst (ps.map pairD)), x7, .emp, .emp, .emp, .crd 197] ∧ (∀ p ∈ ps, InR n p) ∧ ps.length ≤ 8 * pre.length) rfl (big8 (by omega) n8) rfl rfl ⟨[], .emp, rfl, by simp, by simp⟩ (fun pre x post hxs l ⟨ps, x7, hl2, hr, hl⟩ K Bk hK => ?_) (fun l ⟨ps, x7, hl2, hr, hl⟩ => ?_)
      · subst hl2
        obtain ⟨i, rfl, i0, i1⟩ := mem_rng (show x ∈ rngD 0 n by rw [hxs]; simp)
        have hpre : pre.length ≤ 8 := by
          have := congrArg List.length hxs
          rw [len_rng] at this
          simp at this
          omega
        simp [lv_eq]
        refine lk_map (withF i) rfl ⟨by unfold bigI; omega, big8 (by omega) n8⟩ rfl rfl ?_ (fun y hy as P ha hP => ?_) ?_
        · rw [len_rng]; omega
        · obtain ⟨j, rfl, j0, j1⟩ := mem_rng hy
          simp [ha]
          exact hP
        · obtain ⟨qs, e, hqr, hql⟩ : Prs n ((rngD (i + 1) n).map (withF i)) (n - (i + 1)).toNat := by
            refine ⟨(List.range (n - (i + 1)).toNat).map fun (j : Nat) => (i, i + 1 + (j : Int)), ?_, ?_, by simp⟩
            · unfold rngD
              rw [List.map_map, List.map_map]
              rfl
            · intro p hp
              obtain ⟨j, hj, rfl⟩ := List.mem_map.mp hp
              have := List.mem_range.mp hj
              refine ⟨?_, ?_, ?_, ?_⟩ <;> dsimp only <;> omega
          rw [e]
          have h2 := hK _ ⟨ps ++ qs, .sh (.int i), rfl, fun p hp => by
            rcases List.mem_append.mp hp with z | z
            · exact hr p z
            · exact hqr p z, by simp; omega⟩
          rw [List.map_append] at h2
          simp [lv_eq]
          exact ⟨by omega, h2⟩
      · subst hl2
        rw [len_rng] at hl
        have hsh : ∀ {Q' : D → Bool → Prop} {X' : D → Prop}, (∀ qs : List (Int × Int), qs.Perm ps → Q' (.lst (qs.map pairD)) true) → (Cx o).fs 24 [.res, .lst (ps.map pairD)] Q' X' := fun h => ⟨ps, rfl, by omega, h⟩
        simp [lv_eq]
        refine hsh fun qs hq => ?_
        simp [cut_hi _ y0, ← List.map_take, lv_eq]
        refine sh (by simp; omega) n1 n8 (fun p hp => hr p (hq.mem_iff.mp (List.mem_of_mem_take hp))) fun ts g => ?_
        simpa using q n ts g
    · simp [c1]
      by_cases c2 : way = 2 ∨ way = 3
      · rcases c2 with c2 | c2
        all_goals
          simp [c2]
          refine lk_crd (c0 := 197) (fun pre as c => c + pre.length = 197 ∧ Prs n as pre.length) rfl ⟨by unfold bigI; omega, big8 (by omega) n8⟩ rfl rfl rfl ?_ ⟨rfl, [], rfl, by simp, rfl⟩ (fun pre x post hxs as c hI ha P hP => ?_) (fun as c hI hle => ?_)
          · rw [len_rng]; omega
          · obtain ⟨i, rfl, i0, i1⟩ := mem_rng (show x ∈ rngD 1 n by rw [hxs]; simp)
            obtain ⟨hc, hI⟩ := hI
            have hlen := congrArg List.length hxs
            rw [len_rng] at hlen
            simp at hlen
            simp
            refine ⟨by omega, dr (by omega) (by omega) fun j j0 j1 => ?_⟩
            simp [ha]
            have h2 := hP _ (c - 1) ⟨by simp; omega, by rw [List.length_append, List.length_singleton]; exact hI.snoc (a := i) (b := j) ⟨by dsimp only; omega, by dsimp only; omega, by dsimp only; omega, by dsimp only; omega⟩⟩ (by simp)
            exact h2
          · obtain ⟨hc, ps, rfl, hr, hl⟩ := hI
            rw [len_rng] at hl hc
            have hr2 : ∀ p ∈ ps.take m.toNat, InR n p := fun p hp => hr p (List.mem_of_mem_take hp)
            have hl2 : (ps.take m.toNat).length ≤ 7 ∧ ((ps.take m.toNat).length : Int) ≤ m := by rw [List.length_take]; omega
            simp [cut_hi _ m0, ← List.map_take, lv_eq]
            have e0 : min m.toNat ps.length = (ps.take m.toNat).length := List.length_take.symm
            have e0i : min (m.toNat : Int) (ps.length : Int) = ((ps.take m.toNat).length : Int) := by rw [List.length_take]; omega
            generalize ps.take m.toNat = ts0 at *
            refine fk_any (fun pre l => ∃ as x3 x9 c2, l = [.sh .res, .sh (.int pl), .sh (.int m), x3, .sh (.int n), .sh (.int many), .ow (.lst as), .emp, .emp, x9, .emp, .crd c2] ∧ 190 ≤ c2 + 2 * pre.length ∧ Prs n as (ts0.length + pre.length)) rfl (by unfold bigI; omega) rfl rfl ⟨_, _, .emp, c, rfl, by simp; omega, ts0, rfl, hr2, rfl⟩ (fun pre x post hxs l ⟨as, x3, x9, c2, hl3, hc2, hps⟩ K Bk hK => ?_) (fun l ⟨as, x3, x9, c2, hl3, hc2, hps⟩ => ?_)
            · subst hl3
              have hlen := congrArg List.length hxs
              rw [len_rng] at hlen
              simp at hlen
              have hasl : as.length ≤ 1000 := by
                obtain ⟨qs, rfl, _, hql⟩ := hps
                simp
                omega
              obtain ⟨i, rfl, i0, i1⟩ := mem_rng (show x ∈ rngD 0 _ by rw [hxs]; simp)
              simp
              refine ⟨by omega, dr (by omega) (by omega) fun u u0 u1 => ?_⟩
              simp
              refine ⟨by omega, dr (by omega) (by omega) fun v v0 v1 => ?_⟩
              simp
              refine ⟨by omega, ?_⟩
              exact hK _ ⟨_, _, _, _, rfl, by simp; omega, by rw [List.length_append, List.length_singleton, ← Nat.add_assoc]; exact hps.snoc (a := u) (b := v) ⟨u0, u1, v0, v1⟩⟩
            · subst hl3
              obtain ⟨qs, rfl, hqr, hql⟩ := hps
              rw [len_rng] at hql hc2
              simp [lv_eq]
              refine ⟨by omega, ?_⟩
              refine sh (by omega) n1 n8 hqr fun ts g => ?_
              simpa using q n ts g
      · have c3 : ¬ way = 2 := fun e => c2 (.inl e)
        have c4 : ¬ way = 3 := fun e => c2 (.inr e)
        simp [c3, c4]
        have last : ∀ {N : En} {x : Slot}, True := trivial
        by_cases c5 : way = 4 ∧ 1 < n
        · obtain ⟨c5, c6⟩ := c5
          have hdiv : ¬ (2 : Int) = 0 := by omega
          simp [c5, c6]
          refine dr (by omega) (by omega) fun a a0 a1 => ?_
          simp
          refine dr (by omega) (by omega) fun b b0 b1 => ?_
          simp
          have hd0 : many.fdiv 2 = many / 2 := Int.fdiv_eq_ediv_of_nonneg many (by omega)
          have cd : L2.CDivN many 2 := by unfold L2.CDivN; omega
          obtain ⟨h, hh, h0, h1⟩ : ∃ h : Int, many.fdiv 2 = h ∧ 0 ≤ h ∧ h ≤ many := ⟨_, rfl, by omega, by omega⟩
          rw [hh]
          refine ⟨cd, by omega, by omega, by omega, cd, ?_⟩
          refine lk_crd (c0 := 195) (fun pre as c => c + 2 * pre.length = 195 ∧ Prs n as pre.length) rfl (by unfold bigI; omega) rfl rfl rfl ?_ ⟨rfl, [], rfl, by simp, rfl⟩ (fun pre x post hxs as c hI ha P hP => ?_) (fun as c hI hle => ?_)
          · rw [len_rng]; omega
          · obtain ⟨i, rfl, i0, i1⟩ := mem_rng (show x ∈ rngD 0 _ by rw [hxs]; simp)
            obtain ⟨hc, hI⟩ := hI
            have hlen := congrArg List.length hxs
            rw [len_rng] at hlen
            simp at hlen
            simp
            refine ⟨by omega, dr (by omega) (by omega) fun u u0 u1 => ?_⟩
            simp
            refine ⟨by omega, dr (by omega) (by omega) fun v v0 v1 => ?_⟩
            simp [ha]
            exact hP _ (c - 1 - 1) ⟨by simp; omega, by rw [List.length_append, List.length_singleton]; exact hI.snoc (a := u) (b := v) ⟨u0, u1, v0, v1⟩⟩ (by simp)
          · obtain ⟨hc, ps, rfl, hr, hl⟩ := hI
            rw [len_rng] at hl hc
            simp
            refine ⟨by omega, ?_⟩
            have e : List.replicate h.toNat (D.tup [.int a, .int b]) ++ ps.map pairD = (List.replicate h.toNat (a, b) ++ ps).map pairD := by rw [List.map_append, List.map_replicate]; rfl
            rw [e]
            refine ⟨by omega, sh (by simp; omega) n1 n8 (fun p hp => ?_) fun ts g => ?_⟩
            · rcases List.mem_append.mp hp with z | z
              · rw [(List.mem_replicate.mp z).2]
                exact ⟨a0, a1, b0, b1⟩
              · exact hr p z
            · simpa using q n ts g
        · by_cases c6 : way = 4
          · have c7 : ¬ 1 < n := fun e => c5 ⟨c6, e⟩
            simp [c6, c7]
            refine lk_crd (c0 := 197) (fun pre as c => c + 2 * pre.length = 197 ∧ Prs n as pre.length) rfl (by unfold bigI; omega) rfl rfl rfl ?_ ⟨rfl, [], rfl, by simp, rfl⟩ (fun pre x post hxs as c hI ha P hP => ?_) (fun as c hI hle => ?_)
            · rw [len_rng]; omega
            · obtain ⟨i, rfl, i0, i1⟩ := mem_rng (show x ∈ rngD 0 _ by rw [hxs]; simp)
              obtain ⟨hc, hI⟩ := hI
              have hlen := congrArg List.length hxs
              rw [len_rng] at hlen
              simp at hlen
              simp
              refine ⟨by omega, dr (by omega) (by omega) fun u u0 u1 => ?_⟩
              simp
              refine ⟨by omega, dr (by omega) (by omega) fun v v0 v1 => ?_⟩
              simp [ha]
              exact hP _ (c - 1 - 1) ⟨by simp; omega, by rw [List.length_append, List.length_singleton]; exact hI.snoc (a := u) (b := v) ⟨u0, u1, v0, v1⟩⟩ (by simp)
            · obtain ⟨hc, ps, rfl, hr, hl⟩ := hI
              rw [len_rng] at hl
              simp
              have hm : ∀ {Q' : D → Bool → Prop} {X' : D → Prop}, Q' (webD n (ps.map fun p => (min p.1 p.2, max p.1 p.2))) false → (Cx o).fs 32 [.int n, .lst (ps.map pairD)] Q' X' := fun h => ⟨_, _, rfl, by omega, h⟩
              refine hm ?_
              simpa using q n _ (made_ok (by omega) n1 n8 hr)
          · simp [c6]
            refine lk_crd (c0 := 197) (fun pre as c => c + 2 * pre.length = 197 ∧ Prs n as pre.length) rfl (by unfold bigI; omega) rfl rfl rfl ?_ ⟨rfl, [], rfl, by simp, rfl⟩ (fun pre x post hxs as c hI ha P hP => ?_) (fun as c hI hle => ?_)
            · rw [len_rng]; omega
            · obtain ⟨i, rfl, i0, i1⟩ := mem_rng (show x ∈ rngD 0 _ by rw [hxs]; simp)
              obtain ⟨hc, hI⟩ := hI
              have hlen := congrArg List.length hxs
              rw [len_rng] at hlen
              simp at hlen
              simp
              refine ⟨by omega, dr (by omega) (by omega) fun u u0 u1 => ?_⟩
              simp
              refine ⟨by omega, dr (by omega) (by omega) fun v v0 v1 => ?_⟩
              simp [ha]
              exact hP _ (c - 1 - 1) ⟨by simp; omega, by rw [List.length_append, List.length_singleton]; exact hI.snoc (a := u) (b := v) ⟨u0, u1, v0, v1⟩⟩ (by simp)
            · obtain ⟨hc, ps, rfl, hr, hl⟩ := hI
              rw [len_rng] at hl
              simp
              have hm : ∀ {Q' : D → Bool → Prop} {X' : D → Prop}, Q' (webD n (ps.map fun p => (min p.1 p.2, max p.1 p.2))) false → (Cx o).fs 32 [.int n, .lst (ps.map pairD)] Q' X' := fun h => ⟨_, _, rfl, by omega, h⟩
              refine hm ?_
              simpa using q n _ (made_ok (by omega) n1 n8 hr)
end DP.L

set_option Elab.async false
set_option linter.all false
set_option maxRecDepth 100000
set_option maxHeartbeats 1000000
/-! LAm: the law. -/
namespace DP.L
open PySem PySem.Spec PyProof.Rows L2 DP
variable {o : Own}
theorem sm_ints (k : Nat) (l : List Int) : Sm (k + 1) (tupI l) := .tup fun d hd => by
  obtain ⟨i, _, rfl⟩ := List.mem_map.mp hd
  exact .int k i
theorem sz_ints : ∀ l : List Int, szD.szs (l.map D.int) = l.length
  | [] => rfl
  | i :: l => by simp [szD.szs, szD, sz_ints l]; omega
theorem sz_tupI (l : List Int) : szD (tupI l) = 1 + l.length := by simp [tupI, szD, sz_ints]
theorem sz_lots {c : Nat} : ∀ ls : List (List Int), (∀ l ∈ ls, l.length ≤ c) → szD.szs (ls.map tupI) ≤ ls.length * (1 + c)
  | [], _ => by simp [szD.szs]
  | l :: ls, h => by
    have h1 := h l List.mem_cons_self
    have h2 := sz_lots ls fun k hk => h k (List.mem_cons_of_mem _ hk)
    simp only [List.map_cons, szD.szs, sz_tupI, List.length_cons, Nat.add_mul, Nat.one_mul]
    omega
theorem sm_lots (ls : List (List Int)) (k : Nat) : Sm (k + 2) (.tup (ls.map tupI)) := .tup fun d hd => by
  obtain ⟨l, _, rfl⟩ := List.mem_map.mp hd
  exact sm_ints k l
theorem pieces_len {n : Int} {ps : List (Int × Int)} (n8 : n ≤ 8) : (piecesF n ps).length ≤ 8 ∧ ∀ l ∈ piecesF n ps, l.length ≤ 8 := by
  constructor
  · unfold piecesF
    rw [List.length_map, (sortI_perm _).length_eq]
    have := dedup_len (namesF n ps)
    rw [namesF_len] at this
    omega
  · intro l hl
    unfold piecesF at hl
    obtain ⟨x, _, rfl⟩ := List.mem_map.mp hl
    have := List.length_filter_le (fun i => (namesF n ps).getD i.toNat 0 == x) ((List.range n.toNat).map Int.ofNat)
    simp only [List.length_map, List.length_range] at this
    omega
theorem trees_len {n : Int} {ts : List (Int × Int)} (h : ts.length ≤ 12) : (treesF n ts).length ≤ 4096 ∧ ∀ l ∈ treesF n ts, l.length ≤ 12 := by
  constructor
  · unfold treesF
    have := List.length_filter_le (treeB n ts) (sortK (lotsF ts.length))
    rw [(sortK_perm _).length_eq, lotsF_len] at this
    have := pow_le h
    omega
  · intro l hl
    have := (mem_lots h ((List.mem_filter.mp hl).1)).2
    omega
theorem lotsF_asc : ∀ (m : Nat) (l : List Int), l ∈ lotsF m → l.Pairwise (· < ·)
  | 0, l, h => by simp [lotsF] at h; subst h; exact .nil
  | m + 1, l, h => by
    simp only [lotsF, List.mem_append, List.mem_map] at h
    rcases h with h | ⟨k, h, rfl⟩
    · exact lotsF_asc m l h
    · rw [List.pairwise_append]
      refine ⟨lotsF_asc m k h, by simp, fun a ha b hb => ?_⟩
      have := (lotsF_mem m k h).2 a ha
      have : b = m := by simpa using hb
      omega
theorem allF_asc (m : Nat) : (allF m).Pairwise (· < ·) := by
  unfold allF
  rw [List.pairwise_map]
  refine List.Pairwise.imp ?_ List.pairwise_lt_range
  intro a b h
  show (a : Int) < b
  omega
def tailOf : S → S | .seq _ b => b | x => x
section
variable {Q : D → Bool → Prop} {X : D → Prop} {n : Int} {ts : List (Int × Int)} {l : List Int} {v od : D}
theorem c3 (h : Sd v) (q : Q (.bl (webB v)) false) : (Cx o).fs 3 [v] Q X := ⟨v, rfl, h, q⟩
theorem c35 (h : Sd v) (q : Q (.bl (webB v)) false) : (Cx o).fs 35 [v] Q X := ⟨v, rfl, h, q⟩
theorem cBoth {R : Int → List (Int × Int) → List Int → D} (g : GW n ts) (gl : GL ts.length l) (hlot : lotB ts.length (tupI l) = true) (q : Q (R n ts l) false) : sBoth R [webD n ts, tupI l] Q X :=
  ⟨_, _, rfl, sd_web g, sd_ints gl.1, fun z => (by rw [web_ok g] at z; cases z), fun n' ts' e g' => by
    obtain ⟨rfl, rfl⟩ := webD_inj e
    exact ⟨fun z => (by rw [hlot] at z; cases z), fun l' e2 _ _ => by rw [← tupI_inj e2]; exact q⟩⟩
theorem c10 (g : GW n ts) (gl : GL ts.length l) (hlot : lotB ts.length (tupI l) = true) (q : Q (piecesW n ts l) false) : (Cx o).fs 10 [webD n ts, tupI l] Q X := cBoth (R := piecesW) g gl hlot q
theorem c12 (g : GW n ts) (gl : GL ts.length l) (hlot : lotB ts.length (tupI l) = true) (q : Q (rkD n ts l) false) : (Cx o).fs 12 [webD n ts, tupI l] Q X := cBoth (R := rkD) g gl hlot q
theorem c17 (g : GW n ts) (gl : GL ts.length l) (hlot : lotB ts.length (tupI l) = true) (q : Q (trD n ts l) false) : (Cx o).fs 17 [webD n ts, tupI l] Q X := cBoth (R := trD) g gl hlot q
theorem nb_sh {d : D} {k : List Slot} {is : List Nat} : nbrs (.sh d :: k) is = nbrs k is := rfl
theorem ix1 {P : D → Prop} : idxS (webD n ts) (.int 1) P = P (.int n) := by simp [webD, at1]
theorem ix2 {P : D → Prop} : idxS (webD n ts) (.int 2) P = P (.tup (ts.map pairD)) := by simp [webD, at2]
theorem len_lot {P : D → Bool → Prop} : biS .len [tupI l] P = P (.int l.length) false := by simp [tupI]
theorem c33 {p m : Int} (p1 : 1 ≤ p) (p8 : p ≤ 8) (h0 : 0 ≤ m) (h1 : m ≤ 12) (q : ∀ n ts, GW n ts → Q (webD n ts) false) : (Cx o).fs 33 [.res, .int p, .int m] Q X := ⟨p, m, rfl, p1, p8, h0, h1, q⟩
theorem c23 {xs : List D} (h0 : xs ≠ []) (h1 : xs.length ≤ 1000000) (q : ∀ d ∈ xs, Q d false) : (Cx o).fs 23 [.res, .lst xs] Q X := ⟨xs, rfl, h0, h1, q⟩
theorem c36 (g : GW n ts) (q : ∀ l : List Int, GL ts.length l → lotB ts.length (tupI l) = true → Q (tupI l) false) : (Cx o).fs 36 [.res, webD n ts] Q X := ⟨n, ts, rfl, g, q⟩
theorem c27 (h : Sm 5 v) (hz : szD v ≤ 1000000) (q : Q (.bl true) false) : (Cx o).fs 27 [v, v] Q X := ⟨v, rfl, h, hz, q⟩
theorem c28 {ps : List (Int × Int)} (h : Ps n ps) (q : Q (.tup ((piecesF n ps).map tupI)) false) : (Cx o).fs 28 [.int n, .lst (ps.map pairD)] Q X := ⟨n, ps, rfl, h, q⟩
theorem c29 (g : GW n ts) (gl : GL ts.length l) (q : Q (rkD n ts l) false) : (Cx o).fs 29 [webD n ts, tupI l] Q X := ⟨n, ts, l, rfl, g, gl, q⟩
theorem c31 (g : GW n ts) (q : Q (treesW n ts) false) : (Cx o).fs 31 [webD n ts] Q X := ⟨n, ts, rfl, g, q⟩
theorem c19 (g : GW n ts) (q : Q (treesW n ts) false) : (Cx o).fs 19 [webD n ts] Q X := ⟨_, rfl, sd_web g, fun z => (by rw [web_ok g] at z; cases z), fun n' ts' e _ => by
  obtain ⟨rfl, rfl⟩ := webD_inj e
  exact q⟩
theorem c26 {a b : Bool} (q : Q (.bl (a == b)) false) : (Cx o).fs 26 [.bl a, .bl b] Q X := ⟨a, b, rfl, q⟩
theorem c37 (q : ∀ v, Sd v → webB v = false → Q v false) : (Cx o).fs 37 [.res] Q X := ⟨rfl, q⟩
end
end DP.L

set_option Elab.async false
set_option linter.all false
set_option maxRecDepth 100000
set_option maxHeartbeats 1000000
/-! LAn: least lots, rings, cuts. -/
namespace DP.L
open PySem PySem.Spec PyProof.Rows L2 DP
variable {o : Own}
theorem plns_ints (k : Nat) : ∀ l : List Int, D.pln.plns (l.map D.int) k = true
  | [] => rfl
  | i :: l => by simp [D.pln.plns, D.pln, plns_ints k l]
@[simp] theorem pln_tupI (l : List Int) : (tupI l).pln 60 = true := plns_ints 59 l
@[simp] theorem pln_ints (l : List Int) : (D.tup (l.map .int)).pln 60 = true := plns_ints 59 l
@[simp] theorem pln_lints (l : List Int) : (D.lst (l.map .int)).pln 60 = true := plns_ints 59 l
theorem eqq_ints : ∀ l k : List Int, D.eqq.eqs (l.map D.int) (k.map D.int) = decide (l = k)
  | [], [] => rfl
  | [], _ :: _ => by simp [D.eqq.eqs]
  | _ :: _, [] => by simp [D.eqq.eqs]
  | i :: l, j :: k => by
    simp [D.eqq.eqs, eqq_ints l k]
    by_cases h : i = j <;> simp [h]
theorem eqq_tupI (l k : List Int) : D.eqq (tupI l) (tupI k) = decide (l = k) := eqq_ints l k
theorem memD_ints (t : Int) (l : List Int) : memD (.int t) (l.map .int) = l.contains t := by
  rw [Bool.eq_iff_iff]
  simp only [memD, List.any_map, List.any_eq_true, List.contains_iff_mem, Function.comp, eqq_int, beq_iff_eq]
  exact ⟨fun ⟨x, h, e⟩ => e ▸ h, fun h => ⟨t, h, rfl⟩⟩
@[simp] theorem mem_tupI {t : Int} {l : List Int} {P : Bool → Prop} : cmpS .mem (.int t) (tupI l) P = P (l.contains t) := by
  unfold tupI
  rw [m_memT, memD_ints]
  exact propext ⟨fun h => h.2.2, fun h => ⟨rfl, pln_ints l, h⟩⟩
theorem m_nmemT {x : D} {ds : List D} {P : Bool → Prop} : cmpS .nmem x (.tup ds) P = (x.pln 60 = true ∧ (D.tup ds).pln 60 = true ∧ P (!memD x ds)) := by cases x <;> rfl
@[simp] theorem nmem_tupI {t : Int} {l : List Int} {P : Bool → Prop} : cmpS .nmem (.int t) (tupI l) P = P (!l.contains t) := by
  unfold tupI
  rw [m_nmemT, memD_ints]
  exact propext ⟨fun h => h.2.2, fun h => ⟨rfl, pln_ints l, h⟩⟩
@[simp] theorem itX_tupI {l : List Int} : itX .seq [tupI l] = some (True, l.map .int) := rfl
@[simp] theorem imm_ints (l : List Int) : (tupI l).imm = true := by
  have : ∀ l : List Int, D.imm.imms (l.map D.int) = true := fun l => by
    induction l with
    | nil => rfl
    | cons i l ih => simp [D.imm.imms, D.imm, ih]
  exact this l
@[simp] theorem tuple_tupI {l : List Int} {P : D → Bool → Prop} : biS .tuple [tupI l] P = P (tupI l) false := rfl
@[simp] theorem len_tupI {l : List Int} {P : D → Bool → Prop} : biS .len [tupI l] P = P (.int l.length) false := len_lot
theorem tuple_ints {l : List Int} {P : D → Bool → Prop} : biS .tuple [.lst (l.map .int)] P = P (tupI l) false := rfl
theorem subB_iff {a l : List Int} : subB a l = true ↔ ∀ t ∈ a, t ∈ l := by simp [subB, List.all_eq_true]
theorem leastF_snoc (ls : List (List Int)) (l : List Int) : leastF (ls ++ [l]) = leastStep (leastF ls) l := by unfold leastF; rw [List.foldl_append]; rfl
theorem leastF_len (ls : List (List Int)) : (leastF ls).length ≤ ls.length := by
  induction ls using gsnoc_ind with
  | h0 => exact Nat.le_refl _
  | h1 ls l ih =>
    rw [leastF_snoc, List.length_append, List.length_singleton]
    unfold leastStep
    split
    · omega
    · rw [List.length_append, List.length_singleton]; omega
theorem leastF_mem {ls : List (List Int)} : ∀ l ∈ leastF ls, l ∈ ls := by
  induction ls using gsnoc_ind with
  | h0 => exact fun _ h => h
  | h1 ls k ih =>
    intro l hl
    rw [leastF_snoc] at hl
    unfold leastStep at hl
    split at hl
    · exact List.mem_append_left _ (ih l hl)
    · rcases List.mem_append.mp hl with z | z
      · exact List.mem_append_left _ (ih l z)
      · exact List.mem_append_right _ z
theorem w_leastOf (ds : List D) (Q : D → Bool → Prop) (X : D → Prop) (h : sLeast ds Q X) : wdef (Cx o) N_least_of.length c_least_of ds Q X := by
  obtain ⟨ls, rfl, ⟨h1, h2⟩, q⟩ := h
  refine w_def ?_
  have sz : 1000000 ≤ sizeLine := by rw [sizeLine_eq]; omega
  simp [c_least_of, N_least_of]
  refine fk_anyT ls tupI (fun pre l => ∃ x2, l = [.sh (.lst (ls.map tupI)), .ow (.lst ((leastF pre).map tupI)), x2, .emp, .emp]) rfl trivial rfl rfl ⟨.emp, rfl⟩ (fun pre x post hxs l ⟨x2, hl2⟩ K Bk hK => ?_) (fun l ⟨x2, hl2⟩ => ?_)
  · subst hl2
    have hK' := hK _ ⟨.sh (tupI x), rfl⟩
    rw [leastF_snoc] at hK'
    have hlp := leastF_len pre
    have hlb : pre.length < 4096 ∧ (leastF pre).length ≤ pre.length := by
      refine ⟨?_, leastF_len pre⟩
      rw [hxs] at h1; simp at h1; omega
    have hmem : ∀ a ∈ leastF pre, a.length ≤ 12 := fun a ha => h2 a (by rw [hxs]; exact List.mem_append_left _ (leastF_mem a ha))
    generalize leastF pre = acc at *
    simp
    refine lkb_filT acc tupI (fun a => .bl (subB a x)) (fun _ => true) rfl rfl rfl (by omega) rfl (fun a ha as P has hP => ?_) ?_
    · have := hmem a ha
      simp
      refine lk_mapT a .int (fun t => .bl (x.contains t)) rfl trivial rfl rfl (by omega) (fun t ht as2 P2 has2 hP2 => ?_) ?_
      · simp [has2]
        simpa using hP2
      · simp [has]
        simpa [subB, Function.comp] using hP
    · unfold leastStep at hK'
      cases hc : acc.any (fun a => subB a x) with
      | true =>
        rw [hc] at hK'
        simp at hK'
        simp [Function.comp, hc, -List.any_eq_true]
        exact hK'
      | false =>
        rw [hc] at hK'
        simp at hK'
        simp [Function.comp, hc, -List.any_eq_true]
        exact ⟨by omega, hK'⟩
  · subst hl2
    simp [lv_eq]
    exact q
end DP.L

set_option Elab.async false
set_option linter.all false
set_option maxRecDepth 100000
set_option maxHeartbeats 1000000
/-! LAo: rings, cuts. -/
namespace DP.L
open PySem PySem.Spec PyProof.Rows L2 DP
variable {o : Own}
theorem eqs_nil (ds : List D) : D.eqq.eqs ds [] = ds.isEmpty := by cases ds <;> rfl
theorem eqq_lnil (ds : List D) : D.eqq (.lst ds) (.lst []) = ds.isEmpty := eqs_nil ds
@[simp] theorem pln_lnil : (D.lst []).pln 60 = true := rfl
theorem plns_ones {α : Type} (k : Nat) (i : Int) : ∀ l : List α, D.pln.plns (l.map fun _ => D.int i) k = true
  | [] => rfl
  | _ :: l => by simp [D.pln.plns, D.pln, plns_ones k i l]
@[simp] theorem pln_ones {α : Type} (i : Int) (l : List α) : (D.lst (l.map fun _ => D.int i)).pln 60 = true := plns_ones 59 i l
/-- [1 for ..] == [] -/
theorem eq_ones {α : Type} {i : Int} {l : List α} {P : Bool → Prop} : cmpS .eq (.lst (l.map fun _ => D.int i)) (.lst []) P = P l.isEmpty := by
  rw [m_eq, eqq_lnil]
  exact propext ⟨fun h => by simpa using h.2.2, fun h => ⟨pln_ones i l, rfl, by simpa using h⟩⟩
theorem ne_ones {α : Type} {i : Int} {l : List α} {P : Bool → Prop} : cmpS .ne (.lst (l.map fun _ => D.int i)) (.lst []) P = P (!l.isEmpty) := by
  rw [m_ne, eqq_lnil]
  exact propext ⟨fun h => by simpa using h.2.2, fun h => ⟨pln_ones i l, rfl, by simpa using h⟩⟩
/-- a list of wholes == [] -/
theorem eq_lints {l : List Int} {P : Bool → Prop} : cmpS .eq (.lst (l.map D.int)) (.lst []) P = P l.isEmpty := by
  rw [m_eq, eqq_lnil]
  exact propext ⟨fun h => by simpa using h.2.2, fun h => ⟨pln_lints l, rfl, by simpa using h⟩⟩
section
variable {Q : D → Bool → Prop} {X : D → Prop} {n : Int} {ts : List (Int × Int)} {l : List Int} {ls : List (List Int)} {v : D}
theorem q42 (g : GW n ts) : sRingsIn [webD n ts] Q X = Q (.tup ((ringsF n ts).map tupI)) false := propext ⟨fun ⟨_, _, e, _, q⟩ => by
  obtain ⟨rfl, rfl⟩ := webD_inj (by simpa using e); exact q, fun q => ⟨_, _, rfl, g, q⟩⟩
theorem q45 (g : GW n ts) : sCutsIn [webD n ts] Q X = Q (.tup ((cutsF n ts).map tupI)) false := propext ⟨fun ⟨_, _, e, _, q⟩ => by
  obtain ⟨rfl, rfl⟩ := webD_inj (by simpa using e); exact q, fun q => ⟨_, _, rfl, g, q⟩⟩
theorem map_tupI_inj : ∀ {a b : List (List Int)}, a.map tupI = b.map tupI → a = b
  | [], [], _ => rfl
  | [], _ :: _, h => by cases h
  | _ :: _, [], h => by cases h
  | x :: a, y :: b, h => by
    simp only [List.map_cons, List.cons.injEq] at h
    rw [tupI_inj h.1, map_tupI_inj h.2]
theorem q41 (h : Ls ls) : sLeast [.lst (ls.map tupI)] Q X = Q (.tup ((leastF ls).map tupI)) false := propext ⟨fun ⟨_, e, _, q⟩ => by
  simp only [List.cons.injEq, D.lst.injEq, and_true] at e
  rw [map_tupI_inj e]; exact q, fun q => ⟨_, rfl, h, q⟩⟩
theorem q44 (g : GW n ts) (gl : GL ts.length l) : sWithout [webD n ts, tupI l] Q X = Q (tupI (withoutF ts.length l)) false := propext ⟨fun ⟨_, _, _, e, _, _, q⟩ => by
  simp only [List.cons.injEq, and_true] at e
  obtain ⟨rfl, rfl⟩ := webD_inj e.1
  rw [tupI_inj e.2]; exact q, fun q => ⟨_, _, _, rfl, g, gl, q⟩⟩
end
theorem w_without (ds : List D) (Q : D → Bool → Prop) (X : D → Prop) (h : sWithout ds Q X) : wdef (Cx o) N_without.length c_without ds Q X := by
  obtain ⟨n, ts, l, rfl, g, gl, q⟩ := h
  refine w_def ?_
  have sz : 1000000 ≤ sizeLine := by rw [sizeLine_eq]; omega
  simp [c_without, N_without, f13, qAT g]
  refine lk_filT (allF ts.length) .int .int (fun t => !l.contains t) rfl trivial rfl rfl (by have := g.2.2.1; simp [allF]; omega) (fun t ht as P ha hP => ?_) ?_
  · cases hc : l.contains t with
    | true => simp [hc, -List.contains_eq_mem] at hP ⊢; exact hP
    | false => simp [hc, ha, -List.contains_eq_mem] at hP ⊢; exact hP
  · simp [-List.contains_eq_mem]
    exact q
theorem lots_le {n : Int} {ts : List (Int × Int)} (g : GW n ts) (p : List Int → Bool) : Ls ((sortK (lotsF ts.length)).filter p) := by
  have hl := g.2.2.1
  refine ⟨?_, fun l h => ?_⟩
  · have := List.length_filter_le p (sortK (lotsF ts.length))
    rw [(sortK_perm _).length_eq, lotsF_len] at this
    have := pow_le hl
    omega
  · have := (mem_lots hl (List.mem_filter.mp h).1).2
    omega
theorem slots_len {m : Nat} (h : m ≤ 12) : (sortK (lotsF m)).length ≤ 4096 := by rw [(sortK_perm _).length_eq, lotsF_len]; exact pow_le h
theorem w_ringsIn (ds : List D) (Q : D → Bool → Prop) (X : D → Prop) (h : sRingsIn ds Q X) : wdef (Cx o) N_rings_in.length c_rings_in ds Q X := by
  obtain ⟨n, ts, rfl, g, q⟩ := h
  refine w_def ?_
  have sz : 1000000 ≤ sizeLine := by rw [sizeLine_eq]; omega
  have hl := g.2.2.1
  simp [c_rings_in, N_rings_in, f15, qAL g]
  refine lk_filT (sortK (lotsF ts.length)) tupI tupI (ringB n ts) rfl trivial rfl rfl (by have := slots_len hl; omega) (fun l hx as P ha hP => ?_) ?_
  · obtain ⟨gl, _⟩ := mem_lots hl hx
    simp [f11, qIn g gl, rkD]
    unfold ringB at hP
    by_cases c : rankF n ts l < (l.length : Int)
    · simp [c, ha] at hP ⊢; exact hP
    · simp [c] at hP ⊢; exact hP
  · simp [f41]
    rw [q41 (lots_le g _)]
    simp
    exact q
theorem w_cutsIn (ds : List D) (Q : D → Bool → Prop) (X : D → Prop) (h : sCutsIn ds Q X) : wdef (Cx o) N_cuts_in.length c_cuts_in ds Q X := by
  obtain ⟨n, ts, rfl, g, q⟩ := h
  refine w_def ?_
  have sz : 1000000 ≤ sizeLine := by rw [sizeLine_eq]; omega
  have hl := g.2.2.1
  have ga := allF_GL ts.length (by omega)
  simp [c_cuts_in, N_cuts_in, f13, qAT g, f11, qIn g ga, rkD, f15, qAL g]
  refine lk_filT (sortK (lotsF ts.length)) tupI tupI (cutB n ts) rfl trivial rfl rfl (by have := slots_len hl; omega) (fun l hx as P ha hP => ?_) ?_
  · obtain ⟨gl, _⟩ := mem_lots hl hx
    have gw : GL ts.length (withoutF ts.length l) := ⟨Nat.le_trans (List.length_filter_le _ _) ga.1, fun i hi => ga.2 i (List.mem_filter.mp hi).1⟩
    simp [f44, q44 g gl, f11, qIn g gw, rkD]
    unfold cutB at hP
    by_cases c : rankF n ts (withoutF ts.length l) < rankF n ts (allF ts.length)
    · simp [c, ha] at hP ⊢; exact hP
    · simp [c] at hP ⊢; exact hP
  · simp [f41]
    rw [q41 (lots_le g _)]
    simp
    exact q
theorem w_ringsOf (ds : List D) (Q : D → Bool → Prop) (X : D → Prop) (h : sRingsOf ds Q X) : wdef (Cx o) N_rings_of.length c_rings_of ds Q X := by
  obtain ⟨v, rfl, sv, q1, q2⟩ := h
  refine w_def ?_
  cases hw : webB v
  · simp [c_rings_of, N_rings_of, f4, q4 sv, hw, q1]
  · obtain ⟨n, ts, rfl, g⟩ := web_shape hw
    simp [c_rings_of, N_rings_of, f4, q4 sv, hw, f42, q42 g]
    simpa using q2 n ts rfl g
theorem w_cutsOf (ds : List D) (Q : D → Bool → Prop) (X : D → Prop) (h : sCutsOf ds Q X) : wdef (Cx o) N_cuts_of.length c_cuts_of ds Q X := by
  obtain ⟨v, rfl, sv, q1, q2⟩ := h
  refine w_def ?_
  cases hw : webB v
  · simp [c_cuts_of, N_cuts_of, f4, q4 sv, hw, q1]
  · obtain ⟨n, ts, rfl, g⟩ := web_shape hw
    simp [c_cuts_of, N_cuts_of, f4, q4 sv, hw, f45, q45 g]
    simpa using q2 n ts rfl g
end DP.L

set_option Elab.async false
set_option linter.all false
set_option maxRecDepth 100000
set_option maxHeartbeats 1000000
/-! K01b: least lots, by the law. -/
namespace DP.K01
open PySem PySem.Spec PyProof.Rows L2 DP DP.L
theorem empty_iff {a x : List Int} : (a.filter fun t => !x.contains t).isEmpty = subB a x := by
  rw [Bool.eq_iff_iff, List.isEmpty_iff, List.filter_eq_nil_iff, subB_iff]
  simp
theorem w_lawLeast (ds : List D) (Q : D → Bool → Prop) (X : D → Prop) (h : sLeast ds Q X) : wdef (Cx own) N__law_least.length c__law_least ds Q X := by
  obtain ⟨ls, rfl, ⟨h1, h2⟩, q⟩ := h
  refine w_def ?_
  have sz : 1000000 ≤ sizeLine := by rw [sizeLine_eq]; omega
  simp [c__law_least, N__law_least]
  refine fk_anyT ls tupI (fun pre l => ∃ x2, l = [.sh (.lst (ls.map tupI)), .ow (.lst ((leastF pre).map tupI)), x2, .emp, .emp]) rfl trivial rfl rfl ⟨.emp, rfl⟩ (fun pre x post hxs l ⟨x2, hl2⟩ K Bk hK => ?_) (fun l ⟨x2, hl2⟩ => ?_)
  · subst hl2
    have hK' := hK _ ⟨.sh (tupI x), rfl⟩
    rw [leastF_snoc] at hK'
    have hlb : pre.length < 4096 ∧ (leastF pre).length ≤ pre.length := by
      refine ⟨?_, leastF_len pre⟩
      rw [hxs] at h1; simp at h1; omega
    have hmem : ∀ a ∈ leastF pre, a.length ≤ 12 := fun a ha => h2 a (by rw [hxs]; exact List.mem_append_left _ (leastF_mem a ha))
    generalize leastF pre = acc at *
    simp
    refine lkb_filT acc tupI (fun _ => .int 1) (fun a => subB a x) rfl rfl rfl (by omega) rfl (fun a ha as P has hP => ?_) ?_
    · have := hmem a ha
      simp
      refine lk_filT a .int .int (fun t => !x.contains t) rfl trivial rfl rfl (by omega) (fun t ht as2 P2 has2 hP2 => ?_) ?_
      · cases hc : x.contains t with
        | true => simp [hc, -List.contains_eq_mem] at hP2 ⊢; exact hP2
        | false => simp [hc, has2, -List.contains_eq_mem] at hP2 ⊢; exact hP2
      · simp [-List.contains_eq_mem]
        rw [eqq_lnil, List.isEmpty_map, empty_iff]
        cases hs : subB a x <;> simp [hs, has] at hP ⊢ <;> exact hP
    · simp
      rw [eqq_lnil, List.isEmpty_map]
      unfold leastStep at hK'
      have e : (acc.filter fun a => subB a x).isEmpty = !(acc.any fun a => subB a x) := by
        rw [Bool.eq_iff_iff, List.isEmpty_iff, List.filter_eq_nil_iff]
        simp
      rw [e]
      cases hc : acc.any (fun a => subB a x) with
      | true => rw [hc] at hK'; simp at hK' ⊢; exact hK'
      | false => rw [hc] at hK'; simp at hK' ⊢; exact ⟨by omega, hK'⟩
  · subst hl2
    simp [lv_eq]
    exact q
end DP.K01

set_option Elab.async false
set_option linter.all false
set_option maxRecDepth 100000
set_option maxHeartbeats 1000000
/-! G2: lots as tests; the sequence of lots; least lots. -/
namespace DP.L
open DP DP.Mx
/-! ### lots as tests -/
def tst (l : List Int) : Lo := fun i => l.contains (i : Int)
def lotOf (m : Nat) (p : Lo) : List Int := ((List.range m).filter p).map Int.ofNat
/-- an ascending lot of ties below m -/
def Lot (m : Nat) (l : List Int) : Prop := l.Pairwise (· < ·) ∧ ∀ i ∈ l, 0 ≤ i ∧ i < m
theorem tst_iff {l : List Int} {i : Nat} : tst l i = true ↔ (i : Int) ∈ l := by simp [tst]
theorem mem_lotOf {m : Nat} {p : Lo} {x : Int} : x ∈ lotOf m p ↔ ∃ i : Nat, x = i ∧ i < m ∧ p i = true := by
  unfold lotOf
  simp only [List.mem_map, List.mem_filter, List.mem_range]
  exact ⟨fun ⟨i, ⟨h1, h2⟩, e⟩ => ⟨i, e.symm, h1, h2⟩, fun ⟨i, e, h1, h2⟩ => ⟨i, ⟨h1, h2⟩, e.symm⟩⟩
theorem asc_eq : ∀ {a b : List Int}, a.Pairwise (· < ·) → b.Pairwise (· < ·) → (∀ x, x ∈ a ↔ x ∈ b) → a = b
  | [], [], _, _, _ => rfl
  | [], y :: b, _, _, h => by have := (h y).mpr List.mem_cons_self; cases this
  | x :: a, [], _, _, h => by have := (h x).mp List.mem_cons_self; cases this
  | x :: a, y :: b, ha, hb, h => by
    obtain ⟨a1, a2⟩ := List.pairwise_cons.mp ha
    obtain ⟨b1, b2⟩ := List.pairwise_cons.mp hb
    have e : x = y := by
      have h1 : x ∈ y :: b := (h x).mp List.mem_cons_self
      have h2 : y ∈ x :: a := (h y).mpr List.mem_cons_self
      rcases List.mem_cons.mp h1 with e | h1
      · exact e
      · rcases List.mem_cons.mp h2 with e | h2
        · exact e.symm
        · have := b1 x h1
          have := a1 y h2
          omega
    subst e
    rw [asc_eq a2 b2 fun z => ?_]
    constructor
    · intro hz
      rcases List.mem_cons.mp ((h z).mp (List.mem_cons_of_mem _ hz)) with e | h1
      · subst e; have := a1 _ hz; omega
      · exact h1
    · intro hz
      rcases List.mem_cons.mp ((h z).mpr (List.mem_cons_of_mem _ hz)) with e | h1
      · subst e; have := b1 _ hz; omega
      · exact h1
theorem lotOf_lot {m : Nat} {p : Lo} : Lot m (lotOf m p) := by
  refine ⟨?_, fun i hi => ?_⟩
  · unfold lotOf
    rw [List.pairwise_map]
    refine List.Pairwise.imp ?_ (List.Pairwise.filter p List.pairwise_lt_range)
    intro a b h
    show (a : Int) < b
    omega
  · obtain ⟨k, rfl, h, _⟩ := mem_lotOf.mp hi
    omega
theorem lot_of : ∀ {m : Nat} {l : List Int}, lotB m (tupI l) = true → Lot m l
  | m, [], _ => ⟨.nil, fun i hi => by cases hi⟩
  | m, [a], h => by
    simp [lotB, tupI, belowB] at h
    exact ⟨by simp, fun i hi => by rw [List.mem_singleton.mp hi]; exact h⟩
  | m, a :: b :: r, h => by
    have h' : lotB m (tupI (b :: r)) = true := by
      simp only [lotB, tupI, List.map_cons, List.all_cons, List.tail_cons, List.zip_cons_cons, Bool.and_eq_true] at h ⊢
      exact ⟨h.1.2, h.2.2⟩
    obtain ⟨i1, i2⟩ := lot_of h'
    simp only [lotB, tupI, List.map_cons, List.all_cons, List.tail_cons, List.zip_cons_cons, Bool.and_eq_true, belowB, ltB, decide_eq_true_eq] at h
    have hab : a < b := h.2.1
    refine ⟨List.pairwise_cons.mpr ⟨fun x hx => ?_, i1⟩, fun i hi => ?_⟩
    · rcases List.mem_cons.mp hx with e | hx
      · rw [e]; exact hab
      · have := (List.pairwise_cons.mp i1).1 x hx
        omega
    · rcases List.mem_cons.mp hi with e | hi
      · rw [e]; exact h.1.1
      · exact i2 i hi
theorem lotOf_tst {m : Nat} {l : List Int} (h : Lot m l) : lotOf m (tst l) = l := by
  refine asc_eq lotOf_lot.1 h.1 fun x => ?_
  rw [mem_lotOf]
  constructor
  · rintro ⟨i, rfl, _, h2⟩; exact tst_iff.mp h2
  · intro hx
    obtain ⟨h0, h1⟩ := h.2 x hx
    refine ⟨x.toNat, by omega, by omega, tst_iff.mpr ?_⟩
    have : ((x.toNat : Nat) : Int) = x := by omega
    rw [this]; exact hx
theorem tst_lotOf {m : Nat} {p : Lo} : Same m (tst (lotOf m p)) p := fun i hi => by
  rw [Bool.eq_iff_iff, tst_iff, mem_lotOf]
  constructor
  · rintro ⟨k, e, _, h⟩
    have : k = i := by omega
    rw [← this]; exact h
  · intro h; exact ⟨i, rfl, hi, h⟩
theorem lotOf_len {m : Nat} {p : Lo} : (lotOf m p).length = cnt m p := by
  unfold lotOf cnt
  rw [List.length_map, List.countP_eq_length_filter]
theorem lot_len {m : Nat} {l : List Int} (h : Lot m l) : l.length = cnt m (tst l) := by rw [← lotOf_len, lotOf_tst h]
theorem lotOf_congr {m : Nat} {p q : Lo} (h : Same m p q) : lotOf m p = lotOf m q := by
  unfold lotOf
  rw [List.filter_congr fun i hi => h i (List.mem_range.mp hi)]
theorem lot_ext {m : Nat} {a b : List Int} (ha : Lot m a) (hb : Lot m b) (h : Same m (tst a) (tst b)) : a = b := by
  rw [← lotOf_tst ha, ← lotOf_tst hb, lotOf_congr h]
theorem Lot.gl {m : Nat} {l : List Int} (h : Lot m l) (hm : m ≤ 1000) : GL m l := ⟨by
  rw [lot_len h]
  have := cnt_com (m := m) (p := tst l)
  omega, h.2⟩
theorem allF_lot {m : Nat} : Lot m (allF m) := ⟨allF_asc m, fun i hi => by
  obtain ⟨k, hk, rfl⟩ := List.mem_map.mp hi
  have := List.mem_range.mp hk
  show 0 ≤ (k : Int) ∧ (k : Int) < m
  omega⟩
theorem tst_all {m : Nat} : Same m (tst (allF m)) Mx.all := fun i hi => by
  rw [Bool.eq_iff_iff, tst_iff]
  simp [allF, Mx.all, hi]
  exact ⟨i, hi, rfl⟩
theorem without_lot {m : Nat} {l : List Int} : Lot m (withoutF m l) := ⟨List.Pairwise.filter _ allF_lot.1, fun i hi => allF_lot.2 i (List.mem_filter.mp hi).1⟩
theorem tst_without {m : Nat} {l : List Int} : Same m (tst (withoutF m l)) (com (tst l)) := fun i hi => by
  rw [Bool.eq_iff_iff, tst_iff]
  unfold withoutF com tst
  rw [List.mem_filter]
  simp [allF, hi]
  exact fun _ => ⟨i, hi, rfl⟩
theorem lotsF_lot {m : Nat} {l : List Int} (h : l ∈ lotsF m) : Lot m l := ⟨lotsF_asc m l h, (lotsF_mem m l h).2⟩
theorem lot_lotsF : ∀ {m : Nat} {l : List Int}, Lot m l → l ∈ lotsF m
  | 0, l, h => by
    cases l with
    | nil => simp [lotsF]
    | cons i l => have := h.2 i List.mem_cons_self; omega
  | m + 1, l, h => by
    simp only [lotsF, List.mem_append, List.mem_map]
    by_cases hm : (m : Int) ∈ l
    · right
      refine ⟨lotOf m (tst l), lot_lotsF lotOf_lot, ?_⟩
      refine asc_eq ?_ h.1 fun x => ?_
      · rw [List.pairwise_append]
        refine ⟨lotOf_lot.1, by simp, fun a ha b hb => ?_⟩
        obtain ⟨k, rfl, h1, _⟩ := mem_lotOf.mp ha
        have : b = m := by simpa using hb
        omega
      · rw [List.mem_append, List.mem_singleton, mem_lotOf]
        constructor
        · rintro (⟨k, rfl, h1, h2⟩ | rfl)
          · exact tst_iff.mp h2
          · exact hm
        · intro hx
          by_cases e : x = m
          · exact .inr e
          · obtain ⟨h0, h1⟩ := h.2 x hx
            refine .inl ⟨x.toNat, by omega, by omega, tst_iff.mpr ?_⟩
            have : ((x.toNat : Nat) : Int) = x := by omega
            rw [this]; exact hx
    · left
      refine lot_lotsF ⟨h.1, fun i hi => ?_⟩
      obtain ⟨h0, h1⟩ := h.2 i hi
      have : i ≠ m := fun e => hm (e ▸ hi)
      omega
theorem mem_sortK {m : Nat} {l : List Int} : l ∈ sortK (lotsF m) ↔ Lot m l := by
  rw [(sortK_perm _).mem_iff]
  exact ⟨lotsF_lot, lot_lotsF⟩
/-! ### ranks by tests -/
theorem rankF_eq {n : Int} {ts : List (Int × Int)} (g : GW n ts) {l : List Int} (hl : ∀ i ∈ l, 0 ≤ i ∧ i < ts.length) : rankF n ts l = (rk n ts (tst l) : Nat) := by
  have hin : ∀ p ∈ ts, InR n p := fun p hp => (g.2.2.2 p hp).1
  have hp : ∀ q ∈ pick ts l, InR n q := fun q hq => by
    obtain ⟨i, hi, rfl⟩ := List.mem_map.mp hq
    have := hl i hi
    exact hin _ (getD_mem (by omega))
  have e : pcs n (pick ts l) = pcs n (prs ts (tst l)) := by
    refine pcs_congr hp (prs_in hin) fun i j => ⟨fun a => a.mono fun x hx => ?_, fun a => a.mono fun x hx => ?_⟩
    · obtain ⟨i, hi, rfl⟩ := List.mem_map.mp hx
      have := hl i hi
      refine mem_prs.mpr ⟨i.toNat, by omega, tst_iff.mpr ?_, rfl⟩
      have : ((i.toNat : Nat) : Int) = i := by omega
      rw [this]; exact hi
    · obtain ⟨i, h1, h2, rfl⟩ := mem_prs.mp hx
      exact List.mem_map.mpr ⟨(i : Int), tst_iff.mp h2, by simp⟩
  unfold rankF rk
  show n - (pcs n (pick ts l) : Nat) = _
  rw [e]
  have := pcs_leG (n := n) (ps := prs ts (tst l))
  have := g.1
  omega
theorem gmat {n : Int} {ts : List (Int × Int)} (g : GW n ts) : Mat ts.length (rk n ts) := mat fun p hp => (g.2.2.2 p hp).1
/-! ### the sequence by size -/
def leK (p q : List Int) : Prop := p.length < q.length ∨ (p.length = q.length ∧ p ≤ q)
instance (p q : List Int) : Decidable (leK p q) := by unfold leK; infer_instance
theorem alikeI : ∀ p q : List Int, PySem.W.alikeAll (p.map PySem.PyData.int) (q.map PySem.PyData.int) = true
  | [], _ => by rw [List.map_nil, PySem.W.alikeAll]
  | _ :: _, [] => by rw [List.map_nil, List.map_cons, PySem.W.alikeAll]
  | x :: xs, y :: ys => by
    rw [List.map_cons, List.map_cons, PySem.W.alikeAll, alikeI xs ys]
    simp [PySem.W.alike]
theorem eqvI : ∀ p q : List Int, PySem.PyData.eqvAll (p.map PySem.PyData.int) (q.map PySem.PyData.int) = decide (p = q)
  | [], [] => by simp [PySem.PyData.eqvAll]
  | [], _ :: _ => by simp [PySem.PyData.eqvAll]
  | _ :: _, [] => by simp [PySem.PyData.eqvAll]
  | x :: xs, y :: ys => by
    rw [List.map_cons, List.map_cons, PySem.PyData.eqvAll, eqvI xs ys]
    simp only [PySem.PyData.eqv]
    by_cases h : x = y <;> simp [h]
theorem dataLe_size : PySem.W.dataLe false sizeK = fun p q => decide (leK p q) := by
  funext p q
  show (!PySem.W.dataLt (sizeK q) (sizeK p)) = _
  unfold sizeK leK
  have e1 : PySem.W.dataLt (.tuple (q.map .int)) (.tuple (p.map .int)) = decide (q < p) := by
    rw [PySem.W.dataLt_tuple]; exact PySem.W.dataLt_ints q p
  rw [PySem.W.dataLt_pair (by simp [PySem.W.alike]) (by simp only [PySem.W.alike]; exact alikeI q p), PySem.W.dataLt_int, e1]
  simp only [PySem.PyData.eqv, eqvI]
  by_cases h1 : p.length = q.length
  · by_cases h2 : q = p
    · subst h2; simp
    · by_cases h3 : q < p
      · have : ¬ p ≤ q := fun r => List.not_lt.mpr r h3
        simp [h1, h2, h3, this]
      · have : p ≤ q := List.not_lt.mp h3
        simp [h1, h2, h3, this]
  · have : ¬ q.length = p.length := fun e => h1 e.symm
    simp [h1, this]
    by_cases h3 : q.length < p.length
    · have : ¬ p.length < q.length := by omega
      simp [h3, this]
      left; omega
    · have : p.length < q.length := by omega
      simp [h3, this]
      intro; omega
theorem leK_trans (a b c : List Int) (h : decide (leK a b) = true) (k : decide (leK b c) = true) : decide (leK a c) = true := by
  simp only [decide_eq_true_eq] at *
  unfold leK at *
  rcases h with h | ⟨h1, h2⟩ <;> rcases k with k | ⟨k1, k2⟩
  · left; omega
  · left; omega
  · left; omega
  · right; exact ⟨by omega, List.le_trans h2 k2⟩
theorem leK_total (a b : List Int) : (decide (leK a b) || decide (leK b a)) = true := by
  simp only [Bool.or_eq_true, decide_eq_true_eq]
  unfold leK
  rcases Nat.lt_trichotomy a.length b.length with h | h | h
  · left; left; exact h
  · rcases List.le_total a b with z | z
    · left; right; exact ⟨h, z⟩
    · right; right; exact ⟨h.symm, z⟩
  · right; left; exact h
theorem sortK_sorted (bs : List (List Int)) : (sortK bs).Pairwise leK := by
  unfold sortK
  rw [dataLe_size]
  have := List.pairwise_mergeSort (le := fun p q => decide (leK p q)) leK_trans leK_total bs
  exact this.imp fun h => of_decide_eq_true h
theorem sortK_len (bs : List (List Int)) : (sortK bs).Pairwise fun a b => a.length ≤ b.length :=
  (sortK_sorted bs).imp fun h => by
    rcases h with h | h
    · omega
    · omega
/-! ### least lots -/
theorem subB_tst {m : Nat} {a b : List Int} (ha : Lot m a) : subB a b = true ↔ Sub m (tst a) (tst b) := by
  rw [subB_iff]
  constructor
  · intro h i _ hi; exact tst_iff.mpr (h _ (tst_iff.mp hi))
  · intro h t ht
    obtain ⟨h0, h1⟩ := ha.2 t ht
    have e : ((t.toNat : Nat) : Int) = t := by omega
    have := h t.toNat (by omega) (tst_iff.mpr (by rw [e]; exact ht))
    rw [tst_iff, e] at this
    exact this
theorem leastF_sub {ls : List (List Int)} {l : List Int} (h : l ∈ ls) : ∃ o ∈ leastF ls, subB o l = true := by
  induction ls using gsnoc_ind with
  | h0 => cases h
  | h1 ls k ih =>
    rw [leastF_snoc]
    unfold leastStep
    rcases List.mem_append.mp h with h | h
    · obtain ⟨o, ho, hs⟩ := ih h
      split
      · exact ⟨o, ho, hs⟩
      · exact ⟨o, List.mem_append_left _ ho, hs⟩
    · obtain rfl := List.mem_singleton.mp h
      split
      · rename_i hc
        obtain ⟨o, ho, hs⟩ := List.any_eq_true.mp hc
        exact ⟨o, ho, hs⟩
      · exact ⟨l, List.mem_append_right _ (List.mem_singleton.mpr rfl), subB_iff.mpr fun _ h => h⟩
theorem leastF_min {ls : List (List Int)} (hs : ls.Pairwise fun a b => a.length ≤ b.length) {l : List Int} (h : l ∈ leastF ls) : l ∈ ls ∧ ∀ k ∈ ls, subB k l = true → l.length ≤ k.length := by
  refine ⟨leastF_mem l h, ?_⟩
  induction ls using gsnoc_ind with
  | h0 => cases h
  | h1 ls x ih =>
    rw [List.pairwise_append] at hs
    obtain ⟨s1, s2, s3⟩ := hs
    rw [leastF_snoc] at h
    intro k hk hkl
    have old : l ∈ leastF ls → l.length ≤ k.length := fun hl => by
      rcases List.mem_append.mp hk with hk | hk
      · exact ih s1 hl k hk hkl
      · obtain rfl := List.mem_singleton.mp hk
        exact s3 l (leastF_mem l hl) k (List.mem_singleton.mpr rfl)
    unfold leastStep at h
    split at h
    · exact old h
    · rename_i hc
      rcases List.mem_append.mp h with h | h
      · exact old h
      · obtain rfl := List.mem_singleton.mp h
        rcases List.mem_append.mp hk with hk | hk
        · obtain ⟨o, ho, hs⟩ := leastF_sub hk
          refine absurd (List.any_eq_true.mpr ⟨o, ho, ?_⟩) hc
          rw [subB_iff] at *
          exact fun t ht => hkl t (hs t ht)
        · obtain rfl := List.mem_singleton.mp hk
          exact Nat.le_refl _
section
variable {n : Int} {ts : List (Int × Int)} (g : GW n ts)
include g
theorem ringB_iff {l : List Int} (h : Lot ts.length l) : ringB n ts l = true ↔ rk n ts (tst l) < cnt ts.length (tst l) := by
  unfold ringB
  rw [rankF_eq g h.2, decide_eq_true_eq, lot_len h]
  omega
theorem cutB_iff {l : List Int} (h : Lot ts.length l) : cutB n ts l = true ↔ rk n ts (com (tst l)) < rk n ts Mx.all := by
  unfold cutB
  rw [rankF_eq g without_lot.2, rankF_eq g allF_lot.2, decide_eq_true_eq, (gmat g).ext _ _ tst_without, (gmat g).ext _ _ tst_all]
  omega
theorem treeB_iff {l : List Int} (h : Lot ts.length l) : treeB n ts l = true ↔ cnt ts.length (tst l) = rk n ts Mx.all ∧ rk n ts (tst l) = rk n ts Mx.all := by
  unfold treeB
  rw [rankF_eq g h.2, rankF_eq g allF_lot.2, Bool.and_eq_true, decide_eq_true_eq, decide_eq_true_eq, (gmat g).ext _ _ tst_all, lot_len h]
  omega
theorem rings_mem {c : List Int} : c ∈ ringsF n ts ↔ Lot ts.length c ∧ rk n ts (tst c) < cnt ts.length (tst c) ∧ ∀ q : Lo, Sub ts.length q (tst c) → rk n ts q < cnt ts.length q → Same ts.length q (tst c) := by
  unfold ringsF
  have hs : ((sortK (lotsF ts.length)).filter (ringB n ts)).Pairwise fun a b => a.length ≤ b.length := (sortK_len _).filter _
  constructor
  · intro hc
    obtain ⟨h1, h2⟩ := leastF_min hs hc
    obtain ⟨h3, h4⟩ := List.mem_filter.mp h1
    have hl := mem_sortK.mp h3
    refine ⟨hl, (ringB_iff g hl).mp h4, fun q hq hr => same_of hq ?_⟩
    have hk : Lot ts.length (lotOf ts.length q) := lotOf_lot
    have := h2 (lotOf ts.length q) (List.mem_filter.mpr ⟨mem_sortK.mpr hk, (ringB_iff g hk).mpr (by rw [(gmat g).ext _ _ tst_lotOf, cnt_same tst_lotOf]; exact hr)⟩) ((subB_tst hk).mpr (tst_lotOf.sub.trans hq))
    rw [lotOf_len, lot_len hl] at this
    exact this
  · rintro ⟨hl, hr, hm⟩
    obtain ⟨o, ho, hs2⟩ := leastF_sub (List.mem_filter.mpr ⟨mem_sortK.mpr hl, (ringB_iff g hl).mpr hr⟩)
    obtain ⟨h1, h2⟩ := List.mem_filter.mp (leastF_mem o ho)
    have hol := mem_sortK.mp h1
    have := hm (tst o) ((subB_tst hol).mp hs2) ((ringB_iff g hol).mp h2)
    rw [← lot_ext hol hl this]
    exact ho
theorem cuts_mem {c : List Int} : c ∈ cutsF n ts ↔ Lot ts.length c ∧ rk n ts (com (tst c)) < rk n ts Mx.all ∧ ∀ q : Lo, Sub ts.length q (tst c) → rk n ts (com q) < rk n ts Mx.all → Same ts.length q (tst c) := by
  unfold cutsF
  have hs : ((sortK (lotsF ts.length)).filter (cutB n ts)).Pairwise fun a b => a.length ≤ b.length := (sortK_len _).filter _
  have cc : ∀ {p q : Lo}, Same ts.length p q → Same ts.length (com p) (com q) := fun h i hi => by unfold com; rw [h i hi]
  constructor
  · intro hc
    obtain ⟨h1, h2⟩ := leastF_min hs hc
    obtain ⟨h3, h4⟩ := List.mem_filter.mp h1
    have hl := mem_sortK.mp h3
    refine ⟨hl, (cutB_iff g hl).mp h4, fun q hq hr => same_of hq ?_⟩
    have hk : Lot ts.length (lotOf ts.length q) := lotOf_lot
    have := h2 (lotOf ts.length q) (List.mem_filter.mpr ⟨mem_sortK.mpr hk, (cutB_iff g hk).mpr (by rw [(gmat g).ext _ _ (cc tst_lotOf)]; exact hr)⟩) ((subB_tst hk).mpr (tst_lotOf.sub.trans hq))
    rw [lotOf_len, lot_len hl] at this
    exact this
  · rintro ⟨hl, hr, hm⟩
    obtain ⟨o, ho, hs2⟩ := leastF_sub (List.mem_filter.mpr ⟨mem_sortK.mpr hl, (cutB_iff g hl).mpr hr⟩)
    obtain ⟨h1, h2⟩ := List.mem_filter.mp (leastF_mem o ho)
    have hol := mem_sortK.mp h1
    have := hm (tst o) ((subB_tst hol).mp hs2) ((cutB_iff g hol).mp h2)
    rw [← lot_ext hol hl this]
    exact ho
/-- a lot with a ring's rank has a ring within -/
theorem ring_in {p : Lo} (h : rk n ts p < cnt ts.length p) : ∃ c ∈ ringsF n ts, Sub ts.length (tst c) p := by
  have hk : Lot ts.length (lotOf ts.length p) := lotOf_lot
  obtain ⟨o, ho, hs⟩ := leastF_sub (ls := (sortK (lotsF ts.length)).filter (ringB n ts)) (List.mem_filter.mpr ⟨mem_sortK.mpr hk, (ringB_iff g hk).mpr (by rw [(gmat g).ext _ _ tst_lotOf, cnt_same tst_lotOf]; exact h)⟩)
  have hol := mem_sortK.mp (List.mem_filter.mp (leastF_mem o ho)).1
  exact ⟨o, ho, ((subB_tst hol).mp hs).trans tst_lotOf.sub⟩
theorem cut_in {p : Lo} (h : rk n ts (com p) < rk n ts Mx.all) : ∃ c ∈ cutsF n ts, Sub ts.length (tst c) p := by
  have cc : ∀ {p q : Lo}, Same ts.length p q → Same ts.length (com p) (com q) := fun h i hi => by unfold com; rw [h i hi]
  have hk : Lot ts.length (lotOf ts.length p) := lotOf_lot
  obtain ⟨o, ho, hs⟩ := leastF_sub (ls := (sortK (lotsF ts.length)).filter (cutB n ts)) (List.mem_filter.mpr ⟨mem_sortK.mpr hk, (cutB_iff g hk).mpr (by rw [(gmat g).ext _ _ (cc tst_lotOf)]; exact h)⟩)
  have hol := mem_sortK.mp (List.mem_filter.mp (leastF_mem o ho)).1
  exact ⟨o, ho, ((subB_tst hol).mp hs).trans tst_lotOf.sub⟩
end
end DP.L

set_option Elab.async false
set_option linter.all false
set_option maxRecDepth 100000
set_option maxHeartbeats 1000000
/-! G3: rings and cuts; trees by them. -/
namespace DP.L
open DP DP.Mx
section
variable {n : Int} {ts : List (Int × Int)} (g : GW n ts)
include g
theorem ring_rank {c : List Int} (hc : c ∈ ringsF n ts) {e : Nat} (he : e < ts.length) (hce : tst c e = true) : rk n ts (ins (rem (tst c) e) e) = rk n ts (rem (tst c) e) := by
  obtain ⟨hl, hr, hm⟩ := (rings_mem g).mp hc
  have e1 : Same ts.length (ins (rem (tst c) e) e) (tst c) := fun i hi => by
    unfold ins rem
    by_cases z : i = e
    · subst z; simp [hce]
    · have : (i == e) = false := by simpa using z
      simp [this]
  have h1 : cnt ts.length (tst c) = cnt ts.length (rem (tst c) e) + 1 := cnt_rem he hce
  have h2 : ¬ rk n ts (rem (tst c) e) < cnt ts.length (rem (tst c) e) := fun h => by
    have := hm _ (fun i _ hi => by unfold rem at hi; simp at hi; exact hi.2) h e he
    rw [hce] at this
    simp [rem] at this
  have h3 := (gmat g).up (rem (tst c) e) e
  rw [(gmat g).ext _ _ e1] at h3 ⊢
  omega
theorem cut_rank {d : List Int} (hd : d ∈ cutsF n ts) {e : Nat} (he : e < ts.length) (hde : tst d e = true) : rk n ts (ins (com (tst d)) e) = rk n ts Mx.all ∧ rk n ts (com (tst d)) < rk n ts Mx.all := by
  obtain ⟨hl, hr, hm⟩ := (cuts_mem g).mp hd
  refine ⟨?_, hr⟩
  have e1 : Same ts.length (ins (com (tst d)) e) (com (rem (tst d) e)) := fun i hi => by
    unfold ins rem com
    by_cases z : i = e
    · subst z; simp
    · have : (i == e) = false := by simpa using z
      simp [this]
  have h2 : ¬ rk n ts (com (rem (tst d) e)) < rk n ts Mx.all := fun h => by
    have := hm _ (fun i _ hi => by unfold rem at hi; simp at hi; exact hi.2) h e he
    rw [hde] at this
    simp [rem] at this
  have := (gmat g).top (com (rem (tst d) e))
  rw [(gmat g).ext _ _ e1]
  omega
/-- never just one tie in common -/
theorem ring_cut {c d : List Int} (hc : c ∈ ringsF n ts) (hd : d ∈ cutsF n ts) : ¬ (d.filter fun t => c.contains t).length = 1 := by
  intro h1
  obtain ⟨x, hx⟩ := List.length_eq_one_iff.mp h1
  have hm : x ∈ d.filter fun t => c.contains t := by rw [hx]; exact List.mem_singleton.mpr rfl
  obtain ⟨xd, xc⟩ := List.mem_filter.mp hm
  have xc : x ∈ c := by simpa using xc
  have hdl := ((cuts_mem g).mp hd).1
  obtain ⟨h0, hlt⟩ := hdl.2 x xd
  have ex : ((x.toNat : Nat) : Int) = x := by omega
  have he : x.toNat < ts.length := by omega
  have k1 := ring_rank g hc he (tst_iff.mpr (by rw [ex]; exact xc))
  obtain ⟨k2, k3⟩ := cut_rank g hd he (tst_iff.mpr (by rw [ex]; exact xd))
  have := (gmat g).loc (rem (tst c) x.toNat) (com (tst d)) x.toNat (fun i hi hh => by
    unfold rem at hh
    simp only [Bool.and_eq_true, Bool.not_eq_true', beq_eq_false_iff_ne] at hh
    unfold com
    cases hdi : tst d i with
    | false => rfl
    | true =>
      exfalso
      have : (i : Int) ∈ d.filter fun t => c.contains t := List.mem_filter.mpr ⟨tst_iff.mp hdi, by simpa using tst_iff.mp hh.2⟩
      rw [hx] at this
      have := List.mem_singleton.mp this
      omega) k1
  omega
/-- a lot has no ring within exactly if its rank is its size -/
theorem free_iff {l : List Int} (hl : Lot ts.length l) : (∀ c ∈ ringsF n ts, ¬ ∀ t ∈ c, t ∈ l) ↔ rk n ts (tst l) = cnt ts.length (tst l) := by
  have hle := (gmat g).le_cnt (tst l)
  constructor
  · intro h
    apply Classical.byContradiction
    intro hne
    obtain ⟨c, hc, hs⟩ := ring_in g (p := tst l) (by omega)
    have hcl := ((rings_mem g).mp hc).1
    exact h c hc (subB_iff.mp ((subB_tst hcl).mpr hs))
  · intro h c hc hs
    obtain ⟨hcl, hr, _⟩ := (rings_mem g).mp hc
    have hsub : Sub ts.length (tst c) (tst l) := (subB_tst hcl).mp (subB_iff.mpr hs)
    have : rk n ts (tst c) = cnt ts.length (tst c) := (gmat g).ind_sub h hsub
    omega
theorem met_iff {l : List Int} (hl : Lot ts.length l) : (∀ c ∈ cutsF n ts, ¬ ∀ t ∈ c, t ∉ l) ↔ rk n ts (tst l) = rk n ts Mx.all := by
  have hle := (gmat g).top (tst l)
  have ecc : Same ts.length (com (com (tst l))) (tst l) := fun i hi => by simp [com]
  constructor
  · intro h
    apply Classical.byContradiction
    intro hne
    obtain ⟨c, hc, hs⟩ := cut_in g (p := com (tst l)) (by rw [(gmat g).ext _ _ ecc]; omega)
    have hcl := ((cuts_mem g).mp hc).1
    refine h c hc fun t ht hl' => ?_
    obtain ⟨h0, h1⟩ := hcl.2 t ht
    have et : ((t.toNat : Nat) : Int) = t := by omega
    have := hs t.toNat (by omega) (tst_iff.mpr (by rw [et]; exact ht))
    unfold com at this
    have h2 : tst l t.toNat = true := tst_iff.mpr (by rw [et]; exact hl')
    rw [h2] at this
    cases this
  · intro h c hc hs
    obtain ⟨hcl, hr, _⟩ := (cuts_mem g).mp hc
    have : rk n ts (tst l) ≤ rk n ts (com (tst c)) := (gmat g).mono fun i hi hh => by
      unfold com
      cases hci : tst c i with
      | false => rfl
      | true => exact absurd (tst_iff.mp hh) (hs _ (tst_iff.mp hci))
    omega
theorem tree_by {l : List Int} (hl : Lot ts.length l) : treeB n ts l = (((ringsF n ts).filter fun c => (c.filter fun t => !l.contains t).isEmpty).isEmpty && ((cutsF n ts).filter fun c => (c.filter fun t => l.contains t).isEmpty).isEmpty) := by
  rw [Bool.eq_iff_iff, treeB_iff g hl, Bool.and_eq_true]
  have e1 : (((ringsF n ts).filter fun c => (c.filter fun t => !l.contains t).isEmpty).isEmpty = true) ↔ rk n ts (tst l) = cnt ts.length (tst l) := by
    rw [← free_iff g hl]
    simp [List.isEmpty_iff, List.filter_eq_nil_iff]
  have e2 : (((cutsF n ts).filter fun c => (c.filter fun t => l.contains t).isEmpty).isEmpty = true) ↔ rk n ts (tst l) = rk n ts Mx.all := by
    rw [← met_iff g hl]
    simp [List.isEmpty_iff, List.filter_eq_nil_iff]
  rw [e1, e2]
  omega
end
/-! ### in which sequence they stand -/
def ltK (p q : List Int) : Prop := leK p q ∧ p ≠ q
instance (p q : List Int) : Decidable (ltK p q) := by unfold ltK; infer_instance
theorem leK_anti {a b : List Int} (h : leK a b) (k : leK b a) : a = b := by
  unfold leK at *
  rcases h with h | ⟨h1, h2⟩ <;> rcases k with k | ⟨k1, k2⟩
  · omega
  · omega
  · omega
  · exact List.le_antisymm h2 k2
theorem ltK_eq : ∀ {a b : List (List Int)}, a.Pairwise ltK → b.Pairwise ltK → (∀ x, x ∈ a ↔ x ∈ b) → a = b
  | [], [], _, _, _ => rfl
  | [], y :: b, _, _, h => by have := (h y).mpr List.mem_cons_self; cases this
  | x :: a, [], _, _, h => by have := (h x).mp List.mem_cons_self; cases this
  | x :: a, y :: b, ha, hb, h => by
    obtain ⟨a1, a2⟩ := List.pairwise_cons.mp ha
    obtain ⟨b1, b2⟩ := List.pairwise_cons.mp hb
    have e : x = y := by
      have h1 : x ∈ y :: b := (h x).mp List.mem_cons_self
      have h2 : y ∈ x :: a := (h y).mpr List.mem_cons_self
      rcases List.mem_cons.mp h1 with e | h1
      · exact e
      · rcases List.mem_cons.mp h2 with e | h2
        · exact e.symm
        · exact leK_anti (a1 y h2).1 (b1 x h1).1
    subst e
    rw [ltK_eq a2 b2 fun z => ?_]
    constructor
    · intro hz
      rcases List.mem_cons.mp ((h z).mp (List.mem_cons_of_mem _ hz)) with e | h1
      · subst e; exact absurd rfl (a1 _ hz).2
      · exact h1
    · intro hz
      rcases List.mem_cons.mp ((h z).mpr (List.mem_cons_of_mem _ hz)) with e | h1
      · subst e; exact absurd rfl (b1 _ hz).2
      · exact h1
theorem lotsF_nodup : ∀ m : Nat, (lotsF m).Nodup
  | 0 => by simp [lotsF]
  | m + 1 => by
    simp only [lotsF]
    refine List.nodup_append.mpr ⟨lotsF_nodup m, ?_, fun a ha b hb e => ?_⟩
    · unfold List.Nodup
      rw [List.pairwise_map]
      refine (lotsF_nodup m).imp fun h e => h ?_
      exact List.append_cancel_right e
    · obtain ⟨c, hc, rfl⟩ := List.mem_map.mp hb
      have := (lotsF_mem m a ha).2 (m : Int) (by rw [e]; simp)
      omega
theorem sortK_lt (m : Nat) : (sortK (lotsF m)).Pairwise ltK := by
  have h1 := sortK_sorted (lotsF m)
  have h2 : (sortK (lotsF m)).Nodup := (sortK_perm _).nodup_iff.mpr (lotsF_nodup m)
  unfold List.Nodup at h2
  exact (h1.and h2).imp fun h => h
theorem leastF_sublist (ls : List (List Int)) : (leastF ls).Sublist ls := by
  induction ls using gsnoc_ind with
  | h0 => exact List.Sublist.refl _
  | h1 ls l ih =>
    rw [leastF_snoc]
    unfold leastStep
    split
    · exact ih.trans (List.sublist_append_left _ _)
    · exact List.Sublist.append ih (List.Sublist.refl _)
theorem rings_lt (n : Int) (ts : List (Int × Int)) : (ringsF n ts).Pairwise ltK := ((sortK_lt ts.length).filter _).sublist (leastF_sublist _)
theorem cuts_lt (n : Int) (ts : List (Int × Int)) : (cutsF n ts).Pairwise ltK := ((sortK_lt ts.length).filter _).sublist (leastF_sublist _)
end DP.L

set_option Elab.async false
set_option linter.all false
set_option maxRecDepth 100000
set_option maxHeartbeats 1000000
/-! K01d: the law. -/
namespace DP.K01
open PySem PySem.Spec PyProof.Rows L2 DP DP.L
theorem cost2036 : (Cx own).cost 2036 = 0 := rfl
theorem f2036 : (Cx own).fs 2036 = sLeast := rfl
def fstS : S → S | .seq a _ => a | x => x
def forB : S → S | .forr _ _ _ _ b => b | x => x
def bodyL : S := forB (fstS (tailOf c_law))
/-- from the going through the rings on -/
def restL : S := tailOf (tailOf (tailOf (tailOf (tailOf (tailOf bodyL)))))
/-- from the going through some lots on -/
def restM : S := tailOf restL
def restN : S := tailOf restM
theorem eqq_lots (ls : List (List Int)) : D.eqq (.tup (ls.map tupI)) (.tup (ls.map tupI)) = true := by
  have : ∀ ls : List (List Int), D.eqq.eqs (ls.map tupI) (ls.map tupI) = true := fun ls => by
    induction ls with
    | nil => rfl
    | cons l ls ih => simp [D.eqq.eqs, eqq_tupI, ih]
  exact this ls
theorem pln_lots (ls : List (List Int)) : (D.tup (ls.map tupI)).pln 60 = true := by
  have : ∀ ls : List (List Int), D.pln.plns (ls.map tupI) 59 = true := fun ls => by
    induction ls with
    | nil => rfl
    | cons l ls ih => simp [D.pln.plns, ih]; exact plns_ints 58 l
  exact this ls
theorem len_least {n : Int} {ts : List (Int × Int)} (g : GW n ts) : (ringsF n ts).length ≤ 4096 ∧ (cutsF n ts).length ≤ 4096 := by
  have h1 := leastF_len ((sortK (lotsF ts.length)).filter (ringB n ts))
  have h2 := leastF_len ((sortK (lotsF ts.length)).filter (cutB n ts))
  have h3 := (lots_le g (ringB n ts)).1
  have h4 := (lots_le g (cutB n ts)).1
  unfold ringsF cutsF
  omega
theorem mem_ring {n : Int} {ts : List (Int × Int)} (g : GW n ts) {c : List Int} (h : c ∈ ringsF n ts) : c.length ≤ 12 := by
  have := lots_le g (ringB n ts)
  exact this.2 c (leastF_mem c h)
theorem mem_cut {n : Int} {ts : List (Int × Int)} (g : GW n ts) {c : List Int} (h : c ∈ cutsF n ts) : c.length ≤ 12 := by
  have := lots_le g (cutB n ts)
  exact this.2 c (leastF_mem c h)
section
variable {n : Int} {ts : List (Int × Int)} {x0 x2 x10 x11 x12 x13 x14 : Slot} {every lots whole : D} {lot7 : Slot} {top : Slot} {c : Nat} {Q : D → Bool → Prop} {Bk K : St → Prop} {X : D → St → Prop}
/-- the locals -/
def locs (x0 x2 : Slot) (n : Int) (ts : List (Int × Int)) (every lots whole : D) (x7 x10 x11 x12 x13 x14 : Slot) (c : Nat) : List Slot :=
  [x0, .sh .res, x2, .sh (webD n ts), .sh every, .sh lots, .sh whole, x7, .sh (.tup ((ringsF n ts).map tupI)), .sh (.tup ((cutsF n ts).map tupI)), x10, x11, x12, x13, x14, .emp, .emp, .crd c]
theorem ref43 {v : D} {Q' : D → Bool → Prop} {X' : D → Prop} (sv : Sd v) (hv : webB v = false) (h : X' (.exc 1 [])) : (Cx own).fs 43 [v] Q' X' := ⟨v, rfl, sv, fun _ => h, fun n ts e g => by rw [e, web_ok g] at hv; cases hv⟩
theorem ref46 {v : D} {Q' : D → Bool → Prop} {X' : D → Prop} (sv : Sd v) (hv : webB v = false) (h : X' (.exc 1 [])) : (Cx own).fs 46 [v] Q' X' := ⟨v, rfl, sv, fun _ => h, fun n ts e g => by rw [e, web_ok g] at hv; cases hv⟩
theorem w_restN {tt : D} (hc : 1 ≤ c) (hK : ∀ x14, K ⟨locs x0 x2 n ts every lots whole lot7 x10 x11 x12 x13 x14 (c - 1), [.sh tt]⟩) :
    WS (Cx own) restN ⟨locs x0 x2 n ts every lots whole lot7 x10 x11 x12 x13 x14 c, [.sh tt]⟩ ⟨K, Q, Bk, K, X⟩ := by
  simp [restN, restM, restL, bodyL, tailOf, fstS, forB, c_law, locs]
  refine ⟨hc, c37 fun v sv hv => ?_⟩
  simp [nb_sh, shs]
  refine ref43 sv hv ⟨1, rfl, hweb 1, ?_⟩
  simp [ex1, shs]
  refine ref46 sv hv ⟨1, rfl, hweb 1, ?_⟩
  simp [ex1, shs]
  exact hK _
theorem filt_all {α : Type} {p : α → Bool} {l : List α} (h : ∀ x ∈ l, p x = false) : l.filter p = [] := List.filter_eq_nil_iff.mpr fun x hx => by rw [h x hx]; simp
theorem w_restM {tt : D} (g : GW n ts) (hc : 73 ≤ c) (h10 : Nb x10) (h7 : Nb lot7) (hK : ∀ x7 x11 x12 x13 x14, Nb x7 → K ⟨locs x0 x2 n ts every lots whole x7 x10 x11 x12 x13 x14 (c - 73), [.sh tt]⟩) :
    WS (Cx own) restM ⟨locs x0 x2 n ts every lots whole lot7 x10 x11 x12 x13 x14 c, [.sh tt]⟩ ⟨K, Q, Bk, K, X⟩ := by
  have sz : 1000000 ≤ sizeLine := by rw [sizeLine_eq]; omega
  have e : restM = .seq (fstS restM) restN := rfl
  rw [e, y_seq]
  have l1 := (len_least g).1
  have l2 := (len_least g).2
  simp [restM, restL, bodyL, tailOf, fstS, forB, c_law, locs]
  refine fk_any (fun pre l => ∃ x7 x11 x12 x13 c', l = locs x0 x2 n ts every lots whole x7 x10 x11 x12 x13 x14 c' ∧ c' + 12 * pre.length = c ∧ Nb x7) rfl (by unfold bigI; omega) rfl rfl ⟨lot7, x11, x12, x13, c, rfl, by simp, h7⟩ (fun pre x post hxs l ⟨x7, x11, x12, x13, c', hl2, hc', h7'⟩ K' Bk' hK' => ?_) (fun l ⟨x7, x11, x12, x13, c', hl2, hc', h7'⟩ => ?_)
  · subst hl2
    have hlen := congrArg List.length hxs
    rw [len_rng] at hlen
    simp at hlen
    simp [locs]
    refine ⟨by omega, c36 g fun l gl hlot => ?_⟩
    have hl : Lot ts.length l := lot_of hlot
    simp
    refine lk_filT (ringsF n ts) tupI (fun _ => .int 1) (fun r => (r.filter fun t => !l.contains t).isEmpty) rfl trivial (by simp) rfl (by omega) (fun r hr as P ha hP => ?_) ?_
    · have := mem_ring g hr
      simp
      refine lk_filT r .int .int (fun t => !l.contains t) rfl trivial (by simp [nbx h10]) rfl (by omega) (fun t ht as2 P2 has2 hP2 => ?_) ?_
      · cases hcc : l.contains t with
        | true => simp [hcc, -List.contains_eq_mem] at hP2 ⊢; exact hP2
        | false => simp [hcc, has2, -List.contains_eq_mem] at hP2 ⊢; exact hP2
      · simp [-List.contains_eq_mem]
        rw [eqq_lnil, List.isEmpty_map]
        cases hs : (r.filter fun t => !l.contains t).isEmpty <;> rw [hs] at hP <;> simp [ha] at hP ⊢ <;> exact hP
    simp [-List.contains_eq_mem]
    refine lk_filT (cutsF n ts) tupI (fun _ => .int 1) (fun r => (r.filter fun t => l.contains t).isEmpty) rfl trivial (by simp) rfl (by omega) (fun r hr as P ha hP => ?_) ?_
    · have := mem_cut g hr
      simp
      refine lk_filT r .int .int (fun t => l.contains t) rfl trivial (by simp) rfl (by omega) (fun t ht as2 P2 has2 hP2 => ?_) ?_
      · cases hcc : l.contains t with
        | true => simp [hcc, has2, -List.contains_eq_mem] at hP2 ⊢; exact hP2
        | false => simp [hcc, -List.contains_eq_mem] at hP2 ⊢; exact hP2
      · simp [-List.contains_eq_mem]
        rw [eqq_lnil, List.isEmpty_map]
        cases hs : (r.filter fun t => l.contains t).isEmpty <;> rw [hs] at hP <;> simp [ha] at hP ⊢ <;> exact hP
    simp [-List.contains_eq_mem]
    refine c17 g gl hlot ?_
    unfold trD
    rw [tree_by g hl, eqq_lnil, eqq_lnil, List.isEmpty_map, List.isEmpty_map]
    have fin := fun x12 x13 => hK' _ ⟨.sh (tupI l), .sh x, x12, x13, c' - 12, rfl, by simp; omega, fun _ _ => rfl⟩
    generalize ((ringsF n ts).filter fun c => (c.filter fun t => !l.contains t).isEmpty).isEmpty = b1
    generalize ((cutsF n ts).filter fun c => (c.filter fun t => l.contains t).isEmpty).isEmpty = b2
    have e3 : D.eqq (.bl (b1 && b2)) (.bl (b1 && b2)) = true := by simp [D.eqq]
    cases b1 <;> cases b2 <;> simp [D.eqq] <;> exact fin _ _
  · subst hl2
    rw [len_rng] at hc'
    simp at hc'
    simp
    exact w_restN (by omega) fun x14 => by
      have := hK x7 x11 x12 x13 x14 h7'
      have e : c' - 1 = c - 73 := by omega
      rw [e]; exact this
theorem w_restL {tt : D} (g : GW n ts) (hc : 73 ≤ c) (h10 : Nb x10) (h7 : Nb lot7) (hK : ∀ x7 x10 x11 x12 x13 x14, Nb x7 → Nb x10 → K ⟨locs x0 x2 n ts every lots whole x7 x10 x11 x12 x13 x14 (c - 73), [.sh tt]⟩) :
    WS (Cx own) restL ⟨locs x0 x2 n ts every lots whole lot7 x10 x11 x12 x13 x14 c, [.sh tt]⟩ ⟨K, Q, Bk, K, X⟩ := by
  have sz : 1000000 ≤ sizeLine := by rw [sizeLine_eq]; omega
  have e : restL = .seq (fstS restL) restM := rfl
  rw [e, y_seq]
  have l1 := (len_least g).1
  have l2 := (len_least g).2
  simp [restL, bodyL, tailOf, fstS, forB, c_law, locs]
  refine fk_anyT (ringsF n ts) tupI (fun pre l => ∃ x10, l = locs x0 x2 n ts every lots whole lot7 x10 x11 x12 x13 x14 c ∧ Nb x10) rfl trivial rfl rfl ⟨x10, rfl, h10⟩ (fun pre r post hxs l ⟨x10, hl2, h10'⟩ K' Bk' hK' => ?_) (fun l ⟨x10, hl2, h10'⟩ => ?_)
  · subst hl2
    have hr : r ∈ ringsF n ts := by rw [hxs]; simp
    simp [locs]
    refine lk_filT (cutsF n ts) tupI (fun _ => .int 1) (fun d => decide ((d.filter fun t => r.contains t).length = 1)) rfl trivial (by simp) rfl (by omega) (fun d hd as P ha hP => ?_) ?_
    · have := mem_cut g hd
      simp
      refine lk_filT d .int .int (fun t => r.contains t) rfl trivial (by simp) rfl (by omega) (fun t ht as2 P2 has2 hP2 => ?_) ?_
      · cases hcc : r.contains t with
        | true => simp [hcc, has2, -List.contains_eq_mem] at hP2 ⊢; exact hP2
        | false => simp [hcc, -List.contains_eq_mem] at hP2 ⊢; exact hP2
      · have no := ring_cut g hr hd
        have no' : ¬ ((d.filter fun t => r.contains t).length : Int) = 1 := by omega
        simp [-List.contains_eq_mem, no'] at *
        simp [-List.contains_eq_mem, no] at hP
        exact hP
    · have e0 : (cutsF n ts).filter (fun d => decide ((d.filter fun t => r.contains t).length = 1)) = [] := filt_all fun d hd => decide_eq_false (ring_cut g hr hd)
      rw [e0]
      simp [eqq_lnil]
      exact hK' _ ⟨_, rfl, by simp⟩
  · subst hl2
    simp
    exact w_restM g hc h10' h7 fun x7 x11 x12 x13 x14 h => hK x7 x10 x11 x12 x13 x14 h h10'
/-- from the draw of a web on -/
theorem w_body {tt : D} {x3 x4 x5 x6 x8 x9 : Slot} (hc : 300 ≤ c) (h10 : Nb x10) (h7 : Nb lot7) (hK : ∀ x3 x4 x5 x6 x7 x8 x9 x10 x11 x12 x13 x14, Nb x7 → Nb x10 → K ⟨[x0, .sh .res, x2, x3, x4, x5, x6, x7, x8, x9, x10, x11, x12, x13, x14, .emp, .emp, .crd (c - 273)], [.sh tt]⟩) :
    WS (Cx own) bodyL ⟨[x0, .sh .res, x2, x3, x4, x5, x6, lot7, x8, x9, x10, x11, x12, x13, x14, .emp, .emp, .crd c], [.sh tt]⟩ ⟨K, Q, Bk, K, X⟩ := by
  have sz : 1000000 ≤ sizeLine := by rw [sizeLine_eq]; omega
  have e : bodyL = .seq (fstS bodyL) (.seq (fstS (tailOf bodyL)) (.seq (fstS (tailOf (tailOf bodyL))) (.seq (fstS (tailOf (tailOf (tailOf bodyL)))) (.seq (fstS (tailOf (tailOf (tailOf (tailOf bodyL))))) (.seq (fstS (tailOf (tailOf (tailOf (tailOf (tailOf bodyL)))))) restL))))) := rfl
  rw [e]
  simp [bodyL, tailOf, fstS, forB, c_law]
  refine ⟨by omega, c33 (by omega) (by omega) (by omega) (by omega) fun n ts g => ?_⟩
  have t12 := g.2.2.1
  have ga := allF_GL ts.length (by omega)
  have ea : D.tup (rngD 0 ts.length) = tupI (allF ts.length) := by rw [rngD_all]; rfl
  have hlen := slots_len t12
  have erl : (rngD 0 (ts.length : Int)).length = ts.length := by rw [rngD_all]; simp [allF]
  simp [ix2, big0, bigN (m := ts.length) (by omega), erl]
  refine ⟨by omega, ?_⟩
  rw [ea]
  refine ⟨ts.length, rfl, t12, ?_⟩
  simp
  refine c29 g ga ?_
  simp [rkD]
  refine lk_filT (sortK (lotsF ts.length)) tupI tupI (ringB n ts) rfl trivial (by simp) rfl (by omega) (fun l hx as P ha hP => ?_) ?_
  · obtain ⟨gl, _⟩ := mem_lots t12 hx
    simp
    refine c29 g gl ?_
    simp [rkD]
    unfold ringB at hP
    by_cases c : rankF n ts l < (l.length : Int)
    · simp [c, ha] at hP ⊢; exact hP
    · simp [c] at hP ⊢; exact hP
  simp [cost2036, f2036]
  rw [q41 (lots_le g _)]
  simp
  refine lk_filT (sortK (lotsF ts.length)) tupI tupI (cutB n ts) rfl trivial (by simp [nbx h7]) rfl (by omega) (fun l hx as P ha hP => ?_) ?_
  · obtain ⟨gl, _⟩ := mem_lots t12 hx
    have gw : GL ts.length (withoutF ts.length l) := ⟨Nat.le_trans (List.length_filter_le _ _) ga.1, fun i hi => ga.2 i (List.mem_filter.mp hi).1⟩
    simp
    refine lk_filT (allF ts.length) .int .int (fun t => !l.contains t) rfl trivial (by simp [nbx h7]) rfl (by have := ga.1; omega) (fun t ht as2 P2 ha2 hP2 => ?_) ?_
    · cases hc : l.contains t with
      | true => simp [hc, -List.contains_eq_mem] at hP2 ⊢; exact hP2
      | false => simp [hc, ha2, -List.contains_eq_mem] at hP2 ⊢; exact hP2
    simp [-List.contains_eq_mem]
    refine c29 g (l := withoutF ts.length l) gw ?_
    simp [rkD, -List.contains_eq_mem]
    unfold cutB at hP
    by_cases c : rankF n ts (withoutF ts.length l) < rankF n ts (allF ts.length)
    · simp [c, ha] at hP ⊢; exact hP
    · simp [c] at hP ⊢; exact hP
  simp [cost2036, f2036]
  rw [q41 (lots_le g _)]
  have er : leastF ((sortK (lotsF ts.length)).filter (ringB n ts)) = ringsF n ts := rfl
  have ec : leastF ((sortK (lotsF ts.length)).filter (cutB n ts)) = cutsF n ts := rfl
  rw [er, ec]
  simp
  have c43 : ∀ {Q : D → Bool → Prop} {X : D → Prop}, Q (.tup ((ringsF n ts).map tupI)) false → (Cx own).fs 43 [webD n ts] Q X := fun q => ⟨_, rfl, sd_web g, fun z => (by rw [web_ok g] at z; cases z), fun n' ts' e _ => by
    obtain ⟨rfl, rfl⟩ := webD_inj e; exact q⟩
  have c46 : ∀ {Q : D → Bool → Prop} {X : D → Prop}, Q (.tup ((cutsF n ts).map tupI)) false → (Cx own).fs 46 [webD n ts] Q X := fun q => ⟨_, rfl, sd_web g, fun z => (by rw [web_ok g] at z; cases z), fun n' ts' e _ => by
    obtain ⟨rfl, rfl⟩ := webD_inj e; exact q⟩
  refine c43 ?_
  simp
  refine c46 ?_
  simp
  have l1 := (len_least g).1
  have l2 := (len_least g).2
  have s1 := sz_lots (c := 12) (ringsF n ts) fun l hl => mem_ring g hl
  have s2 := sz_lots (c := 12) (cutsF n ts) fun l hl => mem_cut g hl
  refine c27 ?_ ?_ ?_
  · refine .lst fun d hd => ?_
    simp at hd
    rcases hd with rfl | rfl
    · exact sm_lots _ 2
    · exact sm_lots _ 2
  · simp [szD, szD.szs]
    omega
  simp [permL]
  refine c43 ?_
  simp [pln_lots, eqq_lots]
  have := w_restL (x0 := x0) (x2 := x2) (x10 := x10) (x11 := x11) (x12 := x12) (x13 := x13) (x14 := x14) (every := tupI (allF ts.length)) (lots := .lst ((sortK (lotsF ts.length)).map tupI)) (whole := .int (rankF n ts (allF ts.length))) (lot7 := lot7) (c := c - 200) (Q := Q) (Bk := Bk) (K := K) (X := X) (tt := tt) g (by omega) h10 h7 fun x7 x10 x11 x12 x13 x14 h7 h10 => by
    have e : c - 200 - 73 = c - 273 := by omega
    rw [e]
    exact hK _ _ _ _ _ _ _ _ _ _ _ _ h7 h10
  exact this
end
/-- the last web -/
def lastT : List (Int × Int) := List.replicate 12 (0, 0)
def lastR : List (List Int) := [[0], [1], [2], [3], [4], [5], [6], [7], [8], [9], [10], [11]]
theorem last_gw : GW 1 lastT := by
  refine ⟨by omega, by omega, by decide, ?_⟩
  unfold InR
  decide
theorem last_rk (p : Mx.Lo) : rk 1 lastT p = 0 := by
  have g := last_gw
  have key : rk 1 lastT (Mx.uni Mx.emp p) = rk 1 lastT Mx.emp := (gmat g).span fun t ht hp => by
    refine (rk_ins (fun p hp => (g.2.2.2 p hp).1) ht).1 ?_
    have : lastT.getD t (0, 0) = (0, 0) := by
      have hm := getD_mem ht
      unfold lastT at hm
      exact (List.mem_replicate.mp hm).2
    rw [this]
    exact .refl _
  rw [(gmat g).emp] at key
  rw [← key]
  exact (gmat g).ext _ _ fun i hi => by simp [Mx.uni, Mx.emp]
theorem last_rings : ringsF 1 lastT = lastR := by
  have g := last_gw
  refine ltK_eq (rings_lt _ _) (by decide) fun x => ?_
  rw [rings_mem g, last_rk]
  constructor
  · rintro ⟨hl, hr, hm⟩
    obtain ⟨i, hi, hx⟩ := Mx.cnt_pos hr
    have h1 : Mx.Same lastT.length (Mx.ins Mx.emp i) (tst x) := hm _ (fun j hj hh => by
      unfold Mx.ins Mx.emp at hh
      simp at hh
      rw [hh]; exact hx) (by rw [last_rk, Mx.cnt_ins hi rfl]; omega)
    have e : x = lotOf lastT.length (Mx.ins Mx.emp i) := by rw [lotOf_congr h1, lotOf_tst hl]
    have hi : i < 12 := hi
    rw [e]
    have : i = 0 ∨ i = 1 ∨ i = 2 ∨ i = 3 ∨ i = 4 ∨ i = 5 ∨ i = 6 ∨ i = 7 ∨ i = 8 ∨ i = 9 ∨ i = 10 ∨ i = 11 := by omega
    rcases this with rfl | rfl | rfl | rfl | rfl | rfl | rfl | rfl | rfl | rfl | rfl | rfl <;> decide
  · intro hx
    have hh : ∃ i : Nat, x = [(i : Int)] ∧ i < 12 := by
      simp [lastR] at hx
      rcases hx with rfl | rfl | rfl | rfl | rfl | rfl | rfl | rfl | rfl | rfl | rfl | rfl
      · exact ⟨0, rfl, by omega⟩
      · exact ⟨1, rfl, by omega⟩
      · exact ⟨2, rfl, by omega⟩
      · exact ⟨3, rfl, by omega⟩
      · exact ⟨4, rfl, by omega⟩
      · exact ⟨5, rfl, by omega⟩
      · exact ⟨6, rfl, by omega⟩
      · exact ⟨7, rfl, by omega⟩
      · exact ⟨8, rfl, by omega⟩
      · exact ⟨9, rfl, by omega⟩
      · exact ⟨10, rfl, by omega⟩
      · exact ⟨11, rfl, by omega⟩
    obtain ⟨i, rfl, hi⟩ := hh
    have hl : Lot lastT.length [(i : Int)] := ⟨by simp, fun j hj => by
      have : j = i := by simpa using hj
      have e : lastT.length = 12 := rfl
      omega⟩
    have hc : Mx.cnt lastT.length (tst [(i : Int)]) = 1 := by rw [← lot_len hl]; rfl
    refine ⟨hl, by omega, fun q hq hr => ?_⟩
    rw [last_rk] at hr
    exact Mx.same_of hq (by omega)
theorem w_law (ns : List Int) (Q : D → Bool → Prop) (X : D → Prop) (q : Q (.bl true) false) :
    WS (Cx own) (tailOf c_law) ⟨[.sh (.scr ns), .sh .res, .emp, .emp, .emp, .emp, .emp, .emp, .emp, .emp, .emp, .emp, .emp, .emp, .emp, .emp, .emp, .crd 4000], []⟩ ⟨fun _ => Q .non false, Q, fun _ => False, fun _ => False, fun x _ => X x⟩ := by
  have sz : 1000000 < sizeLine := by rw [sizeLine_eq]; omega
  have e : tailOf c_law = .seq (.forr .range1 1 (.cons (.bin .add (.lit (.int 2)) (.bi .min2 2 (.cons (.bi .len 1 (.cons (.var 0) .nil)) (.cons (.lit (.int 3)) .nil)))) .nil) (.name 2) bodyL) (tailOf (tailOf c_law)) := rfl
  rw [e]
  simp
  refine fk_any (fun pre l => ∃ x2 x3 x4 x5 x6 x7 x8 x9 x10 x11 x12 x13 x14 c, l = [.sh (.scr ns), .sh .res, x2, x3, x4, x5, x6, x7, x8, x9, x10, x11, x12, x13, x14, .emp, .emp, .crd c] ∧ 4000 ≤ c + 500 * pre.length ∧ Nb x7 ∧ Nb x10) rfl (by unfold bigI; split <;> omega) rfl rfl ⟨.emp, .emp, .emp, .emp, .emp, .emp, .emp, .emp, .emp, .emp, .emp, .emp, .emp, 4000, rfl, by simp, by simp, by simp⟩
    (fun pre x post hxs l ⟨x2, x3, x4, x5, x6, x7, x8, x9, x10, x11, x12, x13, x14, c, hl2, hc, h7, h10⟩ K Bk hK => ?_) (fun l ⟨x2, x3, x4, x5, x6, x7, x8, x9, x10, x11, x12, x13, x14, c, hl2, hc, h7, h10⟩ => ?_)
  · subst hl2
    have hlen := congrArg List.length hxs
    rw [len_rng] at hlen
    have hpre : pre.length ≤ 4 := by
      simp at hlen
      split at hlen <;> omega
    simp
    refine w_body (by omega) h10 h7 fun x3 x4 x5 x6 x7 x8 x9 x10 x11 x12 x13 x14 h7 h10 => ?_
    exact hK _ ⟨_, _, _, _, _, _, _, _, _, _, _, _, _, _, rfl, by simp; omega, h7, h10⟩
  · subst hl2
    simp [tailOf, c_law]
    refine ⟨webD 1 lastT, rfl, sd_web last_gw, fun z => (by rw [web_ok last_gw] at z; cases z), fun n' ts' e _ => ?_⟩
    obtain ⟨rfl, rfl⟩ := webD_inj e
    rw [last_rings]
    simp
    refine lk_mapT ((List.range 12).map Int.ofNat) .int (fun i => tupI [i]) rfl (by unfold bigI; omega) (by simp) rfl (by simp; omega) (fun i hi as P ha hP => ?_) ?_
    · simp [ha]
      exact hP
    · have e1 : ((List.range 12).map Int.ofNat).map (fun i => tupI [i]) = lastR.map tupI := rfl
      rw [e1]
      simp [pln_lots, eqq_lots, q]
end DP.K01

set_option Elab.async false
set_option linter.all false
set_option maxRecDepth 100000
set_option maxHeartbeats 1000000
/-! K01r: def by def (written by mkl.py). -/
namespace DP.K01
open PySem PySem.Spec PyProof.Rows L2 DP DP.L
/-- what is known of the module -/
structure Env (P : Program) (w : World) (K : PySem.W.Frag) (mg : Str → Option Value) (base : Heap) (T : List (Addr × Str)) (r g cl : Addr) : Prop where
  fds : ∀ d ∈ defs, ∃ fd, FunD K d.name d.qual d.params d.body d.scope (d.dvs K) (d.kws K) (He.fAd K d.at_) fd
  gl : ∀ p ∈ M.fnL, mg p.2.1 = some (.ref (He.ga K p.2.1))
  free : ∀ x ∈ M.free, mg x = none
  mo : ∀ r g cl, ModOk P w K mg base (mgD K M T r g cl) (Cx own) M
  tf : ∀ x ∈ (["_law_lots", "law"] : List Str), TabFa base K mg T x
theorem hds_ok : ∀ f n, (Cx own).hd f = some n → (f, n) ∈ hds := fun f n h => mem_lk h
theorem kw_43 {K : PySem.W.Frag} {fd : FuncData} {f : Addr} (F : FunD K "rings_of" "rings_of" (defArgs (topI lw 23)) (defBody (topI lw 23)) (defScope (topI lw 23)) [] [] f fd) : ∀ q ∈ M.kw, q.1 = 43 → KwTo K fd ["web"] q.2.1 q.2.2 := by
  intro q hq e1
  have hq : q ∈ [((43 : Nat), (["web"] : List Str), ([0] : List Nat))] := hq
  obtain ⟨oc, od, dV, kV, doc, pm, an, cdv, ct, osl, rfl, lk, hcd, hD, hK⟩ := F.ex
  rcases hD with ⟨_, rfl⟩ | ⟨e, _⟩
  · simp only [List.mem_cons, List.not_mem_nil, or_false] at hq
    rcases hq with rfl
    · intro s ws hK hl
      match ws, hl with
      | [a0], _ => exact .of_eq rfl
  · exact absurd rfl e
section
variable {P : Program} {w : World} {K : PySem.W.Frag} {mg : Str → Option Value} {base : Heap} {T : List (Addr × Str)} {r g cl : Addr}
theorem st_0 (E : Env P w K mg base T r g cl) {k : Nat} (h3 : 3 ≤ k) (hA : ∀ f ∈ ([] : List Nat), HI P w K mg base (mgD K M T r g cl) (Cx own) M f k) : ∀ f ∈ 0 :: ([] : List Nat), HI P w K mg base (mgD K M T r g cl) (Cx own) M f (k + 3) := by
  obtain ⟨fd, F⟩ := E.fds (dfD lw "is_whole" 7) (List.mem_of_getElem? (show defs[0]? = some (dfD lw "is_whole" 7) from rfl))
  have b : Binds K fd ["value"] [] := FunD.bindsN F fun _ _ _ _ _ _ us hl => match us, hl with | [_], _ => rfl
  exact step_HI (use := ([] : List Nat)) (N := N_is_whole) (code := c_is_whole) (E.mo r g cl) cmonoW h3 hA rfl F rfl ⟨rfl, rfl, rfl, by decide +kernel, rfl, by decide +kernel, by decide +kernel⟩ b (E.gl _ (List.mem_of_getElem? (i := 0) rfl)) (by decide +kernel) (by decide +kernel) w_whole rfl (by decide) (fun h => absurd h (by decide)) (fun q hq e => absurd e (by revert q; decide))
theorem st_1 (E : Env P w K mg base T r g cl) {k : Nat} (h3 : 3 ≤ k) (hA : ∀ f ∈ ([0] : List Nat), HI P w K mg base (mgD K M T r g cl) (Cx own) M f k) : ∀ f ∈ 1 :: ([0] : List Nat), HI P w K mg base (mgD K M T r g cl) (Cx own) M f (k + 3) := by
  obtain ⟨fd, F⟩ := E.fds (dfD lw "is_below" 8) (List.mem_of_getElem? (show defs[1]? = some (dfD lw "is_below" 8) from rfl))
  have b : Binds K fd ["value", "bound"] [] := FunD.bindsN F fun _ _ _ _ _ _ us hl => match us, hl with | [_, _], _ => rfl
  exact step_HI (use := ([0] : List Nat)) (N := N_is_below) (code := c_is_below) (E.mo r g cl) cmonoW h3 hA rfl F rfl ⟨rfl, rfl, rfl, by decide +kernel, rfl, by decide +kernel, by decide +kernel⟩ b (E.gl _ (List.mem_of_getElem? (i := 1) rfl)) (by decide +kernel) (by decide +kernel) w_below rfl (by decide) (fun h => absurd h (by decide)) (fun q hq e => absurd e (by revert q; decide))
theorem st_2 (E : Env P w K mg base T r g cl) {k : Nat} (h3 : 3 ≤ k) (hA : ∀ f ∈ ([1, 0] : List Nat), HI P w K mg base (mgD K M T r g cl) (Cx own) M f k) : ∀ f ∈ 2 :: ([1, 0] : List Nat), HI P w K mg base (mgD K M T r g cl) (Cx own) M f (k + 3) := by
  obtain ⟨fd, F⟩ := E.fds (dfD lw "is_pair" 9) (List.mem_of_getElem? (show defs[2]? = some (dfD lw "is_pair" 9) from rfl))
  have b : Binds K fd ["n", "value"] [] := FunD.bindsN F fun _ _ _ _ _ _ us hl => match us, hl with | [_, _], _ => rfl
  exact step_HI (use := ([1, 0] : List Nat)) (N := N_is_pair) (code := c_is_pair) (E.mo r g cl) cmonoW h3 hA rfl F rfl ⟨rfl, rfl, rfl, by decide +kernel, rfl, by decide +kernel, by decide +kernel⟩ b (E.gl _ (List.mem_of_getElem? (i := 2) rfl)) (by decide +kernel) (by decide +kernel) w_pair rfl (by decide) (fun h => absurd h (by decide)) (fun q hq e => absurd e (by revert q; decide))
theorem st_3 (E : Env P w K mg base T r g cl) {k : Nat} (h3 : 3 ≤ k) (hA : ∀ f ∈ ([2, 1, 0] : List Nat), HI P w K mg base (mgD K M T r g cl) (Cx own) M f k) : ∀ f ∈ 3 :: ([2, 1, 0] : List Nat), HI P w K mg base (mgD K M T r g cl) (Cx own) M f (k + 3) := by
  obtain ⟨fd, F⟩ := E.fds (dfD lw "is_web" 10) (List.mem_of_getElem? (show defs[3]? = some (dfD lw "is_web" 10) from rfl))
  have b : Binds K fd ["value"] [] := FunD.bindsN F fun _ _ _ _ _ _ us hl => match us, hl with | [_], _ => rfl
  exact step_HI (use := ([2, 1, 0] : List Nat)) (N := N_is_web) (code := c_is_web) (E.mo r g cl) cmonoW h3 hA rfl F rfl ⟨rfl, rfl, rfl, by decide +kernel, rfl, by decide +kernel, by decide +kernel⟩ b (E.gl _ (List.mem_of_getElem? (i := 3) rfl)) (by decide +kernel) (by decide +kernel) w_web rfl (by decide) (fun h => absurd h (by decide)) (fun q hq e => absurd e (by revert q; decide))
theorem st_4 (E : Env P w K mg base T r g cl) {k : Nat} (h3 : 3 ≤ k) (hA : ∀ f ∈ ([3, 2, 1, 0] : List Nat), HI P w K mg base (mgD K M T r g cl) (Cx own) M f k) : ∀ f ∈ 4 :: ([3, 2, 1, 0] : List Nat), HI P w K mg base (mgD K M T r g cl) (Cx own) M f (k + 3) := by
  obtain ⟨fd, F⟩ := E.fds (dfD lw "need_web" 11) (List.mem_of_getElem? (show defs[4]? = some (dfD lw "need_web" 11) from rfl))
  have b : Binds K fd ["web"] [] := FunD.bindsN F fun _ _ _ _ _ _ us hl => match us, hl with | [_], _ => rfl
  exact step_HI (use := ([3, 2, 1, 0] : List Nat)) (N := N_need_web) (code := c_need_web) (E.mo r g cl) cmonoW h3 hA rfl F rfl ⟨rfl, rfl, rfl, by decide +kernel, rfl, by decide +kernel, by decide +kernel⟩ b (E.gl _ (List.mem_of_getElem? (i := 4) rfl)) (by decide +kernel) (by decide +kernel) w_needWeb rfl (by decide) (fun h => absurd h (by decide)) (fun q hq e => absurd e (by revert q; decide))
theorem st_5 (E : Env P w K mg base T r g cl) {k : Nat} (h3 : 3 ≤ k) (hA : ∀ f ∈ ([4, 3, 2, 1, 0] : List Nat), HI P w K mg base (mgD K M T r g cl) (Cx own) M f k) : ∀ f ∈ 5 :: ([4, 3, 2, 1, 0] : List Nat), HI P w K mg base (mgD K M T r g cl) (Cx own) M f (k + 3) := by
  obtain ⟨fd, F⟩ := E.fds (dfD lw "is_lot" 12) (List.mem_of_getElem? (show defs[5]? = some (dfD lw "is_lot" 12) from rfl))
  have b : Binds K fd ["web", "value"] [] := FunD.bindsN F fun _ _ _ _ _ _ us hl => match us, hl with | [_, _], _ => rfl
  exact step_HI (use := ([4, 3, 2, 1, 0] : List Nat)) (N := N_is_lot) (code := c_is_lot) (E.mo r g cl) cmonoW h3 hA rfl F rfl ⟨rfl, rfl, rfl, by decide +kernel, rfl, by decide +kernel, by decide +kernel⟩ b (E.gl _ (List.mem_of_getElem? (i := 5) rfl)) (by decide +kernel) (by decide +kernel) w_lot rfl (by decide) (fun h => absurd h (by decide)) (fun q hq e => absurd e (by revert q; decide))
theorem st_6 (E : Env P w K mg base T r g cl) {k : Nat} (h3 : 3 ≤ k) (hA : ∀ f ∈ ([5, 4, 3, 2, 1, 0] : List Nat), HI P w K mg base (mgD K M T r g cl) (Cx own) M f k) : ∀ f ∈ 6 :: ([5, 4, 3, 2, 1, 0] : List Nat), HI P w K mg base (mgD K M T r g cl) (Cx own) M f (k + 3) := by
  obtain ⟨fd, F⟩ := E.fds (dfD lw "need_lot" 13) (List.mem_of_getElem? (show defs[6]? = some (dfD lw "need_lot" 13) from rfl))
  have b : Binds K fd ["web", "lot"] [] := FunD.bindsN F fun _ _ _ _ _ _ us hl => match us, hl with | [_, _], _ => rfl
  exact step_HI (use := ([5, 4, 3, 2, 1, 0] : List Nat)) (N := N_need_lot) (code := c_need_lot) (E.mo r g cl) cmonoW h3 hA rfl F rfl ⟨rfl, rfl, rfl, by decide +kernel, rfl, by decide +kernel, by decide +kernel⟩ b (E.gl _ (List.mem_of_getElem? (i := 6) rfl)) (by decide +kernel) (by decide +kernel) w_needLot rfl (by decide) (fun h => absurd h (by decide)) (fun q hq e => absurd e (by revert q; decide))
theorem st_7 (E : Env P w K mg base T r g cl) {k : Nat} (h3 : 3 ≤ k) (hA : ∀ f ∈ ([6, 5, 4, 3, 2, 1, 0] : List Nat), HI P w K mg base (mgD K M T r g cl) (Cx own) M f k) : ∀ f ∈ 7 :: ([6, 5, 4, 3, 2, 1, 0] : List Nat), HI P w K mg base (mgD K M T r g cl) (Cx own) M f (k + 3) := by
  obtain ⟨fd, F⟩ := E.fds (dfD lw "names_by" 14) (List.mem_of_getElem? (show defs[7]? = some (dfD lw "names_by" 14) from rfl))
  have b : Binds K fd ["n", "ties"] [] := FunD.bindsN F fun _ _ _ _ _ _ us hl => match us, hl with | [_, _], _ => rfl
  exact step_HI (use := ([6, 5, 4, 3, 2, 1, 0] : List Nat)) (N := N_names_by) (code := c_names_by) (E.mo r g cl) cmonoW h3 hA rfl F rfl ⟨rfl, rfl, rfl, by decide +kernel, rfl, by decide +kernel, by decide +kernel⟩ b (E.gl _ (List.mem_of_getElem? (i := 7) rfl)) (by decide +kernel) (by decide +kernel) w_names rfl (by decide) (fun h => absurd h (by decide)) (fun q hq e => absurd e (by revert q; decide))
theorem st_11 (E : Env P w K mg base T r g cl) {k : Nat} (h3 : 3 ≤ k) (hA : ∀ f ∈ ([7, 6, 5, 4, 3, 2, 1, 0] : List Nat), HI P w K mg base (mgD K M T r g cl) (Cx own) M f k) : ∀ f ∈ 11 :: ([7, 6, 5, 4, 3, 2, 1, 0] : List Nat), HI P w K mg base (mgD K M T r g cl) (Cx own) M f (k + 3) := by
  obtain ⟨fd, F⟩ := E.fds (dfD lw "rank_in" 15) (List.mem_of_getElem? (show defs[8]? = some (dfD lw "rank_in" 15) from rfl))
  have b : Binds K fd ["web", "lot"] [] := FunD.bindsN F fun _ _ _ _ _ _ us hl => match us, hl with | [_, _], _ => rfl
  exact step_HI (use := ([7, 6, 5, 4, 3, 2, 1, 0] : List Nat)) (N := N_rank_in) (code := c_rank_in) (E.mo r g cl) cmonoW h3 hA rfl F rfl ⟨rfl, rfl, rfl, by decide +kernel, rfl, by decide +kernel, by decide +kernel⟩ b (E.gl _ (List.mem_of_getElem? (i := 8) rfl)) (by decide +kernel) (by decide +kernel) w_rankIn rfl (by decide) (fun h => absurd h (by decide)) (fun q hq e => absurd e (by revert q; decide))
theorem st_13 (E : Env P w K mg base T r g cl) {k : Nat} (h3 : 3 ≤ k) (hA : ∀ f ∈ ([11, 7, 6, 5, 4, 3, 2, 1, 0] : List Nat), HI P w K mg base (mgD K M T r g cl) (Cx own) M f k) : ∀ f ∈ 13 :: ([11, 7, 6, 5, 4, 3, 2, 1, 0] : List Nat), HI P w K mg base (mgD K M T r g cl) (Cx own) M f (k + 3) := by
  obtain ⟨fd, F⟩ := E.fds (dfD lw "all_ties" 16) (List.mem_of_getElem? (show defs[9]? = some (dfD lw "all_ties" 16) from rfl))
  have b : Binds K fd ["web"] [] := FunD.bindsN F fun _ _ _ _ _ _ us hl => match us, hl with | [_], _ => rfl
  exact step_HI (use := ([11, 7, 6, 5, 4, 3, 2, 1, 0] : List Nat)) (N := N_all_ties) (code := c_all_ties) (E.mo r g cl) cmonoW h3 hA rfl F rfl ⟨rfl, rfl, rfl, by decide +kernel, rfl, by decide +kernel, by decide +kernel⟩ b (E.gl _ (List.mem_of_getElem? (i := 9) rfl)) (by decide +kernel) (by decide +kernel) w_allTies rfl (by decide) (fun h => absurd h (by decide)) (fun q hq e => absurd e (by revert q; decide))
theorem st_15 (E : Env P w K mg base T r g cl) {k : Nat} (h3 : 3 ≤ k) (hA : ∀ f ∈ ([13, 11, 7, 6, 5, 4, 3, 2, 1, 0] : List Nat), HI P w K mg base (mgD K M T r g cl) (Cx own) M f k) : ∀ f ∈ 15 :: ([13, 11, 7, 6, 5, 4, 3, 2, 1, 0] : List Nat), HI P w K mg base (mgD K M T r g cl) (Cx own) M f (k + 3) := by
  obtain ⟨fd, F⟩ := E.fds (dfD lw "all_lots" 18) (List.mem_of_getElem? (show defs[11]? = some (dfD lw "all_lots" 18) from rfl))
  have b : Binds K fd ["web"] [] := FunD.bindsN F fun _ _ _ _ _ _ us hl => match us, hl with | [_], _ => rfl
  exact step_HI (use := ([13, 11, 7, 6, 5, 4, 3, 2, 1, 0] : List Nat)) (N := N_all_lots) (code := c_all_lots) (E.mo r g cl) cmonoW h3 hA rfl F rfl ⟨rfl, rfl, rfl, by decide +kernel, rfl, by decide +kernel, by decide +kernel⟩ b (E.gl _ (List.mem_of_getElem? (i := 11) rfl)) (by decide +kernel) (by decide +kernel) w_allLots rfl (by decide) (fun h => absurd h (by decide)) (fun q hq e => absurd e (by revert q; decide))
theorem st_16 (E : Env P w K mg base T r g cl) {k : Nat} (h3 : 3 ≤ k) (hA : ∀ f ∈ ([15, 13, 11, 7, 6, 5, 4, 3, 2, 1, 0] : List Nat), HI P w K mg base (mgD K M T r g cl) (Cx own) M f k) : ∀ f ∈ 16 :: ([15, 13, 11, 7, 6, 5, 4, 3, 2, 1, 0] : List Nat), HI P w K mg base (mgD K M T r g cl) (Cx own) M f (k + 3) := by
  obtain ⟨fd, F⟩ := E.fds (dfD lw "is_tree_in" 19) (List.mem_of_getElem? (show defs[12]? = some (dfD lw "is_tree_in" 19) from rfl))
  have b : Binds K fd ["web", "lot"] [] := FunD.bindsN F fun _ _ _ _ _ _ us hl => match us, hl with | [_, _], _ => rfl
  exact step_HI (use := ([15, 13, 11, 7, 6, 5, 4, 3, 2, 1, 0] : List Nat)) (N := N_is_tree_in) (code := c_is_tree_in) (E.mo r g cl) cmonoW h3 hA rfl F rfl ⟨rfl, rfl, rfl, by decide +kernel, rfl, by decide +kernel, by decide +kernel⟩ b (E.gl _ (List.mem_of_getElem? (i := 12) rfl)) (by decide +kernel) (by decide +kernel) w_treeIn rfl (by decide) (fun h => absurd h (by decide)) (fun q hq e => absurd e (by revert q; decide))
theorem st_17 (E : Env P w K mg base T r g cl) {k : Nat} (h3 : 3 ≤ k) (hA : ∀ f ∈ ([16, 15, 13, 11, 7, 6, 5, 4, 3, 2, 1, 0] : List Nat), HI P w K mg base (mgD K M T r g cl) (Cx own) M f k) : ∀ f ∈ 17 :: ([16, 15, 13, 11, 7, 6, 5, 4, 3, 2, 1, 0] : List Nat), HI P w K mg base (mgD K M T r g cl) (Cx own) M f (k + 3) := by
  obtain ⟨fd, F⟩ := E.fds (dfD lw "is_tree" 20) (List.mem_of_getElem? (show defs[13]? = some (dfD lw "is_tree" 20) from rfl))
  have b : Binds K fd ["web", "lot"] [] := FunD.bindsN F fun _ _ _ _ _ _ us hl => match us, hl with | [_, _], _ => rfl
  exact step_HI (use := ([16, 15, 13, 11, 7, 6, 5, 4, 3, 2, 1, 0] : List Nat)) (N := N_is_tree) (code := c_is_tree) (E.mo r g cl) cmonoW h3 hA rfl F rfl ⟨rfl, rfl, rfl, by decide +kernel, rfl, by decide +kernel, by decide +kernel⟩ b (E.gl _ (List.mem_of_getElem? (i := 13) rfl)) (by decide +kernel) (by decide +kernel) w_isTree rfl (by decide) (fun h => absurd h (by decide)) (fun q hq e => absurd e (by revert q; decide))
theorem st_41 (E : Env P w K mg base T r g cl) {k : Nat} (h3 : 3 ≤ k) (hA : ∀ f ∈ ([17, 16, 15, 13, 11, 7, 6, 5, 4, 3, 2, 1, 0] : List Nat), HI P w K mg base (mgD K M T r g cl) (Cx own) M f k) : ∀ f ∈ 41 :: ([17, 16, 15, 13, 11, 7, 6, 5, 4, 3, 2, 1, 0] : List Nat), HI P w K mg base (mgD K M T r g cl) (Cx own) M f (k + 3) := by
  obtain ⟨fd, F⟩ := E.fds (dfD lw "least_of" 21) (List.mem_of_getElem? (show defs[14]? = some (dfD lw "least_of" 21) from rfl))
  have b : Binds K fd ["lots"] [] := FunD.bindsN F fun _ _ _ _ _ _ us hl => match us, hl with | [_], _ => rfl
  exact step_HI (use := ([17, 16, 15, 13, 11, 7, 6, 5, 4, 3, 2, 1, 0] : List Nat)) (N := N_least_of) (code := c_least_of) (E.mo r g cl) cmonoW h3 hA rfl F rfl ⟨rfl, rfl, rfl, by decide +kernel, rfl, by decide +kernel, by decide +kernel⟩ b (E.gl _ (List.mem_of_getElem? (i := 14) rfl)) (by decide +kernel) (by decide +kernel) w_leastOf rfl (by decide) (fun h => absurd h (by decide)) (fun q hq e => absurd e (by revert q; decide))
theorem st_42 (E : Env P w K mg base T r g cl) {k : Nat} (h3 : 3 ≤ k) (hA : ∀ f ∈ ([41, 17, 16, 15, 13, 11, 7, 6, 5, 4, 3, 2, 1, 0] : List Nat), HI P w K mg base (mgD K M T r g cl) (Cx own) M f k) : ∀ f ∈ 42 :: ([41, 17, 16, 15, 13, 11, 7, 6, 5, 4, 3, 2, 1, 0] : List Nat), HI P w K mg base (mgD K M T r g cl) (Cx own) M f (k + 3) := by
  obtain ⟨fd, F⟩ := E.fds (dfD lw "rings_in" 22) (List.mem_of_getElem? (show defs[15]? = some (dfD lw "rings_in" 22) from rfl))
  have b : Binds K fd ["web"] [] := FunD.bindsN F fun _ _ _ _ _ _ us hl => match us, hl with | [_], _ => rfl
  exact step_HI (use := ([41, 17, 16, 15, 13, 11, 7, 6, 5, 4, 3, 2, 1, 0] : List Nat)) (N := N_rings_in) (code := c_rings_in) (E.mo r g cl) cmonoW h3 hA rfl F rfl ⟨rfl, rfl, rfl, by decide +kernel, rfl, by decide +kernel, by decide +kernel⟩ b (E.gl _ (List.mem_of_getElem? (i := 15) rfl)) (by decide +kernel) (by decide +kernel) w_ringsIn rfl (by decide) (fun h => absurd h (by decide)) (fun q hq e => absurd e (by revert q; decide))
theorem st_43 (E : Env P w K mg base T r g cl) {k : Nat} (h3 : 3 ≤ k) (hA : ∀ f ∈ ([42, 41, 17, 16, 15, 13, 11, 7, 6, 5, 4, 3, 2, 1, 0] : List Nat), HI P w K mg base (mgD K M T r g cl) (Cx own) M f k) : ∀ f ∈ 43 :: ([42, 41, 17, 16, 15, 13, 11, 7, 6, 5, 4, 3, 2, 1, 0] : List Nat), HI P w K mg base (mgD K M T r g cl) (Cx own) M f (k + 3) := by
  obtain ⟨fd, F⟩ := E.fds (dfD lw "rings_of" 23) (List.mem_of_getElem? (show defs[16]? = some (dfD lw "rings_of" 23) from rfl))
  have b : Binds K fd ["web"] [] := FunD.bindsN F fun _ _ _ _ _ _ us hl => match us, hl with | [_], _ => rfl
  exact step_HI (use := ([42, 41, 17, 16, 15, 13, 11, 7, 6, 5, 4, 3, 2, 1, 0] : List Nat)) (N := N_rings_of) (code := c_rings_of) (E.mo r g cl) cmonoW h3 hA rfl F rfl ⟨rfl, rfl, rfl, by decide +kernel, rfl, by decide +kernel, by decide +kernel⟩ b (E.gl _ (List.mem_of_getElem? (i := 16) rfl)) (by decide +kernel) (by decide +kernel) w_ringsOf rfl (by decide) (fun h => absurd h (by decide)) (kw_43 F)
theorem st_44 (E : Env P w K mg base T r g cl) {k : Nat} (h3 : 3 ≤ k) (hA : ∀ f ∈ ([43, 42, 41, 17, 16, 15, 13, 11, 7, 6, 5, 4, 3, 2, 1, 0] : List Nat), HI P w K mg base (mgD K M T r g cl) (Cx own) M f k) : ∀ f ∈ 44 :: ([43, 42, 41, 17, 16, 15, 13, 11, 7, 6, 5, 4, 3, 2, 1, 0] : List Nat), HI P w K mg base (mgD K M T r g cl) (Cx own) M f (k + 3) := by
  obtain ⟨fd, F⟩ := E.fds (dfD lw "without" 24) (List.mem_of_getElem? (show defs[17]? = some (dfD lw "without" 24) from rfl))
  have b : Binds K fd ["web", "lot"] [] := FunD.bindsN F fun _ _ _ _ _ _ us hl => match us, hl with | [_, _], _ => rfl
  exact step_HI (use := ([43, 42, 41, 17, 16, 15, 13, 11, 7, 6, 5, 4, 3, 2, 1, 0] : List Nat)) (N := N_without) (code := c_without) (E.mo r g cl) cmonoW h3 hA rfl F rfl ⟨rfl, rfl, rfl, by decide +kernel, rfl, by decide +kernel, by decide +kernel⟩ b (E.gl _ (List.mem_of_getElem? (i := 17) rfl)) (by decide +kernel) (by decide +kernel) w_without rfl (by decide) (fun h => absurd h (by decide)) (fun q hq e => absurd e (by revert q; decide))
theorem st_45 (E : Env P w K mg base T r g cl) {k : Nat} (h3 : 3 ≤ k) (hA : ∀ f ∈ ([44, 43, 42, 41, 17, 16, 15, 13, 11, 7, 6, 5, 4, 3, 2, 1, 0] : List Nat), HI P w K mg base (mgD K M T r g cl) (Cx own) M f k) : ∀ f ∈ 45 :: ([44, 43, 42, 41, 17, 16, 15, 13, 11, 7, 6, 5, 4, 3, 2, 1, 0] : List Nat), HI P w K mg base (mgD K M T r g cl) (Cx own) M f (k + 3) := by
  obtain ⟨fd, F⟩ := E.fds (dfD lw "cuts_in" 25) (List.mem_of_getElem? (show defs[18]? = some (dfD lw "cuts_in" 25) from rfl))
  have b : Binds K fd ["web"] [] := FunD.bindsN F fun _ _ _ _ _ _ us hl => match us, hl with | [_], _ => rfl
  exact step_HI (use := ([44, 43, 42, 41, 17, 16, 15, 13, 11, 7, 6, 5, 4, 3, 2, 1, 0] : List Nat)) (N := N_cuts_in) (code := c_cuts_in) (E.mo r g cl) cmonoW h3 hA rfl F rfl ⟨rfl, rfl, rfl, by decide +kernel, rfl, by decide +kernel, by decide +kernel⟩ b (E.gl _ (List.mem_of_getElem? (i := 18) rfl)) (by decide +kernel) (by decide +kernel) w_cutsIn rfl (by decide) (fun h => absurd h (by decide)) (fun q hq e => absurd e (by revert q; decide))
theorem st_46 (E : Env P w K mg base T r g cl) {k : Nat} (h3 : 3 ≤ k) (hA : ∀ f ∈ ([45, 44, 43, 42, 41, 17, 16, 15, 13, 11, 7, 6, 5, 4, 3, 2, 1, 0] : List Nat), HI P w K mg base (mgD K M T r g cl) (Cx own) M f k) : ∀ f ∈ 46 :: ([45, 44, 43, 42, 41, 17, 16, 15, 13, 11, 7, 6, 5, 4, 3, 2, 1, 0] : List Nat), HI P w K mg base (mgD K M T r g cl) (Cx own) M f (k + 3) := by
  obtain ⟨fd, F⟩ := E.fds (dfD lw "cuts_of" 26) (List.mem_of_getElem? (show defs[19]? = some (dfD lw "cuts_of" 26) from rfl))
  have b : Binds K fd ["web"] [] := FunD.bindsN F fun _ _ _ _ _ _ us hl => match us, hl with | [_], _ => rfl
  exact step_HI (use := ([45, 44, 43, 42, 41, 17, 16, 15, 13, 11, 7, 6, 5, 4, 3, 2, 1, 0] : List Nat)) (N := N_cuts_of) (code := c_cuts_of) (E.mo r g cl) cmonoW h3 hA rfl F rfl ⟨rfl, rfl, rfl, by decide +kernel, rfl, by decide +kernel, by decide +kernel⟩ b (E.gl _ (List.mem_of_getElem? (i := 19) rfl)) (by decide +kernel) (by decide +kernel) w_cutsOf rfl (by decide) (fun h => absurd h (by decide)) (fun q hq e => absurd e (by revert q; decide))
theorem st_22 (E : Env P w K mg base T r g cl) {k : Nat} (h3 : 3 ≤ k) (hA : ∀ f ∈ ([46, 45, 44, 43, 42, 41, 17, 16, 15, 13, 11, 7, 6, 5, 4, 3, 2, 1, 0] : List Nat), HI P w K mg base (mgD K M T r g cl) (Cx own) M f k) : ∀ f ∈ 22 :: ([46, 45, 44, 43, 42, 41, 17, 16, 15, 13, 11, 7, 6, 5, 4, 3, 2, 1, 0] : List Nat), HI P w K mg base (mgD K M T r g cl) (Cx own) M f (k + 3) := by
  obtain ⟨fd, F⟩ := E.fds (dfD lw "_law_draw" 30) (List.mem_of_getElem? (show defs[22]? = some (dfD lw "_law_draw" 30) from rfl))
  have b : Binds K fd ["state", "room"] [] := FunD.bindsN F fun _ _ _ _ _ _ us hl => match us, hl with | [_, _], _ => rfl
  obtain ⟨fdb, FB⟩ := E.fds (dfD lw "_law_blended" 29) (List.mem_of_getElem? (show defs[21]? = some (dfD lw "_law_blended" 29) from rfl))
  have bb : Binds K fdb ["state"] [] := FunD.bindsN FB fun _ _ _ _ _ _ us hl => match us, hl with | [_], _ => rfl
  refine cons_HI hA fun x ps e => ?_
  have e : some (("_law_draw" : Str), (["state", "room"] : List Str)) = some (x, ps) := e
  cases e
  exact ⟨_, fd, (ok_draw (k := k + 2) isDr F (ok_blend (k := k + 1) isDr FB (E.free _ (by decide))) (E.gl _ (List.mem_of_getElem? (i := 21) rfl)) FB.kp bb (E.free _ (by decide))), E.gl _ (List.mem_of_getElem? (i := 22) rfl), F.kp, b, rfl, fun q hq e => absurd e (by revert q; decide)⟩
theorem st_23 (E : Env P w K mg base T r g cl) {k : Nat} (h3 : 3 ≤ k) (hA : ∀ f ∈ ([22, 46, 45, 44, 43, 42, 41, 17, 16, 15, 13, 11, 7, 6, 5, 4, 3, 2, 1, 0] : List Nat), HI P w K mg base (mgD K M T r g cl) (Cx own) M f k) : ∀ f ∈ 23 :: ([22, 46, 45, 44, 43, 42, 41, 17, 16, 15, 13, 11, 7, 6, 5, 4, 3, 2, 1, 0] : List Nat), HI P w K mg base (mgD K M T r g cl) (Cx own) M f (k + 3) := by
  obtain ⟨fd, F⟩ := E.fds (dfD lw "_law_pick" 31) (List.mem_of_getElem? (show defs[23]? = some (dfD lw "_law_pick" 31) from rfl))
  have b : Binds K fd ["state", "some"] [] := FunD.bindsN F fun _ _ _ _ _ _ us hl => match us, hl with | [_, _], _ => rfl
  exact step_HIc (use := ([22, 46, 45, 44, 43, 42, 41, 17, 16, 15, 13, 11, 7, 6, 5, 4, 3, 2, 1, 0] : List Nat)) (N := (N__law_pick ++ ([""] : List Str))) (code := c__law_pick) (j := N__law_pick.length) (q := 1) (E.mo r g cl) cmonoW h3 hA rfl F rfl ⟨rfl, rfl, rfl, by decide +kernel, rfl, by decide +kernel, by decide +kernel⟩ b (E.gl _ (List.mem_of_getElem? (i := 23) rfl)) (by decide +kernel) (by decide +kernel) rfl w_pick rfl (by decide) (fun h => absurd h (by decide)) (fun q hq e => absurd e (by revert q; decide))
theorem st_24 (E : Env P w K mg base T r g cl) {k : Nat} (h3 : 3 ≤ k) (hA : ∀ f ∈ ([23, 22, 46, 45, 44, 43, 42, 41, 17, 16, 15, 13, 11, 7, 6, 5, 4, 3, 2, 1, 0] : List Nat), HI P w K mg base (mgD K M T r g cl) (Cx own) M f k) : ∀ f ∈ 24 :: ([23, 22, 46, 45, 44, 43, 42, 41, 17, 16, 15, 13, 11, 7, 6, 5, 4, 3, 2, 1, 0] : List Nat), HI P w K mg base (mgD K M T r g cl) (Cx own) M f (k + 3) := by
  obtain ⟨fd, F⟩ := E.fds (dfD lw "_law_shuffled" 32) (List.mem_of_getElem? (show defs[24]? = some (dfD lw "_law_shuffled" 32) from rfl))
  have b : Binds K fd ["state", "some"] [] := FunD.bindsN F fun _ _ _ _ _ _ us hl => match us, hl with | [_, _], _ => rfl
  exact step_HIc (use := ([23, 22, 46, 45, 44, 43, 42, 41, 17, 16, 15, 13, 11, 7, 6, 5, 4, 3, 2, 1, 0] : List Nat)) (N := (N__law_shuffled ++ ([""] : List Str))) (code := c__law_shuffled) (j := N__law_shuffled.length) (q := 64) (E.mo r g cl) cmonoW h3 hA rfl F rfl ⟨rfl, rfl, rfl, by decide +kernel, rfl, by decide +kernel, by decide +kernel⟩ b (E.gl _ (List.mem_of_getElem? (i := 24) rfl)) (by decide +kernel) (by decide +kernel) rfl w_shuf rfl (by decide) (fun h => absurd h (by decide)) (fun q hq e => absurd e (by revert q; decide))
theorem st_26 (E : Env P w K mg base T r g cl) {k : Nat} (h3 : 3 ≤ k) (hA : ∀ f ∈ ([24, 23, 22, 46, 45, 44, 43, 42, 41, 17, 16, 15, 13, 11, 7, 6, 5, 4, 3, 2, 1, 0] : List Nat), HI P w K mg base (mgD K M T r g cl) (Cx own) M f k) : ∀ f ∈ 26 :: ([24, 23, 22, 46, 45, 44, 43, 42, 41, 17, 16, 15, 13, 11, 7, 6, 5, 4, 3, 2, 1, 0] : List Nat), HI P w K mg base (mgD K M T r g cl) (Cx own) M f (k + 3) := by
  obtain ⟨fd, F⟩ := E.fds (dfD lw "_law_is_truth" 34) (List.mem_of_getElem? (show defs[26]? = some (dfD lw "_law_is_truth" 34) from rfl))
  have b : Binds K fd ["found", "due"] [] := FunD.bindsN F fun _ _ _ _ _ _ us hl => match us, hl with | [_, _], _ => rfl
  exact step_HI (use := ([24, 23, 22, 46, 45, 44, 43, 42, 41, 17, 16, 15, 13, 11, 7, 6, 5, 4, 3, 2, 1, 0] : List Nat)) (N := N__law_is_truth) (code := c__law_is_truth) (E.mo r g cl) cmonoW h3 hA rfl F rfl ⟨rfl, rfl, rfl, by decide +kernel, rfl, by decide +kernel, by decide +kernel⟩ b (E.gl _ (List.mem_of_getElem? (i := 26) rfl)) (by decide +kernel) (by decide +kernel) w_truth rfl (by decide) (fun h => absurd h (by decide)) (fun q hq e => absurd e (by revert q; decide))
theorem st_27 (E : Env P w K mg base T r g cl) {k : Nat} (h3 : 3 ≤ k) (hA : ∀ f ∈ ([26, 24, 23, 22, 46, 45, 44, 43, 42, 41, 17, 16, 15, 13, 11, 7, 6, 5, 4, 3, 2, 1, 0] : List Nat), HI P w K mg base (mgD K M T r g cl) (Cx own) M f k) : ∀ f ∈ 27 :: ([26, 24, 23, 22, 46, 45, 44, 43, 42, 41, 17, 16, 15, 13, 11, 7, 6, 5, 4, 3, 2, 1, 0] : List Nat), HI P w K mg base (mgD K M T r g cl) (Cx own) M f (k + 3) := by
  obtain ⟨fd, F⟩ := E.fds (dfD lw "_law_same" 35) (List.mem_of_getElem? (show defs[27]? = some (dfD lw "_law_same" 35) from rfl))
  have b : Binds K fd ["found", "due"] [] := FunD.bindsN F fun _ _ _ _ _ _ us hl => match us, hl with | [_, _], _ => rfl
  exact step_HI (use := ([26, 24, 23, 22, 46, 45, 44, 43, 42, 41, 17, 16, 15, 13, 11, 7, 6, 5, 4, 3, 2, 1, 0] : List Nat)) (N := N__law_same) (code := c__law_same) (E.mo r g cl) cmonoW h3 hA rfl F rfl ⟨rfl, rfl, rfl, by decide +kernel, rfl, by decide +kernel, by decide +kernel⟩ b (E.gl _ (List.mem_of_getElem? (i := 27) rfl)) (by decide +kernel) (by decide +kernel) w_same rfl (by decide) (fun h => absurd h (by decide)) (fun q hq e => absurd e (by revert q; decide))
theorem st_28 (E : Env P w K mg base T r g cl) {k : Nat} (h3 : 3 ≤ k) (hA : ∀ f ∈ ([27, 26, 24, 23, 22, 46, 45, 44, 43, 42, 41, 17, 16, 15, 13, 11, 7, 6, 5, 4, 3, 2, 1, 0] : List Nat), HI P w K mg base (mgD K M T r g cl) (Cx own) M f k) : ∀ f ∈ 28 :: ([27, 26, 24, 23, 22, 46, 45, 44, 43, 42, 41, 17, 16, 15, 13, 11, 7, 6, 5, 4, 3, 2, 1, 0] : List Nat), HI P w K mg base (mgD K M T r g cl) (Cx own) M f (k + 3) := by
  obtain ⟨fd, F⟩ := E.fds (dfD lw "_law_pieces" 36) (List.mem_of_getElem? (show defs[28]? = some (dfD lw "_law_pieces" 36) from rfl))
  have b : Binds K fd ["n", "ties"] [] := FunD.bindsN F fun _ _ _ _ _ _ us hl => match us, hl with | [_, _], _ => rfl
  exact step_HI (use := ([27, 26, 24, 23, 22, 46, 45, 44, 43, 42, 41, 17, 16, 15, 13, 11, 7, 6, 5, 4, 3, 2, 1, 0] : List Nat)) (N := N__law_pieces) (code := c__law_pieces) (E.mo r g cl) cmonoW h3 hA rfl F rfl ⟨rfl, rfl, rfl, by decide +kernel, rfl, by decide +kernel, by decide +kernel⟩ b (E.gl _ (List.mem_of_getElem? (i := 28) rfl)) (by decide +kernel) (by decide +kernel) w_lawPieces rfl (by decide) (fun h => absurd h (by decide)) (fun q hq e => absurd e (by revert q; decide))
theorem st_29 (E : Env P w K mg base T r g cl) {k : Nat} (h3 : 3 ≤ k) (hA : ∀ f ∈ ([28, 27, 26, 24, 23, 22, 46, 45, 44, 43, 42, 41, 17, 16, 15, 13, 11, 7, 6, 5, 4, 3, 2, 1, 0] : List Nat), HI P w K mg base (mgD K M T r g cl) (Cx own) M f k) : ∀ f ∈ 29 :: ([28, 27, 26, 24, 23, 22, 46, 45, 44, 43, 42, 41, 17, 16, 15, 13, 11, 7, 6, 5, 4, 3, 2, 1, 0] : List Nat), HI P w K mg base (mgD K M T r g cl) (Cx own) M f (k + 3) := by
  obtain ⟨fd, F⟩ := E.fds (dfD lw "_law_rank" 37) (List.mem_of_getElem? (show defs[29]? = some (dfD lw "_law_rank" 37) from rfl))
  have b : Binds K fd ["web", "lot"] [] := FunD.bindsN F fun _ _ _ _ _ _ us hl => match us, hl with | [_, _], _ => rfl
  exact step_HI (use := ([28, 27, 26, 24, 23, 22, 46, 45, 44, 43, 42, 41, 17, 16, 15, 13, 11, 7, 6, 5, 4, 3, 2, 1, 0] : List Nat)) (N := N__law_rank) (code := c__law_rank) (E.mo r g cl) cmonoW h3 hA rfl F rfl ⟨rfl, rfl, rfl, by decide +kernel, rfl, by decide +kernel, by decide +kernel⟩ b (E.gl _ (List.mem_of_getElem? (i := 29) rfl)) (by decide +kernel) (by decide +kernel) w_lawRank rfl (by decide) (fun h => absurd h (by decide)) (fun q hq e => absurd e (by revert q; decide))
theorem st_30 (E : Env P w K mg base T r g cl) {k : Nat} (h3 : 3 ≤ k) (hA : ∀ f ∈ ([29, 28, 27, 26, 24, 23, 22, 46, 45, 44, 43, 42, 41, 17, 16, 15, 13, 11, 7, 6, 5, 4, 3, 2, 1, 0] : List Nat), HI P w K mg base (mgD K M T r g cl) (Cx own) M f k) : ∀ f ∈ 30 :: ([29, 28, 27, 26, 24, 23, 22, 46, 45, 44, 43, 42, 41, 17, 16, 15, 13, 11, 7, 6, 5, 4, 3, 2, 1, 0] : List Nat), HI P w K mg base (mgD K M T r g cl) (Cx own) M f (k + 3) := by
  obtain ⟨fd, F⟩ := E.fds (dfD lw "_law_lots" 38) (List.mem_of_getElem? (show defs[30]? = some (dfD lw "_law_lots" 38) from rfl))
  have b : Binds K fd ["many"] [] := FunD.bindsN F fun _ _ _ _ _ _ us hl => match us, hl with | [_], _ => rfl
  exact step_HI (use := (1000 :: ([29, 28, 27, 26, 24, 23, 22, 46, 45, 44, 43, 42, 41, 17, 16, 15, 13, 11, 7, 6, 5, 4, 3, 2, 1, 0] : List Nat))) (N := N__law_lots) (code := c__law_lots) (E.mo r g cl) cmonoW h3 hA rfl F rfl ⟨rfl, rfl, rfl, by decide +kernel, rfl, by decide +kernel, by decide +kernel⟩ b (E.gl _ (List.mem_of_getElem? (i := 30) rfl)) (by decide +kernel) (by decide +kernel) w_lawLots rfl (by decide) (fun _ => lam_of F (E.tf _ (by decide)) hA (by decide +kernel) hds_ok (hds := hds) (by decide +kernel) (by omega)) (fun q hq e => absurd e (by revert q; decide))
theorem st_32 (E : Env P w K mg base T r g cl) {k : Nat} (h3 : 3 ≤ k) (hA : ∀ f ∈ ([30, 29, 28, 27, 26, 24, 23, 22, 46, 45, 44, 43, 42, 41, 17, 16, 15, 13, 11, 7, 6, 5, 4, 3, 2, 1, 0] : List Nat), HI P w K mg base (mgD K M T r g cl) (Cx own) M f k) : ∀ f ∈ 32 :: ([30, 29, 28, 27, 26, 24, 23, 22, 46, 45, 44, 43, 42, 41, 17, 16, 15, 13, 11, 7, 6, 5, 4, 3, 2, 1, 0] : List Nat), HI P w K mg base (mgD K M T r g cl) (Cx own) M f (k + 3) := by
  obtain ⟨fd, F⟩ := E.fds (dfD lw "_law_made" 39) (List.mem_of_getElem? (show defs[31]? = some (dfD lw "_law_made" 39) from rfl))
  have b : Binds K fd ["n", "ties"] [] := FunD.bindsN F fun _ _ _ _ _ _ us hl => match us, hl with | [_, _], _ => rfl
  exact step_HI (use := ([30, 29, 28, 27, 26, 24, 23, 22, 46, 45, 44, 43, 42, 41, 17, 16, 15, 13, 11, 7, 6, 5, 4, 3, 2, 1, 0] : List Nat)) (N := N__law_made) (code := c__law_made) (E.mo r g cl) cmonoW h3 hA rfl F rfl ⟨rfl, rfl, rfl, by decide +kernel, rfl, by decide +kernel, by decide +kernel⟩ b (E.gl _ (List.mem_of_getElem? (i := 31) rfl)) (by decide +kernel) (by decide +kernel) w_made rfl (by decide) (fun h => absurd h (by decide)) (fun q hq e => absurd e (by revert q; decide))
theorem st_34 (E : Env P w K mg base T r g cl) {k : Nat} (h3 : 3 ≤ k) (hA : ∀ f ∈ ([32, 30, 29, 28, 27, 26, 24, 23, 22, 46, 45, 44, 43, 42, 41, 17, 16, 15, 13, 11, 7, 6, 5, 4, 3, 2, 1, 0] : List Nat), HI P w K mg base (mgD K M T r g cl) (Cx own) M f k) : ∀ f ∈ 34 :: ([32, 30, 29, 28, 27, 26, 24, 23, 22, 46, 45, 44, 43, 42, 41, 17, 16, 15, 13, 11, 7, 6, 5, 4, 3, 2, 1, 0] : List Nat), HI P w K mg base (mgD K M T r g cl) (Cx own) M f (k + 3) := by
  obtain ⟨fd, F⟩ := E.fds (dfD lw "_law_shuffled_web" 41) (List.mem_of_getElem? (show defs[33]? = some (dfD lw "_law_shuffled_web" 41) from rfl))
  have b : Binds K fd ["draws", "n", "ties"] [] := FunD.bindsN F fun _ _ _ _ _ _ us hl => match us, hl with | [_, _, _], _ => rfl
  exact step_HIc (use := ([32, 30, 29, 28, 27, 26, 24, 23, 22, 46, 45, 44, 43, 42, 41, 17, 16, 15, 13, 11, 7, 6, 5, 4, 3, 2, 1, 0] : List Nat)) (N := (N__law_shuffled_web ++ ([""] : List Str))) (code := c__law_shuffled_web) (j := N__law_shuffled_web.length) (q := 64) (E.mo r g cl) cmonoW h3 hA rfl F rfl ⟨rfl, rfl, rfl, by decide +kernel, rfl, by decide +kernel, by decide +kernel⟩ b (E.gl _ (List.mem_of_getElem? (i := 33) rfl)) (by decide +kernel) (by decide +kernel) rfl w_shufWeb rfl (by decide) (fun h => absurd h (by decide)) (fun q hq e => absurd e (by revert q; decide))
theorem st_33 (E : Env P w K mg base T r g cl) {k : Nat} (h3 : 3 ≤ k) (hA : ∀ f ∈ ([34, 32, 30, 29, 28, 27, 26, 24, 23, 22, 46, 45, 44, 43, 42, 41, 17, 16, 15, 13, 11, 7, 6, 5, 4, 3, 2, 1, 0] : List Nat), HI P w K mg base (mgD K M T r g cl) (Cx own) M f k) : ∀ f ∈ 33 :: ([34, 32, 30, 29, 28, 27, 26, 24, 23, 22, 46, 45, 44, 43, 42, 41, 17, 16, 15, 13, 11, 7, 6, 5, 4, 3, 2, 1, 0] : List Nat), HI P w K mg base (mgD K M T r g cl) (Cx own) M f (k + 3) := by
  obtain ⟨fd, F⟩ := E.fds (dfD lw "_law_web" 40) (List.mem_of_getElem? (show defs[32]? = some (dfD lw "_law_web" 40) from rfl))
  have b : Binds K fd ["draws", "places", "most"] [] := FunD.bindsN F fun _ _ _ _ _ _ us hl => match us, hl with | [_, _, _], _ => rfl
  exact step_HIc (use := ([34, 32, 30, 29, 28, 27, 26, 24, 23, 22, 46, 45, 44, 43, 42, 41, 17, 16, 15, 13, 11, 7, 6, 5, 4, 3, 2, 1, 0] : List Nat)) (N := (N__law_web ++ ([""] : List Str))) (code := c__law_web) (j := N__law_web.length) (q := 200) (E.mo r g cl) cmonoW h3 hA rfl F rfl ⟨rfl, rfl, rfl, by decide +kernel, rfl, by decide +kernel, by decide +kernel⟩ b (E.gl _ (List.mem_of_getElem? (i := 32) rfl)) (by decide +kernel) (by decide +kernel) rfl w_webDrawn rfl (by decide) (fun h => absurd h (by decide)) (fun q hq e => absurd e (by revert q; decide))
theorem st_36 (E : Env P w K mg base T r g cl) {k : Nat} (h3 : 3 ≤ k) (hA : ∀ f ∈ ([33, 34, 32, 30, 29, 28, 27, 26, 24, 23, 22, 46, 45, 44, 43, 42, 41, 17, 16, 15, 13, 11, 7, 6, 5, 4, 3, 2, 1, 0] : List Nat), HI P w K mg base (mgD K M T r g cl) (Cx own) M f k) : ∀ f ∈ 36 :: ([33, 34, 32, 30, 29, 28, 27, 26, 24, 23, 22, 46, 45, 44, 43, 42, 41, 17, 16, 15, 13, 11, 7, 6, 5, 4, 3, 2, 1, 0] : List Nat), HI P w K mg base (mgD K M T r g cl) (Cx own) M f (k + 3) := by
  obtain ⟨fd, F⟩ := E.fds (dfD lw "_law_lot" 42) (List.mem_of_getElem? (show defs[34]? = some (dfD lw "_law_lot" 42) from rfl))
  have b : Binds K fd ["draws", "web"] [] := FunD.bindsN F fun _ _ _ _ _ _ us hl => match us, hl with | [_, _], _ => rfl
  exact step_HIc (use := ([33, 34, 32, 30, 29, 28, 27, 26, 24, 23, 22, 46, 45, 44, 43, 42, 41, 17, 16, 15, 13, 11, 7, 6, 5, 4, 3, 2, 1, 0] : List Nat)) (N := (N__law_lot ++ ([""] : List Str))) (code := c__law_lot) (j := N__law_lot.length) (q := 12) (E.mo r g cl) cmonoW h3 hA rfl F rfl ⟨rfl, rfl, rfl, by decide +kernel, rfl, by decide +kernel, by decide +kernel⟩ b (E.gl _ (List.mem_of_getElem? (i := 34) rfl)) (by decide +kernel) (by decide +kernel) rfl w_lotDrawn rfl (by decide) (fun h => absurd h (by decide)) (fun q hq e => absurd e (by revert q; decide))
theorem st_37 (E : Env P w K mg base T r g cl) {k : Nat} (h3 : 3 ≤ k) (hA : ∀ f ∈ ([36, 33, 34, 32, 30, 29, 28, 27, 26, 24, 23, 22, 46, 45, 44, 43, 42, 41, 17, 16, 15, 13, 11, 7, 6, 5, 4, 3, 2, 1, 0] : List Nat), HI P w K mg base (mgD K M T r g cl) (Cx own) M f k) : ∀ f ∈ 37 :: ([36, 33, 34, 32, 30, 29, 28, 27, 26, 24, 23, 22, 46, 45, 44, 43, 42, 41, 17, 16, 15, 13, 11, 7, 6, 5, 4, 3, 2, 1, 0] : List Nat), HI P w K mg base (mgD K M T r g cl) (Cx own) M f (k + 3) := by
  obtain ⟨fd, F⟩ := E.fds (dfD lw "_law_odd" 43) (List.mem_of_getElem? (show defs[35]? = some (dfD lw "_law_odd" 43) from rfl))
  have b : Binds K fd ["draws"] [] := FunD.bindsN F fun _ _ _ _ _ _ us hl => match us, hl with | [_], _ => rfl
  exact step_HIc (use := ([36, 33, 34, 32, 30, 29, 28, 27, 26, 24, 23, 22, 46, 45, 44, 43, 42, 41, 17, 16, 15, 13, 11, 7, 6, 5, 4, 3, 2, 1, 0] : List Nat)) (N := (N__law_odd ++ ([""] : List Str))) (code := c__law_odd) (j := N__law_odd.length) (q := 1) (E.mo r g cl) cmonoW h3 hA rfl F rfl ⟨rfl, rfl, rfl, by decide +kernel, rfl, by decide +kernel, by decide +kernel⟩ b (E.gl _ (List.mem_of_getElem? (i := 35) rfl)) (by decide +kernel) (by decide +kernel) rfl w_odd rfl (by decide) (fun h => absurd h (by decide)) (fun q hq e => absurd e (by revert q; decide))
theorem st_2036 (E : Env P w K mg base T r g cl) {k : Nat} (h3 : 3 ≤ k) (hA : ∀ f ∈ ([37, 36, 33, 34, 32, 30, 29, 28, 27, 26, 24, 23, 22, 46, 45, 44, 43, 42, 41, 17, 16, 15, 13, 11, 7, 6, 5, 4, 3, 2, 1, 0] : List Nat), HI P w K mg base (mgD K M T r g cl) (Cx own) M f k) : ∀ f ∈ 2036 :: ([37, 36, 33, 34, 32, 30, 29, 28, 27, 26, 24, 23, 22, 46, 45, 44, 43, 42, 41, 17, 16, 15, 13, 11, 7, 6, 5, 4, 3, 2, 1, 0] : List Nat), HI P w K mg base (mgD K M T r g cl) (Cx own) M f (k + 3) := by
  obtain ⟨fd, F⟩ := E.fds (dfD lw "_law_least" 44) (List.mem_of_getElem? (show defs[36]? = some (dfD lw "_law_least" 44) from rfl))
  have b : Binds K fd ["lots"] [] := FunD.bindsN F fun _ _ _ _ _ _ us hl => match us, hl with | [_], _ => rfl
  exact step_HI (use := ([37, 36, 33, 34, 32, 30, 29, 28, 27, 26, 24, 23, 22, 46, 45, 44, 43, 42, 41, 17, 16, 15, 13, 11, 7, 6, 5, 4, 3, 2, 1, 0] : List Nat)) (N := N__law_least) (code := c__law_least) (E.mo r g cl) cmonoW h3 hA rfl F rfl ⟨rfl, rfl, rfl, by decide +kernel, rfl, by decide +kernel, by decide +kernel⟩ b (E.gl _ (List.mem_of_getElem? (i := 36) rfl)) (by decide +kernel) (by decide +kernel) w_lawLeast rfl (by decide) (fun h => absurd h (by decide)) (fun q hq e => absurd e (by revert q; decide))
def allL : List Nat := [2036, 37, 36, 33, 34, 32, 30, 29, 28, 27, 26, 24, 23, 22, 46, 45, 44, 43, 42, 41, 17, 16, 15, 13, 11, 7, 6, 5, 4, 3, 2, 1, 0]
theorem all_HI (E : Env P w K mg base T r g cl) : ∀ f ∈ allL, HI P w K mg base (mgD K M T r g cl) (Cx own) M f 102 := by
  have h0 : ∀ f ∈ ([] : List Nat), HI P w K mg base (mgD K M T r g cl) (Cx own) M f 3 := fun f hf => (by cases hf)
  have h_0 := st_0 E (k := 3) (by omega) h0
  have h_1 := st_1 E (k := 6) (by omega) h_0
  have h_2 := st_2 E (k := 9) (by omega) h_1
  have h_3 := st_3 E (k := 12) (by omega) h_2
  have h_4 := st_4 E (k := 15) (by omega) h_3
  have h_5 := st_5 E (k := 18) (by omega) h_4
  have h_6 := st_6 E (k := 21) (by omega) h_5
  have h_7 := st_7 E (k := 24) (by omega) h_6
  have h_11 := st_11 E (k := 27) (by omega) h_7
  have h_13 := st_13 E (k := 30) (by omega) h_11
  have h_15 := st_15 E (k := 33) (by omega) h_13
  have h_16 := st_16 E (k := 36) (by omega) h_15
  have h_17 := st_17 E (k := 39) (by omega) h_16
  have h_41 := st_41 E (k := 42) (by omega) h_17
  have h_42 := st_42 E (k := 45) (by omega) h_41
  have h_43 := st_43 E (k := 48) (by omega) h_42
  have h_44 := st_44 E (k := 51) (by omega) h_43
  have h_45 := st_45 E (k := 54) (by omega) h_44
  have h_46 := st_46 E (k := 57) (by omega) h_45
  have h_22 := st_22 E (k := 60) (by omega) h_46
  have h_23 := st_23 E (k := 63) (by omega) h_22
  have h_24 := st_24 E (k := 66) (by omega) h_23
  have h_26 := st_26 E (k := 69) (by omega) h_24
  have h_27 := st_27 E (k := 72) (by omega) h_26
  have h_28 := st_28 E (k := 75) (by omega) h_27
  have h_29 := st_29 E (k := 78) (by omega) h_28
  have h_30 := st_30 E (k := 81) (by omega) h_29
  have h_32 := st_32 E (k := 84) (by omega) h_30
  have h_34 := st_34 E (k := 87) (by omega) h_32
  have h_33 := st_33 E (k := 90) (by omega) h_34
  have h_36 := st_36 E (k := 93) (by omega) h_33
  have h_37 := st_37 E (k := 96) (by omega) h_36
  have h_2036 := st_2036 E (k := 99) (by omega) h_37
  exact h_2036
end
end DP.K01

set_option Elab.async false
set_option linter.all false
set_option maxRecDepth 100000
set_option maxHeartbeats 1000000
/-! K01s: the module (written by mkl.py). -/
namespace DP.K01
open PySem PySem.Spec PyProof.Rows L2 DP DP.L
section
variable {w : World} {K : PySem.W.Frag} {h base : Heap} {mg : Str → Option Value} {fa : Addr}
theorem fn_fact (c : He.SaysX facts defs [] tabs (exT clsI subW tabs) w h K) {f : He.Fa} (hf : f ∈ facts) : f.ok K = true := He.SaysD.facts c.t.d hf
theorem glo_mem {p : Nat × (Str × List Str)} (hp : p ∈ M.fnL) : He.Fa.glo p.2.1 ∈ facts := by
  unfold facts
  simp only [List.mem_append]
  left; left; left; left; left; right
  exact List.mem_map.mpr ⟨p, hp, rfl⟩
theorem free_mem {x : Str} (hx : x ∈ M.free) : He.Fa.free x ∈ facts := by
  unfold facts
  simp only [List.mem_append]
  left; left; left; left; left; left
  exact List.mem_map.mpr ⟨x, hx, rfl⟩
theorem cls_mem {x : Str} (hx : x ∈ clsN) : He.Fa.glo x ∈ facts ∧ He.Fa.exc x ∈ facts ∧ He.Fa.exm x "WebError" true ∈ facts := by
  unfold facts
  simp only [List.mem_append]
  refine ⟨?_, ?_, ?_⟩
  · left; left; left; right
    exact List.mem_map.mpr ⟨x, hx, rfl⟩
  · left; left; right
    exact List.mem_map.mpr ⟨x, hx, rfl⟩
  · right
    exact List.mem_map.mpr ⟨x, hx, rfl⟩
theorem cls_at (c : He.SaysX facts defs [] tabs (exT clsI subW tabs) w h K) : exB clsI subW K = true ∧ (tabs.map fun p => (He.cT K p).2).Nodup := by
  have h1 := c.more
  unfold exT at h1
  obtain ⟨h2, h3⟩ := Bool.and_eq_true_iff.mp h1
  exact ⟨h2, of_decide_eq_true h3⟩
theorem cls_fa (KX : K.In h) (G : h.Ns mainGlobals mg) (c : He.SaysX facts defs [] tabs (exT clsI subW tabs) w h K) {i : Nat} {x : Str} (hx : (i, x) ∈ clsI) : ClsFa K mg x := by
  have hn : x ∈ clsN := by
    obtain ⟨p, hp, e⟩ := List.mem_map.mp hx
    cases e
    exact List.mem_map.mpr ⟨p, hp, rfl⟩
  obtain ⟨m1, m2, _⟩ := cls_mem hn
  exact clsFa_of KX G (fn_fact c m1) (fn_fact c m2) (exB_cls (cls_at c).1 hx)
theorem cl_mem {i : Nat} {p : Str × Option Str} (e : M.cl i = some p) : (i, p.1) ∈ clsI := List.mem_map.mpr ⟨(i, p), mem_lk e, rfl⟩
theorem mo_of (KX : K.In h) (G : h.Ns mainGlobals mg) (c : He.SaysX facts defs [] tabs (exT clsI subW tabs) w h K) {T : List (Addr × Str)} (r g cl : Addr) : ModOk lw.prog w K mg base (mgD K M T r g cl) (Cx own) M := by
  have gl : ∀ p ∈ M.fnL, mg p.2.1 = some (.ref (He.ga K p.2.1)) := fun p hp => He.glo_ok KX G (fn_fact c (glo_mem hp))
  have fr : ∀ x ∈ M.free, mg x = none := fun x hx => He.free_ok KX G (fn_fact c (free_mem hx))
  refine modOk_D gl (fun p hp => ⟨cls_fa KX G c (List.mem_map.mpr ⟨p, hp, rfl⟩), ?_⟩) (fun i d x y e1 e2 => exB_sub (cls_at c).1 (cl_mem e1) (cl_mem e2)) (fun i x e => ?_) fr (fun _ => rfl) (fun f hf x ps e => ?_) (fun f hf x ps e => ?_)
  · revert p
    decide
  · have e := mem_lk (show M.ctL.lookup i = some x from e)
    simp only [M, List.mem_cons, List.not_mem_nil, or_false, Prod.mk.injEq] at e
    rcases e with ⟨rfl, rfl⟩ | ⟨rfl, rfl⟩
    · obtain ⟨t, e⟩ := He.int_ok KX G (x := "MOST_PLACES") (i := 8) (fn_fact c (by unfold facts; simp only [List.mem_append]; left; left; left; left; right; simp))
      exact ⟨8, t, e, rfl⟩
    · obtain ⟨t, e⟩ := He.int_ok KX G (x := "MOST_TIES") (i := 12) (fn_fact c (by unfold facts; simp only [List.mem_append]; left; left; left; left; right; simp))
      exact ⟨12, t, e, rfl⟩
  · obtain rfl := List.mem_singleton.mp (show f ∈ [14] from hf)
    have e : some (("by_size" : Str), (["lot"] : List Str)) = some (x, ps) := e
    cases e
    obtain ⟨fd, F⟩ := He.SaysD.defs c.t.d (List.mem_of_getElem? (show defs[10]? = some (dfD lw "by_size" 17) from rfl))
    have b : Binds K fd ["lot"] [] := FunD.bindsN F fun _ _ _ _ _ _ us hl => match us, hl with | [_], _ => rfl
    exact ⟨_, gl _ (List.mem_of_getElem? (i := 10) rfl), size_turn_def F ⟨rfl, rfl, rfl, by decide +kernel, rfl, by decide +kernel, by decide +kernel⟩ b (by rfl) (by decide) (by rfl) (fr _ (by decide))⟩
  · obtain rfl := List.mem_singleton.mp (show f ∈ [25] from hf)
    have e : some (("_law_caught" : Str), (["action"] : List Str)) = some (x, ps) := e
    cases e
    obtain ⟨fd, F⟩ := He.SaysD.defs c.t.d (List.mem_of_getElem? (show defs[25]? = some (dfD lw "_law_caught" 33) from rfl))
    have b : Binds K fd ["action"] [] := FunD.bindsN F fun _ _ _ _ _ _ us hl => match us, hl with | [_], _ => rfl
    refine catch_ok F ⟨rfl, rfl, rfl, by decide +kernel, rfl, by decide +kernel, by decide +kernel⟩ b (gl _ (List.mem_of_getElem? (i := 25) rfl)) (by rfl) (cls_fa KX G c (i := 0) (x := "WebError") (by decide)).g (by rfl) (by rfl) (by rfl) fun i Cc _ e => ?_
    have e : (M.cl i).map (fun p => He.ga K p.1) = some Cc := e
    cases q : M.cl i with
    | none => rw [q] at e; cases e
    | some p =>
      rw [q] at e
      cases e
      exact He.exm_ok (fn_fact c (cls_mem (List.mem_map.mpr ⟨(i, p), mem_lk q, rfl⟩)).2.2)
theorem env_of (KX : K.In h) (G : h.Ns mainGlobals mg) (c : He.SaysX facts defs [] tabs (exT clsI subW tabs) w h K) (hT : ∀ p ∈ tabs.map (He.cT K), LamX.TabB base mg p.1 p.2) (r g cl : Addr) : Env lw.prog w K mg base (tabT K tabs) r g cl :=
  ⟨fun d hd => He.SaysD.defs c.t.d hd, fun p hp => He.glo_ok KX G (fn_fact c (glo_mem hp)), fun x hx => He.free_ok KX G (fn_fact c (free_mem hx)), fun r g cl => mo_of KX G c r g cl, fun x hx => tabFa_of hT (cls_at c).2 (by
    obtain ⟨p, hp, e⟩ : ∃ p ∈ tabs, p = (x, none) := by
      simp only [List.mem_cons, List.not_mem_nil, or_false] at hx
      rcases hx with rfl | rfl
      · exact ⟨_, by decide, rfl⟩
      · exact ⟨_, by decide, rfl⟩
    rw [e] at hp; exact hp)⟩
end
end DP.K01

set_option Elab.async false
set_option linter.all false
set_option maxRecDepth 100000
set_option maxHeartbeats 1000000
/-! K01t: the law (written by mkl.py). -/
namespace DP.K01
open PySem PySem.Spec PyProof.Rows L2 DP DP.L
theorem law_at {w : World} {mg : Str → Option Value} {fa : Addr} {h : Heap} (Y : hk.says w h) (G : h.Ns mainGlobals mg) (hfa : mg ("law" : Str) = some (.ref fa)) : ∃ K : PySem.W.Frag, K.In h ∧ LamX.LawAtS lw w K (L2.CX lw.prog w) 105 63 "script" mg fa h := by
  obtain ⟨K, KX, c⟩ := Y
  refine ⟨K, KX, ?_⟩
  obtain ⟨fd, F⟩ := He.SaysD.defs c.t.d (List.mem_of_getElem? (show defs[37]? = some (dfD lw "law" 45) from rfl))
  obtain ⟨fdb, FB⟩ := He.SaysD.defs c.t.d (List.mem_of_getElem? (show defs[20]? = some (dfD lw "_law_begun" 28) from rfl))
  have e := hfa.symm.trans (He.glo_ok KX G (fn_fact c (glo_mem (p := (2037, ("law", ["script"]))) (List.mem_of_getElem? (i := 37) rfl))))
  cases e
  have b := FunD.bindsA (ps := ["script"]) F fun _ _ _ _ _ _ us hl => match us, hl with | [_], _ => rfl
  have bb : Binds K fdb ["script"] [] := FunD.bindsN FB fun _ _ _ _ _ _ us hl => match us, hl with | [_], _ => rfl
  refine ⟨fd, tabs.map (He.cT K), spLaw K (tabT K tabs), fun p hp => ?_, fun p hp => ?_, fun p hp => ?_, fun s v => b s [v] rfl, fun H a ns hl _ hT hS => ⟨a, ns, rfl, hS, by rw [sizeLine_eq]; omega, tabs_start hT, fun _ => rfl⟩, fun base hB hN hT => ?_⟩
  · obtain ⟨q, hq, rfl⟩ := List.mem_map.mp hp
    exact c.empty q hq
  · obtain ⟨q, hq, rfl⟩ := List.mem_map.mp hp
    exact c.out q hq
  · obtain ⟨q, hq, rfl⟩ := List.mem_map.mp hp
    exact PySem.W.codeHd_of_K KX (c.hd q hq)
  · have E := fun r g cl => env_of (base := base) KX G c hT r g cl
    exact law_fn (n := 15) (q := 4000) (N := N_law ++ ([""] : List Str)) (use := (1000 :: allL)) (L := allL) (ct := tailOf c_law) F rfl ⟨rfl, rfl, rfl, by decide +kernel, rfl, by decide +kernel, by decide +kernel⟩ rfl rfl rfl (by first | exact .inl rfl | exact .inr rfl) (by first | exact .inl rfl | exact .inr rfl | rfl) rfl
      (ok_begun (k := 103) FB ((E 0 0 0).free _ (by decide))) ((E 0 0 0).gl _ (List.mem_of_getElem? (i := 20) rfl)) FB.kp bb cmonoW (fun r g cl => mo_of KX G c r g cl) (fun r g cl f hf => (all_HI (E r g cl) f hf).mono (by omega)) (by decide +kernel) (by omega) (fun _ r g cl => lam_of F ((E r g cl).tf _ (by decide)) (all_HI (E r g cl)) (by decide +kernel) hds_ok (hds := hds) (by decide +kernel) (by omega)) (by decide +kernel) (by decide)
      (fun ns Q X q => WS.of (w_law ns Q X q))
end DP.K01
open PySem PySem.W PySem.Calls PyProof.Rows
theorem PySem.Challenge.cw_ringsandcuts_k01_whole_rings_and_cuts_holds : PySem.Challenge.rw_ringsandcuts_k01_whole_rings_and_cuts.Holds := by
  w_on; o_law
  refine HandSHeadRun.head_any (r := OpenLaw.row PySem.Challenge.rw_ringsandcuts_k01_whole_rings_and_cuts) (q := view (OpenLaw.row PySem.Challenge.rw_ringsandcuts_k01_whole_rings_and_cuts).prog [45]) (H := DP.K01.hk) (ob := DP.K01.ob) (M := 3000) (loose := DP.K01.loose) (d := HandSHeadRun.topDef (OpenLaw.row PySem.Challenge.rw_ringsandcuts_k01_whole_rings_and_cuts).prog 45) (kwd := []) DP.K01.ob_eq
    (by kernel_rfl) (fun s => by kernel_rfl) DP.K01.run (by kernel_rfl) (by kernel_rfl) (by kernel_rfl) (by rfl) (by first | assumption | decide +kernel) (by decide +kernel) ⟨rfl, rfl, rfl, rfl, rfl, by decide +kernel⟩ ?hw ?hc
  case hw => w_witness2
  case hc =>
    refine LamX.walk_ofTsE (l := PySem.Challenge.rw_ringsandcuts_k01_whole_rings_and_cuts) (n := 63) (k := 105) (x := "script") (CX := fun w => L2.CX PySem.Challenge.rw_ringsandcuts_k01_whole_rings_and_cuts.prog w) rfl (by decide) (by kernel_rfl) ⟨rfl, by decide, by decide⟩ ?F (fun w H s e s' z => DP.cx_no w H s e s' z)
    intro w mg fa h Y G hmg0
    have hmg : mg ("law" : PySem.Str) = some (.ref fa) := by
      have e : (HandSHeadRun.topDef (OpenLaw.row PySem.Challenge.rw_ringsandcuts_k01_whole_rings_and_cuts).prog 45).name = ("law" : PySem.Str) := by kernel_rfl
      rw [← e]
      exact hmg0
    exact DP.K01.law_at Y G hmg

