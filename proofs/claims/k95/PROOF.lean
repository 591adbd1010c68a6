import PyProof.Rows.All
import Wide.All
import OpenK.AllK
import Wide.FinOn
import HandS.ForMost
import HandS.IsInst
import HandS.Deep
import HandS.TupAny
import HandS.NoneIn
import HandS.Style
import HandS.Gcd
import HandS.Wide
import HandS.Rev
import HandS.RevRange
import HandS.Zip
import HandS.SortInts
import HandS.SortRule
import HandS.Text
import KE.GoesMore
import KE.GoesEnum
import PySem.Challenge.RW_fourfolds_k95_whole_fractions_side_by_si
set_option linter.all false
/-! FF0: plain data, trees of draws, a small language of expressions and statements, and what it yields. No program in sight. -/
namespace FF

/-- plain data -/
inductive D where
  | non | bl (b : Bool) | int (i : Int) | str (s : List Nat)
  | lst (xs : List D) | tup (xs : List D) | dic (ks vs : List D)
instance : Inhabited D := ⟨.non⟩

/-- a computation that draws numbers below n -/
inductive T (α : Type) where
  | ret (a : α) | err | drw (n : Nat) (k : Nat → T α)
namespace T
variable {α β : Type}
def bind : T α → (α → T β) → T β
  | .ret a, f => f a
  | .err, _ => .err
  | .drw n k, f => .drw n fun d => (k d).bind f
def ofO : Option α → T α
  | some a => .ret a
  | none => .err
/-- at every leaf P, whatever is drawn -/
def all (P : α → Prop) : T α → Prop
  | .ret a => P a
  | .err => False
  | .drw n k => 0 < n ∧ ∀ d, d < n → (k d).all P
theorem all_bind {P : β → Prop} {f : α → T β} : ∀ {t : T α}, (t.bind f).all P ↔ t.all fun a => (f a).all P
  | .ret _ => Iff.rfl
  | .err => Iff.rfl
  | .drw n k => by
    show (0 < n ∧ ∀ d, d < n → ((k d).bind f).all P) ↔ (0 < n ∧ ∀ d, d < n → (k d).all fun a => (f a).all P)
    exact ⟨fun h => ⟨h.1, fun d hd => all_bind.mp (h.2 d hd)⟩, fun h => ⟨h.1, fun d hd => all_bind.mpr (h.2 d hd)⟩⟩
theorem all_mono {P Q : α → Prop} (hPQ : ∀ a, P a → Q a) : ∀ {t : T α}, t.all P → t.all Q
  | .ret _, h => hPQ _ h
  | .err, h => h
  | .drw _ _, h => ⟨h.1, fun d hd => all_mono hPQ (h.2 d hd)⟩
theorem all_ofO {P : α → Prop} {o : Option α} : (ofO o).all P ↔ ∃ a, o = some a ∧ P a := by
  cases o with
  | none => exact ⟨fun h => h.elim, fun ⟨_, h, _⟩ => nomatch h⟩
  | some a => exact ⟨fun h => ⟨a, rfl, h⟩, fun ⟨_, e, h⟩ => by cases e; exact h⟩
end T

def line : Nat := 16777216
def wide : Nat := 134217728
def nb (i : Int) : Nat := i.natAbs.log2 + 1

inductive Bop where | add | sub | mul | fdiv | mod | pow | band | bxor
deriving DecidableEq
inductive Cop where | eq | ne | lt | le | gt | ge | isN | notN | inn | nin
deriving DecidableEq
inductive Bi where | len | abs | sum | max | min | max2 | min2 | sorted | tuple | list | int | all | any | gcd | set | index | join
deriving DecidableEq
inductive Sk where | seq | range | zip | enum | rev | revrange | items | values
deriving DecidableEq
inductive Ty where | tlist | ttuple | tstr | tbool | tint
deriving DecidableEq
inductive Tg where
  | nm (i : Nat) | tup (ts : List Tg)

inductive E where
  | c (d : D)
  | g (k : Nat) (d : D)
  | v (i : Nat)
  | bin (o : Bop) (a b : E)
  | neg (a : E)
  | cmp (o : Cop) (a b : E)
  | chain (o p : Cop) (a b c : E)
  | nt (a : E) | and2 (a b : E) | or2 (a b : E) | tr (a : E)
  | ite (c a b : E)
  | tup (es : List E) | lst (es : List E)
  | ix (a i : E) | sl (a : E) (lo hi : List E) | rev (a : E)
  | call (k : Nat) (es : List E)
  | bi (b : Bi) (es : List E)
  | isi (a : E) (ts : List Ty)
  | comp (t : Tg) (sk : Sk) (ses : List E) (cs : List E) (e : E)
  | comp2 (t : Tg) (sk : Sk) (ses : List E) (cs : List E) (t' : Tg) (sk' : Sk) (ses' : List E) (cs' : List E) (e : E)
  | draw (i j : Nat) (e : E)
  | dget (d k : E) (e : List E)
  | index (a e : E)
  | join (s a : E)
  | dict (ks vs : List E)

inductive S where
  | asg (t : Tg) (e : E)
  | box (i : Nat) (b : Bool) (e : E)
  | par (is : List (Nat × Bool)) (es : List E)
  | setix (i : Nat) (k e : E)
  | app (i : Nat) (e : E)
  | popto (t : Tg) (i : Nat) (k : List E)
  | apppop (o i : Nat) (k : List E)
  | ifs (c : E) (a b : List S)
  | whl (f : Nat) (c : E) (b : List S)
  | forr (t : Tg) (sk : Sk) (ses : List E) (b : List S)
  | ret (e : E) | retN | brk | cont | pass | drop (e : E)
  | frz (i : Nat)

/-- what a slot holds: nothing, a value, a list or dict of one's own, such a one while it is walked, the state, the script -/
inductive Slot where
  | no | pl (d : D) | bx (d : D) | lk (d : D) | st | scr
inductive Arg where
  | d (d : D) | st | scr
abbrev Env := List Slot
/-- a value, and whether it is a new list or dict -/
abbrev Rs := D × Bool
abbrev Sem := Nat → List Arg → T Rs

/-! ### values -/
mutual
def eqD : D → D → Option Bool
  | .non, .non => some true
  | .bl a, .bl b => some (a == b)
  | .int i, .int j => some (decide (i = j))
  | .bl a, .int j => some (decide ((if a then 1 else 0) = j))
  | .int i, .bl b => some (decide (i = (if b then 1 else 0)))
  | .str a, .str b => some (decide (a = b))
  | .lst xs, .lst ys => eqDs xs ys
  | .tup xs, .tup ys => eqDs xs ys
  | .dic _ _, _ => none
  | _, .dic _ _ => none
  | _, _ => some false
def eqDs : List D → List D → Option Bool
  | [], [] => some true
  | x :: xs, y :: ys => (eqD x y).bind fun a => (eqDs xs ys).map fun b => a && b
  | _, _ => some false
end
mutual
/-- no dict in it, and no deeper than n -/
def flat : Nat → D → Bool
  | n + 1, .lst xs => flats n xs
  | n + 1, .tup xs => flats n xs
  | _, .dic _ _ => false
  | 0, .lst _ => false
  | 0, .tup _ => false
  | _, .str s => s.all (· < 1114112)
  | _, _ => true
def flats : Nat → List D → Bool
  | _, [] => true
  | n, x :: xs => flat n x && flats n xs
end
def eqT (a b : D) : Option Bool := if flat 50 a && flat 50 b then eqD a b else none
def anyEq (y : D) : List D → Option Bool
  | [] => some false
  | x :: xs => (eqD x y).bind fun a => (anyEq y xs).map fun b => a || b
def inSeq (y : D) (xs : List D) : Option Bool := if flat 50 y && flats 50 xs then anyEq y xs else none
def idxEq (y : D) : List D → Option Nat
  | [] => none
  | x :: xs => (eqD x y).bind fun a => cond a (some 0) ((idxEq y xs).map (· + 1))
def findKey (k : D) : List D → List D → Option (Option D)
  | [], _ => some none
  | x :: ks, v :: vs => (eqD x k).bind fun a => if a then some (some v) else findKey k ks vs
  | _ :: _, [] => none

def isNon : D → Bool
  | .non => true
  | _ => false
def seqItems : D → Option (List D)
  | .lst xs => some xs
  | .tup xs => some xs
  | _ => none
def truth : D → Option Bool
  | .non => some false
  | .bl b => some b
  | .int i => some (i != 0)
  | .str s => some (!s.isEmpty)
  | .lst xs => some (!xs.isEmpty)
  | .tup xs => some (!xs.isEmpty)
  | .dic ks _ => some (!ks.isEmpty)

def binD : Bop → D → D → Option Rs
  | .add, .int i, .int j => some (.int (i + j), false)
  | .add, .str s, .str t => if s.length + t.length ≤ line then some (.str (s ++ t), false) else none
  | .add, .lst xs, .lst ys => if xs.length + ys.length ≤ line then some (.lst (xs ++ ys), true) else none
  | .add, .tup xs, .tup ys => if xs.length + ys.length ≤ line then some (.tup (xs ++ ys), false) else none
  | .sub, .int i, .int j => some (.int (i - j), false)
  | .mul, .int i, .int j => if nb i ≤ 64 ∨ nb j ≤ 64 ∨ nb i + nb j ≤ wide then some (.int (i * j), false) else none
  | .mul, .lst xs, .int j => if xs.length * j.toNat ≤ line ∧ j < 2 ^ 62 ∧ -(2 ^ 62) < j then some (.lst (List.replicate j.toNat xs).flatten, true) else none
  | .fdiv, .int i, .int j => if j ≠ 0 ∧ nb j ≤ 9000 then some (.int (i.fdiv j), false) else none
  | .mod, .int i, .int j => if j ≠ 0 then some (.int (i.fmod j), false) else none
  | .pow, .int i, .int j => if 0 ≤ j ∧ j ≤ 1000000 ∧ nb i ≤ 64 then some (.int (i ^ j.toNat), false) else none
  | _, _, _ => none
def cmpD : Cop → D → D → Option Bool
  | .eq, a, b => eqT a b
  | .ne, a, b => (eqT a b).map (!·)
  | .lt, .int i, .int j => some (decide (i < j))
  | .le, .int i, .int j => some (decide (i ≤ j))
  | .gt, .int i, .int j => some (decide (j < i))
  | .ge, .int i, .int j => some (decide (j ≤ i))
  | .isN, a, .non => some (isNon a)
  | .notN, a, .non => some (!isNon a)
  | .inn, a, .lst xs => inSeq a xs
  | .nin, a, .lst xs => (inSeq a xs).map (!·)
  | .inn, a, .tup xs => inSeq a xs
  | .nin, a, .tup xs => (inSeq a xs).map (!·)
  | _, _, _ => none
def ixAt {α : Type} (xs : List α) (i : Int) : Option α :=
  if 0 ≤ i then xs[i.toNat]? else if -(xs.length : Int) ≤ i then xs[(i + xs.length).toNat]? else none
def ixD : D → D → Option D
  | .lst xs, .int i => ixAt xs i
  | .tup xs, .int i => ixAt xs i
  | .str s, .int i => (ixAt s i).map fun c => .str [c]
  | .dic ks vs, k => (findKey k ks vs).bind id
  | _, _ => none
/-- a bound of a slice, brought within 0 .. n -/
def sIx (n d : Nat) : Option Int → Nat
  | none => d
  | some v => if v < 0 then (v + n).toNat else min v.toNat n
def cut {α : Type} (xs : List α) (lo hi : Option Int) : List α := (xs.drop (sIx xs.length 0 lo)).take (sIx xs.length xs.length hi - sIx xs.length 0 lo)
def slD : D → Option Int → Option Int → Option Rs
  | .lst xs, lo, hi => some (.lst (cut xs lo hi), true)
  | .tup xs, lo, hi => some (.tup (cut xs lo hi), false)
  | .str s, lo, hi => some (.str (cut s lo hi), false)
  | _, _, _ => none
def revD : D → Option Rs
  | .lst xs => some (.lst xs.reverse, true)
  | _ => none
def oneI : List D → Option (Option Int)
  | [] => some none
  | [.int i] => some (some i)
  | _ => none

def intsOf : List D → Option (List Int)
  | [] => some []
  | .int i :: r => (intsOf r).map (i :: ·)
  | _ => none
def blsOf : List D → Option (List Bool)
  | [] => some []
  | .bl b :: r => (blsOf r).map (b :: ·)
  | _ => none
def maxI : Int → List Int → Int
  | m, [] => m
  | m, x :: xs => maxI (if m < x then x else m) xs
def minI : Int → List Int → Int
  | m, [] => m
  | m, x :: xs => minI (if x < m then x else m) xs
def insI (x : Int) : List Int → List Int
  | [] => [x]
  | y :: ys => if x ≤ y then x :: y :: ys else y :: insI x ys
def sortI : List Int → List Int
  | [] => []
  | x :: xs => insI x (sortI xs)
/-- the order of rows of ints -/
def lexL : List Int → List Int → Bool
  | [], [] => false
  | [], _ :: _ => true
  | _ :: _, [] => false
  | x :: xs, y :: ys => if x = y then lexL xs ys else decide (x < y)
def insT (x : List Int) : List (List Int) → List (List Int)
  | [] => [x]
  | y :: ys => cond (lexL y x) (y :: insT x ys) (x :: y :: ys)
def sortT : List (List Int) → List (List Int)
  | [] => []
  | x :: xs => insT x (sortT xs)
/-- rows of ints, none empty -/
def tupsOf : List D → Option (List (List Int))
  | [] => some []
  | .tup ys :: r => (intsOf ys).bind fun t => (tupsOf r).bind fun p => match t with | [] => none | _ => some (t :: p)
  | _ => none
def sortD (xs : List D) : Option Rs := match intsOf xs with
  | some p => some (.lst ((sortI p).map .int), true)
  | none => (tupsOf xs).map fun p => (.lst ((sortT p).map fun t => .tup (t.map .int)), true)
def strsOf : List D → Option (List (List Nat))
  | [] => some []
  | .str s :: r => (strsOf r).map (s :: ·)
  | _ => none
def joinN (s : List Nat) : List (List Nat) → List Nat
  | [] => []
  | [p] => p
  | p :: q :: r => p ++ (s ++ joinN s (q :: r))
def biD : Bi → List D → Option Rs
  | .len, [.lst xs] => some (.int xs.length, false)
  | .len, [.tup xs] => some (.int xs.length, false)
  | .len, [.str s] => some (.int s.length, false)
  | .abs, [.int i] => some (.int (if i < 0 then -i else i), false)
  | .sum, [.lst xs] => (intsOf xs).map fun p => (.int p.sum, false)
  | .max, [.lst xs] => (intsOf xs).bind fun p => match p with | [] => none | x :: r => some (.int (maxI x r), false)
  | .min, [.lst xs] => (intsOf xs).bind fun p => match p with | [] => none | x :: r => some (.int (minI x r), false)
  | .max2, [.int i, .int j] => some (.int (if j > i then j else i), false)
  | .min2, [.int i, .int j] => some (.int (if j < i then j else i), false)
  | .tuple, [.lst xs] => some (.tup xs, false)
  | .tuple, [.tup xs] => some (.tup xs, false)
  | .list, [.lst xs] => some (.lst xs, true)
  | .list, [.tup xs] => some (.lst xs, true)
  | .int, [.int i] => some (.int i, false)
  | .int, [.bl b] => some (.int (if b then 1 else 0), false)
  | .all, [.lst xs] => (blsOf xs).map fun bs => (.bl (bs.all id), false)
  | .any, [.lst xs] => (blsOf xs).map fun bs => (.bl (bs.any id), false)
  | .gcd, [.int i, .int j] => some (.int (Nat.gcd i.natAbs j.natAbs : Nat), false)
  | .sorted, [.lst xs] => sortD xs
  | .join, [.str s, .lst xs] => (strsOf xs).bind fun p => if (p.map List.length).sum + p.length * s.length ≤ 16777216 then some (.str (joinN s p), false) else none
  | .index, [.lst xs, y] => if flat 50 y && flats 50 xs then (idxEq y xs).map fun k => (.int (k : Nat), false) else none
  | _, _ => none
def tyD : D → Ty → Bool
  | .lst _, .tlist => true
  | .tup _, .ttuple => true
  | .str _, .tstr => true
  | .bl _, .tbool => true
  | .bl _, .tint => true
  | .int _, .tint => true
  | _, _ => false

/-! ### what is walked -/
def rangeL : Nat → Int → List D
  | 0, _ => []
  | n + 1, lo => .int lo :: rangeL n (lo + 1)
def zipL : List D → List D → List D
  | x :: xs, y :: ys => .tup [x, y] :: zipL xs ys
  | _, _ => []
def enumL : Nat → List D → List D
  | _, [] => []
  | n, x :: xs => .tup [.int n, x] :: enumL (n + 1) xs
def rng2 (i j : Int) : Option (List D) :=
  if -(2 ^ 62) ≤ i ∧ i < 2 ^ 62 ∧ -(2 ^ 62) ≤ j ∧ j < 2 ^ 62 ∧ (j - i).toNat ≤ line then some (rangeL (j - i).toNat i) else none
def srcD : Sk → List D → Option (List D)
  | .seq, [.lst xs] => some xs
  | .seq, [.tup xs] => some xs
  | .seq, [.str s] => some (s.map fun c => .str [c])
  | .seq, [.dic ks _] => some ks
  | .range, [.int j] => rng2 0 j
  | .range, [.int i, .int j] => rng2 i j
  | .zip, [.lst xs, .lst ys] => some (zipL xs ys)
  | .zip, [.tup xs, .tup ys] => some (zipL xs ys)
  | .enum, [.lst xs] => some (enumL 0 xs)
  | .enum, [.tup xs] => some (enumL 0 xs)
  | .rev, [.lst xs] => some xs.reverse
  | .rev, [.tup xs] => some xs.reverse
  | .revrange, [.int j] => (rng2 0 j).map List.reverse
  | _, _ => none

/-! ### slots -/
def rd (m : Bool) (ρ : Env) (i : Nat) : Option D :=
  match ρ[i]? with
  | some (.pl d) => some d
  | some (.bx d) => if m then some d else none
  | some (.lk d) => if m then some d else none
  | _ => none
mutual
def asgT : Tg → D → Env → Option Env
  | .nm i, x, ρ => if i < ρ.length then some (ρ.set i (.pl x)) else none
  | .tup ts, .tup xs, ρ => asgTs ts xs ρ
  | .tup ts, .lst xs, ρ => asgTs ts xs ρ
  | _, _, _ => none
def asgTs : List Tg → List D → Env → Option Env
  | [], [], ρ => some ρ
  | t :: ts, x :: xs, ρ => (asgT t x ρ).bind (asgTs ts xs)
  | _, _, _ => none
end
mutual
/-- the slots that a target stores -/
def tgS : Tg → List Nat
  | .nm i => [i]
  | .tup ts => tgSs ts
def tgSs : List Tg → List Nat
  | [] => []
  | t :: ts => tgS t ++ tgSs ts
end
def wipeE (ρ : Env) : List Nat → Env
  | [] => ρ
  | v :: vs => (wipeE ρ vs).set v .no
def isV : E → Bool
  | .v _ => true
  | _ => false
def bindA : List Arg → Env
  | [] => []
  | .d x :: r => .pl x :: bindA r
  | .st :: r => .st :: bindA r
  | .scr :: r => .scr :: bindA r

def allTy (d : D) : List Ty → Bool
  | [] => false
  | t :: ts => tyD d t || allTy d ts
/-- a comprehension's turns, the items from the left -/
def compL (f : D → T (Option D)) : List D → T (List D)
  | [] => .ret []
  | x :: xs => (f x).bind fun o => (compL f xs).bind fun r => .ret (match o with | some y => y :: r | none => r)
def compC (f : Nat → D → T (List D)) : Nat → List D → T (List D)
  | _, [] => .ret []
  | n, x :: xs => (f n x).bind fun o => (compC f (n + o.length) xs).bind fun r => .ret (o ++ r)
def blT : T Rs → T Bool := fun t => t.bind fun x => match x.1 with | .bl b => .ret b | _ => .err
def drawT (ρ : Env) (i j : Nat) (x : D) : T Rs :=
  match ρ[i]?, ρ[j]?, x with
  | some .st, some .scr, .int s => if 0 < s ∧ s < 2 ^ 30 then .drw s.toNat fun d => .ret (.int d, false) else .err
  | _, _, _ => .err

mutual
/-- m: is a list or dict of one's own taken as it stands (to be looked at alone) -/
def ev (Γ : Sem) : E → Bool → Env → T Rs
  | .c d, _, _ => .ret (d, false)
  | .g _ d, _, _ => .ret (d, false)
  | .v i, m, ρ => T.ofO ((rd m ρ i).map fun d => (d, false))
  | .bin o a b, _, ρ => (ev Γ a true ρ).bind fun x => (ev Γ b true ρ).bind fun y => T.ofO (binD o x.1 y.1)
  | .neg a, _, ρ => (ev Γ a true ρ).bind fun x => match x.1 with | .int i => .ret (.int (-i), false) | _ => .err
  | .cmp o a b, _, ρ => (ev Γ a true ρ).bind fun x => (ev Γ b true ρ).bind fun y => T.ofO ((cmpD o x.1 y.1).map fun r => (.bl r, false))
  | .chain o p a b c, _, ρ => (ev Γ a true ρ).bind fun x => (ev Γ b true ρ).bind fun y => (T.ofO (cmpD o x.1 y.1)).bind fun r =>
      cond r ((ev Γ c true ρ).bind fun z => T.ofO ((cmpD p y.1 z.1).map fun r => (.bl r, false))) (.ret (.bl false, false))
  | .nt a, _, ρ => (blT (ev Γ a true ρ)).bind fun b => .ret (.bl (!b), false)
  | .and2 a b, m, ρ => (blT (ev Γ a true ρ)).bind fun x => cond x (ev Γ b m ρ) (.ret (.bl false, false))
  | .or2 a b, m, ρ => (blT (ev Γ a true ρ)).bind fun x => cond x (.ret (.bl true, false)) (ev Γ b m ρ)
  | .tr a, _, ρ => (ev Γ a true ρ).bind fun x => T.ofO ((truth x.1).map fun b => (.bl b, false))
  | .ite c a b, m, ρ => (blT (ev Γ c true ρ)).bind fun x => cond x (ev Γ a m ρ) (ev Γ b m ρ)
  | .tup es, _, ρ => (evs Γ es false ρ).bind fun xs => .ret (.tup xs, false)
  | .lst es, _, ρ => (evs Γ es false ρ).bind fun xs => .ret (.lst xs, true)
  | .ix a i, _, ρ => (ev Γ a true ρ).bind fun x => (ev Γ i true ρ).bind fun y => T.ofO ((ixD x.1 y.1).map fun d => (d, false))
  | .sl a lo hi, _, ρ => (ev Γ a true ρ).bind fun x => ((evs Γ lo true ρ).bind fun l => T.ofO (oneI l)).bind fun i => ((evs Γ hi true ρ).bind fun h => T.ofO (oneI h)).bind fun j =>
      T.ofO (slD x.1 i j)
  | .rev a, _, ρ => (ev Γ a true ρ).bind fun x => T.ofO (revD x.1)
  | .call k es, _, ρ => (evA Γ es ρ).bind fun xs => Γ k xs
  | .bi b es, _, ρ => (evs Γ es true ρ).bind fun xs => T.ofO (biD b xs)
  | .isi a ts, _, ρ => (ev Γ a true ρ).bind fun x => .ret (.bl (allTy x.1 ts), false)
  | .comp t sk ses cs e, _, ρ => (evS Γ ses ρ).bind fun xs => (T.ofO (srcD sk xs)).bind fun its =>
      (compL (fun x => (T.ofO (asgT t x (wipeE ρ (tgS t)))).bind fun ρ' => (evC Γ cs ρ').bind fun b => cond b ((ev Γ e false ρ').bind fun y => .ret (some y.1)) (.ret none)) its).bind fun r => .ret (.lst r, true)
  | .comp2 t sk ses cs t' sk' ses' cs' e, _, ρ => (evS Γ ses ρ).bind fun xs => (T.ofO (srcD sk xs)).bind fun its =>
      (compC (fun n x => (T.ofO (asgT t x (wipeE ρ (tgS t ++ tgS t')))).bind fun ρ' => (evC Γ cs ρ').bind fun b => cond b
        ((evS Γ ses' ρ').bind fun xs' => (T.ofO (srcD sk' xs')).bind fun its' => if n + its'.length ≤ line then
          compL (fun x => (T.ofO (asgT t' x (wipeE ρ' (tgS t')))).bind fun ρ'' => (evC Γ cs' ρ'').bind fun b => cond b ((ev Γ e false ρ'').bind fun y => .ret (some y.1)) (.ret none)) its' else .err) (.ret [])) 0 its).bind fun r =>
      .ret (.lst r, true)
  | .draw i j e, _, ρ => (ev Γ e true ρ).bind fun x => drawT ρ i j x.1
  | .dget _ _ _, _, _ => .err
  | .index _ _, _, _ => .err
  | .join _ _, _, _ => .err
  | .dict _ _, _, _ => .err
def evs (Γ : Sem) : List E → Bool → Env → T (List D)
  | [], _, _ => .ret []
  | e :: es, m, ρ => (ev Γ e m ρ).bind fun x => (evs Γ es m ρ).bind fun xs => .ret (x.1 :: xs)
/-- what is walked: an own list may stand as itself -/
def evS (Γ : Sem) : List E → Env → T (List D)
  | [], _ => .ret []
  | e :: es, ρ => (ev Γ e (isV e) ρ).bind fun x => (evS Γ es ρ).bind fun xs => .ret (x.1 :: xs)
/-- the tests of a clause -/
def evC (Γ : Sem) : List E → Env → T Bool
  | [], _ => .ret true
  | e :: es, ρ => (blT (ev Γ e true ρ)).bind fun b => cond b (evC Γ es ρ) (.ret false)
/-- arguments: the state and the script are handed on -/
def evA (Γ : Sem) : List E → Env → T (List Arg)
  | [], _ => .ret []
  | .v i :: es, ρ => match ρ[i]? with
    | some .st => (evA Γ es ρ).bind fun xs => .ret (.st :: xs)
    | some .scr => (evA Γ es ρ).bind fun xs => .ret (.scr :: xs)
    | _ => (ev Γ (.v i) false ρ).bind fun x => (evA Γ es ρ).bind fun xs => .ret (.d x.1 :: xs)
  | e :: es, ρ => (ev Γ e false ρ).bind fun x => (evA Γ es ρ).bind fun xs => .ret (.d x.1 :: xs)
end

/-! ### statements -/
inductive Fl where | nx | rt (r : Rs) | bk | ct
abbrev Xs := Fl × Env
def setS (ρ : Env) (i : Nat) (s : Slot) : T Xs := if i < ρ.length then .ret (.nx, ρ.set i s) else .err
def boxS (ρ : Env) (i : Nat) (b : Bool) (r : Rs) : Slot := cond (b && r.2) (.bx r.1) (.pl r.1)
def parS : List (Nat × Bool) → List Rs → Env → T Xs
  | [], [], ρ => .ret (.nx, ρ)
  | p :: ps, r :: rs, ρ => if p.1 < ρ.length then parS ps rs (ρ.set p.1 (boxS ρ p.1 p.2 r)) else .err
  | _, _, _ => .err
/-- the slots that a walk's sources name are held while it goes -/
def lockS : List E → Env → Env
  | [], ρ => ρ
  | .v i :: r, ρ => lockS r (match ρ[i]? with | some (.bx d) => ρ.set i (.lk d) | _ => ρ)
  | _ :: r, ρ => lockS r ρ
def unlockS (ρ₀ : Env) : List E → Env → Env
  | [], ρ => ρ
  | .v i :: r, ρ => unlockS ρ₀ r (match ρ₀[i]?, ρ[i]? with | some (.bx _), some (.lk d) => ρ.set i (.bx d) | _, _ => ρ)
  | _ :: r, ρ => unlockS ρ₀ r ρ
def forL (f : D → Env → T Xs) : List D → Env → T Xs
  | [], ρ => .ret (.nx, ρ)
  | x :: xs, ρ => (f x ρ).bind fun r => match r.1 with
    | .nx => forL f xs r.2
    | .ct => forL f xs r.2
    | .bk => .ret (.nx, r.2)
    | .rt y => .ret (.rt y, r.2)
def whlL (c : Env → T Bool) (b : Env → T Xs) : Nat → Env → T Xs
  | 0, _ => .err
  | n + 1, ρ => (c ρ).bind fun k => cond k ((b ρ).bind fun r => match r.1 with
    | .nx => whlL c b n r.2
    | .ct => whlL c b n r.2
    | .bk => .ret (.nx, r.2)
    | .rt y => .ret (.rt y, r.2)) (.ret (.nx, ρ))
def setD : D → D → D → Option D
  | .lst xs, .int i, x => if 0 ≤ i then (if i < xs.length then some (.lst (xs.set i.toNat x)) else none) else if -(xs.length : Int) ≤ i then some (.lst (xs.set (i + xs.length).toNat x)) else none
  | _, _, _ => none
def popD : D → List D → Option (D × D)
  | .lst xs, [] => match xs.reverse with | y :: r => some (y, .lst r.reverse) | [] => none
  | .lst xs, [.int i] => if 0 ≤ i ∧ i < xs.length then (xs[i.toNat]?).map fun y => (y, .lst (xs.eraseIdx i.toNat)) else none
  | _, _ => none
def ownAt (ρ : Env) (i : Nat) : Option D := match ρ[i]? with | some (.bx d) => some d | _ => none
def appD : D → D → Option D
  | .lst xs, x => if xs.length < line then some (.lst (xs ++ [x])) else none
  | _, _ => none

def evR (Γ : Sem) : List E → Env → T (List Rs)
  | [], _ => .ret []
  | e :: es, ρ => (ev Γ e false ρ).bind fun x => (evR Γ es ρ).bind fun xs => .ret (x :: xs)

/-- what a def hands back: its own list goes with it -/
def evRet (Γ : Sem) (e : E) (ρ : Env) : T Rs :=
  match e with
  | .v i => match ownAt ρ i with
    | some d => T.ret (d, true)
    | none => ev Γ (.v i) false ρ
  | e => ev Γ e false ρ
mutual
def exec (Γ : Sem) : S → Env → T Xs
  | .asg t e, ρ => (ev Γ e false ρ).bind fun x => (T.ofO (asgT t x.1 ρ)).bind fun ρ' => .ret (.nx, ρ')
  | .box i b e, ρ => (ev Γ e false ρ).bind fun x => setS ρ i (boxS ρ i b x)
  | .par is es, ρ => (evR Γ es ρ).bind fun xs => parS is xs ρ
  | .setix i k e, ρ => (ev Γ e false ρ).bind fun x => (ev Γ k true ρ).bind fun y => (T.ofO ((ownAt ρ i).bind fun d => setD d y.1 x.1)).bind fun d => setS ρ i (.bx d)
  | .app i e, ρ => (ev Γ e false ρ).bind fun x => (T.ofO ((ownAt ρ i).bind fun d => appD d x.1)).bind fun d => setS ρ i (.bx d)
  | .popto t i k, ρ => (evs Γ k true ρ).bind fun ks => (T.ofO ((ownAt ρ i).bind fun d => popD d ks)).bind fun p => (T.ofO (asgT t p.1 (ρ.set i (.bx p.2)))).bind fun ρ' => .ret (.nx, ρ')
  | .apppop o i k, ρ => (evs Γ k true ρ).bind fun ks => (T.ofO ((ownAt ρ i).bind fun d => popD d ks)).bind fun p =>
      (T.ofO ((ownAt ρ o).bind fun d => appD d p.1)).bind fun d => if o = i then .err else setS (ρ.set i (.bx p.2)) o (.bx d)
  | .ifs c a b, ρ => (blT (ev Γ c true ρ)).bind fun k => cond k (execs Γ a ρ) (execs Γ b ρ)
  | .whl f c b, ρ => whlL (fun ρ => blT (ev Γ c true ρ)) (fun ρ => execs Γ b ρ) f ρ
  | .forr t sk ses b, ρ => (evS Γ ses ρ).bind fun xs => (T.ofO (srcD sk xs)).bind fun its =>
      (forL (fun x ρ => (T.ofO (asgT t x ρ)).bind fun ρ' => execs Γ b ρ') its (lockS ses ρ)).bind fun r => .ret (r.1, unlockS ρ ses r.2)
  | .ret e, ρ => (evRet Γ e ρ).bind fun x => .ret (.rt x, ρ)
  | .retN, ρ => .ret (.rt (.non, false), ρ)
  | .brk, ρ => .ret (.bk, ρ)
  | .cont, ρ => .ret (.ct, ρ)
  | .pass, ρ => .ret (.nx, ρ)
  | .drop e, ρ => (ev Γ e true ρ).bind fun _ => .ret (.nx, ρ)
  | .frz i, ρ => match ρ[i]? with
    | some (.bx d) => .ret (.nx, ρ.set i (.pl d))
    | _ => .ret (.nx, ρ)
def execs (Γ : Sem) : List S → Env → T Xs
  | [], ρ => .ret (.nx, ρ)
  | s :: ss, ρ => (exec Γ s ρ).bind fun r => match r.1 with
    | .nx => execs Γ ss r.2
    | _ => .ret r
end
/-- a def: its body over its arguments and n more slots -/
def run (Γ : Sem) (b : List S) (n : Nat) (as : List Arg) : T Rs :=
  (execs Γ b (bindA as ++ List.replicate n .no)).bind fun r => match r.1 with
    | .rt x => .ret x
    | .nx => .ret (.non, false)
    | _ => .err
end FF

set_option Elab.async false
set_option linter.all false
set_option maxRecDepth 100000
set_option maxHeartbeats 4000000
/-! FF1: how plain data stand in the abstract heap. -/
namespace FF
open PySem PySem.Spec PyProof.Rows L2

abbrev Fg := PySem.W.Frag
/-- what never changes -/
def imm : HO → Bool
  | .tup _ => true
  | .frz _ _ => true
  | _ => false
/-- only at C has the heap changed, and new objects may be there -/
def Ch (C : Addr → Prop) (H H' : Hp) : Prop := ∀ p o, H p = some o → (C p → imm o = true) → H' p = some o
theorem Ch.refl {C : Addr → Prop} {H : Hp} : Ch C H H := fun _ _ h _ => h
theorem Ch.trans {C : Addr → Prop} {H H1 H2 : Hp} (a : Ch C H H1) (b : Ch C H1 H2) : Ch C H H2 := fun p o h i => b p o (a p o h i) i
theorem Ch.mono {C C' : Addr → Prop} {H H1 : Hp} (a : Ch C H H1) (h : ∀ p, C p → C' p) : Ch C' H H1 := fun p o e i => a p o e fun c => i (h p c)
theorem Ch.fresh {C : Addr → Prop} {H H1 : Hp} {p : Addr} (a : Ch C H H1) (hc : ¬ C p) (h : H1 p = none) : H p = none := by
  cases q : H p with
  | none => rfl
  | some o => rw [a p o q fun c => (hc c).elim] at h; cases h
theorem Ch.new {C : Addr → Prop} {H : Hp} {p : Addr} {o : HO} (h : H p = none) : Ch C H (upd H p o) := fun q u e _ => by
  rw [upd_ne (ne_of_none e h)]; exact e
theorem Ch.put {C : Addr → Prop} {H : Hp} {p : Addr} {o u : HO} (h : H p = some u) (hu : imm u = false) (c : C p) : Ch C H (upd H p o) := fun q w e i => by
  by_cases hq : q = p
  · subst hq; rw [h] at e; cases e; rw [i c] at hu; cases hu
  · rw [upd_ne hq]; exact e

mutual
def Rep (K : Fg) (B : Addr → Prop) (H : Hp) : D → V → Prop
  | .non, v => v = .non
  | .bl b, v => v = .bl b
  | .int i, v => v = .int i
  | .str s, v => v = .str ⟨s.toArray⟩ ∧ s.length ≤ sizeLine
  | .lst xs, v => ∃ p vs, v = .ref p ∧ ¬ B p ∧ H p = some (.lst vs) ∧ vs.length ≤ sizeLine ∧ Reps K B H xs vs
  | .tup xs, v => ∃ p vs, v = .ref p ∧ SqT K H p vs ∧ vs.length ≤ sizeLine ∧ Reps K B H xs vs
  | .dic _ _, _ => False
def Reps (K : Fg) (B : Addr → Prop) (H : Hp) : List D → List V → Prop
  | [], vs => vs = []
  | x :: xs, vs => ∃ v r, vs = v :: r ∧ Rep K B H x v ∧ Reps K B H xs r
end

section
variable {K : Fg} {B B' : Addr → Prop} {H H' : Hp}
theorem SqT.ch {C : Addr → Prop} {p : Addr} {vs : List V} (h : SqT K H p vs) (c : Ch C H H') : SqT K H' p vs := by
  rcases h with (h | ⟨o, h⟩) | h
  · exact .inl (.inl (c _ _ h fun _ => rfl))
  · exact .inl (.inr ⟨o, c _ _ h fun _ => rfl⟩)
  · exact .inr h
mutual
theorem Rep.ch {C : Addr → Prop} (c : Ch C H H') (hB : ∀ p, C p → B p) : ∀ (d : D) (v : V), Rep K B H d v → Rep K B H' d v
  | .non, _, h => h
  | .bl _, _, h => h
  | .int _, _, h => h
  | .str _, _, h => h
  | .lst xs, v, ⟨p, vs, e, nb, hp, hl, hr⟩ => ⟨p, vs, e, nb, c _ _ hp fun z => (nb (hB _ z)).elim, hl, Reps.ch c hB xs vs hr⟩
  | .tup xs, v, ⟨p, vs, e, hp, hl, hr⟩ => ⟨p, vs, e, SqT.ch hp c, hl, Reps.ch c hB xs vs hr⟩
  | .dic _ _, _, h => h
theorem Reps.ch {C : Addr → Prop} (c : Ch C H H') (hB : ∀ p, C p → B p) : ∀ (xs : List D) (vs : List V), Reps K B H xs vs → Reps K B H' xs vs
  | [], _, h => h
  | x :: xs, vs, ⟨v, r, e, h1, h2⟩ => ⟨v, r, e, Rep.ch c hB x v h1, Reps.ch c hB xs r h2⟩
end
mutual
theorem Rep.less (hB : ∀ p, (∃ o, H p = some o) → B' p → B p) : ∀ (d : D) (v : V), Rep K B H d v → Rep K B' H d v
  | .non, _, h => h
  | .bl _, _, h => h
  | .int _, _, h => h
  | .str _, _, h => h
  | .lst xs, v, ⟨p, vs, e, nb, hp, hl, hr⟩ => ⟨p, vs, e, fun z => nb (hB p ⟨_, hp⟩ z), hp, hl, Reps.less hB xs vs hr⟩
  | .tup xs, v, ⟨p, vs, e, hp, hl, hr⟩ => ⟨p, vs, e, hp, hl, Reps.less hB xs vs hr⟩
  | .dic _ _, _, h => h
theorem Reps.less (hB : ∀ p, (∃ o, H p = some o) → B' p → B p) : ∀ (xs : List D) (vs : List V), Reps K B H xs vs → Reps K B' H xs vs
  | [], _, h => h
  | x :: xs, vs, ⟨v, r, e, h1, h2⟩ => ⟨v, r, e, Rep.less hB x v h1, Reps.less hB xs r h2⟩
end
end
/-! ### data at a later heap -/
mutual
theorem Rep.later {K : Fg} {B B' C : Addr → Prop} {H H' : Hp} (c : Ch C H H') (hC : ∀ p, C p → B p ∨ H p = none) (hB : ∀ p, B' p → B p ∨ H p = none) : ∀ (d : D) (v : V), Rep K B H d v → Rep K B' H' d v
  | .non, _, h => h
  | .bl _, _, h => h
  | .int _, _, h => h
  | .str _, _, h => h
  | .lst xs, v, ⟨p, vs, e, nb, hp, hl, hr⟩ => by
    have nz : ∀ {Z : Addr → Prop}, (∀ p, Z p → B p ∨ H p = none) → ¬ Z p := fun hZ z => (hZ p z).elim nb fun q => by rw [hp] at q; cases q
    exact ⟨p, vs, e, nz hB, c _ _ hp fun z => (nz hC z).elim, hl, Reps.later c hC hB xs vs hr⟩
  | .tup xs, v, ⟨p, vs, e, hp, hl, hr⟩ => ⟨p, vs, e, SqT.ch hp c, hl, Reps.later c hC hB xs vs hr⟩
  | .dic _ _, _, h => h
theorem Reps.later {K : Fg} {B B' C : Addr → Prop} {H H' : Hp} (c : Ch C H H') (hC : ∀ p, C p → B p ∨ H p = none) (hB : ∀ p, B' p → B p ∨ H p = none) : ∀ (xs : List D) (vs : List V), Reps K B H xs vs → Reps K B' H' xs vs
  | [], _, h => h
  | x :: xs, vs, ⟨v, r, e, h1, h2⟩ => ⟨v, r, e, Rep.later c hC hB x v h1, Reps.later c hC hB xs r h2⟩
end

section
variable {K : Fg} {B B' : Addr → Prop} {H H' : Hp}
theorem Reps.length : ∀ {xs : List D} {vs : List V}, Reps K B H xs vs → vs.length = xs.length
  | [], _, h => by rw [show _ = _ from h]; rfl
  | x :: xs, _, ⟨v, r, e, _, h2⟩ => by rw [e, List.length_cons, List.length_cons, Reps.length h2]
theorem Reps.get : ∀ {xs : List D} {vs : List V} {i : Nat} {d : D}, Reps K B H xs vs → xs[i]? = some d → ∃ v, vs[i]? = some v ∧ Rep K B H d v
  | x :: xs, _, 0, d, ⟨v, r, e, h1, _⟩, q => by
    simp at q; subst q; exact ⟨v, by rw [e]; rfl, h1⟩
  | x :: xs, _, i + 1, d, ⟨v, r, e, _, h2⟩, q => by
    obtain ⟨u, h3, h4⟩ := Reps.get (i := i) h2 (by simpa using q)
    exact ⟨u, by rw [e]; simpa using h3, h4⟩
theorem Reps.append : ∀ {xs ys : List D} {vs ws : List V}, Reps K B H xs vs → Reps K B H ys ws → Reps K B H (xs ++ ys) (vs ++ ws)
  | [], _, _, _, h, g => by rw [show _ = _ from h]; exact g
  | x :: xs, _, _, _, ⟨v, r, e, h1, h2⟩, g => ⟨v, r ++ _, by rw [e]; rfl, h1, Reps.append h2 g⟩
theorem Reps.drop : ∀ {xs : List D} {vs : List V} (n : Nat), Reps K B H xs vs → Reps K B H (xs.drop n) (vs.drop n)
  | _, _, 0, h => h
  | [], _, n + 1, h => by rw [show _ = _ from h]; rfl
  | x :: xs, _, n + 1, ⟨v, r, e, h1, h2⟩ => by rw [e]; exact Reps.drop n h2
theorem Reps.take : ∀ {xs : List D} {vs : List V} (n : Nat), Reps K B H xs vs → Reps K B H (xs.take n) (vs.take n)
  | _, _, 0, h => rfl
  | [], _, n + 1, h => by rw [show _ = _ from h]; rfl
  | x :: xs, _, n + 1, ⟨v, r, e, h1, h2⟩ => ⟨v, r.take n, by rw [e]; rfl, h1, Reps.take n h2⟩
theorem Reps.set : ∀ {xs : List D} {vs : List V} (i : Nat) {d : D} {v : V}, Reps K B H xs vs → Rep K B H d v → Reps K B H (xs.set i d) (vs.set i v)
  | [], _, i, _, _, h, _ => by rw [show _ = _ from h]; rfl
  | x :: xs, _, 0, _, _, ⟨v, r, e, h1, h2⟩, g => ⟨_, r, by rw [e]; rfl, g, h2⟩
  | x :: xs, _, i + 1, _, _, ⟨v, r, e, h1, h2⟩, g => ⟨v, _, by rw [e]; rfl, h1, Reps.set i h2 g⟩
theorem Reps.eraseIdx : ∀ {xs : List D} {vs : List V} (i : Nat), Reps K B H xs vs → Reps K B H (xs.eraseIdx i) (vs.eraseIdx i)
  | [], _, i, h => by rw [show _ = _ from h]; rfl
  | x :: xs, _, 0, ⟨v, r, e, h1, h2⟩ => by rw [e]; exact h2
  | x :: xs, _, i + 1, ⟨v, r, e, h1, h2⟩ => ⟨v, _, by rw [e]; rfl, h1, Reps.eraseIdx i h2⟩
theorem Reps.one {x : D} {v : V} (h : Rep K B H x v) : Reps K B H [x] [v] := ⟨v, [], rfl, h, rfl⟩
theorem Reps.reverse : ∀ {xs : List D} {vs : List V}, Reps K B H xs vs → Reps K B H xs.reverse vs.reverse
  | [], _, h => by rw [show _ = _ from h]; rfl
  | x :: xs, _, ⟨v, r, e, h1, h2⟩ => by rw [e, List.reverse_cons, List.reverse_cons]; exact Reps.append (Reps.reverse h2) (.one h1)
theorem Reps.rep {xs : List D} {vs : List V} (h : Reps K B H xs vs) : ∀ k : Nat, Reps K B H (List.replicate k xs).flatten (List.replicate k vs).flatten
  | 0 => rfl
  | k + 1 => by rw [List.replicate_succ, List.replicate_succ, List.flatten_cons, List.flatten_cons]; exact Reps.append h (Reps.rep h k)
/-- what is looked at: data, or a list of one's own -/
def Look (K : Fg) (B : Addr → Prop) (st : Option Addr) (H : Hp) : D → V → Prop
  | .lst xs, v => ∃ p vs, v = .ref p ∧ st ≠ some p ∧ H p = some (.lst vs) ∧ vs.length ≤ sizeLine ∧ Reps K B H xs vs
  | d, v => Rep K B H d v
theorem Rep.look {st : Option Addr} {d : D} {v : V} (hB : ∀ p, st = some p → B p) (h : Rep K B H d v) : Look K B st H d v := by
  cases d with
  | lst xs => obtain ⟨p, vs, e, nb, hp, hl, hr⟩ := h; exact ⟨p, vs, e, fun z => nb (hB p z), hp, hl, hr⟩
  | _ => exact h
theorem Look.ch {st : Option Addr} {d : D} {v : V} (hB : ∀ p, st = some p → B p) (c : Ch (fun p => st = some p) H H') (h : Look K B st H d v) : Look K B st H' d v := by
  cases d with
  | lst xs => obtain ⟨p, vs, e, nb, hp, hl, hr⟩ := h; exact ⟨p, vs, e, nb, c _ _ hp fun z => (nb z).elim, hl, Reps.ch c hB _ _ hr⟩
  | _ => exact Rep.ch c hB _ _ h
/-- a new list -/
def New (K : Fg) (B : Addr → Prop) (H H' : Hp) (d : D) (v : V) : Prop := ∃ xs p vs, d = .lst xs ∧ v = .ref p ∧ H p = none ∧ ¬ B p ∧ H' p = some (.lst vs) ∧ vs.length ≤ sizeLine ∧ Reps K (fun q => B q ∨ q = p) H' xs vs
theorem New.rep {d : D} {v : V} (h : New K B H H' d v) : Rep K B H' d v := by
  obtain ⟨xs, p, vs, rfl, e, _, nb, hp, hl, hr⟩ := h
  exact ⟨p, vs, e, nb, hp, hl, Reps.less (fun _ _ z => Or.inl z) _ _ hr⟩
/-- how an expression's value stands; m: it may be a list of one's own -/
def Res (K : Fg) (B : Addr → Prop) (st : Option Addr) (m : Bool) (r : Rs) (H H' : Hp) (v : V) : Prop :=
  if r.2 = true then New K B H H' r.1 v else if m = true then Look K B st H' r.1 v else Rep K B H' r.1 v
theorem Res.rep {st : Option Addr} {r : Rs} {v : V} (h : Res K B st false r H H' v) : Rep K B H' r.1 v := by
  unfold Res at h
  split at h
  · exact h.rep
  · exact h
theorem Res.look {st : Option Addr} {m : Bool} {r : Rs} {v : V} (hB : ∀ p, st = some p → B p) (h : Res K B st m r H H' v) : Look K B st H' r.1 v := by
  unfold Res at h
  split at h
  · exact h.rep.look hB
  · split at h
    · exact h
    · exact h.look hB
theorem Res.of {st : Option Addr} {m : Bool} {d : D} {v : V} (hB : ∀ p, st = some p → B p) (h : Rep K B H' d v) : Res K B st m (d, false) H H' v := by
  unfold Res
  rw [if_neg Bool.false_ne_true]
  split
  · exact h.look hB
  · exact h
theorem Res.new {st : Option Addr} {m : Bool} {d : D} {v : V} (h : New K B H H' d v) : Res K B st m (d, true) H H' v := by
  unfold Res; rw [if_pos rfl]; exact h
end

/-- the state: a list of two ints -/
def StOk (st : Option Addr) (H : Hp) : Prop := ∀ p, st = some p → ∃ k v : Int, H p = some (.lst [.int k, .int v])
theorem StOk.ch {st : Option Addr} {H : Hp} (S : StOk st H) {p : Addr} {o : HO} (hp : H p = none) : StOk st (upd H p o) := fun q e => by
  obtain ⟨k, v, h⟩ := S q e
  exact ⟨k, v, by rw [upd_ne (ne_of_none h hp)]; exact h⟩
def Scr (K : Fg) (H : Hp) (v : V) : Prop := ∃ (a : Addr) (ns : List Int), v = .ref a ∧ ns.length ≤ 63 ∧ ((∃ o, H a = some (.frz o (.lst (ns.map V.int)))) ∨ ∀ H', SqL K H' a (ns.map V.int))
theorem Scr.ch {K : Fg} {C : Addr → Prop} {H H' : Hp} {v : V} (h : Scr K H v) (c : Ch C H H') : Scr K H' v := by
  obtain ⟨a, ns, e, l, h | h⟩ := h
  · obtain ⟨o, h⟩ := h
    exact ⟨a, ns, e, l, .inl ⟨o, c _ _ h fun _ => rfl⟩⟩
  · exact ⟨a, ns, e, l, .inr h⟩

/-- an own list, at its address -/
def BoxOk (K : Fg) (B : Addr → Prop) (H : Hp) (p : Addr) : D → Prop
  | .lst xs => ∃ vs, H p = some (.lst vs) ∧ vs.length ≤ sizeLine ∧ Reps K B H xs vs
  | _ => False
def badOf (B0 : Addr → Prop) (st : Option Addr) (fp : Nat → Option Addr) : Addr → Prop := fun p => B0 p ∨ st = some p ∨ ∃ i, fp i = some p

def SlotOk (K : Fg) (B : Addr → Prop) (st : Option Addr) (fp : Nat → Option Addr) (H : Hp) (i : Nat) (x : Option (Option V)) : Slot → Prop
  | .no => True
  | .pl d => ∃ v, x = some (some v) ∧ Rep K B H d v
  | .bx d => ∃ p, fp i = some p ∧ x = some (some (.ref p)) ∧ BoxOk K B H p d
  | .lk d => ∃ p, fp i = some p ∧ x = some (some (.ref p)) ∧ BoxOk K B H p d
  | .st => ∃ p, st = some p ∧ x = some (some (.ref p))
  | .scr => ∃ v, x = some (some v) ∧ Scr K H v
/-- the slots and the heap -/
structure Rel (K : Fg) (B0 : Addr → Prop) (st : Option Addr) (fp : Nat → Option Addr) (ρ : Env) (σ : L2.St) (H : Hp) : Prop where
  len : ρ.length = σ.length
  slot : ∀ i s, ρ[i]? = some s → SlotOk K (badOf B0 st fp) st fp H i σ[i]? s
  own : ∀ i p, fp i = some p → ∃ d, ρ[i]? = some (.bx d) ∨ ρ[i]? = some (.lk d)
  nb : ∀ i p, fp i = some p → ¬ B0 p ∧ st ≠ some p
  inj : ∀ i j p, fp i = some p → fp j = some p → i = j
  dom : ∀ p, B0 p → ∃ o, H p = some o
  st0 : ∀ p, st = some p → ¬ B0 p
  sok : StOk st H

section
variable {K : Fg} {B0 : Addr → Prop} {st : Option Addr} {fp : Nat → Option Addr} {ρ : Env} {σ : L2.St} {H H' : Hp}
abbrev Cs (st : Option Addr) : Addr → Prop := fun p => st = some p
theorem BoxOk.ch {B : Addr → Prop} {p : Addr} {d : D} (h : BoxOk K B H p d) (c : Ch (Cs st) H H') (hp : st ≠ some p) (hB : ∀ p, st = some p → B p) : BoxOk K B H' p d := by
  cases d with
  | lst xs => obtain ⟨vs, e, l, r⟩ := h; exact ⟨vs, c _ _ e fun z => (hp z).elim, l, Reps.ch c hB _ _ r⟩
  | _ => exact h.elim
theorem bad_st {p : Addr} (h : st = some p) : badOf B0 st fp p := .inr (.inl h)
theorem Rel.boxAt (R : Rel K B0 st fp ρ σ H) {i : Nat} {p : Addr} (h : fp i = some p) : ∃ xs vs, (ρ[i]? = some (.bx (.lst xs)) ∨ ρ[i]? = some (.lk (.lst xs))) ∧ H p = some (.lst vs) := by
  obtain ⟨d, e⟩ := R.own i p h
  have ok : BoxOk K (badOf B0 st fp) H p d := by
    rcases e with e | e
    · obtain ⟨q, h1, _, h3⟩ := R.slot i _ e
      rw [h] at h1; cases h1; exact h3
    · obtain ⟨q, h1, _, h3⟩ := R.slot i _ e
      rw [h] at h1; cases h1; exact h3
  cases d with
  | lst xs => obtain ⟨vs, e2, _⟩ := ok; exact ⟨xs, vs, e, e2⟩
  | _ => exact ok.elim
theorem Rel.dom' (R : Rel K B0 st fp ρ σ H) {p : Addr} (h : badOf B0 st fp p) : ∃ o, H p = some o := by
  rcases h with h | h | ⟨i, h⟩
  · exact R.dom p h
  · obtain ⟨k, v, e⟩ := R.sok p h; exact ⟨_, e⟩
  · obtain ⟨_, vs, _, e⟩ := R.boxAt h; exact ⟨_, e⟩
theorem Rel.nbad (R : Rel K B0 st fp ρ σ H) {p : Addr} (h : H p = none) : ¬ badOf B0 st fp p := fun z => by
  obtain ⟨o, e⟩ := R.dom' z; rw [h] at e; cases e
/-- behind an expression -/
theorem Rel.mono (R : Rel K B0 st fp ρ σ H) (c : Ch (Cs st) H H') (S : StOk st H') : Rel K B0 st fp ρ σ H' := by
  refine ⟨R.len, fun i s e => ?_, R.own, R.nb, R.inj, fun p hp => ?_, R.st0, S⟩
  · have h := R.slot i s e
    cases s with
    | no => exact h
    | pl d => obtain ⟨v, e1, r⟩ := h; exact ⟨v, e1, Rep.ch c (fun _ => bad_st) _ _ r⟩
    | bx d => obtain ⟨p, f, e1, r⟩ := h; exact ⟨p, f, e1, r.ch c (R.nb i p f).2 fun _ => bad_st⟩
    | lk d => obtain ⟨p, f, e1, r⟩ := h; exact ⟨p, f, e1, r.ch c (R.nb i p f).2 fun _ => bad_st⟩
    | st => exact h
    | scr => obtain ⟨v, e1, r⟩ := h; exact ⟨v, e1, r.ch c⟩
  · obtain ⟨o, e⟩ := R.dom p hp
    exact ⟨o, c p o e fun z => (R.st0 p z hp).elim⟩
end
end FF

set_option Elab.async false
set_option linter.all false
set_option maxRecDepth 100000
set_option maxHeartbeats 4000000
/-! FF2: operators, by data. -/
namespace FF
open PySem PySem.Spec PyProof.Rows L2

/-- the heap may have been changed at the state alone; the value stands as r says -/
def Fin (K : Fg) (B : Addr → Prop) (st : Option Addr) (m : Bool) (r : Rs) (H : Hp) (Q : VK) : Prop := ∀ v H', Ch (Cs st) H H' → StOk st H' → Res K B st m r H H' v → Q v H'
structure Gd (B : Addr → Prop) (st : Option Addr) (H : Hp) : Prop where
  stb : ∀ p, st = some p → B p
  dom : ∀ p, B p → ∃ o, H p = some o
  sok : StOk st H
section
variable {K : Fg} {B : Addr → Prop} {st : Option Addr} {H H' : Hp} {m : Bool} {r : Rs} {Q : VK} {v : V}
theorem Gd.nb (g : Gd B st H) {p : Addr} (h : H p = none) : ¬ B p := fun z => by obtain ⟨o, e⟩ := g.dom p z; rw [h] at e; cases e
/-- a value without an object -/
theorem Fin.same (f : Fin K B st m (d, false) H Q) (g : Gd B st H) (h : Rep K B H d v) : Q v H := f v H .refl g.sok (.of g.stb h)
theorem Fin.list {xs : List D} {vs : List V} {p : Addr} (f : Fin K B st m (.lst xs, true) H Q) (g : Gd B st H) (hp : H p = none) (hl : vs.length ≤ sizeLine) (h : Reps K B H xs vs) : Q (.ref p) (upd H p (.lst vs)) :=
  f _ _ (Ch.new hp) (g.sok.ch hp) (.new ⟨xs, p, vs, rfl, rfl, hp, g.nb hp, upd_same, hl, Reps.later (C := fun _ => False) (Ch.new hp) (fun _ z => z.elim) (fun q z => z.elim Or.inl fun z => Or.inr (by rw [z]; exact hp)) _ _ h⟩)
theorem Fin.tup {xs : List D} {vs : List V} {p : Addr} (f : Fin K B st m (.tup xs, false) H Q) (g : Gd B st H) (hp : H p = none) (hl : vs.length ≤ sizeLine) (h : Reps K B H xs vs) : Q (.ref p) (upd H p (.tup vs)) :=
  f _ _ (Ch.new hp) (g.sok.ch hp) (.of g.stb ⟨p, vs, rfl, .inl (.inl upd_same), hl, Reps.ch (C := fun _ => False) (Ch.new hp) (fun _ z => z.elim) _ _ h⟩)
end
theorem line_eq : sizeLine = line := by rw [sizeLine_eq]; rfl

/-! ### bounds of ints -/
theorem nat2_pos (n : Nat) : 0 < 2 ^ n := Nat.pow_pos (by decide)
theorem pow_max {m n : Nat} : 2 ^ m ≤ 2 ^ max m n ∧ 2 ^ n ≤ 2 ^ max m n := ⟨Nat.pow_le_pow_right (by decide) (Nat.le_max_left _ _), Nat.pow_le_pow_right (by decide) (Nat.le_max_right _ _)⟩
theorem bd_add {i j : Int} {m n : Nat} (h : i.natAbs < 2 ^ m) (g : j.natAbs < 2 ^ n) : (i + j).natAbs < 2 ^ (max m n + 1) := by
  have := @pow_max m n
  rw [Nat.pow_succ]
  omega
theorem bd_sub {i j : Int} {m n : Nat} (h : i.natAbs < 2 ^ m) (g : j.natAbs < 2 ^ n) : (i - j).natAbs < 2 ^ (max m n + 1) := by
  have := @pow_max m n
  rw [Nat.pow_succ]
  omega
theorem bd_mul {i j : Int} {m n : Nat} (h : i.natAbs < 2 ^ m) (g : j.natAbs < 2 ^ n) : (i * j).natAbs < 2 ^ (m + n) := wide_lt h g
theorem bits_le {i : Int} {n : Nat} (h : i.natAbs < 2 ^ n) : Builtin.Int.intBits i ≤ n := by
  unfold Builtin.Int.intBits
  split
  · exact Nat.zero_le _
  · rename_i q
    have q0 : i.natAbs ≠ 0 := fun z => q (by have : i = 0 := by omega
                                             simp [this])
    exact Nat.succ_le_of_lt ((Nat.log2_lt q0).mpr h)
theorem mul_ok {i j : Int} {m n : Nat} (h : i.natAbs < 2 ^ m) (g : j.natAbs < 2 ^ n) (c : m ≤ 64 ∨ n ≤ 64 ∨ m + n ≤ wide) : IntMulOk i j := by
  rcases c with c | c | c
  · exact .of_left (Nat.le_trans (bits_le h) c)
  · exact .of_right (Nat.le_trans (bits_le g) c)
  · exact .of_le (bits_le h) (bits_le g) c
theorem fmod_lt (i : Int) {j : Int} (hj : j ≠ 0) : (i.fmod j).natAbs < j.natAbs := by
  rw [Int.fmod_eq_emod]
  have h1 := Int.emod_nonneg i hj
  have h2 : i % j < (j.natAbs : Int) := by
    rcases Int.lt_or_gt_of_ne hj with q | q
    · have := Int.emod_lt_of_neg i q; omega
    · have := Int.emod_lt_of_pos i q; omega
  split
  · omega
  · rename_i q
    have q1 : ¬ 0 ≤ j := fun z => q (.inl z)
    have q2 : i % j ≠ 0 := fun z => q (.inr (Int.dvd_of_emod_eq_zero z))
    omega
theorem bd_fdiv {i j : Int} {m : Nat} (h : i.natAbs < 2 ^ m) (hj : j ≠ 0) : (i.fdiv j).natAbs < 2 ^ (m + 1) := by
  have e := Int.mul_fdiv_add_fmod i j
  have hm := fmod_lt i hj
  have a : (j * i.fdiv j).natAbs = j.natAbs * (i.fdiv j).natAbs := Int.natAbs_mul _ _
  have j1 : 1 ≤ j.natAbs := by omega
  -- |j| |q| ≤ |i| + |r| < 2^m + |j|
  have b : j.natAbs * (i.fdiv j).natAbs < 2 ^ m + j.natAbs := by rw [← a]; omega
  rw [Nat.pow_succ]
  by_cases q : (i.fdiv j).natAbs ≤ 1
  · have := nat2_pos m; omega
  · have c : j.natAbs * ((i.fdiv j).natAbs - 1) < 2 ^ m := by rw [Nat.mul_sub, Nat.mul_one]; omega
    have d : (i.fdiv j).natAbs - 1 ≤ j.natAbs * ((i.fdiv j).natAbs - 1) := Nat.le_mul_of_pos_left _ j1
    omega
theorem bd_fmod {i j : Int} {n : Nat} (g : j.natAbs < 2 ^ n) (hj : j ≠ 0) : (i.fmod j).natAbs < 2 ^ n := by
  exact Nat.lt_trans (fmod_lt i hj) g
theorem natAbs_pow (i : Int) : ∀ k : Nat, (i ^ k).natAbs = i.natAbs ^ k
  | 0 => by simp
  | k + 1 => by rw [Int.pow_succ, Int.natAbs_mul, natAbs_pow i k, Nat.pow_succ]
theorem bd_pow {i : Int} {m k : Nat} (h : i.natAbs < 2 ^ m) : (i ^ k).natAbs < 2 ^ (m * k + 1) := by
  rw [natAbs_pow, Nat.pow_succ, Nat.pow_mul]
  have a : i.natAbs ^ k ≤ (2 ^ m) ^ k := Nat.pow_le_pow_left (Nat.le_of_lt h) k
  have := nat2_pos m
  have b : 0 < (2 ^ m) ^ k := Nat.pow_pos this
  omega
theorem nb_ok (i : Int) : i.natAbs < 2 ^ nb i := by
  unfold nb
  exact Nat.lt_log2_self

/-! ### binary operators -/
/-- a two-place operation, by data -/
def r2D (K : Fg) (f : D → D → Option Rs) : R2 := fun v w H Q => ∃ (B : Addr → Prop) (st : Option Addr) (m : Bool) (x y : D) (r : Rs), Gd B st H ∧ Look K B st H x v ∧ Look K B st H y w ∧ f x y = some r ∧ Fin K B st m r H Q
section
variable {X : Cx}
theorem log2_of {j : Int} {n : Nat} (h : j.natAbs < 2 ^ n) (h9 : n ≤ 9000) : j.natAbs.log2 < 9000 := by
  by_cases q : j.natAbs = 0
  · rw [q]; decide +kernel
  · exact Nat.lt_of_lt_of_le ((Nat.log2_lt q).mpr h) h9
theorem bin_add : OpR X (binaryOp .Add) (r2D X.K (binD .add)) := by
  intro pins s σ H v w vv wv Q I rv rw' ⟨B, st, m, x, y, r, g, lx, ly, e, q⟩
  cases x with
  | int i =>
    cases y with
    | int j =>
      obtain rfl := lx
      have bi := nb_ok i
      obtain rfl := ly
      have bj := nb_ok j
      simp only [binD, Option.some.injEq] at e
      subst e
      exact op_add pins s σ H _ _ vv wv Q I rv rw' ⟨i, j, rfl, rfl, q.same g rfl⟩
    | _ => simp [binD] at e
  | str a =>
    cases y with
    | str b =>
      obtain ⟨rfl, la⟩ := lx
      obtain ⟨rfl, lb⟩ := ly
      simp only [binD] at e
      split at e
      · rename_i hz
        simp only [Option.some.injEq] at e
        subst e
        refine op_add_str pins s σ H _ _ vv wv Q I rv rw' ⟨_, _, rfl, rfl, by rw [line_eq]; simpa [Str.length] using hz, q.same g ⟨?_, by rw [line_eq, List.length_append]; exact hz⟩⟩
        show V.str (_ : Str) = V.str _
        congr 1
        show (Str.mk (a.toArray ++ b.toArray)) = _
        rw [List.append_toArray]
      · cases e
    | _ => simp [binD] at e
  | lst xs =>
    cases y with
    | lst ys =>
      obtain ⟨p, vs, rfl, _, hp, hl, hr⟩ := lx
      obtain ⟨p', vs', rfl, _, hp', hl', hr'⟩ := ly
      simp only [binD] at e
      split at e
      · rename_i hz
        simp only [Option.some.injEq] at e
        subst e
        have hz' : vs.length + vs'.length ≤ sizeLine := by rw [line_eq, hr.length, hr'.length]; exact hz
        exact op_cat pins s σ H _ _ vv wv Q I rv rw' ⟨p, p', vs, vs', rfl, rfl, hp, hp', hz', fun d hd => q.list g hd (by rw [List.length_append]; exact hz') (hr.append hr')⟩
      · cases e
    | _ => simp [binD] at e
  | tup xs =>
    cases y with
    | tup ys =>
      obtain ⟨p, vs, rfl, hp, hl, hr⟩ := lx
      obtain ⟨p', vs', rfl, hp', hl', hr'⟩ := ly
      simp only [binD] at e
      split at e
      · rename_i hz
        simp only [Option.some.injEq] at e
        subst e
        have hz' : vs.length + vs'.length ≤ sizeLine := by rw [line_eq, hr.length, hr'.length]; exact hz
        refine op_catA pins s σ H _ _ vv wv Q I rv rw' ⟨p, p', vs, vs', rfl, rfl, hp, hp', hz', fun e0 => ?_, fun _ e0 => ?_, fun _ _ d hd => q.tup g hd (by rw [List.length_append]; exact hz') (hr.append hr')⟩
        · subst e0
          have e1 : xs = [] := by have := hr.length; cases xs with | nil => rfl | cons _ _ => simp at this
          subst e1
          exact q.same g ⟨p', vs', rfl, hp', hl', hr'⟩
        · subst e0
          have e1 : ys = [] := by have := hr'.length; cases ys with | nil => rfl | cons _ _ => simp at this
          subst e1
          rw [List.append_nil] at q
          exact q.same g ⟨p, vs, rfl, hp, hl, hr⟩
      · cases e
    | _ => simp [binD] at e
  | _ => simp [binD] at e
theorem bin_sub : OpR X (binaryOp .Sub) (r2D X.K (binD .sub)) := by
  intro pins s σ H v w vv wv Q I rv rw' ⟨B, st, m, x, y, r, g, lx, ly, e, q⟩
  cases x with
  | int i =>
    cases y with
    | int j =>
      obtain rfl := lx
      have bi := nb_ok i
      obtain rfl := ly
      have bj := nb_ok j
      simp only [binD, Option.some.injEq] at e
      subst e
      exact op_sub pins s σ H _ _ vv wv Q I rv rw' ⟨i, j, rfl, rfl, q.same g rfl⟩
    | _ => simp [binD] at e
  | _ => simp [binD] at e
theorem bin_mul : OpR X (binaryOp .Mult) (r2D X.K (binD .mul)) := by
  intro pins s σ H v w vv wv Q I rv rw' ⟨B, st, m, x, y, r, g, lx, ly, e, q⟩
  cases x with
  | int i =>
    cases y with
    | int j =>
      obtain rfl := lx
      have bi := nb_ok i
      obtain rfl := ly
      have bj := nb_ok j
      simp only [binD] at e
      split at e
      · rename_i hz
        simp only [Option.some.injEq] at e
        subst e
        have op : OpR X (binaryOp .Mult) (rI IntMulOk fun i j => .int (i * j)) := opI fun _ _ _ _ _ _ _ hc q => mul_int q hc
        exact op pins s σ H _ _ vv wv Q I rv rw' ⟨i, j, rfl, rfl, mul_ok bi bj hz, q.same g rfl⟩
      · cases e
    | _ => simp [binD] at e
  | lst xs =>
    cases y with
    | int j =>
      obtain ⟨p, vs, rfl, _, hp, hl, hr⟩ := lx
      obtain rfl := ly
      have bj := nb_ok j
      simp only [binD] at e
      split at e
      · rename_i hz
        simp only [Option.some.injEq] at e
        subst e
        obtain ⟨hz, h1, h2⟩ := hz
        have hz' : vs.length * j.toNat ≤ sizeLine := by rw [line_eq, hr.length]; exact hz
        refine op_rep pins s σ H _ _ vv wv Q I rv rw' ⟨p, j, vs, rfl, rfl, hp, by omega, by omega, hz', fun d hd => q.list g hd ?_ (hr.rep _)⟩
        rw [List.length_flatten, List.map_replicate, List.sum_replicate_nat]
        rw [Nat.mul_comm]; exact hz'
      · cases e
    | _ => simp [binD] at e
  | _ => simp [binD] at e
theorem bin_fdiv : OpR X (binaryOp .FloorDiv) (r2D X.K (binD .fdiv)) := by
  intro pins s σ H v w vv wv Q I rv rw' ⟨B, st, m, x, y, r, g, lx, ly, e, q⟩
  cases x with
  | int i =>
    cases y with
    | int j =>
      obtain rfl := lx
      have bi := nb_ok i
      obtain rfl := ly
      have bj := nb_ok j
      simp only [binD] at e
      split at e
      · rename_i hz
        simp only [Option.some.injEq] at e
        subst e
        have op : OpR X (binaryOp .FloorDiv) (rI (fun _ j => j ≠ 0 ∧ j.natAbs.log2 < 9000) fun i j => .int (i.fdiv j)) := opI fun _ _ _ _ _ _ _ hc q => floordiv_int hc.1 q (.inl (PyProof.noPylong_of_log2 hc.2))
        exact op pins s σ H _ _ vv wv Q I rv rw' ⟨i, j, rfl, rfl, ⟨hz.1, log2_of bj hz.2⟩, q.same g rfl⟩
      · cases e
    | _ => simp [binD] at e
  | _ => simp [binD] at e
theorem bin_mod : OpR X (binaryOp .Mod) (r2D X.K (binD .mod)) := by
  intro pins s σ H v w vv wv Q I rv rw' ⟨B, st, m, x, y, r, g, lx, ly, e, q⟩
  cases x with
  | int i =>
    cases y with
    | int j =>
      obtain rfl := lx
      have bi := nb_ok i
      obtain rfl := ly
      have bj := nb_ok j
      simp only [binD] at e
      split at e
      · rename_i hz
        simp only [Option.some.injEq] at e
        subst e
        exact op_modN pins s σ H _ _ vv wv Q I rv rw' ⟨i, j, rfl, rfl, hz, q.same g rfl⟩
      · cases e
    | _ => simp [binD] at e
  | _ => simp [binD] at e
theorem bin_pow : OpR X (binaryOp .Pow) (r2D X.K (binD .pow)) := by
  intro pins s σ H v w vv wv Q I rv rw' ⟨B, st, m, x, y, r, g, lx, ly, e, q⟩
  cases x with
  | int i =>
    cases y with
    | int j =>
      obtain rfl := lx
      have bi := nb_ok i
      obtain rfl := ly
      have bj := nb_ok j
      simp only [binD] at e
      split at e
      · rename_i hz
        simp only [Option.some.injEq] at e
        subst e
        refine op_pow pins s σ H _ _ vv wv Q I rv rw' ⟨i, j, rfl, rfl, ⟨hz.1, hz.2.1, Nat.lt_of_lt_of_le bi (Nat.pow_le_pow_right (by decide) hz.2.2)⟩, q.same g rfl⟩
      · cases e
    | _ => simp [binD] at e
  | _ => simp [binD] at e
end
end FF

set_option Elab.async false
set_option linter.all false
set_option maxRecDepth 100000
set_option maxHeartbeats 4000000
/-! FF3: comparisons, places, built-ins, by data. -/
namespace FF
open PySem PySem.Spec PyProof.Rows L2

/-! ### == -/
mutual
def toPy : D → PyData
  | .non => .none
  | .bl b => .bool b
  | .int i => .int i
  | .str s => .str ⟨s.toArray⟩
  | .lst xs => .list (toPys xs)
  | .tup xs => .tuple (toPys xs)
  | .dic _ _ => .none
def toPys : List D → List PyData
  | [] => []
  | x :: xs => toPy x :: toPys xs
end
mutual
theorem dp_rep {K : Fg} {B : Addr → Prop} {H : Hp} : ∀ (n : Nat) (d : D) (v : V), flat n d = true → Rep K B H d v → Dp K H v (toPy d)
  | _, .non, _, _, h => by rw [show _ = _ from h]; exact .non
  | _, .bl b, _, _, h => by rw [show _ = _ from h]; exact .bl b
  | _, .int i, _, _, h => by rw [show _ = _ from h]; exact .int i
  | _, .str s, _, _, h => by rw [show _ = _ from h.1]; exact .str _
  | n + 1, .lst xs, _, f, ⟨p, vs, e, _, hp, _, hr⟩ => by rw [e]; exact .lst (SqL.of hp) (dp_reps n xs vs (by simpa [flat] using f) hr)
  | n + 1, .tup xs, _, f, ⟨p, vs, e, hp, _, hr⟩ => by rw [e]; exact .tup hp (dp_reps n xs vs (by simpa [flat] using f) hr)
  | 0, .lst _, _, f, _ => by simp [flat] at f
  | 0, .tup _, _, f, _ => by simp [flat] at f
  | _, .dic _ _, _, _, h => h.elim
theorem dp_reps {K : Fg} {B : Addr → Prop} {H : Hp} : ∀ (n : Nat) (xs : List D) (vs : List V), flats n xs = true → Reps K B H xs vs → DpAll K H vs (toPys xs)
  | _, [], _, _, h => by rw [show _ = _ from h]; exact .nil
  | n, x :: xs, _, f, ⟨v, r, e, h1, h2⟩ => by
    have f' : flat n x = true ∧ flats n xs = true := by simpa [flats] using f
    rw [e]; exact .cons (dp_rep n x v f'.1 h1) (dp_reps n xs r f'.2 h2)
end
theorem dp_look {K : Fg} {B : Addr → Prop} {st : Option Addr} {H : Hp} {n : Nat} {d : D} {v : V} (f : flat n d = true) (h : Look K B st H d v) : Dp K H v (toPy d) := by
  cases d with
  | lst xs =>
    obtain ⟨p, vs, e, _, hp, _, hr⟩ := h
    cases n with
    | zero => simp [flat] at f
    | succ n => rw [e]; exact .lst (SqL.of hp) (dp_reps n xs vs (by simpa [flat] using f) hr)
  | non => exact dp_rep (B := B) n _ v f h
  | bl _ => exact dp_rep (B := B) n _ v f h
  | int _ => exact dp_rep (B := B) n _ v f h
  | str _ => exact dp_rep (B := B) n _ v f h
  | tup _ => exact dp_rep (B := B) n _ v f h
  | dic _ _ => exact dp_rep (B := B) n _ v f h
mutual
theorem lay_of : ∀ (n : Nat) (d : D), flat n d = true → (toPy d).canLay0 = true ∧ (toPy d).depth ≤ n
  | _, .non, _ => by simp [toPy, PyData.canLay0, PyData.depth]
  | _, .bl _, _ => by simp [toPy, PyData.canLay0, PyData.depth]
  | _, .int _, _ => by simp [toPy, PyData.canLay0, PyData.depth]
  | n, .str s, f => by
    have f' : s.all (· < 1114112) = true := by cases n <;> simpa [flat] using f
    simp only [toPy, PyData.canLay0, PyData.depth, Nat.zero_le, and_true]
    unfold PyData.strOk
    simpa using f'
  | n + 1, .lst xs, f => by
    have := lays_of n xs (by simpa [flat] using f)
    simp only [toPy, PyData.canLay0, PyData.depth]
    exact ⟨this.1, by omega⟩
  | n + 1, .tup xs, f => by
    have := lays_of n xs (by simpa [flat] using f)
    simp only [toPy, PyData.canLay0, PyData.depth]
    exact ⟨this.1, by omega⟩
  | 0, .lst _, f => by simp [flat] at f
  | 0, .tup _, f => by simp [flat] at f
  | n, .dic _ _, f => by cases n <;> simp [flat] at f
theorem lays_of : ∀ (n : Nat) (xs : List D), flats n xs = true → PyData.canLayAll0 (toPys xs) = true ∧ PyData.depthAll (toPys xs) ≤ n
  | _, [], _ => by simp [toPys, PyData.canLayAll0, PyData.depthAll]
  | n, x :: xs, f => by
    have f' : flat n x = true ∧ flats n xs = true := by simpa [flats] using f
    have h1 := lay_of n x f'.1
    have h2 := lays_of n xs f'.2
    simp only [toPys, PyData.canLayAll0, PyData.depthAll, h1.1, h2.1, Bool.and_self, true_and]
    omega
end
theorem shaped_of {d : D} (f : flat 50 d = true) : SeqAt.shaped (toPy d) = true := by
  have h := lay_of 50 d f
  exact Bool.and_eq_true_iff.mpr ⟨h.1, decide_eq_true (by omega)⟩
theorem shapeds_of {xs : List D} (f : flats 50 xs = true) : SeqAt.shaped (.list (toPys xs)) = true := by
  have h := lays_of 50 xs f
  refine Bool.and_eq_true_iff.mpr ⟨by simp only [PyData.canLay0]; exact h.1, decide_eq_true ?_⟩
  simp only [PyData.depth]
  omega
mutual
theorem eqv_of : ∀ (a b : D) (r : Bool), eqD a b = some r → PyData.eqv (toPy a) (toPy b) = r
  | .non, b, r, h => by cases b <;> simp [eqD] at h <;> subst h <;> simp [toPy, PyData.eqv]
  | .bl x, b, r, h => by cases b <;> simp [eqD] at h <;> subst h <;> simp [toPy, PyData.eqv, Bool.beq_eq_decide_eq]
  | .int i, b, r, h => by cases b <;> simp [eqD] at h <;> subst h <;> simp [toPy, PyData.eqv, Bool.beq_eq_decide_eq]
  | .str s, b, r, h => by
    cases b with
    | str t =>
      simp only [eqD, Option.some.injEq] at h
      subst h
      simp only [toPy, PyData.eqv]
      rw [Bool.eq_iff_iff, beq_iff_eq, decide_eq_true_iff]
      exact ⟨fun e => by simpa using congrArg Array.toList (Str.mk.inj e), fun e => by rw [e]⟩
    | _ => simp [eqD] at h <;> subst h <;> simp [toPy, PyData.eqv]
  | .lst xs, b, r, h => by
    cases b with
    | lst ys => simp only [eqD] at h; simp only [toPy, PyData.eqv]; exact eqvs_of xs ys r h
    | _ => simp [eqD] at h <;> subst h <;> simp [toPy, PyData.eqv]
  | .tup xs, b, r, h => by
    cases b with
    | tup ys => simp only [eqD] at h; simp only [toPy, PyData.eqv]; exact eqvs_of xs ys r h
    | _ => simp [eqD] at h <;> subst h <;> simp [toPy, PyData.eqv]
  | .dic _ _, b, r, h => by cases b <;> simp [eqD] at h
theorem eqvs_of : ∀ (xs ys : List D) (r : Bool), eqDs xs ys = some r → PyData.eqvAll (toPys xs) (toPys ys) = r
  | [], [], r, h => by simp [eqDs] at h; subst h; simp [toPys, PyData.eqvAll]
  | [], _ :: _, r, h => by simp [eqDs] at h; subst h; simp [toPys, PyData.eqvAll]
  | _ :: _, [], r, h => by simp [eqDs] at h; subst h; simp [toPys, PyData.eqvAll]
  | x :: xs, y :: ys, r, h => by
    simp only [eqDs, Option.bind_eq_some_iff, Option.map_eq_some_iff] at h
    obtain ⟨a, h1, b, h2, rfl⟩ := h
    simp only [toPys, PyData.eqvAll]
    rw [eqv_of x y a h1, eqvs_of xs ys b h2]
end
theorem eqT_spec {a b : D} {r : Bool} (h : eqT a b = some r) : flat 50 a = true ∧ flat 50 b = true ∧ PyData.eqv (toPy a) (toPy b) = r := by
  unfold eqT at h
  split at h
  · rename_i hf
    rw [Bool.and_eq_true] at hf
    exact ⟨hf.1, hf.2, eqv_of a b r h⟩
  · cases h
theorem anyEq_spec {y : D} : ∀ {xs : List D} {r : Bool}, anyEq y xs = some r → ((toPys xs).any fun z => PyData.eqv z (toPy y)) = r
  | [], r, h => by simp [anyEq] at h; subst h; rfl
  | x :: xs, r, h => by
    simp only [anyEq, Option.bind_eq_some_iff, Option.map_eq_some_iff] at h
    obtain ⟨a, h1, b, h2, rfl⟩ := h
    simp only [toPys, List.any_cons]
    rw [eqv_of x y a h1, anyEq_spec h2]

/-! ### comparisons, by data -/
def rCmp (K : Fg) (o : Cop) : R2 := fun v w H Q => ∃ (B : Addr → Prop) (st : Option Addr) (x y : D) (r : Bool), Gd B st H ∧ Look K B st H x v ∧ Look K B st H y w ∧ cmpD o x y = some r ∧ Q (.bl r) H
def copOf : Cop → CmpOp
  | .eq => .Eq | .ne => .NotEq | .lt => .Lt | .le => .LtE | .gt => .Gt | .ge => .GtE | .isN => .Is | .notN => .IsNot | .inn => .In | .nin => .NotIn
section
variable {X : Cx}
theorem isN_rep {K : Fg} {B : Addr → Prop} {st : Option Addr} {H : Hp} {d : D} {v : V} (h : Look K B st H d v) : decide (v = .non) = isNon d := by
  cases d with
  | non => rw [show _ = _ from h]; rfl
  | bl b => rw [show _ = _ from h]; rfl
  | int i => rw [show _ = _ from h]; rfl
  | str s => rw [show _ = _ from h.1]; rfl
  | lst xs => obtain ⟨p, vs, e, _⟩ := h; rw [e]; rfl
  | tup xs => obtain ⟨p, vs, e, _⟩ := h; rw [e]; rfl
  | dic _ _ => exact (show False from h).elim
theorem dp_seq {K : Fg} {B : Addr → Prop} {st : Option Addr} {H : Hp} {xs : List D} {w : V} (f : flats 50 xs = true) (h : Look K B st H (.lst xs) w) : Dp K H w (.list (toPys xs)) := by
  obtain ⟨p, vs, e, _, hp, _, hr⟩ := h
  rw [e]; exact .lst (SqL.of hp) (dp_reps 50 xs vs f hr)
theorem dp_seqT {K : Fg} {B : Addr → Prop} {st : Option Addr} {H : Hp} {xs : List D} {w : V} (f : flats 50 xs = true) (h : Look K B st H (.tup xs) w) : Dp K H w (.tuple (toPys xs)) := by
  obtain ⟨p, vs, e, hp, _, hr⟩ := h
  rw [e]; exact .tup hp (dp_reps 50 xs vs f hr)
theorem shapedsT_of {xs : List D} (f : flats 50 xs = true) : SeqAt.shaped (.tuple (toPys xs)) = true := by
  have h := lays_of 50 xs f
  refine Bool.and_eq_true_iff.mpr ⟨by simp only [PyData.canLay0]; exact h.1, decide_eq_true ?_⟩
  simp only [PyData.depth]
  omega
theorem inSeq_spec {a : D} {xs : List D} {r : Bool} (e : inSeq a xs = some r) : flat 50 a = true ∧ flats 50 xs = true ∧ ((toPys xs).any fun z => PyData.eqv z (toPy a)) = r := by
  unfold inSeq at e
  split at e
  · rename_i hf
    rw [Bool.and_eq_true] at hf
    exact ⟨hf.1, hf.2, anyEq_spec e⟩
  · cases e
theorem cmp_ok (hu : X.A.units + 65 < cLine) (o : Cop) : OpR X (compareOp (copOf o)) (rCmp X.K o) := by
  intro pins s σ H v w vv wv Q I rv rw' ⟨B, st, x, y, r, g, lx, ly, e, q⟩
  cases o with
  | eq =>
    obtain ⟨f1, f2, ev⟩ := eqT_spec (show eqT x y = some r from e)
    exact op_eqD (by omega) pins s σ H _ _ vv wv Q I rv rw' ⟨_, _, dp_look f1 lx, dp_look f2 ly, shaped_of f1, shaped_of f2, by rw [ev]; exact q⟩
  | ne =>
    obtain ⟨r', e', rfl⟩ := Option.map_eq_some_iff.mp (show (eqT x y).map (!·) = some r from e)
    obtain ⟨f1, f2, ev⟩ := eqT_spec e'
    exact op_neD (by omega) pins s σ H _ _ vv wv Q I rv rw' ⟨_, _, dp_look f1 lx, dp_look f2 ly, shaped_of f1, shaped_of f2, by rw [ev]; exact q⟩
  | isN =>
    cases y with
    | non =>
      simp only [cmpD, Option.some.injEq] at e
      subst e
      refine op_isN pins s σ H _ _ vv wv Q I rv rw' ⟨ly, ?_⟩
      rw [isN_rep lx]; exact q
    | _ => simp [cmpD] at e
  | notN =>
    cases y with
    | non =>
      simp only [cmpD, Option.some.injEq] at e
      subst e
      refine op_notN pins s σ H _ _ vv wv Q I rv rw' ⟨ly, ?_⟩
      rw [isN_rep lx]; exact q
    | _ => simp [cmpD] at e
  | inn =>
    cases y with
    | lst xs =>
      obtain ⟨f1, f2, ev⟩ := inSeq_spec (show inSeq x xs = some r from e)
      exact op_inD hu pins s σ H _ _ vv wv Q I rv rw' ⟨_, _, dp_look f1 lx, dp_seq f2 ly, shaped_of f1, shapeds_of f2, by rw [ev]; exact q⟩
    | tup xs =>
      obtain ⟨f1, f2, ev⟩ := inSeq_spec (show inSeq x xs = some r from e)
      obtain ⟨as, r1⟩ := Dp.reads I _ _ vv (dp_look f1 lx) rv
      obtain ⟨bs, r2⟩ := Dp.reads I (.tuple (toPys xs)) _ wv (dp_seqT f2 ly) rw'
      exact SeqAt.in_tuple_reads r2 r1 (SeqAt.canLay_of_shaped (shapedsT_of f2)) (SeqAt.canLay_of_shaped (shaped_of f1)) (room_in_shaped (shaped_of f1) hu) ⟨.bl _, H, I, rfl, by rw [ev]; exact q⟩
    | _ => simp [cmpD] at e
  | nin =>
    cases y with
    | lst xs =>
      obtain ⟨r', e', rfl⟩ := Option.map_eq_some_iff.mp (show (inSeq x xs).map (!·) = some r from e)
      obtain ⟨f1, f2, ev⟩ := inSeq_spec e'
      exact op_notInD hu pins s σ H _ _ vv wv Q I rv rw' ⟨_, _, dp_look f1 lx, dp_seq f2 ly, shaped_of f1, shapeds_of f2, by rw [ev]; exact q⟩
    | tup xs =>
      obtain ⟨r', e', rfl⟩ := Option.map_eq_some_iff.mp (show (inSeq x xs).map (!·) = some r from e)
      obtain ⟨f1, f2, ev⟩ := inSeq_spec e'
      obtain ⟨as, r1⟩ := Dp.reads I _ _ vv (dp_look f1 lx) rv
      obtain ⟨bs, r2⟩ := Dp.reads I (.tuple (toPys xs)) _ wv (dp_seqT f2 ly) rw'
      exact SeqAt.notIn_tuple_reads r2 r1 (SeqAt.canLay_of_shaped (shapedsT_of f2)) (SeqAt.canLay_of_shaped (shaped_of f1)) (room_in_shaped (shaped_of f1) hu) ⟨.bl _, H, I, rfl, by rw [ev]; exact q⟩
    | _ => simp [cmpD] at e
  | _ =>
    cases x with
    | int i =>
      cases y with
      | int j =>
        obtain rfl := lx
        obtain rfl := ly
        simp only [cmpD, Option.some.injEq] at e
        subst e
        first
          | exact op_lt pins s σ H _ _ vv wv Q I rv rw' ⟨i, j, rfl, rfl, q⟩
          | exact op_le pins s σ H _ _ vv wv Q I rv rw' ⟨i, j, rfl, rfl, q⟩
          | exact op_gt pins s σ H _ _ vv wv Q I rv rw' ⟨i, j, rfl, rfl, q⟩
          | exact op_ge pins s σ H _ _ vv wv Q I rv rw' ⟨i, j, rfl, rfl, q⟩
      | _ => simp [cmpD] at e
    | _ => simp [cmpD] at e

/-! ### places -/
theorem ixAt_ixN {α : Type} {xs : List α} {i : Int} {d : α} (h : ixAt xs i = some d) : ∃ j, ixN xs.length i = some j ∧ xs[j]? = some d := by
  unfold ixAt at h
  unfold ixN
  split at h
  · rename_i h0
    rw [if_pos h0]
    have hl : i.toNat < xs.length := by
      rcases Nat.lt_or_ge i.toNat xs.length with q | q
      · exact q
      · rw [List.getElem?_eq_none q] at h; cases h
    rw [if_pos (by omega)]
    exact ⟨_, rfl, h⟩
  · rename_i h0
    rw [if_neg h0]
    split at h
    · rename_i h1
      rw [if_pos h1]
      exact ⟨_, rfl, h⟩
    · cases h
theorem atI_of {K : Fg} {B : Addr → Prop} {H : Hp} {xs : List D} {vs : List V} {i : Int} {d : D} (r : Reps K B H xs vs) (h : ixAt xs i = some d) : ∃ v, atI vs i = some v ∧ Rep K B H d v := by
  obtain ⟨j, h1, h2⟩ := ixAt_ixN h
  obtain ⟨v, h3, h4⟩ := r.get h2
  refine ⟨v, ?_, h4⟩
  unfold atI
  rw [r.length, h1]
  exact h3
def rIxAll (K : Fg) : R2 := fun v w H Q => ∃ (B : Addr → Prop) (st : Option Addr) (m : Bool) (x y d : D), Gd B st H ∧ Look K B st H x v ∧ Look K B st H y w ∧ ixD x y = some d ∧ Fin K B st m (d, false) H Q
theorem ix_ok : IxR X (rIxAll X.K) := by
  intro val slc pins s σ H v w vv wv Q I rv rw' ⟨B, st, m, x, y, d, g, lx, ly, e, q⟩ hs
  cases x with
  | lst xs =>
    cases y with
    | int i =>
      obtain ⟨p, vs, rfl, _, hp, hl, hr⟩ := lx
      obtain rfl := ly
      obtain ⟨z, h1, h2⟩ := atI_of hr (show ixAt xs i = some d from e)
      exact ix_list val slc pins s σ H _ _ vv wv Q I rv rw' ⟨p, vs, i, z, rfl, rfl, SqL.of hp, h1, q.same g h2⟩ hs
    | _ => simp [ixD] at e
  | tup xs =>
    cases y with
    | int i =>
      obtain ⟨p, vs, rfl, hp, hl, hr⟩ := lx
      obtain rfl := ly
      obtain ⟨z, h1, h2⟩ := atI_of hr (show ixAt xs i = some d from e)
      exact ix_tup val slc pins s σ H _ _ vv wv Q I rv rw' ⟨p, vs, i, z, rfl, rfl, hp, h1, q.same g h2⟩ hs
    | _ => simp [ixD] at e
  | str a =>
    cases y with
    | int i =>
      obtain ⟨rfl, la⟩ := lx
      obtain rfl := ly
      obtain ⟨c, h1, rfl⟩ := Option.map_eq_some_iff.mp (show (ixAt a i).map (fun c => D.str [c]) = some d from e)
      obtain ⟨j, h2, h3⟩ := ixAt_ixN h1
      refine ix_str val slc pins s σ H _ _ vv wv Q I rv rw' ⟨_, i, c, rfl, rfl, by simpa [Str.length] using la, ?_, q.same g ⟨rfl, show 1 ≤ sizeLine by rw [sizeLine_eq]; decide⟩⟩ hs
      unfold atI
      simp only [List.toList_toArray]
      rw [h2]; exact h3
    | _ => simp [ixD] at e
  | dic _ _ => exact (show False from lx).elim
  | _ => simp [ixD] at e
theorem sIx_eq (n d : Nat) (o : Option Int) : HT.sIx n d o = sIx n d o := by cases o <;> rfl
theorem cutV_reps {K : Fg} {B : Addr → Prop} {H : Hp} {xs : List D} {vs : List V} (r : Reps K B H xs vs) (lo hi : Option Int) : Reps K B H (cut xs lo hi) (cutV vs lo hi) := by
  unfold cut cutV
  rw [sIx_eq, sIx_eq, r.length]
  exact Reps.take _ (Reps.drop _ r)
theorem cut_whole {α : Type} {xs : List α} {lo hi : Option Int} (h : sIx xs.length 0 lo = 0 ∧ sIx xs.length xs.length hi = xs.length) : cut xs lo hi = xs := by
  unfold cut
  rw [h.1, h.2]; simp
def rSlAll (K : Fg) : V → Option Int → Option Int → Hp → VK → Prop := fun v lo hi H Q => ∃ (B : Addr → Prop) (st : Option Addr) (m : Bool) (x : D) (r : Rs), Gd B st H ∧ Look K B st H x v ∧ slD x lo hi = some r ∧ Fin K B st m r H Q
theorem sl_ok : SlR X (rSlAll X.K) := by
  intro pins s σ H v vv vl vu lo hi sl Q I rv hs pl pu ⟨B, st, m, x, r, g, lx, e, q⟩
  cases x with
  | lst xs =>
    obtain ⟨p, vs, rfl, _, hp, hl, hr⟩ := lx
    simp only [slD, Option.some.injEq] at e
    subst e
    exact sl_list pins s σ H _ vv vl vu lo hi sl Q I rv hs pl pu ⟨p, vs, rfl, SqL.of hp, fun d hd => q.list g hd (Nat.le_trans (cutV_length _ _ _) hl) (cutV_reps hr lo hi)⟩
  | tup xs =>
    obtain ⟨p, vs, rfl, hp, hl, hr⟩ := lx
    simp only [slD, Option.some.injEq] at e
    subst e
    refine sl_tupA pins s σ H _ vv vl vu lo hi sl Q I rv hs pl pu ⟨p, vs, rfl, hp, fun hw => ?_, fun _ d hd => q.tup g hd (Nat.le_trans (cutV_length _ _ _) hl) (cutV_reps hr lo hi)⟩
    rw [sIx_eq, sIx_eq, hr.length] at hw
    rw [cut_whole hw] at q
    exact q.same g ⟨p, vs, rfl, hp, hl, hr⟩
  | str a =>
    obtain ⟨rfl, la⟩ := lx
    simp only [slD, Option.some.injEq] at e
    subst e
    refine sl_str pins s σ H _ vv vl vu lo hi sl Q I rv hs pl pu ⟨_, rfl, by simpa [Str.length] using la, q.same g ⟨?_, ?_⟩⟩
    · unfold cutS cut
      simp only [sIx_eq, Str.length, List.size_toArray, List.toList_toArray]
    · unfold cut
      refine Nat.le_trans ?_ la
      rw [List.length_take, List.length_drop]; omega
  | dic _ _ => exact (show False from lx).elim
  | _ => simp [slD] at e

/-! ### truth -/
theorem truth_ok {K : Fg} {B : Addr → Prop} {st : Option Addr} {H : Hp} {d : D} {v : V} {b : Bool} (h : Look K B st H d v) (e : truth d = some b) : TruV K v H b := by
  cases d with
  | non => rw [show _ = _ from h]; simp only [truth, Option.some.injEq] at e; exact e.symm
  | bl _ => rw [show _ = _ from h]; simp only [truth, Option.some.injEq] at e; exact e.symm
  | int _ => rw [show _ = _ from h]; simp only [truth, Option.some.injEq] at e; exact e.symm
  | str s =>
    rw [show _ = _ from h.1]
    simp only [truth, Option.some.injEq] at e
    refine ⟨by simpa [Str.length] using h.2, ?_⟩
    subst e
    cases s with
    | nil => rfl
    | cons a t =>
      simp only [Str.length, List.size_toArray, List.length_cons, List.isEmpty_cons, Bool.not_false]
      symm
      rw [bne_iff_ne]
      omega
  | lst xs =>
    obtain ⟨p, vs, rfl, _, hp, _, hr⟩ := h
    simp only [truth, Option.some.injEq] at e
    refine .inl ⟨vs, SqL.of hp, ?_⟩
    subst e
    have := hr.length
    cases xs <;> cases vs <;> simp_all
  | tup xs =>
    obtain ⟨p, vs, rfl, hp, _, hr⟩ := h
    simp only [truth, Option.some.injEq] at e
    refine .inr (.inl ⟨vs, hp, ?_⟩)
    subst e
    have := hr.length
    cases xs <;> cases vs <;> simp_all
  | dic _ _ => exact (show False from h).elim
end
end FF

set_option Elab.async false
set_option linter.all false
set_option maxRecDepth 100000
set_option maxHeartbeats 4000000
/-! FF4: calls of built-ins, by data. -/
namespace FF
open PySem PySem.Spec PyProof.Rows L2

def Looks (K : Fg) (B : Addr → Prop) (st : Option Addr) (H : Hp) : List D → List V → Prop
  | [], vs => vs = []
  | x :: xs, vs => ∃ v r, vs = v :: r ∧ Look K B st H x v ∧ Looks K B st H xs r
def rBi (K : Fg) (b : Bi) : List V → Hp → VK → Prop := fun vs H Q => ∃ (B : Addr → Prop) (st : Option Addr) (m : Bool) (ds : List D) (r : Rs), Gd B st H ∧ Looks K B st H ds vs ∧ biD b ds = some r ∧ Fin K B st m r H Q

theorem ints_of {K : Fg} {B : Addr → Prop} {H : Hp} : ∀ {xs : List D} {vs : List V} {p : List Int}, Reps K B H xs vs → intsOf xs = some p → vs = p.map V.int
  | [], _, p, h, e => by
    simp only [intsOf, Option.some.injEq] at e
    subst e
    exact h
  | x :: xs, _, p, ⟨v, r, e1, h1, h2⟩, e => by
    cases x with
    | int i =>
      obtain ⟨q, e2, rfl⟩ := Option.map_eq_some_iff.mp (show (intsOf xs).map (i :: ·) = some p from e)
      rw [e1, ints_of h2 e2, show _ = _ from h1]; rfl
    | _ => simp [intsOf] at e
theorem bls_of {K : Fg} {B : Addr → Prop} {H : Hp} : ∀ {xs : List D} {vs : List V} {p : List Bool}, Reps K B H xs vs → blsOf xs = some p → vs = p.map V.bl
  | [], _, p, h, e => by
    simp only [blsOf, Option.some.injEq] at e
    subst e; exact h
  | x :: xs, _, p, ⟨v, r, e1, h1, h2⟩, e => by
    cases x with
    | bl b =>
      obtain ⟨q, e2, rfl⟩ := Option.map_eq_some_iff.mp (show (blsOf xs).map (b :: ·) = some p from e)
      rw [e1, bls_of h2 e2, show _ = _ from h1]; rfl
    | _ => simp [blsOf] at e
theorem maxI_spec : ∀ (l : List Int) (m : Int), maxI m l ∈ m :: l ∧ ∀ y ∈ m :: l, y ≤ maxI m l
  | [], m => ⟨by simp [maxI], fun y hy => by simp at hy; simp [maxI, hy]⟩
  | x :: l, m => by
    have h := maxI_spec l (if m < x then x else m)
    simp only [maxI]
    refine ⟨?_, fun y hy => ?_⟩
    · rcases List.mem_cons.mp h.1 with e | e
      · rw [e]; split <;> simp
      · exact List.mem_cons_of_mem _ (List.mem_cons_of_mem _ e)
    · have h0 := h.2 _ List.mem_cons_self
      rcases List.mem_cons.mp hy with rfl | hy
      · refine Int.le_trans ?_ h0; split <;> omega
      · rcases List.mem_cons.mp hy with rfl | hy
        · refine Int.le_trans ?_ h0; split <;> omega
        · exact h.2 y (List.mem_cons_of_mem _ hy)
theorem minI_spec : ∀ (l : List Int) (m : Int), minI m l ∈ m :: l ∧ ∀ y ∈ m :: l, minI m l ≤ y
  | [], m => ⟨by simp [minI], fun y hy => by simp at hy; simp [minI, hy]⟩
  | x :: l, m => by
    have h := minI_spec l (if x < m then x else m)
    simp only [minI]
    refine ⟨?_, fun y hy => ?_⟩
    · rcases List.mem_cons.mp h.1 with e | e
      · rw [e]; split <;> simp
      · exact List.mem_cons_of_mem _ (List.mem_cons_of_mem _ e)
    · have h0 := h.2 _ List.mem_cons_self
      rcases List.mem_cons.mp hy with rfl | hy
      · refine Int.le_trans h0 ?_; split <;> omega
      · rcases List.mem_cons.mp hy with rfl | hy
        · refine Int.le_trans h0 ?_; split <;> omega
        · exact h.2 y (List.mem_cons_of_mem _ hy)

theorem looks1 {K : Fg} {B : Addr → Prop} {st : Option Addr} {H : Hp} {d : D} {vs : List V} (h : Looks K B st H [d] vs) : ∃ v, vs = [v] ∧ Look K B st H d v := by
  obtain ⟨v, r, e, h1, h2⟩ := h
  rw [show _ = _ from h2] at e
  exact ⟨v, e, h1⟩
theorem looks2 {K : Fg} {B : Addr → Prop} {st : Option Addr} {H : Hp} {d e : D} {vs : List V} (h : Looks K B st H [d, e] vs) : ∃ v w, vs = [v, w] ∧ Look K B st H d v ∧ Look K B st H e w := by
  obtain ⟨v, r, e, h1, h2⟩ := h
  obtain ⟨w, rfl, h3⟩ := looks1 h2
  exact ⟨v, w, e, h1, h3⟩
section
variable {X : Cx}
theorem bi_len : CallR X (.builtin "len") (rBi X.K .len) := by
  intro pins s σ H vs us Q I rv ⟨B, st, m, ds, r, g, lk, e, q⟩
  rcases ds with _ | ⟨d, _ | ⟨d2, ds⟩⟩
  · simp [biD] at e
  · obtain ⟨v, rfl, l1⟩ := looks1 lk
    cases d with
    | lst xs =>
      obtain ⟨p, ws, rfl, _, hp, hl, hr⟩ := l1
      simp only [biD, Option.some.injEq] at e
      subst e
      refine call_len pins s σ H _ us Q I rv ⟨_, _, rfl, .inl ⟨ws, SqL.of hp, rfl⟩, ?_⟩
      rw [hr.length]
      exact q.same g rfl
    | tup xs =>
      obtain ⟨p, ws, rfl, hp, hl, hr⟩ := l1
      simp only [biD, Option.some.injEq] at e
      subst e
      refine call_len pins s σ H _ us Q I rv ⟨_, _, rfl, .inr ⟨ws, hp, rfl⟩, ?_⟩
      rw [hr.length]
      exact q.same g rfl
    | str a =>
      obtain ⟨rfl, la⟩ := l1
      simp only [biD, Option.some.injEq] at e
      subst e
      refine call_len pins s σ H _ us Q I rv ⟨_, _, rfl, ⟨by simpa [Str.length] using la, rfl⟩, ?_⟩
      simp only [Str.length, List.size_toArray]
      exact q.same g rfl
    | _ => simp [biD] at e
  · cases d <;> simp [biD] at e
theorem bi_abs : CallR X (.builtin "abs") (rBi X.K .abs) := by
  intro pins s σ H vs us Q I rv ⟨B, st, m, ds, r, g, lk, e, q⟩
  rcases ds with _ | ⟨d, _ | ⟨d2, ds⟩⟩
  · simp [biD] at e
  · obtain ⟨v, rfl, l1⟩ := looks1 lk
    cases d with
    | int i =>
      obtain rfl := l1
      simp only [biD, Option.some.injEq] at e
      subst e
      exact call_abs pins s σ H _ us Q I rv ⟨i, rfl, q.same g rfl⟩
    | _ => simp [biD] at e
  · cases d <;> simp [biD] at e
theorem bi_sum (hc : X.calm = true) : CallR X (.builtin "sum") (rBi X.K .sum) := by
  intro pins s σ H vs us Q I rv ⟨B, st, m, ds, r, g, lk, e, q⟩
  rcases ds with _ | ⟨d, _ | ⟨d2, ds⟩⟩
  · simp [biD] at e
  · obtain ⟨v, rfl, l1⟩ := looks1 lk
    cases d with
    | lst xs =>
      obtain ⟨p, ws, rfl, _, hp, hl, hr⟩ := l1
      obtain ⟨t, e1, rfl⟩ := Option.map_eq_some_iff.mp (show (intsOf xs).map _ = some r from e)
      have g1 := ints_of hr e1
      subst g1
      refine cr_sum hc pins s σ H _ us Q I rv ⟨p, t, rfl, SqL.of hp, q.same g rfl⟩
    | _ => simp [biD] at e
  · cases d <;> simp [biD] at e
theorem bi_max (hc : X.calm = true) : CallR X (.builtin "max") (rBi X.K .max) := by
  intro pins s σ H vs us Q I rv ⟨B, st, m, ds, r, g, lk, e, q⟩
  rcases ds with _ | ⟨d, _ | ⟨d2, ds⟩⟩
  · simp [biD] at e
  · obtain ⟨v, rfl, l1⟩ := looks1 lk
    cases d with
    | lst xs =>
      obtain ⟨p, ws, rfl, _, hp, hl, hr⟩ := l1
      obtain ⟨t, e1, e2⟩ := Option.bind_eq_some_iff.mp (show (intsOf xs).bind _ = some r from e)
      have g1 := ints_of hr e1
      subst g1
      cases t with
      | nil => simp at e2
      | cons x l =>
        simp only [Option.some.injEq] at e2
        subst e2
        refine cr_max hc pins s σ H _ us Q I rv ⟨p, x :: l, rfl, SqL.of hp, by simp, fun z hz hy => ?_⟩
        have sp := maxI_spec l x
        have ez : z = maxI x l := Int.le_antisymm (sp.2 z hz) (hy _ sp.1)
        subst ez
        exact q.same g rfl
    | _ => simp [biD] at e
  · cases d <;> simp [biD] at e
theorem bi_min (hc : X.calm = true) : CallR X (.builtin "min") (rBi X.K .min) := by
  intro pins s σ H vs us Q I rv ⟨B, st, m, ds, r, g, lk, e, q⟩
  rcases ds with _ | ⟨d, _ | ⟨d2, ds⟩⟩
  · simp [biD] at e
  · obtain ⟨v, rfl, l1⟩ := looks1 lk
    cases d with
    | lst xs =>
      obtain ⟨p, ws, rfl, _, hp, hl, hr⟩ := l1
      obtain ⟨t, e1, e2⟩ := Option.bind_eq_some_iff.mp (show (intsOf xs).bind _ = some r from e)
      have g1 := ints_of hr e1
      subst g1
      cases t with
      | nil => simp at e2
      | cons x l =>
        simp only [Option.some.injEq] at e2
        subst e2
        refine cr_min hc pins s σ H _ us Q I rv ⟨p, x :: l, rfl, SqL.of hp, by simp, fun z hz hy => ?_⟩
        have sp := minI_spec l x
        have ez : z = minI x l := Int.le_antisymm (hy _ sp.1) (sp.2 z hz)
        subst ez
        exact q.same g rfl
    | _ => simp [biD] at e
  · cases d <;> simp [biD] at e
theorem bi_max2 (hc : X.calm = true) : CallR X (.builtin "max") (rBi X.K .max2) := by
  intro pins s σ H vs us Q I rv ⟨B, st, m, ds, r, g, lk, e, q⟩
  rcases ds with _ | ⟨d, _ | ⟨d2, _ | ⟨d3, ds⟩⟩⟩
  · simp [biD] at e
  · cases d <;> simp [biD] at e
  · obtain ⟨v, w, rfl, lk1, lk2⟩ := looks2 lk
    cases d with
    | int i =>
      cases d2 with
      | int j =>
        obtain rfl := lk1
        obtain rfl := lk2
        simp only [biD, Option.some.injEq] at e
        subst e
        refine call_max2 hc pins s σ H _ us Q I rv ⟨i, j, rfl, q.same g rfl⟩
      | _ => simp [biD] at e
    | _ => simp [biD] at e
  · cases d <;> cases d2 <;> simp [biD] at e
theorem bi_min2 (hc : X.calm = true) : CallR X (.builtin "min") (rBi X.K .min2) := by
  intro pins s σ H vs us Q I rv ⟨B, st, m, ds, r, g, lk, e, q⟩
  rcases ds with _ | ⟨d, _ | ⟨d2, _ | ⟨d3, ds⟩⟩⟩
  · simp [biD] at e
  · cases d <;> simp [biD] at e
  · obtain ⟨v, w, rfl, lk1, lk2⟩ := looks2 lk
    cases d with
    | int i =>
      cases d2 with
      | int j =>
        obtain rfl := lk1
        obtain rfl := lk2
        simp only [biD, Option.some.injEq] at e
        subst e
        refine call_min2 hc pins s σ H _ us Q I rv ⟨i, j, rfl, q.same g rfl⟩
      | _ => simp [biD] at e
    | _ => simp [biD] at e
  · cases d <;> cases d2 <;> simp [biD] at e
theorem bi_tuple : CallR X (.type "tuple") (rBi X.K .tuple) := by
  intro pins s σ H vs us Q I rv ⟨B, st, m, ds, r, g, lk, e, q⟩
  rcases ds with _ | ⟨d, _ | ⟨d2, ds⟩⟩
  · simp [biD] at e
  · obtain ⟨v, rfl, l1⟩ := looks1 lk
    cases d with
    | lst xs =>
      obtain ⟨p, ws, rfl, _, hp, hl, hr⟩ := l1
      simp only [biD, Option.some.injEq] at e
      subst e
      exact call_tuple_of pins s σ H _ us Q I rv ⟨p, ws, rfl, .inl ⟨SqL.of hp, fun d hd => q.tup g hd hl hr⟩⟩
    | tup xs =>
      obtain ⟨p, ws, rfl, hp, hl, hr⟩ := l1
      simp only [biD, Option.some.injEq] at e
      subst e
      exact call_tuple_of pins s σ H _ us Q I rv ⟨p, ws, rfl, .inr ⟨hp, q.same g ⟨p, ws, rfl, hp, hl, hr⟩⟩⟩
    | _ => simp [biD] at e
  · cases d <;> simp [biD] at e
theorem bi_list : CallR X (.type "list") (rBi X.K .list) := by
  intro pins s σ H vs us Q I rv ⟨B, st, m, ds, r, g, lk, e, q⟩
  rcases ds with _ | ⟨d, _ | ⟨d2, ds⟩⟩
  · simp [biD] at e
  · obtain ⟨v, rfl, l1⟩ := looks1 lk
    cases d with
    | lst xs =>
      obtain ⟨p, ws, rfl, _, hp, hl, hr⟩ := l1
      simp only [biD, Option.some.injEq] at e
      subst e
      exact call_list_of pins s σ H _ us Q I rv ⟨p, ws, rfl, .inl (SqL.of hp), fun d hd => q.list g hd hl hr⟩
    | tup xs =>
      obtain ⟨p, ws, rfl, hp, hl, hr⟩ := l1
      simp only [biD, Option.some.injEq] at e
      subst e
      exact call_list_of pins s σ H _ us Q I rv ⟨p, ws, rfl, .inr hp, fun d hd => q.list g hd hl hr⟩
    | _ => simp [biD] at e
  · cases d <;> simp [biD] at e
theorem bi_int : CallR X (.type "int") (rBi X.K .int) := by
  intro pins s σ H vs us Q I rv ⟨B, st, m, ds, r, g, lk, e, q⟩
  rcases ds with _ | ⟨d, _ | ⟨d2, ds⟩⟩
  · simp [biD] at e
  · obtain ⟨v, rfl, l1⟩ := looks1 lk
    cases d with
    | int i =>
      obtain rfl := l1
      simp only [biD, Option.some.injEq] at e
      subst e
      exact call_int1 pins s σ H _ us Q I rv (.inl ⟨i, rfl, q.same g rfl⟩)
    | bl b =>
      obtain rfl : v = _ := l1
      simp only [biD, Option.some.injEq] at e
      subst e
      exact call_int1 pins s σ H _ us Q I rv (.inr ⟨b, rfl, q.same g rfl⟩)
    | _ => simp [biD] at e
  · cases d <;> simp [biD] at e
theorem bi_all (hc : X.calm = true) : CallR X (.builtin "all") (rBi X.K .all) := by
  intro pins s σ H vs us Q I rv ⟨B, st, m, ds, r, g, lk, e, q⟩
  rcases ds with _ | ⟨d, _ | ⟨d2, ds⟩⟩
  · simp [biD] at e
  · obtain ⟨v, rfl, l1⟩ := looks1 lk
    cases d with
    | lst xs =>
      obtain ⟨p, ws, rfl, _, hp, hl, hr⟩ := l1
      obtain ⟨t, e1, rfl⟩ := Option.map_eq_some_iff.mp (show (blsOf xs).map _ = some r from e)
      have g1 := bls_of hr e1
      subst g1
      exact cr_all hc pins s σ H _ us Q I rv ⟨p, t, rfl, SqL.of hp, q.same g rfl⟩
    | _ => simp [biD] at e
  · cases d <;> simp [biD] at e
theorem bi_any (hc : X.calm = true) : CallR X (.builtin "any") (rBi X.K .any) := by
  intro pins s σ H vs us Q I rv ⟨B, st, m, ds, r, g, lk, e, q⟩
  rcases ds with _ | ⟨d, _ | ⟨d2, ds⟩⟩
  · simp [biD] at e
  · obtain ⟨v, rfl, l1⟩ := looks1 lk
    cases d with
    | lst xs =>
      obtain ⟨p, ws, rfl, _, hp, hl, hr⟩ := l1
      obtain ⟨t, e1, rfl⟩ := Option.map_eq_some_iff.mp (show (blsOf xs).map _ = some r from e)
      have g1 := bls_of hr e1
      subst g1
      exact cr_any hc pins s σ H _ us Q I rv ⟨p, t, rfl, SqL.of hp, q.same g rfl⟩
    | _ => simp [biD] at e
  · cases d <;> simp [biD] at e
theorem bi_gcd : CallR X (.builtin "math.gcd") (rBi X.K .gcd) := by
  intro pins s σ H vs us Q I rv ⟨B, st, m, ds, r, g, lk, e, q⟩
  rcases ds with _ | ⟨d, _ | ⟨d2, _ | ⟨d3, ds⟩⟩⟩
  · simp [biD] at e
  · cases d <;> simp [biD] at e
  · obtain ⟨v, w, rfl, lk1, lk2⟩ := looks2 lk
    cases d with
    | int i =>
      cases d2 with
      | int j =>
        obtain rfl := lk1
        obtain rfl := lk2
        simp only [biD, Option.some.injEq] at e
        subst e
        exact cr_gcd pins s σ H _ us Q I rv ⟨i, j, rfl, q.same g rfl⟩
      | _ => simp [biD] at e
    | _ => simp [biD] at e
  · cases d <;> cases d2 <;> simp [biD] at e

/-! ### isinstance -/
def tyName : Ty → String
  | .tlist => "list" | .ttuple => "tuple" | .tstr => "str" | .tbool => "bool" | .tint => "int"
def tyOfD : D → String
  | .non => "NoneType" | .bl _ => "bool" | .int _ => "int" | .str _ => "str" | .lst _ => "list" | .tup _ => "tuple" | .dic _ _ => "dict"
theorem tyx_of {K : Fg} {B : Addr → Prop} {st : Option Addr} {H : Hp} {d : D} {v : V} (h : Look K B st H d v) : TyX K H v (.type (tyOfD d)) := by
  cases d with
  | non => rw [show _ = _ from h]; exact .base .non
  | bl b => rw [show _ = _ from h]; exact .base (.bl b)
  | int i => rw [show _ = _ from h]; exact .base (.int i)
  | str s => rw [show _ = _ from h.1]; exact .base (.str _)
  | lst xs => obtain ⟨p, vs, rfl, _, hp, _⟩ := h; exact .base (.lst hp)
  | tup xs =>
    obtain ⟨p, vs, rfl, hp, _⟩ := h
    rcases hp with (hp | ⟨o, hp⟩) | ⟨o, its, n, hk, hc, _⟩
    · exact .base (.tup hp)
    · exact .fTuple hp
    · exact .kTuple hk hc
  | dic _ _ => exact (show False from h).elim
theorem kit_one (d : D) (t : Ty) (hd : ∀ a b, d ≠ .dic a b) {K : Fg} : PySem.W.kitOne K (.type (tyOfD d)) (.type (tyName t)) = some (tyD d t) := by
  cases d <;> cases t <;> first | (simp only [tyOfD, tyName, tyD]; exact kit_ty (by decide +kernel)) | exact (hd _ _ rfl).elim
theorem kit_any {K : Fg} (d : D) (hd : ∀ a b, d ≠ .dic a b) : ∀ ts : List Ty, PySem.W.kitAny K (.type (tyOfD d)) (ts.map fun t => .type (tyName t)) = some (allTy d ts)
  | [] => rfl
  | t :: ts => by
    refine kitAny_cons (kit_one d t hd) (fun e => ?_) fun e => ?_
    · simp only [allTy, e, Bool.false_or]; exact kit_any d hd ts
    · simp only [allTy, e, Bool.true_or]
theorem ne_dic {K : Fg} {B : Addr → Prop} {st : Option Addr} {H : Hp} {d : D} {v : V} (h : Look K B st H d v) : ∀ a b, d ≠ .dic a b := fun a b e => by subst e; exact h
end
theorem idx_spec {y : D} : ∀ {xs : List D} {k : Nat}, idxEq y xs = some k → ∃ z, (toPys xs)[k]? = some z ∧ PyData.eqv z (toPy y) = true ∧ ∀ (m : Nat) (z' : PyData), m < k → (toPys xs)[m]? = some z' → PyData.eqv z' (toPy y) = false
  | [], k, h => by cases h
  | x :: xs, k, h => by
    rw [idxEq] at h
    obtain ⟨a, h1, h2⟩ := Option.bind_eq_some_iff.mp h
    have e := eqv_of x y a h1
    cases a with
    | true =>
      cases h2
      exact ⟨toPy x, rfl, e, fun m z' hm => absurd hm (Nat.not_lt_zero m)⟩
    | false =>
      obtain ⟨k', h3, rfl⟩ := Option.map_eq_some_iff.mp (show (idxEq y xs).map (· + 1) = some k from h2)
      obtain ⟨z, e1, e2, e3⟩ := idx_spec h3
      refine ⟨z, e1, e2, fun m z' hm hz => ?_⟩
      cases m with
      | zero => cases (show some (toPy x) = some z' from hz); exact e
      | succ m => exact e3 m z' (by omega) hz
theorem mt_idx {X : Cx} (hu : X.A.units + 65 < cLine) : MtR X "list.index" (fun v vs H Q => rBi X.K .index (v :: vs) H Q) := by
  intro pins s σ H x xs v us Q I rx rxs ⟨B, st, m, ds, r, g, lk, e, q⟩
  rcases ds with _ | ⟨d, _ | ⟨d2, _ | ⟨d3, ds⟩⟩⟩
  · simp [biD] at e
  · cases d <;> simp [biD] at e
  · cases d with
    | lst ws =>
      simp only [biD] at e
      split at e
      · rename_i hf
        rw [Bool.and_eq_true] at hf
        obtain ⟨k, e1, rfl⟩ := Option.map_eq_some_iff.mp e
        obtain ⟨v1, r1, hv, l1, lk2⟩ := lk
        obtain ⟨v2, r2, hv2, l2, lk3⟩ := lk2
        have lk3 : r2 = [] := lk3
        subst lk3 hv2
        injection hv with hv3 hv4
        subst hv3 hv4
        have l1' := l1
        obtain ⟨p, vs, rfl, _, hp, _, hr⟩ := l1
        obtain ⟨z, z1, z2, z3⟩ := idx_spec e1
        exact mt_indexD hu pins s σ H _ _ v us Q I rx rxs ⟨p, v2, toPy d2, toPys ws, k, z, rfl, rfl, dp_seq hf.2 l1', dp_look hf.1 l2, shapeds_of hf.2, shaped_of hf.1, z1, z2, z3, q.same g rfl⟩
      · cases e
    | _ => simp [biD] at e
  · cases d <;> simp [biD] at e
end FF

set_option Elab.async false
set_option linter.all false
set_option maxRecDepth 100000
set_option maxHeartbeats 4000000
/-! FFS: sorted of ints and of rows of ints; join. -/
namespace FF
open PySem PySem.Spec PyProof.Rows L2

theorem lexL_irr : ∀ t : List Int, lexL t t = false
  | [] => rfl
  | x :: xs => by rw [lexL, if_pos rfl, lexL_irr xs]
theorem lexL_asym : ∀ t u : List Int, lexL t u = true → lexL u t = false
  | [], [], h => by simp [lexL] at h
  | [], _ :: _, _ => rfl
  | _ :: _, [], h => by simp [lexL] at h
  | x :: xs, y :: ys, h => by
    rw [lexL] at h ⊢
    by_cases e : x = y
    · rw [if_pos e] at h; rw [if_pos e.symm]; exact lexL_asym xs ys h
    · rw [if_neg e, decide_eq_true_eq] at h; rw [if_neg (Ne.symm e)]; exact decide_eq_false (by omega)
theorem lexL_tot : ∀ t u : List Int, lexL t u = false → lexL u t = false → t = u
  | [], [], _, _ => rfl
  | [], _ :: _, h, _ => by simp [lexL] at h
  | _ :: _, [], _, h => by simp [lexL] at h
  | x :: xs, y :: ys, h, g => by
    rw [lexL] at h g
    by_cases e : x = y
    · subst e
      rw [if_pos rfl] at h g
      rw [lexL_tot xs ys h g]
    · rw [if_neg e, decide_eq_false_iff_not] at h
      rw [if_neg (Ne.symm e), decide_eq_false_iff_not] at g
      omega
theorem lexL_tr : ∀ t u v : List Int, lexL t u = false → lexL u v = false → lexL t v = false
  | [], [], _, _, g => g
  | [], _ :: _, _, h, _ => by simp [lexL] at h
  | _ :: _, _, [], _, _ => rfl
  | _ :: _, [], _ :: _, _, g => by simp [lexL] at g
  | x :: xs, y :: ys, z :: zs, h, g => by
    rw [lexL] at h g ⊢
    by_cases e : x = y
    · subst e
      rw [if_pos rfl] at h
      by_cases e2 : x = z
      · subst e2
        rw [if_pos rfl] at g ⊢
        exact lexL_tr xs ys zs h g
      · rw [if_neg e2] at g ⊢; exact g
    · rw [if_neg e, decide_eq_false_iff_not] at h
      by_cases e2 : y = z
      · subst e2
        rw [if_neg e]; exact decide_eq_false (by omega)
      · rw [if_neg e2, decide_eq_false_iff_not] at g
        rw [if_neg (by omega)]; exact decide_eq_false (by omega)
theorem insT_perm (x : List Int) : ∀ l, (insT x l).Perm (x :: l)
  | [] => List.Perm.refl _
  | y :: ys => by
    rw [insT]
    cases lexL y x with
    | true => exact ((insT_perm x ys).cons y).trans (List.Perm.swap x y ys)
    | false => exact List.Perm.refl _
theorem sortT_perm : ∀ l, (sortT l).Perm l
  | [] => List.Perm.refl _
  | x :: xs => (insT_perm x (sortT xs)).trans ((sortT_perm xs).cons x)
theorem insT_srtd {x : List Int} : ∀ {l : List (List Int)}, SrtO.Srtd lexL l → SrtO.Srtd lexL (insT x l)
  | [], _ => List.pairwise_singleton _ _
  | y :: ys, h => by
    rw [insT]
    have h1 := List.pairwise_cons.mp h
    cases e : lexL y x with
    | true =>
      refine List.pairwise_cons.mpr ⟨fun z hz => ?_, insT_srtd h1.2⟩
      rcases List.mem_cons.mp ((insT_perm x ys).mem_iff.mp hz) with q | q
      · rw [q]; exact lexL_asym _ _ e
      · exact h1.1 z q
    | false =>
      refine List.pairwise_cons.mpr ⟨fun z hz => ?_, h⟩
      rcases List.mem_cons.mp hz with q | q
      · rw [q]; exact e
      · exact lexL_tr _ _ _ (h1.1 z q) e
theorem sortT_srtd : ∀ l, SrtO.Srtd lexL (sortT l)
  | [] => List.Pairwise.nil
  | _ :: xs => insT_srtd (sortT_srtd xs)
theorem srtd_uniq : ∀ {l m : List (List Int)}, SrtO.Srtd lexL l → SrtO.Srtd lexL m → l.Perm m → l = m
  | [], m, _, _, h => (List.Perm.eq_nil h.symm).symm
  | x :: l, [], _, _, h => absurd h.length_eq (by simp)
  | x :: l, y :: m, hl, hm, h => by
    have p1 := List.pairwise_cons.mp hl
    have p2 := List.pairwise_cons.mp hm
    have e : x = y := by
      have m1 := h.mem_iff.mp (List.mem_cons_self (a := x) (l := l))
      have m2 := h.mem_iff.mpr (List.mem_cons_self (a := y) (l := m))
      rcases List.mem_cons.mp m1 with q | q
      · exact q
      · rcases List.mem_cons.mp m2 with q2 | q2
        · exact q2.symm
        · exact lexL_tot _ _ (p2.1 x q) (p1.1 y q2)
    subst e
    rw [srtd_uniq p1.2 p2.2 h.cons_inv]
theorem insI_perm (x : Int) : ∀ l, (insI x l).Perm (x :: l)
  | [] => List.Perm.refl _
  | y :: ys => by
    rw [insI]
    split
    · exact List.Perm.refl _
    · exact ((insI_perm x ys).cons y).trans (List.Perm.swap x y ys)
theorem sortI_perm : ∀ l, (sortI l).Perm l
  | [] => List.Perm.refl _
  | x :: xs => (insI_perm x (sortI xs)).trans ((sortI_perm xs).cons x)
theorem insI_srtd {x : Int} : ∀ {l : List Int}, l.Pairwise (· ≤ ·) → (insI x l).Pairwise (· ≤ ·)
  | [], _ => List.pairwise_singleton _ _
  | y :: ys, h => by
    rw [insI]
    have h1 := List.pairwise_cons.mp h
    split
    · rename_i e
      refine List.pairwise_cons.mpr ⟨fun z hz => ?_, h⟩
      rcases List.mem_cons.mp hz with q | q
      · rw [q]; exact e
      · exact Int.le_trans e (h1.1 z q)
    · rename_i e
      refine List.pairwise_cons.mpr ⟨fun z hz => ?_, insI_srtd h1.2⟩
      rcases List.mem_cons.mp ((insI_perm x ys).mem_iff.mp hz) with q | q
      · rw [q]; omega
      · exact h1.1 z q
theorem sortI_srtd : ∀ l, (sortI l).Pairwise (· ≤ ·)
  | [] => List.Pairwise.nil
  | _ :: xs => insI_srtd (sortI_srtd xs)
theorem int_uniq : ∀ {l m : List Int}, l.Pairwise (· ≤ ·) → m.Pairwise (· ≤ ·) → l.Perm m → l = m
  | [], m, _, _, h => (List.Perm.eq_nil h.symm).symm
  | x :: l, [], _, _, h => absurd h.length_eq (by simp)
  | x :: l, y :: m, hl, hm, h => by
    have p1 := List.pairwise_cons.mp hl
    have p2 := List.pairwise_cons.mp hm
    have e : x = y := by
      have m1 := h.mem_iff.mp (List.mem_cons_self (a := x) (l := l))
      have m2 := h.mem_iff.mpr (List.mem_cons_self (a := y) (l := m))
      rcases List.mem_cons.mp m1 with q | q
      · exact q
      · rcases List.mem_cons.mp m2 with q2 | q2
        · exact q2.symm
        · exact Int.le_antisymm (p1.1 y q2) (p2.1 x q)
    subst e
    rw [int_uniq p1.2 p2.2 h.cons_inv]

/-! ### rows of ints in the machine -/
/-- a tuple of ints -/
def IsTI (h : Heap) (v : Value) (t : List Int) : Prop := t ≠ [] ∧ ∃ (a : Addr) (o : Obj) (its : Array Value) (n : Nat), v = .ref a ∧ h.get? a = some o ∧ o.cls = .type "tuple" ∧ o.data = .seq its n ∧ IntsAre its.toList t
theorem IsTI.keeps {h h' : Heap} {v : Value} {t : List Int} (p : IsTI h v t) (k : ∀ b o, h.get? b = some o → o.cls = .type "tuple" → h'.get? b = some o) : IsTI h' v t := by
  obtain ⟨ne, a, o, its, n, e, ho, hc, hd, hi⟩ := p
  exact ⟨ne, a, o, its, n, e, k _ _ ho hc, hc, hd, hi⟩
section
variable {prog : Program} {w : World} {A : Around} {E : Value → Shared → Prop} {s : Shared}
/-- by the first place where two rows differ -/
def lexF (fin : Bool) : List Int → List Int → Bool
  | [], _ => fin
  | _ :: _, [] => fin
  | x :: xs, y :: ys => if x = y then lexF fin xs ys else decide (x < y)
theorem lexF_eq : ∀ t u : List Int, lexF (decide (t.length < u.length)) t u = lexL t u
  | [], [] => rfl
  | [], _ :: _ => by simp [lexF, lexL]
  | _ :: _, [] => by simp [lexF, lexL]
  | x :: xs, y :: ys => by
    rw [lexF, lexL, ← lexF_eq xs ys]
    simp only [List.length_cons, Nat.add_lt_add_iff_right]
theorem ti_lex {fin : Bool} {Q : Bool → Shared → Prop} : ∀ {ps qs : List Value} {t u : List Int} (i : Nat), IntsAre ps t → IntsAre qs u → Q (lexF fin t u) s → PySem.W.KatLex prog w A true fin Q (ps.zip qs) i s
  | _, _, _, _, i, .nil, _, h => by
    rw [List.zip_nil_left]
    rename_i q _
    exact PySem.W.kat_nil (by simpa [lexF] using h)
  | _, _, _, _, i, .cons x t r, .nil, h => by
    rw [List.zip_nil_right]
    exact PySem.W.kat_nil (by simpa [lexF] using h)
  | _, _, _, _, i, .cons x t r, .cons y u r2, h => by
    rw [List.zip_cons_cons]
    rw [lexF] at h
    refine PySem.W.kat_cons (SeqAt.EqAt.int_int x t y u prog w _ _ ?_)
    refine PySem.W.kat_go (fun e1 => ?_) (fun e1 => ?_)
    · have ex : x = y := by simpa using e1
      rw [if_pos ex] at h
      exact PySem.W.kat_yes (ti_lex (i + 1) r r2 h)
    · have ex : ¬ x = y := by simpa using e1
      rw [if_neg ex] at h
      by_cases hi : i = 0
      · subst hi
        exact PySem.W.kat_no (oneLt_int h)
      · have e0 : (true && i == 0) = false := by simp [hi]
        refine PySem.W.kat_no ?_
        rw [e0]
        refine PySem.W.kat_one _ _ (PyProof.Rows.lt_int ?_)
        exact h
theorem ti_cmp {vs : List Value} {k : Value → List Int} (hp : ∀ v ∈ vs, IsTI s.heap v (k v)) : SrtO.Cmp prog w A s (tuples' true) (fun p => p.1 ∈ vs) (SrtO.lt2 fun v u => lexL (k v) (k u)) := by
  intro p q hm hm'
  have h1 := hp _ hm
  have h2 := hp _ hm'
  show wpAny (model prog w) A (keyLt' (tuples' true) p.1 q.1) (fun r s' => s' = s ∧ r = lexL (k p.1) (k q.1)) (fun _ _ => False) s
  generalize k p.1 = t at h1 ⊢
  generalize k q.1 = u at h2 ⊢
  obtain ⟨_, a, o, its, n, e, ho, hc, hd, hi⟩ := h1
  obtain ⟨_, a', o', its', n', e', ho', hc', hd', hi'⟩ := h2
  rw [e, e']
  refine PySem.W.kat_lt ho hd ho' hd' (ti_lex 0 hi hi' ⟨rfl, ?_⟩)
  have l1 : its.size = t.length := by rw [← Array.length_toList]; exact ints_len hi
  have l2 : its'.size = u.length := by rw [← Array.length_toList]; exact ints_len hi'
  rw [l1, l2]
  exact lexF_eq t u
where
  ints_len : ∀ {vs : List Value} {t : List Int}, IntsAre vs t → vs.length = t.length
    | _, _, .nil => rfl
    | _, _, .cons n t r => by rw [List.length_cons, List.length_cons, ints_len r]
theorem ti_firsts {h : Heap} {k : Value → List Int} : ∀ {vs : List Value}, (∀ v ∈ vs, IsTI h v (k v)) → ∃ fs : List Value, PySem.W.KatTups h vs fs ∧ fs.length = vs.length ∧ ∀ f ∈ fs, ∃ x t, f = Value.int x t
  | [], _ => ⟨[], PySem.W.KatTups.nil, rfl, fun _ hm => by simp at hm⟩
  | v :: vs, hp => by
    obtain ⟨fs, h1, h2, h3⟩ := ti_firsts (vs := vs) fun v' hm => hp v' (List.mem_cons_of_mem _ hm)
    obtain ⟨ne, a, o, its, n, e, ho, hc, hd, hi⟩ := hp v (List.mem_cons_self ..)
    subst e
    generalize k (Value.ref a) = t at ne hi
    obtain ⟨x, tk, hx⟩ : ∃ x tk, its[0]? = some (Value.int x tk) := by
      generalize hl : its.toList = l at hi
      cases hi with
      | nil => exact absurd rfl ne
      | cons x tk r => exact ⟨x, tk, by rw [← Array.getElem?_toList, hl]; rfl⟩
    refine ⟨.int x tk :: fs, PySem.W.KatTups.cons ho hc hd hx h1, by rw [List.length_cons, List.length_cons, h2], fun f hm => ?_⟩
    rcases List.mem_cons.mp hm with rfl | hm
    · exact ⟨x, tk, rfl⟩
    · exact h3 f hm
theorem ti_sortable {a : Addr} {vs : List Value} {k : Value → List Int} (h0 : 0 < vs.length) (hp : ∀ v ∈ vs, IsTI s.heap v (k v)) (ha : ∀ o, s.heap.get? a = some o → o.cls ≠ .type "tuple") : SrtO.SortableO prog w A s a vs fun v u => lexL (k v) (k u) := by
  intro h' keep
  have hp' : ∀ v ∈ vs, IsTI h' v (k v) := fun v hm => (hp v hm).keeps fun b o e c => keep b o (fun z => by subst z; exact ha o e c) e
  obtain ⟨fs, h1, h2, h3⟩ := ti_firsts hp'
  refine ⟨tuples' true, fun Q E hq => ?_, ti_cmp hp'⟩
  refine PySem.W.kat_kind (T := .type "int") h1 (by omega) (fun f hm => ?_) (by rfl) ?_
  · obtain ⟨x, t, rfl⟩ := h3 f hm
    exact PySem.W.Looks.now
  · have e : (Value.type "int" != Value.type "tuple") = true := by first | decide +kernel | rfl | decide
    rw [e]
    exact hq
theorem ti_swo (k : Value → List Int) : SrtO.Swo fun v u => lexL (k v) (k u) := ⟨fun x y h => lexL_asym _ _ h, fun x y z h1 h2 => lexL_tr _ _ _ h2 h1⟩
theorem sorted_ti {l : Addr} {vs : List Value} {k : Value → List Int} {Q : Value → Shared → Prop} (hl : s.heap.IsList l vs.toArray) (hz : vs.length ≤ sizeLine) (hp : ∀ v ∈ vs, IsTI s.heap v (k v))
    (h : ∀ (h' : Heap) (d : Addr) (out : List Value), SrtO.Srtd (fun v u => lexL (k v) (k u)) out → SrtO.Stb (fun v u => lexL (k v) (k u)) out vs → (∀ b o, s.heap.get? b = some o → h'.get? b = some o) → s.heap.objs.size ≤ d → (∃ n, h'.get? d = some (seqObj "list" out.toArray n)) → Q (.ref d) { s with heap := h' }) :
    wpAny (model prog w) A (call (.builtin "sorted") [.ref l]) Q E s := by
  refine SrtO.sorted_ord (ti_swo k) hl hz (fun h2 h₁ a ha kk => ?_) fun out hs hb => ?_
  · refine ti_sortable (s := { s with heap := h₁ }) (by omega) (fun v hm => (hp v hm).keeps fun b o e _ => (kk b o e).2) fun o e => ?_
    have e' : some o = some (seqObj "list" vs.toArray 0) := e.symm.trans ha
    cases e'
    intro c
    exact absurd (Value.type.inj c) (by decide)
  · exact h _ _ out hs hb (fun b o e => sortedAll_old e) (Nat.le_succ _) (sortedAll_at s.heap vs out.toArray)
end

/-! ### by data -/
theorem tups_of {K : Fg} {B : Addr → Prop} {H : Hp} : ∀ {xs : List D} {vs : List V} {p : List (List Int)}, Reps K B H xs vs → tupsOf xs = some p → xs = p.map (fun t => D.tup (t.map .int)) ∧ ∀ t ∈ p, t ≠ []
  | [], _, p, h, e => by
    simp only [tupsOf, Option.some.injEq] at e
    subst e
    exact ⟨rfl, fun _ h => by cases h⟩
  | x :: xs, _, p, ⟨v, r, e1, h1, h2⟩, e => by
    cases x with
    | tup ys =>
      obtain ⟨t, e2, e⟩ := Option.bind_eq_some_iff.mp (show (intsOf ys).bind _ = some p from e)
      obtain ⟨q, e3, e⟩ := Option.bind_eq_some_iff.mp e
      obtain ⟨g1, g2⟩ := tups_of h2 e3
      have hy : ∀ {ys : List D} {t : List Int}, intsOf ys = some t → ys = t.map .int := by
        intro ys
        induction ys with
        | nil => intro t e; simp only [intsOf, Option.some.injEq] at e; subst e; rfl
        | cons y ys ih =>
          intro t e
          cases y with
          | int i =>
            obtain ⟨q, e2, rfl⟩ := Option.map_eq_some_iff.mp (show (intsOf ys).map (i :: ·) = some t from e)
            rw [ih e2]; rfl
          | _ => simp [intsOf] at e
      cases t with
      | nil => cases e
      | cons a t =>
        cases e
        refine ⟨by rw [List.map_cons, ← g1, hy e2], fun u hu => ?_⟩
        rcases List.mem_cons.mp hu with q | q
        · rw [q]; simp
        · exact g2 u q
    | _ => simp [tupsOf] at e
theorem ints_of' {K : Fg} {B : Addr → Prop} {H : Hp} : ∀ {t : List Int} {vs : List V}, Reps K B H (t.map .int) vs → vs = t.map V.int
  | [], _, h => h
  | x :: xs, _, ⟨v, r, e1, h1, h2⟩ => by
    rw [e1, ints_of' h2, show _ = _ from h1]; rfl
theorem reps_ints {K : Fg} {B : Addr → Prop} {H : Hp} : ∀ t : List Int, Reps K B H (t.map .int) (t.map V.int)
  | [] => rfl
  | x :: xs => ⟨_, _, rfl, rfl, reps_ints xs⟩
open Classical in
/-- the row that a value stands for -/
noncomputable def kv (K : Fg) (B : Addr → Prop) (H : Hp) (v : V) : List Int := if h : ∃ t : List Int, t ≠ [] ∧ Rep K B H (.tup (t.map .int)) v then Classical.choose h else []
theorem kv_spec {K : Fg} {B : Addr → Prop} {H : Hp} {v : V} (h : ∃ t : List Int, t ≠ [] ∧ Rep K B H (.tup (t.map .int)) v) : kv K B H v ≠ [] ∧ Rep K B H (.tup ((kv K B H v).map .int)) v := by
  unfold kv
  rw [dif_pos h]
  exact Classical.choose_spec h
theorem reps_kv {K : Fg} {B : Addr → Prop} {H : Hp} : ∀ {vs : List V}, (∀ v ∈ vs, ∃ t : List Int, t ≠ [] ∧ Rep K B H (.tup (t.map .int)) v) → Reps K B H ((vs.map (kv K B H)).map fun t => D.tup (t.map .int)) vs
  | [], _ => rfl
  | v :: vs, h => ⟨v, vs, rfl, (kv_spec (h v List.mem_cons_self)).2, reps_kv fun u hu => h u (List.mem_cons_of_mem _ hu)⟩
theorem reps_mem {K : Fg} {B : Addr → Prop} {H : Hp} : ∀ {p : List (List Int)} {vs : List V}, (∀ t ∈ p, t ≠ []) → Reps K B H (p.map fun t => D.tup (t.map .int)) vs → ∀ v ∈ vs, ∃ t : List Int, t ≠ [] ∧ Rep K B H (.tup (t.map .int)) v
  | [], _, _, h => by rw [show _ = _ from h]; intro v hv; cases hv
  | t :: p, _, ne, ⟨v, r, e1, h1, h2⟩ => by
    intro u hu
    rw [e1] at hu
    rcases List.mem_cons.mp hu with q | q
    · rw [q]; exact ⟨t, ne t List.mem_cons_self, h1⟩
    · exact reps_mem (fun x hx => ne x (List.mem_cons_of_mem _ hx)) h2 u q
section
variable {X : Cx} {pins : List (Addr × Obj)} {σ : L2.St} {H : Hp} {s : Shared}
theorem tup_uniq {B : Addr → Prop} (I : Inv X pins σ H s) {t u : List Int} {v : V} (h : Rep X.K B H (.tup (t.map .int)) v) (g : Rep X.K B H (.tup (u.map .int)) v) : t = u := by
  obtain ⟨p, vs, rfl, hp, _, hr⟩ := h
  obtain ⟨p', vs', e, hp', _, hr'⟩ := g
  cases e
  have e := I.tuple_inj hp hp'
  rw [ints_of' hr, ints_of' hr'] at e
  have inj : ∀ {t u : List Int}, t.map V.int = u.map V.int → t = u := by
    intro t
    induction t with
    | nil => intro u e; cases u with
      | nil => rfl
      | cons _ _ => cases e
    | cons x t ih => intro u e; cases u with
      | nil => cases e
      | cons y u =>
        rw [List.map_cons, List.map_cons] at e
        injection e with e1 e2
        injection e1 with e1
        rw [e1, ih e2]
  exact inj e
theorem kv_map {B : Addr → Prop} (I : Inv X pins σ H s) : ∀ {p : List (List Int)} {vs : List V}, (∀ t ∈ p, t ≠ []) → Reps X.K B H (p.map fun t => D.tup (t.map .int)) vs → vs.map (kv X.K B H) = p
  | [], _, _, h => by rw [show _ = _ from h]; rfl
  | t :: p, _, ne, ⟨v, r, e1, h1, h2⟩ => by
    rw [e1, List.map_cons, kv_map I (fun x hx => ne x (List.mem_cons_of_mem _ hx)) h2]
    rw [tup_uniq I (kv_spec ⟨t, ne t List.mem_cons_self, h1⟩).2 h1]
theorem is_ti {B : Addr → Prop} (I : Inv X pins σ H s) {a : Addr} (h : ∃ t : List Int, t ≠ [] ∧ Rep X.K B H (.tup (t.map .int)) (.ref a)) : IsTI s.heap (.ref a) (kv X.K B H (.ref a)) := by
  obtain ⟨ne, h⟩ := kv_spec h
  generalize kv X.K B H (.ref a) = t at ne h
  obtain ⟨p, vs, e, hp, _, hr⟩ := h
  cases e
  obtain ⟨its, rv, ⟨o, ho, hc, n, hd⟩, _⟩ := I.tuple hp
  rw [ints_of' hr] at rv
  exact ⟨ne, a, o, its.toArray, n, rfl, ho, hc, hd, by rw [List.toList_toArray]; exact rv.ints⟩
end
section
variable {X : Cx}
theorem bi_sorted : CallR X (.builtin "sorted") (rBi X.K .sorted) := by
  intro pins s σ H vs us Q I rv ⟨B, st, m, ds, r, g, lk, e, q⟩
  rcases ds with _ | ⟨d, _ | ⟨d2, ds⟩⟩
  · simp [biD] at e
  · obtain ⟨v, rfl, l1⟩ := looks1 lk
    cases d with
    | lst xs =>
      obtain ⟨p, ws, rfl, _, hp, hl, hr⟩ := l1
      have e : sortD xs = some r := e
      unfold sortD at e
      split at e
      · rename_i ns e1
        cases e
        have g1 := ints_of hr e1
        subst g1
        refine cr_sortedI pins s σ H _ us Q I rv ⟨p, ns, rfl, SqL.of hp, fun ns' d hperm hs hd => ?_⟩
        have e2 : ns' = sortI ns := int_uniq hs (sortI_srtd ns) (hperm.trans (sortI_perm ns).symm)
        rw [e2]
        rw [List.length_map] at hl
        exact q.list g hd (by rw [List.length_map, (sortI_perm ns).length_eq]; exact hl) (reps_ints _)
      · obtain ⟨ps, e1, rfl⟩ := Option.map_eq_some_iff.mp e
        obtain ⟨g1, ne⟩ := tups_of hr e1
        rw [g1] at hr
        have hm := reps_mem ne hr
        have hk := kv_map I ne hr
        obtain ⟨its, r2, hl2, hz⟩ := I.list (SqL.of hp)
        obtain ⟨u, rfl, ru⟩ := vals1 rv
        obtain rfl : u = Value.ref p := ru
        obtain ⟨b1, b2⟩ := refs_back r2 fun x mx => by
          obtain ⟨t, _, a, vs, e, _⟩ := hm x mx
          exact ⟨a, e⟩
        refine sorted_ti (k := fun u => kv X.K B H (backV u)) hl2.isList (by rw [← r2.length]; exact hz) (fun v hv => ?_) fun h' d out h1 h2 kp hd hn => ?_
        · obtain ⟨t, rfl⟩ := b2 v hv
          have hmm : V.ref t ∈ ws := by rw [b1]; exact List.mem_map.mpr ⟨_, hv, rfl⟩
          exact is_ti I (hm _ hmm)
        · have h3 : ∀ u ∈ out, ∃ a, u = Value.ref a := fun u hu => b2 u (h2.perm.mem_iff.mp hu)
          obtain ⟨n, hn⟩ := hn
          have pm : (out.map backV).Perm ws := by rw [b1]; exact h2.perm.map backV
          have hm' : ∀ v ∈ out.map backV, ∃ t : List Int, t ≠ [] ∧ Rep X.K B H (.tup (t.map .int)) v := fun v hv => hm v (pm.mem_iff.mp hv)
          have e2 : (out.map backV).map (kv X.K B H) = sortT ps := by
            refine srtd_uniq ?_ (sortT_srtd ps) ?_
            · rw [List.map_map]; exact List.pairwise_map.mpr h1
            · refine (pm.map (kv X.K B H)).trans ?_
              rw [hk]; exact (sortT_perm ps).symm
          have rp := reps_kv hm'
          rw [e2] at rp
          have hlen : (out.map backV).length ≤ sizeLine := by rw [pm.length_eq]; exact hz
          have hdn : H d = none := I.hok.fresh hd
          exact ⟨.ref d, upd H d (.lst (out.map backV)), I.laid (t' := s.toks) kp hd ⟨hlen, out, n, vals_back h3, hn⟩, rfl, q.list g hdn hlen rp⟩
    | _ => simp [biD] at e
  · cases d <;> simp [biD] at e
end

theorem strs_of' {K : Fg} {B : Addr → Prop} {H : Hp} : ∀ {xs : List D} {vs : List V} {p : List (List Nat)}, Reps K B H xs vs → strsOf xs = some p → vs = (p.map fun s => (⟨s.toArray⟩ : Str)).map V.str
  | [], _, p, h, e => by
    simp only [strsOf, Option.some.injEq] at e
    subst e; exact h
  | x :: xs, _, p, ⟨v, r, e1, h1, h2⟩, e => by
    cases x with
    | str s =>
      obtain ⟨q, e2, rfl⟩ := Option.map_eq_some_iff.mp (show (strsOf xs).map (s :: ·) = some p from e)
      rw [e1, strs_of' h2 e2, show v = _ from h1.1]; rfl
    | _ => simp [strsOf] at e
theorem join_tl (s : List Nat) : ∀ p : List (List Nat), TL.joinL s p = joinN s p
  | [] => rfl
  | [_] => rfl
  | a :: b :: r => by
    show a ++ (s ++ TL.joinL s (b :: r)) = a ++ (s ++ joinN s (b :: r))
    rw [join_tl s (b :: r)]
theorem join_txt (s : List Nat) (p : List (List Nat)) : Txt.join ⟨s.toArray⟩ (p.map fun s => (⟨s.toArray⟩ : Str)) = ⟨(joinN s p).toArray⟩ := by
  rw [TL.join_eq]
  have h := TL.tl_join ⟨s.toArray⟩ (p.map fun s => (⟨s.toArray⟩ : Str))
  have e : (p.map fun s => (⟨s.toArray⟩ : Str)).map TL.tl = p := by
    rw [List.map_map]
    have : (TL.tl ∘ fun s : List Nat => (⟨s.toArray⟩ : Str)) = id := by
      funext x; show (List.toArray x).toList = x; simp
    rw [this, List.map_id]
  rw [e, join_tl] at h
  have h2 : TL.tl ⟨s.toArray⟩ = s := by show (List.toArray s).toList = s; simp
  rw [h2] at h
  generalize Str.join _ _ = z at h
  obtain ⟨c⟩ := z
  have h : c.toList = joinN s p := h
  rw [← h]
theorem joinN_len (s : List Nat) : ∀ p : List (List Nat), (joinN s p).length ≤ (p.map List.length).sum + p.length * s.length
  | [] => by simp [joinN]
  | [a] => by simp [joinN]
  | a :: b :: r => by
    have := joinN_len s (b :: r)
    show (a ++ (s ++ joinN s (b :: r))).length ≤ _
    rw [List.length_append, List.length_append]
    simp only [List.map_cons, List.sum_cons, List.length_cons] at *
    rw [Nat.succ_mul]
    omega
theorem mt_joinD {X : Cx} : MtR X "str.join" (fun v vs H Q => rBi X.K .join (v :: vs) H Q) := by
  intro pins s σ H x xs v us Q I rx rxs ⟨B, st, m, ds, r, g, lk, e, q⟩
  rcases ds with _ | ⟨d, _ | ⟨d2, _ | ⟨d3, ds⟩⟩⟩
  · simp [biD] at e
  · cases d <;> simp [biD] at e
  · cases d with
    | str sp =>
      cases d2 with
      | lst ws =>
        obtain ⟨p, e1, e⟩ := Option.bind_eq_some_iff.mp (show (strsOf ws).bind _ = some r from e)
        split at e
        · rename_i hz
          cases e
          obtain ⟨v1, r1, hv, l1, lk2⟩ := lk
          obtain ⟨v2, r2, hv2, l2, lk3⟩ := lk2
          have lk3 : r2 = [] := lk3
          subst lk3 hv2
          injection hv with hv3 hv4
          subst hv3 hv4
          obtain ⟨a, vs, rfl, _, hp, hl, hr⟩ := l2
          have hs : x = V.str ⟨sp.toArray⟩ := l1.1
          have hvs := strs_of' hr e1
          subst hvs
          refine mt_join pins s σ H _ _ v us Q I rx rxs ⟨⟨sp.toArray⟩, a, _, hs, rfl, .inl (SqL.of hp), ?_, ?_⟩
          · rw [List.map_map, List.length_map]
            have e3 : (fun a : Str => a.length) ∘ (fun s : List Nat => (⟨s.toArray⟩ : Str)) = List.length := by
              funext y; show (List.toArray y).size = y.length; simp
            rw [e3]
            show (p.map List.length).sum + p.length * (List.toArray sp).size ≤ _
            rw [List.size_toArray]; exact hz
          · rw [join_txt]
            have hlen := joinN_len sp p
            exact q.same g ⟨rfl, by show (joinN sp p).length ≤ sizeLine; exact small16 (by omega)⟩
        · cases e
      | _ => simp [biD] at e
    | _ => cases d2 <;> simp [biD] at e
  · cases d <;> cases d2 <;> simp [biD] at e
where
  small16 : ∀ {n : Nat}, n ≤ 16777216 → n ≤ sizeLine := fun h => Nat.le_trans h (by decide)
end FF

set_option Elab.async false
set_option linter.all false
set_option maxRecDepth 100000
set_option maxHeartbeats 4000000
/-! FF5: expressions: the machine yields what ev yields. -/
namespace FF
open PySem PySem.Spec PyProof.Rows L2

def tEv (K : Fg) (Γ : Sem) (e : E) (m : Bool) : TE := fun σ H Q => ∃ (B0 : Addr → Prop) (st : Option Addr) (fp : Nat → Option Addr) (ρ : Env), Rel K B0 st fp ρ σ H ∧
  (ev Γ e m ρ).all fun r => Fin K (badOf B0 st fp) st m r H Q
def tEvT (K : Fg) (Γ : Sem) (e : E) : TT := fun σ H Q => ∃ (B0 : Addr → Prop) (st : Option Addr) (fp : Nat → Option Addr) (ρ : Env), Rel K B0 st fp ρ σ H ∧
  (blT (ev Γ e true ρ)).all fun b => ∀ H', Ch (Cs st) H H' → StOk st H' → Q b H'
def Many (K : Fg) (B : Addr → Prop) (st : Option Addr) (m : Bool) (H : Hp) (xs : List D) (vs : List V) : Prop := if m = true then Looks K B st H xs vs else Reps K B H xs vs
def tEvs (K : Fg) (Γ : Sem) (es : List E) (m : Bool) : TA := fun σ H Q => ∃ (B0 : Addr → Prop) (st : Option Addr) (fp : Nat → Option Addr) (ρ : Env), Rel K B0 st fp ρ σ H ∧
  (evs Γ es m ρ).all fun xs => ∀ vs H', Ch (Cs st) H H' → StOk st H' → Many K (badOf B0 st fp) st m H' xs vs → Q vs H'

section
variable {K : Fg} {B0 : Addr → Prop} {st : Option Addr} {fp : Nat → Option Addr} {ρ : Env} {σ : L2.St} {H H1 : Hp} {Γ : Sem} {Q : VK}
theorem Rel.gd (R : Rel K B0 st fp ρ σ H) : Gd (badOf B0 st fp) st H := ⟨fun _ => bad_st, fun _ h => R.dom' h, R.sok⟩
theorem Res.back {B : Addr → Prop} {m : Bool} {r : Rs} {H H1 H2 : Hp} {v : V} (hB : ∀ p, st = some p → B p) (h : Res K B st m r H1 H2 v) (c : Ch (Cs st) H H1) : Res K B st m r H H2 v := by
  unfold Res at h ⊢
  split
  · rename_i q
    rw [if_pos q] at h
    obtain ⟨xs, p, vs, e1, e2, hp, nb, r⟩ := h
    exact ⟨xs, p, vs, e1, e2, c.fresh (fun z => nb (hB p z)) hp, nb, r⟩
  · rename_i q
    rw [if_neg q] at h
    exact h
theorem Res.up {B : Addr → Prop} {m : Bool} {r : Rs} {H H2 : Hp} {v : V} (hB : ∀ p, st = some p → B p) (h : Res K B st false r H H2 v) : Res K B st m r H H2 v := by
  unfold Res at h ⊢
  split
  · rename_i q; rw [if_pos q] at h; exact h
  · rename_i q
    rw [if_neg q, if_neg Bool.false_ne_true] at h
    split
    · exact h.look hB
    · exact h
theorem Fin.back {B : Addr → Prop} {m : Bool} {r : Rs} (hB : ∀ p, st = some p → B p) (f : Fin K B st m r H Q) (c : Ch (Cs st) H H1) : Fin K B st m r H1 Q :=
  fun v H2 c2 S res => f v H2 (c.trans c2) S (res.back hB c)
theorem ev_step {β : Type} {f : Rs → T β} {P : β → Prop} {e : E} {m : Bool} (R : Rel K B0 st fp ρ σ H) (h : ((ev Γ e m ρ).bind f).all P)
    (k : ∀ r v H1, Ch (Cs st) H H1 → Rel K B0 st fp ρ σ H1 → Res K (badOf B0 st fp) st m r H H1 v → (f r).all P → Q v H1) : tEv K Γ e m σ H Q :=
  ⟨B0, st, fp, ρ, R, T.all_mono (fun r hr v H1 c S res => k r v H1 c (R.mono c S) res hr) (T.all_bind.mp h)⟩
theorem evT_step {β : Type} {f : Bool → T β} {P : β → Prop} {e : E} {QB : Bool → Hp → Prop} (R : Rel K B0 st fp ρ σ H) (h : ((blT (ev Γ e true ρ)).bind f).all P)
    (k : ∀ b H1, Ch (Cs st) H H1 → Rel K B0 st fp ρ σ H1 → (f b).all P → QB b H1) : tEvT K Γ e σ H QB :=
  ⟨B0, st, fp, ρ, R, T.all_mono (fun b hb H1 c S => k b H1 c (R.mono c S) hb) (T.all_bind.mp h)⟩
theorem evs_step {β : Type} {f : List D → T β} {P : β → Prop} {es : List E} {m : Bool} {QA : List V → Hp → Prop} (R : Rel K B0 st fp ρ σ H) (h : ((evs Γ es m ρ).bind f).all P)
    (k : ∀ xs vs H1, Ch (Cs st) H H1 → Rel K B0 st fp ρ σ H1 → Many K (badOf B0 st fp) st m H1 xs vs → (f xs).all P → QA vs H1) : tEvs K Γ es m σ H QA :=
  ⟨B0, st, fp, ρ, R, T.all_mono (fun xs hx vs H1 c S res => k xs vs H1 c (R.mono c S) res hx) (T.all_bind.mp h)⟩
end
theorem PE.imp {X : Cx} {e : Expr} {t t' : TE} (h : PE X e t) (i : ∀ σ H Q, t' σ H Q → t σ H Q) : PE X e t' := ⟨fun pins s σ H Q I q => h.run pins s σ H Q I (i σ H Q q)⟩
theorem PT.imp {X : Cx} {e : Expr} {t t' : TT} (h : PT X e t) (i : ∀ σ H Q, t' σ H Q → t σ H Q) : PT X e t' := ⟨fun pins s σ H Q I q => h.run pins s σ H Q I (i σ H Q q)⟩
theorem PW.imp {X : Cx} {e : Expr} {t t' : TT} (h : PW X e t) (i : ∀ σ H Q, t' σ H Q → t σ H Q) : PW X e t' := ⟨fun wh pins s σ H Q I q => h.run wh pins s σ H Q I (i σ H Q q)⟩
theorem PA.imp {X : Cx} {es : List Expr} {t t' : TA} (h : PA X es t) (i : ∀ σ H Q, t' σ H Q → t σ H Q) : PA X es t' := ⟨fun p pins s σ H Q I q => h.run p pins s σ H Q I (i σ H Q q)⟩

section
variable {X : Cx} {Γ : Sem} {m : Bool} {pos : Pos} {a b c : Expr} {ia ib ic : E}
/-! ### names, constants -/
theorem se_lit {e : Expr} {v : V} {d : D} (h : PE X e (tC v)) (r : ∀ B H, Rep X.K B H d v) : PE X e (tEv X.K Γ (.c d) m) :=
  PE.imp h fun σ H Q ⟨B0, st, fp, ρ, R, q⟩ => Fin.same (m := m) q R.gd (r _ H)
theorem se_glob {e : Expr} {v : V} {d : D} {k : Nat} (h : PE X e (tC v)) (r : ∀ B H, Rep X.K B H d v) : PE X e (tEv X.K Γ (.g k d) m) :=
  PE.imp h fun σ H Q ⟨B0, st, fp, ρ, R, q⟩ => Fin.same (m := m) q R.gd (r _ H)
theorem rd_spec {K : Fg} {B0 : Addr → Prop} {st : Option Addr} {fp : Nat → Option Addr} {ρ : Env} {σ : L2.St} {H : Hp} {i : Nat} {d : D} (R : Rel K B0 st fp ρ σ H) (h : rd m ρ i = some d) : ∃ v, σ[i]? = some (some v) ∧ (if m = true then Look K (badOf B0 st fp) st H d v else Rep K (badOf B0 st fp) H d v) := by
  unfold rd at h
  split at h
  · rename_i d' e
    cases h
    obtain ⟨v, e1, r⟩ := R.slot i _ e
    refine ⟨v, e1, ?_⟩
    split
    · exact r.look fun _ => bad_st
    · exact r
  · rename_i d' e
    split at h
    · rename_i hm
      cases h
      obtain ⟨p, f, e1, r⟩ := R.slot i _ e
      refine ⟨_, e1, ?_⟩
      rw [if_pos hm]
      cases d with
      | lst xs => obtain ⟨vs, h1, h2, h3⟩ := r; exact ⟨p, vs, rfl, (R.nb i p f).2, h1, h2, h3⟩
      | _ => exact r.elim
    · cases h
  · rename_i d' e
    split at h
    · rename_i hm
      cases h
      obtain ⟨p, f, e1, r⟩ := R.slot i _ e
      refine ⟨_, e1, ?_⟩
      rw [if_pos hm]
      cases d with
      | lst xs => obtain ⟨vs, h1, h2, h3⟩ := r; exact ⟨p, vs, rfl, (R.nb i p f).2, h1, h2, h3⟩
      | _ => exact r.elim
    · cases h
  · cases h
theorem se_var {e : Expr} {i : Nat} (h : PE X e (tVar i)) : PE X e (tEv X.K Γ (.v i) m) :=
  PE.imp h fun σ H Q ⟨B0, st, fp, ρ, R, q⟩ => by
    rw [ev] at q
    obtain ⟨r, e, q⟩ := T.all_ofO.mp q
    obtain ⟨d, e2, rfl⟩ := Option.map_eq_some_iff.mp e
    obtain ⟨v, e1, r⟩ := rd_spec R e2
    refine ⟨v, e1, q v H .refl R.sok ?_⟩
    unfold Res
    rw [if_neg Bool.false_ne_true]
    exact r

/-! ### operators -/
theorem se_bin {op : Operator} {o : Bop} (ho : OpR X (binaryOp op) (r2D X.K (binD o))) (ha : PE X a (tEv X.K Γ ia true)) (hb : PE X b (tEv X.K Γ ib true)) : PE X (.BinOp a op b pos) (tEv X.K Γ (.bin o ia ib) m) :=
  PE.imp (pe_op ho ha hb) fun σ H Q ⟨B0, st, fp, ρ, R, h⟩ => by
    rw [ev] at h
    refine ev_step R h fun x v H1 c1 R1 r1 h1 => ev_step R1 h1 fun y w H2 c2 R2 r2 h2 => ?_
    obtain ⟨r, e, q⟩ := T.all_ofO.mp h2
    have hB : ∀ p, st = some p → badOf B0 st fp p := fun _ => bad_st
    exact ⟨_, st, m, x.1, y.1, r, R2.gd, (r1.look hB).ch hB c2, r2.look hB, e, Fin.back hB q (c1.trans c2)⟩
theorem se_neg (ha : PE X a (tEv X.K Γ ia true)) : PE X (.UnaryOp .USub a pos) (tEv X.K Γ (.neg ia) m) :=
  PE.imp (pe_un un_neg ha) fun σ H Q ⟨B0, st, fp, ρ, R, h⟩ => by
    rw [ev] at h
    refine ev_step R h fun x v H1 c1 R1 r1 h1 => ?_
    have hB : ∀ p, st = some p → badOf B0 st fp p := fun _ => bad_st
    have l := r1.look hB
    obtain ⟨d, f⟩ := x
    cases d with
    | int i =>
      obtain rfl := l
      exact ⟨i, rfl, Fin.same (Fin.back hB h1 c1) R1.gd rfl⟩
    | _ => exact h1.elim
theorem se_cmp {o : Cop} (hu : X.A.units + 65 < cLine) (ha : PE X a (tEv X.K Γ ia true)) (hb : PE X b (tEv X.K Γ ib true)) (hm : behindInMarks (copOf o) b = false) : PE X (.Compare a [copOf o] [b] pos) (tEv X.K Γ (.cmp o ia ib) m) :=
  PE.imp (pe_cmpR (cmp_ok hu o) ha hb hm) fun σ H Q ⟨B0, st, fp, ρ, R, h⟩ => by
    rw [ev] at h
    refine ev_step R h fun x v H1 c1 R1 r1 h1 => ev_step R1 h1 fun y w H2 c2 R2 r2 h2 => ?_
    obtain ⟨r, e, q⟩ := T.all_ofO.mp h2
    obtain ⟨r', e2, rfl⟩ := Option.map_eq_some_iff.mp e
    have hB : ∀ p, st = some p → badOf B0 st fp p := fun _ => bad_st
    exact ⟨_, st, x.1, y.1, r', R2.gd, (r1.look hB).ch hB c2, r2.look hB, e2, Fin.same (Fin.back hB q (c1.trans c2)) R2.gd rfl⟩
theorem se_chain {o p : Cop} (hu : X.A.units + 65 < cLine) (ha : PE X a (tEv X.K Γ ia true)) (hb : PE X b (tEv X.K Γ ib true)) (hc : PE X c (tEv X.K Γ ic true)) (hm : behindInMarks (copOf p) c = false) : PE X (.Compare a [copOf o, copOf p] [b, c] pos) (tEv X.K Γ (.chain o p ia ib ic) m) :=
  PE.imp (pe_chain (cmp_ok hu o) (cmp_ok hu p) ha hb hc hm) fun σ H Q ⟨B0, st, fp, ρ, R, h⟩ => by
    rw [ev] at h
    refine ev_step R h fun x v H1 c1 R1 r1 h1 => ev_step R1 h1 fun y w H2 c2 R2 r2 h2 => ?_
    obtain ⟨r, e, q⟩ := T.all_ofO.mp (T.all_bind.mp h2)
    have hB : ∀ p, st = some p → badOf B0 st fp p := fun _ => bad_st
    refine ⟨_, st, x.1, y.1, r, R2.gd, (r1.look hB).ch hB c2, r2.look hB, e, r, rfl, ?_⟩
    cases r with
    | false => exact Fin.same (Fin.back hB q (c1.trans c2)) R2.gd rfl
    | true =>
      refine ev_step R2 q fun z u H3 c3 R3 r3 h3 => ?_
      obtain ⟨r, e, q⟩ := T.all_ofO.mp h3
      obtain ⟨r', e2, rfl⟩ := Option.map_eq_some_iff.mp e
      exact ⟨_, st, y.1, z.1, r', R3.gd, (r2.look hB).ch hB c3, r3.look hB, e2, Fin.same (Fin.back hB q (c1.trans (c2.trans c3))) R3.gd rfl⟩

/-! ### tests -/
theorem bl_val {K : Fg} {B : Addr → Prop} {st : Option Addr} {H : Hp} {b : Bool} {v : V} (h : Look K B st H (.bl b) v) : v = .bl b := h
theorem se_tv {e : Expr} {ie : E} (he : ∀ whole, isTrue e X.env whole = (do let v ← whole; standAt e.pos; holding [v] (truthy v))) (h : PE X e (tEv X.K Γ ie true)) : PT X e (tEvT X.K Γ (.tr ie)) :=
  PT.imp (pt_truth h he) fun σ H Q ⟨B0, st, fp, ρ, R, h⟩ => by
    unfold blT at h
    rw [ev] at h
    have h := T.all_bind.mp h
    refine ev_step R h fun x v H1 c1 R1 r1 h1 => ?_
    obtain ⟨r, e, q⟩ := T.all_ofO.mp h1
    obtain ⟨k, e2, rfl⟩ := Option.map_eq_some_iff.mp e
    have hB : ∀ p, st = some p → badOf B0 st fp p := fun _ => bad_st
    exact ⟨k, truth_ok (r1.look hB) e2, q H1 c1 R1.sok⟩
/-- a comparison as a test -/
theorem se_tcmp {o : Cop} (hu : X.A.units + 65 < cLine) (ha : PE X a (tEv X.K Γ ia true)) (hb : PE X b (tEv X.K Γ ib true)) (hm : behindInMarks (copOf o) b = false) : PT X (.Compare a [copOf o] [b] pos) (tEvT X.K Γ (.cmp o ia ib)) :=
  PT.imp (pt_cmpR (cmp_ok hu o) ha hb hm) fun σ H Q ⟨B0, st, fp, ρ, R, h⟩ => by
    unfold blT at h
    rw [ev] at h
    have h := T.all_bind.mp h
    refine ev_step R h fun x v H1 c1 R1 r1 h1 => ev_step R1 h1 fun y w H2 c2 R2 r2 h2 => ?_
    obtain ⟨r, e, q⟩ := T.all_ofO.mp h2
    obtain ⟨r', e2, rfl⟩ := Option.map_eq_some_iff.mp e
    have hB : ∀ p, st = some p → badOf B0 st fp p := fun _ => bad_st
    exact ⟨_, st, x.1, y.1, r', R2.gd, (r1.look hB).ch hB c2, r2.look hB, e2, r', rfl, q H2 (c1.trans c2) R2.sok⟩
theorem se_tchain {o p : Cop} (hu : X.A.units + 65 < cLine) (ha : PE X a (tEv X.K Γ ia true)) (hb : PE X b (tEv X.K Γ ib true)) (hc : PE X c (tEv X.K Γ ic true)) (hm : behindInMarks (copOf p) c = false) : PT X (.Compare a [copOf o, copOf p] [b, c] pos) (tEvT X.K Γ (.chain o p ia ib ic)) :=
  PT.imp (pt_chain (cmp_ok hu o) (cmp_ok hu p) ha hb hc hm) fun σ H Q ⟨B0, st, fp, ρ, R, h⟩ => by
    unfold blT at h
    rw [ev] at h
    have h := T.all_bind.mp h
    refine ev_step R h fun x v H1 c1 R1 r1 h1 => ev_step R1 h1 fun y w H2 c2 R2 r2 h2 => ?_
    obtain ⟨r, e, q⟩ := T.all_ofO.mp (T.all_bind.mp h2)
    have hB : ∀ p, st = some p → badOf B0 st fp p := fun _ => bad_st
    refine ⟨_, st, x.1, y.1, r, R2.gd, (r1.look hB).ch hB c2, r2.look hB, e, r, rfl, ?_⟩
    cases r with
    | false => exact ⟨false, rfl, q H2 (c1.trans c2) R2.sok⟩
    | true =>
      refine ev_step R2 q fun z u H3 c3 R3 r3 h3 => ?_
      obtain ⟨r, e, q⟩ := T.all_ofO.mp h3
      obtain ⟨r', e2, rfl⟩ := Option.map_eq_some_iff.mp e
      exact ⟨_, st, y.1, z.1, r', R3.gd, (r2.look hB).ch hB c3, r3.look hB, e2, r', rfl, q H3 (c1.trans (c2.trans c3)) R3.sok⟩
theorem blT_ret {P : Bool → Prop} {t : T Bool} : (blT (t.bind fun b => .ret (.bl b, false))).all P ↔ t.all P := by
  unfold blT
  rw [T.all_bind, T.all_bind]
  exact Iff.rfl
theorem cond_blT {b : Bool} {x y : T Rs} : blT (cond b x y) = cond b (blT x) (blT y) := by cases b <;> rfl
theorem se_tnot (ha : PT X a (tEvT X.K Γ ia)) : PT X (.UnaryOp .Not a pos) (tEvT X.K Γ (.nt ia)) :=
  PT.imp (pt_not ha) fun σ H Q ⟨B0, st, fp, ρ, R, h⟩ => by
    rw [ev] at h
    have h := (T.all_bind.mp (T.all_bind.mp h))
    exact ⟨B0, st, fp, ρ, R, T.all_mono (fun b hb H' c S => hb H' c S) h⟩
theorem se_tand1 (ha : PT X a (tEvT X.K Γ ia)) : PW X (.BoolOp .And [a] pos) (tEvT X.K Γ ia) := pw_and1 ha
theorem se_tor1 (ha : PT X a (tEvT X.K Γ ia)) : PW X (.BoolOp .Or [a] pos) (tEvT X.K Γ ia) := pw_or1 ha
theorem se_tand {rest : List Expr} (ha : PT X a (tEvT X.K Γ ia)) (hb : PW X (.BoolOp .And (b :: rest) pos) (tEvT X.K Γ ib)) : PW X (.BoolOp .And (a :: b :: rest) pos) (tEvT X.K Γ (.and2 ia ib)) :=
  PW.imp (pw_and ha hb) fun σ H Q ⟨B0, st, fp, ρ, R, h⟩ => by
    unfold blT at h
    rw [ev] at h
    have h := T.all_bind.mp h
    refine evT_step R h fun b H1 c1 R1 h1 => ?_
    cases b with
    | true =>
      rw [if_pos rfl]
      exact ⟨B0, st, fp, ρ, R1, T.all_mono (fun b hb H' c S => hb H' (c1.trans c) S) (T.all_bind.mpr h1)⟩
    | false => exact h1 H1 c1 R1.sok
theorem se_tor {rest : List Expr} (ha : PT X a (tEvT X.K Γ ia)) (hb : PW X (.BoolOp .Or (b :: rest) pos) (tEvT X.K Γ ib)) : PW X (.BoolOp .Or (a :: b :: rest) pos) (tEvT X.K Γ (.or2 ia ib)) :=
  PW.imp (pw_or ha hb) fun σ H Q ⟨B0, st, fp, ρ, R, h⟩ => by
    unfold blT at h
    rw [ev] at h
    have h := T.all_bind.mp h
    refine evT_step R h fun b H1 c1 R1 h1 => ?_
    cases b with
    | false =>
      rw [if_neg Bool.false_ne_true]
      exact ⟨B0, st, fp, ρ, R1, T.all_mono (fun b hb H' c S => hb H' (c1.trans c) S) (T.all_bind.mpr h1)⟩
    | true => exact h1 H1 c1 R1.sok
/-- .. as values -/
theorem blv_step {K : Fg} {B0 : Addr → Prop} {st : Option Addr} {fp : Nat → Option Addr} {ρ : Env} {σ : L2.St} {H : Hp} {Q : VK} {β : Type} {f : Bool → T β} {P : β → Prop} {e : E} (R : Rel K B0 st fp ρ σ H) (h : ((blT (ev Γ e true ρ)).bind f).all P)
    (k : ∀ b H1, Ch (Cs st) H H1 → Rel K B0 st fp ρ σ H1 → (f b).all P → Q (.bl b) H1) : tEv K Γ e true σ H Q := by
  unfold blT at h
  have h := T.all_bind.mp (T.all_bind.mp h)
  refine ⟨B0, st, fp, ρ, R, T.all_mono (fun x hx v H1 c S res => ?_) h⟩
  have l := res.look (fun _ => bad_st)
  obtain ⟨d, f⟩ := x
  cases d with
  | bl b => obtain rfl : v = _ := l; exact k b H1 c (R.mono c S) hx
  | _ => exact hx.elim
theorem se_vnot (ha : PE X a (tEv X.K Γ ia true)) : PE X (.UnaryOp .Not a pos) (tEv X.K Γ (.nt ia) m) :=
  PE.imp (pe_not ha) fun σ H Q ⟨B0, st, fp, ρ, R, h⟩ => by
    rw [ev] at h
    exact blv_step R h fun b H1 c1 R1 h1 => ⟨b, rfl, Fin.same (Fin.back (fun _ => bad_st) h1 c1) R1.gd rfl⟩
theorem se_vone {op : BoolOp} (ha : PE X a (tEv X.K Γ ia m)) : PE X (.BoolOp op [a] pos) (tEv X.K Γ ia m) := pe_one ha
theorem se_vand {rest : List Expr} (ha : PE X a (tEv X.K Γ ia true)) (hb : PE X (.BoolOp .And (b :: rest) pos) (tEv X.K Γ ib m)) : PE X (.BoolOp .And (a :: b :: rest) pos) (tEv X.K Γ (.and2 ia ib) m) :=
  PE.imp (pe_and ha hb) fun σ H Q ⟨B0, st, fp, ρ, R, h⟩ => by
    rw [ev] at h
    refine blv_step R h fun b H1 c1 R1 h1 => ⟨b, rfl, ?_⟩
    cases b with
    | true => rw [if_pos rfl]; exact ⟨B0, st, fp, ρ, R1, T.all_mono (fun r hr => Fin.back (fun _ => bad_st) hr c1) h1⟩
    | false => rw [if_neg Bool.false_ne_true]; exact Fin.same (Fin.back (fun _ => bad_st) h1 c1) R1.gd rfl
theorem se_vor {rest : List Expr} (ha : PE X a (tEv X.K Γ ia true)) (hb : PE X (.BoolOp .Or (b :: rest) pos) (tEv X.K Γ ib m)) : PE X (.BoolOp .Or (a :: b :: rest) pos) (tEv X.K Γ (.or2 ia ib) m) :=
  PE.imp (pe_or ha hb) fun σ H Q ⟨B0, st, fp, ρ, R, h⟩ => by
    rw [ev] at h
    refine blv_step R h fun b H1 c1 R1 h1 => ⟨b, rfl, ?_⟩
    cases b with
    | false => rw [if_neg Bool.false_ne_true]; exact ⟨B0, st, fp, ρ, R1, T.all_mono (fun r hr => Fin.back (fun _ => bad_st) hr c1) h1⟩
    | true => rw [if_pos rfl]; exact Fin.same (Fin.back (fun _ => bad_st) h1 c1) R1.gd rfl
theorem se_ite (hc : PT X c (tEvT X.K Γ ic)) (ha : PE X a (tEv X.K Γ ia m)) (hb : PE X b (tEv X.K Γ ib m)) : PE X (.IfExp c a b pos) (tEv X.K Γ (.ite ic ia ib) m) :=
  PE.imp (pe_ifExp hc ha hb) fun σ H Q ⟨B0, st, fp, ρ, R, h⟩ => by
    rw [ev] at h
    refine evT_step R h fun b H1 c1 R1 h1 => ?_
    cases b with
    | true => rw [if_pos rfl]; exact ⟨B0, st, fp, ρ, R1, T.all_mono (fun r hr => Fin.back (fun _ => bad_st) hr c1) h1⟩
    | false => rw [if_neg Bool.false_ne_true]; exact ⟨B0, st, fp, ρ, R1, T.all_mono (fun r hr => Fin.back (fun _ => bad_st) hr c1) h1⟩

/-! ### argument lists, displays -/
theorem Looks.ch {K : Fg} {B : Addr → Prop} {st : Option Addr} {H H' : Hp} (hB : ∀ p, st = some p → B p) (c : Ch (Cs st) H H') : ∀ {xs : List D} {vs : List V}, Looks K B st H xs vs → Looks K B st H' xs vs
  | [], _, h => h
  | x :: xs, _, ⟨v, r, e, h1, h2⟩ => ⟨v, r, e, h1.ch hB c, Looks.ch hB c h2⟩
theorem Many.cons {K : Fg} {B : Addr → Prop} {st : Option Addr} {H H1 H2 : Hp} {r : Rs} {xs : List D} {v : V} {vs : List V} (hB : ∀ p, st = some p → B p) (h1 : Res K B st m r H H1 v) (h2 : Many K B st m H2 xs vs) (c : Ch (Cs st) H1 H2) : Many K B st m H2 (r.1 :: xs) (v :: vs) := by
  unfold Many at h2 ⊢
  cases m with
  | true => exact ⟨v, vs, rfl, (h1.look hB).ch hB c, h2⟩
  | false => exact ⟨v, vs, rfl, Rep.ch c hB _ _ h1.rep, h2⟩
theorem se_nil : PA X [] (tEvs X.K Γ [] m) := PA.imp pa_nil fun σ H Q ⟨B0, st, fp, ρ, R, h⟩ => by
  rw [evs] at h
  refine h [] H .refl R.sok ?_
  unfold Many
  split <;> rfl
theorem se_cons {es : List Expr} {ies : List E} (ha : PE X a (tEv X.K Γ ia m)) (hr : PA X es (tEvs X.K Γ ies m)) (hs : starEach (a :: es) X.env = (false, eval a X.env) :: starEach es X.env) : PA X (a :: es) (tEvs X.K Γ (ia :: ies) m) :=
  PA.imp (pa_cons ha hr hs) fun σ H Q ⟨B0, st, fp, ρ, R, h⟩ => by
    rw [evs] at h
    refine ev_step R h fun x v H1 c1 R1 r1 h1 => evs_step R1 h1 fun xs vs H2 c2 R2 r2 h2 => ?_
    exact h2 _ H2 (c1.trans c2) R2.sok (Many.cons (fun _ => bad_st) r1 r2 c2)
theorem all_leaf {α β : Type} {f : α → T β} {P Q : β → Prop} (hf : ∀ a, (f a).all P → (f a).all fun b => P b ∧ Q b) : ∀ {t : T α}, (t.bind f).all P → (t.bind f).all fun b => P b ∧ Q b := fun {t} h =>
  T.all_bind.mpr (T.all_mono (fun a ha => hf a ha) (T.all_bind.mp h))
theorem evs_len {Γ : Sem} {ρ : Env} {m : Bool} : ∀ {es : List E} {P : List D → Prop}, (evs Γ es m ρ).all P → (evs Γ es m ρ).all fun xs => P xs ∧ xs.length = es.length
  | [], P, h => by rw [evs] at h ⊢; exact ⟨h, rfl⟩
  | e :: es, P, h => by
    rw [evs] at h ⊢
    refine T.all_bind.mpr (T.all_mono (fun x hx => ?_) (T.all_bind.mp h))
    refine T.all_bind.mpr (T.all_mono (fun xs hxs => ?_) (evs_len (T.all_bind.mp hx)))
    exact ⟨hxs.1, by rw [List.length_cons, List.length_cons, hxs.2]⟩
theorem evs_step' {K : Fg} {B0 : Addr → Prop} {st : Option Addr} {fp : Nat → Option Addr} {ρ : Env} {σ : L2.St} {H : Hp} {Γ : Sem} {β : Type} {f : List D → T β} {P : β → Prop} {es : List E} {QA : List V → Hp → Prop} (R : Rel K B0 st fp ρ σ H) (h : ((evs Γ es m ρ).bind f).all P)
    (k : ∀ xs vs H1, xs.length = es.length → Ch (Cs st) H H1 → Rel K B0 st fp ρ σ H1 → Many K (badOf B0 st fp) st m H1 xs vs → (f xs).all P → QA vs H1) : tEvs K Γ es m σ H QA :=
  ⟨B0, st, fp, ρ, R, T.all_mono (fun xs hx vs H1 c S res => k xs vs H1 hx.2 c (R.mono c S) res hx.1) (evs_len (T.all_bind.mp h))⟩
theorem small_line {n : Nat} (h : n ≤ 1000) : n ≤ sizeLine := by rw [sizeLine_eq]; omega
theorem se_tup {es : List Expr} {ies : List E} {k : Nat} (ha : PA X es (tEvs X.K Γ ies false)) (hl : ies.length ≤ 1000) : PE X (.Tuple es k pos) (tEv X.K Γ (.tup ies) m) :=
  PE.imp (pe_tup ha) fun σ H Q ⟨B0, st, fp, ρ, R, h⟩ => by
    rw [ev] at h
    refine evs_step' R h fun xs vs H1 e1 c1 R1 r1 h1 => ?_
    have r1 : Reps X.K (badOf B0 st fp) H1 xs vs := r1
    have hz : vs.length ≤ sizeLine := by rw [r1.length, e1]; exact small_line hl
    exact ⟨hz, fun p hp => Fin.tup (Fin.back (fun _ => bad_st) h1 c1) R1.gd hp hz r1⟩
theorem se_lst {es : List Expr} {ies : List E} (ha : PA X es (tEvs X.K Γ ies false)) (hl : ies.length ≤ 1000) : PE X (.List es pos) (tEv X.K Γ (.lst ies) m) :=
  PE.imp (pe_lst ha) fun σ H Q ⟨B0, st, fp, ρ, R, h⟩ => by
    rw [ev] at h
    refine evs_step' R h fun xs vs H1 e1 c1 R1 r1 h1 => ?_
    have r1 : Reps X.K (badOf B0 st fp) H1 xs vs := r1
    have hz : vs.length ≤ sizeLine := by rw [r1.length, e1]; exact small_line hl
    exact ⟨hz, fun p hp => Fin.list (Fin.back (fun _ => bad_st) h1 c1) R1.gd hp hz r1⟩

/-! ### places, slices -/
theorem se_ix (ha : PE X a (tEv X.K Γ ia true)) (hb : PE X b (tEv X.K Γ ib true)) (hs : PlainIx b) : PE X (.Subscript a b pos) (tEv X.K Γ (.ix ia ib) m) :=
  PE.imp (pe_ix ix_ok ha hb hs) fun σ H Q ⟨B0, st, fp, ρ, R, h⟩ => by
    rw [ev] at h
    refine ev_step R h fun x v H1 c1 R1 r1 h1 => ev_step R1 h1 fun y w H2 c2 R2 r2 h2 => ?_
    obtain ⟨r, e, q⟩ := T.all_ofO.mp h2
    obtain ⟨d, e2, rfl⟩ := Option.map_eq_some_iff.mp e
    have hB : ∀ p, st = some p → badOf B0 st fp p := fun _ => bad_st
    exact ⟨_, st, m, x.1, y.1, d, R2.gd, (r1.look hB).ch hB c2, r2.look hB, e2, Fin.back hB q (c1.trans c2)⟩
def tPrt (K : Fg) (Γ : Sem) (ie : List E) : TO := fun σ H Q => ∃ (B0 : Addr → Prop) (st : Option Addr) (fp : Nat → Option Addr) (ρ : Env), Rel K B0 st fp ρ σ H ∧
  ((evs Γ ie true ρ).bind fun l => T.ofO (oneI l)).all fun o => ∀ H', Ch (Cs st) H H' → StOk st H' → Q o H'
theorem PO.imp {e : Option Expr} {t t' : TO} (h : PO X e t) (i : ∀ σ H Q, t' σ H Q → t σ H Q) : PO X e t' := ⟨fun pins s σ H Q I q => h.run pins s σ H Q I (i σ H Q q)⟩
theorem se_none : PO X none (tPrt X.K Γ []) := PO.imp po_none fun σ H Q ⟨B0, st, fp, ρ, R, h⟩ => by
  rw [evs] at h
  exact h H .refl R.sok
theorem se_some (ha : PE X a (tEv X.K Γ ia true)) : PO X (some a) (tPrt X.K Γ [ia]) := PO.imp (po_some ha) fun σ H Q ⟨B0, st, fp, ρ, R, h⟩ => by
  rw [evs] at h
  refine ev_step R (T.all_bind.mp h |> T.all_bind.mp |> T.all_bind.mpr) fun x v H1 c1 R1 r1 h1 => ?_
  rw [evs] at h1
  have l := r1.look (fun _ => bad_st)
  obtain ⟨d, f⟩ := x
  cases d with
  | int i => exact ⟨i, l, h1 H1 c1 R1.sok⟩
  | _ => exact h1.elim
theorem prt_step {K : Fg} {B0 : Addr → Prop} {st : Option Addr} {fp : Nat → Option Addr} {ρ : Env} {σ : L2.St} {H : Hp} {Γ : Sem} {β : Type} {f : Option Int → T β} {P : β → Prop} {es : List E} {QA : Option Int → Hp → Prop} (R : Rel K B0 st fp ρ σ H) (h : (((evs Γ es true ρ).bind fun l => T.ofO (oneI l)).bind f).all P)
    (k : ∀ o H1, Ch (Cs st) H H1 → Rel K B0 st fp ρ σ H1 → (f o).all P → QA o H1) : tPrt K Γ es σ H QA :=
  ⟨B0, st, fp, ρ, R, T.all_mono (fun o ho H1 c S => k o H1 c (R.mono c S) ho) (T.all_bind.mp h)⟩
theorem se_sl {lo hi : Option Expr} {il ih : List E} {p2 : Pos} (ha : PE X a (tEv X.K Γ ia true)) (hl : PO X lo (tPrt X.K Γ il)) (hh : PO X hi (tPrt X.K Γ ih)) : PE X (.Subscript a (.Slice lo hi none p2) pos) (tEv X.K Γ (.sl ia il ih) m) :=
  PE.imp (pe_slice sl_ok ha hl hh) fun σ H Q ⟨B0, st, fp, ρ, R, h⟩ => by
    rw [ev] at h
    refine ev_step R h fun x v H1 c1 R1 r1 h1 => prt_step R1 h1 fun i H2 c2 R2 h2 => prt_step R2 h2 fun j H3 c3 R3 h3 => ?_
    obtain ⟨r, e, q⟩ := T.all_ofO.mp h3
    have hB : ∀ p, st = some p → badOf B0 st fp p := fun _ => bad_st
    exact ⟨_, st, m, x.1, r, R3.gd, (r1.look hB).ch hB (c2.trans c3), e, Fin.back hB q (c1.trans (c2.trans c3))⟩
theorem se_rev {k : Nat} {p1 p2 p3 : Pos} (ha : PE X a (tEv X.K Γ ia true)) : PE X (.Subscript a (.Slice none none (some (.UnaryOp .USub (.Constant (.int 1) k p1) p2)) p3) pos) (tEv X.K Γ (.rev ia) m) :=
  PE.imp (pe_revL ha) fun σ H Q ⟨B0, st, fp, ρ, R, h⟩ => by
    rw [ev] at h
    refine ev_step R h fun x v H1 c1 R1 r1 h1 => ?_
    obtain ⟨r, e, q⟩ := T.all_ofO.mp h1
    have hB : ∀ p, st = some p → badOf B0 st fp p := fun _ => bad_st
    have l := r1.look hB
    obtain ⟨d, f⟩ := x
    cases d with
    | lst xs =>
      obtain ⟨p, vs, rfl, _, hp, hl, hr⟩ := l
      cases e
      exact ⟨p, vs, rfl, SqL.of hp, fun d hd => Fin.list (Fin.back hB q c1) R1.gd hd (by rw [List.length_reverse]; exact hl) hr.reverse⟩
    | _ => simp [revD] at e

/-! ### calls -/
theorem se_bi {id : String} {x : Str} {p : Pos} {es : List Expr} {ies : List E} {bi : Bi} (hc : CallR X (.builtin id) (rBi X.K bi)) (hg : Gl X x) (hm : X.mg x = none) (hv : bootBuiltins x = some (.builtin id)) (ha : PA X (a :: es) (tEvs X.K Γ ies true))
    (hn : x ≠ "__name__") (hdb : (x == ("__debug__" : Str)) = false) (he : starEach (a :: es) X.env = (false, eval a X.env) :: starEach es X.env) (hpl : (backTo pos (starEach es X.env)).any (·.1) = false) : PE X (.Call (.Name x p) (a :: es) [] pos) (tEv X.K Γ (.bi bi ies) m) :=
  PE.imp (pe_callB hc hg hm hv ha hn hdb he hpl) fun σ H Q ⟨B0, st, fp, ρ, R, h⟩ => by
    rw [ev] at h
    refine evs_step R h fun xs vs H1 c1 R1 r1 h1 => ?_
    obtain ⟨r, e, q⟩ := T.all_ofO.mp h1
    exact ⟨_, st, m, xs, r, R1.gd, r1, e, Fin.back (fun _ => bad_st) q c1⟩
theorem se_bty {tn : String} {x : Str} {p : Pos} {es : List Expr} {ies : List E} {bi : Bi} (hc : CallR X (.type tn) (rBi X.K bi)) (hg : Gl X x) (hm : X.mg x = none) (hv : bootBuiltins x = some (.type tn)) (ha : PA X (a :: es) (tEvs X.K Γ ies true))
    (hn : x ≠ "__name__") (hdb : (x == ("__debug__" : Str)) = false) (he : starEach (a :: es) X.env = (false, eval a X.env) :: starEach es X.env) (hpl : (backTo pos (starEach es X.env)).any (·.1) = false) : PE X (.Call (.Name x p) (a :: es) [] pos) (tEv X.K Γ (.bi bi ies) m) :=
  PE.imp (pe_callTy hc hg hm hv ha hn hdb he hpl) fun σ H Q ⟨B0, st, fp, ρ, R, h⟩ => by
    rw [ev] at h
    refine evs_step R h fun xs vs H1 c1 R1 r1 h1 => ?_
    obtain ⟨r, e, q⟩ := T.all_ofO.mp h1
    exact ⟨_, st, m, xs, r, R1.gd, r1, e, Fin.back (fun _ => bad_st) q c1⟩
theorem se_bfun {id : String} {x : Str} {p : Pos} {es : List Expr} {ies : List E} {bi : Bi} (hc : CallR X (.builtin id) (rBi X.K bi)) (hg : Gl X x) (hm : X.mg x = some (.builtin id)) (ha : PA X (a :: es) (tEvs X.K Γ ies true))
    (hdb : (x == ("__debug__" : Str)) = false) (he : starEach (a :: es) X.env = (false, eval a X.env) :: starEach es X.env) (hpl : (backTo pos (starEach es X.env)).any (·.1) = false) : PE X (.Call (.Name x p) (a :: es) [] pos) (tEv X.K Γ (.bi bi ies) m) :=
  PE.imp (pe_callBfun hc hg hm ha hdb he hpl) fun σ H Q ⟨B0, st, fp, ρ, R, h⟩ => by
    rw [ev] at h
    refine evs_step R h fun xs vs H1 c1 R1 r1 h1 => ?_
    obtain ⟨r, e, q⟩ := T.all_ofO.mp h1
    exact ⟨_, st, m, xs, r, R1.gd, r1, e, Fin.back (fun _ => bad_st) q c1⟩
/-- the class named in an isinstance -/
theorem se_isi1 {p pt : Pos} {x xt : Str} {t : Ty} (hg : Gl X x) (hm : X.mg x = none) (hv : bootBuiltins x = some (.builtin "isinstance")) (ha : PE X a (tEv X.K Γ ia true)) (hgt : Gl X xt) (hmt : X.mg xt = none) (hvt : bootBuiltins xt = some (.type (tyName t)))
    (hn : x ≠ "__name__") (hdb : (x == ("__debug__" : Str)) = false) (hnt : xt ≠ "__name__") (hdbt : (xt == ("__debug__" : Str)) = false) (he : starEach [a, .Name xt pt] X.env = (false, eval a X.env) :: starEach [.Name xt pt] X.env) :
    PE X (.Call (.Name x p) [a, .Name xt pt] [] pos) (tEv X.K Γ (.isi ia [t]) m) :=
  PE.imp (pe_callB call_isi hg hm hv (pa_cons ha (pa_cons (pe_bltn (v := .ty (tyName t)) hgt hmt hvt rfl hnt hdbt) pa_nil) he) hn hdb he rfl) fun σ H Q ⟨B0, st, fp, ρ, R, h⟩ => by
    rw [ev] at h
    refine ev_step R h fun r v H1 c1 R1 r1 h1 => ?_
    have l := r1.look (fun _ => bad_st)
    refine ⟨v, .ty (tyName t), _, _, tyD r.1 t, rfl, .ty _, tyx_of l, kit_one r.1 t (ne_dic l), Fin.same (Fin.back (fun _ => bad_st) h1 c1) R1.gd ?_⟩
    show V.bl _ = V.bl _
    simp [allTy]
theorem se_isi2 {p p1 p2 pt : Pos} {k : Nat} {x x1 x2 : Str} {t1 t2 : Ty} (hg : Gl X x) (hm : X.mg x = none) (hv : bootBuiltins x = some (.builtin "isinstance")) (ha : PE X a (tEv X.K Γ ia true)) (hg1 : Gl X x1) (hm1 : X.mg x1 = none) (hv1 : bootBuiltins x1 = some (.type (tyName t1)))
    (hg2 : Gl X x2) (hm2 : X.mg x2 = none) (hv2 : bootBuiltins x2 = some (.type (tyName t2)))
    (hn : x ≠ "__name__") (hdb : (x == ("__debug__" : Str)) = false) (hn1 : x1 ≠ "__name__") (hdb1 : (x1 == ("__debug__" : Str)) = false) (hn2 : x2 ≠ "__name__") (hdb2 : (x2 == ("__debug__" : Str)) = false) (he : starEach [a, .Tuple [.Name x1 p1, .Name x2 p2] k pt] X.env = (false, eval a X.env) :: starEach [.Tuple [.Name x1 p1, .Name x2 p2] k pt] X.env) :
    PE X (.Call (.Name x p) [a, .Tuple [.Name x1 p1, .Name x2 p2] k pt] [] pos) (tEv X.K Γ (.isi ia [t1, t2]) m) :=
  PE.imp (pe_callB call_isiT hg hm hv (pa_cons ha (pa_cons (pe_tup (pa_cons (pe_bltn (v := .ty (tyName t1)) hg1 hm1 hv1 rfl hn1 hdb1) (pa_cons (pe_bltn (v := .ty (tyName t2)) hg2 hm2 hv2 rfl hn2 hdb2) pa_nil))) pa_nil) he) hn hdb he rfl) fun σ H Q ⟨B0, st, fp, ρ, R, h⟩ => by
    rw [ev] at h
    refine ev_step R h fun r v H1 c1 R1 r1 h1 => ?_
    have l := r1.look (fun _ => bad_st)
    refine ⟨small_line (show 2 ≤ 1000 by decide), fun q hq => ?_⟩
    refine ⟨v, q, _, _, _, allTy r.1 [t1, t2], rfl, upd_same, .cons (.ty _) (.cons (.ty _) .nil), tyx_of (l.ch (fun _ => bad_st) (Ch.new hq)), kit_any r.1 (ne_dic l) [t1, t2], ?_⟩
    exact h1 _ _ (c1.trans (Ch.new hq)) (R1.sok.ch hq) (.of (fun _ => bad_st) rfl)

/-! ### calls of defs -/
def Args (K : Fg) (B : Addr → Prop) (st : Option Addr) (H : Hp) : List Arg → List V → Prop
  | [], vs => vs = []
  | .d x :: as, vs => ∃ v r, vs = v :: r ∧ Rep K B H x v ∧ Args K B st H as r
  | .st :: as, vs => ∃ p r, vs = .ref p :: r ∧ st = some p ∧ Args K B st H as r
  | .scr :: as, vs => ∃ v r, vs = v :: r ∧ Scr K H v ∧ Args K B st H as r
/-- the promise of a def of n parameters: it yields what g yields -/
def spF (K : Fg) (n : Nat) (g : List Arg → T Rs) : Sp := fun vs H Q _ => vs.length = n ∧ ∃ (B : Addr → Prop) (st : Option Addr) (as : List Arg), Gd B st H ∧ Args K B st H as vs ∧ (g as).all fun r => Fin K B st false r H Q
def tEvA (K : Fg) (Γ : Sem) (es : List E) : TA := fun σ H Q => ∃ (B0 : Addr → Prop) (st : Option Addr) (fp : Nat → Option Addr) (ρ : Env), Rel K B0 st fp ρ σ H ∧
  (evA Γ es ρ).all fun as => ∀ vs H', Ch (Cs st) H H' → StOk st H' → Args K (badOf B0 st fp) st H' as vs → Q vs H'
theorem Args.ch {K : Fg} {B : Addr → Prop} {st : Option Addr} {H H' : Hp} (hB : ∀ p, st = some p → B p) (c : Ch (Cs st) H H') : ∀ {as : List Arg} {vs : List V}, Args K B st H as vs → Args K B st H' as vs
  | [], _, h => h
  | .d x :: as, _, ⟨v, r, e, h1, h2⟩ => ⟨v, r, e, Rep.ch c hB _ _ h1, Args.ch hB c h2⟩
  | .st :: as, _, ⟨p, r, e, h1, h2⟩ => ⟨p, r, e, h1, Args.ch hB c h2⟩
  | .scr :: as, _, ⟨v, r, e, h1, h2⟩ => ⟨v, r, e, h1.ch c, Args.ch hB c h2⟩
theorem Args.length {K : Fg} {B : Addr → Prop} {st : Option Addr} {H : Hp} : ∀ {as : List Arg} {vs : List V}, Args K B st H as vs → vs.length = as.length
  | [], _, h => by rw [show _ = _ from h]; rfl
  | .d x :: as, _, ⟨v, r, e, h1, h2⟩ => by rw [e, List.length_cons, List.length_cons, Args.length h2]
  | .st :: as, _, ⟨p, r, e, h1, h2⟩ => by rw [e, List.length_cons, List.length_cons, Args.length h2]
  | .scr :: as, _, ⟨v, r, e, h1, h2⟩ => by rw [e, List.length_cons, List.length_cons, Args.length h2]
theorem sa_nil : PA X [] (tEvA X.K Γ []) := PA.imp pa_nil fun σ H Q ⟨B0, st, fp, ρ, R, h⟩ => by
  rw [evA] at h
  exact h [] H .refl R.sok rfl
theorem evA_eq {Γ : Sem} {e : E} {es : List E} {ρ : Env} (h : isV e = false) : evA Γ (e :: es) ρ = (ev Γ e false ρ).bind fun x => (evA Γ es ρ).bind fun xs => .ret (.d x.1 :: xs) := by
  cases e with
  | v i => cases h
  | _ => rw [evA]; intro i z; cases z
theorem evA_step {K : Fg} {B0 : Addr → Prop} {st : Option Addr} {fp : Nat → Option Addr} {ρ : Env} {σ : L2.St} {H : Hp} {Γ : Sem} {β : Type} {f : List Arg → T β} {P : β → Prop} {es : List E} {QA : List V → Hp → Prop} (R : Rel K B0 st fp ρ σ H) (h : ((evA Γ es ρ).bind f).all P)
    (k : ∀ as vs H1, Ch (Cs st) H H1 → Rel K B0 st fp ρ σ H1 → Args K (badOf B0 st fp) st H1 as vs → (f as).all P → QA vs H1) : tEvA K Γ es σ H QA :=
  ⟨B0, st, fp, ρ, R, T.all_mono (fun as ha vs H1 c S res => k as vs H1 c (R.mono c S) res ha) (T.all_bind.mp h)⟩
theorem sa_cons {es : List Expr} {ies : List E} (hv : isV ia = false) (ha : PE X a (tEv X.K Γ ia false)) (hr : PA X es (tEvA X.K Γ ies)) (hs : starEach (a :: es) X.env = (false, eval a X.env) :: starEach es X.env) : PA X (a :: es) (tEvA X.K Γ (ia :: ies)) :=
  PA.imp (pa_cons ha hr hs) fun σ H Q ⟨B0, st, fp, ρ, R, h⟩ => by
    rw [evA_eq hv] at h
    refine ev_step R h fun x v H1 c1 R1 r1 h1 => evA_step R1 h1 fun as vs H2 c2 R2 r2 h2 => ?_
    exact h2 _ H2 (c1.trans c2) R2.sok ⟨v, vs, rfl, Rep.ch c2 (fun _ => bad_st) _ _ r1.rep, r2⟩
theorem sa_var {es : List Expr} {ies : List E} {i : Nat} (ha : PE X a (tVar i)) (hr : PA X es (tEvA X.K Γ ies)) (hs : starEach (a :: es) X.env = (false, eval a X.env) :: starEach es X.env) : PA X (a :: es) (tEvA X.K Γ (.v i :: ies)) :=
  PA.imp (pa_cons ha hr hs) fun σ H Q ⟨B0, st, fp, ρ, R, h⟩ => by
    rw [evA] at h
    split at h
    · rename_i e
      obtain ⟨p, e1, e2⟩ := R.slot i _ e
      refine ⟨_, e2, evA_step R h fun as vs H2 c2 R2 r2 h2 => ?_⟩
      exact h2 _ H2 c2 R2.sok ⟨p, vs, rfl, e1, r2⟩
    · rename_i e
      obtain ⟨v, e2, e1⟩ := R.slot i _ e
      refine ⟨_, e2, evA_step R h fun as vs H2 c2 R2 r2 h2 => ?_⟩
      exact h2 _ H2 c2 R2.sok ⟨v, vs, rfl, e1.ch c2, r2⟩
    · rw [ev] at h
      obtain ⟨r, e, q⟩ := T.all_ofO.mp (T.all_bind.mp h)
      obtain ⟨d, e2, rfl⟩ := Option.map_eq_some_iff.mp e
      obtain ⟨v, e1, r⟩ := rd_spec R e2
      rw [if_neg Bool.false_ne_true] at r
      refine ⟨v, e1, evA_step R q fun as vs H2 c2 R2 r2 h2 => ?_⟩
      exact h2 _ H2 c2 R2.sok ⟨v, vs, rfl, Rep.ch c2 (fun _ => bad_st) _ _ r, r2⟩
theorem evA_len {Γ : Sem} {ρ : Env} : ∀ {es : List E} {P : List Arg → Prop}, (evA Γ es ρ).all P → (evA Γ es ρ).all fun xs => P xs ∧ xs.length = es.length
  | [], P, h => by rw [evA] at h ⊢; exact ⟨h, rfl⟩
  | e :: es, P, h => by
    have gen : ∀ {t : T Rs}, (t.bind fun x => (evA Γ es ρ).bind fun xs => .ret (.d x.1 :: xs)).all P → (t.bind fun x => (evA Γ es ρ).bind fun xs => .ret (.d x.1 :: xs)).all fun xs => P xs ∧ xs.length = (e :: es).length := fun {t} h => by
      refine T.all_bind.mpr (T.all_mono (fun x hx => ?_) (T.all_bind.mp h))
      refine T.all_bind.mpr (T.all_mono (fun xs hxs => ?_) (evA_len (T.all_bind.mp hx)))
      exact ⟨hxs.1, by rw [List.length_cons, List.length_cons, hxs.2]⟩
    cases hv : isV e with
    | false => rw [evA_eq hv] at h ⊢; exact gen h
    | true =>
      cases e with
      | v i =>
        rw [evA] at h ⊢
        split at h
        · refine T.all_bind.mpr (T.all_mono (fun xs hxs => ?_) (evA_len (T.all_bind.mp h)))
          exact ⟨hxs.1, by rw [List.length_cons, List.length_cons, hxs.2]⟩
        · refine T.all_bind.mpr (T.all_mono (fun xs hxs => ?_) (evA_len (T.all_bind.mp h)))
          exact ⟨hxs.1, by rw [List.length_cons, List.length_cons, hxs.2]⟩
        · exact gen h
      | _ => cases hv
theorem se_call {k n lev : Nat} {f : Addr} {fd : FuncData} {ps : List Str} {x : Str} {p : Pos} {es : List Expr} {ies : List E} (F : FnOk X.prog X.w X.K X.mg X.base CX0 lev f fd ps (spF X.K n (Γ k))) (hr : Room lev X.A) (hg : Gl X x) (hm : X.mg x = some (.ref f)) (hk : PySem.W.keepIn X.K (.ref f) = true) (hb : Binds X.K fd ps [])
    (ha : PA X (a :: es) (tEvA X.K Γ ies)) (hl : ies.length = n) (hdb : (x == ("__debug__" : Str)) = false) (he : starEach (a :: es) X.env = (false, eval a X.env) :: starEach es X.env) (hpl : (backTo pos (starEach es X.env)).any (·.1) = false) : PE X (.Call (.Name x p) (a :: es) [] pos) (tEv X.K Γ (.call k ies) m) :=
  PE.imp (pe_call F hr hg hm hk hb .nil pass0 ha hdb he hpl) fun σ H Q ⟨B0, st, fp, ρ, R, h⟩ => by
    rw [ev] at h
    refine ⟨B0, st, fp, ρ, R, T.all_mono (fun as h1 vs H1 c1 S1 r1 => ?_) (evA_len (T.all_bind.mp h))⟩
    obtain ⟨h1, e1⟩ := h1
    have R1 := R.mono c1 S1
    refine ⟨by rw [List.append_nil, r1.length, e1, hl], _, st, as, R1.gd, by rw [List.append_nil]; exact r1, T.all_mono (fun r hr v H2 c2 S2 res => ?_) h1⟩
    exact hr v H2 (c1.trans c2) S2 ((res.up fun _ => bad_st).back (fun _ => bad_st) c1)
theorem se_call0 {k lev : Nat} {f : Addr} {fd : FuncData} {ps : List Str} {x : Str} {p : Pos} (F : FnOk X.prog X.w X.K X.mg X.base CX0 lev f fd ps (spF X.K 0 (Γ k))) (hr : Room lev X.A) (hg : Gl X x) (hm : X.mg x = some (.ref f)) (hk : PySem.W.keepIn X.K (.ref f) = true) (hb : Binds X.K fd ps [])
    (hdb : (x == ("__debug__" : Str)) = false) : PE X (.Call (.Name x p) [] [] pos) (tEv X.K Γ (.call k []) m) :=
  PE.imp (pe_call0 F hr hg hm hk hb .nil pass0 hdb) fun σ H Q ⟨B0, st, fp, ρ, R, h⟩ => by
    rw [ev, evA] at h
    refine ⟨rfl, _, st, [], R.gd, rfl, T.all_mono (fun r hr v H2 c2 S2 res => ?_) h⟩
    exact hr v H2 c2 S2 (res.up fun _ => bad_st)
/-- the promise of the def that draws -/
def spDraw (K : Fg) : Sp := fun vs H Q _ => ∃ (p : Addr) (s : Int) (k v : Int) (w : V), vs = [.ref p, w, .int s] ∧ Scr K H w ∧ H p = some (.lst [.int k, .int v]) ∧ 0 < s ∧ s < 2 ^ 30 ∧
  ∀ d k' v' : Int, 0 ≤ d → d < s → Q (.int d) (upd H p (.lst [.int k', .int v']))
theorem se_draw {lev i j : Nat} {f : Addr} {fd : FuncData} {ps : List Str} {x : Str} {p : Pos} (F : FnOk X.prog X.w X.K X.mg X.base CX0 lev f fd ps (spDraw X.K)) (hr : Room lev X.A) (hg : Gl X x) (hm : X.mg x = some (.ref f)) (hk : PySem.W.keepIn X.K (.ref f) = true) (hb : Binds X.K fd ps [])
    (ha : PE X a (tVar i)) (hb' : PE X b (tVar j)) (hc : PE X c (tEv X.K Γ ic true)) (hdb : (x == ("__debug__" : Str)) = false) (h1 : starEach [a, b, c] X.env = (false, eval a X.env) :: starEach [b, c] X.env) (h2 : starEach [b, c] X.env = (false, eval b X.env) :: starEach [c] X.env) (h3 : starEach [c] X.env = (false, eval c X.env) :: starEach [] X.env)
    (hpl : (backTo pos (starEach [b, c] X.env)).any (·.1) = false) : PE X (.Call (.Name x p) [a, b, c] [] pos) (tEv X.K Γ (.draw i j ic) m) :=
  PE.imp (pe_call F hr hg hm hk hb .nil pass0 (pa_cons ha (pa_cons hb' (pa_cons hc pa_nil h3) h2) h1) hdb h1 hpl) fun σ H Q ⟨B0, st, fp, ρ, R, h⟩ => by
    rw [ev] at h
    have hs : ρ[i]? = some .st ∧ ρ[j]? = some .scr := by
      have : ∀ t : T Rs, (t.bind fun x => drawT ρ i j x.1).all (fun r => Fin X.K (badOf B0 st fp) st m r H Q) → ρ[i]? = some .st ∧ ρ[j]? = some .scr := fun t => by
        induction t with
        | ret a =>
          intro h
          have h : (drawT ρ i j a.1).all _ := h
          unfold drawT at h
          split at h
          · exact ⟨by assumption, by assumption⟩
          · exact h.elim
        | err => intro h; exact h.elim
        | drw n k ih => intro h; exact ih 0 (h.2 0 h.1)
      exact this _ h
    obtain ⟨p, e1, e2⟩ := R.slot i _ hs.1
    obtain ⟨w, e3, e4⟩ := R.slot j _ hs.2
    refine ⟨_, e2, _, e3, ?_⟩
    refine ev_step R h fun r u H1 c1 R1 r1 h1 => ?_
    have l := r1.look (fun _ => bad_st)
    obtain ⟨d, fr⟩ := r
    unfold drawT at h1
    rw [hs.1, hs.2] at h1
    cases d with
    | int s =>
      obtain rfl := l
      simp only at h1
      split at h1
      · rename_i hz
        obtain ⟨k, v, hp⟩ := R1.sok p e1
        refine ⟨p, s, k, v, w, rfl, e4.ch c1, hp, hz.1, hz.2, fun d k' v' h0 hd => ?_⟩
        have hd' : d.toNat < s.toNat := by omega
        have q : Fin X.K (badOf B0 st fp) st m (.int ((d.toNat : Nat) : Int), false) H Q := h1.2 d.toNat hd'
        have ed : ((d.toNat : Nat) : Int) = d := Int.toNat_of_nonneg h0
        rw [ed] at q
        have c2 : Ch (Cs st) H1 (upd H1 p (.lst [.int k', .int v'])) := Ch.put hp rfl e1
        refine q _ _ (c1.trans c2) (fun q' e' => ?_) (.of (fun _ => bad_st) rfl)
        rw [e1] at e'; cases e'
        exact ⟨k', v', upd_same⟩
      · exact h1.elim
    | _ => exact h1.elim
end
end FF

set_option Elab.async false
set_option linter.all false
set_option maxRecDepth 100000
set_option maxHeartbeats 4000000
/-! FFE: enumerate over a tuple. -/
namespace FF
open PySem PySem.Spec PyProof.Rows L2
section
theorem newEnum1 {v : Value} {o : Obj} {G : Heap → Prop} (B : Begins v o G) : Meets (Builtin.«enumerate.__new__» ⟨[.type "enumerate", v], []⟩) (fun _ R s => G s.heap ∧ R (.ok (.ret (.ref (s.heap.push o).objs.size))) { s with heap := (s.heap.push o).push { cls := .type "enumerate", data := .fields #[.none, .bool false, .ref s.heap.objs.size, rawInt 0, .none, .none] } }) :=
  .of_wp fun prog w A R s h => by
    obtain ⟨hp, gg, dd, tk, os⟩ := s
    obtain ⟨g1, hR⟩ := h
    have sb := sub_enumerate
    have it1 : ∀ {A' : Around} {E : Value → Shared → Prop} {Q : Value → Shared → Prop}, Q (.ref hp.objs.size) ⟨hp.push o, gg, dd, tk, os⟩ → wpAny (model prog w) A' (pyIter v) Q E ⟨hp, gg, dd, tk, os⟩ := fun q => B.iter prog w _ _ ⟨hp, gg, dd, tk, os⟩ _ g1 q
    wp_walk using it1
    refine wpAny_stack_any fun st => wpAny_pure ?_
    split
    · rename_i c _ _ _ _ _
      cases (c == Value.type "enumerate") <;> (wp_walk using it1; exact ⟨_, rfl, hR⟩)
    · wp_walk using it1; exact ⟨_, rfl, hR⟩
theorem callEnum1 {prog : Program} {w : World} {A : Around} {E : Value → Shared → Prop} {s : Shared} {v : Value} {o : Obj} {G : Heap → Prop} {Q : Value → Shared → Prop} (B : Begins v o G) (g1 : G s.heap)
    (h : ∀ h', IsEnum h' (s.heap.objs.size + 1) s.heap.objs.size 0 .none → h'.get? s.heap.objs.size = some o → (∀ b ob, s.heap.get? b = some ob → h'.get? b = some ob) → Q (.ref (s.heap.objs.size + 1)) { s with heap := h' }) : wpAny (model prog w) A (call (.type "enumerate") [v]) Q E s := by
  refine callType_new F.called_enumerate (by decide) (F.typeCall_enumerate_1 _) (F.newCall_enumerate_1 _) (fun ob => F.args_object_init_2 ob _) F.entry_enumerate_new (newEnum1 B) ⟨g1, ?_⟩
  have sz : (s.heap.push o).objs.size = s.heap.objs.size + 1 := Heap.size_push ..
  show _ ∧ _
  rw [sz]
  have he := Heap.get?_push_size (s.heap.push o) (o := { cls := .type "enumerate", data := .fields #[.none, .bool false, .ref s.heap.objs.size, rawInt 0, .none, .none] }) rfl
  rw [sz] at he
  exact ⟨⟨_, he, rfl⟩, h _ he (Heap.get?_push_of_some _ (Heap.get?_push_size _ B.free)) fun b ob x => Heap.get?_push_of_some _ (Heap.get?_push_of_some _ x)⟩
/-- a tuple as it stands at each turn, each item in a new pair -/
def IteT (K : Fg) (a : Addr) : It :=
  ⟨fun i H => ∃ (xs : List V) (x : V), SqT K H a xs ∧ xs[i]? = some x, fun i H v H' => ∃ T x, v = .ref T ∧ H T = none ∧ H' = upd H T (.tup [.int (i : Nat), x]) ∧ (∀ xs, SqT K H a xs → xs[i]? = some x), fun i H => ∃ xs : List V, SqT K H a xs ∧ xs.length = i⟩
theorem turnEnumT {P : Program} {w : World} {K : Fg} {elts : List Expr} {kk : Nat} {tpos : Pos} {a e it : Addr} (hae : e ≠ a) (hai : a ≠ it) :
    Turn P w K (.Tuple elts kk tpos) (IteT K a) [e, it] e (fun i h => (∃ old, IsEnum h e it ((i : Nat) : Int) old) ∧ h.IsTupleIter it a i ∧ e ≠ it) where
  mem := by simp
  obj := fun i h st b hb => by
    obtain ⟨⟨old, he⟩, ⟨ob, ho, hc, hd⟩, _⟩ := st
    rcases (by simpa using hb : b = e ∨ b = it) with z | z
    · rw [z]; exact ⟨_, he, fun v q => by cases q⟩
    · rw [z]; exact ⟨ob, ho, fun v q => by rw [hd] at q; cases q⟩
  keep := fun i h h' st k => by
    obtain ⟨⟨old, he⟩, hi, hne⟩ := st
    exact ⟨⟨old, k e (by simp) _ he⟩, hi.at (fun ob q => k it (by simp) ob q), hne⟩
  item := by
    intro X hP hw hK hc i pins s σ H E I hf st hg
    subst hP hw hK
    obtain ⟨⟨old, he⟩, hit, hne⟩ := st
    obtain ⟨xs, x, hq, hx⟩ := hg
    obtain ⟨its, rv, p, hz⟩ := I.tuple hq
    obtain ⟨u, hu, ru⟩ := rv.get hx
    have el : e < s.heap.objs.size := Heap.lt_size he
    have il : it < s.heap.objs.size := by obtain ⟨_, q, _⟩ := hit; exact Heap.lt_size q
    have hlt : i < its.toArray.size := by
      rcases Nat.lt_or_ge i its.length with z | z
      · simpa using z
      · rw [List.getElem?_eq_none z] at hu; cases hu
    have hd : X.A.in1.handled = none := I.ok.hd hc
    refine wpAny_pyNext_enum_itemD (Draws.tuple hd it a hai its.toArray) he ⟨hit, p⟩ hlt hne (by simp [hne, hae]) fun x' h' tk hP' ho st' hT hsz hk => ?_
    have ex : x' = u := by
      have h1 : its[i]? = some x' := by simpa using hP'
      rw [hu] at h1; cases h1; rfl
    subst ex
    refine ⟨_, rfl, wpAny_letOwnedTupleGo_enum (s := { s with heap := h', toks := tk + 1 }) ho fun h'' he' sb => ?_⟩
    have hT2 : h''.get? s.heap.objs.size = some { cls := .type "tuple", data := .seq #[.int i tk, x'] } := (sb.2 _ (Nat.ne_of_gt el)).trans hT
    have new : ObjOk X.prog X.w (upd H s.heap.objs.size (.tup [.int (i : Nat), x])) h'' s.heap.objs.size (.tup [.int (i : Nat), x]) := ⟨by show 2 ≤ sizeLine; decide, [.int i tk, x'], .cons ⟨_, rfl⟩ (.cons ru .nil), ⟨_, hT2, rfl, _, rfl⟩⟩
    have I1 : Inv X pins σ (upd H s.heap.objs.size (.tup [.int (i : Nat), x])) { s with heap := h'', toks := tk + 1 } :=
      I.turnedNew (t' := tk + 1) (ch := [e, it]) (fun b ob hb q => (sb.2 b (fun z => hb (by simp [z]))).trans (hk b ob (fun z => hb (by simp [z])) (fun z => hb (by simp [z])) q)) hf (Nat.le_refl _) new
    refine ⟨.ref s.heap.objs.size, _, I1, rfl, ⟨_, x, rfl, I.hok.fresh (Nat.le_refl _), rfl, fun ys hy => by rw [I.tuple_inj hy hq]; exact hx⟩, ⟨⟨x', ?_⟩, st'.1.at fun ob q => (sb.2 it (Ne.symm hne)).trans q, hne⟩, fun b hb => ?_⟩
    · rw [show ((i + 1 : Nat) : Int) = (i : Int) + 1 by omega]; exact he'
    · have hb' : b < s.heap.objs.size := by
        rcases (by simpa using hb : b = e ∨ b = it) with z | z <;> rw [z] <;> assumption
      rw [upd_ne (Nat.ne_of_lt hb')]; exact (hf b hb).1
  done := by
    intro X hP hw hK hc i pins s σ H E I hf st hg
    subst hP hw hK
    obtain ⟨⟨old, he⟩, hit, hne⟩ := st
    obtain ⟨xs, hq, hx⟩ := hg
    obtain ⟨its, rv, p, hz⟩ := I.tuple hq
    have hd : X.A.in1.handled = none := I.ok.hd hc
    have l1 := rv.length
    have e1 : i = its.toArray.size := by simp; omega
    subst e1
    obtain ⟨f0, f1, f2, f3, f4, f5⟩ := hf it (by simp)
    exact wpAny_pyNext_enum_endD (Draws.tuple hd it a hai its.toArray) he ⟨hit, p⟩ fun h' eb => ⟨rfl, I.turned (t' := s.toks) (fun b ob hb q => eb b ob hb q) f0 f1 f3 f4 f5⟩
  self := fun A i s Q E st h => let ⟨⟨_, he⟩, _⟩ := st; wpAny_pyIter_enum he h
/-- enumerate of a list or a tuple -/
def iEnumA (K : Fg) (ta : TA) : TI := fun σ H R => ta σ H fun vs H1 => ∃ a xs, vs = [.ref a] ∧ ((SqL K H1 a xs ∧ R (Ite K a) H1) ∨ (SqT K H1 a xs ∧ R (IteT K a) H1))
theorem pi_enumA {X : Cx} {e : Expr} {ta : TA} {p pos tpos : Pos} {elts : List Expr} {kk : Nat} (hg : Gl X "enumerate") (hm : X.mg "enumerate" = none) (ha : PA X [e] ta) (hs : starEach [e] X.env = [(false, eval e X.env)] := by rfl) : PI X (.Tuple elts kk tpos) (.Call (.Name "enumerate" p) [e] [] pos) (iEnumA X.K ta) := by
  refine ⟨fun pins s σ H R I h => Call_ (ld_blt I hg hm boot_enumerate (PyProof.Rows.callWith_type1 (thn (ha.run pos pins s σ H _ I h) fun us s1 ⟨vs, H1, I1, r1, q1⟩ => ?_) hs rfl))⟩
  obtain ⟨a, xs, ex, q1⟩ := q1
  subst ex
  cases r1 with
  | cons r rr =>
    cases rr
    cases r
    have fresh2 : ∀ b, b ∈ [s1.heap.objs.size + 1, s1.heap.objs.size] → FpOk X pins H1 b := fun b hb => by
      have hle : s1.heap.objs.size ≤ b := by
        rcases (by simpa using hb : b = s1.heap.objs.size + 1 ∨ b = s1.heap.objs.size) with z | z
        · rw [z]; exact Nat.le_add_right _ _
        · rw [z]; exact Nat.le_refl _
      exact I1.fpOk hle (I1.hok.fresh hle)
    rcases q1 with ⟨hq, q⟩ | ⟨hq, q⟩
    · obtain ⟨its, rv, p', hz⟩ := I1.list hq
      refine call_enumerate_list p'.isList fun h' he hit hsz hk => wpAny_pyIter_enum he ?_
      have I2 : Inv X pins σ H1 { s1 with heap := h' } := I1.kept (t' := s1.toks) hk
      exact ⟨s1.heap.objs.size + 1, [s1.heap.objs.size + 1, s1.heap.objs.size], _, _, H1, rfl, I2, turn_enum a (s1.heap.objs.size + 1) s1.heap.objs.size, ⟨⟨.none, he⟩, hit, Nat.succ_ne_self _⟩, fresh2, q⟩
    · obtain ⟨its, rv, p', hz⟩ := I1.tuple hq
      obtain ⟨o1, ho1, _⟩ := id p'
      have la : a < s1.heap.objs.size := Heap.lt_size ho1
      refine callEnum1 (begins_tuple a its.toArray) (show s1.heap.IsTuple a its.toArray from p') fun h' he hit hk => wpAny_pyIter_enum he ?_
      have I2 : Inv X pins σ H1 { s1 with heap := h' } := I1.kept (t' := s1.toks) hk
      exact ⟨s1.heap.objs.size + 1, [s1.heap.objs.size + 1, s1.heap.objs.size], _, _, H1, rfl, I2, turnEnumT (Nat.ne_of_gt (Nat.lt_succ_of_lt la)) (Nat.ne_of_lt la), ⟨⟨.none, he⟩, ⟨_, hit, rfl, rfl⟩, Nat.succ_ne_self _⟩, fresh2, q⟩
end
end FF

set_option Elab.async false
set_option linter.all false
set_option maxRecDepth 100000
set_option maxHeartbeats 4000000
/-! FF6: what is walked, targets, comprehensions. -/
namespace FF
open PySem PySem.Spec PyProof.Rows L2

/-- J yields the items its, one by one, as long as nothing but C has changed since H1 -/
def Wk (K : Fg) (C B1 : Addr → Prop) (H1 : Hp) (J : It) (its : List D) : Prop := ∀ H, Ch C H1 H →
  (∀ i d, its[i]? = some d → J.go i H ∧ ∀ x H', J.yld i H x H' → Ch (fun _ => False) H H' ∧ ∀ B', (∀ p, B' p → B1 p ∨ H1 p = none) → Rep K B' H' d x) ∧ J.stop its.length H
/-- what may change while it is walked -/
def COk (B1 : Addr → Prop) (fp : Nat → Option Addr) (H1 : Hp) (ses : List E) (C : Addr → Prop) : Prop :=
  (∀ p, C p → B1 p ∨ H1 p = none) ∧ ∀ i p, E.v i ∈ ses → fp i = some p → ¬ C p
def tSrc (K : Fg) (Γ : Sem) (sk : Sk) (ses : List E) : TI := fun σ H R => ∃ (B0 : Addr → Prop) (st : Option Addr) (fp : Nat → Option Addr) (ρ : Env), Rel K B0 st fp ρ σ H ∧
  ((evS Γ ses ρ).bind fun xs => T.ofO (srcD sk xs)).all fun its => ∀ J H', Ch (Cs st) H H' → StOk st H' → its.length ≤ sizeLine → (∀ C, COk (badOf B0 st fp) fp H' ses C → Wk K C (badOf B0 st fp) H' J its) → R J H'
/-- a source's value -/
def Hold (K : Fg) (B : Addr → Prop) (fp : Nat → Option Addr) (ses : List E) (H : Hp) (d : D) (v : V) : Prop :=
  Rep K B H d v ∨ ∃ i p xs vs, E.v i ∈ ses ∧ fp i = some p ∧ d = .lst xs ∧ v = .ref p ∧ H p = some (.lst vs) ∧ vs.length ≤ sizeLine ∧ Reps K B H xs vs
def Holds (K : Fg) (B : Addr → Prop) (fp : Nat → Option Addr) (ses : List E) (H : Hp) : List D → List V → Prop
  | [], vs => vs = []
  | x :: xs, vs => ∃ v r, vs = v :: r ∧ Hold K B fp ses H x v ∧ Holds K B fp ses H xs r
def tEvS (K : Fg) (Γ : Sem) (all es : List E) : TA := fun σ H Q => ∃ (B0 : Addr → Prop) (st : Option Addr) (fp : Nat → Option Addr) (ρ : Env), Rel K B0 st fp ρ σ H ∧
  (evS Γ es ρ).all fun xs => ∀ vs H', Ch (Cs st) H H' → StOk st H' → Holds K (badOf B0 st fp) fp all H' xs vs → Q vs H'
section
variable {K : Fg} {B0 : Addr → Prop} {st : Option Addr} {fp : Nat → Option Addr} {ρ : Env} {σ : L2.St} {H H1 : Hp} {Γ : Sem} {ses : List E}
theorem Hold.ch {d : D} {v : V} (R : Rel K B0 st fp ρ σ H) (c : Ch (Cs st) H H1) (h : Hold K (badOf B0 st fp) fp ses H d v) : Hold K (badOf B0 st fp) fp ses H1 d v := by
  rcases h with h | ⟨i, p, xs, vs, m, f, e1, e2, hp, hl, hr⟩
  · exact .inl (Rep.ch c (fun _ => bad_st) _ _ h)
  · exact .inr ⟨i, p, xs, vs, m, f, e1, e2, c _ _ hp fun z => ((R.nb i p f).2 z).elim, hl, Reps.ch c (fun _ => bad_st) _ _ hr⟩
theorem evS_step {β : Type} {f : List D → T β} {P : β → Prop} {all es : List E} {QA : List V → Hp → Prop} (R : Rel K B0 st fp ρ σ H) (h : ((evS Γ es ρ).bind f).all P)
    (k : ∀ xs vs H1, Ch (Cs st) H H1 → Rel K B0 st fp ρ σ H1 → Holds K (badOf B0 st fp) fp all H1 xs vs → (f xs).all P → QA vs H1) : tEvS K Γ all es σ H QA :=
  ⟨B0, st, fp, ρ, R, T.all_mono (fun xs hx vs H1 c S res => k xs vs H1 c (R.mono c S) res hx) (T.all_bind.mp h)⟩
end
theorem evS_len {Γ : Sem} {ρ : Env} : ∀ {es : List E} {P : List D → Prop}, (evS Γ es ρ).all P → (evS Γ es ρ).all fun xs => P xs ∧ xs.length = es.length
  | [], P, h => by rw [evS] at h ⊢; exact ⟨h, rfl⟩
  | e :: es, P, h => by
    rw [evS] at h ⊢
    refine T.all_bind.mpr (T.all_mono (fun x hx => ?_) (T.all_bind.mp h))
    refine T.all_bind.mpr (T.all_mono (fun xs hxs => ?_) (evS_len (T.all_bind.mp hx)))
    exact ⟨hxs.1, by rw [List.length_cons, List.length_cons, hxs.2]⟩
section
variable {K : Fg} {B0 : Addr → Prop} {st : Option Addr} {fp : Nat → Option Addr} {ρ : Env} {σ : L2.St} {H H1 : Hp} {Γ : Sem}
theorem src1 {β : Type} {f : List D → T β} {P : β → Prop} {all : List E} {e1 : E} {QA : List V → Hp → Prop} (R : Rel K B0 st fp ρ σ H) (h : ((evS Γ [e1] ρ).bind f).all P)
    (k : ∀ x v H1, Ch (Cs st) H H1 → Rel K B0 st fp ρ σ H1 → Hold K (badOf B0 st fp) fp all H1 x v → (f [x]).all P → QA [v] H1) : tEvS K Γ all [e1] σ H QA :=
  ⟨B0, st, fp, ρ, R, T.all_mono (fun xs hx vs H1 c S res => by
    obtain ⟨hx, l⟩ := hx
    match xs, l with
    | [x], _ =>
      obtain ⟨v, r, rfl, hd, hr⟩ := res
      rw [show r = [] from hr]
      exact k x v H1 c (R.mono c S) hd hx) (evS_len (T.all_bind.mp h))⟩
theorem src2 {β : Type} {f : List D → T β} {P : β → Prop} {all : List E} {e1 e2 : E} {QA : List V → Hp → Prop} (R : Rel K B0 st fp ρ σ H) (h : ((evS Γ [e1, e2] ρ).bind f).all P)
    (k : ∀ x y v w H1, Ch (Cs st) H H1 → Rel K B0 st fp ρ σ H1 → Hold K (badOf B0 st fp) fp all H1 x v → Hold K (badOf B0 st fp) fp all H1 y w → (f [x, y]).all P → QA [v, w] H1) : tEvS K Γ all [e1, e2] σ H QA :=
  ⟨B0, st, fp, ρ, R, T.all_mono (fun xs hx vs H1 c S res => by
    obtain ⟨hx, l⟩ := hx
    match xs, l with
    | [x, y], _ =>
      obtain ⟨v, r, rfl, hd, w, r2, rfl, hd2, hr⟩ := res
      rw [show r2 = [] from hr]
      exact k x y v w H1 c (R.mono c S) hd hd2 hx) (evS_len (T.all_bind.mp h))⟩
end
section
variable {X : Cx} {Γ : Sem} {pos : Pos} {a b : Expr} {ia ib : E} {all : List E}
theorem ss_nil : PA X [] (tEvS X.K Γ all []) := PA.imp pa_nil fun σ H Q ⟨B0, st, fp, ρ, R, h⟩ => by
  rw [evS] at h
  exact h [] H .refl R.sok rfl
theorem ss_cons {es : List Expr} {ies : List E} (hv : isV ia = false) (ha : PE X a (tEv X.K Γ ia false)) (hr : PA X es (tEvS X.K Γ all ies)) (hs : starEach (a :: es) X.env = (false, eval a X.env) :: starEach es X.env) : PA X (a :: es) (tEvS X.K Γ all (ia :: ies)) :=
  PA.imp (pa_cons ha hr hs) fun σ H Q ⟨B0, st, fp, ρ, R, h⟩ => by
    rw [evS, hv] at h
    refine ev_step R h fun x v H1 c1 R1 r1 h1 => evS_step (all := all) R1 h1 fun xs vs H2 c2 R2 r2 h2 => ?_
    exact h2 _ H2 (c1.trans c2) R2.sok ⟨v, vs, rfl, Hold.ch R1 c2 (.inl r1.rep), r2⟩
theorem hold_var {K : Fg} {B0 : Addr → Prop} {st : Option Addr} {fp : Nat → Option Addr} {ρ : Env} {σ : L2.St} {H : Hp} {i : Nat} {d : D} (R : Rel K B0 st fp ρ σ H) (m : E.v i ∈ all) (h : rd true ρ i = some d) : ∃ v, σ[i]? = some (some v) ∧ Hold K (badOf B0 st fp) fp all H d v := by
  unfold rd at h
  have own : ∀ p, fp i = some p → BoxOk K (badOf B0 st fp) H p d → Hold K (badOf B0 st fp) fp all H d (.ref p) := fun p f r => by
    cases d with
    | lst xs => obtain ⟨vs, h1, h2, h3⟩ := r; exact .inr ⟨i, p, xs, vs, m, f, rfl, rfl, h1, h2, h3⟩
    | _ => exact r.elim
  split at h
  · rename_i d' e
    cases h
    obtain ⟨v, e1, r⟩ := R.slot i _ e
    exact ⟨v, e1, .inl r⟩
  · rename_i d' e
    rw [if_pos rfl] at h
    cases h
    obtain ⟨p, f, e1, r⟩ := R.slot i _ e
    exact ⟨_, e1, own p f r⟩
  · rename_i d' e
    rw [if_pos rfl] at h
    cases h
    obtain ⟨p, f, e1, r⟩ := R.slot i _ e
    exact ⟨_, e1, own p f r⟩
  · cases h
theorem ss_var {es : List Expr} {ies : List E} {i : Nat} (m : E.v i ∈ all) (ha : PE X a (tVar i)) (hr : PA X es (tEvS X.K Γ all ies)) (hs : starEach (a :: es) X.env = (false, eval a X.env) :: starEach es X.env) : PA X (a :: es) (tEvS X.K Γ all (.v i :: ies)) :=
  PA.imp (pa_cons ha hr hs) fun σ H Q ⟨B0, st, fp, ρ, R, h⟩ => by
    rw [evS] at h
    rw [show isV (.v i) = true from rfl, ev] at h
    obtain ⟨r, e, q⟩ := T.all_ofO.mp (T.all_bind.mp h)
    obtain ⟨d, e2, rfl⟩ := Option.map_eq_some_iff.mp e
    obtain ⟨v, e1, r⟩ := hold_var R m e2
    refine ⟨v, e1, evS_step (all := all) R q fun xs vs H2 c2 R2 r2 h2 => ?_⟩
    exact h2 _ H2 c2 R2.sok ⟨v, vs, rfl, Hold.ch R c2 r, r2⟩
/-- the only source -/
def tHold (K : Fg) (Γ : Sem) (ie : E) : TE := fun σ H Q => ∃ (B0 : Addr → Prop) (st : Option Addr) (fp : Nat → Option Addr) (ρ : Env), Rel K B0 st fp ρ σ H ∧
  (evS Γ [ie] ρ).all fun xs => ∀ d v H', xs = [d] → Ch (Cs st) H H' → StOk st H' → Hold K (badOf B0 st fp) fp [ie] H' d v → Q v H'
theorem sh_of (hv : isV ia = false) (ha : PE X a (tEv X.K Γ ia false)) : PE X a (tHold X.K Γ ia) :=
  PE.imp ha fun σ H Q ⟨B0, st, fp, ρ, R, h⟩ => by
    rw [evS, hv] at h
    refine ev_step R h fun x v H1 c1 R1 r1 h1 => ?_
    rw [evS] at h1
    exact h1 x.1 v H1 rfl c1 R1.sok (.inl r1.rep)
theorem sh_var {i : Nat} (ha : PE X a (tVar i)) : PE X a (tHold X.K Γ (.v i)) :=
  PE.imp ha fun σ H Q ⟨B0, st, fp, ρ, R, h⟩ => by
    rw [evS, evS] at h
    rw [show isV (.v i) = true from rfl, ev] at h
    obtain ⟨r, e, q⟩ := T.all_ofO.mp (T.all_bind.mp h)
    obtain ⟨d, e2, rfl⟩ := Option.map_eq_some_iff.mp e
    obtain ⟨v, e1, r⟩ := hold_var (all := [.v i]) R List.mem_cons_self e2
    exact ⟨v, e1, q d v H rfl .refl R.sok r⟩

/-! ### sources -/
/-- a list, a tuple or a text, as it comes -/
def iSeq (K : Fg) (te : TE) : TI := fun σ H R => te σ H fun x H1 => (∃ p vs, x = .ref p ∧ SqL K H1 p vs ∧ R (Itl K p) H1) ∨ (∃ p vs, x = .ref p ∧ SqT K H1 p vs ∧ R (Itt K p) H1) ∨ ∃ z, x = .str z ∧ R (Its z) H1
theorem pi_seq {tg : Expr} {te : TE} (ha : PE X a te) : PI X tg a (iSeq X.K te) := by
  refine ⟨fun pins s σ H R I h => thn (ha.run pins s σ H _ I h) fun v s1 hx => ?_⟩
  obtain ⟨x, H1, I1, r1, q⟩ := hx
  have fpk : ∀ b ∈ [s1.heap.objs.size], FpOk X pins H1 b := fun b hb => by
    have eb : b = s1.heap.objs.size := List.mem_singleton.mp hb
    rw [eb]
    exact I1.fpOk (Nat.le_refl _) (I1.hok.fresh (Nat.le_refl _))
  rcases q with ⟨p, vs, rfl, hq, q⟩ | ⟨p, vs, rfl, hq, q⟩ | ⟨z, rfl, q⟩
  · cases r1
    obtain ⟨us, rv, pl, hz⟩ := I1.list hq
    exact wpAny_pyIter_list pl.isList ⟨_, _, _, _, H1, rfl, I1.kept (t' := s1.toks) fun b o eo => Heap.get?_push_of_some _ eo, turn_list p _, ⟨_, Heap.get?_push_size _ rfl, rfl, rfl⟩, fpk, q⟩
  · cases r1
    obtain ⟨us, rv, pt, hz⟩ := I1.tuple hq
    exact wpAny_pyIter_tuple (show s1.heap.IsTuple p us.toArray from pt) ⟨_, _, _, _, H1, rfl, I1.kept (t' := s1.toks) fun b o eo => Heap.get?_push_of_some _ eo, turn_tuple p _, ⟨_, Heap.get?_push_size _ rfl, rfl, rfl⟩, fpk, q⟩
  · obtain ⟨tk, rfl⟩ := r1
    cases hasc : z.cps.all (· < 128) with
    | true => exact wpAny_pyIter_ascii hasc (pi_one (tk := s1.toks) I1 _ (turn_str _ z tk "str_ascii_iterator" (.inl rfl)) ⟨_, Heap.get?_push_size _ rfl, rfl, rfl⟩ q)
    | false => exact wpAny_pyIter_wide hasc (pi_one (tk := s1.toks) I1 _ (turn_str _ z tk "str_iterator" (.inr rfl)) ⟨_, Heap.get?_push_size _ rfl, rfl, rfl⟩ q)
theorem PI.imp {tg e : Expr} {t t' : TI} (h : PI X tg e t) (i : ∀ σ H R, t' σ H R → t σ H R) : PI X tg e t' := ⟨fun pins s σ H R I q => h.run pins s σ H R I (i σ H R q)⟩
theorem hold_list {K : Fg} {B1 : Addr → Prop} {fp : Nat → Option Addr} {H1 : Hp} {ses : List E} {xs : List D} {v : V} (h : Hold K B1 fp ses H1 (.lst xs) v) :
    ∃ p vs, v = .ref p ∧ H1 p = some (.lst vs) ∧ (∀ C, COk B1 fp H1 ses C → ¬ C p) ∧ vs.length ≤ sizeLine ∧ Reps K B1 H1 xs vs := by
  rcases h with ⟨p, vs, e, nb, hp, hl, hr⟩ | ⟨i, p, ys, vs, m, f, e1, e2, hp, hl, hr⟩
  · exact ⟨p, vs, e, hp, (fun C ok z => (ok.1 p z).elim nb fun q => by rw [hp] at q; cases q), hl, hr⟩
  · cases e1
    exact ⟨p, vs, e2, hp, fun C ok => ok.2 i p m f, hl, hr⟩
theorem hold_tup {K : Fg} {B1 : Addr → Prop} {fp : Nat → Option Addr} {H1 : Hp} {ses : List E} {xs : List D} {v : V} (h : Hold K B1 fp ses H1 (.tup xs) v) :
    ∃ p vs, v = .ref p ∧ SqT K H1 p vs ∧ vs.length ≤ sizeLine ∧ Reps K B1 H1 xs vs := by
  rcases h with h | ⟨i, p, ys, vs, m, f, e1, _⟩
  · exact h
  · cases e1
theorem hold_int {K : Fg} {B1 : Addr → Prop} {fp : Nat → Option Addr} {H1 : Hp} {ses : List E} {i : Int} {v : V} (h : Hold K B1 fp ses H1 (.int i) v) : v = .int i := by
  rcases h with h | ⟨i, p, ys, vs, m, f, e1, _⟩
  · exact h
  · cases e1
theorem wk_list {K : Fg} {C B1 : Addr → Prop} {H1 : Hp} {p : Addr} {xs : List D} {vs : List V} (hp : H1 p = some (.lst vs)) (nc : ¬ C p) (hC : ∀ p, C p → B1 p ∨ H1 p = none) (r : Reps K B1 H1 xs vs) : Wk K C B1 H1 (Itl K p) xs := fun H c => by
  have hp' : H p = some (.lst vs) := c _ _ hp fun z => (nc z).elim
  refine ⟨fun i d e => ?_, vs, SqL.of hp', by rw [r.length]; exact Nat.le_refl _⟩
  obtain ⟨v, h1, h2⟩ := r.get e
  refine ⟨⟨vs, v, SqL.of hp', h1⟩, fun x H' y => ?_⟩
  obtain ⟨rfl, y⟩ := y
  have ex : x = v := Option.some.inj ((y vs (SqL.of hp')).symm.trans h1)
  subst ex
  exact ⟨.refl, fun B' hB => Rep.later c hC hB _ _ h2⟩
theorem wk_tup {K : Fg} {C B1 : Addr → Prop} {H1 : Hp} {p : Addr} {xs : List D} {vs : List V} (hp : SqT K H1 p vs) (hC : ∀ p, C p → B1 p ∨ H1 p = none) (r : Reps K B1 H1 xs vs) : Wk K C B1 H1 (Itt K p) xs := fun H c => by
  have hp' : SqT K H p vs := SqT.ch hp c
  refine ⟨fun i d e => ?_, vs, hp', by rw [r.length]; exact Nat.le_refl _⟩
  obtain ⟨v, h1, h2⟩ := r.get e
  refine ⟨⟨vs, v, hp', h1⟩, fun x H' y => ?_⟩
  obtain ⟨rfl, y⟩ := y
  have ex : x = v := Option.some.inj ((y vs hp').symm.trans h1)
  subst ex
  exact ⟨.refl, fun B' hB => Rep.later c hC hB _ _ h2⟩
theorem sp_seq {tg : Expr} (ha : PE X a (tHold X.K Γ ia)) : PI X tg a (tSrc X.K Γ .seq [ia]) :=
  PI.imp (pi_seq ha) fun σ H R ⟨B0, st, fp, ρ, Rl, h⟩ => by
    have len : (evS Γ [ia] ρ).all fun xs => (T.ofO (srcD .seq xs)).all (fun its => ∀ J H', Ch (Cs st) H H' → StOk st H' → its.length ≤ sizeLine → (∀ C, COk (badOf B0 st fp) fp H' [ia] C → Wk X.K C (badOf B0 st fp) H' J its) → R J H') := T.all_bind.mp h
    refine ⟨B0, st, fp, ρ, Rl, T.all_mono (fun xs hx d v H1 e c S hd => ?_) len⟩
    subst e
    obtain ⟨its, e, q⟩ := T.all_ofO.mp hx
    cases d with
    | lst xs =>
      cases e
      obtain ⟨p, vs, rfl, hp, nc, hl, hr⟩ := hold_list hd
      exact .inl ⟨p, vs, rfl, SqL.of hp, q _ H1 c S (by rw [← hr.length]; exact hl) fun C ok => wk_list hp (nc C ok) ok.1 hr⟩
    | tup xs =>
      cases e
      obtain ⟨p, vs, rfl, hp, hl, hr⟩ := hold_tup hd
      exact .inr (.inl ⟨p, vs, rfl, hp, q _ H1 c S (by rw [← hr.length]; exact hl) fun C ok => wk_tup hp ok.1 hr⟩)
    | str s =>
      cases e
      have hd : v = .str ⟨s.toArray⟩ ∧ s.length ≤ sizeLine := by
        rcases hd with hd | ⟨i, p, ys, vs, m, f, e1, _⟩
        · exact hd
        · cases e1
      obtain ⟨rfl, ls⟩ := hd
      refine .inr (.inr ⟨_, rfl, q _ H1 c S (by rw [List.length_map]; exact ls) fun C ok H2 c2 => ⟨fun i d e => ?_, ?_⟩⟩)
      · rw [List.getElem?_map] at e
        obtain ⟨k, hk, rfl⟩ := Option.map_eq_some_iff.mp e
        have hi : i < s.length := by
          rcases Nat.lt_or_ge i s.length with z | z
          · exact z
          · rw [List.getElem?_eq_none z] at hk; cases hk
        refine ⟨by show i < s.toArray.size; simpa using hi, fun x H' y => ?_⟩
        obtain ⟨rfl, k', hk', rfl⟩ := y
        have ek : k' = k := by
          have : s.toArray[i]? = some k' := hk'
          rw [List.getElem?_toArray, hk] at this
          exact (Option.some.inj this).symm
        subst ek
        exact ⟨.refl, fun B' _ => ⟨rfl, small_line (show 1 ≤ 1000 by decide)⟩⟩
      · show s.toArray.size ≤ _
        simp
    | dic ks vs =>
      rcases hd with hd | ⟨i, p, ys, vs, m, f, e1, _⟩
      · exact hd.elim
      · cases e1
    | _ => simp [srcD] at e
theorem rangeL_len : ∀ (n : Nat) (lo : Int), (rangeL n lo).length = n
  | 0, _ => rfl
  | n + 1, lo => by rw [rangeL, List.length_cons, rangeL_len n]
theorem rangeL_get : ∀ (n : Nat) (lo : Int) (i : Nat), i < n → (rangeL n lo)[i]? = some (.int (lo + i))
  | n + 1, lo, 0, _ => by simp [rangeL]
  | n + 1, lo, i + 1, h => by
    rw [rangeL, List.getElem?_cons_succ, rangeL_get n (lo + 1) i (by omega)]
    congr 2; omega
theorem wk_range {K : Fg} {C B1 : Addr → Prop} {H1 : Hp} {lo : Int} {n : Nat} : Wk K C B1 H1 (Itr lo n) (rangeL n lo) := fun H c => by
  refine ⟨fun i d e => ?_, by show n ≤ _; rw [rangeL_len]; exact Nat.le_refl _⟩
  have hi : i < n := by
    rcases Nat.lt_or_ge i n with z | z
    · exact z
    · rw [List.getElem?_eq_none (by rw [rangeL_len]; exact z)] at e; cases e
  rw [rangeL_get n lo i hi] at e
  cases e
  refine ⟨hi, fun x H' y => ?_⟩
  obtain ⟨rfl, rfl⟩ := y
  exact ⟨.refl, fun B' _ => rfl⟩
theorem rng2_spec {i j : Int} {its : List D} (h : rng2 i j = some its) : -(2 ^ 62) ≤ i ∧ i < 2 ^ 62 ∧ -(2 ^ 62) ≤ j ∧ j < 2 ^ 62 ∧ (j - i).toNat ≤ line ∧ its = rangeL (j - i).toNat i := by
  unfold rng2 at h
  split at h
  · rename_i z
    cases h
    exact ⟨z.1, z.2.1, z.2.2.1, z.2.2.2.1, z.2.2.2.2, rfl⟩
  · cases h
theorem sp_range1 {tg : Expr} {p : Pos} (hg : Gl X "range") (hm : X.mg "range" = none) (ha : PA X [a] (tEvS X.K Γ [ia] [ia])) (hs : starEach [a] X.env = [(false, eval a X.env)]) : PI X tg (.Call (.Name "range" p) [a] [] pos) (tSrc X.K Γ .range [ia]) :=
  PI.imp (pi_range1 hg hm ha hs) fun σ H R ⟨B0, st, fp, ρ, Rl, h⟩ => by
    refine src1 Rl h fun d v H1 c R1 hd h1 => ?_
    obtain ⟨its, e, q⟩ := T.all_ofO.mp h1
    cases d with
    | int j =>
      obtain rfl := hold_int hd
      obtain ⟨_, _, h3, h4, h5, rfl⟩ := rng2_spec (show rng2 0 j = some its from e)
      rw [Int.sub_zero] at h5 q
      exact ⟨j, rfl, h3, h4, q _ H1 c R1.sok (by rw [rangeL_len, line_eq]; exact h5) fun C ok => wk_range⟩
    | _ => simp [srcD] at e
theorem sp_range2 {tg : Expr} {p : Pos} (hg : Gl X "range") (hm : X.mg "range" = none) (ha : PA X [a, b] (tEvS X.K Γ [ia, ib] [ia, ib])) (hs : starEach [a, b] X.env = [(false, eval a X.env), (false, eval b X.env)]) (hs2 : starEach [b] X.env = [(false, eval b X.env)]) : PI X tg (.Call (.Name "range" p) [a, b] [] pos) (tSrc X.K Γ .range [ia, ib]) :=
  PI.imp (pi_range2 hg hm ha hs hs2) fun σ H R ⟨B0, st, fp, ρ, Rl, h⟩ => by
    refine src2 Rl h fun d d2 v w H1 c R1 hd hd2 h1 => ?_
    obtain ⟨its, e, q⟩ := T.all_ofO.mp h1
    cases d with
    | int i =>
      cases d2 with
      | int j =>
        obtain rfl := hold_int hd
        obtain rfl := hold_int hd2
        obtain ⟨h1, h2, h3, h4, h5, rfl⟩ := rng2_spec (show rng2 i j = some its from e)
        exact ⟨i, j, rfl, ⟨h1, h2, h3, h4⟩, q _ H1 c R1.sok (by rw [rangeL_len, line_eq]; exact h5) fun C ok => wk_range⟩
      | _ => simp [srcD] at e
    | _ => cases d2 <;> simp [srcD] at e
theorem zipL_len : ∀ xs ys : List D, (zipL xs ys).length = min xs.length ys.length
  | [], _ => by simp [zipL]
  | _ :: _, [] => by simp [zipL]
  | x :: xs, y :: ys => by rw [zipL, List.length_cons, zipL_len xs ys, List.length_cons, List.length_cons]; omega
theorem zipL_get : ∀ (xs ys : List D) (i : Nat) (d : D), (zipL xs ys)[i]? = some d → ∃ x y, xs[i]? = some x ∧ ys[i]? = some y ∧ d = .tup [x, y]
  | x :: xs, y :: ys, 0, d, h => by simp [zipL] at h; exact ⟨x, y, rfl, rfl, h.symm⟩
  | x :: xs, y :: ys, i + 1, d, h => by
    obtain ⟨a, b, h1, h2, h3⟩ := zipL_get xs ys i d (by simpa [zipL] using h)
    exact ⟨a, b, by simpa using h1, by simpa using h2, h3⟩
  | [], _, _, _, h => by simp [zipL] at h
  | _ :: _, [], _, _, h => by simp [zipL] at h
theorem pair_item {K : Fg} {C B1 B' : Addr → Prop} {H1 H : Hp} {T : Addr} {x y : D} {v w : V} (c : Ch C H1 H) (hC : ∀ p, C p → B1 p ∨ H1 p = none) (nT : H T = none) (hx : Rep K B1 H1 x v) (hy : Rep K B1 H1 y w) (hB : ∀ p, B' p → B1 p ∨ H1 p = none) : Rep K B' (upd H T (.tup [v, w])) (.tup [x, y]) (.ref T) := by
  have f : ∀ {d : D} {u : V}, Rep K B1 H1 d u → Rep K B' (upd H T (.tup [v, w])) d u := fun h => Rep.ch (C := fun _ => False) (Ch.new nT) (fun _ z => z.elim) _ _ (Rep.later c hC hB _ _ h)
  exact ⟨T, [v, w], rfl, .inl (.inl upd_same), small_line (show 2 ≤ 1000 by decide), v, [w], rfl, f hx, w, [], rfl, f hy, rfl⟩
theorem sp_zip {elts : List Expr} {kk : Nat} {p tpos : Pos} (hg : Gl X "zip") (hm : X.mg "zip" = none) (ha : PA X [a, b] (tEvS X.K Γ [ia, ib] [ia, ib])) (hs : starEach [a, b] X.env = (false, eval a X.env) :: starEach [b] X.env) (hpl : (backTo pos (starEach [b] X.env)).any (·.1) = false) :
    PI X (.Tuple elts kk tpos) (.Call (.Name "zip" p) [a, b] [] pos) (tSrc X.K Γ .zip [ia, ib]) :=
  PI.imp (RZ.pi_zipA hg hm ha hs hpl) fun σ H R ⟨B0, st, fp, ρ, Rl, h⟩ => by
    refine src2 Rl h fun d d2 v w H1 c R1 hd hd2 h1 => ?_
    obtain ⟨its, e, q⟩ := T.all_ofO.mp h1
    cases d with
    | lst xs =>
      cases d2 with
      | lst ys =>
        cases e
        obtain ⟨p, vs, rfl, hp, nc, hl, hr⟩ := hold_list hd
        obtain ⟨p2, ws, rfl, hp2, nc2, hl2, hr2⟩ := hold_list hd2
        refine ⟨p, p2, vs, ws, rfl, .inl ⟨SqL.of hp, SqL.of hp2, q _ H1 c R1.sok (by rw [zipL_len, ← hr.length]; omega) fun C ok H2 c2 => ?_⟩⟩
        have g1 : H2 p = some (.lst vs) := c2 _ _ hp fun z => (nc C ok z).elim
        have g2 : H2 p2 = some (.lst ws) := c2 _ _ hp2 fun z => (nc2 C ok z).elim
        refine ⟨fun i d e => ?_, vs, ws, SqL.of g1, SqL.of g2, ?_⟩
        · obtain ⟨x, y, e1, e2, rfl⟩ := zipL_get _ _ _ _ e
          obtain ⟨v, f1, r1⟩ := hr.get e1
          obtain ⟨w, f2, r2⟩ := hr2.get e2
          refine ⟨⟨vs, ws, v, w, SqL.of g1, SqL.of g2, f1, f2⟩, fun z H' yl => ?_⟩
          obtain ⟨T, v', w', rfl, nT, rfl, k1, k2⟩ := yl
          have ev : v' = v := Option.some.inj ((k1 _ (SqL.of g1)).symm.trans f1)
          have ew : w' = w := Option.some.inj ((k2 _ (SqL.of g2)).symm.trans f2)
          subst ev ew
          exact ⟨Ch.new nT, fun B' hB => pair_item c2 ok.1 nT r1 r2 hB⟩
        · rw [zipL_len, hr.length, hr2.length]; omega
      | _ => simp [srcD] at e
    | tup xs =>
      cases d2 with
      | tup ys =>
        cases e
        obtain ⟨p, vs, rfl, hp, hl, hr⟩ := hold_tup hd
        obtain ⟨p2, ws, rfl, hp2, hl2, hr2⟩ := hold_tup hd2
        refine ⟨p, p2, vs, ws, rfl, .inr ⟨hp, hp2, q _ H1 c R1.sok (by rw [zipL_len, ← hr.length]; omega) fun C ok H2 c2 => ?_⟩⟩
        have g1 : SqT X.K H2 p vs := SqT.ch hp c2
        have g2 : SqT X.K H2 p2 ws := SqT.ch hp2 c2
        refine ⟨fun i d e => ?_, vs, ws, g1, g2, ?_⟩
        · obtain ⟨x, y, e1, e2, rfl⟩ := zipL_get _ _ _ _ e
          obtain ⟨v, f1, r1⟩ := hr.get e1
          obtain ⟨w, f2, r2⟩ := hr2.get e2
          refine ⟨⟨vs, ws, v, w, g1, g2, f1, f2⟩, fun z H' yl => ?_⟩
          obtain ⟨T, v', w', rfl, nT, rfl, k1, k2⟩ := yl
          have ev : v' = v := Option.some.inj ((k1 _ g1).symm.trans f1)
          have ew : w' = w := Option.some.inj ((k2 _ g2).symm.trans f2)
          subst ev ew
          exact ⟨Ch.new nT, fun B' hB => pair_item c2 ok.1 nT r1 r2 hB⟩
        · rw [zipL_len, hr.length, hr2.length]; omega
      | _ => simp [srcD] at e
    | _ => cases d2 <;> simp [srcD] at e
theorem enumL_len : ∀ (n : Nat) (xs : List D), (enumL n xs).length = xs.length
  | _, [] => rfl
  | n, x :: xs => by rw [enumL, List.length_cons, enumL_len (n + 1) xs, List.length_cons]
theorem enumL_get : ∀ (n : Nat) (xs : List D) (i : Nat) (d : D), (enumL n xs)[i]? = some d → ∃ x, xs[i]? = some x ∧ d = .tup [.int ((n + i : Nat) : Int), x]
  | n, x :: xs, 0, d, h => by simp [enumL] at h; exact ⟨x, rfl, h.symm⟩
  | n, x :: xs, i + 1, d, h => by
    obtain ⟨a, h1, h2⟩ := enumL_get (n + 1) xs i d (by simpa [enumL] using h)
    refine ⟨a, by simpa using h1, ?_⟩
    rw [h2, show n + 1 + i = n + (i + 1) by omega]
  | _, [], _, _, h => by simp [enumL] at h
theorem sp_enum {elts : List Expr} {kk : Nat} {p tpos : Pos} (hg : Gl X "enumerate") (hm : X.mg "enumerate" = none) (ha : PA X [a] (tEvS X.K Γ [ia] [ia])) (hs : starEach [a] X.env = [(false, eval a X.env)]) :
    PI X (.Tuple elts kk tpos) (.Call (.Name "enumerate" p) [a] [] pos) (tSrc X.K Γ .enum [ia]) :=
  PI.imp (pi_enumA hg hm ha hs) fun σ H R ⟨B0, st, fp, ρ, Rl, h⟩ => by
    refine src1 Rl h fun d v H1 c R1 hd h1 => ?_
    obtain ⟨its, e, q⟩ := T.all_ofO.mp h1
    cases d with
    | lst xs =>
      cases e
      obtain ⟨p, vs, rfl, hp, nc, hl, hr⟩ := hold_list hd
      refine ⟨p, vs, rfl, .inl ⟨SqL.of hp, q _ H1 c R1.sok (by rw [enumL_len, ← hr.length]; exact hl) fun C ok H2 c2 => ?_⟩⟩
      have g1 : H2 p = some (.lst vs) := c2 _ _ hp fun z => (nc C ok z).elim
      refine ⟨fun i d e => ?_, vs, SqL.of g1, by rw [enumL_len, hr.length]; exact Nat.le_refl _⟩
      obtain ⟨x, e1, rfl⟩ := enumL_get _ _ _ _ e
      obtain ⟨v, f1, r1⟩ := hr.get e1
      have hi : i < vs.length := by
        rcases Nat.lt_or_ge i vs.length with z | z
        · exact z
        · rw [List.getElem?_eq_none z] at f1; cases f1
      refine ⟨⟨vs, v, SqL.of g1, f1⟩, fun z H' yl => ?_⟩
      obtain ⟨T, v', rfl, nT, rfl, k1⟩ := yl
      have ev : v' = v := Option.some.inj ((k1 _ (SqL.of g1)).symm.trans f1)
      subst ev
      refine ⟨Ch.new nT, fun B' hB => pair_item c2 ok.1 nT ?_ r1 hB⟩
      show V.int _ = V.int _
      rw [Nat.zero_add]
    | tup xs =>
      cases e
      obtain ⟨p, vs, rfl, hp, hl, hr⟩ := hold_tup hd
      refine ⟨p, vs, rfl, .inr ⟨hp, q _ H1 c R1.sok (by rw [enumL_len, ← hr.length]; exact hl) fun C ok H2 c2 => ?_⟩⟩
      have g1 : SqT X.K H2 p vs := SqT.ch hp c2
      refine ⟨fun i d e => ?_, vs, g1, by rw [enumL_len, hr.length]⟩
      obtain ⟨x, e1, rfl⟩ := enumL_get _ _ _ _ e
      obtain ⟨v, f1, r1⟩ := hr.get e1
      refine ⟨⟨vs, v, g1, f1⟩, fun z H' yl => ?_⟩
      obtain ⟨T, v', rfl, nT, rfl, k1⟩ := yl
      have ev : v' = v := Option.some.inj ((k1 _ g1).symm.trans f1)
      subst ev
      refine ⟨Ch.new nT, fun B' hB => pair_item c2 ok.1 nT ?_ r1 hB⟩
      show V.int _ = V.int _
      rw [Nat.zero_add]
    | _ => simp [srcD] at e
theorem sp_rev {tg : Expr} {p : Pos} (hg : Gl X "reversed") (hm : X.mg "reversed" = none) (ha : PE X a (tHold X.K Γ ia)) (hs : starEach [a] X.env = (false, eval a X.env) :: starEach [] X.env) : PI X tg (.Call (.Name "reversed" p) [a] [] pos) (tSrc X.K Γ .rev [ia]) :=
  PI.imp (RT.pi_revA hg hm ha hs) fun σ H R ⟨B0, st, fp, ρ, Rl, h⟩ => by
    refine ⟨B0, st, fp, ρ, Rl, T.all_mono (fun xs hx d v H1 e c S hd => ?_) (T.all_bind.mp h)⟩
    subst e
    obtain ⟨its, e, q⟩ := T.all_ofO.mp hx
    cases d with
    | lst xs =>
      cases e
      obtain ⟨p, vs, rfl, hp, nc, hl, hr⟩ := hold_list hd
      refine ⟨p, vs, rfl, .inl ⟨SqL.of hp, q _ H1 c S (by rw [List.length_reverse, ← hr.length]; exact hl) fun C ok H2 c2 => ?_⟩⟩
      have g1 : H2 p = some (.lst vs) := c2 _ _ hp fun z => (nc C ok z).elim
      refine ⟨fun i d e => ?_, by show vs.length ≤ _; rw [List.length_reverse, hr.length]; exact Nat.le_refl _⟩
      have hi : i < xs.length := by
        rcases Nat.lt_or_ge i xs.length with z | z
        · exact z
        · rw [List.getElem?_eq_none (by rw [List.length_reverse]; exact z)] at e; cases e
      rw [List.getElem?_reverse hi] at e
      obtain ⟨v, f1, r1⟩ := hr.get e
      rw [← hr.length] at f1 hi
      refine ⟨⟨hi, vs, v, SqL.of g1, f1⟩, fun z H' yl => ?_⟩
      obtain ⟨rfl, yl⟩ := yl
      have ev : z = v := Option.some.inj ((yl _ (SqL.of g1)).symm.trans f1)
      subst ev
      exact ⟨.refl, fun B' hB => Rep.later c2 ok.1 hB _ _ r1⟩
    | tup xs =>
      cases e
      obtain ⟨p, vs, rfl, hp, hl, hr⟩ := hold_tup hd
      refine ⟨p, vs, rfl, .inr ⟨hp, q _ H1 c S (by rw [List.length_reverse, ← hr.length]; exact hl) fun C ok H2 c2 => ?_⟩⟩
      have g1 : SqT X.K H2 p vs := SqT.ch hp c2
      refine ⟨fun i d e => ?_, by show vs.length ≤ _; rw [List.length_reverse, hr.length]; exact Nat.le_refl _⟩
      have hi : i < xs.length := by
        rcases Nat.lt_or_ge i xs.length with z | z
        · exact z
        · rw [List.getElem?_eq_none (by rw [List.length_reverse]; exact z)] at e; cases e
      rw [List.getElem?_reverse hi] at e
      obtain ⟨v, f1, r1⟩ := hr.get e
      rw [← hr.length] at f1 hi
      refine ⟨⟨hi, vs, v, g1, f1⟩, fun z H' yl => ?_⟩
      obtain ⟨rfl, yl⟩ := yl
      have ev : z = v := Option.some.inj ((yl _ g1).symm.trans f1)
      subst ev
      exact ⟨.refl, fun B' hB => Rep.later c2 ok.1 hB _ _ r1⟩
    | _ => simp [srcD] at e
end
end FF

set_option Elab.async false
set_option linter.all false
set_option maxRecDepth 100000
set_option maxHeartbeats 4000000
/-! FF7: targets, comprehensions. -/
namespace FF
open PySem PySem.Spec PyProof.Rows L2

def dropF (fp : Nat → Option Addr) (i : Nat) : Nat → Option Addr := fun j => if j = i then none else fp j
theorem dropF_some {fp : Nat → Option Addr} {i j : Nat} {p : Addr} (h : dropF fp i j = some p) : j ≠ i ∧ fp j = some p := by
  unfold dropF at h
  split at h
  · cases h
  · rename_i z; exact ⟨z, h⟩
theorem dropF_ne {fp : Nat → Option Addr} {i j : Nat} (h : j ≠ i) : dropF fp i j = fp j := by unfold dropF; rw [if_neg h]
def FpLe (fp fp' : Nat → Option Addr) : Prop := ∀ i p, fp' i = some p → fp i = some p
theorem FpLe.refl {fp : Nat → Option Addr} : FpLe fp fp := fun _ _ h => h
theorem FpLe.trans {a b c : Nat → Option Addr} (h : FpLe a b) (g : FpLe b c) : FpLe a c := fun i p e => h i p (g i p e)
theorem FpLe.drop {fp : Nat → Option Addr} {i : Nat} : FpLe fp (dropF fp i) := fun _ _ h => (dropF_some h).2
section
variable {K : Fg} {B0 B0' : Addr → Prop} {st : Option Addr} {fp fp' : Nat → Option Addr} {ρ : Env} {σ : L2.St} {H H' : Hp}
theorem badOf.le (h : FpLe fp fp') {p : Addr} (b : badOf B0 st fp' p) : badOf B0 st fp p := by
  rcases b with b | b | ⟨i, b⟩
  · exact .inl b
  · exact .inr (.inl b)
  · exact .inr (.inr ⟨i, h i p b⟩)
theorem BoxOk.less {B B' : Addr → Prop} {p : Addr} {d : D} (h : BoxOk K B H p d) (hB : ∀ p, (∃ o, H p = some o) → B' p → B p) : BoxOk K B' H p d := by
  cases d with
  | lst xs => obtain ⟨vs, e, l, r⟩ := h; exact ⟨vs, e, l, Reps.less hB _ _ r⟩
  | _ => exact h.elim
theorem SlotOk.less {B B' : Addr → Prop} {i : Nat} {x : Option (Option V)} {s : Slot} (h : SlotOk K B st fp H i x s) (hB : ∀ p, (∃ o, H p = some o) → B' p → B p) (hf : ∀ p, fp i = some p → fp' i = some p) : SlotOk K B' st fp' H i x s := by
  cases s with
  | no => exact h
  | pl d => obtain ⟨v, e, r⟩ := h; exact ⟨v, e, Rep.less hB _ _ r⟩
  | bx d => obtain ⟨p, f, e, r⟩ := h; exact ⟨p, hf p f, e, r.less hB⟩
  | lk d => obtain ⟨p, f, e, r⟩ := h; exact ⟨p, hf p f, e, r.less hB⟩
  | st => exact h
  | scr => exact h
theorem getElem?_set_some {α : Type} {l : List α} {i j : Nat} {a s : α} (h : (l.set i a)[j]? = some s) : (j = i ∧ s = a ∧ i < l.length) ∨ (j ≠ i ∧ l[j]? = some s) := by
  by_cases e : j = i
  · subst e
    by_cases hl : j < l.length
    · rw [List.getElem?_set_self hl] at h
      exact .inl ⟨rfl, (Option.some.inj h).symm, hl⟩
    · rw [List.getElem?_eq_none (by simpa using hl)] at h; cases h
  · rw [List.getElem?_set_ne (Ne.symm e)] at h
    exact .inr ⟨e, h⟩
theorem Rel.setPl {i : Nat} {x : D} {v : V} (R : Rel K B0 st fp ρ σ H) (r : Rep K (badOf B0 st fp) H x v) : Rel K B0 st (dropF fp i) (ρ.set i (.pl x)) (σ.set i (some v)) H := by
  have le : ∀ p, (∃ o, H p = some o) → badOf B0 st (dropF fp i) p → badOf B0 st fp p := fun p _ => badOf.le FpLe.drop
  refine ⟨by rw [List.length_set, List.length_set, R.len], fun j s e => ?_, fun j p e => ?_, fun j p e => R.nb j p (dropF_some e).2, fun j k p e1 e2 => R.inj j k p (dropF_some e1).2 (dropF_some e2).2, R.dom, R.st0, R.sok⟩
  · rcases getElem?_set_some e with ⟨rfl, rfl, hl⟩ | ⟨hne, e⟩
    · exact ⟨v, by rw [List.getElem?_set_self (by rw [← R.len]; exact hl)], Rep.less le _ _ r⟩
    · have h := R.slot j s e
      rw [List.getElem?_set_ne (Ne.symm hne)]
      exact h.less le fun p f => by rw [dropF_ne hne]; exact f
  · obtain ⟨hne, f⟩ := dropF_some e
    obtain ⟨d, h⟩ := R.own j p f
    exact ⟨d, by rw [List.getElem?_set_ne (Ne.symm hne)]; exact h⟩
end

def dropsF (fp : Nat → Option Addr) (vs : List Nat) : Nat → Option Addr := fun j => if j ∈ vs then none else fp j
theorem dropsF_some {fp : Nat → Option Addr} {vs : List Nat} {j : Nat} {p : Addr} (h : dropsF fp vs j = some p) : j ∉ vs ∧ fp j = some p := by
  unfold dropsF at h
  split at h
  · cases h
  · rename_i z; exact ⟨z, h⟩
theorem dropsF_ne {fp : Nat → Option Addr} {vs : List Nat} {j : Nat} (h : j ∉ vs) : dropsF fp vs j = fp j := by unfold dropsF; rw [if_neg h]
theorem dropsF_two {fp : Nat → Option Addr} {a b : List Nat} : dropsF (dropsF fp a) b = dropsF fp (a ++ b) := by
  funext j
  unfold dropsF
  by_cases h1 : j ∈ a <;> by_cases h2 : j ∈ b <;> simp [h1, h2]
theorem dropsF_nil {fp : Nat → Option Addr} : dropsF fp [] = fp := by funext j; simp [dropsF]
theorem dropsF_one {fp : Nat → Option Addr} {i : Nat} : dropsF fp [i] = dropF fp i := by funext j; simp [dropsF, dropF]
theorem dropsF_le {fp : Nat → Option Addr} {vs : List Nat} : FpLe fp (dropsF fp vs) := fun _ _ h => (dropsF_some h).2
/-! ### targets -/
/-- only the slots at vs have changed -/
def Only' (vs : List Nat) (σ σ' : L2.St) : Prop := σ'.length = σ.length ∧ ∀ j, j ∉ vs → σ'[j]? = σ[j]?
theorem Only'.trans {vs ws : List Nat} {a b c : L2.St} (h : Only' vs a b) (g : Only' ws b c) : Only' (vs ++ ws) a c :=
  ⟨g.1.trans h.1, fun j hj => (g.2 j fun z => hj (List.mem_append_right _ z)).trans (h.2 j fun z => hj (List.mem_append_left _ z))⟩
def tTg (K : Fg) (t : Tg) : TG := fun v σ H Q => ∃ (B0 : Addr → Prop) (st : Option Addr) (fp : Nat → Option Addr) (ρ : Env) (x : D) (ρ' : Env), Rel K B0 st fp ρ σ H ∧ Rep K (badOf B0 st fp) H x v ∧ asgT t x ρ = some ρ' ∧
  ∀ σ', Only' (tgS t) σ σ' → Rel K B0 st (dropsF fp (tgS t)) ρ' σ' H → Q σ' H
def tTgs (K : Fg) (ts : List Tg) : TGs := fun vs σ H Q => ∃ (B0 : Addr → Prop) (st : Option Addr) (fp : Nat → Option Addr) (ρ : Env) (xs : List D) (ρ' : Env), Rel K B0 st fp ρ σ H ∧ Reps K (badOf B0 st fp) H xs vs ∧ asgTs ts xs ρ = some ρ' ∧
  ∀ σ', Only' (tgSs ts) σ σ' → Rel K B0 st (dropsF fp (tgSs ts)) ρ' σ' H → Q σ' H
theorem PG.imp {X : Cx} {e : Expr} {g g' : TG} (h : PG X e g) (i : ∀ v σ H Q, g' v σ H Q → g v σ H Q) : PG X e g' := ⟨fun pins s σ H v u Q I r q => h.run pins s σ H v u Q I r (i v σ H Q q)⟩
theorem PGs.imp {X : Cx} {e : List Expr} {g g' : TGs} (h : PGs X e g) (i : ∀ v σ H Q, g' v σ H Q → g v σ H Q) : PGs X e g' := ⟨fun pins s σ H v u Q I r q => h.run pins s σ H v u Q I r (i v σ H Q q)⟩
theorem PG.or {X : Cx} {e : Expr} {g g' : TG} (h : PG X e g) (h' : PG X e g') : PG X e (fun v σ H Q => g v σ H Q ∨ g' v σ H Q) :=
  ⟨fun pins s σ H v u Q I r q => q.elim (h.run pins s σ H v u Q I r) (h'.run pins s σ H v u Q I r)⟩
section
variable {X : Cx} {pos : Pos}
theorem st_name {i : Nat} {x : Str} (h : PG X (.Name x pos) (gName i)) : PG X (.Name x pos) (tTg X.K (.nm i)) :=
  PG.imp h fun v σ H Q ⟨B0, st, fp, ρ, x, ρ', R, r, e, q⟩ => by
    rw [asgT] at e
    split at e
    · cases e
      refine q _ ⟨by rw [List.length_set], fun j hj => List.getElem?_set_ne fun z => hj (by rw [tgS, ← z]; exact List.mem_cons_self)⟩ ?_
      rw [tgS, dropsF_one]
      exact R.setPl r
    · cases e
theorem st_nil : PGs X [] (tTgs X.K []) := PGs.imp pgs_nil fun vs σ H Q ⟨B0, st, fp, ρ, xs, ρ', R, r, e, q⟩ => by
  cases xs with
  | nil => rw [asgTs] at e; cases e; exact ⟨r, q σ ⟨rfl, fun _ _ => rfl⟩ (by rw [tgSs, dropsF_nil]; exact R)⟩
  | cons x xs => simp [asgTs] at e
theorem st_cons {e : Expr} {es : List Expr} {t : Tg} {ts : List Tg} (h1 : PG X e (tTg X.K t)) (h2 : PGs X es (tTgs X.K ts)) (hs : (assignEach (e :: es) X.env).map (·.2) = assign e X.env :: (assignEach es X.env).map (·.2)) : PGs X (e :: es) (tTgs X.K (t :: ts)) :=
  PGs.imp (pgs_cons h1 h2 hs) fun vs σ H Q ⟨B0, st, fp, ρ, xs, ρ', R, r, e, q⟩ => by
    cases xs with
    | nil => simp [asgTs] at e
    | cons x xs =>
      rw [asgTs] at e
      obtain ⟨ρ1, e1, e2⟩ := Option.bind_eq_some_iff.mp e
      obtain ⟨v, vr, rfl, r1, r2⟩ := r
      refine ⟨v, vr, rfl, B0, st, fp, ρ, x, ρ1, R, r1, e1, fun σ1 o1 R1 => ⟨B0, st, _, ρ1, xs, ρ', R1, Reps.less (fun p _ => badOf.le dropsF_le) _ _ r2, e2, fun σ2 o2 R2 => q σ2 ?_ ?_⟩⟩
      · rw [tgSs]; exact o1.trans o2
      · rw [dropsF_two] at R2; rw [tgSs]; exact R2
theorem asgTs_len : ∀ {ts : List Tg} {xs : List D} {ρ ρ' : Env}, asgTs ts xs ρ = some ρ' → xs.length = ts.length
  | [], [], _, _, _ => rfl
  | [], _ :: _, _, _, h => by simp [asgTs] at h
  | _ :: _, [], _, _, h => by simp [asgTs] at h
  | t :: ts, x :: xs, _, _, h => by
    rw [asgTs] at h
    obtain ⟨_, _, h2⟩ := Option.bind_eq_some_iff.mp h
    rw [List.length_cons, List.length_cons, asgTs_len h2]
theorem st_tup {es : List Expr} {k : Nat} {ts : List Tg} (hc : X.calm = true) (h : PGs X es (tTgs X.K ts)) (hn : (assignEach es X.env).length = ts.length) (hst : (assignEach es X.env).findIdx? (·.1) = none) : PG X (.Tuple es k pos) (tTg X.K (.tup ts)) :=
  PG.imp (PG.or (pg_tup hc h hn hst) (pg_unl hc h hn hst)) fun v σ H Q ⟨B0, st, fp, ρ, x, ρ', R, r, e, q⟩ => by
    cases x with
    | tup xs =>
      rw [asgT] at e
      obtain ⟨p, vs, rfl, hp, hl, hr⟩ := r
      refine .inl ⟨p, vs, rfl, hp, by rw [hr.length, asgTs_len e], B0, st, fp, ρ, xs, ρ', R, hr, e, fun σ' o R' => q σ' (by rw [tgS]; exact o) (by rw [tgS]; exact R')⟩
    | lst xs =>
      rw [asgT] at e
      obtain ⟨p, vs, rfl, nb, hp, hl, hr⟩ := r
      refine .inr ⟨p, vs, rfl, SqL.of hp, by rw [hr.length, asgTs_len e], B0, st, fp, ρ, xs, ρ', R, hr, e, fun σ' o R' => q σ' (by rw [tgS]; exact o) (by rw [tgS]; exact R')⟩
    | _ => simp [asgT] at e
end

/-! ### wiped slots -/
theorem wipe_get {σ : L2.St} {vs : List Nat} {j : Nat} : (wipe σ vs)[j]? = if j ∈ vs then (if j < σ.length then some none else none) else σ[j]? := by
  by_cases hj : j ∈ vs
  · rw [if_pos hj]
    split
    · rename_i hl
      cases e : (wipe σ vs)[j]? with
      | none => rw [List.getElem?_eq_none_iff, wipe_length] at e; omega
      | some o =>
        cases o with
        | none => rfl
        | some x => exact absurd hj (wipe_some e).2
    · rename_i hl
      exact List.getElem?_eq_none (by rw [wipe_length]; omega)
  · rw [if_neg hj, wipe_out hj]
theorem wipe_only {σ σ' : L2.St} {vs ws : List Nat} (o : Only' ws (wipe σ vs) σ') (h : ∀ j ∈ ws, j ∈ vs) : wipe σ' vs = wipe σ vs := by
  have hl : σ'.length = σ.length := by rw [o.1, wipe_length]
  refine List.ext_getElem? fun j => ?_
  rw [wipe_get, wipe_get, hl]
  split
  · rfl
  · rename_i hj
    rw [o.2 j fun z => hj (h j z), wipe_out hj]
theorem wipeE_length (ρ : Env) : ∀ vs : List Nat, (wipeE ρ vs).length = ρ.length
  | [] => rfl
  | v :: vs => by rw [wipeE, List.length_set, wipeE_length ρ vs]
theorem wipeE_get {ρ : Env} {j : Nat} {s : Slot} : ∀ {vs : List Nat}, (wipeE ρ vs)[j]? = some s → (j ∈ vs ∧ s = .no) ∨ (j ∉ vs ∧ ρ[j]? = some s)
  | [], h => .inr ⟨by simp, h⟩
  | v :: vs, h => by
    rw [wipeE] at h
    rcases getElem?_set_some h with ⟨rfl, rfl, _⟩ | ⟨hne, h⟩
    · exact .inl ⟨List.mem_cons_self, rfl⟩
    · rcases wipeE_get h with ⟨m, e⟩ | ⟨m, e⟩
      · exact .inl ⟨List.mem_cons_of_mem _ m, e⟩
      · exact .inr ⟨fun z => (List.mem_cons.mp z).elim hne m, e⟩
theorem wipeE_out {ρ : Env} {j : Nat} : ∀ {vs : List Nat}, j ∉ vs → (wipeE ρ vs)[j]? = ρ[j]?
  | [], _ => rfl
  | v :: vs, h => by
    rw [wipeE, List.getElem?_set_ne fun z => h (by rw [← z]; exact List.mem_cons_self)]
    exact wipeE_out fun z => h (List.mem_cons_of_mem _ z)
section
variable {K : Fg} {B0 : Addr → Prop} {st : Option Addr} {fp : Nat → Option Addr} {ρ : Env} {σ : L2.St} {H H' : Hp}
/-- within a comprehension's block: the slots at vs are wiped; the boxes they held, and D, are kept -/
def blkB (B0 : Addr → Prop) (fp : Nat → Option Addr) (vs : List Nat) (D : Addr) : Addr → Prop := fun p => B0 p ∨ p = D ∨ ∃ i, i ∈ vs ∧ fp i = some p
theorem blkB_bad {vs : List Nat} {D p : Addr} : badOf (blkB B0 fp vs D) st (dropsF fp vs) p ↔ badOf B0 st fp p ∨ p = D := by
  constructor
  · rintro ((b | b | ⟨i, _, b⟩) | b | ⟨i, b⟩)
    · exact .inl (.inl b)
    · exact .inr b
    · exact .inl (.inr (.inr ⟨i, b⟩))
    · exact .inl (.inr (.inl b))
    · exact .inl (.inr (.inr ⟨i, (dropsF_some b).2⟩))
  · rintro ((b | b | ⟨i, b⟩) | b)
    · exact .inl (.inl b)
    · exact .inr (.inl b)
    · by_cases hi : i ∈ vs
      · exact .inl (.inr (.inr ⟨i, hi, b⟩))
      · exact .inr (.inr ⟨i, by rw [dropsF_ne hi]; exact b⟩)
    · exact .inl (.inr (.inl b))
theorem Rel.blk {vs : List Nat} {D : Addr} {C : Addr → Prop} (R : Rel K B0 st fp ρ σ H) (nD : H D = none) (c : Ch C H H') (hC : ∀ p, C p → st = some p ∨ p = D) (hD : ∃ o, H' D = some o) (S : StOk st H') :
    Rel K (blkB B0 fp vs D) st (dropsF fp vs) (wipeE ρ vs) (wipe σ vs) H' := by
  have nst : st ≠ some D := fun z => by obtain ⟨k, v, e⟩ := R.sok D z; rw [nD] at e; cases e
  have nb0 : ¬ B0 D := fun z => by obtain ⟨o, e⟩ := R.dom D z; rw [nD] at e; cases e
  have cC : ∀ p, C p → badOf B0 st fp p ∨ H p = none := fun p z => (hC p z).elim (fun z => .inl (.inr (.inl z))) fun z => .inr (by rw [z]; exact nD)
  have cB : ∀ p, badOf (blkB B0 fp vs D) st (dropsF fp vs) p → badOf B0 st fp p ∨ H p = none := fun p z => (blkB_bad.mp z).elim .inl fun z => .inr (by rw [z]; exact nD)
  have keep : ∀ p o, H p = some o → st ≠ some p → H' p = some o := fun p o e ns => c p o e fun z => (hC p z).elim (fun z => (ns z).elim) fun z => by rw [z, nD] at e; cases e
  have box : ∀ i p d, fp i = some p → BoxOk K (badOf B0 st fp) H p d → BoxOk K (badOf (blkB B0 fp vs D) st (dropsF fp vs)) H' p d := fun i p d f b => by
    cases d with
    | lst xs => obtain ⟨ws, e, l, r⟩ := b; exact ⟨ws, keep _ _ e (R.nb i p f).2, l, Reps.later c cC cB _ _ r⟩
    | _ => exact b.elim
  refine ⟨by rw [wipeE_length, wipe_length, R.len], fun j s e => ?_, fun j p e => ?_, fun j p e => ?_, fun j k p e1 e2 => R.inj j k p (dropsF_some e1).2 (dropsF_some e2).2, fun p hp => ?_, fun p hp => ?_, S⟩
  · rcases wipeE_get e with ⟨m, rfl⟩ | ⟨m, e⟩
    · trivial
    · have h := R.slot j s e
      rw [wipe_out m]
      cases s with
      | no => exact h
      | pl d => obtain ⟨v, e1, r⟩ := h; exact ⟨v, e1, Rep.later c cC cB _ _ r⟩
      | bx d => obtain ⟨p, f, e1, r⟩ := h; exact ⟨p, by rw [dropsF_ne m]; exact f, e1, box j p d f r⟩
      | lk d => obtain ⟨p, f, e1, r⟩ := h; exact ⟨p, by rw [dropsF_ne m]; exact f, e1, box j p d f r⟩
      | st => exact h
      | scr => obtain ⟨v, e1, r⟩ := h; exact ⟨v, e1, r.ch c⟩
  · obtain ⟨m, f⟩ := dropsF_some e
    obtain ⟨d, h⟩ := R.own j p f
    exact ⟨d, by rw [wipeE_out m]; exact h⟩
  · obtain ⟨m, f⟩ := dropsF_some e
    refine ⟨?_, (R.nb j p f).2⟩
    rintro (z | z | ⟨i, mi, z⟩)
    · exact (R.nb j p f).1 z
    · subst z
      obtain ⟨o, e⟩ := R.dom' (p := p) (.inr (.inr ⟨j, f⟩))
      rw [nD] at e; cases e
    · exact m (R.inj i j p z f ▸ mi)
  · rcases hp with z | z | ⟨i, _, z⟩
    · obtain ⟨o, e⟩ := R.dom p z
      exact ⟨o, keep p o e fun q => R.st0 p q z⟩
    · rw [z]; exact hD
    · obtain ⟨_, ws, _, e⟩ := R.boxAt z
      exact ⟨_, keep p _ e (R.nb i p z).2⟩
  · rintro (z | z | ⟨i, _, z⟩)
    · exact R.st0 p hp z
    · exact nst (z ▸ hp)
    · exact (R.nb i p z).2 hp
end

/-! ### comprehensions -/
def tEvC (K : Fg) (Γ : Sem) (cs : List E) : TT := fun σ H Q => ∃ (B0 : Addr → Prop) (st : Option Addr) (fp : Nat → Option Addr) (ρ : Env), Rel K B0 st fp ρ σ H ∧
  (evC Γ cs ρ).all fun b => ∀ H', Ch (Cs st) H H' → StOk st H' → Q b H'
theorem PTs.imp {X : Cx} {cs : List Expr} {t t' : TT} (h : PTs X cs t) (i : ∀ σ H Q, t' σ H Q → t σ H Q) : PTs X cs t' := ⟨fun pins s σ H Q I q => h.run pins s σ H Q I (i σ H Q q)⟩
section
variable {X : Cx} {Γ : Sem}
theorem sc_nil : PTs X [] (tEvC X.K Γ []) := PTs.imp pts_nil fun σ H Q ⟨B0, st, fp, ρ, R, h⟩ => by
  rw [evC] at h
  exact h H .refl R.sok
theorem sc_one {c : Expr} {ic : E} (h : PT X c (tEvT X.K Γ ic)) : PTs X [c] (tEvC X.K Γ [ic]) := PTs.imp (pts_one h) fun σ H Q ⟨B0, st, fp, ρ, R, h⟩ => by
  rw [evC] at h
  refine evT_step R h fun b H1 c1 R1 h1 => ?_
  cases b with
  | true => exact h1 H1 c1 R1.sok
  | false => exact h1 H1 c1 R1.sok
/-- a block's list so far -/
structure CompAt (K : Fg) (B : Addr → Prop) (st : Option Addr) (m : Bool) (D : Addr) (H0 H1 H : Hp) (out : List FF.D) (ws : List V) : Prop where
  ch : Ch (fun p => st = some p ∨ p = D) H1 H
  sok : StOk st H
  at_ : H D = some (.lst ws)
  reps : Reps K (fun p => B p ∨ p = D) H out ws
theorem CompAt.app {K : Fg} {B : Addr → Prop} {st : Option Addr} {m : Bool} {D : Addr} {H0 H1 H : Hp} {out : List FF.D} {ws : List V} {y : FF.D} {v : V} (c : CompAt K B st m D H0 H1 H out ws) (nD : st ≠ some D) (hy : Rep K (fun p => B p ∨ p = D) H y v) (hB : ∀ p, st = some p → B p) :
    CompAt K B st m D H0 H1 (upd H D (.lst (ws ++ [v]))) (out ++ [y]) (ws ++ [v]) := by
  have cD : Ch (fun p => p = D) H (upd H D (.lst (ws ++ [v]))) := Ch.put c.at_ rfl rfl
  refine ⟨c.ch.trans (cD.mono fun p z => .inr z), fun p e => ?_, upd_same, Reps.append (Reps.ch cD (fun p z => .inr z) _ _ c.reps) (.one (Rep.ch cD (fun p z => .inr z) _ _ hy))⟩
  obtain ⟨k, u, e'⟩ := c.sok p e
  refine ⟨k, u, ?_⟩
  rw [upd_ne fun z => nD (by rw [← z]; exact e)]
  exact e'
theorem CompAt.step {K : Fg} {B : Addr → Prop} {st : Option Addr} {m : Bool} {D : Addr} {H0 H1 H H' : Hp} {out : List FF.D} {ws : List V} (c : CompAt K B st m D H0 H1 H out ws) (nD : st ≠ some D) (h : Ch (Cs st) H H') (S : StOk st H') (hB : ∀ p, st = some p → B p) : CompAt K B st m D H0 H1 H' out ws :=
  ⟨c.ch.trans (h.mono fun p z => .inl z), S, h _ _ c.at_ fun z => (nD z).elim, Reps.ch h (fun p z => .inl (hB p z)) _ _ c.reps⟩
theorem CompAt.fin {K : Fg} {B : Addr → Prop} {st : Option Addr} {m : Bool} {D : Addr} {H0 H1 H : Hp} {out : List FF.D} {ws : List V} {Q : VK} (c : CompAt K B st m D H0 H1 H out ws) (c1 : Ch (Cs st) H0 H1) (nD : H1 D = none) (nB : ¬ B D) (hB : ∀ p, st = some p → B p) (hl : ws.length ≤ sizeLine) (f : Fin K B st m (.lst out, true) H0 Q) : Q (.ref D) H := by
  have c2 : Ch (Cs st) H1 H := fun p o e i => c.ch p o e fun z => z.elim i fun z => by rw [z, nD] at e; cases e
  exact f _ H (c1.trans c2) c.sok (.new ⟨out, D, ws, rfl, rfl, c1.fresh (fun z => nB (hB D z)) nD, nB, c.at_, hl, c.reps⟩)
theorem se_comp {elt tg iter : Expr} {ifs : List Expr} {scope : Scope} {own : List (Str × Nat)} {pos : Pos} {t : Tg} {sk : Sk} {ses cs : List E} {e : E} {m : Bool} (hc : X.calm = true) (hN : X.N.Nodup) (hi : PI X tg iter (tSrc X.K Γ sk ses)) (ok : BlkOk X.N X.env.scope scope own) (ho : own.map (·.2) = tgS t)
    (hg : ∀ (s : Shared) (H : Hp) (C : Addr) (cl : List (Str × Addr)) (fp : List Addr), PG (X.blk s H scope (compEnvC scope cl C X.env) fp) tg (tTg X.K t)) (ht : ∀ (s : Shared) (H : Hp) (C : Addr) (cl : List (Str × Addr)) (fp : List Addr), PTs (X.blk s H scope (compEnvC scope cl C X.env) fp) ifs (tEvC X.K Γ cs))
    (he : ∀ (s : Shared) (H : Hp) (C : Addr) (cl : List (Str × Addr)) (fp : List Addr), PE (X.blk s H scope (compEnvC scope cl C X.env) fp) elt (tEv X.K Γ e false)) (hs : ∀ x, foldedSetIterable iter X.env x = pure x) :
    ∀ σ H Q, tEv X.K Γ (.comp t sk ses cs e) m σ H Q → tLc (tSrc X.K Γ sk ses) (tTg X.K t) (tEvC X.K Γ cs) (tEv X.K Γ e false) (tgS t) σ H Q := by
  intro σ H0 Q ⟨B0, st, fp, ρ, R, h⟩
  rw [ev] at h
  have hB : ∀ p, st = some p → badOf B0 st fp p := fun _ => bad_st
  have h : ((evS Γ ses ρ).bind fun xs => T.ofO (srcD sk xs)).all _ := T.all_bind.mpr (T.all_mono (fun xs hx => T.all_bind.mp hx) (T.all_bind.mp h))
  refine ⟨B0, st, fp, ρ, R, T.all_mono (fun its hL J H1 c1 S1 hlen wk D nD => ?_) h⟩
  have R1 := R.mono c1 S1
  have nst : st ≠ some D := fun z => by obtain ⟨k, v, e⟩ := S1 D z; rw [nD] at e; cases e
  have cok : COk (badOf B0 st fp) fp H1 ses (fun p => st = some p ∨ p = D) := by
    refine ⟨fun p z => z.elim (fun z => .inl (hB p z)) fun z => .inr (by rw [z]; exact nD), fun i p _ f z => z.elim (R1.nb i p f).2 fun z => ?_⟩
    obtain ⟨o, e⟩ := R1.dom' (p := p) (.inr (.inr ⟨i, f⟩))
    rw [z, nD] at e; cases e
  have wk := wk _ cok
  have hL := T.all_bind.mp hL
  refine ⟨fun i n H => n = its.length - i ∧ i ≤ its.length ∧ ∃ out ws, CompAt X.K (badOf B0 st fp) st m D H0 H1 H out ws ∧ out.length ≤ i ∧
    (compL (fun x => (T.ofO (asgT t x (wipeE ρ (tgS t)))).bind fun ρ' => (evC Γ cs ρ').bind fun b => cond b ((ev Γ e false ρ').bind fun y => .ret (some y.1)) (.ret none)) (its.drop i)).all fun r => Fin X.K (badOf B0 st fp) st m (.lst (out ++ r), true) H0 Q,
    ⟨its.length, rfl, Nat.zero_le _, [], [], ⟨Ch.new nD, S1.ch nD, upd_same, rfl⟩, Nat.le_refl _, T.all_mono (fun r hr => hr) hL⟩, ?_⟩
  rintro i n H ⟨rfl, hi, out, ws, ca, hout, hr⟩
  obtain ⟨wgo, wstop⟩ := wk H ca.ch
  have hws := ca.reps.length
  by_cases hlt : i < its.length
  · have ei : its[i]? = some its[i] := List.getElem?_eq_getElem hlt
    obtain ⟨go, yl⟩ := wgo i _ ei
    rw [List.drop_eq_getElem_cons hlt, compL] at hr
    refine .inr ⟨go, fun H' => i + 1 ≤ its.length ∧ ∃ out ws, CompAt X.K (badOf B0 st fp) st m D H0 H1 H' out ws ∧ out.length ≤ i + 1 ∧ (compL _ (its.drop (i + 1))).all fun r => Fin X.K (badOf B0 st fp) st m (.lst (out ++ r), true) H0 Q, fun H' nx => ⟨its.length - (i + 1), by omega, rfl, nx⟩, fun x H' y => ?_⟩
    obtain ⟨cy, ry⟩ := yl x H' y
    have ca' : CompAt X.K (badOf B0 st fp) st m D H0 H1 H' out ws := ca.step nst (cy.mono fun _ z => z.elim) (fun p e => by obtain ⟨k, u, e'⟩ := ca.sok p e; exact ⟨k, u, cy _ _ e' fun z => z.elim⟩) hB
    have Rb : Rel X.K (blkB B0 fp (tgS t) D) st (dropsF fp (tgS t)) (wipeE ρ (tgS t)) (wipe σ (tgS t)) H' := R1.blk nD ca'.ch (fun p z => z) ⟨_, ca'.at_⟩ ca'.sok
    have hr := T.all_bind.mp (T.all_bind.mp hr)
    obtain ⟨ρ', ea, hr⟩ := T.all_ofO.mp hr
    have hr := T.all_bind.mp hr
    refine ⟨_, st, _, _, _, ρ', Rb, ry _ fun p z => (blkB_bad.mp z).elim .inl fun z => .inr (by rw [z]; exact nD), ea, fun σ' o R' => ⟨wipe_only o fun _ z => z, _, st, _, ρ', R', T.all_mono (fun b hb H3 c3 S3 => ?_) hr⟩⟩
    have ca3 := ca'.step nst c3 S3 hB
    cases b with
    | false =>
      exact iteF ⟨hlt, out, ws, ca3, by omega, T.all_bind.mp hb⟩
    | true =>
      refine iteT ?_
      refine ⟨_, st, _, ρ', R'.mono c3 S3, T.all_mono (fun r hy v H4 c4 S4 res => ?_) (T.all_bind.mp hb)⟩
      have ca4 := ca3.step nst c4 S4 hB
      have ry4 : Rep X.K (fun p => badOf B0 st fp p ∨ p = D) H4 r.1 v := by
        refine Rep.less (fun p _ z => ?_) _ _ res.rep
        rw [dropsF_two]
        have : badOf (blkB B0 fp (tgS t) D) st (dropsF fp (tgS t)) p := blkB_bad.mpr z
        rcases this with b | b | ⟨i, b⟩
        · exact .inl b
        · exact .inr (.inl b)
        · obtain ⟨n1, n2⟩ := dropsF_some b
          exact .inr (.inr ⟨i, by rw [dropsF_ne (by simpa using n1)]; exact n2⟩)
      refine ⟨ws, ca4.at_, by omega, hlt, _, _, ca4.app nst ry4 hB, by rw [List.length_append]; show out.length + 1 ≤ i + 1; omega, T.all_mono (fun r' hr' => ?_) (T.all_bind.mp hy)⟩
      rw [List.append_assoc]
      exact hr'
  · have ei : i = its.length := by omega
    subst ei
    refine .inl ⟨wstop, ca.fin c1 nD (R1.nbad nD) hB (by omega) ?_⟩
    rw [List.drop_length, compL] at hr
    have hr : Fin X.K (badOf B0 st fp) st m (.lst (out ++ []), true) H0 Q := hr
    rw [List.append_nil] at hr
    exact hr
end
end FF

set_option Elab.async false
set_option linter.all false
set_option maxRecDepth 100000
set_option maxHeartbeats 4000000
/-! FF8: statements. -/
namespace FF
open PySem PySem.Spec PyProof.Rows L2

/-- what a statement may change: the state, the lists of its own that are not held -/
def Mu (st : Option Addr) (fp : Nat → Option Addr) (ρ : Env) : Addr → Prop := fun p => st = some p ∨ ∃ i d, fp i = some p ∧ ρ[i]? = some (.bx d)
structure Aft (B0 : Addr → Prop) (st : Option Addr) (fp : Nat → Option Addr) (ρ : Env) (H : Hp) (fp' : Nat → Option Addr) (ρ' : Env) (H' : Hp) : Prop where
  ch : Ch (Mu st fp ρ) H H'
  mu : ∀ p, Mu st fp' ρ' p → Mu st fp ρ p ∨ H p = none
  bad : ∀ p, badOf B0 st fp' p → badOf B0 st fp p ∨ H p = none
  there : ∀ p o, H p = some o → ∃ o', H' p = some o'
/-- what is held was held -/
def Lkd (fp : Nat → Option Addr) (ρ : Env) (fp' : Nat → Option Addr) (ρ' : Env) : Prop := ∀ i d, ρ'[i]? = some (.lk d) → (∃ d', ρ[i]? = some (.lk d')) ∧ fp' i = fp i
theorem Lkd.refl {fp : Nat → Option Addr} {ρ : Env} : Lkd fp ρ fp ρ := fun i d h => ⟨⟨d, h⟩, rfl⟩
theorem Lkd.trans {fp fp1 fp2 : Nat → Option Addr} {ρ ρ1 ρ2 : Env} (a : Lkd fp ρ fp1 ρ1) (b : Lkd fp1 ρ1 fp2 ρ2) : Lkd fp ρ fp2 ρ2 := fun i d h => by
  obtain ⟨⟨d1, h1⟩, e1⟩ := b i d h
  obtain ⟨h2, e2⟩ := a i d1 h1
  exact ⟨h2, e1.trans e2⟩
/-- a value handed back -/
def RetOk (K : Fg) (B0 : Addr → Prop) (st : Option Addr) (fp : Nat → Option Addr) (r : Rs) (H H' : Hp) (v : V) : Prop :=
  if r.2 = true then ∃ xs p vs, r.1 = .lst xs ∧ v = .ref p ∧ (H p = none ∨ ∃ i, fp i = some p) ∧ ¬ B0 p ∧ st ≠ some p ∧ H' p = some (.lst vs) ∧ vs.length ≤ sizeLine ∧ Reps K (fun q => (B0 q ∨ st = some q) ∨ q = p) H' xs vs
  else Rep K (fun q => B0 q ∨ st = some q) H' r.1 v
def Leaf (K : Fg) (B0 : Addr → Prop) (st : Option Addr) (fp : Nat → Option Addr) (ρ : Env) (H : Hp) (D : Ends) (x : Xs) : Prop :=
  match x.1 with
  | .nx => ∀ fp' σ' H', Rel K B0 st fp' x.2 σ' H' → Aft B0 st fp ρ H fp' x.2 H' → Lkd fp ρ fp' x.2 → D.nx σ' H'
  | .bk => ∀ fp' σ' H', Rel K B0 st fp' x.2 σ' H' → Aft B0 st fp ρ H fp' x.2 H' → Lkd fp ρ fp' x.2 → D.bk σ' H'
  | .ct => ∀ fp' σ' H', Rel K B0 st fp' x.2 σ' H' → Aft B0 st fp ρ H fp' x.2 H' → Lkd fp ρ fp' x.2 → D.ct σ' H'
  | .rt r => ∀ v H', Ch (Mu st fp ρ) H H' → (∀ p o, H p = some o → ∃ o', H' p = some o') → StOk st H' → RetOk K B0 st fp r H H' v → D.rt v H'
def tX (K : Fg) (Γ : Sem) (t : Env → T Xs) : TS := fun D σ H => ∃ (B0 : Addr → Prop) (st : Option Addr) (fp : Nat → Option Addr) (ρ : Env), Rel K B0 st fp ρ σ H ∧ (t ρ).all (Leaf K B0 st fp ρ H D)
section
variable {K : Fg} {B0 : Addr → Prop} {st : Option Addr} {fp fp1 fp2 : Nat → Option Addr} {ρ ρ1 ρ2 : Env} {σ : L2.St} {H H1 H2 : Hp}
theorem Aft.refl : Aft B0 st fp ρ H fp ρ H := ⟨.refl, fun _ => .inl, fun _ => .inl, fun p o h => ⟨o, h⟩⟩
theorem Ch.there {C : Addr → Prop} {H H1 : Hp} (c : Ch C H H1) (h : ∀ p, C p → ∃ o, H1 p = some o) : ∀ p o, H p = some o → ∃ o', H1 p = some o' := fun p o e => by
  by_cases z : C p
  · exact h p z
  · exact ⟨o, c p o e fun q => (z q).elim⟩
theorem St.there (S : StOk st H) : ∀ p, Cs st p → ∃ o, H p = some o := fun p e => by obtain ⟨k, v, h⟩ := S p e; exact ⟨_, h⟩
/-- behind an expression -/
theorem Aft.expr (c : Ch (Cs st) H H1) (S : StOk st H1) : Aft B0 st fp ρ H fp ρ H1 := ⟨c.mono fun p z => .inl z, fun _ => .inl, fun _ => .inl, c.there (St.there S)⟩
theorem Aft.trans (a : Aft B0 st fp ρ H fp1 ρ1 H1) (b : Aft B0 st fp1 ρ1 H1 fp2 ρ2 H2) : Aft B0 st fp ρ H fp2 ρ2 H2 := by
  have nn : ∀ p, H1 p = none → H p = none := fun p h => by
    cases q : H p with
    | none => rfl
    | some o => obtain ⟨o', e⟩ := a.there p o q; rw [h] at e; cases e
  refine ⟨fun p o e i => ?_, fun p z => ?_, fun p z => ?_, fun p o e => ?_⟩
  · refine b.ch p o (a.ch p o e i) fun z => ?_
    rcases a.mu p z with z | z
    · exact i z
    · rw [e] at z; cases z
  · rcases b.mu p z with z | z
    · exact a.mu p z
    · exact .inr (nn p z)
  · rcases b.bad p z with z | z
    · exact a.bad p z
    · exact .inr (nn p z)
  · obtain ⟨o1, e1⟩ := a.there p o e
    exact b.there p o1 e1
theorem Aft.fresh (a : Aft B0 st fp ρ H fp1 ρ1 H1) {p : Addr} (h : H1 p = none) : H p = none := by
  cases q : H p with
  | none => rfl
  | some o => obtain ⟨o', e⟩ := a.there p o q; rw [h] at e; cases e
theorem RetOk.back {r : Rs} {v : V} (a : Aft B0 st fp ρ H fp1 ρ1 H1) (h : RetOk K B0 st fp1 r H1 H2 v) : RetOk K B0 st fp r H H2 v := by
  unfold RetOk at h ⊢
  split
  · rename_i q
    rw [if_pos q] at h
    obtain ⟨xs, p, vs, e1, e2, e3, nb, ns, e⟩ := h
    refine ⟨xs, p, vs, e1, e2, ?_, nb, ns, e⟩
    rcases e3 with e3 | ⟨i, e3⟩
    · exact .inl (a.fresh e3)
    · rcases a.bad p (.inr (.inr ⟨i, e3⟩)) with (z | z | z) | z
      · exact (nb z).elim
      · exact (ns z).elim
      · exact .inr z
      · exact .inl z
  · rename_i q
    rw [if_neg q] at h
    exact h
theorem Leaf.back {D : Ends} {x : Xs} (a : Aft B0 st fp ρ H fp1 ρ1 H1) (l : Lkd fp ρ fp1 ρ1) (h : Leaf K B0 st fp ρ H D x) : Leaf K B0 st fp1 ρ1 H1 D x := by
  obtain ⟨f, ρ'⟩ := x
  cases f with
  | nx => exact fun fp' σ' H' R b m => h fp' σ' H' R (a.trans b) (l.trans m)
  | bk => exact fun fp' σ' H' R b m => h fp' σ' H' R (a.trans b) (l.trans m)
  | ct => exact fun fp' σ' H' R b m => h fp' σ' H' R (a.trans b) (l.trans m)
  | rt r =>
    refine fun v H' c t S q => h v H' (fun p o e i => ?_) (fun p o e => ?_) S (q.back a)
    · refine c p o (a.ch p o e i) fun z => ?_
      rcases a.mu p z with z | z
      · exact i z
      · rw [e] at z; cases z
    · obtain ⟨o1, e1⟩ := a.there p o e
      exact t p o1 e1
end
theorem PS.imp {X : Cx} {s : Stmt} {t t' : TS} (h : PS X s t) (i : ∀ D σ H, t' D σ H → t D σ H) : PS X s t' := ⟨fun pins s σ H D I q => h.run pins s σ H D I (i D σ H q)⟩
theorem PSs.imp {X : Cx} {s : List Stmt} {t t' : TS} (h : PSs X s t) (i : ∀ D σ H, t' D σ H → t D σ H) : PSs X s t' := ⟨fun pins s σ H D I q => h.run pins s σ H D I (i D σ H q)⟩

section
variable {X : Cx} {Γ : Sem} {pos : Pos} {e : Expr} {ie : E}
abbrev tS (K : Fg) (Γ : Sem) (s : S) : TS := tX K Γ (exec Γ s)
abbrev tSs (K : Fg) (Γ : Sem) (ss : List S) : TS := tX K Γ (execs Γ ss)
/-! ### blocks -/
theorem xs_nil : PSs X [] (tSs X.K Γ []) := PSs.imp pss_nil fun D σ H ⟨B0, st, fp, ρ, R, h⟩ => by
  rw [execs] at h
  exact h fp σ H R .refl .refl
theorem xs_cons {s : Stmt} {ss : List Stmt} {is : S} {iss : List S} (h1 : PS X s (tS X.K Γ is)) (h2 : PSs X ss (tSs X.K Γ iss)) : PSs X (s :: ss) (tSs X.K Γ (is :: iss)) :=
  PSs.imp (pss_cons h1 h2) fun D σ H ⟨B0, st, fp, ρ, R, h⟩ => by
    rw [execs] at h
    refine ⟨B0, st, fp, ρ, R, T.all_mono (fun x hx => ?_) (T.all_bind.mp h)⟩
    obtain ⟨f, ρ'⟩ := x
    cases f with
    | nx => exact fun fp' σ' H' R' a l => ⟨B0, st, fp', ρ', R', T.all_mono (fun y hy => Leaf.back a l hy) hx⟩
    | bk => exact hx
    | ct => exact hx
    | rt r => exact hx
/-- a step of ours alone, ahead of a block -/
theorem xs_ghost {ss : List Stmt} {iss : List S} {i : Nat} (h2 : PSs X ss (tSs X.K Γ iss)) : PSs X ss (tSs X.K Γ (.frz i :: iss)) :=
  PSs.imp h2 fun D σ H ⟨B0, st, fp, ρ, R, h⟩ => by
    rw [execs] at h
    have h := T.all_bind.mp h
    rw [exec] at h
    split at h
    · rename_i d e
      have h : (execs Γ iss (ρ.set i (.pl d))).all (Leaf X.K B0 st fp ρ H D) := h
      obtain ⟨p, f, e1, b⟩ := R.slot i _ e
      cases d with
      | lst xs =>
        obtain ⟨vs, hp, hl, hr⟩ := b
        have hi : i < ρ.length := by
          rcases Nat.lt_or_ge i ρ.length with z | z
          · exact z
          · rw [List.getElem?_eq_none z] at e; cases e
        have le : ∀ q, (∃ o, H q = some o) → badOf B0 st (dropF fp i) q → badOf B0 st fp q := fun q _ => badOf.le FpLe.drop
        have nb : ¬ badOf B0 st (dropF fp i) p := by
          rintro (z | z | ⟨j, z⟩)
          · exact (R.nb i p f).1 z
          · exact (R.nb i p f).2 z
          · obtain ⟨n, z⟩ := dropF_some z
            exact n (R.inj j i p z f)
        have R' : Rel X.K B0 st (dropF fp i) (ρ.set i (.pl (.lst xs))) σ H := by
          refine ⟨by rw [List.length_set, R.len], fun j s e' => ?_, fun j q e' => ?_, fun j q e' => R.nb j q (dropF_some e').2, fun j k q e1 e2 => R.inj j k q (dropF_some e1).2 (dropF_some e2).2, R.dom, R.st0, R.sok⟩
          · rcases getElem?_set_some e' with ⟨rfl, rfl, _⟩ | ⟨hne, e'⟩
            · exact ⟨_, e1, p, vs, rfl, nb, hp, hl, Reps.less le _ _ hr⟩
            · exact (R.slot j s e').less le fun q f => by rw [dropF_ne hne]; exact f
          · obtain ⟨hne, f⟩ := dropF_some e'
            obtain ⟨d, h⟩ := R.own j q f
            exact ⟨d, by rw [List.getElem?_set_ne (Ne.symm hne)]; exact h⟩
        refine ⟨B0, st, _, _, R', T.all_mono (fun y hy => Leaf.back ⟨.refl, fun q z => .inl ?_, fun q z => .inl (badOf.le FpLe.drop z), fun q o h => ⟨o, h⟩⟩ (fun j d e' => ?_) hy) h⟩
        rotate_left
        · rcases getElem?_set_some e' with ⟨_, z, _⟩ | ⟨hne, e'⟩
          · cases z
          · exact ⟨⟨d, e'⟩, dropF_ne hne⟩
        rcases z with z | ⟨j, d, f', e'⟩
        · exact .inl z
        · obtain ⟨hne, f'⟩ := dropF_some f'
          rw [List.getElem?_set_ne (Ne.symm hne)] at e'
          exact .inr ⟨j, d, f', e'⟩
      | _ => exact b.elim
    · exact ⟨B0, st, fp, ρ, R, h⟩

/-! ### small statements -/
theorem x_pass : PS X (.Pass pos) (tS X.K Γ .pass) := PS.imp ps_pass fun D σ H ⟨B0, st, fp, ρ, R, h⟩ => by
  rw [exec] at h
  exact h fp σ H R .refl .refl
theorem x_break : PS X (.Break pos) (tS X.K Γ .brk) := PS.imp ps_break fun D σ H ⟨B0, st, fp, ρ, R, h⟩ => by
  rw [exec] at h
  exact h fp σ H R .refl .refl
theorem x_cont : PS X (.Continue pos) (tS X.K Γ .cont) := PS.imp ps_continue fun D σ H ⟨B0, st, fp, ρ, R, h⟩ => by
  rw [exec] at h
  exact h fp σ H R .refl .refl
theorem x_drop (he : PE X e (tEv X.K Γ ie true)) (hs : swapsWith e none pos.line X.env = pure false) : PS X (.Expr e pos) (tS X.K Γ (.drop ie)) := PS.imp (ps_expr he hs) fun D σ H ⟨B0, st, fp, ρ, R, h⟩ => by
  rw [exec] at h
  refine ev_step R h fun x v H1 c1 R1 r1 h1 => h1 fp σ H1 R1 (.expr c1 R1.sok) .refl
theorem x_if {a b : List Stmt} {ia ib : List S} (hc : PT X e (tEvT X.K Γ ie)) (ha : PSs X a (tSs X.K Γ ia)) (hb : PSs X b (tSs X.K Γ ib)) : PS X (.If e a b pos) (tS X.K Γ (.ifs ie ia ib)) :=
  PS.imp (ps_if hc ha hb) fun D σ H ⟨B0, st, fp, ρ, R, h⟩ => by
    rw [exec] at h
    refine evT_step R h fun b H1 c1 R1 h1 => ?_
    have a : Aft B0 st fp ρ H fp ρ H1 := .expr c1 R1.sok
    cases b with
    | true => exact iteT ⟨B0, st, fp, ρ, R1, T.all_mono (fun y hy => Leaf.back a .refl hy) h1⟩
    | false => exact iteF ⟨B0, st, fp, ρ, R1, T.all_mono (fun y hy => Leaf.back a .refl hy) h1⟩
/-! ### names stored -/
theorem leaf_ex {α : Type} {P : α → Prop} : ∀ {t : T α}, t.all P → ∃ a, P a
  | .ret a, h => ⟨a, h⟩
  | .err, h => h.elim
  | .drw n k, h => leaf_ex (h.2 0 h.1)
mutual
theorem asgT_get : ∀ {t : Tg} {x : D} {ρ ρ' : Env}, asgT t x ρ = some ρ' → ρ'.length = ρ.length ∧ (∀ j, j ∉ tgS t → ρ'[j]? = ρ[j]?) ∧ ∀ j, j ∈ tgS t → ∃ d, ρ'[j]? = some (.pl d)
  | .nm i, x, ρ, ρ', h => by
    rw [asgT] at h
    split at h
    · rename_i hi
      cases h
      refine ⟨List.length_set, fun j hj => List.getElem?_set_ne fun z => hj (by rw [tgS, ← z]; exact List.mem_cons_self), fun j hj => ?_⟩
      rw [tgS] at hj
      rw [List.mem_singleton.mp hj, List.getElem?_set_self hi]
      exact ⟨_, rfl⟩
    · cases h
  | .tup ts, x, ρ, ρ', h => by
    cases x with
    | tup xs => rw [asgT] at h; rw [tgS]; exact asgTs_get h
    | lst xs => rw [asgT] at h; rw [tgS]; exact asgTs_get h
    | _ => simp [asgT] at h
theorem asgTs_get : ∀ {ts : List Tg} {xs : List D} {ρ ρ' : Env}, asgTs ts xs ρ = some ρ' → ρ'.length = ρ.length ∧ (∀ j, j ∉ tgSs ts → ρ'[j]? = ρ[j]?) ∧ ∀ j, j ∈ tgSs ts → ∃ d, ρ'[j]? = some (.pl d)
  | [], [], ρ, ρ', h => by rw [asgTs] at h; cases h; exact ⟨rfl, fun _ _ => rfl, fun j hj => by rw [tgSs] at hj; cases hj⟩
  | [], _ :: _, _, _, h => by simp [asgTs] at h
  | _ :: _, [], _, _, h => by simp [asgTs] at h
  | t :: ts, x :: xs, ρ, ρ', h => by
    rw [asgTs] at h
    obtain ⟨ρ1, e1, e2⟩ := Option.bind_eq_some_iff.mp h
    obtain ⟨a0, a1, a2⟩ := asgT_get e1
    obtain ⟨b0, b1, b2⟩ := asgTs_get e2
    refine ⟨b0.trans a0, fun j hj => ?_, fun j hj => ?_⟩
    · rw [tgSs] at hj
      rw [b1 j fun z => hj (List.mem_append_right _ z), a1 j fun z => hj (List.mem_append_left _ z)]
    · by_cases m : j ∈ tgSs ts
      · exact b2 j m
      · rw [tgSs] at hj
        rw [b1 j m]
        exact a2 j ((List.mem_append.mp hj).resolve_right m)
end
theorem Aft.asg {B0 : Addr → Prop} {st : Option Addr} {fp : Nat → Option Addr} {ρ ρ' : Env} {H : Hp} {t : Tg} {x : D} (h : asgT t x ρ = some ρ') : Aft B0 st fp ρ H (dropsF fp (tgS t)) ρ' H := by
  obtain ⟨_, h1, _⟩ := asgT_get h
  refine ⟨.refl, fun p z => .inl ?_, fun p z => .inl (badOf.le dropsF_le z), fun p o e => ⟨o, e⟩⟩
  rcases z with z | ⟨i, d, f, e⟩
  · exact .inl z
  · obtain ⟨n, f⟩ := dropsF_some f
    exact .inr ⟨i, d, f, (h1 i n) ▸ e⟩
theorem Lkd.asg {fp : Nat → Option Addr} {ρ ρ' : Env} {t : Tg} {x : D} (h : asgT t x ρ = some ρ') : Lkd fp ρ (dropsF fp (tgS t)) ρ' := fun i d e => by
  obtain ⟨_, h1, h2⟩ := asgT_get h
  have n : i ∉ tgS t := fun z => by obtain ⟨d', e'⟩ := h2 i z; rw [e] at e'; cases e'
  exact ⟨⟨d, (h1 i n) ▸ e⟩, dropsF_ne n⟩
/-- how a value is stored by a target, behind an expression -/
theorem asg_leaf {K : Fg} {B0 : Addr → Prop} {st : Option Addr} {fp : Nat → Option Addr} {ρ ρ' : Env} {σ : L2.St} {H H1 : Hp} {D : Ends} {t : Tg} {x : FF.D} {v : V} (c : Ch (Cs st) H H1) (R1 : Rel K B0 st fp ρ σ H1) (r : Rep K (badOf B0 st fp) H1 x v) (e : asgT t x ρ = some ρ') (q : Leaf K B0 st fp ρ H D (.nx, ρ')) : tTg K t v σ H1 D.nx :=
  ⟨B0, st, fp, ρ, x, ρ', R1, r, e, fun σ' _ R' => q _ σ' H1 R' ((Aft.expr c R1.sok).trans (.asg e)) (.asg e)⟩
theorem x_asg {tg : Expr} {t : Tg} (he : PE X e (tEv X.K Γ ie false)) (hg : PG X tg (tTg X.K t)) (hs : swapsWithSole [tg] e pos.line X.env = pure false) (hw : swappedStores [tg] e X.env = pure none) (h1 : (assignEach [tg] X.env).map (·.2) = [assign tg X.env]) : PS X (.Assign [tg] e pos) (tS X.K Γ (.asg t ie)) :=
  PS.imp (ps_asg he hg hs hw h1) fun D σ H ⟨B0, st, fp, ρ, R, h⟩ => by
    rw [exec] at h
    refine ev_step R h fun x v H1 c1 R1 r1 h1 => ?_
    obtain ⟨ρ', e, q⟩ := T.all_ofO.mp (T.all_bind.mp h1)
    exact asg_leaf c1 R1 r1.rep e q

/-! ### lists of one's own -/
def putF (fp : Nat → Option Addr) (i : Nat) (p : Addr) : Nat → Option Addr := fun j => if j = i then some p else fp j
theorem putF_same {fp : Nat → Option Addr} {i : Nat} {p : Addr} : putF fp i p i = some p := by unfold putF; rw [if_pos rfl]
theorem putF_ne {fp : Nat → Option Addr} {i j : Nat} {p : Addr} (h : j ≠ i) : putF fp i p j = fp j := by unfold putF; rw [if_neg h]
theorem putF_some {fp : Nat → Option Addr} {i j : Nat} {p q : Addr} (h : putF fp i p j = some q) : (j = i ∧ q = p) ∨ (j ≠ i ∧ fp j = some q) := by
  by_cases e : j = i
  · subst e; rw [putF_same] at h; cases h; exact .inl ⟨rfl, rfl⟩
  · rw [putF_ne e] at h; exact .inr ⟨e, h⟩
section
variable {K : Fg} {B0 : Addr → Prop} {st : Option Addr} {fp : Nat → Option Addr} {ρ : Env} {σ : L2.St} {H H1 : Hp} {i : Nat} {p : Addr} {xs : List D} {vs : List V}
theorem bad_put {q : Addr} (h : badOf B0 st (putF fp i p) q) : badOf B0 st fp q ∨ q = p := by
  rcases h with h | h | ⟨j, h⟩
  · exact .inl (.inl h)
  · exact .inl (.inr (.inl h))
  · rcases putF_some h with ⟨_, e⟩ | ⟨_, e⟩
    · exact .inr e
    · exact .inl (.inr (.inr ⟨j, e⟩))
/-- a new list becomes the slot's own; at H nothing of it was there -/
theorem Rel.setBx (R : Rel K B0 st fp ρ σ H) (c : Ch (Cs st) H H1) (S : StOk st H1) (hn : H p = none) (hp : H1 p = some (.lst vs)) (hl : vs.length ≤ sizeLine) (hr : Reps K (fun q => badOf B0 st fp q ∨ q = p) H1 xs vs) :
    Rel K B0 st (putF fp i p) (ρ.set i (.bx (.lst xs))) (σ.set i (some (.ref p))) H1 ∨ ¬ i < ρ.length := by
  by_cases hi : i < ρ.length
  · refine .inl ?_
    have nb : ¬ badOf B0 st fp p := R.nbad hn
    have cC : ∀ q, Cs st q → badOf B0 st fp q ∨ H q = none := fun q z => .inl (bad_st z)
    have cB : ∀ q, badOf B0 st (putF fp i p) q → badOf B0 st fp q ∨ H q = none := fun q z => (bad_put z).elim .inl fun z => .inr (by rw [z]; exact hn)
    have R1 := R.mono c S
    refine ⟨by rw [List.length_set, List.length_set, R.len], fun j s e => ?_, fun j q e => ?_, fun j q e => ?_, fun j k q e1 e2 => ?_, R1.dom, R.st0, S⟩
    · rcases getElem?_set_some e with ⟨rfl, rfl, _⟩ | ⟨hne, e⟩
      · exact ⟨p, putF_same, by rw [List.getElem?_set_self (by rw [← R.len]; exact hi)], vs, hp, hl, Reps.less (fun q _ z => bad_put z) _ _ hr⟩
      · rw [List.getElem?_set_ne (Ne.symm hne)]
        have h := R.slot j s e
        cases s with
        | no => exact h
        | pl d => obtain ⟨v, e1, r⟩ := h; exact ⟨v, e1, Rep.later c cC cB _ _ r⟩
        | bx d =>
          obtain ⟨q, f, e1, r⟩ := h
          refine ⟨q, by rw [putF_ne hne]; exact f, e1, ?_⟩
          cases d with
          | lst ys => obtain ⟨ws, e2, l, r⟩ := r; exact ⟨ws, c _ _ e2 fun z => ((R.nb j q f).2 z).elim, l, Reps.later c cC cB _ _ r⟩
          | _ => exact r.elim
        | lk d =>
          obtain ⟨q, f, e1, r⟩ := h
          refine ⟨q, by rw [putF_ne hne]; exact f, e1, ?_⟩
          cases d with
          | lst ys => obtain ⟨ws, e2, l, r⟩ := r; exact ⟨ws, c _ _ e2 fun z => ((R.nb j q f).2 z).elim, l, Reps.later c cC cB _ _ r⟩
          | _ => exact r.elim
        | st => exact h
        | scr => obtain ⟨v, e1, r⟩ := h; exact ⟨v, e1, r.ch c⟩
    · rcases putF_some e with ⟨rfl, rfl⟩ | ⟨hne, f⟩
      · exact ⟨_, .inl (List.getElem?_set_self hi)⟩
      · obtain ⟨d, h⟩ := R.own j q f
        exact ⟨d, by rw [List.getElem?_set_ne (Ne.symm hne)]; exact h⟩
    · rcases putF_some e with ⟨rfl, rfl⟩ | ⟨hne, f⟩
      · exact ⟨fun z => nb (.inl z), fun z => nb (.inr (.inl z))⟩
      · exact R.nb j q f
    · rcases putF_some e1 with ⟨rfl, rfl⟩ | ⟨n1, f1⟩ <;> rcases putF_some e2 with ⟨rfl, e3⟩ | ⟨n2, f2⟩
      · rfl
      · exact (nb (.inr (.inr ⟨k, f2⟩))).elim
      · exact (nb (.inr (.inr ⟨j, e3 ▸ f1⟩))).elim
      · exact R.inj j k q f1 f2
  · exact .inr hi
theorem Aft.setBx (R : Rel K B0 st fp ρ σ H) (c : Ch (Cs st) H H1) (S : StOk st H1) (hn : H p = none) : Aft B0 st fp ρ H (putF fp i p) (ρ.set i (.bx (.lst xs))) H1 := by
  refine ⟨c.mono fun q z => .inl z, fun q z => ?_, fun q z => (bad_put z).elim .inl fun z => .inr (by rw [z]; exact hn), c.there (St.there S)⟩
  rcases z with z | ⟨j, d, f, e⟩
  · exact .inl (.inl z)
  · rcases putF_some f with ⟨rfl, rfl⟩ | ⟨hne, f⟩
    · exact .inr hn
    · rw [List.getElem?_set_ne (Ne.symm hne)] at e
      exact .inl (.inr ⟨j, d, f, e⟩)
theorem Lkd.setBx : Lkd fp ρ (putF fp i p) (ρ.set i (.bx (.lst xs))) := fun j d e => by
  rcases getElem?_set_some e with ⟨_, z, _⟩ | ⟨hne, e⟩
  · cases z
  · exact ⟨⟨d, e⟩, putF_ne hne⟩
theorem Aft.setPl {x : D} : Aft B0 st fp ρ H (dropF fp i) (ρ.set i (.pl x)) H := by
  refine ⟨.refl, fun p z => .inl ?_, fun p z => .inl (badOf.le FpLe.drop z), fun p o e => ⟨o, e⟩⟩
  rcases z with z | ⟨j, d, f, e⟩
  · exact .inl z
  · obtain ⟨n, f⟩ := dropF_some f
    rw [List.getElem?_set_ne (Ne.symm n)] at e
    exact .inr ⟨j, d, f, e⟩
theorem Lkd.setPl {x : D} : Lkd fp ρ (dropF fp i) (ρ.set i (.pl x)) := fun j d e => by
  rcases getElem?_set_some e with ⟨_, z, _⟩ | ⟨hne, e⟩
  · cases z
  · exact ⟨⟨d, e⟩, dropF_ne hne⟩
end
/-- name = e; a new list may become the name's own -/
theorem box_leaf {te : TE} {i : Nat} {b : Bool} (ht : ∀ σ H Q, tEv X.K Γ ie false σ H Q → te σ H Q) : ∀ D σ H, tS X.K Γ (.box i b ie) D σ H → tAsg te (gName i) D σ H := by
  intro D σ H ⟨B0, st, fp, ρ, R, h⟩
  rw [exec] at h
  refine ht σ H _ (ev_step R h fun x v H1 c1 R1 r1 h1 => ?_)
  unfold setS at h1
  split at h1
  · rename_i hi
    have pl : Leaf X.K B0 st fp ρ H D (.nx, ρ.set i (.pl x.1)) → gName i v σ H1 D.nx := fun h1 =>
      h1 _ _ H1 (R1.setPl r1.rep) ((Aft.expr c1 R1.sok).trans .setPl) .setPl
    obtain ⟨d, f⟩ := x
    cases b with
    | false => exact pl h1
    | true =>
      cases f with
      | false => exact pl h1
      | true =>
        have h1 : Leaf X.K B0 st fp ρ H D (.nx, ρ.set i (.bx d)) := h1
        have r1 : New X.K (badOf B0 st fp) H H1 d v := r1
        obtain ⟨xs, p, vs, rfl, rfl, hn, nb, hp, hl, hr⟩ := r1
        rcases R.setBx (i := i) c1 R1.sok hn hp hl hr with R2 | z
        · exact h1 _ _ H1 R2 (.setBx R c1 R1.sok hn) .setBx
        · exact (z hi).elim
  · exact h1.elim
theorem x_box {i : Nat} {b : Bool} {x : Str} {px : Pos} (hN : X.N.Nodup) (hi : X.N[i]? = some x) (hx : Loc X.env.scope x) (hf : X.fn x = true ∨ X.env.scope.names.lookup x = some .local) (he : PE X e (tEv X.K Γ ie false)) (hs : swapsWith e (some (.Name x px)) pos.line X.env = pure false) : PS X (.Assign [.Name x px] e pos) (tS X.K Γ (.box i b ie)) :=
  PS.imp (ps_set hN hi hx he hs hf) (box_leaf fun _ _ _ h => h)

/-! ### what is handed back -/
theorem ret_ok {K : Fg} {B0 : Addr → Prop} {st : Option Addr} {fp : Nat → Option Addr} {r : Rs} {H H1 : Hp} {v : V} (h : Res K (badOf B0 st fp) st false r H H1 v) : RetOk K B0 st fp r H H1 v := by
  have le : ∀ q, (B0 q ∨ st = some q) → badOf B0 st fp q := fun q z => z.elim .inl fun z => .inr (.inl z)
  unfold Res at h
  unfold RetOk
  split
  · rename_i q
    rw [if_pos q] at h
    obtain ⟨xs, p, vs, e1, e2, hn, nb, hp, hl, hr⟩ := h
    exact ⟨xs, p, vs, e1, e2, .inl hn, fun z => nb (.inl z), fun z => nb (.inr (.inl z)), hp, hl, Reps.less (fun q _ z => z.elim (fun z => .inl (le q z)) .inr) _ _ hr⟩
  · rename_i q
    rw [if_neg q, if_neg Bool.false_ne_true] at h
    exact Rep.less (fun q _ z => le q z) _ _ h
theorem x_ret (hv : isV ie = false) (he : PE X e (tEv X.K Γ ie false)) : PS X (.Return (some e) pos) (tS X.K Γ (.ret ie)) := PS.imp (ps_ret he) fun D σ H ⟨B0, st, fp, ρ, R, h⟩ => by
  rw [exec] at h
  have h : ((ev Γ ie false ρ).bind fun x => T.ret (Fl.rt x, ρ)).all (Leaf X.K B0 st fp ρ H D) := by
    unfold evRet at h
    cases ie with
    | v i => cases hv
    | _ => exact h
  refine ev_step R h fun x v H1 c1 R1 r1 h1 => ?_
  exact h1 v H1 (c1.mono fun p z => .inl z) (c1.there (St.there R1.sok)) R1.sok (ret_ok r1)
theorem x_retv {i : Nat} (he : PE X e (tVar i)) : PS X (.Return (some e) pos) (tS X.K Γ (.ret (.v i))) := PS.imp (ps_ret he) fun D σ H ⟨B0, st, fp, ρ, R, h⟩ => by
  rw [exec] at h
  unfold evRet at h
  simp only at h
  split at h
  · rename_i d e
    have h : Leaf X.K B0 st fp ρ H D (.rt (d, true), ρ) := h
    have e' : ρ[i]? = some (.bx d) := by
      unfold ownAt at e
      split at e
      · rename_i d' q; cases e; exact q
      · cases e
    obtain ⟨p, f, e1, b⟩ := R.slot i _ e'
    refine ⟨_, e1, h _ H .refl (fun p o e => ⟨o, e⟩) R.sok ?_⟩
    unfold RetOk
    rw [if_pos rfl]
    cases d with
    | lst xs =>
      obtain ⟨vs, hp, hl, hr⟩ := b
      refine ⟨xs, p, vs, rfl, rfl, .inr ⟨i, f⟩, (R.nb i p f).1, (R.nb i p f).2, hp, hl, Reps.less (fun q _ z => ?_) _ _ hr⟩
      rcases z with (z | z) | z
      · exact .inl z
      · exact .inr (.inl z)
      · exact .inr (.inr ⟨i, by rw [z]; exact f⟩)
    | _ => exact b.elim
  · rw [ev] at h
    obtain ⟨r, e, q⟩ := T.all_ofO.mp (T.all_bind.mp h)
    obtain ⟨d, e2, rfl⟩ := Option.map_eq_some_iff.mp e
    obtain ⟨v, e1, r⟩ := rd_spec R e2
    rw [if_neg Bool.false_ne_true] at r
    exact ⟨v, e1, q v H .refl (fun p o e => ⟨o, e⟩) R.sok (ret_ok (.of (fun _ => bad_st) r))⟩
theorem x_retN : PS X (.Return none pos) (tS X.K Γ .retN) := PS.imp ps_retN fun D σ H ⟨B0, st, fp, ρ, R, h⟩ => by
  rw [exec] at h
  exact h .non H .refl (fun p o e => ⟨o, e⟩) R.sok rfl
end
end FF

set_option Elab.async false
set_option linter.all false
set_option maxRecDepth 100000
set_option maxHeartbeats 4000000
/-! FF9: statements that change a list of one's own; loops. -/
namespace FF
open PySem PySem.Spec PyProof.Rows L2

theorem own_spec {ρ : Env} {i : Nat} {d : D} (h : ownAt ρ i = some d) : ρ[i]? = some (.bx d) := by
  unfold ownAt at h
  split at h
  · rename_i d' q; cases h; exact q
  · cases h
theorem idx_lt {ρ : Env} {i : Nat} {s : Slot} (h : ρ[i]? = some s) : i < ρ.length := by
  rcases Nat.lt_or_ge i ρ.length with z | z
  · exact z
  · rw [List.getElem?_eq_none z] at h; cases h
section
variable {K : Fg} {B0 : Addr → Prop} {st : Option Addr} {fp : Nat → Option Addr} {ρ : Env} {σ : L2.St} {H H1 : Hp} {i : Nat} {p : Addr} {xs ys : List D} {vs ws : List V}
/-- the own list of slot i, at p, becomes ys -/
theorem Rel.put (R : Rel K B0 st fp ρ σ H) (e : ρ[i]? = some (.bx (.lst xs))) (f : fp i = some p) (hl : ws.length ≤ sizeLine) (hr : Reps K (badOf B0 st fp) H ys ws) : Rel K B0 st fp (ρ.set i (.bx (.lst ys))) σ (upd H p (.lst ws)) := by
  have hi := idx_lt e
  have bp : badOf B0 st fp p := .inr (.inr ⟨i, f⟩)
  obtain ⟨zs, us, _, hp⟩ := R.boxAt f
  have c : Ch (fun q => q = p) H (upd H p (.lst ws)) := Ch.put hp rfl rfl
  have cB : ∀ q, q = p → badOf B0 st fp q := fun q z => by rw [z]; exact bp
  have keep : ∀ q o, q ≠ p → H q = some o → upd H p (.lst ws) q = some o := fun q o n h => by rw [upd_ne n]; exact h
  refine ⟨by rw [List.length_set, R.len], fun j s e' => ?_, fun j q e' => ?_, R.nb, R.inj, fun q hq => ?_, R.st0, fun q hq => ?_⟩
  · rcases getElem?_set_some e' with ⟨rfl, rfl, _⟩ | ⟨hne, e'⟩
    · obtain ⟨p', f', e1, _⟩ := R.slot j _ e
      rw [f] at f'; cases f'
      exact ⟨p, f, e1, ws, upd_same, hl, Reps.ch c cB _ _ hr⟩
    · have h := R.slot j s e'
      have other : ∀ q d, fp j = some q → BoxOk K (badOf B0 st fp) H q d → BoxOk K (badOf B0 st fp) (upd H p (.lst ws)) q d := fun q d g b => by
        cases d with
        | lst zs =>
          obtain ⟨us, e2, l, r⟩ := b
          exact ⟨us, keep _ _ (fun z => hne (R.inj j i p (z ▸ g) f)) e2, l, Reps.ch c cB _ _ r⟩
        | _ => exact b.elim
      cases s with
      | no => exact h
      | pl d => obtain ⟨v, e1, r⟩ := h; exact ⟨v, e1, Rep.ch c cB _ _ r⟩
      | bx d => obtain ⟨q, g, e1, r⟩ := h; exact ⟨q, g, e1, other q d g r⟩
      | lk d => obtain ⟨q, g, e1, r⟩ := h; exact ⟨q, g, e1, other q d g r⟩
      | st => exact h
      | scr => obtain ⟨v, e1, r⟩ := h; exact ⟨v, e1, r.ch c⟩
  · by_cases hj : j = i
    · subst hj; exact ⟨_, .inl (List.getElem?_set_self hi)⟩
    · obtain ⟨d, h⟩ := R.own j q e'
      exact ⟨d, by rw [List.getElem?_set_ne (Ne.symm hj)]; exact h⟩
  · obtain ⟨o, h⟩ := R.dom q hq
    exact ⟨o, keep q o (fun z => (R.nb i p f).1 (z ▸ hq)) h⟩
  · obtain ⟨k, v, h⟩ := R.sok q hq
    exact ⟨k, v, keep q _ (fun z => (R.nb i p f).2 (z ▸ hq)) h⟩
theorem Aft.put (R : Rel K B0 st fp ρ σ H) (e : ρ[i]? = some (.bx (.lst xs))) (f : fp i = some p) : Aft B0 st fp ρ H fp (ρ.set i (.bx (.lst ys))) (upd H p (.lst ws)) := by
  obtain ⟨zs, us, _, hp⟩ := R.boxAt f
  refine ⟨Ch.put hp rfl (.inr ⟨i, _, f, e⟩), fun q z => .inl ?_, fun q z => .inl z, fun q o h => ?_⟩
  · rcases z with z | ⟨j, d, g, e'⟩
    · exact .inl z
    · rcases getElem?_set_some e' with ⟨rfl, _, _⟩ | ⟨hne, e'⟩
      · exact .inr ⟨j, _, g, e⟩
      · exact .inr ⟨j, d, g, e'⟩
  · by_cases z : q = p
    · subst z; exact ⟨_, upd_same⟩
    · exact ⟨o, by rw [upd_ne z]; exact h⟩
theorem Lkd.put : Lkd fp ρ fp (ρ.set i (.bx (.lst ys))) := fun j d e => by
  rcases getElem?_set_some e with ⟨_, z, _⟩ | ⟨hne, e⟩
  · cases z
  · exact ⟨⟨d, e⟩, rfl⟩
end
theorem setD_spec {d y x d' : D} (h : setD d y x = some d') : ∃ xs i j, d = .lst xs ∧ y = .int i ∧ ixN xs.length i = some j ∧ d' = .lst (xs.set j x) ∧ j < xs.length := by
  cases d with
  | lst xs =>
    cases y with
    | int i =>
      rw [setD] at h
      refine ⟨xs, i, ?_⟩
      unfold ixN
      split at h
      · rename_i h0
        rw [if_pos h0]
        split at h
        · rename_i h1
          cases h
          exact ⟨i.toNat, rfl, rfl, by rw [if_pos h1], rfl, by omega⟩
        · cases h
      · rename_i h0
        rw [if_neg h0]
        split at h
        · rename_i h1
          cases h
          exact ⟨(i + xs.length).toNat, rfl, rfl, by rw [if_pos h1], rfl, by omega⟩
        · cases h
    | _ => simp [setD] at h
  | _ => simp [setD] at h
theorem popD_spec {d y d' : D} {ks : List D} (h : popD d ks = some (y, d')) : ∃ xs, d = .lst xs ∧ ((ks = [] ∧ xs[xs.length - 1]? = some y ∧ d' = .lst xs.dropLast ∧ xs ≠ []) ∨ ∃ i, ks = [.int i] ∧ 0 ≤ i ∧ i < xs.length ∧ xs[i.toNat]? = some y ∧ d' = .lst (xs.eraseIdx i.toNat)) := by
  cases d with
  | lst xs =>
    refine ⟨xs, rfl, ?_⟩
    rcases ks with _ | ⟨k, _ | ⟨k2, ks⟩⟩
    · rw [popD] at h
      split at h
      · rename_i z r e
        cases h
        have ex : xs = r.reverse ++ [y] := by rw [← List.reverse_reverse xs, e, List.reverse_cons]
        refine .inl ⟨rfl, ?_, ?_, ?_⟩
        · rw [ex]; simp
        · rw [ex]; simp
        · rw [ex]; simp
      · cases h
    · cases k with
      | int i =>
        rw [popD] at h
        split at h
        · rename_i h0
          obtain ⟨z, e1, e2⟩ := Option.map_eq_some_iff.mp h
          cases e2
          exact .inr ⟨i, rfl, h0.1, h0.2, e1, rfl⟩
        · cases h
      | _ => simp [popD] at h
    · cases k <;> simp [popD] at h
  | _ => simp [popD] at h
section
variable {X : Cx} {Γ : Sem} {pos : Pos} {e k o : Expr} {ie ik : E}
/-- x[k] = e -/
theorem x_setix {i : Nat} {p2 : Pos} (he : PE X e (tEv X.K Γ ie false)) (hx : PE X o (tVar i)) (hk : PE X k (tEv X.K Γ ik true)) (ha : ∀ v, assign (.Subscript o k p2) X.env v = (do
      let ov ← holding [v] (eval o X.env)
      let iv ← holding [v, ov] (eval k X.env)
      standAt p2
      holding [v, ov, iv] (setItem ov iv v)
      release [v, ov, iv] []))
    (hs : swapsWithSole [.Subscript o k p2] e pos.line X.env = pure false) (hw : swappedStores [.Subscript o k p2] e X.env = pure none) (h1 : (assignEach [.Subscript o k p2] X.env).map (·.2) = [assign (.Subscript o k p2) X.env]) :
    PS X (.Assign [.Subscript o k p2] e pos) (tS X.K Γ (.setix i ik ie)) :=
  PS.imp (ps_asg he (pg_sub hx hk set_list ha) hs hw h1) fun D σ H ⟨B0, st, fp, ρ, R, h⟩ => by
    rw [exec] at h
    refine ev_step R h fun x v H1 c1 R1 r1 h1 => ?_
    have hO : ∃ d, ownAt ρ i = some d := by
      obtain ⟨y, hy⟩ := leaf_ex (T.all_bind.mp h1)
      obtain ⟨d, e, _⟩ := T.all_ofO.mp (T.all_bind.mp hy)
      obtain ⟨d, e, _⟩ := Option.bind_eq_some_iff.mp e
      exact ⟨d, e⟩
    obtain ⟨d, hd⟩ := hO
    have es := own_spec hd
    obtain ⟨p, f, e1, b⟩ := R.slot i _ es
    refine ⟨_, e1, ev_step R1 h1 fun y w H2 c2 R2 r2 h2 => ?_⟩
    obtain ⟨d', e, q⟩ := T.all_ofO.mp (T.all_bind.mp h2)
    rw [hd] at e
    obtain ⟨xs, ii, j, rfl, ey, ej, rfl, hj⟩ := setD_spec (show setD d y.1 x.1 = some d' from e)
    obtain ⟨q2, f2, _, b2⟩ := R2.slot i _ es
    rw [f] at f2; cases f2
    obtain ⟨vs, hp, hl, hr⟩ := b2
    have ly := r2.look (fun _ => bad_st)
    rw [ey] at ly
    obtain rfl := ly
    refine ⟨p, vs, ii, j, rfl, rfl, hp, by rw [hr.length]; exact ej, ?_⟩
    have R3 := R2.put (ys := xs.set j x.1) (ws := vs.set j v) es f (by rw [List.length_set]; exact hl) (hr.set j (Rep.ch c2 (fun _ => bad_st) _ _ r1.rep))
    unfold setS at q
    rw [if_pos (idx_lt es)] at q
    exact q fp σ _ R3 ((Aft.expr (c1.trans c2) R2.sok).trans (.put R2 es f)) .put
/-- x.append(e) -/
theorem x_app {i : Nat} {apos cpos : Pos} (hx : PE X o (tVar i)) (he : PE X e (tEv X.K Γ ie false)) (hs1 : starEach [e] X.env = (false, eval e X.env) :: starEach [] X.env) (hs : ∀ pe : PE X (.Call (.Attribute o "append" apos) [e] [] cpos) (tBM X.K "list" rAppend (tVar i) (tCons (tEv X.K Γ ie false) tNil)), PS X (.Expr (.Call (.Attribute o "append" apos) [e] [] cpos) pos) (tDrop (tBM X.K "list" rAppend (tVar i) (tCons (tEv X.K Γ ie false) tNil))))
    (hpe : PE X (.Call (.Attribute o "append" apos) [e] [] cpos) (tBM X.K "list" rAppend (tVar i) (tCons (tEv X.K Γ ie false) tNil))) :
    PS X (.Expr (.Call (.Attribute o "append" apos) [e] [] cpos) pos) (tS X.K Γ (.app i ie)) :=
  PS.imp (hs hpe) fun D σ H ⟨B0, st, fp, ρ, R, h⟩ => by
    rw [exec] at h
    have hO : ∃ d, ownAt ρ i = some d := by
      obtain ⟨y, hy⟩ := leaf_ex (T.all_bind.mp h)
      obtain ⟨d, e, _⟩ := T.all_ofO.mp (T.all_bind.mp hy)
      obtain ⟨d, e, _⟩ := Option.bind_eq_some_iff.mp e
      exact ⟨d, e⟩
    obtain ⟨d, hd⟩ := hO
    have es := own_spec hd
    obtain ⟨p, f, e1, b⟩ := R.slot i _ es
    cases d with
    | lst xs =>
      obtain ⟨vs0, hp0, _, _⟩ := b
      refine ⟨_, e1, .inl ⟨rfl, _, SqL.of hp0⟩, ev_step R h fun x v H1 c1 R1 r1 h1 => ?_⟩
      obtain ⟨d', e, q⟩ := T.all_ofO.mp (T.all_bind.mp h1)
      rw [hd] at e
      have e : appD (.lst xs) x.1 = some d' := e
      rw [appD] at e
      split at e
      · rename_i hz
        cases e
        obtain ⟨q2, f2, _, b2⟩ := R1.slot i _ es
        rw [f] at f2; cases f2
        obtain ⟨vs, hp, hl, hr⟩ := b2
        have hz' : vs.length < sizeLine := by rw [line_eq, hr.length]; exact hz
        refine ⟨p, vs, v, rfl, rfl, hp, hz', ?_⟩
        have R3 := R1.put (ys := xs ++ [x.1]) (ws := vs ++ [v]) es f (by rw [List.length_append]; exact hz') (hr.append (.one r1.rep))
        unfold setS at q
        rw [if_pos (idx_lt es)] at q
        exact q fp σ _ R3 ((Aft.expr c1 R1.sok).trans (.put R1 es f)) .put
      · cases e
    | _ => exact b.elim

/-! ### pop -/
theorem Reps.getLast {K : Fg} {B : Addr → Prop} {H : Hp} {xs : List D} {vs : List V} {y : D} (r : Reps K B H xs vs) (h : xs[xs.length - 1]? = some y) : ∃ v, vs[vs.length - 1]? = some v ∧ Rep K B H y v := by
  rw [r.length]; exact r.get h
theorem Reps.dropLast {K : Fg} {B : Addr → Prop} {H : Hp} {xs : List D} {vs : List V} (r : Reps K B H xs vs) : Reps K B H xs.dropLast vs.dropLast := by
  rw [List.dropLast_eq_take, List.dropLast_eq_take, r.length]
  exact Reps.take _ r
/-- behind a pop: the value, the shorter list -/
theorem pop_leaf {K : Fg} {B0 : Addr → Prop} {st : Option Addr} {fp : Nat → Option Addr} {ρ : Env} {σ : L2.St} {H H1 : Hp} {i : Nat} {p : Addr} {xs ys : List D} {ws : List V} {y : D} {v : V} {D : Ends} {t : Tg} (c1 : Ch (Cs st) H H1) (R1 : Rel K B0 st fp ρ σ H1) (es : ρ[i]? = some (.bx (.lst xs))) (f : fp i = some p)
    (hl : ws.length ≤ sizeLine) (hr : Reps K (badOf B0 st fp) H1 ys ws) (ry : Rep K (badOf B0 st fp) H1 y v) (q : ((T.ofO (asgT t y (ρ.set i (.bx (.lst ys))))).bind fun ρ' => T.ret ((Fl.nx, ρ') : Xs)).all (Leaf K B0 st fp ρ H D)) : tTg K t v σ (upd H1 p (.lst ws)) D.nx := by
  have R2 := R1.put es f hl hr
  obtain ⟨ρ', e, q⟩ := T.all_ofO.mp (T.all_bind.mp q)
  obtain ⟨zs, us, _, hp⟩ := R1.boxAt f
  refine ⟨B0, st, fp, _, y, ρ', R2, Rep.ch (C := fun q => q = p) (Ch.put hp rfl rfl) (fun q z => .inr (.inr ⟨i, by rw [z]; exact f⟩)) _ _ ry, e, fun σ' _ R' => q _ σ' _ R' ?_ ?_⟩
  · exact ((Aft.expr c1 R1.sok).trans (.put R1 es f)).trans (.asg e)
  · exact Lkd.put.trans (.asg e)
theorem x_pop0 {tg : Expr} {t : Tg} {i : Nat} {apos cpos : Pos} (hp : PE X (.Call (.Attribute o "pop" apos) [] [] cpos) (tBM0 X.K "list" rPop (tVar i))) (hg : PG X tg (tTg X.K t)) (hs : swapsWithSole [tg] (.Call (.Attribute o "pop" apos) [] [] cpos) pos.line X.env = pure false) (hw : swappedStores [tg] (.Call (.Attribute o "pop" apos) [] [] cpos) X.env = pure none) (h1 : (assignEach [tg] X.env).map (·.2) = [assign tg X.env]) :
    PS X (.Assign [tg] (.Call (.Attribute o "pop" apos) [] [] cpos) pos) (tS X.K Γ (.popto t i [])) :=
  PS.imp (ps_asg hp hg hs hw h1) fun D σ H ⟨B0, st, fp, ρ, R, h⟩ => by
    rw [exec, evs] at h
    obtain ⟨⟨y, d'⟩, e, q⟩ := T.all_ofO.mp (T.all_bind.mp h)
    obtain ⟨d, hd, e⟩ := Option.bind_eq_some_iff.mp e
    have es := own_spec hd
    obtain ⟨xs, rfl, hx⟩ := popD_spec e
    obtain ⟨p, f, e1, vs, hp, hl, hr⟩ := R.slot i _ es
    rcases hx with ⟨_, hy, rfl, _⟩ | ⟨_, z, _⟩
    · obtain ⟨v, hv, ry⟩ := hr.getLast hy
      exact ⟨_, e1, .inl ⟨rfl, _, SqL.of hp⟩, p, vs, v, rfl, rfl, hp, hv, pop_leaf .refl R es f (by rw [List.length_dropLast]; omega) hr.dropLast ry q⟩
    · cases z
theorem x_pop1 {tg : Expr} {t : Tg} {i : Nat} {apos cpos : Pos} (hp : PE X (.Call (.Attribute o "pop" apos) [k] [] cpos) (tBM X.K "list" rPopAt (tVar i) (tCons (tEv X.K Γ ik true) tNil))) (hg : PG X tg (tTg X.K t)) (hs : swapsWithSole [tg] (.Call (.Attribute o "pop" apos) [k] [] cpos) pos.line X.env = pure false) (hw : swappedStores [tg] (.Call (.Attribute o "pop" apos) [k] [] cpos) X.env = pure none) (h1 : (assignEach [tg] X.env).map (·.2) = [assign tg X.env]) :
    PS X (.Assign [tg] (.Call (.Attribute o "pop" apos) [k] [] cpos) pos) (tS X.K Γ (.popto t i [ik])) :=
  PS.imp (ps_asg hp hg hs hw h1) fun D σ H ⟨B0, st, fp, ρ, R, h⟩ => by
    rw [exec, evs] at h
    have h := T.all_bind.mp h
    have hO : ∃ d, ownAt ρ i = some d := by
      obtain ⟨y, hy⟩ := leaf_ex h
      obtain ⟨d, e, _⟩ := T.all_ofO.mp (T.all_bind.mp hy)
      obtain ⟨d, e, _⟩ := Option.bind_eq_some_iff.mp e
      exact ⟨d, e⟩
    obtain ⟨d, hd⟩ := hO
    have es := own_spec hd
    have ⟨p, f, e1, b⟩ := R.slot i _ es
    have : ∃ xs, d = .lst xs := by cases d with | lst xs => exact ⟨xs, rfl⟩ | _ => exact b.elim
    obtain ⟨xs, rfl⟩ := this
    obtain ⟨vs0, hp0, _, _⟩ := b
    refine ⟨_, e1, .inl ⟨rfl, _, SqL.of hp0⟩, ev_step R (T.all_bind.mpr (T.all_bind.mp h)) fun x w H1 c1 R1 r1 h1 => ?_⟩
    rw [evs] at h1
    obtain ⟨⟨y, d'⟩, e, q⟩ := T.all_ofO.mp (T.all_bind.mp h1)
    rw [hd] at e
    obtain ⟨xs', ex, hx⟩ := popD_spec (show popD (.lst xs) [x.1] = some (y, d') from e)
    cases ex
    obtain ⟨p', f', _, vs, hp, hl, hr⟩ := R1.slot i _ es
    rw [f] at f'; cases f'
    rcases hx with ⟨z, _⟩ | ⟨ii, ek, h0, hlt, hy, rfl⟩
    · cases z
    · have lx := r1.look (fun _ => bad_st)
      rw [show x.1 = .int ii from List.head_eq_of_cons_eq ek] at lx
      obtain rfl := lx
      obtain ⟨v, hv, ry⟩ := hr.get hy
      have hix : ixN vs.length ii = some ii.toNat := by
        unfold ixN
        rw [if_pos h0, hr.length, if_pos hlt]
      have hsx := (ixN_seq hix).1
      have hz : vs.length ≤ 16777216 := by rw [← sizeLine_eq]; exact hl
      refine ⟨p, vs, ii, ii.toNat, v, rfl, rfl, hp, by omega, by rw [← hr.length] at hlt; omega, hsx, hv, pop_leaf c1 R1 es f ?_ (hr.eraseIdx _) ry q⟩
      exact Nat.le_trans (len_erase _ _) hl
/-- out.append(x.pop(k)) -/
theorem x_apppop {oo : Expr} {i j : Nat} {apos cpos apos' cpos' : Pos} (hs1 : PS X (.Expr (.Call (.Attribute oo "append" apos') [.Call (.Attribute o "pop" apos) [k] [] cpos] [] cpos') pos) (tDrop (tBM X.K "list" rAppend (tVar j) (tCons (tBM X.K "list" rPopAt (tVar i) (tCons (tEv X.K Γ ik true) tNil)) tNil)))) :
    PS X (.Expr (.Call (.Attribute oo "append" apos') [.Call (.Attribute o "pop" apos) [k] [] cpos] [] cpos') pos) (tS X.K Γ (.apppop j i [ik])) :=
  PS.imp hs1 fun D σ H ⟨B0, st, fp, ρ, R, h⟩ => by
    rw [exec, evs] at h
    have h := T.all_bind.mp h
    have hO : ∃ d d2, ownAt ρ i = some d ∧ ownAt ρ j = some d2 ∧ j ≠ i := by
      obtain ⟨y, hy⟩ := leaf_ex h
      obtain ⟨d, e, hz⟩ := T.all_ofO.mp (T.all_bind.mp hy)
      obtain ⟨d, e, _⟩ := Option.bind_eq_some_iff.mp e
      obtain ⟨d2, e2, hz⟩ := T.all_ofO.mp (T.all_bind.mp hz)
      obtain ⟨d2, e2, _⟩ := Option.bind_eq_some_iff.mp e2
      refine ⟨d, d2, e, e2, fun z => ?_⟩
      rw [if_pos z] at hz
      exact hz
    obtain ⟨d, d2, hd, hd2, hne⟩ := hO
    have es := own_spec hd
    have es2 := own_spec hd2
    have ⟨p, f, e1, b⟩ := R.slot i _ es
    have ⟨p2, f2, e2, b2⟩ := R.slot j _ es2
    have : ∃ xs, d = .lst xs := by cases d with | lst xs => exact ⟨xs, rfl⟩ | _ => exact b.elim
    obtain ⟨xs, rfl⟩ := this
    have : ∃ xs, d2 = .lst xs := by cases d2 with | lst xs => exact ⟨xs, rfl⟩ | _ => exact b2.elim
    obtain ⟨xs2, rfl⟩ := this
    obtain ⟨vs0, hp0, _, _⟩ := b
    obtain ⟨vs2, hp2, _, _⟩ := b2
    have npp : p2 ≠ p := fun z => hne (R.inj j i p (z ▸ f2) f)
    refine ⟨_, e2, .inl ⟨rfl, _, SqL.of hp2⟩, _, e1, .inl ⟨rfl, _, SqL.of hp0⟩, ev_step R (T.all_bind.mpr (T.all_bind.mp h)) fun x w H1 c1 R1 r1 h1 => ?_⟩
    rw [evs] at h1
    obtain ⟨⟨y, d'⟩, e, q⟩ := T.all_ofO.mp (T.all_bind.mp h1)
    rw [hd] at e
    obtain ⟨xs', ex, hx⟩ := popD_spec (show popD (.lst xs) [x.1] = some (y, d') from e)
    cases ex
    obtain ⟨p', f', _, vs, hp, hl, hr⟩ := R1.slot i _ es
    rw [f] at f'; cases f'
    obtain ⟨p2', f2', _, ws, hq, hl2, hr2⟩ := R1.slot j _ es2
    rw [f2] at f2'; cases f2'
    rcases hx with ⟨z, _⟩ | ⟨ii, ek, h0, hlt, hy, rfl⟩
    · cases z
    · have lx := r1.look (fun _ => bad_st)
      rw [show x.1 = .int ii from List.head_eq_of_cons_eq ek] at lx
      obtain rfl := lx
      obtain ⟨v, hv, ry⟩ := hr.get hy
      have hix : ixN vs.length ii = some ii.toNat := by
        unfold ixN
        rw [if_pos h0, hr.length, if_pos hlt]
      have hsx := (ixN_seq hix).1
      have hz : vs.length ≤ 16777216 := by rw [← sizeLine_eq]; exact hl
      refine ⟨p, vs, ii, ii.toNat, v, rfl, rfl, hp, by omega, by rw [← hr.length] at hlt; omega, hsx, hv, ?_⟩
      obtain ⟨d3, e3, q⟩ := T.all_ofO.mp (T.all_bind.mp q)
      rw [hd2] at e3
      have e3 : appD (.lst xs2) y = some d3 := e3
      rw [appD] at e3
      split at e3
      · rename_i hz2
        cases e3
        have hz2' : ws.length < sizeLine := by rw [line_eq, hr2.length]; exact hz2
        have R2 := R1.put (ys := xs.eraseIdx ii.toNat) (ws := vs.eraseIdx ii.toNat) es f (Nat.le_trans (len_erase _ _) hl) (hr.eraseIdx _)
        have cp : Ch (fun q => q = p) H1 (upd H1 p (.lst (vs.eraseIdx ii.toNat))) := Ch.put hp rfl rfl
        have bp : ∀ q, q = p → badOf B0 st fp q := fun q z => .inr (.inr ⟨i, by rw [z]; exact f⟩)
        have es3 : (ρ.set i (.bx (.lst (xs.eraseIdx ii.toNat))))[j]? = some (.bx (.lst xs2)) := by rw [List.getElem?_set_ne (Ne.symm hne)]; exact es2
        have R3 := R2.put (ys := xs2 ++ [y]) (ws := ws ++ [v]) es3 f2 (by rw [List.length_append]; exact hz2') ((Reps.ch cp bp _ _ hr2).append (.one (Rep.ch cp bp _ _ ry)))
        refine ⟨p2, ws, v, rfl, rfl, by rw [upd_ne npp]; exact hq, hz2', ?_⟩
        rw [if_neg hne] at q
        unfold setS at q
        rw [if_pos (idx_lt es3)] at q
        exact q fp σ _ R3 (((Aft.expr c1 R1.sok).trans (.put R1 es f)).trans (.put R2 es3 f2)) (Lkd.put.trans .put)
      · cases e3
end

/-! ### while -/
section
variable {X : Cx} {Γ : Sem} {pos : Pos} {c : Expr} {ic : E} {body : List Stmt} {ib : List S}
theorem x_while {n : Nat} (hp : PassesOwn (model X.prog X.w) X.A X.env X.xe) (hc : PT X c (tEvT X.K Γ ic)) (hb : PSs X body (tSs X.K Γ ib)) : PS X (.While c body [] pos) (tS X.K Γ (.whl n ic ib)) :=
  PS.imp (ps_while hp hc hb) fun D σ H ⟨B0, st, fp, ρ, R, h⟩ => by
    rw [exec] at h
    refine ⟨fun m σ1 H1 => ∃ fp1 ρ1, Rel X.K B0 st fp1 ρ1 σ1 H1 ∧ Aft B0 st fp ρ H fp1 ρ1 H1 ∧ Lkd fp ρ fp1 ρ1 ∧ (whlL (fun ρ => blT (ev Γ ic true ρ)) (fun ρ => execs Γ ib ρ) m ρ1).all (Leaf X.K B0 st fp ρ H D), ⟨n, fp, ρ, R, .refl, .refl, h⟩, ?_⟩
    rintro m σ1 H1 ⟨fp1, ρ1, R1, a1, l1, h1⟩
    cases m with
    | zero => exact h1.elim
    | succ m =>
      rw [whlL] at h1
      refine evT_step R1 h1 fun b H2 c2 R2 h2 => ?_
      have a2 : Aft B0 st fp ρ H fp1 ρ1 H2 := a1.trans (.expr c2 R2.sok)
      cases b with
      | false => exact iteF (h2 fp1 σ1 H2 R2 a2 l1)
      | true =>
        refine iteT ⟨_, fun σ' H' w => ⟨m, Nat.lt_succ_self m, w⟩, B0, st, fp1, ρ1, R2, T.all_mono (fun x hx => ?_) (T.all_bind.mp h2)⟩
        obtain ⟨fl, ρ3⟩ := x
        cases fl with
        | nx => exact fun fp3 σ3 H3 R3 a3 l3 => ⟨fp3, ρ3, R3, a2.trans a3, l1.trans l3, hx⟩
        | ct => exact fun fp3 σ3 H3 R3 a3 l3 => ⟨fp3, ρ3, R3, a2.trans a3, l1.trans l3, hx⟩
        | bk => exact fun fp3 σ3 H3 R3 a3 l3 => hx fp3 σ3 H3 R3 (a2.trans a3) (l1.trans l3)
        | rt r =>
          have hx : Leaf X.K B0 st fp ρ H D (.rt r, ρ3) := hx
          exact Leaf.back (fp1 := fp1) (ρ1 := ρ1) a2 l1 hx
end
end FF

set_option Elab.async false
set_option linter.all false
set_option maxRecDepth 100000
set_option maxHeartbeats 4000000
/-! FF10: for; several names at once. -/
namespace FF
open PySem PySem.Spec PyProof.Rows L2

/-! ### slots held while they are walked -/
theorem lockS_get {i : Nat} : ∀ {ses : List E} {ρ : Env} {s : Slot}, (lockS ses ρ)[i]? = some s → ρ[i]? = some s ∨ ∃ d, s = .lk d ∧ ρ[i]? = some (.bx d) ∧ E.v i ∈ ses
  | [], _, _, h => .inl h
  | e :: ses, ρ, s, h => by
    cases e with
    | v j =>
      rw [lockS] at h
      split at h
      · rename_i d e
        rcases lockS_get h with h | ⟨d', e1, h, m⟩
        · rcases getElem?_set_some h with ⟨rfl, rfl, _⟩ | ⟨hne, h⟩
          · exact .inr ⟨d, rfl, e, List.mem_cons_self⟩
          · exact .inl h
        · rcases getElem?_set_some h with ⟨_, z, _⟩ | ⟨hne, h⟩
          · cases z
          · exact .inr ⟨d', e1, h, List.mem_cons_of_mem _ m⟩
      · rcases lockS_get h with h | ⟨d', e1, h, m⟩
        · exact .inl h
        · exact .inr ⟨d', e1, h, List.mem_cons_of_mem _ m⟩
    | _ =>
      rcases lockS_get (show (lockS ses ρ)[i]? = some s from h) with h | ⟨d', e1, h, m⟩
      · exact .inl h
      · exact .inr ⟨d', e1, h, List.mem_cons_of_mem _ m⟩
theorem lockS_length : ∀ {ses : List E} {ρ : Env}, (lockS ses ρ).length = ρ.length
  | [], _ => rfl
  | e :: ses, ρ => by
    cases e with
    | v j =>
      rw [lockS, lockS_length]
      split
      · exact List.length_set
      · rfl
    | _ => exact lockS_length (ses := ses)
/-- a slot that is walked is not one's own to change -/
theorem lockS_not {i : Nat} {d : D} : ∀ {ses : List E} {ρ : Env}, E.v i ∈ ses → (lockS ses ρ)[i]? ≠ some (.bx d)
  | e :: ses, ρ, m => fun h => by
    have hd : ∀ {ρ : Env}, (lockS ses ρ)[i]? = some (.bx d) → ρ[i]? = some (.bx d) := fun h => by
      rcases lockS_get h with h | ⟨d', e1, _⟩
      · exact h
      · cases e1
    rcases List.mem_cons.mp m with rfl | m'
    · rw [lockS] at h
      split at h
      · rename_i d' e
        have h := hd h
        rw [List.getElem?_set_self (idx_lt e)] at h
        cases h
      · rename_i q
        exact q d (hd h)
    · cases e with
      | v j => rw [lockS] at h; exact lockS_not m' h
      | _ => exact lockS_not m' (show (lockS ses ρ)[i]? = some (.bx d) from h)
theorem unlockS_get {ρ₀ : Env} {i : Nat} : ∀ {ses : List E} {ρ : Env} {s : Slot}, (unlockS ρ₀ ses ρ)[i]? = some s → ρ[i]? = some s ∨ ∃ d d', s = .bx d ∧ ρ[i]? = some (.lk d) ∧ ρ₀[i]? = some (.bx d')
  | [], _, _, h => .inl h
  | e :: ses, ρ, s, h => by
    cases e with
    | v j =>
      rw [unlockS] at h
      split at h
      · rename_i d0 d e0 e
        rcases unlockS_get h with h | ⟨d1, d2, e1, h, h0⟩
        · rcases getElem?_set_some h with ⟨rfl, rfl, _⟩ | ⟨hne, h⟩
          · exact .inr ⟨d, d0, rfl, e, e0⟩
          · exact .inl h
        · rcases getElem?_set_some h with ⟨_, z, _⟩ | ⟨hne, h⟩
          · cases z
          · exact .inr ⟨d1, d2, e1, h, h0⟩
      · exact unlockS_get h
    | _ => exact unlockS_get (ses := ses) h
theorem unlockS_length {ρ₀ : Env} : ∀ {ses : List E} {ρ : Env}, (unlockS ρ₀ ses ρ).length = ρ.length
  | [], _ => rfl
  | e :: ses, ρ => by
    cases e with
    | v j =>
      rw [unlockS, unlockS_length]
      split
      · exact List.length_set
      · rfl
    | _ => exact unlockS_length (ses := ses)
/-- a slot that is held behind the walk was held ahead of it -/
theorem unlockS_lk {ρ₀ : Env} {i : Nat} {d d' : D} : ∀ {ses : List E} {ρ : Env}, (unlockS ρ₀ ses ρ)[i]? = some (.lk d) → E.v i ∈ ses → ρ₀[i]? ≠ some (.bx d')
  | e :: ses, ρ, h, m, q => by
    have sub : ∀ {ρ : Env}, (unlockS ρ₀ ses ρ)[i]? = some (.lk d) → ρ[i]? = some (.lk d) := fun h => by
      rcases unlockS_get h with h | ⟨_, _, z, _⟩
      · exact h
      · cases z
    rcases List.mem_cons.mp m with rfl | m'
    · rw [unlockS] at h
      split at h
      · rename_i d0 d1 e0 e1
        have h := sub h
        rw [List.getElem?_set_self (idx_lt e1)] at h
        cases h
      · rename_i z
        exact z d' d q (sub h)
    · cases e with
      | v j => rw [unlockS] at h; exact unlockS_lk h m' q
      | _ => exact unlockS_lk (ses := ses) h m' q
section
variable {K : Fg} {B0 : Addr → Prop} {st : Option Addr} {fp : Nat → Option Addr} {ρ ρ₀ : Env} {σ : L2.St} {H : Hp} {ses : List E}
theorem Rel.lock (R : Rel K B0 st fp ρ σ H) : Rel K B0 st fp (lockS ses ρ) σ H := by
  refine ⟨by rw [lockS_length, R.len], fun i s e => ?_, fun i p f => ?_, R.nb, R.inj, R.dom, R.st0, R.sok⟩
  · rcases lockS_get e with e2 | ⟨d, rfl, e2, _⟩
    · exact R.slot i s e2
    · exact R.slot i (.bx d) e2
  · obtain ⟨d, e⟩ := R.own i p f
    have hi : i < (lockS ses ρ).length := by
      rw [lockS_length]
      rcases e with e | e <;> exact idx_lt e
    have e' : (lockS ses ρ)[i]? = some (lockS ses ρ)[i] := List.getElem?_eq_getElem hi
    rcases lockS_get e' with q | ⟨d', q, _⟩
    · refine ⟨d, ?_⟩
      rcases e with e | e
      · rw [e', ← q, e]; exact .inl rfl
      · rw [e', ← q, e]; exact .inr rfl
    · exact ⟨d', .inr (by rw [e', q])⟩
theorem Rel.unlock (R : Rel K B0 st fp ρ σ H) : Rel K B0 st fp (unlockS ρ₀ ses ρ) σ H := by
  refine ⟨by rw [unlockS_length, R.len], fun i s e => ?_, fun i p f => ?_, R.nb, R.inj, R.dom, R.st0, R.sok⟩
  · rcases unlockS_get e with e2 | ⟨d, _, rfl, e2, _⟩
    · exact R.slot i s e2
    · exact R.slot i (.lk d) e2
  · obtain ⟨d, e⟩ := R.own i p f
    have hi : i < (unlockS ρ₀ ses ρ).length := by
      rw [unlockS_length]
      rcases e with e | e <;> exact idx_lt e
    have e' : (unlockS ρ₀ ses ρ)[i]? = some (unlockS ρ₀ ses ρ)[i] := List.getElem?_eq_getElem hi
    rcases unlockS_get e' with q | ⟨d', _, q, _⟩
    · refine ⟨d, ?_⟩
      rcases e with e | e
      · rw [e', ← q, e]; exact .inl rfl
      · rw [e', ← q, e]; exact .inr rfl
    · exact ⟨d', .inl (by rw [e', q])⟩
end
section
variable {X : Cx} {Γ : Sem} {pos : Pos} {tg iter : Expr} {t : Tg} {sk : Sk} {ses : List E} {body : List Stmt} {ib : List S}
theorem x_for (hp : PassesOwn (model X.prog X.w) X.A X.env X.xe) (hc : X.calm = true) (hi : PI X tg iter (tSrc X.K Γ sk ses)) (hg : PG X tg (tTg X.K t)) (hb : PSs X body (tSs X.K Γ ib)) (hs : ∀ x, foldedSetIterable iter X.env x = pure x) : PS X (.For tg iter body [] pos) (tS X.K Γ (.forr t sk ses ib)) :=
  PS.imp (ps_for hp hc hi hg hb hs) fun D σ H ⟨B0, st, fp, ρ, R, h⟩ => by
    rw [exec] at h
    have h : ((evS Γ ses ρ).bind fun xs => T.ofO (srcD sk xs)).all _ := T.all_bind.mpr (T.all_mono (fun xs hx => T.all_bind.mp hx) (T.all_bind.mp h))
    refine ⟨B0, st, fp, ρ, R, T.all_mono (fun its hL J H1 c1 S1 hlen wk => ?_) h⟩
    have R1 := R.mono c1 S1
    have RL : Rel X.K B0 st fp (lockS ses ρ) σ H1 := R1.lock
    have a0 : Aft B0 st fp ρ H fp ρ H1 := .expr c1 S1
    have mle : ∀ p, Mu st fp (lockS ses ρ) p → Mu st fp ρ p := fun p z => by
      rcases z with z | ⟨i, d, f, e⟩
      · exact .inl z
      · rcases lockS_get e with e | ⟨_, z, _⟩
        · exact .inr ⟨i, d, f, e⟩
        · cases z
    have aL : Aft B0 st fp ρ H fp (lockS ses ρ) H1 := ⟨a0.ch, fun p z => a0.mu p (mle p z), a0.bad, a0.there⟩
    have cok : COk (badOf B0 st fp) fp H1 ses (Mu st fp (lockS ses ρ)) := by
      refine ⟨fun p z => .inl ?_, fun i p m f z => ?_⟩
      · rcases z with z | ⟨i, d, f, e⟩
        · exact .inr (.inl z)
        · exact .inr (.inr ⟨i, f⟩)
      · rcases z with z | ⟨j, d, g, e⟩
        · exact (R.nb i p f).2 z
        · have ej := R.inj i j p f g
          subst ej
          exact lockS_not m e
    have wk := wk _ cok
    have hL := T.all_bind.mp hL
    refine ⟨fun i n σ' H' => n = its.length - i ∧ i ≤ its.length ∧ ∃ fp' ρ', Rel X.K B0 st fp' ρ' σ' H' ∧ Aft B0 st fp (lockS ses ρ) H1 fp' ρ' H' ∧ Lkd fp (lockS ses ρ) fp' ρ' ∧
      (forL (fun x ρ => (T.ofO (asgT t x ρ)).bind fun ρ' => execs Γ ib ρ') (its.drop i) ρ').all (fun r : Xs => Leaf X.K B0 st fp ρ H D (r.1, unlockS ρ ses r.2)),
      ⟨its.length, rfl, Nat.zero_le _, fp, lockS ses ρ, RL, .refl, .refl, T.all_mono (fun _ h => h) hL⟩, ?_⟩
    -- the loop's own end
    have fin : ∀ {fp' ρ' σ' H'}, Rel X.K B0 st fp' ρ' σ' H' → Aft B0 st fp (lockS ses ρ) H1 fp' ρ' H' → Lkd fp (lockS ses ρ) fp' ρ' → Leaf X.K B0 st fp ρ H D (.nx, unlockS ρ ses ρ') → D.nx σ' H' := fun {fp' ρ' σ' H'} R' a' l' q => by
      have a2 := aL.trans a'
      refine q fp' σ' H' R'.unlock ⟨a2.ch, fun p z => ?_, a2.bad, a2.there⟩ fun i d e => ?_
      · rcases z with z | ⟨i, d, f, e⟩
        · exact .inl (.inl z)
        · rcases unlockS_get e with e | ⟨d1, d2, z, e, e0⟩
          · exact a2.mu p (.inr ⟨i, d, f, e⟩)
          · obtain ⟨_, ef⟩ := l' i d1 e
            exact .inl (.inr ⟨i, d2, by rw [← ef]; exact f, e0⟩)
      · have e1 : ρ'[i]? = some (.lk d) := by
          rcases unlockS_get e with e | ⟨_, _, z, _⟩
          · exact e
          · cases z
        obtain ⟨⟨d1, e2⟩, ef⟩ := l' i d e1
        refine ⟨⟨d1, ?_⟩, ef⟩
        rcases lockS_get e2 with e2 | ⟨d3, _, e3, m⟩
        · exact e2
        · exact (unlockS_lk e m e3).elim
    rintro i n σ' H' ⟨rfl, hi, fp', ρ', R', a', l', hr⟩
    obtain ⟨wgo, wstop⟩ := wk H' a'.ch
    by_cases hlt : i < its.length
    · have ei : its[i]? = some its[i] := List.getElem?_eq_getElem hlt
      obtain ⟨go, yl⟩ := wgo i _ ei
      rw [List.drop_eq_getElem_cons hlt, forL] at hr
      refine .inr ⟨go, _, fun σ2 H2 w => ⟨its.length - (i + 1), by omega, rfl, hlt, w⟩, fun x H2 y => ?_⟩
      obtain ⟨cy, ry⟩ := yl x H2 y
      have S2 : StOk st H2 := fun p e => by obtain ⟨k, u, e'⟩ := R'.sok p e; exact ⟨k, u, cy _ _ e' fun z => z.elim⟩
      have R2 : Rel X.K B0 st fp' ρ' σ' H2 := R'.mono (cy.mono fun _ z => z.elim) S2
      have a2 : Aft B0 st fp (lockS ses ρ) H1 fp' ρ' H2 := a'.trans (.expr (cy.mono fun _ z => z.elim) S2)
      obtain ⟨ρ2, ea, hr⟩ := T.all_ofO.mp (T.all_bind.mp (T.all_bind.mp hr))
      refine ⟨B0, st, fp', ρ', its[i], ρ2, R2, ry _ fun p z => ?_, ea, fun σ3 _ R3 => ⟨B0, st, _, ρ2, R3, T.all_mono (fun z hz => ?_) hr⟩⟩
      · exact a2.bad p z |>.elim .inl .inr
      have a3 : Aft B0 st fp (lockS ses ρ) H1 (dropsF fp' (tgS t)) ρ2 H2 := a2.trans (.asg ea)
      have l3 : Lkd fp (lockS ses ρ) (dropsF fp' (tgS t)) ρ2 := l'.trans (.asg ea)
      obtain ⟨fl, ρ4⟩ := z
      cases fl with
      | nx => exact fun fp4 σ4 H4 R4 a4 l4 => ⟨fp4, ρ4, R4, a3.trans a4, l3.trans l4, hz⟩
      | ct => exact fun fp4 σ4 H4 R4 a4 l4 => ⟨fp4, ρ4, R4, a3.trans a4, l3.trans l4, hz⟩
      | bk => exact fun fp4 σ4 H4 R4 a4 l4 => fin R4 (a3.trans a4) (l3.trans l4) hz
      | rt r =>
        have a5 := aL.trans a3
        have hz : Leaf X.K B0 st fp ρ H D (.rt r, unlockS ρ ses ρ4) := hz
        refine fun v H5 c5 t5 S5 q5 => hz v H5 (fun p o e i => ?_) (fun p o e => ?_) S5 (q5.back a5)
        · refine c5 p o (a5.ch p o e i) fun z => ?_
          rcases a5.mu p z with z | z
          · exact i z
          · rw [e] at z; cases z
        · obtain ⟨o1, e1⟩ := a5.there p o e
          exact t5 p o1 e1
    · have ei : i = its.length := by omega
      subst ei
      refine .inl ⟨wstop, fin R' a' l' ?_⟩
      rw [List.drop_length, forL] at hr
      exact hr
end
end FF

set_option Elab.async false
set_option linter.all false
set_option maxRecDepth 100000
set_option maxHeartbeats 4000000
/-! FF11: several names stored at once. -/
namespace FF
open PySem PySem.Spec PyProof.Rows L2

/-- values, the new lists among them at N -/
def ParR (K : Fg) (B : Addr → Prop) (H : Hp) : List Rs → List V → List Addr → Prop
  | [], vs, N => vs = [] ∧ N = []
  | r :: rs, vs, N => ∃ v ws, vs = v :: ws ∧ if r.2 = true then ∃ xs p us N', N = p :: N' ∧ r.1 = .lst xs ∧ v = .ref p ∧ H p = some (.lst us) ∧ us.length ≤ sizeLine ∧ Reps K B H xs us ∧ ParR K B H rs ws N'
      else Rep K B H r.1 v ∧ ParR K B H rs ws N
def withN (B0 : Addr → Prop) (N : List Addr) : Addr → Prop := fun q => B0 q ∨ q ∈ N
def tEvR (K : Fg) (Γ : Sem) (es : List E) : TA := fun σ H Q => ∃ (B0 : Addr → Prop) (st : Option Addr) (fp : Nat → Option Addr) (ρ : Env), Rel K B0 st fp ρ σ H ∧
  (evR Γ es ρ).all fun rs => ∀ vs H' N, Ch (Cs st) H H' → StOk st H' → N.Nodup → (∀ p, p ∈ N → H p = none ∧ ∃ o, H' p = some o) → ParR K (badOf (withN B0 N) st fp) H' rs vs N → Q vs H'
theorem ParR.less {K : Fg} {B B' : Addr → Prop} {H : Hp} (hB : ∀ p, (∃ o, H p = some o) → B' p → B p) : ∀ {rs : List Rs} {vs : List V} {N : List Addr}, ParR K B H rs vs N → ParR K B' H rs vs N
  | [], _, _, h => h
  | r :: rs, _, _, ⟨v, ws, e, h⟩ => by
    refine ⟨v, ws, e, ?_⟩
    split
    · rename_i q
      rw [if_pos q] at h
      obtain ⟨xs, p, us, N', e1, e2, e3, hp, hl, hr, h⟩ := h
      exact ⟨xs, p, us, N', e1, e2, e3, hp, hl, Reps.less hB _ _ hr, ParR.less hB h⟩
    · rename_i q
      rw [if_neg q] at h
      exact ⟨Rep.less hB _ _ h.1, ParR.less hB h.2⟩
section
variable {K : Fg} {B0 : Addr → Prop} {st : Option Addr} {fp : Nat → Option Addr} {ρ : Env} {σ : L2.St} {H H1 : Hp}
/-- new objects may be held to be bad -/
theorem Rel.addN {N : List Addr} (R : Rel K B0 st fp ρ σ H) (c : Ch (Cs st) H H1) (S : StOk st H1) (hN : ∀ p, p ∈ N → H p = none ∧ ∃ o, H1 p = some o) : Rel K (withN B0 N) st fp ρ σ H1 := by
  have R1 := R.mono c S
  have cC : ∀ q, Cs st q → badOf B0 st fp q ∨ H q = none := fun q z => .inl (bad_st z)
  have cB : ∀ q, badOf (withN B0 N) st fp q → badOf B0 st fp q ∨ H q = none := fun q z => by
    rcases z with (z | z) | z
    · exact .inl (.inl z)
    · exact .inr (hN q z).1
    · exact .inl (.inr z)
  refine ⟨R.len, fun i s e => ?_, R.own, fun i p f => ⟨fun z => ?_, (R.nb i p f).2⟩, R.inj, fun p z => ?_, fun p z => fun y => ?_, S⟩
  · have h := R.slot i s e
    have box : ∀ p d, fp i = some p → BoxOk K (badOf B0 st fp) H p d → BoxOk K (badOf (withN B0 N) st fp) H1 p d := fun p d f b => by
      cases d with
      | lst xs => obtain ⟨ws, e2, l, r⟩ := b; exact ⟨ws, c _ _ e2 fun z => ((R.nb i p f).2 z).elim, l, Reps.later c cC cB _ _ r⟩
      | _ => exact b.elim
    cases s with
    | no => exact h
    | pl d => obtain ⟨v, e1, r⟩ := h; exact ⟨v, e1, Rep.later c cC cB _ _ r⟩
    | bx d => obtain ⟨p, f, e1, r⟩ := h; exact ⟨p, f, e1, box p d f r⟩
    | lk d => obtain ⟨p, f, e1, r⟩ := h; exact ⟨p, f, e1, box p d f r⟩
    | st => exact h
    | scr => obtain ⟨v, e1, r⟩ := h; exact ⟨v, e1, r.ch c⟩
  · rcases z with z | z
    · exact (R.nb i p f).1 z
    · obtain ⟨o, e⟩ := R.dom' (p := p) (.inr (.inr ⟨i, f⟩))
      rw [(hN p z).1] at e; cases e
  · rcases z with z | z
    · exact R1.dom p z
    · exact (hN p z).2
  · rcases y with y | y
    · exact R.st0 p z y
    · obtain ⟨k, v, e⟩ := R.sok p z
      rw [(hN p y).1] at e; cases e
theorem Rel.lessB {B0' : Addr → Prop} (R : Rel K B0 st fp ρ σ H) (h : ∀ p, B0' p → B0 p) : Rel K B0' st fp ρ σ H := by
  have le : ∀ p, (∃ o, H p = some o) → badOf B0' st fp p → badOf B0 st fp p := fun p _ z => z.elim (fun z => .inl (h p z)) .inr
  exact ⟨R.len, fun i s e => (R.slot i s e).less le fun p f => f, R.own, fun i p f => ⟨fun z => (R.nb i p f).1 (h p z), (R.nb i p f).2⟩, R.inj, fun p z => R.dom p (h p z), fun p z y => R.st0 p z (h p y), R.sok⟩
/-- a new list becomes a slot's own -/
theorem Rel.takeN {N : List Addr} {i : Nat} {p : Addr} {xs : List D} {us : List V} (R : Rel K (withN B0 (p :: N)) st fp ρ σ H) (hn : p ∉ N) (hb : ¬ B0 p) (hi : i < ρ.length) (hp : H p = some (.lst us)) (hl : us.length ≤ sizeLine) (hr : Reps K (badOf (withN B0 (p :: N)) st fp) H xs us) :
    Rel K (withN B0 N) st (putF fp i p) (ρ.set i (.bx (.lst xs))) (σ.set i (some (.ref p))) H := by
  have inN : withN B0 (p :: N) p := .inr List.mem_cons_self
  have sub : ∀ q, withN B0 N q → withN B0 (p :: N) q := fun q z => z.elim .inl fun z => .inr (List.mem_cons_of_mem _ z)
  have le : ∀ q, (∃ o, H q = some o) → badOf (withN B0 N) st (putF fp i p) q → badOf (withN B0 (p :: N)) st fp q := fun q _ z => by
    rcases bad_put z with (z | z) | z
    · exact .inl (sub q z)
    · exact .inr z
    · rw [z]; exact .inl inN
  have nf : ∀ j, fp j ≠ some p := fun j f => (R.nb j p f).1 inN
  refine ⟨by rw [List.length_set, List.length_set, R.len], fun j s e => ?_, fun j q e => ?_, fun j q e => ?_, fun j k q e1 e2 => ?_, fun q z => R.dom q (sub q z), fun q z y => R.st0 q z (sub q y), R.sok⟩
  · rcases getElem?_set_some e with ⟨rfl, rfl, _⟩ | ⟨hne, e⟩
    · exact ⟨p, putF_same, by rw [List.getElem?_set_self (by rw [← R.len]; exact hi)], us, hp, hl, Reps.less le _ _ hr⟩
    · rw [List.getElem?_set_ne (Ne.symm hne)]
      exact (R.slot j s e).less le fun q f => by rw [putF_ne hne]; exact f
  · rcases putF_some e with ⟨rfl, rfl⟩ | ⟨hne, f⟩
    · exact ⟨_, .inl (List.getElem?_set_self hi)⟩
    · obtain ⟨d, h⟩ := R.own j q f
      exact ⟨d, by rw [List.getElem?_set_ne (Ne.symm hne)]; exact h⟩
  · rcases putF_some e with ⟨rfl, rfl⟩ | ⟨hne, f⟩
    · exact ⟨fun z => z.elim hb hn, fun z => R.st0 _ z inN⟩
    · exact ⟨fun z => (R.nb j q f).1 (sub q z), (R.nb j q f).2⟩
  · rcases putF_some e1 with ⟨rfl, rfl⟩ | ⟨n1, f1⟩ <;> rcases putF_some e2 with ⟨rfl, e3⟩ | ⟨n2, f2⟩
    · rfl
    · exact (nf k f2).elim
    · exact (nf j (e3 ▸ f1)).elim
    · exact R.inj j k q f1 f2
end
section
variable {X : Cx} {Γ : Sem} {pos : Pos} {a : Expr} {ia : E}
theorem sr_nil : PA X [] (tEvR X.K Γ []) := PA.imp pa_nil fun σ H Q ⟨B0, st, fp, ρ, R, h⟩ => by
  rw [evR] at h
  exact h [] H [] .refl R.sok .nil (fun p z => by cases z) ⟨rfl, rfl⟩
theorem sr_cons {es : List Expr} {ies : List E} (ha : PE X a (tEv X.K Γ ia false)) (hr : PA X es (tEvR X.K Γ ies)) (hs : starEach (a :: es) X.env = (false, eval a X.env) :: starEach es X.env) : PA X (a :: es) (tEvR X.K Γ (ia :: ies)) :=
  PA.imp (pa_cons ha hr hs) fun σ H Q ⟨B0, st, fp, ρ, R, h⟩ => by
    rw [evR] at h
    refine ev_step R h fun x v H1 c1 R1 r1 h1 => ?_
    have h1 := T.all_bind.mp h1
    have none1 : ∀ p, H1 p = none → H p = none := fun p z => c1.fresh (fun y => by obtain ⟨k, u, e⟩ := R1.sok p y; rw [z] at e; cases e) z
    obtain ⟨d, f⟩ := x
    cases f with
    | false =>
      refine ⟨B0, st, fp, ρ, R1, T.all_mono (fun rs hq vs H2 N c2 S2 nd hN pr => ?_) h1⟩
      refine hq _ H2 N (c1.trans c2) S2 nd (fun p z => ⟨none1 p (hN p z).1, (hN p z).2⟩) ⟨v, vs, rfl, ?_⟩
      rw [if_neg Bool.false_ne_true]
      refine ⟨Rep.later c2 (fun q z => .inl (bad_st z)) (fun q z => ?_) _ _ r1.rep, pr⟩
      rcases z with (z | z) | z
      · exact .inl (.inl z)
      · exact .inr (hN q z).1
      · exact .inl (.inr z)
    | true =>
      have r1 : New X.K (badOf B0 st fp) H H1 d v := r1
      obtain ⟨xs, p, us, rfl, rfl, hn, nb, hp, hl, hrp⟩ := r1
      have R2 : Rel X.K (withN B0 [p]) st fp ρ σ H1 := R.addN c1 R1.sok fun q z => by rw [List.mem_singleton.mp z]; exact ⟨hn, _, hp⟩
      refine ⟨withN B0 [p], st, fp, ρ, R2, T.all_mono (fun rs hq vs H2 N c2 S2 nd hN pr => ?_) h1⟩
      have pN : p ∉ N := fun z => by have := (hN p z).1; rw [hp] at this; cases this
      have sp : ¬ Cs st p := fun z => nb (bad_st z)
      have e1 : ∀ q, badOf (withN B0 (p :: N)) st fp q → badOf (withN (withN B0 [p]) N) st fp q := fun q z => by
        rcases z with (z | z) | z
        · exact .inl (.inl (.inl z))
        · rcases List.mem_cons.mp z with z | z
          · exact .inl (.inl (.inr (by rw [z]; exact List.mem_cons_self)))
          · exact .inl (.inr z)
        · exact .inr z
      refine hq _ H2 (p :: N) (c1.trans c2) S2 (List.nodup_cons.mpr ⟨pN, nd⟩) (fun q z => ?_) ⟨.ref p, vs, rfl, ?_⟩
      · rcases List.mem_cons.mp z with z | z
        · rw [z]; exact ⟨hn, _, c2 _ _ hp fun z => (sp z).elim⟩
        · exact ⟨none1 q (hN q z).1, (hN q z).2⟩
      · rw [if_pos rfl]
        refine ⟨xs, p, us, N, rfl, rfl, rfl, c2 _ _ hp fun z => (sp z).elim, hl, Reps.later c2 (fun q z => .inl (.inl (bad_st z))) (fun q z => ?_) _ _ hrp, ParR.less (fun q _ z => e1 q z) pr⟩
        rcases z with (z | z) | z
        · exact .inl (.inl (.inl z))
        · rcases List.mem_cons.mp z with z | z
          · exact .inl (.inr z)
          · exact .inr (hN q z).1
        · exact .inl (.inl (.inr z))

/-- the names' slots set one by one -/
def setAll : L2.St → List Nat → List V → L2.St
  | σ, i :: is, v :: vs => setAll (σ.set i (some v)) is vs
  | σ, _, _ => σ
theorem par_all {K : Fg} {B0 : Addr → Prop} {st : Option Addr} {B : Addr → Prop} {H : Hp} {fp₀ : Nat → Option Addr} {ρ₀ : Env} {H₀ : Hp} : ∀ {is : List (Nat × Bool)} {rs : List Rs} {vs : List V} {N : List Addr} {fp : Nat → Option Addr} {ρ : Env} {σ : L2.St} {P : Xs → Prop},
    Rel K (withN B0 N) st fp ρ σ H → Aft B0 st fp₀ ρ₀ H₀ fp ρ H → Lkd fp₀ ρ₀ fp ρ → N.Nodup → (∀ p, p ∈ N → ¬ B0 p ∧ H₀ p = none) → (∀ q, badOf (withN B0 N) st fp q → B q) → ParR K B H rs vs N → (parS is rs ρ).all P →
    ∃ fp' ρ', P (.nx, ρ') ∧ Rel K B0 st fp' ρ' (setAll σ (is.map (·.1)) vs) H ∧ Aft B0 st fp₀ ρ₀ H₀ fp' ρ' H ∧ Lkd fp₀ ρ₀ fp' ρ'
  | [], [], vs, N, fp, ρ, σ, P, R, a, l, nd, hN, hB, pr, h => by
    obtain ⟨rfl, rfl⟩ := pr
    exact ⟨fp, ρ, h, R.lessB fun p z => .inl z, a, l⟩
  | [], _ :: _, _, _, _, _, _, _, _, _, _, _, _, _, _, h => h.elim
  | _ :: _, [], _, _, _, _, _, _, _, _, _, _, _, _, _, h => h.elim
  | i :: is, r :: rs, vs, N, fp, ρ, σ, P, R, a, l, nd, hN, hB, pr, h => by
    obtain ⟨v, ws, rfl, pr⟩ := pr
    rw [parS] at h
    split at h
    · rename_i hi
      obtain ⟨d, f⟩ := r
      cases f with
      | false =>
        rw [if_neg Bool.false_ne_true] at pr
        have h : (parS is rs (ρ.set i.1 (.pl d))).all P := by
          unfold boxS at h
          rw [Bool.and_false] at h
          exact h
        exact par_all (is := is) (vs := ws) (R.setPl (Rep.less (fun q _ z => hB q z) _ _ pr.1)) (a.trans .setPl) (l.trans .setPl) nd hN (fun q z => hB q (badOf.le FpLe.drop z)) pr.2 h
      | true =>
        rw [if_pos rfl] at pr
        obtain ⟨xs, p, us, N', rfl, rfl, rfl, hp, hl, hr, pr⟩ := pr
        obtain ⟨hn, nd'⟩ := List.nodup_cons.mp nd
        have hrB := Reps.less (fun q _ z => hB q z) _ _ hr
        have inN : withN B0 (p :: N') p := .inr List.mem_cons_self
        have hp0 := (hN p List.mem_cons_self)
        have sub : ∀ q, withN B0 N' q → withN B0 (p :: N') q := fun q z => z.elim .inl fun z => .inr (List.mem_cons_of_mem _ z)
        have R' : Rel K (withN B0 N') st fp ρ σ H := R.lessB sub
        obtain ⟨k, b⟩ := i
        cases b with
        | false =>
          have h : (parS is rs (ρ.set k (.pl (.lst xs)))).all P := h
          have rp : Rep K (badOf (withN B0 N') st fp) H (.lst xs) (.ref p) := by
            refine ⟨p, us, rfl, ?_, hp, hl, Reps.less (fun q _ z => z.elim (fun z => .inl (sub q z)) .inr) _ _ hrB⟩
            rintro ((z | z) | z | ⟨j, z⟩)
            · exact hp0.1 z
            · exact hn z
            · exact R.st0 p z inN
            · exact (R.nb j p z).1 inN
          refine par_all (is := is) (vs := ws) (R'.setPl rp) (a.trans .setPl) (l.trans .setPl) nd' (fun q z => hN q (List.mem_cons_of_mem _ z)) (fun q z => hB q ?_) pr h
          exact (badOf.le FpLe.drop z).elim (fun z => .inl (sub q z)) .inr
        | true =>
          have h : (parS is rs (ρ.set k (.bx (.lst xs)))).all P := h
          have R2 := R.takeN (i := k) hn hp0.1 hi hp hl hrB
          have a2 : Aft B0 st fp₀ ρ₀ H₀ (putF fp k p) (ρ.set k (.bx (.lst xs))) H := by
            refine ⟨a.ch, fun q z => ?_, fun q z => ?_, a.there⟩
            · rcases z with z | ⟨j, d, f, e⟩
              · exact a.mu q (.inl z)
              · rcases putF_some f with ⟨_, rfl⟩ | ⟨hne, f⟩
                · exact .inr hp0.2
                · rw [List.getElem?_set_ne (Ne.symm hne)] at e
                  exact a.mu q (.inr ⟨j, d, f, e⟩)
            · rcases bad_put z with z | z
              · exact a.bad q z
              · rw [z]; exact .inr hp0.2
          refine par_all (is := is) (vs := ws) R2 a2 (l.trans .setBx) nd' (fun q z => hN q (List.mem_cons_of_mem _ z)) (fun q z => hB q ?_) pr h
          rcases bad_put z with z | z
          · exact z.elim (fun z => .inl (sub q z)) .inr
          · rw [z]; exact .inl inN
    · exact h.elim
/-- behind the values: the stores -/
theorem ParR.len {K : Fg} {B : Addr → Prop} {H : Hp} : ∀ {rs : List Rs} {vs : List V} {N : List Addr}, ParR K B H rs vs N → vs.length = rs.length
  | [], _, _, ⟨h, _⟩ => by rw [h]; rfl
  | r :: rs, _, _, ⟨v, ws, e, h⟩ => by
    rw [e, List.length_cons, List.length_cons]
    split at h
    · obtain ⟨xs, p, us, N', _, _, _, _, _, _, h⟩ := h
      rw [ParR.len h]
    · rw [ParR.len h.2]
theorem evR_len {Γ : Sem} {ρ : Env} : ∀ {es : List E} {P : List Rs → Prop}, (evR Γ es ρ).all P → (evR Γ es ρ).all fun xs => P xs ∧ xs.length = es.length
  | [], P, h => by rw [evR] at h ⊢; exact ⟨h, rfl⟩
  | e :: es, P, h => by
    rw [evR] at h ⊢
    refine T.all_bind.mpr (T.all_mono (fun x hx => ?_) (T.all_bind.mp h))
    refine T.all_bind.mpr (T.all_mono (fun xs hxs => ?_) (evR_len (T.all_bind.mp hx)))
    exact ⟨hxs.1, by rw [List.length_cons, List.length_cons, hxs.2]⟩
theorem par_leaf {is : List (Nat × Bool)} {ies : List E} {D : Ends} {σ : L2.St} {H : Hp} (h : tS X.K Γ (.par is ies) D σ H) : tEvR X.K Γ ies σ H fun vs H1 => vs.length = ies.length ∧ ∀ H2, Ch (fun _ => False) H1 H2 → D.nx (setAll σ (is.map (·.1)) vs) H2 := by
  obtain ⟨B0, st, fp, ρ, R, h⟩ := h
  rw [exec] at h
  refine ⟨B0, st, fp, ρ, R, T.all_mono (fun rs hq vs H1 N c S nd hN pr => ⟨by rw [pr.len, hq.2], fun H2 c2 => ?_⟩) (evR_len (T.all_bind.mp h))⟩
  have hq := hq.1
  have S2 : StOk st H2 := fun p e => by obtain ⟨k, v, z⟩ := S p e; exact ⟨k, v, c2 _ _ z fun z => z.elim⟩
  have c' : Ch (Cs st) H H2 := c.trans (c2.mono fun _ z => z.elim)
  have hN2 : ∀ p, p ∈ N → H p = none ∧ ∃ o, H2 p = some o := fun p z => ⟨(hN p z).1, let ⟨o, e⟩ := (hN p z).2; ⟨o, c2 _ _ e fun z => z.elim⟩⟩
  have pr2 : ∀ {rs : List Rs} {vs : List V} {N' : List Addr}, ParR X.K (badOf (withN B0 N) st fp) H1 rs vs N' → ParR X.K (badOf (withN B0 N) st fp) H2 rs vs N' := by
    intro rs
    induction rs with
    | nil => intro vs N' h; exact h
    | cons r rs ih =>
      intro vs N' h
      obtain ⟨v, ws, e, h⟩ := h
      refine ⟨v, ws, e, ?_⟩
      split
      · rename_i q
        rw [if_pos q] at h
        obtain ⟨xs, p, us, N'', e1, e2, e3, hp, hl, hr, h⟩ := h
        exact ⟨xs, p, us, N'', e1, e2, e3, c2 _ _ hp fun z => z.elim, hl, Reps.ch c2 (fun _ z => z.elim) _ _ hr, ih h⟩
      · rename_i q
        rw [if_neg q] at h
        exact ⟨Rep.ch c2 (fun _ z => z.elim) _ _ h.1, ih h.2⟩
  obtain ⟨fp', ρ', q, R', a', l'⟩ := par_all (R.addN c' S2 hN2) (.expr c' S2) .refl nd (fun p z => ⟨(fun y => by obtain ⟨o, e⟩ := R.dom p y; rw [(hN p z).1] at e; cases e), (hN p z).1⟩) (fun q z => z) (pr2 pr) hq
  exact q fp' _ H2 R' a' l'
def gN : List Nat → TGs
  | [] => gNil
  | i :: is => gCons (gName i) (gN is)
theorem gN_all {H : Hp} : ∀ {is : List Nat} {vs : List V} {σ : L2.St} {Q : L2.St → Hp → Prop}, vs.length = is.length → Q (setAll σ is vs) H → gN is vs σ H Q
  | [], [], _, _, _, h => ⟨rfl, h⟩
  | i :: is, v :: vs, σ, Q, e, h => ⟨v, vs, rfl, gN_all (is := is) (by simpa using e) h⟩
  | [], _ :: _, _, _, e, _ => by simp at e
  | _ :: _, [], _, _, e, _ => by simp at e
theorem x_parN {es ts : List Expr} {is : List (Nat × Bool)} {ies : List E} {k kt : Nat} {p1 pt : Pos} (hc : X.calm = true) (ha : PA X es (tEvR X.K Γ ies)) (hg : PGs X ts (gN (is.map (·.1)))) (hl : ies.length = is.length) (hl2 : ies.length ≤ 1000) (hn : (assignEach ts X.env).length = is.length) (hst : (assignEach ts X.env).findIdx? (·.1) = none)
    (hs : swapsWithSole [.Tuple ts kt pt] (.Tuple es k p1) pos.line X.env = pure false) (hw : swappedStores [.Tuple ts kt pt] (.Tuple es k p1) X.env = pure none) (h1 : (assignEach [.Tuple ts kt pt] X.env).map (·.2) = [assign (.Tuple ts kt pt) X.env]) : PS X (.Assign [.Tuple ts kt pt] (.Tuple es k p1) pos) (tS X.K Γ (.par is ies)) :=
  PS.imp (ps_asg (pe_tup ha) (pg_tup hc hg hn hst) hs hw h1) fun D σ H h => by
    obtain ⟨B0, st, fp, ρ, R, q⟩ := par_leaf h
    refine ⟨B0, st, fp, ρ, R, T.all_mono (fun rs hq vs H1 N c S nd hN pr => ?_) q⟩
    obtain ⟨e, q⟩ := hq vs H1 N c S nd hN pr
    refine ⟨by rw [e]; exact small_line hl2, fun p hp => ⟨p, vs, rfl, .inl (.inl upd_same), by rw [e, hl], gN_all (by rw [List.length_map, e, hl]) (q _ (Ch.new hp))⟩⟩
theorem x_par2 {x y : Str} {a b : Expr} {px py pt : Pos} {kt k2 : Nat} {pt2 : Pos} {i j : Nat × Bool} {ies : List E} (hc : X.calm = true) (hN : X.N.Nodup) (hi : X.N[i.1]? = some x) (hj : X.N[j.1]? = some y) (hij : i.1 ≠ j.1)
    (hx : X.env.scope.names.lookup x = some .local) (hy : X.env.scope.names.lookup y = some .local) (ha : PA X [a, b] (tEvR X.K Γ ies)) (hl : ies.length = 2)
    (hw : swappedStores [.Tuple [.Name x px, .Name y py] kt pt] (.Tuple [a, b] k2 pt2) X.env = pure (some [x, y]))
    (hs : swapsWithSole [.Tuple [.Name x px, .Name y py] kt pt] (.Tuple [a, b] k2 pt2) pos.line X.env = pure false) :
    PS X (.Assign [.Tuple [.Name x px, .Name y py] kt pt] (.Tuple [a, b] k2 pt2) pos) (tS X.K Γ (.par [i, j] ies)) :=
  PS.imp (ps_par hc hN hi hj hij hx hy ha hw hs) fun D σ H h => by
    obtain ⟨B0, st, fp, ρ, R, q⟩ := par_leaf h
    refine ⟨B0, st, fp, ρ, R, T.all_mono (fun rs hq vs H1 N c S nd hN pr => ?_) q⟩
    obtain ⟨e, q⟩ := hq vs H1 N c S nd hN pr
    rw [hl] at e
    match vs, e with
    | [v, w], _ => exact ⟨v, w, rfl, q H1 .refl⟩
theorem x_par3 {x y z : Str} {a b c : Expr} {px py pz pt : Pos} {kt k2 : Nat} {pt2 : Pos} {i j l : Nat × Bool} {ies : List E} (hc : X.calm = true) (hN : X.N.Nodup) (hi : X.N[i.1]? = some x) (hj : X.N[j.1]? = some y) (hl' : X.N[l.1]? = some z) (hij : i.1 ≠ j.1) (hil : i.1 ≠ l.1) (hjl : j.1 ≠ l.1)
    (hx : X.env.scope.names.lookup x = some .local) (hy : X.env.scope.names.lookup y = some .local) (hz : X.env.scope.names.lookup z = some .local) (ha : PA X [a, b, c] (tEvR X.K Γ ies)) (hl : ies.length = 3)
    (hw : swappedStores [.Tuple [.Name x px, .Name y py, .Name z pz] kt pt] (.Tuple [a, b, c] k2 pt2) X.env = pure (some [x, y, z]))
    (hs : swapsWithSole [.Tuple [.Name x px, .Name y py, .Name z pz] kt pt] (.Tuple [a, b, c] k2 pt2) pos.line X.env = pure false) :
    PS X (.Assign [.Tuple [.Name x px, .Name y py, .Name z pz] kt pt] (.Tuple [a, b, c] k2 pt2) pos) (tS X.K Γ (.par [i, j, l] ies)) :=
  PS.imp (ps_par3 hc hN hi hj hl' hij hil hjl hx hy hz ha hw hs) fun D σ H h => by
    obtain ⟨B0, st, fp, ρ, R, q⟩ := par_leaf h
    refine ⟨B0, st, fp, ρ, R, T.all_mono (fun rs hq vs H1 N c S nd hN pr => ?_) q⟩
    obtain ⟨e, q⟩ := hq vs H1 N c S nd hN pr
    rw [hl] at e
    match vs, e with
    | [u, v, w], _ => exact ⟨u, v, w, rfl, q H1 .refl⟩
end
end FF

set_option Elab.async false
set_option linter.all false
set_option maxRecDepth 100000
set_option maxHeartbeats 4000000
/-! FF12: from the program's text to the small language. -/
namespace FF
open PySem PySem.Spec PyProof.Rows L2

structure Cfg where
  N : List Str
  fns : List (Str × Nat × Nat) := []
  cns : List (Str × Nat × D) := []
  boxes : List Str := []
  gcd : Bool := false

/-! ### names -/
def ixOf (x : Str) : List Str → Option Nat
  | [] => none
  | y :: ys => if y = x then some 0 else (ixOf x ys).map (· + 1)
theorem ixOf_get {x : Str} : ∀ {N : List Str} {i : Nat}, ixOf x N = some i → N[i]? = some x
  | y :: ys, i, h => by
    rw [ixOf] at h
    split at h
    · rename_i e; cases h; rw [e]; rfl
    · obtain ⟨j, h1, rfl⟩ := Option.map_eq_some_iff.mp h
      simpa using ixOf_get h1
def okN (x : Str) : Bool := !(x == ("__debug__" : Str)) && !(x == ("__classdict__" : Str)) && decide (x ≠ ("__name__" : Str))
theorem okN_spec {x : Str} (h : okN x = true) : (x == ("__debug__" : Str)) = false ∧ (x == ("__classdict__" : Str)) = false ∧ x ≠ ("__name__" : Str) := by
  unfold okN at h
  rw [Bool.and_eq_true, Bool.and_eq_true] at h
  exact ⟨by simpa using h.1.1, by simpa using h.1.2, of_decide_eq_true h.2⟩
def isLoc (sc : Scope) (x : Str) : Bool := match sc.names.lookup x with | some .local => true | some .cell => true | some .free => true | _ => false
def isGl (sc : Scope) (x : Str) : Bool := match sc.names.lookup x with | some .globalImplicit => true | _ => false
theorem isLoc_spec {sc : Scope} {x : Str} (h : isLoc sc x = true) : Vis sc x := by
  unfold isLoc at h
  split at h
  · rename_i e; exact .inl e
  · rename_i e; exact .inr (.inl e)
  · rename_i e; exact .inr (.inr e)
  · cases h
theorem isGl_spec {sc : Scope} {x : Str} (h : isGl sc x = true) : sc.names.lookup x = some .globalImplicit := by
  unfold isGl at h
  split at h
  · assumption
  · cases h
def guardO (b : Bool) (o : Option α) : Option α := if b then o else none
theorem guardO_some {α : Type} {b : Bool} {o : Option α} {a : α} (h : guardO b o = some a) : b = true ∧ o = some a := by
  unfold guardO at h
  split at h
  · exact ⟨by assumption, h⟩
  · cases h

/-! ### built-ins by name -/
inductive Hd where | bi (id : String) | ty (n : String)
def biT : List (Str × Nat × Hd × Bi) := [
  ("len", 1, .bi "len", .len), ("abs", 1, .bi "abs", .abs), ("sum", 1, .bi "sum", .sum), ("max", 1, .bi "max", .max), ("min", 1, .bi "min", .min),
  ("max", 2, .bi "max", .max2), ("min", 2, .bi "min", .min2), ("tuple", 1, .ty "tuple", .tuple), ("list", 1, .ty "list", .list), ("int", 1, .ty "int", .int), ("all", 1, .bi "all", .all), ("any", 1, .bi "any", .any), ("sorted", 1, .bi "sorted", .sorted)]
def biNames : List Str := ["len", "abs", "sum", "max", "min", "tuple", "list", "int", "all", "any", "range", "zip", "enumerate", "reversed", "isinstance", "str", "bool", "sorted"]
def findBi (x : Str) (n : Nat) : List (Str × Nat × Hd × Bi) → Option (Hd × Bi)
  | [] => none
  | (y, k, h, b) :: r => if y = x ∧ k = n then some (h, b) else findBi x n r
theorem findBi_mem {x : Str} {n : Nat} {h : Hd} {b : Bi} : ∀ {l : List (Str × Nat × Hd × Bi)}, findBi x n l = some (h, b) → (x, n, h, b) ∈ l
  | (y, k, h', b') :: r, e => by
    rw [findBi] at e
    split at e
    · rename_i q; cases e; rw [← q.1, ← q.2]; exact List.mem_cons_self
    · exact List.mem_cons_of_mem _ (findBi_mem e)
def tyOfName (x : Str) : Option Ty :=
  if x = "list" then some .tlist else if x = "tuple" then some .ttuple else if x = "str" then some .tstr else if x = "bool" then some .tbool else if x = "int" then some .tint else none

/-! ### expressions -/
def bopOf : Operator → Option Bop
  | .Add => some .add | .Sub => some .sub | .Mult => some .mul | .FloorDiv => some .fdiv | .Mod => some .mod | .Pow => some .pow | _ => none
def copOf' : CmpOp → Option Cop
  | .Eq => some .eq | .NotEq => some .ne | .Lt => some .lt | .LtE => some .le | .Gt => some .gt | .GtE => some .ge | .Is => some .isN | .IsNot => some .notN | .In => some .inn | .NotIn => some .nin
theorem copOf'_spec {o : CmpOp} {c : Cop} (h : copOf' o = some c) : copOf c = o := by
  cases o <;> simp [copOf'] at h <;> subst h <;> rfl
/-- what is not walked, looked at or stored in a way of its own -/
def plainE : Expr → Bool
  | .Starred .. => false
  | .Set .. => false
  | .Slice .. => false
  | _ => true
def ownOf (N : List Str) (vs : List Nat) : List (Str × Nat) := vs.map fun i => (N.getD i Str.empty, i)
/-- own names that a block may store -/
def stoOf (N : List Str) (scope : Scope) (vs : List Nat) : Bool := vs.all fun i => match scope.names.lookup (N.getD i Str.empty) with | some .local => true | some .cell => true | _ => false
mutual
def cTg (c : Cfg) (sto : List Str) : Nat → Expr → Option Tg
  | 0, _ => none
  | n + 1, e => match e with
    | .Name x _ => guardO (decide (x ∈ sto)) ((ixOf x c.N).map .nm)
    | .Tuple ts _ _ => (cTgs c sto n ts).map .tup
    | _ => none
def cTgs (c : Cfg) (sto : List Str) : Nat → List Expr → Option (List Tg)
  | 0, _ => none
  | _ + 1, [] => some []
  | n + 1, e :: es => (cTg c sto n e).bind fun t => (cTgs c sto n es).map (t :: ·)
end
def negOne : Expr → Bool
  | .UnaryOp .USub (.Constant (.int 1) _ _) _ => true
  | _ => false
mutual
def cE (c : Cfg) : Nat → Scope → Expr → Option E
  | 0, _, _ => none
  | n + 1, sc, e => match e with
    | .Constant k _ _ => (match k with
      | .int i => some (.c (.int i))
      | .bool b => some (.c (.bl b))
      | .none => some (.c .non)
      | .str s => guardO (decide (s.cps.size ≤ 1000)) (some (.c (.str s.cps.toList)))
      | _ => none)
    | .Name x _ => guardO (okN x) (if isLoc sc x then (ixOf x c.N).map .v else guardO (isGl sc x) ((c.cns.lookup x).map fun p => .g p.1 p.2))
    | .BinOp a op b _ => (bopOf op).bind fun o => (cE c n sc a).bind fun ia => (cE c n sc b).map fun ib => .bin o ia ib
    | .UnaryOp op a _ => (match op with
      | .USub => (cE c n sc a).map .neg
      | .Not => (cE c n sc a).map .nt
      | _ => none)
    | .Compare a ops bs _ => cCmp c n sc a ops bs
    | .BoolOp op vs _ => cB c n sc op vs
    | .IfExp t a b _ => (cT c n sc t).bind fun it => (cE c n sc a).bind fun ia => (cE c n sc b).map fun ib => .ite it ia ib
    | .Tuple es _ _ => (cEs c n sc es).bind fun ies => guardO (decide (ies.length ≤ 1000)) (some (.tup ies))
    | .List es _ => (cEs c n sc es).bind fun ies => guardO (decide (ies.length ≤ 1000)) (some (.lst ies))
    | .Subscript a s _ => (match s with
      | .Slice lo hi st _ => (match st with
        | none => (cE c n sc a).bind fun ia => (cO c n sc lo).bind fun il => (cO c n sc hi).map fun ih => .sl ia il ih
        | some m => (match lo, hi with
          | none, none => guardO (negOne m) ((cE c n sc a).map .rev)
          | _, _ => none))
      | s => guardO (plainE s) ((cE c n sc a).bind fun ia => (cE c n sc s).map fun i => .ix ia i))
    | .Call f es kws cpos => (match f, kws with
      | .Name x _, [] => guardO (okN x && isGl sc x) (match c.fns.lookup x with
        | some (k, ar) => (cEs c n sc es).bind fun ies => guardO (decide (ies.length = ar)) (some (.call k ies))
        | none => if x = "_law_draw" then (match es with
            | [.Name s _, .Name t _, e] => guardO (okN s && isLoc sc s && (okN t && isLoc sc t) && plainE e) ((ixOf s c.N).bind fun i => (ixOf t c.N).bind fun j => (cE c n sc e).map fun ie => .draw i j ie)
            | _ => none)
          else if x = "isinstance" then (match es with
            | [a, .Name t _] => guardO (okN t && isGl sc t && plainE a) ((tyOfName t).bind fun ty => (cE c n sc a).map fun ia => .isi ia [ty])
            | [a, .Tuple [.Name t _, .Name u _] _ _] => guardO (okN t && isGl sc t && (okN u && isGl sc u) && plainE a) ((tyOfName t).bind fun ty => (tyOfName u).bind fun tu => (cE c n sc a).map fun ia => .isi ia [ty, tu])
            | _ => none)
          else if x = "gcd" then guardO (c.gcd && decide (es.length = 2)) ((cEs c n sc es).map fun ies => .bi .gcd ies)
          else (findBi x es.length biT).bind fun hb => guardO (decide (es ≠ [])) ((cEs c n sc es).map fun ies => .bi hb.2 ies))
      | .Attribute o nm apos, [] => (match o, es with
        | .Name x xp, [a] => guardO (decide (nm = "index") && (apos.endLine == cpos.line) && plainE a) ((cE c n sc (.Name x xp)).bind fun io => (cE c n sc a).map fun ia => .bi .index [io, ia])
        | .Constant k j p, [a] => guardO (decide (nm = "join") && (apos.endLine == cpos.line) && plainE a) ((cE c n sc (.Constant k j p)).bind fun io => (cE c n sc a).map fun ia => .bi .join [io, ia])
        | _, _ => none)
      | _, _ => none)
    | .ListComp elt gens scope _ => (match gens with
      | [⟨tg, it, ifs, 0⟩] => (cTg c c.N n tg).bind fun t0 => (cTg c ((tgS t0).map fun i => c.N.getD i Str.empty) n tg).bind fun t => (cS c n sc tg it).bind fun s =>
          guardO (blkC c.N sc scope (ownOf c.N (tgS t)) && stoOf c.N scope (tgS t0) && plainE it) ((cC c n (relS scope sc) ifs).bind fun cs => (cE c n (relS scope sc) elt).map fun e => .comp t s.1 s.2 cs e)
      | _ => none)
    | _ => none
/-- comparisons -/
def cCmp (c : Cfg) : Nat → Scope → Expr → List CmpOp → List Expr → Option E
  | 0, _, _, _, _ => none
  | n + 1, sc, a, ops, bs => match ops, bs with
    | [o], [b] => guardO (plainE b) ((copOf' o).bind fun o => (cE c n sc a).bind fun ia => (cE c n sc b).map fun ib => .cmp o ia ib)
    | [o, p], [b, d] => guardO (plainE d) ((copOf' o).bind fun o => (copOf' p).bind fun p => (cE c n sc a).bind fun ia => (cE c n sc b).bind fun ib => (cE c n sc d).map fun id => .chain o p ia ib id)
    | _, _ => none
termination_by structural n => n
/-- and, or: the values but the last are truth values -/
def cB (c : Cfg) : Nat → Scope → BoolOp → List Expr → Option E
  | 0, _, _, _ => none
  | n + 1, sc, op, vs => match vs with
    | [] => none
    | [a] => cE c n sc a
    | a :: b :: r => (cE c n sc a).bind fun ia => (cB c n sc op (b :: r)).map fun ib => match op with | .And => .and2 ia ib | .Or => .or2 ia ib
/-- tests -/
def cT (c : Cfg) : Nat → Scope → Expr → Option E
  | 0, _, _ => none
  | n + 1, sc, e => match e with
    | .BoolOp op vs _ => cBT c n sc op vs
    | .UnaryOp op a _ => (match op with
      | .Not => (cT c n sc a).map .nt
      | _ => none)
    | .Compare a ops bs _ => cCmp c n sc a ops bs
    | .IfExp .. => none
    | e => (cE c n sc e).map .tr
def cBT (c : Cfg) : Nat → Scope → BoolOp → List Expr → Option E
  | 0, _, _, _ => none
  | n + 1, sc, op, vs => match vs with
    | [] => none
    | [a] => cT c n sc a
    | a :: b :: r => (cT c n sc a).bind fun ia => (cBT c n sc op (b :: r)).map fun ib => match op with | .And => .and2 ia ib | .Or => .or2 ia ib
def cEs (c : Cfg) : Nat → Scope → List Expr → Option (List E)
  | 0, _, _ => none
  | _ + 1, _, [] => some []
  | n + 1, sc, e :: es => guardO (plainE e) ((cE c n sc e).bind fun ie => (cEs c n sc es).map (ie :: ·))
def cO (c : Cfg) : Nat → Scope → Option Expr → Option (List E)
  | 0, _, _ => none
  | _ + 1, _, none => some []
  | n + 1, sc, some e => (cE c n sc e).map fun ie => [ie]
/-- a clause's tests -/
def cC (c : Cfg) : Nat → Scope → List Expr → Option (List E)
  | 0, _, _ => none
  | n + 1, sc, ifs => match ifs with
    | [] => some []
    | [e] => (cT c n sc e).map fun ie => [ie]
    | _ => none
/-- what is walked -/
def cS (c : Cfg) : Nat → Scope → Expr → Expr → Option (Sk × List E)
  | 0, _, _, _ => none
  | n + 1, sc, tg, it =>
    let other : Option (Sk × List E) := guardO (plainE it) ((cE c n sc it).map fun ie => (.seq, [ie]))
    match it with
    | .Call f es kws _ => (match f, kws with
      | .Name x _, [] =>
        if x = "range" then guardO (okN x && isGl sc x && decide (es.length = 1 ∨ es.length = 2)) ((cEs c n sc es).map fun ies => (.range, ies))
        else if x = "zip" then (match tg with | .Tuple .. => guardO (okN x && isGl sc x && decide (es.length = 2)) ((cEs c n sc es).map fun ies => (.zip, ies)) | _ => none)
        else if x = "enumerate" then (match tg with | .Tuple .. => guardO (okN x && isGl sc x && decide (es.length = 1)) ((cEs c n sc es).map fun ies => (.enum, ies)) | _ => none)
        else if x = "reversed" then guardO (okN x && isGl sc x && decide (es.length = 1)) ((cEs c n sc es).map fun ies => (.rev, ies))
        else other
      | _, _ => other)
    | _ => other
end
end FF

set_option Elab.async false
set_option linter.all false
set_option maxRecDepth 100000
set_option maxHeartbeats 8000000
/-! FF13: the text's expressions yield what their images yield. -/
namespace FF
open PySem PySem.Spec PyProof.Rows L2

/-- what stands behind the top -/
structure Facts (c : Cfg) (Γ : Sem) (lev : Nat) (P : Program) (w : World) (K : Fg) (mg : Str → Option Value) (base : Heap) : Prop where
  fn : ∀ x k n, c.fns.lookup x = some (k, n) → ∃ f fd ps, FnOk P w K mg base CX0 lev f fd ps (spF K n (Γ k)) ∧ mg x = some (.ref f) ∧ PySem.W.keepIn K (.ref f) = true ∧ Binds K fd ps []
  cn : ∀ x k d, c.cns.lookup x = some (k, d) → ∃ u v, mg x = some u ∧ RelV v u ∧ ∀ B H, Rep K B H d v
  bn : ∀ x, x ∈ biNames → mg x = none
  gcd : c.gcd = true → mg "gcd" = some (.builtin "math.gcd")
  dr : ∃ f fd ps, FnOk P w K mg base CX0 lev f fd ps (spDraw K) ∧ mg "_law_draw" = some (.ref f) ∧ PySem.W.keepIn K (.ref f) = true ∧ Binds K fd ps []
/-- a context of a def's body, or of a block in it -/
structure Good (c : Cfg) (Γ : Sem) (lev : Nat) (sc : Scope) (X : Cx) : Prop where
  hN : X.N = c.N
  nd : c.N.Nodup
  scp : X.env.scope = sc
  kind : sc.kind = .function
  calm : X.calm = true
  xe : X.xe = fun _ _ => False
  room : Room lev X.A
  F : Facts c Γ lev X.prog X.w X.K X.mg X.base
def Sto (sto : List Str) (X : Cx) : Prop := ∀ x, x ∈ sto → Loc X.env.scope x ∧ (X.fn x = true ∨ X.env.scope.names.lookup x = some .local)

theorem star_cons {e : Expr} {es : List Expr} {env : PySem.Env} (h : plainE e = true) : starEach (e :: es) env = (false, eval e env) :: starEach es env := by cases e <;> first | rfl | cases h
theorem star_any {env : PySem.Env} {pos : Pos} : ∀ {es : List Expr}, (es.all plainE) = true → (backTo pos (starEach es env)).any (·.1) = false
  | [], _ => rfl
  | e :: es, h => by
    have h' : plainE e = true ∧ (es.all plainE) = true := by simpa using h
    rw [star_cons h'.1]
    have ih := star_any (env := env) (pos := pos) (es := es) h'.2
    unfold backTo at ih ⊢
    rw [List.map_cons, List.any_cons, ih]
    rfl
theorem nomarkE {op : CmpOp} {b : Expr} (h : plainE b = true) : behindInMarks op b = false := by cases b <;> first | rfl | cases h
theorem plainIx_of {b : Expr} (h : plainE b = true) : PlainIx b := by intro o i; cases b <;> first | rfl | cases h
theorem folded_of {e : Expr} (h : plainE e = true) {env : PySem.Env} : ∀ x, foldedSetIterable e env x = pure x := by intro x; cases e <;> first | rfl | cases h
section
variable {c : Cfg} {Γ : Sem} {lev : Nat} {sc : Scope} {X : Cx}
theorem Good.units (g : Good c Γ lev sc X) : X.A.units + 65 < cLine := by have := g.room.un; omega
theorem Good.gl (g : Good c Γ lev sc X) {x : Str} (h : isGl sc x = true) : Gl X x := by
  unfold Gl Env.kindOf
  rw [g.scp]; exact isGl_spec h
theorem Good.var (g : Good c Γ lev sc X) {x : Str} {pos : Pos} {i : Nat} (h1 : okN x = true) (h2 : isLoc sc x = true) (h3 : ixOf x c.N = some i) : PE X (.Name x pos) (tVar i) := by
  obtain ⟨a, b, _⟩ := okN_spec h1
  exact pe_var (by rw [g.hN]; exact ixOf_get h3) (by rw [g.scp]; exact isLoc_spec h2) a b

/-! ### targets -/
theorem asg_cons {e : Expr} {es : List Expr} {env : PySem.Env} (h : plainE e = true) : assignEach (e :: es) env = (false, assign e env) :: assignEach es env := by cases e <;> first | rfl | cases h
mutual
theorem cTg_sound {sto : List Str} (hN : X.N = c.N) (nd : c.N.Nodup) (hc : X.calm = true) (hs : Sto sto X) : ∀ (n : Nat) (e : Expr) (t : Tg), cTg c sto n e = some t → plainE e = true ∧ PG X e (tTg X.K t)
  | 0, _, _, h => by cases h
  | n + 1, e, t, h => by
    cases e with
    | Name x pos =>
      simp only [cTg] at h
      obtain ⟨h1, h2⟩ := guardO_some h
      obtain ⟨i, h3, rfl⟩ := Option.map_eq_some_iff.mp h2
      obtain ⟨l, f⟩ := hs x (of_decide_eq_true h1)
      exact ⟨rfl, st_name (pg_name (by rw [hN]; exact nd) (by rw [hN]; exact ixOf_get h3) l f)⟩
    | Tuple ts k pos =>
      simp only [cTg] at h
      obtain ⟨us, h1, rfl⟩ := Option.map_eq_some_iff.mp h
      obtain ⟨a, b, d, _⟩ := cTgs_sound hN nd hc hs n ts us h1
      exact ⟨rfl, st_tup hc a b d⟩
    | _ => simp [cTg] at h
theorem cTgs_sound {sto : List Str} (hN : X.N = c.N) (nd : c.N.Nodup) (hc : X.calm = true) (hs : Sto sto X) : ∀ (n : Nat) (es : List Expr) (ts : List Tg), cTgs c sto n es = some ts → PGs X es (tTgs X.K ts) ∧ (assignEach es X.env).length = ts.length ∧ (assignEach es X.env).findIdx? (·.1) = none ∧ True
  | 0, _, _, h => by cases h
  | n + 1, [], ts, h => by rw [cTgs] at h; cases h; exact ⟨st_nil, rfl, rfl, trivial⟩
  | n + 1, e :: es, ts, h => by
    rw [cTgs] at h
    obtain ⟨t, h1, h2⟩ := Option.bind_eq_some_iff.mp h
    obtain ⟨us, h3, rfl⟩ := Option.map_eq_some_iff.mp h2
    obtain ⟨p, a⟩ := cTg_sound hN nd hc hs n e t h1
    obtain ⟨b, d, f, _⟩ := cTgs_sound hN nd hc hs n es us h3
    refine ⟨st_cons a b ?_, ?_, ?_, trivial⟩
    · rw [asg_cons p]; rfl
    · rw [asg_cons p, List.length_cons, List.length_cons, d]
    · rw [asg_cons p, List.findIdx?_cons, f]; rfl
end

/-! ### built-ins -/
theorem biT_ok (hc : X.calm = true) : ∀ (x : Str) (n : Nat) (h : Hd) (b : Bi), (x, n, h, b) ∈ biT → x ∈ biNames ∧ match h with
    | .bi id => CallR X (.builtin id) (rBi X.K b) ∧ bootBuiltins x = some (.builtin id)
    | .ty t => CallR X (.type t) (rBi X.K b) ∧ bootBuiltins x = some (.type t) := by
  intro x n h b hm
  unfold biT at hm
  simp only [List.mem_cons, Prod.mk.injEq, List.not_mem_nil, or_false] at hm
  rcases hm with ⟨rfl, rfl, rfl, rfl⟩ | ⟨rfl, rfl, rfl, rfl⟩ | ⟨rfl, rfl, rfl, rfl⟩ | ⟨rfl, rfl, rfl, rfl⟩ | ⟨rfl, rfl, rfl, rfl⟩ | ⟨rfl, rfl, rfl, rfl⟩ | ⟨rfl, rfl, rfl, rfl⟩ | ⟨rfl, rfl, rfl, rfl⟩ | ⟨rfl, rfl, rfl, rfl⟩ | ⟨rfl, rfl, rfl, rfl⟩ | ⟨rfl, rfl, rfl, rfl⟩ | ⟨rfl, rfl, rfl, rfl⟩ | ⟨rfl, rfl, rfl, rfl⟩
  · exact ⟨by simp [biNames], bi_len, by decide +kernel⟩
  · exact ⟨by simp [biNames], bi_abs, by decide +kernel⟩
  · exact ⟨by simp [biNames], bi_sum hc, by decide +kernel⟩
  · exact ⟨by simp [biNames], bi_max hc, by decide +kernel⟩
  · exact ⟨by simp [biNames], bi_min hc, by decide +kernel⟩
  · exact ⟨by simp [biNames], bi_max2 hc, by decide +kernel⟩
  · exact ⟨by simp [biNames], bi_min2 hc, by decide +kernel⟩
  · exact ⟨by simp [biNames], bi_tuple, by decide +kernel⟩
  · exact ⟨by simp [biNames], bi_list, by decide +kernel⟩
  · exact ⟨by simp [biNames], bi_int, by decide +kernel⟩
  · exact ⟨by simp [biNames], bi_all hc, by decide +kernel⟩
  · exact ⟨by simp [biNames], bi_any hc, by decide +kernel⟩
  · exact ⟨by simp [biNames], bi_sorted, by decide +kernel⟩
theorem tyOfName_ok {x : Str} {t : Ty} (h : tyOfName x = some t) : x ∈ biNames ∧ bootBuiltins x = some (.type (tyName t)) := by
  unfold tyOfName at h
  split at h
  · rename_i e; cases h; subst e; exact ⟨by simp [biNames], by decide +kernel⟩
  · split at h
    · rename_i e; cases h; subst e; exact ⟨by simp [biNames], by decide +kernel⟩
    · split at h
      · rename_i e; cases h; subst e; exact ⟨by simp [biNames], by decide +kernel⟩
      · split at h
        · rename_i e; cases h; subst e; exact ⟨by simp [biNames], by decide +kernel⟩
        · split at h
          · rename_i e; cases h; subst e; exact ⟨by simp [biNames], by decide +kernel⟩
          · cases h
/-- the context of a comprehension's block -/
theorem Good.blk (g : Good c Γ lev sc X) {scope : Scope} (hk : scope.kind = .function) (s : Shared) (H : Hp) (C : Addr) (cl : List (Str × Addr)) (fp : List Addr) : Good c Γ lev (relS scope sc) (X.blk s H scope (compEnvC scope cl C X.env) fp) :=
  ⟨g.hN, g.nd, by rw [← g.scp]; rfl, hk, g.calm, rfl, g.room, g.F⟩
theorem getD_ix {N : List Str} {i : Nat} {x : Str} (h : N[i]? = some x) : N.getD i Str.empty = x := by
  rw [List.getD_eq_getElem?_getD, h]; rfl
end
end FF

set_option Elab.async false
set_option linter.all false
set_option maxRecDepth 100000
set_option maxHeartbeats 8000000
/-! FF14: soundness of the image of expressions. -/
namespace FF
open PySem PySem.Spec PyProof.Rows L2

structure Snd (c : Cfg) (Γ : Sem) (lev n : Nat) : Prop where
  e : ∀ (sc : Scope) (X : Cx), Good c Γ lev sc X → ∀ e ie, cE c n sc e = some ie → (∀ m, PE X e (tEv X.K Γ ie m)) ∧ ∀ i, ie = .v i → PE X e (tVar i)
  b : ∀ (sc : Scope) (X : Cx), Good c Γ lev sc X → ∀ op vs ie, cB c n sc op vs = some ie → ∀ pos, (∀ m, PE X (.BoolOp op vs pos) (tEv X.K Γ ie m)) ∧ ∀ i, ie = .v i → PE X (.BoolOp op vs pos) (tVar i)
  t : ∀ (sc : Scope) (X : Cx), Good c Γ lev sc X → ∀ e ie, cT c n sc e = some ie → PT X e (tEvT X.K Γ ie)
  bt : ∀ (sc : Scope) (X : Cx), Good c Γ lev sc X → ∀ op vs ie, cBT c n sc op vs = some ie → ∀ pos, PW X (.BoolOp op vs pos) (tEvT X.K Γ ie)
  es : ∀ (sc : Scope) (X : Cx), Good c Γ lev sc X → ∀ es ies, cEs c n sc es = some ies → es.all plainE = true ∧ ies.length = es.length ∧ (∀ m, PA X es (tEvs X.K Γ ies m)) ∧ PA X es (tEvA X.K Γ ies) ∧
    (∀ all, (∀ ie, ie ∈ ies → ie ∈ all) → PA X es (tEvS X.K Γ all ies)) ∧ PA X es (tEvR X.K Γ ies) ∧ ∀ a ia, es = [a] → ies = [ia] → PE X a (tHold X.K Γ ia)
  o : ∀ (sc : Scope) (X : Cx), Good c Γ lev sc X → ∀ o ies, cO c n sc o = some ies → PO X o (tPrt X.K Γ ies)
  cmp : ∀ (sc : Scope) (X : Cx), Good c Γ lev sc X → ∀ a ops bs ie, cCmp c n sc a ops bs = some ie → ∀ pos, (∀ m, PE X (.Compare a ops bs pos) (tEv X.K Γ ie m)) ∧ (∀ i, ie ≠ .v i) ∧ PT X (.Compare a ops bs pos) (tEvT X.K Γ ie)
  cc : ∀ (sc : Scope) (X : Cx), Good c Γ lev sc X → ∀ ifs ies, cC c n sc ifs = some ies → PTs X ifs (tEvC X.K Γ ies)
  s : ∀ (sc : Scope) (X : Cx), Good c Γ lev sc X → ∀ tg it r, cS c n sc tg it = some r → PI X tg it (tSrc X.K Γ r.1 r.2)
theorem snd_zero {c : Cfg} {Γ : Sem} {lev : Nat} : Snd c Γ lev 0 := by
  constructor
  · intro sc X g e ie h; simp [cE] at h
  · intro sc X g op vs ie h; simp [cB] at h
  · intro sc X g e ie h; simp [cT] at h
  · intro sc X g op vs ie h; simp [cBT] at h
  · intro sc X g es ies h; simp [cEs] at h
  · intro sc X g o ies h; simp [cO] at h
  · intro sc X g a ops bs ie h; simp [cCmp] at h
  · intro sc X g ifs ies h; simp [cC] at h
  · intro sc X g tg it r h; simp [cS] at h
section
variable {c : Cfg} {Γ : Sem} {lev n : Nat} {sc : Scope} {X : Cx}
theorem novar {ie : E} {X : Cx} {e : Expr} (h : ∀ i, ie ≠ .v i) : ∀ i, ie = .v i → PE X e (tVar i) := fun i q => (h i q).elim
theorem hold_of {a : Expr} {ia : E} (h : (∀ m, PE X a (tEv X.K Γ ia m)) ∧ ∀ i, ia = .v i → PE X a (tVar i)) : PE X a (tHold X.K Γ ia) := by
  cases hv : isV ia with
  | false => exact sh_of hv (h.1 false)
  | true =>
    cases ia with
    | v i => exact sh_var (h.2 i rfl)
    | _ => cases hv
theorem snd_es (S : Snd c Γ lev n) (g : Good c Γ lev sc X) : ∀ es ies, cEs c (n + 1) sc es = some ies → es.all plainE = true ∧ ies.length = es.length ∧ (∀ m, PA X es (tEvs X.K Γ ies m)) ∧ PA X es (tEvA X.K Γ ies) ∧
    (∀ all, (∀ ie, ie ∈ ies → ie ∈ all) → PA X es (tEvS X.K Γ all ies)) ∧ PA X es (tEvR X.K Γ ies) ∧ ∀ a ia, es = [a] → ies = [ia] → PE X a (tHold X.K Γ ia) := by
  intro es ies h
  cases es with
  | nil =>
    simp only [cEs] at h
    cases h
    exact ⟨rfl, rfl, fun m => se_nil, sa_nil, fun all _ => ss_nil, sr_nil, fun a ia z => by cases z⟩
  | cons a es =>
    simp only [cEs] at h
    obtain ⟨p, h⟩ := guardO_some h
    obtain ⟨ia, h1, h⟩ := Option.bind_eq_some_iff.mp h
    obtain ⟨ies, h2, rfl⟩ := Option.map_eq_some_iff.mp h
    have ha := S.e sc X g a ia h1
    obtain ⟨q1, q2, q3, q4, q5, q6, _⟩ := S.es sc X g es ies h2
    have st := star_cons (es := es) (env := X.env) p
    refine ⟨by rw [List.all_cons, p, q1]; rfl, by rw [List.length_cons, List.length_cons, q2], fun m => se_cons (ha.1 m) (q3 m) st, ?_, fun all hm => ?_, sr_cons (ha.1 false) q6 st, fun b ib e1 e2 => ?_⟩
    · cases hv : isV ia with
      | false => exact sa_cons hv (ha.1 false) q4 st
      | true =>
        cases ia with
        | v i => exact sa_var (ha.2 i rfl) q4 st
        | _ => cases hv
    · have q5 := q5 all fun ie m => hm ie (List.mem_cons_of_mem _ m)
      cases hv : isV ia with
      | false => exact ss_cons hv (ha.1 false) q5 st
      | true =>
        cases ia with
        | v i => exact ss_var (hm _ List.mem_cons_self) (ha.2 i rfl) q5 st
        | _ => cases hv
    · cases e1
      cases e2
      exact hold_of ha
theorem snd_b (S : Snd c Γ lev n) (g : Good c Γ lev sc X) : ∀ op vs ie, cB c (n + 1) sc op vs = some ie → ∀ pos, (∀ m, PE X (.BoolOp op vs pos) (tEv X.K Γ ie m)) ∧ ∀ i, ie = .v i → PE X (.BoolOp op vs pos) (tVar i) := by
  intro op vs ie h pos
  match vs with
  | [] => simp [cB] at h
  | [a] =>
    simp only [cB] at h
    have ha := S.e sc X g a ie h
    exact ⟨fun m => pe_one (ha.1 m), fun i e => pe_one (ha.2 i e)⟩
  | a :: b :: r =>
    simp only [cB] at h
    obtain ⟨ia, h1, h⟩ := Option.bind_eq_some_iff.mp h
    obtain ⟨ib, h2, rfl⟩ := Option.map_eq_some_iff.mp h
    have ha := S.e sc X g a ia h1
    have hb := S.b sc X g op (b :: r) ib h2 pos
    cases op with
    | And => exact ⟨fun m => se_vand (ha.1 true) (hb.1 m), novar fun i z => by cases z⟩
    | Or => exact ⟨fun m => se_vor (ha.1 true) (hb.1 m), novar fun i z => by cases z⟩
theorem snd_bt (S : Snd c Γ lev n) (g : Good c Γ lev sc X) : ∀ op vs ie, cBT c (n + 1) sc op vs = some ie → ∀ pos, PW X (.BoolOp op vs pos) (tEvT X.K Γ ie) := by
  intro op vs ie h pos
  match vs with
  | [] => simp [cBT] at h
  | [a] =>
    simp only [cBT] at h
    have ha := S.t sc X g a ie h
    cases op with
    | And => exact pw_and1 ha
    | Or => exact pw_or1 ha
  | a :: b :: r =>
    simp only [cBT] at h
    obtain ⟨ia, h1, h⟩ := Option.bind_eq_some_iff.mp h
    obtain ⟨ib, h2, rfl⟩ := Option.map_eq_some_iff.mp h
    have ha := S.t sc X g a ia h1
    have hb := S.bt sc X g op (b :: r) ib h2 pos
    cases op with
    | And => exact se_tand ha hb
    | Or => exact se_tor ha hb
/-- a comparison: as a value, as a test -/
theorem snd_cmp (S : Snd c Γ lev n) (g : Good c Γ lev sc X) (a : Expr) (ops : List CmpOp) (bs : List Expr) (ie : E) (h : cCmp c (n + 1) sc a ops bs = some ie) (pos : Pos) : (∀ m, PE X (.Compare a ops bs pos) (tEv X.K Γ ie m)) ∧ (∀ i, ie ≠ .v i) ∧ PT X (.Compare a ops bs pos) (tEvT X.K Γ ie) := by
  rw [cCmp.eq_def] at h
  dsimp only at h
  split at h
  · rename_i o b
    obtain ⟨p, h⟩ := guardO_some h
    obtain ⟨o', ho, h⟩ := Option.bind_eq_some_iff.mp h
    obtain ⟨ia, h1, h⟩ := Option.bind_eq_some_iff.mp h
    obtain ⟨ib, h2, rfl⟩ := Option.map_eq_some_iff.mp h
    have ha := S.e sc X g a ia h1
    have hb := S.e sc X g b ib h2
    have eo := copOf'_spec ho
    subst eo
    exact ⟨fun m => se_cmp g.units (ha.1 true) (hb.1 true) (nomarkE p), (fun i z => by cases z), se_tcmp g.units (ha.1 true) (hb.1 true) (nomarkE p)⟩
  · rename_i o q b d
    obtain ⟨p, h⟩ := guardO_some h
    obtain ⟨o', ho, h⟩ := Option.bind_eq_some_iff.mp h
    obtain ⟨q', hq, h⟩ := Option.bind_eq_some_iff.mp h
    obtain ⟨ia, h1, h⟩ := Option.bind_eq_some_iff.mp h
    obtain ⟨ib, h2, h⟩ := Option.bind_eq_some_iff.mp h
    obtain ⟨id, h3, rfl⟩ := Option.map_eq_some_iff.mp h
    have ha := S.e sc X g a ia h1
    have hb := S.e sc X g b ib h2
    have hd := S.e sc X g d id h3
    have eo := copOf'_spec ho
    have eq := copOf'_spec hq
    subst eo eq
    exact ⟨fun m => se_chain g.units (ha.1 true) (hb.1 true) (hd.1 true) (nomarkE p), (fun i z => by cases z), se_tchain g.units (ha.1 true) (hb.1 true) (hd.1 true) (nomarkE p)⟩
  · cases h
theorem snd_t (S : Snd c Γ lev n) (g : Good c Γ lev sc X) : ∀ e ie, cT c (n + 1) sc e = some ie → PT X e (tEvT X.K Γ ie) := by
  intro e ie h
  have plain : ∀ {e : Expr}, (cE c n sc e).map E.tr = some ie → (∀ whole, isTrue e X.env whole = (do let v ← whole; standAt e.pos; holding [v] (truthy v))) → PT X e (tEvT X.K Γ ie) := fun {e} h he => by
    obtain ⟨ia, h1, rfl⟩ := Option.map_eq_some_iff.mp h
    exact se_tv he ((S.e sc X g e ia h1).1 true)
  cases e with
  | BoolOp op vs pos =>
    simp only [cT] at h
    exact (S.bt sc X g op vs ie h pos).pt
  | UnaryOp op a pos =>
    rw [cT.eq_def] at h
    dsimp only at h
    cases op with
    | Not =>
      obtain ⟨ia, h1, rfl⟩ := Option.map_eq_some_iff.mp h
      exact se_tnot (S.t sc X g a ia h1)
    | _ => cases h
  | Compare a ops bs pos =>
    simp only [cT] at h
    exact (S.cmp sc X g a ops bs ie h pos).2.2
  | IfExp a b d pos => simp [cT] at h
  | _ =>
    simp only [cT] at h
    exact plain h fun _ => rfl
theorem snd_o (S : Snd c Γ lev n) (g : Good c Γ lev sc X) : ∀ o ies, cO c (n + 1) sc o = some ies → PO X o (tPrt X.K Γ ies) := by
  intro o ies h
  cases o with
  | none => simp only [cO] at h; cases h; exact se_none
  | some e =>
    simp only [cO] at h
    obtain ⟨ia, h1, rfl⟩ := Option.map_eq_some_iff.mp h
    exact se_some ((S.e sc X g e ia h1).1 true)
theorem snd_cc (S : Snd c Γ lev n) (g : Good c Γ lev sc X) : ∀ ifs ies, cC c (n + 1) sc ifs = some ies → PTs X ifs (tEvC X.K Γ ies) := by
  intro ifs ies h
  match ifs with
  | [] => simp only [cC] at h; cases h; exact sc_nil
  | [e] =>
    simp only [cC] at h
    obtain ⟨ia, h1, rfl⟩ := Option.map_eq_some_iff.mp h
    exact sc_one (S.t sc X g e ia h1)
  | _ :: _ :: _ => simp [cC] at h
theorem mem_self {α : Type} (l : List α) : ∀ x, x ∈ l → x ∈ l := fun _ h => h
theorem bnm {x : Str} (g : Good c Γ lev sc X) (h : x ∈ biNames) : X.mg x = none := g.F.bn x h
theorem snd_s (S : Snd c Γ lev n) (g : Good c Γ lev sc X) : ∀ tg it r, cS c (n + 1) sc tg it = some r → PI X tg it (tSrc X.K Γ r.1 r.2) := by
  intro tg it r h
  have other : guardO (plainE it) ((cE c n sc it).map fun ie => ((Sk.seq, [ie]) : Sk × List E)) = some r → PI X tg it (tSrc X.K Γ r.1 r.2) := fun h => by
    obtain ⟨p, h⟩ := guardO_some h
    obtain ⟨ia, h1, rfl⟩ := Option.map_eq_some_iff.mp h
    exact sp_seq (hold_of (S.e sc X g it ia h1))
  have one : ∀ {es : List Expr} {ies : List E}, cEs c n sc es = some ies → es.length = 1 → ∃ a ia, es = [a] ∧ ies = [ia] ∧ PE X a (tHold X.K Γ ia) ∧ PA X [a] (tEvS X.K Γ [ia] [ia]) ∧ starEach [a] X.env = [(false, eval a X.env)] := fun {es ies} h l => by
    obtain ⟨q1, q2, q3, q4, q5, q6, q7⟩ := S.es sc X g es ies h
    match es, l with
    | [a], _ =>
      match ies, q2 with
      | [ia], _ =>
        have p : plainE a = true := by simpa using q1
        exact ⟨a, ia, rfl, rfl, q7 a ia rfl rfl, q5 _ (mem_self _), star_cons p⟩
  have two : ∀ {es : List Expr} {ies : List E}, cEs c n sc es = some ies → es.length = 2 → ∃ a b ia ib, es = [a, b] ∧ ies = [ia, ib] ∧ PA X [a, b] (tEvS X.K Γ [ia, ib] [ia, ib]) ∧ starEach [a, b] X.env = [(false, eval a X.env), (false, eval b X.env)] ∧ starEach [b] X.env = [(false, eval b X.env)] ∧ plainE b = true := fun {es ies} h l => by
    obtain ⟨q1, q2, q3, q4, q5, q6, q7⟩ := S.es sc X g es ies h
    match es, l with
    | [a, b], _ =>
      match ies, q2 with
      | [ia, ib], _ =>
        have p : plainE a = true ∧ plainE b = true := by simpa using q1
        have s2 : starEach [b] X.env = [(false, eval b X.env)] := star_cons p.2
        exact ⟨a, b, ia, ib, rfl, rfl, q5 _ (mem_self _), by rw [star_cons p.1, s2], s2, p.2⟩
  cases it with
  | Call f es kws pos =>
    rw [cS.eq_def] at h
    dsimp only at h
    split at h
    · rename_i x px
      split at h
      · rename_i ex
        subst ex
        obtain ⟨p, h⟩ := guardO_some h
        rw [Bool.and_eq_true, Bool.and_eq_true] at p
        obtain ⟨ies, h1, rfl⟩ := Option.map_eq_some_iff.mp h
        rcases of_decide_eq_true p.2 with l | l
        · obtain ⟨a, ia, rfl, rfl, _, q, s⟩ := one h1 l
          exact sp_range1 (g.gl p.1.2) (bnm g (by simp [biNames])) q s
        · obtain ⟨a, b, ia, ib, rfl, rfl, q, s, s2, _⟩ := two h1 l
          exact sp_range2 (g.gl p.1.2) (bnm g (by simp [biNames])) q s s2
      · split at h
        · rename_i ex
          subst ex
          split at h
          · obtain ⟨p, h⟩ := guardO_some h
            rw [Bool.and_eq_true, Bool.and_eq_true] at p
            obtain ⟨ies, h1, rfl⟩ := Option.map_eq_some_iff.mp h
            obtain ⟨a, b, ia, ib, rfl, rfl, q, s, s2, pb⟩ := two h1 (of_decide_eq_true p.2)
            exact sp_zip (g.gl p.1.2) (bnm g (by simp [biNames])) q (by rw [s, s2]) (star_any (by simpa using pb))
          · cases h
        · split at h
          · rename_i ex
            subst ex
            split at h
            · obtain ⟨p, h⟩ := guardO_some h
              rw [Bool.and_eq_true, Bool.and_eq_true] at p
              obtain ⟨ies, h1, rfl⟩ := Option.map_eq_some_iff.mp h
              obtain ⟨a, ia, rfl, rfl, _, q, s⟩ := one h1 (of_decide_eq_true p.2)
              exact sp_enum (g.gl p.1.2) (bnm g (by simp [biNames])) q s
            · cases h
          · split at h
            · rename_i ex
              subst ex
              obtain ⟨p, h⟩ := guardO_some h
              rw [Bool.and_eq_true, Bool.and_eq_true] at p
              obtain ⟨ies, h1, rfl⟩ := Option.map_eq_some_iff.mp h
              obtain ⟨a, ia, rfl, rfl, q, _, s⟩ := one h1 (of_decide_eq_true p.2)
              exact sp_rev (g.gl p.1.2) (bnm g (by simp [biNames])) q s
            · exact other h
    · exact other h
  | _ => simp only [cS] at h; exact other h
end
end FF

set_option Elab.async false
set_option linter.all false
set_option maxRecDepth 100000
set_option maxHeartbeats 8000000
/-! FF15: soundness of the image of expressions, the cases. -/
namespace FF
open PySem PySem.Spec PyProof.Rows L2
section
variable {c : Cfg} {Γ : Sem} {lev n : Nat} {sc : Scope} {X : Cx}
abbrev EOk (X : Cx) (Γ : Sem) (e : Expr) (ie : E) : Prop := (∀ m, PE X e (tEv X.K Γ ie m)) ∧ ∀ i, ie = .v i → PE X e (tVar i)
theorem ownOf_map {N : List Str} {vs : List Nat} : (ownOf N vs).map (·.2) = vs := by
  unfold ownOf
  rw [List.map_map]
  exact List.map_id _
/-- the call of a name -/
theorem snd_call (S : Snd c Γ lev n) (g : Good c Γ lev sc X) {x : Str} {p pos : Pos} {es : List Expr} {ie : E} (h : cE c (n + 1) sc (.Call (.Name x p) es [] pos) = some ie) : EOk X Γ (.Call (.Name x p) es [] pos) ie := by
  rw [cE.eq_def] at h
  dsimp only at h
  replace h := guardO_some h
  obtain ⟨ok, h⟩ := h
  rw [Bool.and_eq_true] at ok
  obtain ⟨db, _, nn⟩ := okN_spec ok.1
  have gl := g.gl ok.2
  split at h
  · rename_i k ar hf
    obtain ⟨ies, h1, h⟩ := Option.bind_eq_some_iff.mp h
    obtain ⟨hl, h⟩ := guardO_some h
    cases h
    have hl := of_decide_eq_true hl
    obtain ⟨f, fd, ps, F, hm, hk, hb⟩ := g.F.fn x k ar hf
    obtain ⟨q1, q2, q3, q4, q5, q6, _⟩ := S.es sc X g es ies h1
    refine ⟨fun m => ?_, novar fun i z => by cases z⟩
    cases es with
    | nil =>
      cases ies with
      | nil => cases hl; exact se_call0 F g.room gl hm hk hb db
      | cons _ _ => cases q2
    | cons a es =>
      have p1 : plainE a = true ∧ es.all plainE = true := by simpa using q1
      exact se_call F g.room gl hm hk hb q4 hl db (star_cons p1.1) (star_any p1.2)
  · rename_i hf
    split at h
    · rename_i ex
      subst ex
      split at h
      · rename_i s1 ps1 t1 pt1 e
        obtain ⟨gd, h⟩ := guardO_some h
        rw [Bool.and_eq_true, Bool.and_eq_true, Bool.and_eq_true, Bool.and_eq_true] at gd
        obtain ⟨i, hi, h⟩ := Option.bind_eq_some_iff.mp h
        obtain ⟨j, hj, h⟩ := Option.bind_eq_some_iff.mp h
        obtain ⟨ia, h1, rfl⟩ := Option.map_eq_some_iff.mp h
        obtain ⟨f, fd, ps, F, hm, hk, hb⟩ := g.F.dr
        have he := S.e sc X g e ia h1
        exact ⟨fun m => se_draw F g.room gl hm hk hb (g.var gd.1.1.1 gd.1.1.2 hi) (g.var gd.1.2.1 gd.1.2.2 hj) (he.1 true) db rfl rfl (star_cons gd.2) (star_any (es := [_, _]) (by rw [List.all_cons, List.all_cons, List.all_nil, gd.2]; rfl)), novar fun i z => by cases z⟩
      · cases h
    · split at h
      · rename_i ex
        subst ex
        have hm : X.mg "isinstance" = none := bnm g (by simp [biNames])
        have hv : bootBuiltins "isinstance" = some (.builtin "isinstance") := boot_isinstance
        split at h
        · rename_i a t pt
          obtain ⟨gd, h⟩ := guardO_some h
          rw [Bool.and_eq_true, Bool.and_eq_true] at gd
          obtain ⟨ty, ht, h⟩ := Option.bind_eq_some_iff.mp h
          obtain ⟨ia, h1, rfl⟩ := Option.map_eq_some_iff.mp h
          have ha := S.e sc X g a ia h1
          obtain ⟨t1, t2⟩ := tyOfName_ok ht
          obtain ⟨db2, _, nn2⟩ := okN_spec gd.1.1
          exact ⟨fun m => se_isi1 gl hm hv (ha.1 true) (g.gl gd.1.2) (bnm g t1) t2 nn db nn2 db2 (star_cons gd.2), novar fun i z => by cases z⟩
        · rename_i a t pt u pu k ptp
          obtain ⟨gd, h⟩ := guardO_some h
          rw [Bool.and_eq_true, Bool.and_eq_true, Bool.and_eq_true, Bool.and_eq_true] at gd
          obtain ⟨ty, ht, h⟩ := Option.bind_eq_some_iff.mp h
          obtain ⟨tu, hu, h⟩ := Option.bind_eq_some_iff.mp h
          obtain ⟨ia, h1, rfl⟩ := Option.map_eq_some_iff.mp h
          have ha := S.e sc X g a ia h1
          obtain ⟨t1, t2⟩ := tyOfName_ok ht
          obtain ⟨u1, u2⟩ := tyOfName_ok hu
          obtain ⟨db2, _, nn2⟩ := okN_spec gd.1.1.1
          obtain ⟨db3, _, nn3⟩ := okN_spec gd.1.2.1
          exact ⟨fun m => se_isi2 gl hm hv (ha.1 true) (g.gl gd.1.1.2) (bnm g t1) t2 (g.gl gd.1.2.2) (bnm g u1) u2 nn db nn2 db2 nn3 db3 (star_cons gd.2), novar fun i z => by cases z⟩
        · cases h
      · split at h
        · rename_i ex
          subst ex
          obtain ⟨gd, h⟩ := guardO_some h
          rw [Bool.and_eq_true] at gd
          obtain ⟨ies, h1, rfl⟩ := Option.map_eq_some_iff.mp h
          obtain ⟨q1, q2, q3, q4, q5, q6, _⟩ := S.es sc X g es ies h1
          refine ⟨fun m => ?_, novar fun i z => by cases z⟩
          cases es with
          | nil => simp at gd
          | cons a es =>
            have p1 : plainE a = true ∧ es.all plainE = true := by simpa using q1
            exact se_bfun bi_gcd gl (g.F.gcd gd.1) (q3 true) db (star_cons p1.1) (star_any p1.2)
        · obtain ⟨⟨hd, b⟩, hb, h⟩ := Option.bind_eq_some_iff.mp h
          obtain ⟨ne, h⟩ := guardO_some h
          obtain ⟨ies, h1, rfl⟩ := Option.map_eq_some_iff.mp h
          obtain ⟨q1, q2, q3, q4, q5, q6, _⟩ := S.es sc X g es ies h1
          obtain ⟨m1, m2⟩ := biT_ok g.calm x es.length hd b (findBi_mem hb)
          refine ⟨fun m => ?_, novar fun i z => by cases z⟩
          cases es with
          | nil => simp at ne
          | cons a es =>
            have p1 : plainE a = true ∧ es.all plainE = true := by simpa using q1
            cases hd with
            | bi id => exact se_bi m2.1 gl (bnm g m1) m2.2 (q3 true) nn db (star_cons p1.1) (star_any p1.2)
            | ty t => exact se_bty m2.1 gl (bnm g m1) m2.2 (q3 true) nn db (star_cons p1.1) (star_any p1.2)
theorem pe_index {o a : Expr} {apos cpos : Pos} {to : TE} {t : TA} (hu : X.A.units + 65 < cLine) (ho : PE X o to) (ha : PA X [a] t) (hn : ∃ x p, o = .Name x p) (hp : plainE a = true) (hl : (apos.endLine == cpos.line) = true) : PE X (.Call (.Attribute o "index" apos) [a] [] cpos) (tBM X.K "list" (fun v vs H Q => rBi X.K .index (v :: vs) H Q) to t) := by
  obtain ⟨x, p, rfl⟩ := hn
  have st := star_cons (es := []) (env := X.env) hp
  exact pe_bm PySem.F.plainAttrs_list PySem.F.slot_list_index PySem.F.type_list_index (mt_idx hu) ho ha rfl (by rw [st]; rfl) hl st rfl
theorem se_idx {m : Bool} {o a : Expr} {io ia : E} {apos cpos : Pos} (hpe : PE X (.Call (.Attribute o "index" apos) [a] [] cpos) (tBM X.K "list" (fun v vs H Q => rBi X.K .index (v :: vs) H Q) (tEv X.K Γ io true) (tCons (tEv X.K Γ ia true) tNil))) : PE X (.Call (.Attribute o "index" apos) [a] [] cpos) (tEv X.K Γ (.bi .index [io, ia]) m) :=
  PE.imp hpe fun σ H Q ⟨B0, st, fp, ρ, R, h⟩ => by
    rw [ev, evs, evs, evs] at h
    have h1 := T.all_bind.mp (T.all_bind.mp h)
    refine ⟨B0, st, fp, ρ, R, T.all_mono (fun x hx v H1 c1 S1 r1 => ?_) h1⟩
    have R1 := R.mono c1 S1
    have h2 := T.all_bind.mp (T.all_bind.mp hx)
    have hB : ∀ p, st = some p → badOf B0 st fp p := fun _ => bad_st
    refine ⟨?_, B0, st, fp, ρ, R1, T.all_mono (fun y hy w H2 c2 S2 r2 => ?_) h2⟩
    · obtain ⟨y, hy⟩ := leaf_ex h2
      obtain ⟨r, e, q⟩ := T.all_ofO.mp hy
      cases hx1 : x.1 with
      | lst ws =>
        have lk := r1.look hB
        rw [hx1] at lk
        obtain ⟨p, vs, rfl, _, hp, _, _⟩ := lk
        exact .inl ⟨rfl, vs, SqL.of hp⟩
      | _ => rw [hx1] at e; simp [biD] at e
    · have R2 := R1.mono c2 S2
      obtain ⟨r, e, q⟩ := T.all_ofO.mp hy
      exact ⟨_, st, m, [x.1, y.1], r, R2.gd, ⟨_, _, rfl, (r1.look hB).ch hB c2, _, _, rfl, r2.look hB, rfl⟩, e, Fin.back hB q (c1.trans c2)⟩
theorem pe_joinD {o a : Expr} {apos cpos : Pos} {to : TE} {t : TA} (ho : PE X o to) (ha : PA X [a] t) (hn : ∃ k j p, o = .Constant k j p) (hp : plainE a = true) (hl : (apos.endLine == cpos.line) = true) : PE X (.Call (.Attribute o "join" apos) [a] [] cpos) (tBM X.K "str" (fun v vs H Q => rBi X.K .join (v :: vs) H Q) to t) := by
  obtain ⟨k, j, p, rfl⟩ := hn
  have st := star_cons (es := []) (env := X.env) hp
  exact pe_bm PySem.F.plainAttrs_str PySem.F.slot_str_join PySem.F.type_str_join mt_joinD ho ha rfl (by rw [st]; rfl) hl st rfl
theorem se_join {m : Bool} {o a : Expr} {io ia : E} {apos cpos : Pos} (hpe : PE X (.Call (.Attribute o "join" apos) [a] [] cpos) (tBM X.K "str" (fun v vs H Q => rBi X.K .join (v :: vs) H Q) (tEv X.K Γ io true) (tCons (tEv X.K Γ ia true) tNil))) : PE X (.Call (.Attribute o "join" apos) [a] [] cpos) (tEv X.K Γ (.bi .join [io, ia]) m) :=
  PE.imp hpe fun σ H Q ⟨B0, st, fp, ρ, R, h⟩ => by
    rw [ev, evs, evs, evs] at h
    have h1 := T.all_bind.mp (T.all_bind.mp h)
    refine ⟨B0, st, fp, ρ, R, T.all_mono (fun x hx v H1 c1 S1 r1 => ?_) h1⟩
    have R1 := R.mono c1 S1
    have h2 := T.all_bind.mp (T.all_bind.mp hx)
    have hB : ∀ p, st = some p → badOf B0 st fp p := fun _ => bad_st
    refine ⟨?_, B0, st, fp, ρ, R1, T.all_mono (fun y hy w H2 c2 S2 r2 => ?_) h2⟩
    · obtain ⟨y, hy⟩ := leaf_ex h2
      obtain ⟨r, e, q⟩ := T.all_ofO.mp hy
      cases hx1 : x.1 with
      | str ws =>
        have lk := r1.look hB
        rw [hx1] at lk
        rw [show v = _ from lk.1]
        rfl
      | _ => rw [hx1] at e; cases y.1 <;> simp [biD] at e
    · have R2 := R1.mono c2 S2
      obtain ⟨r, e, q⟩ := T.all_ofO.mp hy
      exact ⟨_, st, m, [x.1, y.1], r, R2.gd, ⟨_, _, rfl, (r1.look hB).ch hB c2, _, _, rfl, r2.look hB, rfl⟩, e, Fin.back hB q (c1.trans c2)⟩
/-- the call of a list's index -/
theorem snd_idx (S : Snd c Γ lev n) (g : Good c Γ lev sc X) {o : Expr} {nm : Str} {apos pos : Pos} {es : List Expr} {ie : E} (h : cE c (n + 1) sc (.Call (.Attribute o nm apos) es [] pos) = some ie) : EOk X Γ (.Call (.Attribute o nm apos) es [] pos) ie := by
  rw [cE.eq_def] at h
  dsimp only at h
  split at h
  · rename_i x xp a
    replace h := guardO_some h
    obtain ⟨gd, h⟩ := h
    rw [Bool.and_eq_true, Bool.and_eq_true] at gd
    obtain ⟨⟨g1, g2⟩, g3⟩ := gd
    have g1 := of_decide_eq_true g1
    subst g1
    obtain ⟨io, h1, h⟩ := Option.bind_eq_some_iff.mp h
    obtain ⟨ia, h2, rfl⟩ := Option.map_eq_some_iff.mp h
    have ho := (S.e sc X g _ io h1).1 true
    have ha := (S.e sc X g a ia h2).1 true
    refine ⟨fun m => se_idx (pe_index g.units ho ?_ ⟨x, xp, rfl⟩ g3 g2), novar fun i z => by cases z⟩
    exact pa_cons ha pa_nil (star_cons g3)
  · rename_i k j p a
    replace h := guardO_some h
    obtain ⟨gd, h⟩ := h
    rw [Bool.and_eq_true, Bool.and_eq_true] at gd
    obtain ⟨⟨g1, g2⟩, g3⟩ := gd
    have g1 := of_decide_eq_true g1
    subst g1
    obtain ⟨io, h1, h⟩ := Option.bind_eq_some_iff.mp h
    obtain ⟨ia, h2, rfl⟩ := Option.map_eq_some_iff.mp h
    have ho := (S.e sc X g _ io h1).1 true
    have ha := (S.e sc X g a ia h2).1 true
    refine ⟨fun m => se_join (pe_joinD ho ?_ ⟨k, j, p, rfl⟩ g3 g2), novar fun i z => by cases z⟩
    exact pa_cons ha pa_nil (star_cons g3)
  · cases h
/-- what a comprehension leans on -/
structure CompOk (X : Cx) (Γ : Sem) (elt tg iter : Expr) (ifs : List Expr) (scope : Scope) (t : Tg) (sk : Sk) (ses cs : List E) (e : E) : Prop where
  pi : PI X tg iter (tSrc X.K Γ sk ses)
  ok : BlkOk X.N X.env.scope scope (ownOf X.N (tgS t))
  hg : ∀ (s : Shared) (H : Hp) (C : Addr) (cl : List (Str × Addr)) (fp : List Addr), PG (X.blk s H scope (compEnvC scope cl C X.env) fp) tg (tTg X.K t)
  ht : ∀ (s : Shared) (H : Hp) (C : Addr) (cl : List (Str × Addr)) (fp : List Addr), PTs (X.blk s H scope (compEnvC scope cl C X.env) fp) ifs (tEvC X.K Γ cs)
  he : ∀ (s : Shared) (H : Hp) (C : Addr) (cl : List (Str × Addr)) (fp : List Addr), PE (X.blk s H scope (compEnvC scope cl C X.env) fp) elt (tEv X.K Γ e false)
  hs : ∀ x, foldedSetIterable iter X.env x = pure x
/-- the targets of a block are its own names -/
theorem stoOf_sto {N : List Str} {scope sc : Scope} {vs : List Nat} {X : Cx} {s : Shared} {H : Hp} {C : Addr} {cl : List (Str × Addr)} {fp : List Addr} (e : X.env.scope = sc) (h : stoOf N scope vs = true) : Sto (vs.map fun i => N.getD i Str.empty) (X.blk s H scope (compEnvC scope cl C X.env) fp) := by
  intro x hx
  obtain ⟨i, hi, rfl⟩ := List.mem_map.mp hx
  have h2 := List.all_eq_true.mp h i hi
  have kp : ∀ k, k ≠ NameKind.free → scope.names.lookup (N.getD i Str.empty) = some k → (relS scope X.env.scope).names.lookup (N.getD i Str.empty) = some k := fun k hk hl => lookup_relS_keep hk hl
  have es : (X.blk s H scope (compEnvC scope cl C X.env) fp).env.scope = relS scope X.env.scope := rfl
  split at h2
  · rename_i hl
    have := kp _ (by decide) hl
    exact ⟨.inl (by rw [es]; exact this), .inr (by rw [es]; exact this)⟩
  · rename_i hl
    have := kp _ (by decide) hl
    refine ⟨.inr (by rw [es]; exact this), .inl ?_⟩
    show (scope.names.lookup (N.getD i Str.empty) == some NameKind.cell) = true
    rw [hl]; rfl
  · cases h2
/-- a comprehension's parts -/
theorem snd_compok (S : Snd c Γ lev n) (g : Good c Γ lev sc X) {elt tg iter : Expr} {ifs : List Expr} {scope : Scope} {pos : Pos} {ie : E} (h : cE c (n + 1) sc (.ListComp elt [⟨tg, iter, ifs, 0⟩] scope pos) = some ie) :
    ∃ t sk ses cs e, ie = .comp t sk ses cs e ∧ CompOk X Γ elt tg iter ifs scope t sk ses cs e := by
  rw [cE.eq_def] at h
  dsimp only at h
  obtain ⟨t0, h0, h⟩ := Option.bind_eq_some_iff.mp h
  obtain ⟨t, h1, h⟩ := Option.bind_eq_some_iff.mp h
  obtain ⟨r, h2, h⟩ := Option.bind_eq_some_iff.mp h
  replace h := guardO_some h
  obtain ⟨gd, h⟩ := h
  rw [Bool.and_eq_true, Bool.and_eq_true] at gd
  obtain ⟨cs, h3, h⟩ := Option.bind_eq_some_iff.mp h
  obtain ⟨e, h4, rfl⟩ := Option.map_eq_some_iff.mp h
  have bk : BlkOk c.N sc scope (ownOf c.N (tgS t)) := blkOk_by gd.1.1
  refine ⟨t, r.1, r.2, cs, e, rfl, ⟨S.s sc X g tg iter r h2, by rw [g.hN, g.scp]; exact bk, fun s H C cl fp => ?_, fun s H C cl fp => S.cc _ _ (g.blk bk.kind s H C cl fp) ifs cs h3, fun s H C cl fp => (S.e _ _ (g.blk bk.kind s H C cl fp) elt e h4).1 false, folded_of gd.2⟩⟩
  exact (cTg_sound (X := X.blk s H scope (compEnvC scope cl C X.env) fp) g.hN g.nd g.calm (stoOf_sto g.scp gd.1.2) n tg t h1).2
theorem snd_e (S : Snd c Γ lev n) (g : Good c Γ lev sc X) : ∀ e ie, cE c (n + 1) sc e = some ie → EOk X Γ e ie := by
  intro e ie h
  cases e with
  | Constant k j pos =>
    rw [cE.eq_def] at h
    dsimp only at h
    cases k with
    | int i => cases h; exact ⟨fun m => se_lit pe_int fun B H => rfl, novar fun i z => by cases z⟩
    | bool b => cases h; exact ⟨fun m => se_lit pe_bl fun B H => rfl, novar fun i z => by cases z⟩
    | none => cases h; exact ⟨fun m => se_lit pe_non fun B H => rfl, novar fun i z => by cases z⟩
    | str x =>
      replace h := guardO_some h
      obtain ⟨gd, h⟩ := h
      cases h
      refine ⟨fun m => se_lit (v := .str x) pe_str fun B H => ⟨?_, ?_⟩, novar fun i z => by cases z⟩
      · show V.str x = V.str ⟨x.cps.toList.toArray⟩
        rw [Array.toArray_toList]
      · rw [Array.length_toList]; exact small_line (of_decide_eq_true gd)
    | _ => cases h
  | Name x pos =>
    rw [cE.eq_def] at h
    dsimp only at h
    replace h := guardO_some h
    obtain ⟨ok, h⟩ := h
    obtain ⟨db, _, nn⟩ := okN_spec ok
    split at h
    · rename_i hl
      obtain ⟨i, h1, rfl⟩ := Option.map_eq_some_iff.mp h
      have hv := g.var (pos := pos) ok hl h1
      exact ⟨fun m => se_var hv, fun j z => by cases z; exact hv⟩
    · replace h := guardO_some h
      obtain ⟨gl, h⟩ := h
      obtain ⟨⟨k, d⟩, h1, rfl⟩ := Option.map_eq_some_iff.mp h
      obtain ⟨u, v, hm, r, rep⟩ := g.F.cn x k d h1
      exact ⟨fun m => se_glob (pe_glob (g.gl gl) hm r db) rep, novar fun i z => by cases z⟩
  | BinOp a op b pos =>
    rw [cE.eq_def] at h
    dsimp only at h
    obtain ⟨o, ho, h⟩ := Option.bind_eq_some_iff.mp h
    obtain ⟨ia, h1, h⟩ := Option.bind_eq_some_iff.mp h
    obtain ⟨ib, h2, rfl⟩ := Option.map_eq_some_iff.mp h
    have ha := (S.e sc X g a ia h1).1 true
    have hb := (S.e sc X g b ib h2).1 true
    refine ⟨fun m => ?_, novar fun i z => by cases z⟩
    cases op <;> simp [bopOf] at ho <;> subst ho
    · exact se_bin bin_add ha hb
    · exact se_bin bin_sub ha hb
    · exact se_bin bin_mul ha hb
    · exact se_bin bin_mod ha hb
    · exact se_bin bin_pow ha hb
    · exact se_bin bin_fdiv ha hb
  | UnaryOp op a pos =>
    rw [cE.eq_def] at h
    dsimp only at h
    cases op with
    | USub =>
      obtain ⟨ia, h1, rfl⟩ := Option.map_eq_some_iff.mp h
      exact ⟨fun m => se_neg ((S.e sc X g a ia h1).1 true), novar fun i z => by cases z⟩
    | Not =>
      obtain ⟨ia, h1, rfl⟩ := Option.map_eq_some_iff.mp h
      exact ⟨fun m => se_vnot ((S.e sc X g a ia h1).1 true), novar fun i z => by cases z⟩
    | _ => cases h
  | Compare a ops bs pos =>
    rw [cE.eq_def] at h
    dsimp only at h
    have q := S.cmp sc X g a ops bs ie h pos
    exact ⟨q.1, novar q.2.1⟩
  | BoolOp op vs pos =>
    rw [cE.eq_def] at h
    dsimp only at h
    exact S.b sc X g op vs ie h pos
  | IfExp t a b pos =>
    rw [cE.eq_def] at h
    dsimp only at h
    obtain ⟨it, h0, h⟩ := Option.bind_eq_some_iff.mp h
    obtain ⟨ia, h1, h⟩ := Option.bind_eq_some_iff.mp h
    obtain ⟨ib, h2, rfl⟩ := Option.map_eq_some_iff.mp h
    exact ⟨fun m => se_ite (S.t sc X g t it h0) ((S.e sc X g a ia h1).1 m) ((S.e sc X g b ib h2).1 m), novar fun i z => by cases z⟩
  | Tuple es k pos =>
    rw [cE.eq_def] at h
    dsimp only at h
    obtain ⟨ies, h1, h⟩ := Option.bind_eq_some_iff.mp h
    replace h := guardO_some h
    obtain ⟨gd, h⟩ := h
    cases h
    obtain ⟨q1, q2, q3, _⟩ := S.es sc X g es ies h1
    exact ⟨fun m => se_tup (q3 false) (of_decide_eq_true gd), novar fun i z => by cases z⟩
  | List es pos =>
    rw [cE.eq_def] at h
    dsimp only at h
    obtain ⟨ies, h1, h⟩ := Option.bind_eq_some_iff.mp h
    replace h := guardO_some h
    obtain ⟨gd, h⟩ := h
    cases h
    obtain ⟨q1, q2, q3, _⟩ := S.es sc X g es ies h1
    exact ⟨fun m => se_lst (q3 false) (of_decide_eq_true gd), novar fun i z => by cases z⟩
  | Subscript a s pos =>
    rw [cE.eq_def] at h
    dsimp only at h
    split at h
    · rename_i lo hi st p2
      split at h
      · obtain ⟨ia, h1, h⟩ := Option.bind_eq_some_iff.mp h
        obtain ⟨il, h2, h⟩ := Option.bind_eq_some_iff.mp h
        obtain ⟨ih, h3, rfl⟩ := Option.map_eq_some_iff.mp h
        exact ⟨fun m => se_sl ((S.e sc X g a ia h1).1 true) (S.o sc X g lo il h2) (S.o sc X g hi ih h3), novar fun i z => by cases z⟩
      · rename_i mm
        split at h
        · replace h := guardO_some h
          obtain ⟨gd, h⟩ := h
          obtain ⟨ia, h1, rfl⟩ := Option.map_eq_some_iff.mp h
          unfold negOne at gd
          split at gd
          · exact ⟨fun m => se_rev ((S.e sc X g a ia h1).1 true), novar fun i z => by cases z⟩
          · cases gd
        · cases h
    · replace h := guardO_some h
      obtain ⟨gd, h⟩ := h
      obtain ⟨ia, h1, h⟩ := Option.bind_eq_some_iff.mp h
      obtain ⟨ib, h2, rfl⟩ := Option.map_eq_some_iff.mp h
      exact ⟨fun m => se_ix ((S.e sc X g a ia h1).1 true) ((S.e sc X g _ ib h2).1 true) (plainIx_of gd), novar fun i z => by cases z⟩
  | Call f es kws pos =>
    cases f with
    | Name x p =>
      cases kws with
      | nil => exact snd_call S g h
      | cons k ks => rw [cE.eq_def] at h; cases h
    | Attribute o nm apos =>
      cases kws with
      | nil => exact snd_idx S g h
      | cons k ks => rw [cE.eq_def] at h; cases h
    | _ => rw [cE.eq_def] at h; cases h
  | ListComp elt gens scope pos =>
    have hg : ∃ tg it ifs, gens = [⟨tg, it, ifs, 0⟩] := by
      rw [cE.eq_def] at h
      dsimp only at h
      split at h
      · exact ⟨_, _, _, rfl⟩
      · cases h
    obtain ⟨tg, it, ifs, rfl⟩ := hg
    obtain ⟨t, sk, ses, cs, e, rfl, k⟩ := snd_compok S g h
    refine ⟨fun m => PE.imp (pe_lc g.calm (by rw [g.hN]; exact g.nd) k.pi k.ok k.hg k.ht k.he k.hs) fun σ H Q q => ?_, novar fun i z => by cases z⟩
    have := se_comp (m := m) (pos := pos) g.calm (by rw [g.hN]; exact g.nd) k.pi k.ok ownOf_map k.hg k.ht k.he k.hs σ H Q q
    rw [ownOf_map]
    exact this
  | _ => rw [cE.eq_def] at h; cases h
theorem snd_all : ∀ n, Snd c Γ lev n
  | 0 => snd_zero
  | n + 1 =>
    have S := snd_all n
    ⟨fun sc X g => snd_e S g, fun sc X g => snd_b S g, fun sc X g => snd_t S g, fun sc X g => snd_bt S g, fun sc X g => snd_es S g, fun sc X g => snd_o S g, fun sc X g => snd_cmp S g, fun sc X g => snd_cc S g, fun sc X g => snd_s S g⟩
end
end FF

set_option Elab.async false
set_option linter.all false
set_option maxRecDepth 100000
set_option maxHeartbeats 8000000
/-! FF16: the image of statements. -/
namespace FF
open PySem PySem.Spec PyProof.Rows L2

mutual
/-- the slots whose value is taken as a value -/
def esc : Bool → E → List Nat
  | m, .v i => if m then [] else [i]
  | _, .bin _ a b => esc true a ++ esc true b
  | _, .neg a => esc true a
  | _, .cmp _ a b => esc true a ++ esc true b
  | _, .chain _ _ a b c => esc true a ++ esc true b ++ esc true c
  | _, .nt a => esc true a
  | m, .and2 a b => esc true a ++ esc m b
  | m, .or2 a b => esc true a ++ esc m b
  | _, .tr a => esc true a
  | m, .ite c a b => esc true c ++ esc m a ++ esc m b
  | _, .tup es => escs false es
  | _, .lst es => escs false es
  | _, .ix a i => esc true a ++ esc true i
  | _, .sl a lo hi => esc true a ++ escs true lo ++ escs true hi
  | _, .rev a => esc true a
  | _, .call _ es => escs false es
  | _, .bi _ es => escs true es
  | _, .isi a _ => esc true a
  | _, .comp _ _ ses cs e => escS ses ++ escs true cs ++ esc false e
  | _, .draw _ _ e => esc true e
  | _, _ => []
def escs : Bool → List E → List Nat
  | _, [] => []
  | m, e :: es => esc m e ++ escs m es
def escS : List E → List Nat
  | [] => []
  | e :: es => (if isV e then [] else esc false e) ++ escS es
end
def isSt (sc : Scope) (x : Str) : Bool := match sc.names.lookup x with | some .local => true | some .cell => true | _ => false
def stNames (c : Cfg) (sc : Scope) : List Str := c.N.filter (isSt sc)
def isComp : Expr → Bool
  | .ListComp .. => true
  | .SetComp .. => true
  | .DictComp .. => true
  | _ => false
/-- may x = [..] be said so -/
def compAsg (sc : Scope) (x : Str) (px : Pos) : Expr → Bool
  | .ListComp _ _ scope lpos => match sc.names.lookup x with
    | some .local => (px.line == lpos.line) && !(scope.names.any fun (n, k) => n == x && (k == .local || k == .cell))
    | some .cell => true
    | _ => false
  | e => !isComp e
def isStar : Expr → Bool
  | .Starred .. => true
  | _ => false
/-- how a, b = x, y stores -/
def swp (sc : Scope) (ts vs : List Expr) : Option (Option (List Str)) :=
  if !(ts.length == 2 || ts.length == 3) || vs.length != ts.length then some none
  else if (vs.any fun | .Starred .. => true | _ => false) then some none
  else
    let line := (ts.head?.map (·.pos.line)).getD 0
    let names := ts.filterMap fun
      | .Name id pos => if sc.names.lookup id == some .local && pos.line == line then some id else none
      | _ => none
    if names.length != ts.length || names.eraseDups.length != names.length then some none
    else if vs.all (foldedForSure 8) then some none
    else if vs.all (constantsAlone 8) then none
    else some (some names)
theorem swp_spec {sc : Scope} {ts vs : List Expr} {r : Option (List Str)} {kt k2 : Nat} {pt p2 : Pos} {env : PySem.Env} (e : env.scope = sc) (hk : sc.kind = .function) (h : swp sc ts vs = some r) : swappedStores [.Tuple ts kt pt] (.Tuple vs k2 p2) env = pure r := by
  have hb : env.blockKind = .function := by unfold Env.blockKind; rw [e, hk]; rfl
  have kd : ∀ id, env.kindOf id = sc.names.lookup id := fun id => by unfold Env.kindOf; rw [e]
  unfold swappedStores
  unfold swp at h
  simp only [hb, kd]
  split at h
  · rename_i q
    cases h
    exact if_pos (by rw [q]; rfl)
  · rename_i q
    refine (if_neg (by rw [Bool.not_eq_true] at q; rw [q]; decide)).trans ?_
    split at h
    · rename_i q2
      cases h
      exact if_pos q2
    · rename_i q2
      refine (if_neg q2).trans ?_
      dsimp only at h
      split at h
      · rename_i q3
        cases h
        exact if_pos q3
      · rename_i q3
        refine (if_neg q3).trans ?_
        split at h
        · rename_i q4
          cases h
          exact if_pos q4
        · rename_i q4
          refine (if_neg q4).trans ?_
          split at h
          · cases h
          · rename_i q5
            cases h
            exact if_neg q5

structure GoodS (c : Cfg) (Γ : Sem) (lev : Nat) (sc : Scope) (X : Cx) : Prop where
  g : Good c Γ lev sc X
  fn : ∀ x, X.fn x = true

/-- the slots of a row of names -/
def cNs (c : Cfg) (sc : Scope) : List Expr → Option (List (Nat × Bool))
  | [] => some []
  | .Name x _ :: es => guardO (isSt sc x) ((ixOf x c.N).bind fun i => (cNs c sc es).map ((i, decide (x ∈ c.boxes)) :: ·))
  | _ => none
def frzs (c : Cfg) (vs : List Nat) (r : List S) : List S := ((vs.filter fun i => decide (c.N.getD i Str.empty ∈ c.boxes)).map .frz) ++ r
/-- is it said with two names or three, stored in the other order? -/
def swpOk (sc : Scope) (ts vs : List Expr) (is : List (Nat × Bool)) : Bool := match swp sc ts vs with
  | none => false
  | some none => true
  | some (some xs) => match ts, is with
    | [.Name x _, .Name y _], [i, j] => decide (xs = [x, y]) && (sc.names.lookup x == some .local) && (sc.names.lookup y == some .local) && decide (i.1 ≠ j.1)
    | [.Name x _, .Name y _, .Name z _], [i, j, k] => decide (xs = [x, y, z]) && (sc.names.lookup x == some .local) && (sc.names.lookup y == some .local) && (sc.names.lookup z == some .local) && decide (i.1 ≠ j.1 ∧ i.1 ≠ k.1 ∧ j.1 ≠ k.1)
    | _, _ => false
/-- x.append(a), x.append(y.pop(k)) -/
def cApp (c : Cfg) (n : Nat) (sc : Scope) (i : Nat) (a : Expr) : Option (List Nat × S) :=
  match a with
  | .Call (.Attribute (.Name y _) bt bpos) [k] [] dpos => guardO (okN y && isLoc sc y && plainE k && decide (bt = ("pop" : Str)) && (bpos.endLine == dpos.line)) ((ixOf y c.N).bind fun j => (cE c n sc k).map fun ik => (esc true ik, .apppop i j [ik]))
  | a => (cE c n sc a).map fun ia => (esc false ia, .app i ia)
mutual
def cSt (c : Cfg) (fuel : Nat) : Nat → Scope → Stmt → Option (List Nat × S)
  | 0, _, _ => none
  | n + 1, sc, s => match s with
    | .Assign ts e _ => (match ts with
      | [.Name x px] => guardO (isSt sc x && compAsg sc x px e) ((ixOf x c.N).bind fun i => (cE c n sc e).map fun ie => (esc false ie, .box i (decide (x ∈ c.boxes)) ie))
      | [.Tuple us kt pt] => (match e with
        | .Tuple vs _ _ => (match cNs c sc us with
          | some is => (cEs c n sc vs).bind fun ies => guardO (decide (ies.length = is.length ∧ ies.length ≤ 1000) && swpOk sc us vs is) (some (escs false ies, .par is ies))
          | none => guardO (swp sc us vs == some none) ((cTg c (stNames c sc) n (.Tuple us kt pt)).bind fun t => (cE c n sc e).map fun ie => (esc false ie, .asg t ie)))
        | e => (cTg c (stNames c sc) n (.Tuple us kt pt)).bind fun t => (cE c n sc e).map fun ie => (esc false ie, .asg t ie))
      | [.Subscript (.Name x _) k _] => guardO (okN x && isLoc sc x && plainE k) ((ixOf x c.N).bind fun i => (cE c n sc e).bind fun ie => (cE c n sc k).map fun ik => (esc false ie ++ esc true ik, .setix i ik ie))
      | _ => none)
    | .Expr e _ => (match e with
      | .Call (.Attribute (.Name x _) at' apos) [a] [] cpos => guardO (okN x && isLoc sc x && plainE a && decide (at' = ("append" : Str)) && (apos.endLine == cpos.line)) ((ixOf x c.N).bind fun i =>
        cApp c n sc i a)
      | _ => none)
    | .If e a b _ => (cT c n sc e).bind fun ie => (cSts c fuel n sc a).bind fun ia => (cSts c fuel n sc b).map fun ib => (esc true ie, .ifs ie ia ib)
    | .While e a b _ => (match b with
      | [] => (cT c n sc e).bind fun ie => (cSts c fuel n sc a).map fun ia => (esc true ie, .whl fuel ie ia)
      | _ => none)
    | .For tg it a b _ => (match b with
      | [] => guardO (plainE it) ((cTg c (stNames c sc) n tg).bind fun t => (cS c n sc tg it).bind fun s => (cSts c fuel n sc a).map fun ia => (escS s.2, .forr t s.1 s.2 ia))
      | _ => none)
    | .Return e _ => (match e with
      | some e => (cE c n sc e).map fun ie => (if isV ie then [] else esc false ie, .ret ie)
      | none => some ([], .retN))
    | .Pass _ => some ([], .pass)
    | .Break _ => some ([], .brk)
    | .Continue _ => some ([], .cont)
    | _ => none
def cSts (c : Cfg) (fuel : Nat) : Nat → Scope → List Stmt → Option (List S)
  | 0, _, _ => none
  | n + 1, sc, ss => match ss with
    | [] => some []
    | s :: ss => (cSt c fuel n sc s).bind fun p => (cSts c fuel n sc ss).map fun r => frzs c p.1 (p.2 :: r)
end

section
variable {c : Cfg} {Γ : Sem} {lev : Nat} {sc : Scope} {X : Cx}
theorem sw_plain {e : Expr} (h : isComp e = false) {t : Option Expr} {l : Nat} {env : PySem.Env} : swapsWith e t l env = pure false := by cases e <;> first | rfl | cases h
theorem sw_tup {e : Expr} {us : List Expr} {kt : Nat} {pt : Pos} {l : Nat} {env : PySem.Env} : swapsWithSole [.Tuple us kt pt] e l env = pure false := by
  rw [swapsWithSole]
  cases e <;> rfl
theorem sw_sub {e o k : Expr} {pt : Pos} {l : Nat} {env : PySem.Env} : swapsWithSole [.Subscript o k pt] e l env = pure false := by
  rw [swapsWithSole]
  cases e <;> rfl
theorem sws_plain {ts : List Expr} {e : Expr} {env : PySem.Env} (h : ∀ vs k p, e ≠ .Tuple vs k p) : swappedStores ts e env = pure none := by
  unfold swappedStores
  split
  · rename_i e1
    split at e1
    · exact (h _ _ _ rfl).elim
    · exact (h _ _ _ rfl).elim
    · cases e1
  · rfl
theorem sws_sub {o k e : Expr} {pt : Pos} {env : PySem.Env} : swappedStores [.Subscript o k pt] e env = pure none := by cases e <;> rfl
theorem GoodS.loc (g : GoodS c Γ lev sc X) {x : Str} (h : isSt sc x = true) : Loc X.env.scope x := by
  rw [g.g.scp]
  unfold isSt at h
  split at h
  · rename_i e; exact .inl e
  · rename_i e; exact .inr e
  · cases h
theorem GoodS.sto (g : GoodS c Γ lev sc X) : Sto (stNames c sc) X := fun x h => ⟨g.loc (List.mem_filter.mp h).2, .inl (g.fn x)⟩
theorem cNs_ok (g : GoodS c Γ lev sc X) : ∀ {es : List Expr} {is : List (Nat × Bool)}, cNs c sc es = some is → PGs X es (gN (is.map (·.1))) ∧ (assignEach es X.env).length = is.length ∧ (assignEach es X.env).findIdx? (·.1) = none ∧ es.length = is.length
  | [], is, h => by cases h; exact ⟨pgs_nil, rfl, rfl, rfl⟩
  | e :: es, is, h => by
    cases e with
    | Name x px =>
      rw [cNs] at h
      obtain ⟨h1, h⟩ := guardO_some h
      obtain ⟨i, h2, h⟩ := Option.bind_eq_some_iff.mp h
      obtain ⟨js, h3, rfl⟩ := Option.map_eq_some_iff.mp h
      obtain ⟨a, b, d, f⟩ := cNs_ok g h3
      have q := asg_cons (e := .Name x px) (es := es) (env := X.env) rfl
      refine ⟨pgs_cons (pg_name (by rw [g.g.hN]; exact g.g.nd) (by rw [g.g.hN]; exact ixOf_get h2) (g.loc h1) (.inl (g.fn x))) a (by rw [q]; rfl), ?_, ?_, by rw [List.length_cons, List.length_cons, f]⟩
      · rw [q, List.length_cons, List.length_cons, b]
      · rw [q, List.findIdx?_cons, d]; rfl
    | _ => simp [cNs] at h
theorem frzs_ok : ∀ {vs : List Nat} {ss : List Stmt} {r : List S}, PSs X ss (tSs X.K Γ r) → PSs X ss (tSs X.K Γ (frzs c vs r))
  | vs, ss, r, h => by
    unfold frzs
    generalize vs.filter _ = ws
    induction ws with
    | nil => exact h
    | cons w ws ih => exact xs_ghost ih
end
end FF

set_option Elab.async false
set_option linter.all false
set_option maxRecDepth 100000
set_option maxHeartbeats 8000000
/-! FF17: soundness of the image of statements. -/
namespace FF
open PySem PySem.Spec PyProof.Rows L2
section
variable {c : Cfg} {Γ : Sem} {lev : Nat} {sc : Scope} {X : Cx} {fuel : Nat}
theorem nev (g : GoodS c Γ lev sc X) : PassesOwn (model X.prog X.w) X.A X.env X.xe := by rw [g.g.xe]; exact .never
/-- x = e -/
theorem snd_asg1 (g : GoodS c Γ lev sc X) {n : Nat} {x : Str} {px pos : Pos} {e : Expr} {i : Nat} {b : Bool} {ie : E} (h1 : isSt sc x = true) (h2 : compAsg sc x px e = true) (h3 : ixOf x c.N = some i) (h4 : cE c n sc e = some ie) :
    PS X (.Assign [.Name x px] e pos) (tS X.K Γ (.box i b ie)) := by
  have hb : X.env.blockKind = .function := by unfold Env.blockKind; rw [g.g.scp, g.g.kind]; rfl
  have kd : X.env.kindOf x = sc.names.lookup x := by unfold Env.kindOf; rw [g.g.scp]
  have hi : X.N[i]? = some x := by rw [g.g.hN]; exact ixOf_get h3
  have nd : X.N.Nodup := by rw [g.g.hN]; exact g.g.nd
  have he := (snd_all (Γ := Γ) (lev := lev) n).e sc X g.g e ie h4
  by_cases hl : ∃ elt gens scope lpos, e = .ListComp elt gens scope lpos
  · obtain ⟨elt, gens, scope, lpos, rfl⟩ := hl
    have sw : swapsWith (.ListComp elt gens scope lpos) (some (.Name x px)) pos.line X.env = pure (X.env.blockKind == .function && X.env.kindOf x == some .local && px.line == lpos.line && !(scope.names.any fun (n, k) => n == x && (k == .local || k == .cell))) := rfl
    rw [hb, kd] at sw
    unfold compAsg at h2
    dsimp only at h2
    split at h2
    · rename_i hlx
      rw [hlx] at sw
      rw [Bool.and_eq_true] at h2
      have sw : swapsWith (.ListComp elt gens scope lpos) (some (.Name x px)) pos.line X.env = pure true := by
        rw [sw, h2.1, h2.2]; rfl
      cases n with
      | zero => simp [cE] at h4
      | succ n =>
        have hg : ∃ tg it ifs, gens = [⟨tg, it, ifs, 0⟩] := by
          rw [cE.eq_def] at h4
          dsimp only at h4
          split at h4
          · exact ⟨_, _, _, rfl⟩
          · cases h4
        obtain ⟨tg, it, ifs, rfl⟩ := hg
        obtain ⟨t, sk, ses, cs, e, rfl, k⟩ := snd_compok (snd_all n) g.g h4
        refine PS.imp (ps_setLc g.g.calm nd hi (by rw [g.g.scp]; exact hlx) sw k.pi k.ok k.hg k.ht k.he k.hs) (box_leaf fun σ H Q q => ?_)
        rw [ownOf_map]
        exact se_comp (m := false) (pos := lpos) g.g.calm nd k.pi k.ok ownOf_map k.hg k.ht k.he k.hs σ H Q q
    · rename_i hlx
      rw [hlx] at sw
      exact x_box nd hi (g.loc h1) (.inl (g.fn x)) (he.1 false) sw
    · cases h2
  · have hc : isComp e = false := by
      cases e <;> first | rfl | exact (hl ⟨_, _, _, _, rfl⟩).elim | (simp [compAsg, isComp] at h2)
    exact x_box nd hi (g.loc h1) (.inl (g.fn x)) (he.1 false) (sw_plain hc)
theorem snd_par (g : GoodS c Γ lev sc X) {n : Nat} {us vs : List Expr} {kt k2 : Nat} {pt p2 pos : Pos} {is : List (Nat × Bool)} {ies : List E} (h1 : cNs c sc us = some is) (h2 : cEs c n sc vs = some ies) (h3 : ies.length = is.length) (h4 : ies.length ≤ 1000) (h5 : swpOk sc us vs is = true) :
    PS X (.Assign [.Tuple us kt pt] (.Tuple vs k2 p2) pos) (tS X.K Γ (.par is ies)) := by
  have nd : X.N.Nodup := by rw [g.g.hN]; exact g.g.nd
  obtain ⟨q1, q2, q3, q4, q5, q6, _⟩ := (snd_all (Γ := Γ) (lev := lev) n).es sc X g.g vs ies h2
  obtain ⟨a, b, d, f⟩ := cNs_ok g h1
  unfold swpOk at h5
  split at h5
  · cases h5
  · rename_i e
    exact x_parN g.g.calm q6 a h3 h4 b d sw_tup (swp_spec g.g.scp g.g.kind e) rfl
  · rename_i xs e
    have sw := swp_spec (kt := kt) (k2 := k2) (pt := pt) (p2 := p2) g.g.scp g.g.kind e
    split at h5
    · rename_i x px y py i j
      simp only [Bool.and_eq_true, decide_eq_true_eq, beq_iff_eq] at h5
      obtain ⟨⟨⟨rfl, hx⟩, hy⟩, hij⟩ := h5
      simp only [cNs] at h1
      obtain ⟨_, h1⟩ := guardO_some h1
      obtain ⟨i', e1, h1⟩ := Option.bind_eq_some_iff.mp h1
      obtain ⟨r, h1, e2⟩ := Option.map_eq_some_iff.mp h1
      obtain ⟨_, h1⟩ := guardO_some h1
      obtain ⟨j', e3, h1⟩ := Option.bind_eq_some_iff.mp h1
      cases h1
      cases e2
      match vs, f, q6, q2, sw with
      | [a, b], _, q6, q2, sw =>
        exact x_par2 g.g.calm nd (by rw [g.g.hN]; exact ixOf_get e1) (by rw [g.g.hN]; exact ixOf_get e3) hij (by rw [g.g.scp]; exact hx) (by rw [g.g.scp]; exact hy) q6 (by rw [h3]; rfl) sw sw_tup
      | [], _, _, q2, _ => rw [h3] at q2; cases q2
      | [_], _, _, q2, _ => rw [h3] at q2; cases q2
      | _ :: _ :: _ :: _, _, _, q2, _ => rw [h3] at q2; simp at q2
    · rename_i x px y py z pz i j l
      simp only [Bool.and_eq_true, decide_eq_true_eq, beq_iff_eq] at h5
      obtain ⟨⟨⟨⟨rfl, hx⟩, hy⟩, hz⟩, hij, hil, hjl⟩ := h5
      simp only [cNs] at h1
      obtain ⟨_, h1⟩ := guardO_some h1
      obtain ⟨i', e1, h1⟩ := Option.bind_eq_some_iff.mp h1
      obtain ⟨r, h1, e2⟩ := Option.map_eq_some_iff.mp h1
      obtain ⟨_, h1⟩ := guardO_some h1
      obtain ⟨j', e3, h1⟩ := Option.bind_eq_some_iff.mp h1
      obtain ⟨r2, h1, e4⟩ := Option.map_eq_some_iff.mp h1
      obtain ⟨_, h1⟩ := guardO_some h1
      obtain ⟨l', e5, h1⟩ := Option.bind_eq_some_iff.mp h1
      cases h1
      cases e4
      cases e2
      match vs, f, q6, q2, sw with
      | [a, b, d], _, q6, q2, sw =>
        exact x_par3 g.g.calm nd (by rw [g.g.hN]; exact ixOf_get e1) (by rw [g.g.hN]; exact ixOf_get e3) (by rw [g.g.hN]; exact ixOf_get e5) hij hil hjl (by rw [g.g.scp]; exact hx) (by rw [g.g.scp]; exact hy) (by rw [g.g.scp]; exact hz) q6 (by rw [h3]; rfl) sw sw_tup
      | [], _, _, q2, _ => rw [h3] at q2; cases q2
      | [_], _, _, q2, _ => rw [h3] at q2; cases q2
      | [_, _], _, _, q2, _ => rw [h3] at q2; simp at q2
      | _ :: _ :: _ :: _ :: _, _, _, q2, _ => rw [h3] at q2; simp at q2
    · cases h5
theorem pe_append {o a : Expr} {apos cpos : Pos} {to : TE} {t : TA} (ho : PE X o to) (ha : PA X [a] t) (hn : ∃ x p, o = .Name x p) (hp : plainE a = true) (hl : (apos.endLine == cpos.line) = true) : PE X (.Call (.Attribute o "append" apos) [a] [] cpos) (tBM X.K "list" rAppend to t) := by
  obtain ⟨x, p, rfl⟩ := hn
  have st := star_cons (es := []) (env := X.env) hp
  exact pe_bm PySem.F.plainAttrs_list PySem.F.slot_list_append PySem.F.type_list_append mt_append ho ha rfl (by rw [st]; rfl) hl st rfl
theorem pe_popAt {o a : Expr} {apos cpos : Pos} {to : TE} {t : TA} (ho : PE X o to) (ha : PA X [a] t) (hn : ∃ x p, o = .Name x p) (hp : plainE a = true) (hl : (apos.endLine == cpos.line) = true) : PE X (.Call (.Attribute o "pop" apos) [a] [] cpos) (tBM X.K "list" rPopAt to t) := by
  obtain ⟨x, p, rfl⟩ := hn
  have st := star_cons (es := []) (env := X.env) hp
  exact pe_bm PySem.F.plainAttrs_list PySem.F.slot_list_pop PySem.F.type_list_pop mt_popAt ho ha rfl (by rw [st]; rfl) hl st rfl

structure SndS (c : Cfg) (Γ : Sem) (lev fuel n : Nat) : Prop where
  s : ∀ (sc : Scope) (X : Cx), GoodS c Γ lev sc X → ∀ s vs is, cSt c fuel n sc s = some (vs, is) → PS X s (tS X.K Γ is)
  b : ∀ (sc : Scope) (X : Cx), GoodS c Γ lev sc X → ∀ ss iss, cSts c fuel n sc ss = some iss → PSs X ss (tSs X.K Γ iss)
theorem snd_sts {n : Nat} (S : SndS c Γ lev fuel n) (g : GoodS c Γ lev sc X) : ∀ ss iss, cSts c fuel (n + 1) sc ss = some iss → PSs X ss (tSs X.K Γ iss) := by
  intro ss iss h
  rw [cSts.eq_def] at h
  dsimp only at h
  split at h
  · cases h; exact xs_nil
  · obtain ⟨⟨vs, is⟩, h1, h⟩ := Option.bind_eq_some_iff.mp h
    obtain ⟨r, h2, rfl⟩ := Option.map_eq_some_iff.mp h
    exact frzs_ok (xs_cons (S.s sc X g _ vs is h1) (S.b sc X g _ r h2))
theorem snd_app (g : GoodS c Γ lev sc X) {n : Nat} {x : Str} {px apos cpos pos : Pos} {a : Expr} {i : Nat} {vs : List Nat} {is : S} (g1 : okN x = true) (g2 : isLoc sc x = true) (g3 : plainE a = true) (g5 : (apos.endLine == cpos.line) = true) (h1 : ixOf x c.N = some i) (h : cApp c n sc i a = some (vs, is)) :
    PS X (.Expr (.Call (.Attribute (.Name x px) "append" apos) [a] [] cpos) pos) (tS X.K Γ is) := by
  have SE := snd_all (c := c) (Γ := Γ) (lev := lev) n
  have hv := g.g.var (pos := px) g1 g2 h1
  unfold cApp at h
  split at h
  · rename_i y py bt bpos k dpos
    replace h := guardO_some h
    obtain ⟨gd, h⟩ := h
    simp only [Bool.and_eq_true, decide_eq_true_eq] at gd
    obtain ⟨⟨⟨⟨k1, k2⟩, k3⟩, e4⟩, k5⟩ := gd
    subst e4
    obtain ⟨j, h3, h⟩ := Option.bind_eq_some_iff.mp h
    obtain ⟨ik, h4, h⟩ := Option.map_eq_some_iff.mp h
    cases h
    have hk := (SE.e sc X g.g k ik h4).1 true
    have st := star_cons (es := []) (env := X.env) k3
    have st2 := star_cons (es := []) (env := X.env) g3
    exact x_apppop (ps_expr (pe_append hv (pa_cons (pe_popAt (g.g.var (pos := py) k1 k2 h3) (pa_cons hk pa_nil st) ⟨y, py, rfl⟩ k3 k5) pa_nil st2) ⟨x, px, rfl⟩ g3 g5) rfl)
  · obtain ⟨ia, h2, h⟩ := Option.map_eq_some_iff.mp h
    cases h
    have ha := (SE.e sc X g.g a ia h2).1 false
    have st := star_cons (es := []) (env := X.env) g3
    exact x_app hv ha st (fun pe => ps_expr pe rfl) (pe_append hv (pa_cons ha pa_nil st) ⟨x, px, rfl⟩ g3 g5)
theorem snd_st {n : Nat} (S : SndS c Γ lev fuel n) (g : GoodS c Γ lev sc X) : ∀ s vs is, cSt c fuel (n + 1) sc s = some (vs, is) → PS X s (tS X.K Γ is) := by
  intro s vs is h
  have SE := snd_all (c := c) (Γ := Γ) (lev := lev) n
  cases s with
  | Assign ts e pos =>
    rw [cSt.eq_def] at h
    dsimp only at h
    split at h
    · rename_i x px
      replace h := guardO_some h
      obtain ⟨gd, h⟩ := h
      rw [Bool.and_eq_true] at gd
      obtain ⟨i, h1, h⟩ := Option.bind_eq_some_iff.mp h
      obtain ⟨ie, h2, h⟩ := Option.map_eq_some_iff.mp h
      cases h
      exact snd_asg1 g gd.1 gd.2 h1 h2
    · rename_i us kt pt
      split at h
      · rename_i ws k2 p2
        split at h
        · rename_i js h1
          obtain ⟨ies, h2, h⟩ := Option.bind_eq_some_iff.mp h
          replace h := guardO_some h
          obtain ⟨gd, h⟩ := h
          cases h
          rw [Bool.and_eq_true] at gd
          have gl := of_decide_eq_true gd.1
          exact snd_par g h1 h2 gl.1 gl.2 gd.2
        · replace h := guardO_some h
          obtain ⟨gd, h⟩ := h
          obtain ⟨t, h1, h⟩ := Option.bind_eq_some_iff.mp h
          obtain ⟨ie, h2, h⟩ := Option.map_eq_some_iff.mp h
          cases h
          exact x_asg ((SE.e sc X g.g _ ie h2).1 false) (cTg_sound g.g.hN g.g.nd g.g.calm g.sto n _ t h1).2 sw_tup (swp_spec g.g.scp g.g.kind (eq_of_beq gd)) rfl
      · rename_i hne
        obtain ⟨t, h1, h⟩ := Option.bind_eq_some_iff.mp h
        obtain ⟨ie, h2, h⟩ := Option.map_eq_some_iff.mp h
        cases h
        exact x_asg ((SE.e sc X g.g e ie h2).1 false) (cTg_sound g.g.hN g.g.nd g.g.calm g.sto n _ t h1).2 sw_tup (sws_plain fun vs k p z => hne _ _ _ z) rfl
    · rename_i x px k p2
      replace h := guardO_some h
      obtain ⟨gd, h⟩ := h
      rw [Bool.and_eq_true, Bool.and_eq_true] at gd
      obtain ⟨i, h1, h⟩ := Option.bind_eq_some_iff.mp h
      obtain ⟨ie, h2, h⟩ := Option.bind_eq_some_iff.mp h
      obtain ⟨ik, h3, h⟩ := Option.map_eq_some_iff.mp h
      cases h
      exact x_setix ((SE.e sc X g.g e ie h2).1 false) (g.g.var gd.1.1 gd.1.2 h1) ((SE.e sc X g.g k ik h3).1 true) (fun v => by cases k <;> first | rfl | cases gd.2) sw_sub sws_sub rfl
    · cases h
  | Expr e pos =>
    rw [cSt.eq_def] at h
    dsimp only at h
    split at h
    · rename_i x px at' apos a cpos
      replace h := guardO_some h
      obtain ⟨gd, h⟩ := h
      simp only [Bool.and_eq_true, decide_eq_true_eq] at gd
      obtain ⟨⟨⟨⟨g1, g2⟩, g3⟩, e4⟩, g5⟩ := gd
      subst e4
      replace h := Option.bind_eq_some_iff.mp h
      obtain ⟨i, h1, h⟩ := h
      exact snd_app g g1 g2 g3 g5 h1 h
    · cases h
  | If e a b pos =>
    rw [cSt.eq_def] at h
    dsimp only at h
    obtain ⟨ie, h1, h⟩ := Option.bind_eq_some_iff.mp h
    obtain ⟨ia, h2, h⟩ := Option.bind_eq_some_iff.mp h
    obtain ⟨ib, h3, h⟩ := Option.map_eq_some_iff.mp h
    cases h
    exact x_if (SE.t sc X g.g e ie h1) (S.b sc X g a ia h2) (S.b sc X g b ib h3)
  | While e a b pos =>
    rw [cSt.eq_def] at h
    dsimp only at h
    split at h
    · obtain ⟨ie, h1, h⟩ := Option.bind_eq_some_iff.mp h
      obtain ⟨ia, h2, h⟩ := Option.map_eq_some_iff.mp h
      cases h
      exact x_while (nev g) (SE.t sc X g.g e ie h1) (S.b sc X g a ia h2)
    · cases h
  | For tg it a b pos =>
    rw [cSt.eq_def] at h
    dsimp only at h
    split at h
    · replace h := guardO_some h
      obtain ⟨gd, h⟩ := h
      obtain ⟨t, h1, h⟩ := Option.bind_eq_some_iff.mp h
      obtain ⟨⟨sk, ses⟩, h2, h⟩ := Option.bind_eq_some_iff.mp h
      obtain ⟨ia, h3, h⟩ := Option.map_eq_some_iff.mp h
      cases h
      exact x_for (nev g) g.g.calm (SE.s sc X g.g tg it _ h2) (cTg_sound g.g.hN g.g.nd g.g.calm g.sto n _ t h1).2 (S.b sc X g a ia h3) (folded_of gd)
    · cases h
  | Return e pos =>
    rw [cSt.eq_def] at h
    dsimp only at h
    split at h
    · rename_i e
      obtain ⟨ie, h1, h⟩ := Option.map_eq_some_iff.mp h
      cases h
      have he := SE.e sc X g.g e ie h1
      cases hv : isV ie with
      | false => exact x_ret hv (he.1 false)
      | true =>
        cases ie with
        | v i => exact x_retv (he.2 i rfl)
        | _ => cases hv
    · cases h; exact x_retN
  | Pass pos => rw [cSt.eq_def] at h; cases h; exact x_pass
  | Break pos => rw [cSt.eq_def] at h; cases h; exact x_break
  | Continue pos => rw [cSt.eq_def] at h; cases h; exact x_cont
  | _ => rw [cSt.eq_def] at h; cases h
theorem sndS_all : ∀ n, SndS c Γ lev fuel n
  | 0 => ⟨fun sc X g s vs is h => (by rw [cSt.eq_def] at h; cases h), fun sc X g ss iss h => (by rw [cSts.eq_def] at h; cases h)⟩
  | n + 1 => ⟨fun sc X g => snd_st (sndS_all n) g, fun sc X g => snd_sts (sndS_all n) g⟩
end
end FF

set_option Elab.async false
set_option linter.all false
set_option maxRecDepth 100000
set_option maxHeartbeats 8000000
/-! FF18: a def of the text keeps the promise of its image. -/
namespace FF
open PySem PySem.Spec PyProof.Rows L2
section
theorem args_slots {K : Fg} {B : Addr → Prop} {st : Option Addr} {H : Hp} {B0 : Addr → Prop} (hB : ∀ p, badOf B0 st (fun _ => none) p → B p) : ∀ {as : List Arg} {vs : List V}, Args K B st H as vs → ∀ i s, (bindA as)[i]? = some s → SlotOk K (badOf B0 st fun _ => none) st (fun _ => none) H i (vs.map some)[i]? s
  | [], _, _, i, s, e => by simp [bindA] at e
  | a :: as, vs, h, 0, s, e => by
    cases a with
    | d x =>
      obtain ⟨v, r, rfl, h1, _⟩ := h
      simp [bindA] at e
      subst e
      exact ⟨v, rfl, Rep.less (fun p _ z => hB p z) _ _ h1⟩
    | st =>
      obtain ⟨p, r, rfl, h1, _⟩ := h
      simp [bindA] at e
      subst e
      exact ⟨p, h1, rfl⟩
    | scr =>
      obtain ⟨v, r, rfl, h1, _⟩ := h
      simp [bindA] at e
      subst e
      exact ⟨v, rfl, h1⟩
  | a :: as, vs, h, i + 1, s, e => by
    have k : ∀ {v : V} {r : List V}, vs = v :: r → Args K B st H as r → (bindA as)[i]? = some s → SlotOk K (badOf B0 st fun _ => none) st (fun _ => none) H (i + 1) (vs.map some)[i + 1]? s := fun e1 h1 e2 => by
      have := args_slots hB h1 i s e2
      rw [e1, List.map_cons, List.getElem?_cons_succ]
      cases s <;> exact this
    cases a with
    | d x => obtain ⟨v, r, e1, _, h1⟩ := h; exact k e1 h1 (by simpa [bindA] using e)
    | st => obtain ⟨p, r, e1, _, h1⟩ := h; exact k e1 h1 (by simpa [bindA] using e)
    | scr => obtain ⟨v, r, e1, _, h1⟩ := h; exact k e1 h1 (by simpa [bindA] using e)
theorem bindA_len : ∀ {as : List Arg}, (bindA as).length = as.length
  | [] => rfl
  | .d _ :: as => congrArg (· + 1) bindA_len
  | .st :: as => congrArg (· + 1) bindA_len
  | .scr :: as => congrArg (· + 1) bindA_len
/-- at the entry -/
theorem rel_start {K : Fg} {B : Addr → Prop} {st : Option Addr} {H : Hp} (G : Gd B st H) {as : List Arg} {vs : List V} (h : Args K B st H as vs) {N : List Str} {x : Nat} (hx : N.length = as.length + x) :
    Rel K (fun p => B p ∧ st ≠ some p) st (fun _ => none) (bindA as ++ List.replicate x .no) (L2.start N vs) H := by
  have hl := h.length
  have hB : ∀ p, badOf (fun p => B p ∧ st ≠ some p) st (fun _ => none) p → B p := fun p z => by
    rcases z with z | z | ⟨i, z⟩
    · exact z.1
    · exact G.stb p z
    · cases z
  refine ⟨?_, fun i s e => ?_, fun i p z => (by cases z), fun i p z => (by cases z), fun i j p z => (by cases z), fun p z => G.dom p z.1, fun p z k => k.2 z, G.sok⟩
  · unfold L2.start
    rw [List.length_append, List.length_append, List.length_replicate, List.length_replicate, List.length_map, bindA_len, hl, hx]
    omega
  · by_cases hi : i < as.length
    · rw [List.getElem?_append_left (by rw [bindA_len]; exact hi)] at e
      have := args_slots hB h i s e
      unfold L2.start
      rw [List.getElem?_append_left (by rw [List.length_map, hl]; exact hi)]
      exact this
    · rw [List.getElem?_append_right (by rw [bindA_len]; omega), List.getElem?_replicate] at e
      split at e
      · cases e; trivial
      · cases e
theorem run_ok {K : Fg} {B : Addr → Prop} {st : Option Addr} {H : Hp} (G : Gd B st H) {as : List Arg} {vs : List V} (h : Args K B st H as vs) {N : List Str} {x : Nat} (hx : N.length = as.length + x) {Γ : Sem} {b : List S} {Q : VK} (q : (run Γ b x as).all fun r => Fin K B st false r H Q) :
    tSs K Γ b { nx := fun _ H' => Q .non H', rt := Q } (L2.start N vs) H := by
  refine ⟨_, st, _, _, rel_start G h hx, ?_⟩
  unfold run at q
  refine T.all_mono (fun r hr => ?_) (T.all_bind.mp q)
  have mu : ∀ p, Mu st (fun _ => none) (bindA as ++ List.replicate x .no) p → Cs st p := fun p z => by
    rcases z with z | ⟨i, d, z, _⟩
    · exact z
    · cases z
  have hB : ∀ p, B p → (B p ∧ st ≠ some p) ∨ st = some p := fun p z => by
    by_cases k : st = some p
    · exact .inr k
    · exact .inl ⟨z, k⟩
  obtain ⟨f, ρ'⟩ := r
  cases f with
  | nx =>
    have hr : Fin K B st false (.non, false) H Q := hr
    intro fp' σ' H' R a l
    exact hr .non H' (a.ch.mono mu) R.sok (.of G.stb rfl)
  | bk => exact hr.elim
  | ct => exact hr.elim
  | rt r =>
    have hr : Fin K B st false r H Q := hr
    intro v H' c th S ro
    refine hr v H' (c.mono mu) S ?_
    unfold RetOk at ro
    unfold Res
    split at ro
    · rename_i e
      rw [if_pos e]
      obtain ⟨xs, p, us, e1, e2, hn, nb, ns, hp, hl, re⟩ := ro
      have hn : H p = none := by
        rcases hn with z | ⟨i, z⟩
        · exact z
        · cases z
      refine ⟨xs, p, us, e1, e2, hn, fun z => ?_, hp, hl, Reps.less (fun q _ z => ?_) _ _ re⟩
      · obtain ⟨o, w⟩ := G.dom p z; rw [hn] at w; cases w
      · rcases z with z | z
        · exact .inl (hB q z)
        · exact .inr z
    · rename_i e
      rw [if_neg e, if_neg Bool.false_ne_true]
      exact Rep.less (fun q _ z => hB q z) _ _ ro
/-- THE RULE: a def of the text, its image b -/
theorem fn_ok {P : Program} {w : World} {K : Fg} {mg : Str → Option Value} {base : Heap} {x qual : Str} {st : Stmt} {f : Addr} {fd : FuncData} {ps : List Str} {k n ex fuel : Nat} {c : Cfg} {Γ : Sem} {b : List S}
    (F : Fun K x qual st f fd) (S : FnScope c.N ps (defScope st)) (X : Facts c Γ k P w K mg base) (hb : cSts c fuel n (defScope st) (defBody st) = some b) (hx : c.N.length = ps.length + ex) :
    FnOk P w K mg base CX0 (k + 1) f fd ps (spF K ps.length (run Γ b ex)) := by
  refine Fun.ok F S (fun vs H Q E h => h.1) fun cdv A outer s H vs Q E room h => ?_
  obtain ⟨hl, B, st', as, G, ha, q⟩ := h
  have g : GoodS c Γ k (defScope st) (cxOf CX0 P w K mg base c.N qual (defScope st) f cdv A outer s H E).nox := ⟨⟨rfl, S.nd, rfl, S.kind, rfl, rfl, room, X⟩, fun _ => rfl⟩
  exact ⟨_, (sndS_all n).b _ _ g _ b hb, run_ok G ha (by rw [hx, ← hl, ha.length]) q⟩
end
end FF

set_option Elab.async false
set_option linter.all false
set_option maxRecDepth 100000
set_option maxHeartbeats 8000000
/-! FF19: helps for the def that draws. -/
namespace FF
open PySem PySem.Spec PyProof.Rows L2
theorem op_mulK {X : Cx} : OpR X (binaryOp .Mult) (rI IntMulOk fun i j => .int (i * j)) := opI fun _ _ _ _ _ _ _ hc q => mul_int q hc
theorem op_fdivK {X : Cx} : OpR X (binaryOp .FloorDiv) (rI (fun _ j => j ≠ 0 ∧ j.natAbs.log2 < 9000) fun i j => .int (i.fdiv j)) := opI fun _ _ _ _ _ _ _ hc q => floordiv_int hc.1 q (.inl (PyProof.noPylong_of_log2 hc.2))
/-- the def that fills: some int, the heap as it was -/
def spRefill (K : Fg) : Sp := fun vs H Q _ => ∃ (w : V) (k : Int), vs = [w, .int k] ∧ Scr K H w ∧ ∀ r : Int, Q (.int r) H
theorem Scr.seq {K : Fg} {H : Hp} {w : V} (h : Scr K H w) : ∃ (a : Addr) (ns : List Int), w = .ref a ∧ SqL K H a (ns.map V.int) := by
  obtain ⟨a, ns, e, l, h | h⟩ := h
  · obtain ⟨o, h⟩ := h
    exact ⟨a, ns, e, .inl (.inr ⟨o, h⟩)⟩
  · exact ⟨a, ns, e, h H⟩
theorem atI_mod {ns : List Int} (k : Int) (h : ns ≠ []) : ∃ i, atI (ns.map V.int) (k.fmod ((ns.map V.int).length : Int)) = some (.int i) := by
  have hl : 0 < ns.length := List.length_pos_iff.mpr h
  rw [List.length_map]
  have h1 : 0 ≤ k.fmod (ns.length : Int) := by rw [Int.fmod_eq_emod_of_nonneg _ (by omega)]; exact Int.emod_nonneg _ (by omega)
  have h2 : k.fmod (ns.length : Int) < ns.length := by rw [Int.fmod_eq_emod_of_nonneg _ (by omega)]; exact Int.emod_lt_of_pos _ (by omega)
  obtain ⟨j, hj⟩ := Int.eq_ofNat_of_zero_le h1
  rw [hj] at h2 ⊢
  have hj2 : j < ns.length := by omega
  exact ⟨ns[j], atI_nat (by rw [List.getElem?_map, List.getElem?_eq_getElem hj2]; rfl)⟩
theorem mulK_r {i j : Int} (h : j.natAbs < 2 ^ 64) : IntMulOk i j := .of_right (bits_le h)
theorem mulK_l {i j : Int} (h : i.natAbs < 2 ^ 64) : IntMulOk i j := .of_left (bits_le h)
end FF

set_option Elab.async false
set_option linter.all false
set_option maxRecDepth 100000
set_option maxHeartbeats 8000000
/-! FF20: equality of images, by a Bool. -/
namespace FF
mutual
def eqDB : D → D → Bool
  | .non , .non  => true
  | .bl a0, .bl b0 => decide (a0 = b0)
  | .int a0, .int b0 => decide (a0 = b0)
  | .str a0, .str b0 => decide (a0 = b0)
  | .lst a0, .lst b0 => eqDsB a0 b0
  | .tup a0, .tup b0 => eqDsB a0 b0
  | .dic a0 a1, .dic b0 b1 => eqDsB a0 b0 && eqDsB a1 b1
  | _, _ => false
def eqDsB : List D → List D → Bool
  | [], [] => true
  | a :: r, b :: s => eqDB a b && eqDsB r s
  | _, _ => false
end
mutual
theorem eqDB_eq : ∀ a b : D, eqDB a b = true → a = b
  | .non , b, h => by
    cases b with
    | non => rfl
    | _ => simp [eqDB] at h
  | .bl a0, b, h => by
    cases b with
    | bl b0 =>
      simp only [eqDB, Bool.and_eq_true, decide_eq_true_eq] at h
      have h0 := h
      rw [h0]
    | _ => simp [eqDB] at h
  | .int a0, b, h => by
    cases b with
    | int b0 =>
      simp only [eqDB, Bool.and_eq_true, decide_eq_true_eq] at h
      have h0 := h
      rw [h0]
    | _ => simp [eqDB] at h
  | .str a0, b, h => by
    cases b with
    | str b0 =>
      simp only [eqDB, Bool.and_eq_true, decide_eq_true_eq] at h
      have h0 := h
      rw [h0]
    | _ => simp [eqDB] at h
  | .lst a0, b, h => by
    cases b with
    | lst b0 =>
      simp only [eqDB, Bool.and_eq_true, decide_eq_true_eq] at h
      have h0 := h
      rw [eqDsB_eq _ _ h0]
    | _ => simp [eqDB] at h
  | .tup a0, b, h => by
    cases b with
    | tup b0 =>
      simp only [eqDB, Bool.and_eq_true, decide_eq_true_eq] at h
      have h0 := h
      rw [eqDsB_eq _ _ h0]
    | _ => simp [eqDB] at h
  | .dic a0 a1, b, h => by
    cases b with
    | dic b0 b1 =>
      simp only [eqDB, Bool.and_eq_true, decide_eq_true_eq] at h
      obtain ⟨h0, h1⟩ := h
      rw [eqDsB_eq _ _ h0, eqDsB_eq _ _ h1]
    | _ => simp [eqDB] at h
theorem eqDsB_eq : ∀ a b : List D, eqDsB a b = true → a = b
  | [], [], _ => rfl
  | a :: r, b :: s, h => by
    simp only [eqDsB, Bool.and_eq_true] at h
    rw [eqDB_eq _ _ h.1, eqDsB_eq _ _ h.2]
  | [], _ :: _, h => by simp [eqDsB] at h
  | _ :: _, [], h => by simp [eqDsB] at h
end
mutual
def eqTgB : Tg → Tg → Bool
  | .nm a0, .nm b0 => decide (a0 = b0)
  | .tup a0, .tup b0 => eqTgsB a0 b0
  | _, _ => false
def eqTgsB : List Tg → List Tg → Bool
  | [], [] => true
  | a :: r, b :: s => eqTgB a b && eqTgsB r s
  | _, _ => false
end
mutual
theorem eqTgB_eq : ∀ a b : Tg, eqTgB a b = true → a = b
  | .nm a0, b, h => by
    cases b with
    | nm b0 =>
      simp only [eqTgB, Bool.and_eq_true, decide_eq_true_eq] at h
      have h0 := h
      rw [h0]
    | _ => simp [eqTgB] at h
  | .tup a0, b, h => by
    cases b with
    | tup b0 =>
      simp only [eqTgB, Bool.and_eq_true, decide_eq_true_eq] at h
      have h0 := h
      rw [eqTgsB_eq _ _ h0]
    | _ => simp [eqTgB] at h
theorem eqTgsB_eq : ∀ a b : List Tg, eqTgsB a b = true → a = b
  | [], [], _ => rfl
  | a :: r, b :: s, h => by
    simp only [eqTgsB, Bool.and_eq_true] at h
    rw [eqTgB_eq _ _ h.1, eqTgsB_eq _ _ h.2]
  | [], _ :: _, h => by simp [eqTgsB] at h
  | _ :: _, [], h => by simp [eqTgsB] at h
end
mutual
def eqEB : E → E → Bool
  | .c a0, .c b0 => eqDB a0 b0
  | .g a0 a1, .g b0 b1 => decide (a0 = b0) && eqDB a1 b1
  | .v a0, .v b0 => decide (a0 = b0)
  | .bin a0 a1 a2, .bin b0 b1 b2 => decide (a0 = b0) && eqEB a1 b1 && eqEB a2 b2
  | .neg a0, .neg b0 => eqEB a0 b0
  | .cmp a0 a1 a2, .cmp b0 b1 b2 => decide (a0 = b0) && eqEB a1 b1 && eqEB a2 b2
  | .chain a0 a1 a2 a3 a4, .chain b0 b1 b2 b3 b4 => decide (a0 = b0) && decide (a1 = b1) && eqEB a2 b2 && eqEB a3 b3 && eqEB a4 b4
  | .nt a0, .nt b0 => eqEB a0 b0
  | .and2 a0 a1, .and2 b0 b1 => eqEB a0 b0 && eqEB a1 b1
  | .or2 a0 a1, .or2 b0 b1 => eqEB a0 b0 && eqEB a1 b1
  | .tr a0, .tr b0 => eqEB a0 b0
  | .ite a0 a1 a2, .ite b0 b1 b2 => eqEB a0 b0 && eqEB a1 b1 && eqEB a2 b2
  | .tup a0, .tup b0 => eqEsB a0 b0
  | .lst a0, .lst b0 => eqEsB a0 b0
  | .ix a0 a1, .ix b0 b1 => eqEB a0 b0 && eqEB a1 b1
  | .sl a0 a1 a2, .sl b0 b1 b2 => eqEB a0 b0 && eqEsB a1 b1 && eqEsB a2 b2
  | .rev a0, .rev b0 => eqEB a0 b0
  | .call a0 a1, .call b0 b1 => decide (a0 = b0) && eqEsB a1 b1
  | .bi a0 a1, .bi b0 b1 => decide (a0 = b0) && eqEsB a1 b1
  | .isi a0 a1, .isi b0 b1 => eqEB a0 b0 && decide (a1 = b1)
  | .comp a0 a1 a2 a3 a4, .comp b0 b1 b2 b3 b4 => eqTgB a0 b0 && decide (a1 = b1) && eqEsB a2 b2 && eqEsB a3 b3 && eqEB a4 b4
  | .comp2 a0 a1 a2 a3 a4 a5 a6 a7 a8, .comp2 b0 b1 b2 b3 b4 b5 b6 b7 b8 => eqTgB a0 b0 && decide (a1 = b1) && eqEsB a2 b2 && eqEsB a3 b3 && eqTgB a4 b4 && decide (a5 = b5) && eqEsB a6 b6 && eqEsB a7 b7 && eqEB a8 b8
  | .draw a0 a1 a2, .draw b0 b1 b2 => decide (a0 = b0) && decide (a1 = b1) && eqEB a2 b2
  | .dget a0 a1 a2, .dget b0 b1 b2 => eqEB a0 b0 && eqEB a1 b1 && eqEsB a2 b2
  | .index a0 a1, .index b0 b1 => eqEB a0 b0 && eqEB a1 b1
  | .join a0 a1, .join b0 b1 => eqEB a0 b0 && eqEB a1 b1
  | .dict a0 a1, .dict b0 b1 => eqEsB a0 b0 && eqEsB a1 b1
  | _, _ => false
def eqEsB : List E → List E → Bool
  | [], [] => true
  | a :: r, b :: s => eqEB a b && eqEsB r s
  | _, _ => false
end
mutual
theorem eqEB_eq : ∀ a b : E, eqEB a b = true → a = b
  | .c a0, b, h => by
    cases b with
    | c b0 =>
      simp only [eqEB, Bool.and_eq_true, decide_eq_true_eq] at h
      have h0 := h
      rw [eqDB_eq _ _ h0]
    | _ => simp [eqEB] at h
  | .g a0 a1, b, h => by
    cases b with
    | g b0 b1 =>
      simp only [eqEB, Bool.and_eq_true, decide_eq_true_eq] at h
      obtain ⟨h0, h1⟩ := h
      rw [h0, eqDB_eq _ _ h1]
    | _ => simp [eqEB] at h
  | .v a0, b, h => by
    cases b with
    | v b0 =>
      simp only [eqEB, Bool.and_eq_true, decide_eq_true_eq] at h
      have h0 := h
      rw [h0]
    | _ => simp [eqEB] at h
  | .bin a0 a1 a2, b, h => by
    cases b with
    | bin b0 b1 b2 =>
      simp only [eqEB, Bool.and_eq_true, decide_eq_true_eq] at h
      obtain ⟨⟨h0, h1⟩, h2⟩ := h
      rw [h0, eqEB_eq _ _ h1, eqEB_eq _ _ h2]
    | _ => simp [eqEB] at h
  | .neg a0, b, h => by
    cases b with
    | neg b0 =>
      simp only [eqEB, Bool.and_eq_true, decide_eq_true_eq] at h
      have h0 := h
      rw [eqEB_eq _ _ h0]
    | _ => simp [eqEB] at h
  | .cmp a0 a1 a2, b, h => by
    cases b with
    | cmp b0 b1 b2 =>
      simp only [eqEB, Bool.and_eq_true, decide_eq_true_eq] at h
      obtain ⟨⟨h0, h1⟩, h2⟩ := h
      rw [h0, eqEB_eq _ _ h1, eqEB_eq _ _ h2]
    | _ => simp [eqEB] at h
  | .chain a0 a1 a2 a3 a4, b, h => by
    cases b with
    | chain b0 b1 b2 b3 b4 =>
      simp only [eqEB, Bool.and_eq_true, decide_eq_true_eq] at h
      obtain ⟨⟨⟨⟨h0, h1⟩, h2⟩, h3⟩, h4⟩ := h
      rw [h0, h1, eqEB_eq _ _ h2, eqEB_eq _ _ h3, eqEB_eq _ _ h4]
    | _ => simp [eqEB] at h
  | .nt a0, b, h => by
    cases b with
    | nt b0 =>
      simp only [eqEB, Bool.and_eq_true, decide_eq_true_eq] at h
      have h0 := h
      rw [eqEB_eq _ _ h0]
    | _ => simp [eqEB] at h
  | .and2 a0 a1, b, h => by
    cases b with
    | and2 b0 b1 =>
      simp only [eqEB, Bool.and_eq_true, decide_eq_true_eq] at h
      obtain ⟨h0, h1⟩ := h
      rw [eqEB_eq _ _ h0, eqEB_eq _ _ h1]
    | _ => simp [eqEB] at h
  | .or2 a0 a1, b, h => by
    cases b with
    | or2 b0 b1 =>
      simp only [eqEB, Bool.and_eq_true, decide_eq_true_eq] at h
      obtain ⟨h0, h1⟩ := h
      rw [eqEB_eq _ _ h0, eqEB_eq _ _ h1]
    | _ => simp [eqEB] at h
  | .tr a0, b, h => by
    cases b with
    | tr b0 =>
      simp only [eqEB, Bool.and_eq_true, decide_eq_true_eq] at h
      have h0 := h
      rw [eqEB_eq _ _ h0]
    | _ => simp [eqEB] at h
  | .ite a0 a1 a2, b, h => by
    cases b with
    | ite b0 b1 b2 =>
      simp only [eqEB, Bool.and_eq_true, decide_eq_true_eq] at h
      obtain ⟨⟨h0, h1⟩, h2⟩ := h
      rw [eqEB_eq _ _ h0, eqEB_eq _ _ h1, eqEB_eq _ _ h2]
    | _ => simp [eqEB] at h
  | .tup a0, b, h => by
    cases b with
    | tup b0 =>
      simp only [eqEB, Bool.and_eq_true, decide_eq_true_eq] at h
      have h0 := h
      rw [eqEsB_eq _ _ h0]
    | _ => simp [eqEB] at h
  | .lst a0, b, h => by
    cases b with
    | lst b0 =>
      simp only [eqEB, Bool.and_eq_true, decide_eq_true_eq] at h
      have h0 := h
      rw [eqEsB_eq _ _ h0]
    | _ => simp [eqEB] at h
  | .ix a0 a1, b, h => by
    cases b with
    | ix b0 b1 =>
      simp only [eqEB, Bool.and_eq_true, decide_eq_true_eq] at h
      obtain ⟨h0, h1⟩ := h
      rw [eqEB_eq _ _ h0, eqEB_eq _ _ h1]
    | _ => simp [eqEB] at h
  | .sl a0 a1 a2, b, h => by
    cases b with
    | sl b0 b1 b2 =>
      simp only [eqEB, Bool.and_eq_true, decide_eq_true_eq] at h
      obtain ⟨⟨h0, h1⟩, h2⟩ := h
      rw [eqEB_eq _ _ h0, eqEsB_eq _ _ h1, eqEsB_eq _ _ h2]
    | _ => simp [eqEB] at h
  | .rev a0, b, h => by
    cases b with
    | rev b0 =>
      simp only [eqEB, Bool.and_eq_true, decide_eq_true_eq] at h
      have h0 := h
      rw [eqEB_eq _ _ h0]
    | _ => simp [eqEB] at h
  | .call a0 a1, b, h => by
    cases b with
    | call b0 b1 =>
      simp only [eqEB, Bool.and_eq_true, decide_eq_true_eq] at h
      obtain ⟨h0, h1⟩ := h
      rw [h0, eqEsB_eq _ _ h1]
    | _ => simp [eqEB] at h
  | .bi a0 a1, b, h => by
    cases b with
    | bi b0 b1 =>
      simp only [eqEB, Bool.and_eq_true, decide_eq_true_eq] at h
      obtain ⟨h0, h1⟩ := h
      rw [h0, eqEsB_eq _ _ h1]
    | _ => simp [eqEB] at h
  | .isi a0 a1, b, h => by
    cases b with
    | isi b0 b1 =>
      simp only [eqEB, Bool.and_eq_true, decide_eq_true_eq] at h
      obtain ⟨h0, h1⟩ := h
      rw [eqEB_eq _ _ h0, h1]
    | _ => simp [eqEB] at h
  | .comp a0 a1 a2 a3 a4, b, h => by
    cases b with
    | comp b0 b1 b2 b3 b4 =>
      simp only [eqEB, Bool.and_eq_true, decide_eq_true_eq] at h
      obtain ⟨⟨⟨⟨h0, h1⟩, h2⟩, h3⟩, h4⟩ := h
      rw [eqTgB_eq _ _ h0, h1, eqEsB_eq _ _ h2, eqEsB_eq _ _ h3, eqEB_eq _ _ h4]
    | _ => simp [eqEB] at h
  | .comp2 a0 a1 a2 a3 a4 a5 a6 a7 a8, b, h => by
    cases b with
    | comp2 b0 b1 b2 b3 b4 b5 b6 b7 b8 =>
      simp only [eqEB, Bool.and_eq_true, decide_eq_true_eq] at h
      obtain ⟨⟨⟨⟨⟨⟨⟨⟨h0, h1⟩, h2⟩, h3⟩, h4⟩, h5⟩, h6⟩, h7⟩, h8⟩ := h
      rw [eqTgB_eq _ _ h0, h1, eqEsB_eq _ _ h2, eqEsB_eq _ _ h3, eqTgB_eq _ _ h4, h5, eqEsB_eq _ _ h6, eqEsB_eq _ _ h7, eqEB_eq _ _ h8]
    | _ => simp [eqEB] at h
  | .draw a0 a1 a2, b, h => by
    cases b with
    | draw b0 b1 b2 =>
      simp only [eqEB, Bool.and_eq_true, decide_eq_true_eq] at h
      obtain ⟨⟨h0, h1⟩, h2⟩ := h
      rw [h0, h1, eqEB_eq _ _ h2]
    | _ => simp [eqEB] at h
  | .dget a0 a1 a2, b, h => by
    cases b with
    | dget b0 b1 b2 =>
      simp only [eqEB, Bool.and_eq_true, decide_eq_true_eq] at h
      obtain ⟨⟨h0, h1⟩, h2⟩ := h
      rw [eqEB_eq _ _ h0, eqEB_eq _ _ h1, eqEsB_eq _ _ h2]
    | _ => simp [eqEB] at h
  | .index a0 a1, b, h => by
    cases b with
    | index b0 b1 =>
      simp only [eqEB, Bool.and_eq_true, decide_eq_true_eq] at h
      obtain ⟨h0, h1⟩ := h
      rw [eqEB_eq _ _ h0, eqEB_eq _ _ h1]
    | _ => simp [eqEB] at h
  | .join a0 a1, b, h => by
    cases b with
    | join b0 b1 =>
      simp only [eqEB, Bool.and_eq_true, decide_eq_true_eq] at h
      obtain ⟨h0, h1⟩ := h
      rw [eqEB_eq _ _ h0, eqEB_eq _ _ h1]
    | _ => simp [eqEB] at h
  | .dict a0 a1, b, h => by
    cases b with
    | dict b0 b1 =>
      simp only [eqEB, Bool.and_eq_true, decide_eq_true_eq] at h
      obtain ⟨h0, h1⟩ := h
      rw [eqEsB_eq _ _ h0, eqEsB_eq _ _ h1]
    | _ => simp [eqEB] at h
theorem eqEsB_eq : ∀ a b : List E, eqEsB a b = true → a = b
  | [], [], _ => rfl
  | a :: r, b :: s, h => by
    simp only [eqEsB, Bool.and_eq_true] at h
    rw [eqEB_eq _ _ h.1, eqEsB_eq _ _ h.2]
  | [], _ :: _, h => by simp [eqEsB] at h
  | _ :: _, [], h => by simp [eqEsB] at h
end
mutual
def eqSB : S → S → Bool
  | .asg a0 a1, .asg b0 b1 => eqTgB a0 b0 && eqEB a1 b1
  | .box a0 a1 a2, .box b0 b1 b2 => decide (a0 = b0) && decide (a1 = b1) && eqEB a2 b2
  | .par a0 a1, .par b0 b1 => decide (a0 = b0) && eqEsB a1 b1
  | .setix a0 a1 a2, .setix b0 b1 b2 => decide (a0 = b0) && eqEB a1 b1 && eqEB a2 b2
  | .app a0 a1, .app b0 b1 => decide (a0 = b0) && eqEB a1 b1
  | .popto a0 a1 a2, .popto b0 b1 b2 => eqTgB a0 b0 && decide (a1 = b1) && eqEsB a2 b2
  | .apppop a0 a1 a2, .apppop b0 b1 b2 => decide (a0 = b0) && decide (a1 = b1) && eqEsB a2 b2
  | .ifs a0 a1 a2, .ifs b0 b1 b2 => eqEB a0 b0 && eqSsB a1 b1 && eqSsB a2 b2
  | .whl a0 a1 a2, .whl b0 b1 b2 => decide (a0 = b0) && eqEB a1 b1 && eqSsB a2 b2
  | .forr a0 a1 a2 a3, .forr b0 b1 b2 b3 => eqTgB a0 b0 && decide (a1 = b1) && eqEsB a2 b2 && eqSsB a3 b3
  | .ret a0, .ret b0 => eqEB a0 b0
  | .retN , .retN  => true
  | .brk , .brk  => true
  | .cont , .cont  => true
  | .pass , .pass  => true
  | .drop a0, .drop b0 => eqEB a0 b0
  | .frz a0, .frz b0 => decide (a0 = b0)
  | _, _ => false
def eqSsB : List S → List S → Bool
  | [], [] => true
  | a :: r, b :: s => eqSB a b && eqSsB r s
  | _, _ => false
end
mutual
theorem eqSB_eq : ∀ a b : S, eqSB a b = true → a = b
  | .asg a0 a1, b, h => by
    cases b with
    | asg b0 b1 =>
      simp only [eqSB, Bool.and_eq_true, decide_eq_true_eq] at h
      obtain ⟨h0, h1⟩ := h
      rw [eqTgB_eq _ _ h0, eqEB_eq _ _ h1]
    | _ => simp [eqSB] at h
  | .box a0 a1 a2, b, h => by
    cases b with
    | box b0 b1 b2 =>
      simp only [eqSB, Bool.and_eq_true, decide_eq_true_eq] at h
      obtain ⟨⟨h0, h1⟩, h2⟩ := h
      rw [h0, h1, eqEB_eq _ _ h2]
    | _ => simp [eqSB] at h
  | .par a0 a1, b, h => by
    cases b with
    | par b0 b1 =>
      simp only [eqSB, Bool.and_eq_true, decide_eq_true_eq] at h
      obtain ⟨h0, h1⟩ := h
      rw [h0, eqEsB_eq _ _ h1]
    | _ => simp [eqSB] at h
  | .setix a0 a1 a2, b, h => by
    cases b with
    | setix b0 b1 b2 =>
      simp only [eqSB, Bool.and_eq_true, decide_eq_true_eq] at h
      obtain ⟨⟨h0, h1⟩, h2⟩ := h
      rw [h0, eqEB_eq _ _ h1, eqEB_eq _ _ h2]
    | _ => simp [eqSB] at h
  | .app a0 a1, b, h => by
    cases b with
    | app b0 b1 =>
      simp only [eqSB, Bool.and_eq_true, decide_eq_true_eq] at h
      obtain ⟨h0, h1⟩ := h
      rw [h0, eqEB_eq _ _ h1]
    | _ => simp [eqSB] at h
  | .popto a0 a1 a2, b, h => by
    cases b with
    | popto b0 b1 b2 =>
      simp only [eqSB, Bool.and_eq_true, decide_eq_true_eq] at h
      obtain ⟨⟨h0, h1⟩, h2⟩ := h
      rw [eqTgB_eq _ _ h0, h1, eqEsB_eq _ _ h2]
    | _ => simp [eqSB] at h
  | .apppop a0 a1 a2, b, h => by
    cases b with
    | apppop b0 b1 b2 =>
      simp only [eqSB, Bool.and_eq_true, decide_eq_true_eq] at h
      obtain ⟨⟨h0, h1⟩, h2⟩ := h
      rw [h0, h1, eqEsB_eq _ _ h2]
    | _ => simp [eqSB] at h
  | .ifs a0 a1 a2, b, h => by
    cases b with
    | ifs b0 b1 b2 =>
      simp only [eqSB, Bool.and_eq_true, decide_eq_true_eq] at h
      obtain ⟨⟨h0, h1⟩, h2⟩ := h
      rw [eqEB_eq _ _ h0, eqSsB_eq _ _ h1, eqSsB_eq _ _ h2]
    | _ => simp [eqSB] at h
  | .whl a0 a1 a2, b, h => by
    cases b with
    | whl b0 b1 b2 =>
      simp only [eqSB, Bool.and_eq_true, decide_eq_true_eq] at h
      obtain ⟨⟨h0, h1⟩, h2⟩ := h
      rw [h0, eqEB_eq _ _ h1, eqSsB_eq _ _ h2]
    | _ => simp [eqSB] at h
  | .forr a0 a1 a2 a3, b, h => by
    cases b with
    | forr b0 b1 b2 b3 =>
      simp only [eqSB, Bool.and_eq_true, decide_eq_true_eq] at h
      obtain ⟨⟨⟨h0, h1⟩, h2⟩, h3⟩ := h
      rw [eqTgB_eq _ _ h0, h1, eqEsB_eq _ _ h2, eqSsB_eq _ _ h3]
    | _ => simp [eqSB] at h
  | .ret a0, b, h => by
    cases b with
    | ret b0 =>
      simp only [eqSB, Bool.and_eq_true, decide_eq_true_eq] at h
      have h0 := h
      rw [eqEB_eq _ _ h0]
    | _ => simp [eqSB] at h
  | .retN , b, h => by
    cases b with
    | retN => rfl
    | _ => simp [eqSB] at h
  | .brk , b, h => by
    cases b with
    | brk => rfl
    | _ => simp [eqSB] at h
  | .cont , b, h => by
    cases b with
    | cont => rfl
    | _ => simp [eqSB] at h
  | .pass , b, h => by
    cases b with
    | pass => rfl
    | _ => simp [eqSB] at h
  | .drop a0, b, h => by
    cases b with
    | drop b0 =>
      simp only [eqSB, Bool.and_eq_true, decide_eq_true_eq] at h
      have h0 := h
      rw [eqEB_eq _ _ h0]
    | _ => simp [eqSB] at h
  | .frz a0, b, h => by
    cases b with
    | frz b0 =>
      simp only [eqSB, Bool.and_eq_true, decide_eq_true_eq] at h
      have h0 := h
      rw [h0]
    | _ => simp [eqSB] at h
theorem eqSsB_eq : ∀ a b : List S, eqSsB a b = true → a = b
  | [], [], _ => rfl
  | a :: r, b :: s, h => by
    simp only [eqSsB, Bool.and_eq_true] at h
    rw [eqSB_eq _ _ h.1, eqSsB_eq _ _ h.2]
  | [], _ :: _, h => by simp [eqSsB] at h
  | _ :: _, [], h => by simp [eqSsB] at h
end
def eqO (o : Option (List S)) (b : List S) : Bool := match o with
  | some a => eqSsB a b
  | none => false
theorem eqO_eq {o : Option (List S)} {b : List S} (h : eqO o b = true) : o = some b := by
  cases o with
  | none => cases h
  | some a => rw [eqSsB_eq a b h]
end FF

set_option Elab.async false
set_option linter.all false
set_option maxRecDepth 100000
set_option maxHeartbeats 8000000
/-! FF21: what stands behind the top, the law's def. -/
namespace FF
open PySem PySem.Spec PyProof.Rows L2
/-- a def of the text stands behind the top -/
def Stand (K : Fg) (mg : Str → Option Value) (x : Str) (st : Stmt) (ps : List Str) : Prop := ∃ f fd, Fun K x x st f fd ∧ mg x = some (.ref f) ∧ Binds K fd ps []
def Have (P : Program) (w : World) (K : Fg) (mg : Str → Option Value) (base : Heap) (lev : Nat) (x : Str) (n : Nat) (g : List Arg → T Rs) : Prop :=
  ∃ f fd ps, FnOk P w K mg base CX0 lev f fd ps (spF K n g) ∧ mg x = some (.ref f) ∧ PySem.W.keepIn K (.ref f) = true ∧ Binds K fd ps []
def HaveDr (P : Program) (w : World) (K : Fg) (mg : Str → Option Value) (base : Heap) (lev : Nat) : Prop :=
  ∃ f fd ps, FnOk P w K mg base CX0 lev f fd ps (spDraw K) ∧ mg "_law_draw" = some (.ref f) ∧ PySem.W.keepIn K (.ref f) = true ∧ Binds K fd ps []
section
variable {P : Program} {w : World} {K : Fg} {mg : Str → Option Value} {base : Heap} {lev : Nat}
theorem Have.mono {x : Str} {n : Nat} {g : List Arg → T Rs} {l2 : Nat} (h : Have P w K mg base lev x n g) (le : lev ≤ l2) : Have P w K mg base l2 x n g := by
  obtain ⟨f, fd, ps, a, b⟩ := h
  exact ⟨f, fd, ps, a.mono le, b⟩
theorem HaveDr.mono {l2 : Nat} (h : HaveDr P w K mg base lev) (le : lev ≤ l2) : HaveDr P w K mg base l2 := by
  obtain ⟨f, fd, ps, a, b⟩ := h
  exact ⟨f, fd, ps, a.mono le, b⟩
theorem stand_mk {h : Heap} {x : Str} {st : Stmt} {ps : List Str} (X : K.In h) (G : h.Ns mainGlobals mg) {f : Addr} {od an : Option Addr} {sl : Array (Option Value)} {oc kV dc pm cd ct : Value}
    (hb : ∀ (kV doc pm : Value) (an : Option Addr) (cdv ct : Value) (us : List Value), us.length = ps.length → bindArgs (PySem.W.fnOf x x (defArgs st) (defBody st) (defScope st) .none kV doc pm an cdv ct) ⟨us, []⟩ = pure (ps.zip us))
    (a : PySem.W.nsIn K mainGlobals x = some (some (.ref f))) (l : K.lookup f = some ⟨oc, od, .func (PySem.W.fnOf x x (defArgs st) (defBody st) (defScope st) .none kV dc pm an cd ct), sl⟩) (c : PySem.W.codeIn K cd x = true) (k : PySem.W.keepIn K (.ref f) = true) : Stand K mg x st ps :=
  ⟨f, _, fun_mk l c k, PySem.W.mg_of X G a, (fun_mk l c k).binds hb⟩
theorem have_err {x : Str} {st : Stmt} {ps : List Str} (F : Stand K mg x st ps) : Have P w K mg base 0 x ps.length (fun _ => .err) := by
  obtain ⟨f, fd, F, hm, hb⟩ := F
  refine ⟨f, fd, ps, ⟨fun vs H Q E h => h.1, fun A outer s H args us vs Q E hr e b v h => ?_⟩, hm, F.kp, hb⟩
  obtain ⟨_, _, _, _, _, _, z⟩ := h
  exact z.elim
theorem have_fn {x : Str} {st : Stmt} {ps : List Str} {n ex fuel : Nat} {c : Cfg} {Γ : Sem} {b : List S} (F : Stand K mg x st ps) (S : FnScope c.N ps (defScope st)) (hb : cSts c fuel n (defScope st) (defBody st) = some b) (hx : c.N.length = ps.length + ex) (X : Facts c Γ lev P w K mg base) :
    Have P w K mg base (lev + 1) x ps.length (run Γ b ex) := by
  obtain ⟨f, fd, F, hm, hbd⟩ := F
  exact ⟨f, fd, ps, fn_ok F S X hb hx, hm, F.kp, hbd⟩
/-- each name of the list is had -/
def Haves (P : Program) (w : World) (K : Fg) (mg : Str → Option Value) (base : Heap) (lev : Nat) (Γ : Sem) : List (Str × Nat × Nat) → Prop
  | [] => True
  | (x, k, n) :: r => Have P w K mg base lev x n (Γ k) ∧ Haves P w K mg base lev Γ r
theorem Haves.get {Γ : Sem} {x : Str} {k n : Nat} : ∀ {l : List (Str × Nat × Nat)}, Haves P w K mg base lev Γ l → l.lookup x = some (k, n) → Have P w K mg base lev x n (Γ k)
  | (y, j, m) :: r, h, e => by
    rw [List.lookup_cons] at e
    split at e
    · rename_i q
      cases e
      rw [eq_of_beq q]; exact h.1
    · exact Haves.get h.2 e
def Cons (K : Fg) (mg : Str → Option Value) : List (Str × Nat × D) → Prop
  | [] => True
  | (x, _, d) :: r => (∃ u v, mg x = some u ∧ RelV v u ∧ ∀ B H, Rep K B H d v) ∧ Cons K mg r
theorem Cons.get {x : Str} {k : Nat} {d : D} : ∀ {l : List (Str × Nat × D)}, Cons K mg l → l.lookup x = some (k, d) → ∃ u v, mg x = some u ∧ RelV v u ∧ ∀ B H, Rep K B H d v
  | (y, j, m) :: r, h, e => by
    rw [List.lookup_cons] at e
    split at e
    · rename_i q
      cases e
      rw [eq_of_beq q]; exact h.1
    · exact Cons.get h.2 e
def NoneAll (mg : Str → Option Value) : List Str → Prop
  | [] => True
  | x :: r => mg x = none ∧ NoneAll mg r
theorem NoneAll.get {x : Str} : ∀ {l : List Str}, NoneAll mg l → x ∈ l → mg x = none
  | y :: r, h, e => by
    rcases List.mem_cons.mp e with rfl | e
    · exact h.1
    · exact NoneAll.get h.2 e
theorem facts_mk {c : Cfg} {Γ : Sem} (hf : Haves P w K mg base lev Γ c.fns) (hc : Cons K mg c.cns) (hb : NoneAll mg biNames) (hg : c.gcd = true → mg "gcd" = some (.builtin "math.gcd")) (hd : HaveDr P w K mg base lev) : Facts c Γ lev P w K mg base :=
  ⟨fun x k n h => hf.get h, fun x k d h => hc.get h, fun x h => hb.get h, hg, hd⟩
/-- the law's promise -/
def spL (K : Fg) : Sp := fun vs H Q _ => ∃ w, vs = [w] ∧ Scr K H w ∧ ∀ H', Q (.bl true) H'
def IsT (r : Xs) : Prop := r.1 = .rt (.bl true, false)
def lawT (Γ : Sem) (b : List S) (n : Nat) : T Xs := execs Γ b (.scr :: .st :: List.replicate n .no)
theorem scr_of {H : Hp} {a : Addr} {ns : List Int} (hl : ns.length ≤ 63) (hO : Only H) (h : SqL K H a (ns.map V.int)) : Scr K H (.ref a) := by
  refine ⟨a, ns, rfl, hl, ?_⟩
  rcases h with (h | ⟨o, h⟩) | h
  · rcases hO a with z | ⟨o, xs, z⟩ <;> rw [h] at z <;> cases z
  · exact .inl ⟨o, h⟩
  · exact .inr fun _ => .inr h
theorem law_ok {w' : World} {x qual : Str} {st : Stmt} {f : Addr} {fd : FuncData} {k n ex fuel : Nat} {c : Cfg} {Γ : Sem} {b : List S} {rest : List Stmt} {px p1 p2 p3 pos : Pos} {k1 k2 : Nat} {N' : List Str}
    (F : Fun K x qual st f fd) (S : FnScope c.N ["script"] (defScope st)) (X : Facts c Γ k P w' K mg base) (hN : c.N = ("script" : Str) :: ("state" : Str) :: N') (hx : N'.length = ex) (hs : Loc (defScope st) ("state" : Str))
    (hB : defBody st = .Assign [.Name "state" px] (.List [.Constant (.int 0) k1 p1, .Constant (.int 0) k2 p2] p3) pos :: rest) (hb : cSts c fuel n (defScope st) rest = some b) (law : (lawT Γ b ex).all IsT) :
    FnOk P w' K mg base CX0 (k + 1) f fd ["script"] (spL K) := by
  refine Fun.ok F S (fun vs H Q E h => by obtain ⟨w, rfl, _⟩ := h; rfl) fun cdv A outer s H vs Q E room h => ?_
  obtain ⟨w, rfl, hw, q⟩ := h
  have g : GoodS c Γ k (defScope st) (cxOf CX0 P w' K mg base c.N qual (defScope st) f cdv A outer s H E).nox := ⟨⟨rfl, S.nd, rfl, S.kind, rfl, rfl, room, X⟩, fun _ => rfl⟩
  rw [hB]
  refine ⟨_, pss_cons (ps_set (i := 1) (e := .List [.Constant (.int 0) k1 p1, .Constant (.int 0) k2 p2] p3) S.nd (by show c.N[1]? = _; rw [hN]; rfl) hs (pe_lst (pa_cons pe_int (pa_cons pe_int pa_nil))) rfl (.inl rfl)) ((sndS_all n).b _ _ g _ b hb), ?_⟩
  refine ⟨by rw [sizeLine_eq]; decide, fun p hp => ?_⟩
  have hst : L2.start c.N [w] = some w :: none :: List.replicate ex none := by
    unfold L2.start
    rw [hN, List.length_cons, List.length_cons, hx]
    show some w :: List.replicate (ex + 1 + 1 - 1) none = _
    rw [Nat.add_sub_cancel, List.replicate_succ]
  rw [hst]
  have hsc := hw.ch (Ch.new (C := fun _ => False) (o := .lst [.int 0, .int 0]) hp)
  refine ⟨fun _ => False, some p, fun _ => none, .scr :: .st :: List.replicate ex .no, ⟨?_, fun i s e => ?_, fun i p z => (by cases z), fun i p z => (by cases z), fun i j p z => (by cases z), fun p z => z.elim, fun p _ z => z, fun q z => ?_⟩, T.all_mono (fun r hr => ?_) law⟩
  · show (List.replicate ex Slot.no).length + 1 + 1 = (List.replicate ex none).length + 1 + 1
    rw [List.length_replicate, List.length_replicate]
  · match i, e with
    | 0, e => cases e; exact ⟨w, rfl, hsc⟩
    | 1, e => cases e; exact ⟨p, rfl, rfl⟩
    | i + 2, e =>
      have e : (List.replicate ex Slot.no)[i]? = some s := e
      rw [List.getElem?_replicate] at e
      split at e
      · cases e; trivial
      · cases e
  · cases z
    exact ⟨0, 0, upd_same⟩
  · obtain ⟨f, ρ'⟩ := r
    have hr : f = .rt (.bl true, false) := hr
    subst hr
    intro v H' c1 t1 S1 ro
    have ro : v = .bl true := ro
    rw [ro]
    exact q H'
end
end FF

set_option Elab.async false
set_option linter.all false
set_option maxRecDepth 100000
set_option maxHeartbeats 8000000
/-! FF22: the def that compares exactly. -/
namespace FF
open PySem PySem.Spec PyProof.Rows L2
def i_exact (j : Nat) : List S :=
  [(.ifs (.tr (.isi (.v 0) [.tlist, .ttuple])) [(.ifs (.or2 (.cmp .ne (.isi (.v 0) [.tlist]) (.isi (.v 1) [.tlist])) (.cmp .ne (.isi (.v 0) [.ttuple]) (.isi (.v 1) [.ttuple]))) [(.ret (.c (.bl false)))] []),
    (.ret (.and2 (.cmp .eq (.bi .len [(.v 0)]) (.bi .len [(.v 1)])) (.bi .all [(.comp (.nm 2) .range [(.bi .len [(.v 0)])] [] (.call j [(.ix (.v 0) (.v 2)), (.ix (.v 1) (.v 2))]))])))] []),
    (.ifs (.or2 (.cmp .isN (.v 0) (.c .non)) (.cmp .isN (.v 1) (.c .non))) [(.ret (.and2 (.cmp .isN (.v 0) (.c .non)) (.cmp .isN (.v 1) (.c .non))))] []),
    (.box 3 false (.and2 (.cmp .eq (.isi (.v 0) [.tstr]) (.isi (.v 1) [.tstr])) (.cmp .eq (.isi (.v 0) [.tbool]) (.isi (.v 1) [.tbool])))),
    (.ret (.and2 (.v 3) (.and2 (.cmp .eq (.isi (.v 0) [.tint]) (.isi (.v 1) [.tint])) (.cmp .eq (.v 0) (.v 1)))))]
def r_exact (j : Nat) : Nat → List Arg → T Rs
  | 0 => fun _ => .err
  | n + 1 => run (fun k => if k = j then r_exact j n else fun _ => .err) (i_exact j) 2
section
variable {P : Program} {w : World} {K : Fg} {mg : Str → Option Value} {base : Heap} {lev : Nat}
theorem ok_exact (j : Nat) {st : Stmt} {c : Cfg} {n fuel : Nat} (F : Stand K mg "_law_exact" st ["first", "second"]) (Sc : FnScope c.N ["first", "second"] (defScope st)) (hb : cSts c fuel n (defScope st) (defBody st) = some (i_exact j)) (hN : c.N.length = 4) (hf : c.fns = [(("_law_exact" : Str), j, 2)]) (hc : c.cns = [] ∧ c.gcd = false)
    (nn : NoneAll mg biNames) (hd : HaveDr P w K mg base 2) : ∀ m, Have P w K mg base (2 + m) "_law_exact" 2 (r_exact j m)
  | 0 => (have_err F).mono (by omega)
  | m + 1 => by
    have ih := ok_exact j F Sc hb hN hf hc nn hd m
    refine have_fn F Sc hb hN (facts_mk (by rw [hf]; exact ⟨by dsimp only; rw [if_pos rfl]; exact ih, trivial⟩) (by rw [hc.1]; trivial) nn (fun h => by rw [hc.2] at h; cases h) (hd.mono (Nat.le_add_right 2 m)))
end
mutual
/-- alike -/
def sq : D → D → Bool
  | .non, .non => true
  | .bl a, .bl b => a == b
  | .int i, .int j => i == j
  | .str s, .str t => s == t
  | .lst xs, .lst ys => sqs xs ys
  | .tup xs, .tup ys => sqs xs ys
  | _, _ => false
def sqs : List D → List D → Bool
  | [], [] => true
  | x :: xs, y :: ys => sq x y && sqs xs ys
  | _, _ => false
end
mutual
/-- of depth below n, small -/
def sz : Nat → D → Bool
  | n + 1, .lst xs => decide (xs.length ≤ 1000000) && szs n xs
  | n + 1, .tup xs => decide (xs.length ≤ 1000000) && szs n xs
  | _ + 1, .str s => s.all (· < 1114112)
  | _ + 1, .non => true
  | _ + 1, .bl _ => true
  | _ + 1, .int _ => true
  | _, _ => false
def szs : Nat → List D → Bool
  | _, [] => true
  | n, x :: xs => sz n x && szs n xs
end
theorem sqs_len : ∀ {xs ys : List D}, sqs xs ys = true → ys.length = xs.length
  | [], [], _ => rfl
  | _ :: _, _ :: _, h => by
    simp only [sqs, Bool.and_eq_true] at h
    rw [List.length_cons, List.length_cons, sqs_len h.2]
  | [], _ :: _, h => by simp [sqs] at h
  | _ :: _, [], h => by simp [sqs] at h
theorem sqs_get : ∀ {xs ys : List D} {i : Nat}, sqs xs ys = true → i < xs.length → ∃ x y, xs[i]? = some x ∧ ys[i]? = some y ∧ sq x y = true
  | [], _, i, _, h => by simp at h
  | x :: xs, [], i, h, _ => by simp [sqs] at h
  | x :: xs, y :: ys, 0, h, _ => by
    simp only [sqs, Bool.and_eq_true] at h
    exact ⟨x, y, rfl, rfl, h.1⟩
  | x :: xs, y :: ys, i + 1, h, hi => by
    simp only [sqs, Bool.and_eq_true] at h
    obtain ⟨a, b, h1, h2, h3⟩ := sqs_get (i := i) h.2 (by simpa using hi)
    exact ⟨a, b, by simpa using h1, by simpa using h2, h3⟩
theorem szs_get {n : Nat} : ∀ {xs : List D} {i : Nat} {x : D}, szs n xs = true → xs[i]? = some x → sz n x = true
  | [], i, x, _, h => by simp at h
  | y :: xs, 0, x, h, e => by
    simp only [szs, Bool.and_eq_true] at h
    simp at e; subst e; exact h.1
  | y :: xs, i + 1, x, h, e => by
    simp only [szs, Bool.and_eq_true] at h
    exact szs_get (i := i) h.2 (by simpa using e)
theorem compL_const {f : D → T (Option D)} {y : D} : ∀ {xs : List D}, (∀ x, x ∈ xs → f x = .ret (some y)) → compL f xs = .ret (List.replicate xs.length y)
  | [], _ => rfl
  | x :: xs, h => by
    rw [compL, h x List.mem_cons_self, compL_const fun z m => h z (List.mem_cons_of_mem _ m)]
    rfl
theorem mem_rangeL : ∀ {n : Nat} {lo : Int} {x : D}, x ∈ rangeL n lo → ∃ k : Nat, k < n ∧ x = .int (lo + k)
  | 0, _, _, h => by cases h
  | n + 1, lo, x, h => by
    rw [rangeL] at h
    rcases List.mem_cons.mp h with rfl | h
    · exact ⟨0, by omega, by simp⟩
    · obtain ⟨k, hk, rfl⟩ := mem_rangeL h
      exact ⟨k + 1, by omega, by congr 1; omega⟩
theorem len_rangeL : ∀ {n : Nat} {lo : Int}, (rangeL n lo).length = n
  | 0, _ => rfl
  | n + 1, lo => by rw [rangeL, List.length_cons, len_rangeL]
theorem bls_true : ∀ n, blsOf (List.replicate n (.bl true)) = some (List.replicate n true)
  | 0 => rfl
  | n + 1 => by rw [List.replicate_succ, blsOf, bls_true n]; rfl
theorem all_true (n : Nat) : (List.replicate n true).all id = true := by simp [List.all_replicate]
theorem rng_ok {n : Nat} (h : n ≤ 1000000) : rng2 0 (n : Int) = some (rangeL n 0) := by
  have e : ((n : Int) - 0).toNat = n := by omega
  unfold rng2
  rw [e, if_pos]
  refine ⟨by omega, by omega, by omega, by omega, ?_⟩
  unfold line
  omega
theorem exact_turn (j m : Nat) {xs ys : List D} {k : Nat} {u v s0 s1 : D} (hs : (s0 = .lst xs ∧ s1 = .lst ys) ∨ (s0 = .tup xs ∧ s1 = .tup ys)) (h1 : xs[k]? = some u) (h2 : ys[k]? = some v) (hc : r_exact j m [.d u, .d v] = .ret (.bl true, false)) :
    ((T.ofO (asgT (.nm 2) (.int (0 + (k : Int))) (wipeE [.pl s0, .pl s1, .no, .no] (tgS (.nm 2))))).bind fun ρ' => (evC (fun k => if k = j then r_exact j m else fun _ => .err) [] ρ').bind fun b =>
        cond b ((ev (fun k => if k = j then r_exact j m else fun _ => .err) (.call j [(.ix (.v 0) (.v 2)), (.ix (.v 1) (.v 2))]) false ρ').bind fun y => .ret (some y.1)) (.ret none)) = T.ret (some (.bl true)) := by
  have e1 : ixAt xs (0 + (k : Int)) = some u := by
    unfold ixAt
    rw [if_pos (by omega), show (0 + (k : Int)).toNat = k by omega]; exact h1
  have e2 : ixAt ys (0 + (k : Int)) = some v := by
    unfold ixAt
    rw [if_pos (by omega), show (0 + (k : Int)).toNat = k by omega]; exact h2
  have g0 : (fun k => if k = j then r_exact j m else fun _ => T.err) j = r_exact j m := if_pos rfl
  have step : ∀ (ρ : Env) , ρ = [.pl s0, .pl s1, .pl (.int (0 + (k : Int))), .no] → ev (fun k => if k = j then r_exact j m else fun _ => .err) (.call j [(.ix (.v 0) (.v 2)), (.ix (.v 1) (.v 2))]) false ρ = .ret (.bl true, false) := fun ρ e => by
    subst e
    rcases hs with ⟨rfl, rfl⟩ | ⟨rfl, rfl⟩
    · show (((T.ofO ((ixAt xs (0 + (k : Int))).map fun d => (d, false))).bind fun x => (((T.ofO ((ixAt ys (0 + (k : Int))).map fun d => (d, false))).bind fun y => T.ret [Arg.d y.1]).bind fun r => T.ret (Arg.d x.1 :: r)))).bind _ = _
      rw [e1, e2]
      show (fun k => if k = j then r_exact j m else fun _ => T.err) j [.d u, .d v] = _
      rw [g0, hc]
    · show (((T.ofO ((ixAt xs (0 + (k : Int))).map fun d => (d, false))).bind fun x => (((T.ofO ((ixAt ys (0 + (k : Int))).map fun d => (d, false))).bind fun y => T.ret [Arg.d y.1]).bind fun r => T.ret (Arg.d x.1 :: r)))).bind _ = _
      rw [e1, e2]
      show (fun k => if k = j then r_exact j m else fun _ => T.err) j [.d u, .d v] = _
      rw [g0, hc]
  show (ev _ (.call j [(.ix (.v 0) (.v 2)), (.ix (.v 1) (.v 2))]) false [.pl s0, .pl s1, .pl (.int (0 + (k : Int))), .no]).bind _ = _
  rw [step _ rfl]
  rfl
theorem compL_map {f : D → T (Option D)} {g : D → D} : ∀ {xs : List D}, (∀ x, x ∈ xs → f x = .ret (some (g x))) → compL f xs = .ret (xs.map g)
  | [], _ => rfl
  | x :: xs, h => by
    rw [compL, h x List.mem_cons_self, compL_map fun z m => h z (List.mem_cons_of_mem _ m)]
    rfl
theorem ev_comp {Γ : Sem} {t : Tg} {sk : Sk} {ses cs : List E} {e : E} {m : Bool} {ρ : Env} {xs its : List D} {g : D → D} (h1 : evS Γ ses ρ = .ret xs) (h2 : srcD sk xs = some its)
    (h3 : ∀ x, x ∈ its → ((T.ofO (asgT t x (wipeE ρ (tgS t)))).bind fun ρ' => (evC Γ cs ρ').bind fun b => cond b ((ev Γ e false ρ').bind fun y => .ret (some y.1)) (.ret none)) = .ret (some (g x))) : ev Γ (.comp t sk ses cs e) m ρ = .ret (.lst (its.map g), true) := by
  rw [ev, h1]
  show (T.ofO (srcD sk xs)).bind _ = _
  rw [h2]
  show (compL _ its).bind _ = _
  rw [compL_map h3]
  rfl
theorem map_const {y : D} : ∀ {xs : List D}, xs.map (fun _ => y) = List.replicate xs.length y
  | [] => rfl
  | _ :: xs => by rw [List.map_cons, map_const]; rfl
theorem exact_seq (j m : Nat) {a b : D} {xs ys : List D} (same : (a = .lst xs ∧ b = .lst ys) ∨ (a = .tup xs ∧ b = .tup ys)) (hs : sqs xs ys = true) (hl : xs.length ≤ 1000000)
    (ih : ∀ (x y : D) (i : Nat), xs[i]? = some x → ys[i]? = some y → sq x y = true → r_exact j m [.d x, .d y] = .ret (.bl true, false)) : r_exact j (m + 1) [.d a, .d b] = .ret (.bl true, false) := by
  have hlen := sqs_len hs
  have hr : rng2 0 (xs.length : Int) = some (rangeL xs.length 0) := rng_ok hl
  have hd : decide ((xs.length : Int) = (xs.length : Int)) = true := decide_eq_true rfl
  have comp : ev (fun k => if k = j then r_exact j m else fun _ => .err) (.comp (.nm 2) .range [(.bi .len [(.v 0)])] [] (.call j [(.ix (.v 0) (.v 2)), (.ix (.v 1) (.v 2))])) true [.pl a, .pl b, .no, .no] = .ret (.lst (List.replicate xs.length (.bl true)), true) := by
    have := ev_comp (Γ := fun k => if k = j then r_exact j m else fun _ => .err) (t := .nm 2) (sk := .range) (ses := [(.bi .len [(.v 0)])]) (cs := []) (e := .call j [(.ix (.v 0) (.v 2)), (.ix (.v 1) (.v 2))]) (m := true) (ρ := [.pl a, .pl b, .no, .no]) (xs := [.int xs.length]) (its := rangeL xs.length 0) (g := fun _ => .bl true)
      (by rcases same with ⟨rfl, rfl⟩ | ⟨rfl, rfl⟩ <;> rfl) (by rw [srcD]; exact hr) (fun x hx => by
        obtain ⟨k, hk, rfl⟩ := mem_rangeL hx
        obtain ⟨u, v, h1, h2, h3⟩ := sqs_get hs hk
        exact exact_turn j m same h1 h2 (ih u v k h1 h2 h3))
    rw [this, map_const, len_rangeL]
  have last : ev (fun k => if k = j then r_exact j m else fun _ => .err) (.bi .all [(.comp (.nm 2) .range [(.bi .len [(.v 0)])] [] (.call j [(.ix (.v 0) (.v 2)), (.ix (.v 1) (.v 2))]))]) false [.pl a, .pl b, .no, .no] = .ret (.bl true, false) := by
    rw [ev, evs, comp]
    show T.ofO ((blsOf (List.replicate xs.length (.bl true))).map fun bs => (D.bl (bs.all id), false)) = _
    rw [bls_true]
    show T.ret (D.bl ((List.replicate xs.length true).all id), false) = _
    rw [all_true]
  have whole : ev (fun k => if k = j then r_exact j m else fun _ => .err) (.and2 (.cmp .eq (.bi .len [(.v 0)]) (.bi .len [(.v 1)])) (.bi .all [(.comp (.nm 2) .range [(.bi .len [(.v 0)])] [] (.call j [(.ix (.v 0) (.v 2)), (.ix (.v 1) (.v 2))]))])) false [.pl a, .pl b, .no, .no] = .ret (.bl true, false) := by
    rw [ev]
    have f1 : blT (ev (fun k => if k = j then r_exact j m else fun _ => .err) (.cmp .eq (.bi .len [(.v 0)]) (.bi .len [(.v 1)])) true [.pl a, .pl b, .no, .no]) = .ret true := by
      have : T.ret (decide ((xs.length : Int) = (ys.length : Int))) = (T.ret true : T Bool) := by rw [hlen, hd]
      rcases same with ⟨rfl, rfl⟩ | ⟨rfl, rfl⟩ <;> exact this
    rw [f1]
    exact last
  have c1 : blT (ev (fun k => if k = j then r_exact j m else fun _ => .err) (.tr (.isi (.v 0) [.tlist, .ttuple])) true [.pl a, .pl b, .no, .no]) = .ret true := by rcases same with ⟨rfl, rfl⟩ | ⟨rfl, rfl⟩ <;> rfl
  have c2 : blT (ev (fun k => if k = j then r_exact j m else fun _ => .err) (.or2 (.cmp .ne (.isi (.v 0) [.tlist]) (.isi (.v 1) [.tlist])) (.cmp .ne (.isi (.v 0) [.ttuple]) (.isi (.v 1) [.ttuple]))) true [.pl a, .pl b, .no, .no]) = .ret false := by rcases same with ⟨rfl, rfl⟩ | ⟨rfl, rfl⟩ <;> rfl
  rw [r_exact, run, i_exact]
  have e0 : bindA [.d a, .d b] ++ List.replicate 2 Slot.no = [.pl a, .pl b, .no, .no] := rfl
  rw [e0, execs, exec, c1]
  simp only [T.bind, cond_true]
  rw [execs, exec, c2]
  simp only [T.bind, cond_false]
  rw [execs]
  simp only [T.bind]
  rw [execs, exec, evRet]
  · rw [whole]
    rfl
  · intro i z; cases z
theorem exact_ok (j : Nat) : ∀ (m : Nat) (a b : D), sq a b = true → sz m a = true → r_exact j m [.d a, .d b] = .ret (.bl true, false)
  | 0, a, _, _, h => by cases a <;> simp [sz] at h
  | m + 1, a, b, hs, h => by
    have seq : ∀ xs ys : List D, szs m xs = true → ∀ (x y : D) (i : Nat), xs[i]? = some x → ys[i]? = some y → sq x y = true → r_exact j m [.d x, .d y] = .ret (.bl true, false) := fun xs ys hz x y i hx hy h3 =>
      exact_ok j m x y h3 (szs_get hz hx)
    cases a with
    | lst xs =>
      cases b with
      | lst ys =>
        simp only [sz, Bool.and_eq_true, decide_eq_true_eq] at h
        exact exact_seq j m (.inl ⟨rfl, rfl⟩) (by simpa [sq] using hs) h.1 (seq xs ys h.2)
      | _ => simp [sq] at hs
    | tup xs =>
      cases b with
      | tup ys =>
        simp only [sz, Bool.and_eq_true, decide_eq_true_eq] at h
        exact exact_seq j m (.inr ⟨rfl, rfl⟩) (by simpa [sq] using hs) h.1 (seq xs ys h.2)
      | _ => simp [sq] at hs
    | non =>
      cases b with
      | non => simp [r_exact, run, i_exact, bindA, List.replicate, execs, exec, evRet, ev, evs, rd, T.ofO, T.bind, blT, tyD, allTy, cmpD, truth, isNon]
      | _ => simp [sq] at hs
    | bl p =>
      cases b with
      | bl q =>
        have : p = q := by simpa [sq] using hs
        subst this
        simp [r_exact, run, i_exact, bindA, List.replicate, execs, exec, evRet, ev, evs, rd, T.ofO, T.bind, blT, tyD, allTy, cmpD, truth, isNon, setS, boxS, eqT, flat, eqD]
      | _ => simp [sq] at hs
    | int p =>
      cases b with
      | int q =>
        have : p = q := by simpa [sq] using hs
        subst this
        simp [r_exact, run, i_exact, bindA, List.replicate, execs, exec, evRet, ev, evs, rd, T.ofO, T.bind, blT, tyD, allTy, cmpD, truth, isNon, setS, boxS, eqT, flat, eqD]
      | _ => simp [sq] at hs
    | str s =>
      cases b with
      | str t =>
        have : s = t := by simpa [sq] using hs
        subst this
        simp only [sz] at h
        simp [r_exact, run, i_exact, bindA, List.replicate, execs, exec, evRet, ev, evs, rd, T.ofO, T.bind, blT, tyD, allTy, cmpD, truth, isNon, setS, boxS, eqT, flat, eqD, h]
      | _ => simp [sq] at hs
    | dic _ _ => simp [sz] at h
mutual
theorem sq_refl : ∀ {m : Nat} (a : D), sz m a = true → sq a a = true
  | _, .non, _ => rfl
  | _, .bl _, _ => by simp [sq]
  | _, .int _, _ => by simp [sq]
  | _, .str _, _ => by simp [sq]
  | m + 1, .lst xs, h => by
    simp only [sz, Bool.and_eq_true] at h
    simp only [sq]; exact sqs_refl xs h.2
  | m + 1, .tup xs, h => by
    simp only [sz, Bool.and_eq_true] at h
    simp only [sq]; exact sqs_refl xs h.2
  | 0, .lst _, h => by simp [sz] at h
  | 0, .tup _, h => by simp [sz] at h
  | 0, .dic _ _, h => by simp [sz] at h
  | _ + 1, .dic _ _, h => by simp [sz] at h
theorem sqs_refl : ∀ {m : Nat} (xs : List D), szs m xs = true → sqs xs xs = true
  | _, [], _ => rfl
  | m, x :: xs, h => by
    simp only [szs, Bool.and_eq_true] at h
    simp only [sqs, sq_refl x h.1, sqs_refl xs h.2, Bool.and_self]
end
theorem exact_self (j m : Nat) (a : D) (h : sz m a = true) : r_exact j m [.d a, .d a] = .ret (.bl true, false) := exact_ok j m a a (sq_refl a h) h
end FF

set_option Elab.async false
set_option linter.all false
set_option maxRecDepth 100000
set_option maxHeartbeats 8000000
/-! FF23: steps of evaluation. -/
namespace FF
theorem b_ret {α β : Type} {a : α} {f : α → T β} : (T.ret a).bind f = f a := rfl
theorem o_some {α : Type} {a : α} : T.ofO (some a) = T.ret a := rfl
theorem k_add {i j : Int} : binD .add (.int i) (.int j) = some (.int (i + j), false) := rfl
theorem k_sub {i j : Int} : binD .sub (.int i) (.int j) = some (.int (i - j), false) := rfl
/-- of at most n bits -/
class Sm (n : outParam Nat) (i : Int) : Prop where
  lt : i.natAbs < 2 ^ n
theorem nb_le {i : Int} {n : Nat} (h : i.natAbs < 2 ^ n) (h0 : 0 < n) : nb i ≤ n := by
  unfold nb
  by_cases q : i.natAbs = 0
  · rw [q]; exact h0
  · exact Nat.succ_le_of_lt ((Nat.log2_lt q).mpr h)
theorem k_mul {i j : Int} {m n : Nat} [a : Sm m i] [b : Sm n j] (h : m + n ≤ 100000000) : binD .mul (.int i) (.int j) = some (.int (i * j), false) := by
  simp only [binD]
  have h1 : nb i ≤ m + 1 := nb_le (Nat.lt_of_lt_of_le a.lt (Nat.pow_le_pow_right (by decide) (Nat.le_succ m))) (Nat.succ_pos m)
  have h2 : nb j ≤ n + 1 := nb_le (Nat.lt_of_lt_of_le b.lt (Nat.pow_le_pow_right (by decide) (Nat.le_succ n))) (Nat.succ_pos n)
  rw [if_pos (.inr (.inr (by unfold wide; omega)))]
theorem k_ixl {xs : List D} {i : Int} : ixD (.lst xs) (.int i) = ixAt xs i := rfl
theorem k_ixt {xs : List D} {i : Int} : ixD (.tup xs) (.int i) = ixAt xs i := rfl
theorem map_some {α β : Type} {f : α → β} {a : α} : Option.map f (some a) = some (f a) := rfl
theorem obind_some {α β : Type} {f : α → Option β} {a : α} : Option.bind (some a) f = f a := rfl
theorem ix_0 {α : Type} {a : α} {r : List α} : ixAt (a :: r) 0 = some a := rfl
theorem ix_1 {α : Type} {a b : α} {r : List α} : ixAt (a :: b :: r) 1 = some b := rfl
theorem ix_2 {α : Type} {a b c : α} {r : List α} : ixAt (a :: b :: c :: r) 2 = some c := rfl
theorem ix_3 {α : Type} {a b c d : α} {r : List α} : ixAt (a :: b :: c :: d :: r) 3 = some d := rfl

section
variable {Γ : Sem} {m : Bool} {s : Slot} {ρ : Env}
theorem rd_0 {d : D} : rd m (.pl d :: ρ) 0 = some d := rfl
theorem rd_b {d : D} : rd true (.bx d :: ρ) 0 = some d := rfl
theorem rd_l {d : D} : rd true (.lk d :: ρ) 0 = some d := rfl
theorem rd_s {i : Nat} : rd m (s :: ρ) (i + 1) = rd m ρ i := rfl
theorem own_0 {d : D} : ownAt (.bx d :: ρ) 0 = some d := rfl
theorem own_p {d : D} : ownAt (.pl d :: ρ) 0 = none := rfl
theorem own_s {i : Nat} : ownAt (s :: ρ) (i + 1) = ownAt ρ i := rfl
theorem e_c {d : D} : ev Γ (.c d) m (s :: ρ) = .ret (d, false) := by rw [ev]
theorem e_g {k : Nat} {d : D} : ev Γ (.g k d) m (s :: ρ) = .ret (d, false) := by rw [ev]
theorem e_v {i : Nat} : ev Γ (.v i) m (s :: ρ) = T.ofO ((rd m (s :: ρ) i).map fun d => (d, false)) := by rw [ev]
theorem e_bin {o : Bop} {a b : E} : ev Γ (.bin o a b) m (s :: ρ) = (ev Γ a true (s :: ρ)).bind fun x => (ev Γ b true (s :: ρ)).bind fun y => T.ofO (binD o x.1 y.1) := by rw [ev]
def negD : D → Option Rs
  | .int i => some (.int (-i), false)
  | _ => none
theorem neg_i {i : Int} : negD (.int i) = some (.int (-i), false) := rfl
theorem e_neg {a : E} : ev Γ (.neg a) m (s :: ρ) = (ev Γ a true (s :: ρ)).bind fun x => T.ofO (negD x.1) := by
  rw [ev]
  congr 1
  funext x
  obtain ⟨d, f⟩ := x
  cases d <;> rfl
theorem e_cmp {o : Cop} {a b : E} : ev Γ (.cmp o a b) m (s :: ρ) = (ev Γ a true (s :: ρ)).bind fun x => (ev Γ b true (s :: ρ)).bind fun y => T.ofO ((cmpD o x.1 y.1).map fun r => (.bl r, false)) := by rw [ev]
theorem e_chain {o p : Cop} {a b c : E} : ev Γ (.chain o p a b c) m (s :: ρ) = (ev Γ a true (s :: ρ)).bind fun x => (ev Γ b true (s :: ρ)).bind fun y => (T.ofO (cmpD o x.1 y.1)).bind fun r =>
      cond r ((ev Γ c true (s :: ρ)).bind fun z => T.ofO ((cmpD p y.1 z.1).map fun r => (.bl r, false))) (.ret (.bl false, false)) := by rw [ev]
theorem e_nt {a : E} : ev Γ (.nt a) m (s :: ρ) = (blT (ev Γ a true (s :: ρ))).bind fun b => .ret (.bl (!b), false) := by rw [ev]
theorem e_and {a b : E} : ev Γ (.and2 a b) m (s :: ρ) = (blT (ev Γ a true (s :: ρ))).bind fun x => cond x (ev Γ b m (s :: ρ)) (.ret (.bl false, false)) := by rw [ev]
theorem e_or {a b : E} : ev Γ (.or2 a b) m (s :: ρ) = (blT (ev Γ a true (s :: ρ))).bind fun x => cond x (.ret (.bl true, false)) (ev Γ b m (s :: ρ)) := by rw [ev]
theorem e_tr {a : E} : ev Γ (.tr a) m (s :: ρ) = (ev Γ a true (s :: ρ)).bind fun x => T.ofO ((truth x.1).map fun b => (.bl b, false)) := by rw [ev]
theorem e_ite {c a b : E} : ev Γ (.ite c a b) m (s :: ρ) = (blT (ev Γ c true (s :: ρ))).bind fun x => cond x (ev Γ a m (s :: ρ)) (ev Γ b m (s :: ρ)) := by rw [ev]
theorem e_tup {es : List E} : ev Γ (.tup es) m (s :: ρ) = (evs Γ es false (s :: ρ)).bind fun xs => .ret (.tup xs, false) := by rw [ev]
theorem e_lst {es : List E} : ev Γ (.lst es) m (s :: ρ) = (evs Γ es false (s :: ρ)).bind fun xs => .ret (.lst xs, true) := by rw [ev]
theorem e_ix {a i : E} : ev Γ (.ix a i) m (s :: ρ) = (ev Γ a true (s :: ρ)).bind fun x => (ev Γ i true (s :: ρ)).bind fun y => T.ofO ((ixD x.1 y.1).map fun d => (d, false)) := by rw [ev]
theorem e_sl {a : E} {lo hi : List E} : ev Γ (.sl a lo hi) m (s :: ρ) = (ev Γ a true (s :: ρ)).bind fun x => ((evs Γ lo true (s :: ρ)).bind fun l => T.ofO (oneI l)).bind fun i => ((evs Γ hi true (s :: ρ)).bind fun h => T.ofO (oneI h)).bind fun j => T.ofO (slD x.1 i j) := by rw [ev]
theorem e_rev {a : E} : ev Γ (.rev a) m (s :: ρ) = (ev Γ a true (s :: ρ)).bind fun x => T.ofO (revD x.1) := by rw [ev]
theorem e_call {k : Nat} {es : List E} : ev Γ (.call k es) m (s :: ρ) = (evA Γ es (s :: ρ)).bind fun xs => Γ k xs := by rw [ev]
theorem e_bi {b : Bi} {es : List E} : ev Γ (.bi b es) m (s :: ρ) = (evs Γ es true (s :: ρ)).bind fun xs => T.ofO (biD b xs) := by rw [ev]
theorem e_isi {a : E} {ts : List Ty} : ev Γ (.isi a ts) m (s :: ρ) = (ev Γ a true (s :: ρ)).bind fun x => .ret (.bl (allTy x.1 ts), false) := by rw [ev]
theorem e_draw {i j : Nat} {e : E} : ev Γ (.draw i j e) m (s :: ρ) = (ev Γ e true (s :: ρ)).bind fun x => drawT (s :: ρ) i j x.1 := by rw [ev]
/-- a comprehension's turn -/
def turnC (Γ : Sem) (t : Tg) (cs : List E) (e : E) (ρ : Env) (x : D) : T (Option D) := (T.ofO (asgT t x (wipeE ρ (tgS t)))).bind fun ρ' => (evC Γ cs ρ').bind fun b => cond b ((ev Γ e false ρ').bind fun y => .ret (some y.1)) (.ret none)
theorem e_comp {t : Tg} {sk : Sk} {ses cs : List E} {e : E} : ev Γ (.comp t sk ses cs e) m (s :: ρ) = (evS Γ ses (s :: ρ)).bind fun xs => (T.ofO (srcD sk xs)).bind fun its => (compL (turnC Γ t cs e (s :: ρ)) its).bind fun r => .ret (.lst r, true) := by rw [ev]; rfl
theorem turn_cons {t : Tg} {cs : List E} {e : E} {x : D} {its : List D} : compL (turnC Γ t cs e (s :: ρ)) (x :: its) = ((T.ofO (asgT t x (wipeE (s :: ρ) (tgS t)))).bind fun ρ' => (evC Γ cs ρ').bind fun b => cond b ((ev Γ e false ρ').bind fun y => .ret (some y.1)) (.ret none)).bind fun o =>
    (compL (turnC Γ t cs e (s :: ρ)) its).bind fun r => .ret (match o with | some y => y :: r | none => r) := rfl
theorem turn_nil {t : Tg} {cs : List E} {e : E} : compL (turnC Γ t cs e (s :: ρ)) [] = .ret [] := rfl
theorem es_nil : evs Γ [] m (s :: ρ) = .ret [] := by rw [evs]
theorem es_cons {e : E} {es : List E} : evs Γ (e :: es) m (s :: ρ) = (ev Γ e m (s :: ρ)).bind fun x => (evs Γ es m (s :: ρ)).bind fun xs => .ret (x.1 :: xs) := by rw [evs]
theorem eS_nil : evS Γ [] (s :: ρ) = .ret [] := by rw [evS]
theorem eS_cons {e : E} {es : List E} : evS Γ (e :: es) (s :: ρ) = (ev Γ e (isV e) (s :: ρ)).bind fun x => (evS Γ es (s :: ρ)).bind fun xs => .ret (x.1 :: xs) := by rw [evS]
theorem eC_nil : evC Γ [] (s :: ρ) = .ret true := by rw [evC]
theorem eC_cons {e : E} {es : List E} : evC Γ (e :: es) (s :: ρ) = (blT (ev Γ e true (s :: ρ))).bind fun b => cond b (evC Γ es (s :: ρ)) (.ret false) := by rw [evC]
theorem eA_nil : evA Γ [] (s :: ρ) = .ret [] := by rw [evA]
/-- an argument -/
def argT (Γ : Sem) (e : E) (ρ : Env) : T FF.Arg := match e with
  | .v i => match ρ[i]? with
    | some .st => .ret .st
    | some .scr => .ret .scr
    | _ => (ev Γ (.v i) false ρ).bind fun x => .ret (.d x.1)
  | e => (ev Γ e false ρ).bind fun x => .ret (.d x.1)
theorem bind_assoc {α β γ : Type} {f : α → T β} {g : β → T γ} : ∀ {t : T α}, (t.bind f).bind g = t.bind fun x => (f x).bind g
  | .ret _ => rfl
  | .err => rfl
  | .drw n k => by
    show T.drw n _ = T.drw n _
    congr 1
    funext d
    exact bind_assoc
theorem eA_cons {e : E} {es : List E} : evA Γ (e :: es) (s :: ρ) = (argT Γ e (s :: ρ)).bind fun a => (evA Γ es (s :: ρ)).bind fun xs => .ret (a :: xs) := by
  cases hv : isV e with
  | false => rw [evA_eq hv]; unfold argT; cases e <;> first | (cases hv; done) | (dsimp only; rw [bind_assoc]; rfl)
  | true =>
    cases e with
    | v i =>
      rw [evA]; unfold argT; dsimp only
      generalize (s :: ρ)[i]? = q
      cases q with
      | none => dsimp only; rw [bind_assoc]; rfl
      | some w => cases w <;> first | rfl | (dsimp only; rw [bind_assoc]; rfl)
    | _ => cases hv
theorem arg_st {i : Nat} : argT Γ (.v i) ρ = (match ρ[i]? with | some .st => .ret .st | some .scr => .ret .scr | _ => T.ofO ((rd false ρ i).map fun d => .d d)) := by
  unfold argT
  dsimp only
  split
  · rfl
  · rfl
  · rw [ev]
    cases rd false ρ i <;> rfl
theorem bl_ret {b : Bool} {f : Bool} : blT (.ret (.bl b, f)) = .ret b := rfl
/-! statements -/
theorem x_nil : execs Γ [] (s :: ρ) = .ret (.nx, s :: ρ) := by rw [execs]
def thenT (t : T Xs) (f : Env → T Xs) : T Xs := t.bind fun r => match r.1 with
    | .nx => f r.2
    | _ => .ret r
theorem then_nx {ρ : Env} {f : Env → T Xs} : thenT (.ret (.nx, ρ)) f = f ρ := rfl
theorem then_rt {ρ : Env} {f : Env → T Xs} {r : Rs} : thenT (.ret (.rt r, ρ)) f = .ret (.rt r, ρ) := rfl
theorem then_ct {ρ : Env} {f : Env → T Xs} : thenT (.ret (.ct, ρ)) f = .ret (.ct, ρ) := rfl
theorem then_bk {ρ : Env} {f : Env → T Xs} : thenT (.ret (.bk, ρ)) f = .ret (.bk, ρ) := rfl
theorem x_cns {a : S} {as : List S} : execs Γ (a :: as) (s :: ρ) = thenT (exec Γ a (s :: ρ)) fun ρ => execs Γ as ρ := by rw [execs]; rfl
theorem x_bx {i : Nat} {b : Bool} {e : E} : exec Γ (.box i b e) (s :: ρ) = (ev Γ e false (s :: ρ)).bind fun x => setS (s :: ρ) i (boxS (s :: ρ) i b x) := by rw [exec]
theorem x_asgn {t : Tg} {e : E} : exec Γ (.asg t e) (s :: ρ) = (ev Γ e false (s :: ρ)).bind fun x => (T.ofO (asgT t x.1 (s :: ρ))).bind fun ρ' => .ret (.nx, ρ') := by rw [exec]
theorem x_par {is : List (Nat × Bool)} {es : List E} : exec Γ (.par is es) (s :: ρ) = (evR Γ es (s :: ρ)).bind fun xs => parS is xs (s :: ρ) := by rw [exec]
theorem eR_nil : evR Γ [] (s :: ρ) = .ret [] := by rw [evR]
theorem eR_cons {e : E} {es : List E} : evR Γ (e :: es) (s :: ρ) = (ev Γ e false (s :: ρ)).bind fun x => (evR Γ es (s :: ρ)).bind fun xs => .ret (x :: xs) := by rw [evR]
theorem par_nil {ρ : Env} : parS [] [] ρ = .ret (.nx, ρ) := rfl
theorem par_cons {p : Nat × Bool} {ps : List (Nat × Bool)} {r : Rs} {rs : List Rs} {ρ : Env} : parS (p :: ps) (r :: rs) ρ = if p.1 < ρ.length then parS ps rs (ρ.set p.1 (boxS ρ p.1 p.2 r)) else .err := rfl
theorem x_ixs {i : Nat} {k e : E} : exec Γ (.setix i k e) (s :: ρ) = (ev Γ e false (s :: ρ)).bind fun x => (ev Γ k true (s :: ρ)).bind fun y => (T.ofO ((ownAt (s :: ρ) i).bind fun d => setD d y.1 x.1)).bind fun d => setS (s :: ρ) i (.bx d) := by rw [exec]
theorem x_ap {i : Nat} {e : E} : exec Γ (.app i e) (s :: ρ) = (ev Γ e false (s :: ρ)).bind fun x => (T.ofO ((ownAt (s :: ρ) i).bind fun d => appD d x.1)).bind fun d => setS (s :: ρ) i (.bx d) := by rw [exec]
theorem x_ifs {c : E} {a b : List S} : exec Γ (.ifs c a b) (s :: ρ) = (blT (ev Γ c true (s :: ρ))).bind fun k => cond k (execs Γ a (s :: ρ)) (execs Γ b (s :: ρ)) := by rw [exec]
theorem x_rt {e : E} : exec Γ (.ret e) (s :: ρ) = (evRet Γ e (s :: ρ)).bind fun x => .ret (.rt x, s :: ρ) := by rw [exec]
/-- a walk's turn -/
def turnF (Γ : Sem) (t : Tg) (b : List S) (x : D) (ρ : Env) : T Xs := (T.ofO (asgT t x ρ)).bind fun ρ' => execs Γ b ρ'
theorem x_fr {t : Tg} {sk : Sk} {ses : List E} {b : List S} : exec Γ (.forr t sk ses b) (s :: ρ) = (evS Γ ses (s :: ρ)).bind fun xs => (T.ofO (srcD sk xs)).bind fun its => (forL (turnF Γ t b) its (lockS ses (s :: ρ))).bind fun r => .ret (r.1, unlockS (s :: ρ) ses r.2) := by rw [exec]; rfl
def loopT (t : T Xs) (f : Env → T Xs) : T Xs := t.bind fun r => match r.1 with
    | .nx => f r.2
    | .ct => f r.2
    | .bk => .ret (.nx, r.2)
    | .rt y => .ret (.rt y, r.2)
theorem loop_nx {ρ : Env} {f : Env → T Xs} : loopT (.ret (.nx, ρ)) f = f ρ := rfl
theorem loop_ct {ρ : Env} {f : Env → T Xs} : loopT (.ret (.ct, ρ)) f = f ρ := rfl
theorem loop_bk {ρ : Env} {f : Env → T Xs} : loopT (.ret (.bk, ρ)) f = .ret (.nx, ρ) := rfl
theorem loop_rt {ρ : Env} {f : Env → T Xs} {r : Rs} : loopT (.ret (.rt r, ρ)) f = .ret (.rt r, ρ) := rfl
theorem for_nil {t : Tg} {b : List S} : forL (turnF Γ t b) [] (s :: ρ) = .ret (.nx, s :: ρ) := rfl
theorem for_cons {t : Tg} {b : List S} {x : D} {xs : List D} : forL (turnF Γ t b) (x :: xs) (s :: ρ) = loopT ((T.ofO (asgT t x (s :: ρ))).bind fun ρ' => execs Γ b ρ') fun ρ => forL (turnF Γ t b) xs ρ := rfl
end
end FF

set_option Elab.async false
set_option linter.all false
set_option maxRecDepth 100000
set_option maxHeartbeats 8000000
/-! FF24: more steps of evaluation; sizes; fractions. -/
namespace FF
section
variable {Γ : Sem} {ρ : FF.Env}
theorem arg_c {d : D} : argT Γ (.c d) ρ = (ev Γ (.c d) false ρ).bind fun x => .ret (.d x.1) := rfl
theorem arg_g {k : Nat} {d : D} : argT Γ (.g k d) ρ = (ev Γ (.g k d) false ρ).bind fun x => .ret (.d x.1) := rfl
theorem arg_bin {p : Bop} {a b : E} : argT Γ (.bin p a b) ρ = (ev Γ (.bin p a b) false ρ).bind fun x => .ret (.d x.1) := rfl
theorem arg_neg {a : E} : argT Γ (.neg a) ρ = (ev Γ (.neg a) false ρ).bind fun x => .ret (.d x.1) := rfl
theorem arg_cmp {p : Cop} {a b : E} : argT Γ (.cmp p a b) ρ = (ev Γ (.cmp p a b) false ρ).bind fun x => .ret (.d x.1) := rfl
theorem arg_chain {p q : Cop} {a b c : E} : argT Γ (.chain p q a b c) ρ = (ev Γ (.chain p q a b c) false ρ).bind fun x => .ret (.d x.1) := rfl
theorem arg_nt {a : E} : argT Γ (.nt a) ρ = (ev Γ (.nt a) false ρ).bind fun x => .ret (.d x.1) := rfl
theorem arg_and2 {a b : E} : argT Γ (.and2 a b) ρ = (ev Γ (.and2 a b) false ρ).bind fun x => .ret (.d x.1) := rfl
theorem arg_or2 {a b : E} : argT Γ (.or2 a b) ρ = (ev Γ (.or2 a b) false ρ).bind fun x => .ret (.d x.1) := rfl
theorem arg_tr {a : E} : argT Γ (.tr a) ρ = (ev Γ (.tr a) false ρ).bind fun x => .ret (.d x.1) := rfl
theorem arg_ite {c a b : E} : argT Γ (.ite c a b) ρ = (ev Γ (.ite c a b) false ρ).bind fun x => .ret (.d x.1) := rfl
theorem arg_tup {es : List E} : argT Γ (.tup es) ρ = (ev Γ (.tup es) false ρ).bind fun x => .ret (.d x.1) := rfl
theorem arg_lst {es : List E} : argT Γ (.lst es) ρ = (ev Γ (.lst es) false ρ).bind fun x => .ret (.d x.1) := rfl
theorem arg_ix {a i : E} : argT Γ (.ix a i) ρ = (ev Γ (.ix a i) false ρ).bind fun x => .ret (.d x.1) := rfl
theorem arg_sl {a : E} {lo hi : List E} : argT Γ (.sl a lo hi) ρ = (ev Γ (.sl a lo hi) false ρ).bind fun x => .ret (.d x.1) := rfl
theorem arg_rev {a : E} : argT Γ (.rev a) ρ = (ev Γ (.rev a) false ρ).bind fun x => .ret (.d x.1) := rfl
theorem arg_call {k : Nat} {es : List E} : argT Γ (.call k es) ρ = (ev Γ (.call k es) false ρ).bind fun x => .ret (.d x.1) := rfl
theorem arg_bi {b : Bi} {es : List E} : argT Γ (.bi b es) ρ = (ev Γ (.bi b es) false ρ).bind fun x => .ret (.d x.1) := rfl
theorem arg_isi {a : E} {ts : List Ty} : argT Γ (.isi a ts) ρ = (ev Γ (.isi a ts) false ρ).bind fun x => .ret (.d x.1) := rfl
theorem arg_comp {t : Tg} {sk : Sk} {ses cs : List E} {e : E} : argT Γ (.comp t sk ses cs e) ρ = (ev Γ (.comp t sk ses cs e) false ρ).bind fun x => .ret (.d x.1) := rfl
theorem arg_comp2 {t t2 : Tg} {sk sk2 : Sk} {ses cs ses2 cs2 : List E} {e : E} : argT Γ (.comp2 t sk ses cs t2 sk2 ses2 cs2 e) ρ = (ev Γ (.comp2 t sk ses cs t2 sk2 ses2 cs2 e) false ρ).bind fun x => .ret (.d x.1) := rfl
theorem arg_draw {i j : Nat} {e : E} : argT Γ (.draw i j e) ρ = (ev Γ (.draw i j e) false ρ).bind fun x => .ret (.d x.1) := rfl
end
theorem arg_v0 {Γ : Sem} {ρ : FF.Env} {i : Nat} {d : D} (h : ρ[i]? = some (.pl d)) : argT Γ (.v i) ρ = .ret (.d d) := by
  rw [arg_st, h]
  show T.ofO ((rd false ρ i).map fun d => Arg.d d) = _
  unfold rd; rw [h]; rfl
/-! ### draws -/
theorem bind_drw {α β : Type} {n : Nat} {k : Nat → T α} {f : α → T β} : (T.drw n k).bind f = .drw n fun d => (k d).bind f := rfl
theorem blT_drw {n : Nat} {k : Nat → T Rs} : blT (T.drw n k) = .drw n fun d => blT (k d) := rfl
theorem then_drw {n : Nat} {k : Nat → T Xs} {f : FF.Env → T Xs} : thenT (T.drw n k) f = .drw n fun d => thenT (k d) f := rfl
theorem loop_drw {n : Nat} {k : Nat → T Xs} {f : FF.Env → T Xs} : loopT (T.drw n k) f = .drw n fun d => loopT (k d) f := rfl
theorem all_drw {α : Type} {n : Nat} {k : Nat → T α} {P : α → Prop} : (T.drw n k).all P ↔ 0 < n ∧ ∀ d, d < n → (k d).all P := Iff.rfl
theorem all_ret {α : Type} {a : α} {P : α → Prop} : (T.ret a).all P ↔ P a := Iff.rfl
/-! ### comparisons -/
theorem c_lt {i j : Int} : cmpD .lt (.int i) (.int j) = some (decide (i < j)) := rfl
theorem c_le {i j : Int} : cmpD .le (.int i) (.int j) = some (decide (i ≤ j)) := rfl
theorem c_gt {i j : Int} : cmpD .gt (.int i) (.int j) = some (decide (j < i)) := rfl
theorem c_ge {i j : Int} : cmpD .ge (.int i) (.int j) = some (decide (j ≤ i)) := rfl
theorem c_eq {a b : D} : cmpD .eq a b = eqT a b := rfl
theorem c_ne {a b : D} : cmpD .ne a b = (eqT a b).map (!·) := rfl
theorem c_isN {a : D} : cmpD .isN a .non = some (isNon a) := by cases a <;> rfl
theorem c_notN {a : D} : cmpD .notN a .non = some (!isNon a) := by cases a <;> rfl
mutual
/-- plain: no bool, no dict, not deep -/
def pln : Nat → D → Bool
  | _, .non => true
  | _, .int _ => true
  | _, .str s => s.all (· < 1114112)
  | n + 1, .lst xs => plns n xs
  | n + 1, .tup xs => plns n xs
  | _, _ => false
def plns : Nat → List D → Bool
  | _, [] => true
  | n, x :: xs => pln n x && plns n xs
end
mutual
theorem pln_flat : ∀ (n : Nat) (a : D), pln n a = true → flat n a = true
  | n, .non, _ => by cases n <;> simp [flat]
  | n, .int _, _ => by cases n <;> simp [flat]
  | n, .str s, h => by cases n <;> simpa [flat, pln] using h
  | n + 1, .lst xs, h => by simp only [flat]; exact plns_flat n xs (by simpa [pln] using h)
  | n + 1, .tup xs, h => by simp only [flat]; exact plns_flat n xs (by simpa [pln] using h)
  | 0, .lst _, h => by simp [pln] at h
  | 0, .tup _, h => by simp [pln] at h
  | n, .bl _, h => by cases n <;> simp [pln] at h
  | n, .dic _ _, h => by cases n <;> simp [pln] at h
theorem plns_flat : ∀ (n : Nat) (xs : List D), plns n xs = true → flats n xs = true
  | _, [], _ => by simp [flats]
  | n, x :: xs, h => by
    simp only [plns, Bool.and_eq_true] at h
    simp only [flats, pln_flat n x h.1, plns_flat n xs h.2, Bool.and_self]
end
open Classical in
mutual
theorem eqD_pln : ∀ (n : Nat) (a b : D), pln n a = true → pln n b = true → eqD a b = some (decide (a = b))
  | n, .non, b, _, g => by cases b <;> cases n <;> simp [pln] at g <;> simp [eqD]
  | n, .int i, b, _, g => by cases b <;> cases n <;> simp [pln] at g <;> simp [eqD]
  | n, .str s, b, _, g => by cases b <;> cases n <;> simp [pln] at g <;> simp [eqD]
  | n + 1, .lst xs, b, h, g => by
    cases b with
    | lst ys =>
      simp only [pln] at h g
      simp only [eqD, eqDs_pln n xs ys h g, D.lst.injEq]
    | _ => simp [pln] at g <;> simp [eqD]
  | n + 1, .tup xs, b, h, g => by
    cases b with
    | tup ys =>
      simp only [pln] at h g
      simp only [eqD, eqDs_pln n xs ys h g, D.tup.injEq]
    | _ => simp [pln] at g <;> simp [eqD]
  | 0, .lst _, _, h, _ => by simp [pln] at h
  | 0, .tup _, _, h, _ => by simp [pln] at h
  | n, .bl _, _, h, _ => by cases n <;> simp [pln] at h
  | n, .dic _ _, _, h, _ => by cases n <;> simp [pln] at h
theorem eqDs_pln : ∀ (n : Nat) (xs ys : List D), plns n xs = true → plns n ys = true → eqDs xs ys = some (decide (xs = ys))
  | _, [], [], _, _ => by simp [eqDs]
  | _, [], _ :: _, _, _ => by simp [eqDs]
  | _, _ :: _, [], _, _ => by simp [eqDs]
  | n, x :: xs, y :: ys, h, g => by
    simp only [plns, Bool.and_eq_true] at h g
    simp only [eqDs, eqD_pln n x y h.1 g.1, eqDs_pln n xs ys h.2 g.2, Option.bind_some, Option.map_some, List.cons.injEq]
    congr 1
    by_cases h1 : x = y <;> by_cases h2 : xs = ys <;> simp [h1, h2]
end
open Classical in
theorem eqT_pln {a b : D} (h : pln 50 a = true) (g : pln 50 b = true) : eqT a b = some (decide (a = b)) := by
  unfold eqT
  rw [pln_flat 50 a h, pln_flat 50 b g]
  exact eqD_pln 50 a b h g
/-! ### division -/
theorem k_fdivp {i j : Int} {n : Nat} [b : Sm n j] (h : n ≤ 8000) (hj : 0 < j) : binD .fdiv (.int i) (.int j) = some (.int (i / j), false) := by
  simp only [binD]
  have h2 : nb j ≤ n + 1 := nb_le (Nat.lt_of_lt_of_le b.lt (Nat.pow_le_pow_right (by decide) (Nat.le_succ n))) (Nat.succ_pos n)
  rw [if_pos ⟨by omega, by omega⟩, Int.fdiv_eq_ediv_of_nonneg _ (by omega)]
theorem k_fdiv {i j : Int} {n : Nat} [b : Sm n j] (h : n ≤ 8000) (hj : j ≠ 0) : binD .fdiv (.int i) (.int j) = some (.int (i.fdiv j), false) := by
  simp only [binD]
  have h2 : nb j ≤ n + 1 := nb_le (Nat.lt_of_lt_of_le b.lt (Nat.pow_le_pow_right (by decide) (Nat.le_succ n))) (Nat.succ_pos n)
  rw [if_pos ⟨hj, by omega⟩]
theorem k_modp {i j : Int} (hj : 0 < j) : binD .mod (.int i) (.int j) = some (.int (i % j), false) := by
  simp only [binD]
  rw [if_pos (by omega), Int.fmod_eq_emod_of_nonneg _ (by omega)]
/-- a list's length -/
class Ln {α : Type} (k : outParam Nat) (xs : List α) : Prop where
  h : xs.length = k
instance {α : Type} : Ln 0 ([] : List α) := ⟨rfl⟩
instance {α : Type} {x : α} {xs : List α} {k : Nat} [a : Ln k xs] : Ln (k + 1) (x :: xs) := ⟨by rw [List.length_cons, a.h]⟩
instance {α : Type} {xs ys : List α} {k l : Nat} [a : Ln k xs] [b : Ln l ys] : Ln (k + l) (xs ++ ys) := ⟨by rw [List.length_append, a.h, b.h]⟩
theorem k_addl {xs ys : List D} {m n : Nat} [a : Ln m xs] [b : Ln n ys] (h : m + n ≤ 16777216) : binD .add (.lst xs) (.lst ys) = some (.lst (xs ++ ys), true) := by
  simp only [binD]; rw [if_pos (by unfold line; rw [a.h, b.h]; exact h)]
theorem k_addt {xs ys : List D} {m n : Nat} [a : Ln m xs] [b : Ln n ys] (h : m + n ≤ 16777216) : binD .add (.tup xs) (.tup ys) = some (.tup (xs ++ ys), false) := by
  simp only [binD]; rw [if_pos (by unfold line; rw [a.h, b.h]; exact h)]
theorem k_ap {xs : List D} {x : D} {m : Nat} [a : Ln m xs] (h : m < 16777216) : appD (.lst xs) x = some (.lst (xs ++ [x])) := by
  simp only [appD]; rw [if_pos (by unfold line; rw [a.h]; exact h)]
/-! ### built-ins, walks, slices, by rules without conditions -/
theorem b_lenl {xs : List D} : biD .len [.lst xs] = some (.int xs.length, false) := rfl
theorem b_lent {xs : List D} : biD .len [.tup xs] = some (.int xs.length, false) := rfl
theorem b_lens {xs : List Nat} : biD .len [.str xs] = some (.int xs.length, false) := rfl
theorem b_abs {i : Int} : biD .abs [.int i] = some (.int (i.natAbs : Int), false) := by
  show some (D.int (if i < 0 then -i else i), false) = _
  congr 3; split <;> omega
theorem b_sum {xs : List D} : biD .sum [.lst xs] = (intsOf xs).map fun p => (.int p.sum, false) := rfl
theorem b_max {xs : List D} : biD .max [.lst xs] = (intsOf xs).bind fun p => match p with | [] => none | x :: r => some (.int (maxI x r), false) := rfl
theorem b_min {xs : List D} : biD .min [.lst xs] = (intsOf xs).bind fun p => match p with | [] => none | x :: r => some (.int (minI x r), false) := rfl
theorem b_max2 {i j : Int} : biD .max2 [.int i, .int j] = some (.int (max i j), false) := by
  show some (D.int (if j > i then j else i), false) = _
  congr 3; split <;> omega
theorem b_min2 {i j : Int} : biD .min2 [.int i, .int j] = some (.int (min i j), false) := by
  show some (D.int (if j < i then j else i), false) = _
  congr 3; split <;> omega
theorem b_tupl {xs : List D} : biD .tuple [.lst xs] = some (.tup xs, false) := rfl
theorem b_tupt {xs : List D} : biD .tuple [.tup xs] = some (.tup xs, false) := rfl
theorem b_lstl {xs : List D} : biD .list [.lst xs] = some (.lst xs, true) := rfl
theorem b_lstt {xs : List D} : biD .list [.tup xs] = some (.lst xs, true) := rfl
theorem b_inti {i : Int} : biD .int [.int i] = some (.int i, false) := rfl
theorem b_intb {b : Bool} : biD .int [.bl b] = some (.int (if b then 1 else 0), false) := rfl
theorem b_all {xs : List D} : biD .all [.lst xs] = (blsOf xs).map fun bs => (.bl (bs.all id), false) := rfl
theorem b_any {xs : List D} : biD .any [.lst xs] = (blsOf xs).map fun bs => (.bl (bs.any id), false) := rfl
theorem b_gcd {i j : Int} : biD .gcd [.int i, .int j] = some (.int (Nat.gcd i.natAbs j.natAbs : Nat), false) := rfl
theorem is_nil : intsOf [] = some [] := rfl
theorem is_cons {i : Int} {r : List D} : intsOf (.int i :: r) = (intsOf r).map (i :: ·) := rfl
theorem bs_nil : blsOf [] = some [] := rfl
theorem bs_cons {b : Bool} {r : List D} : blsOf (.bl b :: r) = (blsOf r).map (b :: ·) := rfl
theorem s_seql {xs : List D} : srcD .seq [.lst xs] = some xs := rfl
theorem s_seqt {xs : List D} : srcD .seq [.tup xs] = some xs := rfl
theorem s_seqs {xs : List Nat} : srcD .seq [.str xs] = some (xs.map fun c => .str [c]) := rfl
theorem s_r1 {j : Int} : srcD .range [.int j] = rng2 0 j := rfl
theorem s_r2 {i j : Int} : srcD .range [.int i, .int j] = rng2 i j := rfl
theorem s_zip {xs ys : List D} : srcD .zip [.lst xs, .lst ys] = some (zipL xs ys) := rfl
theorem s_zipt {xs ys : List D} : srcD .zip [.tup xs, .tup ys] = some (zipL xs ys) := rfl
theorem s_enum {xs : List D} : srcD .enum [.lst xs] = some (enumL 0 xs) := rfl
theorem s_enumt {xs : List D} : srcD .enum [.tup xs] = some (enumL 0 xs) := rfl
theorem s_rev {xs : List D} : srcD .rev [.lst xs] = some xs.reverse := rfl
theorem s_revt {xs : List D} : srcD .rev [.tup xs] = some xs.reverse := rfl
theorem s_rr {j : Int} : srcD .revrange [.int j] = (rng2 0 j).map List.reverse := rfl
theorem z_cons {x y : D} {xs ys : List D} : zipL (x :: xs) (y :: ys) = .tup [x, y] :: zipL xs ys := rfl
theorem z_nil {ys : List D} : zipL [] ys = [] := by cases ys <;> rfl
theorem z_nil2 {xs : List D} : zipL xs [] = [] := by cases xs <;> rfl
theorem n_cons {n : Nat} {x : D} {xs : List D} : enumL n (x :: xs) = .tup [.int n, x] :: enumL (n + 1) xs := rfl
theorem n_nil {n : Nat} : enumL n [] = [] := rfl
theorem sl_l {xs : List D} {lo hi : Option Int} : slD (.lst xs) lo hi = some (.lst (cut xs lo hi), true) := rfl
theorem sl_t {xs : List D} {lo hi : Option Int} : slD (.tup xs) lo hi = some (.tup (cut xs lo hi), false) := rfl
theorem one_0 : oneI [] = some none := rfl
theorem one_1 {i : Int} : oneI [.int i] = some (some i) := rfl
theorem cut_from {α : Type} {xs : List α} {n : Nat} : cut xs (some (no_index (OfNat.ofNat n : Int))) none = xs.drop n := by
  unfold cut sIx
  have e : ¬ ((OfNat.ofNat n : Int) < 0) := by show ¬ ((n : Int) < 0); omega
  have e2 : (OfNat.ofNat n : Int).toNat = n := by show ((n : Int)).toNat = n; omega
  simp only [e, if_false, e2]
  rcases Nat.le_total n xs.length with h | h
  · rw [Nat.min_eq_left h, List.take_of_length_le]; simp
  · rw [Nat.min_eq_right h, List.drop_of_length_le (Nat.le_refl _), List.drop_of_length_le h]; simp
theorem cut_to {α : Type} {xs : List α} {n : Nat} : cut xs none (some (no_index (OfNat.ofNat n : Int))) = xs.take n := by
  unfold cut sIx
  have e : ¬ ((OfNat.ofNat n : Int) < 0) := by show ¬ ((n : Int) < 0); omega
  have e2 : (OfNat.ofNat n : Int).toNat = n := by show ((n : Int)).toNat = n; omega
  simp only [e, if_false, e2, List.drop_zero, Nat.sub_zero]
  rcases Nat.le_total n xs.length with h | h
  · rw [Nat.min_eq_left h]
  · rw [Nat.min_eq_right h, List.take_of_length_le (Nat.le_refl _), List.take_of_length_le h]
theorem rv_l {xs : List D} : revD (.lst xs) = some (.lst xs.reverse, true) := rfl
theorem tr_n : truth .non = some false := rfl
theorem tr_b {b : Bool} : truth (.bl b) = some b := rfl
theorem tr_i {i : Int} : truth (.int i) = some (i != 0) := rfl
theorem tr_l {xs : List D} : truth (.lst xs) = some (!xs.isEmpty) := rfl
theorem tr_t {xs : List D} : truth (.tup xs) = some (!xs.isEmpty) := rfl
section
variable {Γ : Sem} {s : Slot} {ρ : FF.Env}
theorem rt_v {i : Nat} : evRet Γ (.v i) (s :: ρ) = match ownAt (s :: ρ) i with | some d => T.ret (d, true) | none => ev Γ (.v i) false (s :: ρ) := rfl
theorem rt_c {d : D} : evRet Γ (.c d) ρ = ev Γ (.c d) false ρ := rfl
theorem rt_g {k : Nat} {d : D} : evRet Γ (.g k d) ρ = ev Γ (.g k d) false ρ := rfl
theorem rt_bin {p : Bop} {a b : E} : evRet Γ (.bin p a b) ρ = ev Γ (.bin p a b) false ρ := rfl
theorem rt_neg {a : E} : evRet Γ (.neg a) ρ = ev Γ (.neg a) false ρ := rfl
theorem rt_cmp {p : Cop} {a b : E} : evRet Γ (.cmp p a b) ρ = ev Γ (.cmp p a b) false ρ := rfl
theorem rt_chain {p q : Cop} {a b c : E} : evRet Γ (.chain p q a b c) ρ = ev Γ (.chain p q a b c) false ρ := rfl
theorem rt_nt {a : E} : evRet Γ (.nt a) ρ = ev Γ (.nt a) false ρ := rfl
theorem rt_and2 {a b : E} : evRet Γ (.and2 a b) ρ = ev Γ (.and2 a b) false ρ := rfl
theorem rt_or2 {a b : E} : evRet Γ (.or2 a b) ρ = ev Γ (.or2 a b) false ρ := rfl
theorem rt_tr {a : E} : evRet Γ (.tr a) ρ = ev Γ (.tr a) false ρ := rfl
theorem rt_ite {c a b : E} : evRet Γ (.ite c a b) ρ = ev Γ (.ite c a b) false ρ := rfl
theorem rt_tup {es : List E} : evRet Γ (.tup es) ρ = ev Γ (.tup es) false ρ := rfl
theorem rt_lst {es : List E} : evRet Γ (.lst es) ρ = ev Γ (.lst es) false ρ := rfl
theorem rt_ix {a i : E} : evRet Γ (.ix a i) ρ = ev Γ (.ix a i) false ρ := rfl
theorem rt_sl {a : E} {lo hi : List E} : evRet Γ (.sl a lo hi) ρ = ev Γ (.sl a lo hi) false ρ := rfl
theorem rt_rev {a : E} : evRet Γ (.rev a) ρ = ev Γ (.rev a) false ρ := rfl
theorem rt_call {k : Nat} {es : List E} : evRet Γ (.call k es) ρ = ev Γ (.call k es) false ρ := rfl
theorem rt_bi {b : Bi} {es : List E} : evRet Γ (.bi b es) ρ = ev Γ (.bi b es) false ρ := rfl
theorem rt_isi {a : E} {ts : List Ty} : evRet Γ (.isi a ts) ρ = ev Γ (.isi a ts) false ρ := rfl
theorem rt_comp {t : Tg} {sk : Sk} {ses cs : List E} {e : E} : evRet Γ (.comp t sk ses cs e) ρ = ev Γ (.comp t sk ses cs e) false ρ := rfl
theorem rt_comp2 {t t2 : Tg} {sk sk2 : Sk} {ses cs ses2 cs2 : List E} {e : E} : evRet Γ (.comp2 t sk ses cs t2 sk2 ses2 cs2 e) ρ = ev Γ (.comp2 t sk ses cs t2 sk2 ses2 cs2 e) false ρ := rfl
theorem rt_draw {i j : Nat} {e : E} : evRet Γ (.draw i j e) ρ = ev Γ (.draw i j e) false ρ := rfl
theorem own_n : ownAt (.no :: ρ) 0 = none := rfl
theorem a_nm {i : Nat} {x : D} : asgT (.nm i) x ρ = if i < ρ.length then some (ρ.set i (.pl x)) else none := by rw [asgT]
theorem a_tt {ts : List Tg} {xs : List D} : asgT (.tup ts) (.tup xs) ρ = asgTs ts xs ρ := by rw [asgT]
theorem a_tl {ts : List Tg} {xs : List D} : asgT (.tup ts) (.lst xs) ρ = asgTs ts xs ρ := by rw [asgT]
theorem as_n : asgTs [] [] ρ = some ρ := by rw [asgTs]
theorem as_c {t : Tg} {ts : List Tg} {x : D} {xs : List D} : asgTs (t :: ts) (x :: xs) ρ = (asgT t x ρ).bind (asgTs ts xs) := by rw [asgTs]
theorem lk_nil : lockS [] ρ = ρ := rfl
theorem lk_v {i : Nat} {r : List E} : lockS (.v i :: r) ρ = lockS r (match ρ[i]? with | some (.bx d) => ρ.set i (.lk d) | _ => ρ) := rfl
theorem lk_c {d : D} {r : List E} : lockS ((.c d) :: r) ρ = lockS r ρ := rfl
theorem lk_g {k : Nat} {d : D} {r : List E} : lockS ((.g k d) :: r) ρ = lockS r ρ := rfl
theorem lk_bin {p : Bop} {a b : E} {r : List E} : lockS ((.bin p a b) :: r) ρ = lockS r ρ := rfl
theorem lk_neg {a : E} {r : List E} : lockS ((.neg a) :: r) ρ = lockS r ρ := rfl
theorem lk_cmp {p : Cop} {a b : E} {r : List E} : lockS ((.cmp p a b) :: r) ρ = lockS r ρ := rfl
theorem lk_chain {p q : Cop} {a b c : E} {r : List E} : lockS ((.chain p q a b c) :: r) ρ = lockS r ρ := rfl
theorem lk_nt {a : E} {r : List E} : lockS ((.nt a) :: r) ρ = lockS r ρ := rfl
theorem lk_and2 {a b : E} {r : List E} : lockS ((.and2 a b) :: r) ρ = lockS r ρ := rfl
theorem lk_or2 {a b : E} {r : List E} : lockS ((.or2 a b) :: r) ρ = lockS r ρ := rfl
theorem lk_tr {a : E} {r : List E} : lockS ((.tr a) :: r) ρ = lockS r ρ := rfl
theorem lk_ite {c a b : E} {r : List E} : lockS ((.ite c a b) :: r) ρ = lockS r ρ := rfl
theorem lk_tup {es : List E} {r : List E} : lockS ((.tup es) :: r) ρ = lockS r ρ := rfl
theorem lk_lst {es : List E} {r : List E} : lockS ((.lst es) :: r) ρ = lockS r ρ := rfl
theorem lk_ix {a i : E} {r : List E} : lockS ((.ix a i) :: r) ρ = lockS r ρ := rfl
theorem lk_sl {a : E} {lo hi : List E} {r : List E} : lockS ((.sl a lo hi) :: r) ρ = lockS r ρ := rfl
theorem lk_rev {a : E} {r : List E} : lockS ((.rev a) :: r) ρ = lockS r ρ := rfl
theorem lk_call {k : Nat} {es : List E} {r : List E} : lockS ((.call k es) :: r) ρ = lockS r ρ := rfl
theorem lk_bi {b : Bi} {es : List E} {r : List E} : lockS ((.bi b es) :: r) ρ = lockS r ρ := rfl
theorem lk_isi {a : E} {ts : List Ty} {r : List E} : lockS ((.isi a ts) :: r) ρ = lockS r ρ := rfl
theorem lk_comp {t : Tg} {sk : Sk} {ses cs : List E} {e : E} {r : List E} : lockS ((.comp t sk ses cs e) :: r) ρ = lockS r ρ := rfl
theorem lk_comp2 {t t2 : Tg} {sk sk2 : Sk} {ses cs ses2 cs2 : List E} {e : E} {r : List E} : lockS ((.comp2 t sk ses cs t2 sk2 ses2 cs2 e) :: r) ρ = lockS r ρ := rfl
theorem lk_draw {i j : Nat} {e : E} {r : List E} : lockS ((.draw i j e) :: r) ρ = lockS r ρ := rfl
theorem ul_nil {ρ₀ : FF.Env} : unlockS ρ₀ [] ρ = ρ := rfl
theorem ul_v {ρ₀ : FF.Env} {i : Nat} {r : List E} : unlockS ρ₀ (.v i :: r) ρ = unlockS ρ₀ r (match ρ₀[i]?, ρ[i]? with | some (.bx _), some (.lk d) => ρ.set i (.bx d) | _, _ => ρ) := rfl
theorem ul_c {d : D} {ρ₀ : FF.Env} {r : List E} : unlockS ρ₀ ((.c d) :: r) ρ = unlockS ρ₀ r ρ := rfl
theorem ul_g {k : Nat} {d : D} {ρ₀ : FF.Env} {r : List E} : unlockS ρ₀ ((.g k d) :: r) ρ = unlockS ρ₀ r ρ := rfl
theorem ul_bin {p : Bop} {a b : E} {ρ₀ : FF.Env} {r : List E} : unlockS ρ₀ ((.bin p a b) :: r) ρ = unlockS ρ₀ r ρ := rfl
theorem ul_neg {a : E} {ρ₀ : FF.Env} {r : List E} : unlockS ρ₀ ((.neg a) :: r) ρ = unlockS ρ₀ r ρ := rfl
theorem ul_cmp {p : Cop} {a b : E} {ρ₀ : FF.Env} {r : List E} : unlockS ρ₀ ((.cmp p a b) :: r) ρ = unlockS ρ₀ r ρ := rfl
theorem ul_chain {p q : Cop} {a b c : E} {ρ₀ : FF.Env} {r : List E} : unlockS ρ₀ ((.chain p q a b c) :: r) ρ = unlockS ρ₀ r ρ := rfl
theorem ul_nt {a : E} {ρ₀ : FF.Env} {r : List E} : unlockS ρ₀ ((.nt a) :: r) ρ = unlockS ρ₀ r ρ := rfl
theorem ul_and2 {a b : E} {ρ₀ : FF.Env} {r : List E} : unlockS ρ₀ ((.and2 a b) :: r) ρ = unlockS ρ₀ r ρ := rfl
theorem ul_or2 {a b : E} {ρ₀ : FF.Env} {r : List E} : unlockS ρ₀ ((.or2 a b) :: r) ρ = unlockS ρ₀ r ρ := rfl
theorem ul_tr {a : E} {ρ₀ : FF.Env} {r : List E} : unlockS ρ₀ ((.tr a) :: r) ρ = unlockS ρ₀ r ρ := rfl
theorem ul_ite {c a b : E} {ρ₀ : FF.Env} {r : List E} : unlockS ρ₀ ((.ite c a b) :: r) ρ = unlockS ρ₀ r ρ := rfl
theorem ul_tup {es : List E} {ρ₀ : FF.Env} {r : List E} : unlockS ρ₀ ((.tup es) :: r) ρ = unlockS ρ₀ r ρ := rfl
theorem ul_lst {es : List E} {ρ₀ : FF.Env} {r : List E} : unlockS ρ₀ ((.lst es) :: r) ρ = unlockS ρ₀ r ρ := rfl
theorem ul_ix {a i : E} {ρ₀ : FF.Env} {r : List E} : unlockS ρ₀ ((.ix a i) :: r) ρ = unlockS ρ₀ r ρ := rfl
theorem ul_sl {a : E} {lo hi : List E} {ρ₀ : FF.Env} {r : List E} : unlockS ρ₀ ((.sl a lo hi) :: r) ρ = unlockS ρ₀ r ρ := rfl
theorem ul_rev {a : E} {ρ₀ : FF.Env} {r : List E} : unlockS ρ₀ ((.rev a) :: r) ρ = unlockS ρ₀ r ρ := rfl
theorem ul_call {k : Nat} {es : List E} {ρ₀ : FF.Env} {r : List E} : unlockS ρ₀ ((.call k es) :: r) ρ = unlockS ρ₀ r ρ := rfl
theorem ul_bi {b : Bi} {es : List E} {ρ₀ : FF.Env} {r : List E} : unlockS ρ₀ ((.bi b es) :: r) ρ = unlockS ρ₀ r ρ := rfl
theorem ul_isi {a : E} {ts : List Ty} {ρ₀ : FF.Env} {r : List E} : unlockS ρ₀ ((.isi a ts) :: r) ρ = unlockS ρ₀ r ρ := rfl
theorem ul_comp {t : Tg} {sk : Sk} {ses cs : List E} {e : E} {ρ₀ : FF.Env} {r : List E} : unlockS ρ₀ ((.comp t sk ses cs e) :: r) ρ = unlockS ρ₀ r ρ := rfl
theorem ul_comp2 {t t2 : Tg} {sk sk2 : Sk} {ses cs ses2 cs2 : List E} {e : E} {ρ₀ : FF.Env} {r : List E} : unlockS ρ₀ ((.comp2 t sk ses cs t2 sk2 ses2 cs2 e) :: r) ρ = unlockS ρ₀ r ρ := rfl
theorem ul_draw {i j : Nat} {e : E} {ρ₀ : FF.Env} {r : List E} : unlockS ρ₀ ((.draw i j e) :: r) ρ = unlockS ρ₀ r ρ := rfl
theorem x_rtN : exec Γ .retN (s :: ρ) = .ret (.rt (.non, false), s :: ρ) := by rw [exec]
theorem x_brk : exec Γ .brk (s :: ρ) = .ret (.bk, s :: ρ) := by rw [exec]
theorem x_cnt : exec Γ .cont (s :: ρ) = .ret (.ct, s :: ρ) := by rw [exec]
theorem x_pas : exec Γ .pass (s :: ρ) = .ret (.nx, s :: ρ) := by rw [exec]
theorem x_frz {i : Nat} : exec Γ (.frz i) (s :: ρ) = match (s :: ρ)[i]? with | some (.bx d) => .ret (.nx, (s :: ρ).set i (.pl d)) | _ => .ret (.nx, s :: ρ) := by rw [exec] <;> rfl
theorem x_drp {e : E} : exec Γ (.drop e) (s :: ρ) = (ev Γ e true (s :: ρ)).bind fun _ => .ret (.nx, s :: ρ) := by rw [exec]
end
theorem st_l {xs : List D} {i : Int} {x : D} (h : 0 ≤ i) (g : i < xs.length) : setD (.lst xs) (.int i) x = some (.lst (xs.set i.toNat x)) := by
  simp only [setD]; rw [if_pos h, if_pos g]
theorem set_0 {α : Type} {a x : α} {r : List α} : (a :: r).set 0 x = x :: r := rfl
theorem set_s {α : Type} {a x : α} {r : List α} {n : Nat} : (a :: r).set (n + 1) x = a :: r.set n x := rfl
/-! ### sizes -/
theorem Sm.mono {m n : Nat} {i : Int} (h : i.natAbs < 2 ^ m) (l : m ≤ n) : Sm n i := ⟨Nat.lt_of_lt_of_le h (Nat.pow_le_pow_right (by decide) l)⟩
instance {i j : Int} {m n : Nat} [a : Sm m i] [b : Sm n j] : Sm (max m n + 1) (i + j) := ⟨bd_add a.lt b.lt⟩
instance {i j : Int} {m n : Nat} [a : Sm m i] [b : Sm n j] : Sm (max m n + 1) (i - j) := ⟨bd_sub a.lt b.lt⟩
instance {i j : Int} {m n : Nat} [a : Sm m i] [b : Sm n j] : Sm (m + n) (i * j) := ⟨bd_mul a.lt b.lt⟩
instance {i : Int} {m : Nat} [a : Sm m i] : Sm m (-i) := ⟨by rw [Int.natAbs_neg]; exact a.lt⟩
instance (priority := low) smLit {n : Nat} : Sm (OfNat.ofNat n) (no_index (OfNat.ofNat n : Int)) := ⟨by show n < 2 ^ n; exact Nat.lt_two_pow_self⟩
instance {i j : Int} {c : Prop} [Decidable c] {m n : Nat} [a : Sm m i] [b : Sm n j] : Sm (max m n) (if c then i else j) := ⟨by
  have := @pow_max m n
  have := a.lt; have := b.lt
  split <;> omega⟩
theorem sm_nat {d n k : Nat} (h : d < n) (hk : n ≤ 2 ^ k) : Sm k (d : Int) := ⟨by omega⟩
theorem sm_mod {i j : Int} {n : Nat} (hj : 0 < j) (b : Sm n j) : Sm n (i % j) := ⟨by
  have h1 := Int.emod_nonneg i (show j ≠ 0 by omega)
  have h2 := Int.emod_lt_of_pos i hj
  have := b.lt
  omega⟩
/-! ### fractions -/
def F (q : Rat) : D := .tup [.int q.num, .int q.den]
theorem F_inj {p q : Rat} : F p = F q ↔ p = q := by
  constructor
  · intro h
    simp only [F, D.tup.injEq, List.cons.injEq, D.int.injEq, and_true] at h
    exact Rat.ext h.1 (by omega)
  · intro h; rw [h]
/-- plain, of depth below n -/
class Pl (n : outParam Nat) (a : D) : Prop where
  h : pln n a = true
class Pls (n : outParam Nat) (xs : List D) : Prop where
  h : plns n xs = true
mutual
theorem pln_mono : ∀ {m n : Nat} (a : D), pln m a = true → m ≤ n → pln n a = true
  | m, n, .non, _, _ => by cases n <;> simp [pln]
  | m, n, .int _, _, _ => by cases n <;> simp [pln]
  | m, n, .str s, h, _ => by cases m <;> cases n <;> simpa [pln] using h
  | m + 1, n + 1, .lst xs, h, l => by simp only [pln] at h ⊢; exact plns_mono xs h (by omega)
  | m + 1, n + 1, .tup xs, h, l => by simp only [pln] at h ⊢; exact plns_mono xs h (by omega)
  | 0, _, .lst _, h, _ => by simp [pln] at h
  | 0, _, .tup _, h, _ => by simp [pln] at h
  | m + 1, 0, .lst _, h, l => by omega
  | m + 1, 0, .tup _, h, l => by omega
  | m, n, .bl _, h, _ => by cases m <;> simp [pln] at h
  | m, n, .dic _ _, h, _ => by cases m <;> simp [pln] at h
theorem plns_mono : ∀ {m n : Nat} (xs : List D), plns m xs = true → m ≤ n → plns n xs = true
  | m, n, [], _, _ => by simp [plns]
  | m, n, x :: xs, h, l => by
    simp only [plns, Bool.and_eq_true] at h ⊢
    exact ⟨pln_mono x h.1 l, plns_mono xs h.2 l⟩
end
instance : Pl 0 .non := ⟨by simp [pln]⟩
instance {i : Int} : Pl 0 (.int i) := ⟨by simp [pln]⟩
instance : Pls 0 [] := ⟨by simp [plns]⟩
instance {x : D} {xs : List D} {m n : Nat} [a : Pl m x] [b : Pls n xs] : Pls (max m n) (x :: xs) := ⟨by
  simp only [plns, pln_mono x a.h (Nat.le_max_left _ _), plns_mono xs b.h (Nat.le_max_right _ _), Bool.and_self]⟩
instance {xs : List D} {n : Nat} [a : Pls n xs] : Pl (n + 1) (.tup xs) := ⟨by simp only [pln]; exact a.h⟩
instance {xs : List D} {n : Nat} [a : Pls n xs] : Pl (n + 1) (.lst xs) := ⟨by simp only [pln]; exact a.h⟩
instance {q : Rat} : Pl 1 (F q) := ⟨by simp [F, pln, plns]⟩
theorem pl_str {s : List Nat} (h : s.all (· < 1114112) = true) : Pl 0 (.str s) := ⟨by simpa [pln] using h⟩
open Classical in
theorem q_eq {a b : D} {m n : Nat} [x : Pl m a] [y : Pl n b] (h : m ≤ 50) (g : n ≤ 50) : eqT a b = some (decide (a = b)) := eqT_pln (pln_mono a x.h h) (pln_mono b y.h g)
class SmQ (n : outParam Nat) (q : Rat) : Prop where
  num : q.num.natAbs < 2 ^ n
  den : q.den < 2 ^ n
instance {q : Rat} {n : Nat} [a : SmQ n q] : Sm n q.num := ⟨a.num⟩
instance {q : Rat} {n : Nat} [a : SmQ n q] : Sm n (q.den : Int) := ⟨by rw [Int.natAbs_natCast]; exact a.den⟩
theorem den_pos {q : Rat} : 0 < (q.den : Int) := by have := q.den_pos; omega
theorem natAbs_div_le (a b : Int) : (a / b).natAbs ≤ a.natAbs := Int.natAbs_ediv_le_natAbs a b
theorem smq_divInt {i j : Int} {m n : Nat} (a : Sm m i) (b : Sm n j) : SmQ (max m n + 1) (Rat.divInt i j) := by
  have := @pow_max m n
  have ha := a.lt; have hb := b.lt
  constructor
  · rw [Rat.num_divInt, Nat.pow_succ]
    have h1 := natAbs_div_le (j.sign * i) (j.gcd i)
    have h2 : (j.sign * i).natAbs ≤ i.natAbs := by
      rw [Int.natAbs_mul]
      rcases Int.lt_trichotomy j 0 with h | h | h
      · rw [Int.sign_eq_neg_one_of_neg h]; simp
      · subst h; simp
      · rw [Int.sign_eq_one_of_pos h]; simp
    have := nat2_pos (max m n)
    omega
  · rw [Rat.den_divInt, Nat.pow_succ]
    have := nat2_pos (max m n)
    split
    · omega
    · have h1 : j.natAbs / j.gcd i ≤ j.natAbs := Nat.div_le_self _ _
      omega
instance {i j : Int} {m n : Nat} [a : Sm m i] [b : Sm n j] : SmQ (max m n + 1) (Rat.divInt i j) := smq_divInt a b
theorem mkRat_smq {i : Int} {d m n : Nat} (a : i.natAbs < 2 ^ m) (b : d < 2 ^ n) : SmQ (max m n + 1) (mkRat i d) := by
  rw [← Rat.divInt_ofNat]
  exact smq_divInt ⟨a⟩ ⟨by rw [Int.natAbs_natCast]; exact b⟩
theorem SmQ.mono {m n : Nat} {q : Rat} (h : SmQ m q) (l : m ≤ n) : SmQ n q := ⟨Nat.lt_of_lt_of_le h.num (Nat.pow_le_pow_right (by decide) l), Nat.lt_of_lt_of_le h.den (Nat.pow_le_pow_right (by decide) l)⟩
theorem mul_lt_pow {a b m n : Nat} (h : a < 2 ^ m) (g : b < 2 ^ n) : a * b < 2 ^ (m + n) := by
  rw [Nat.pow_add]; exact Nat.mul_lt_mul'' h g
theorem smden {q : Rat} {n : Nat} (a : SmQ n q) : ((q.den : Int)).natAbs < 2 ^ n := by rw [Int.natAbs_natCast]; exact a.den
instance {p q : Rat} {m n : Nat} [a : SmQ m p] [b : SmQ n q] : SmQ (m + n + 2) (p + q) := by
  rw [Rat.add_def']
  refine (mkRat_smq (m := m + n + 1) (n := m + n) ?_ (mul_lt_pow a.den b.den)).mono (by omega)
  have h1 := bd_mul a.num (smden b)
  have h2 := bd_mul b.num (smden a)
  have h3 := bd_add h1 h2
  exact Nat.lt_of_lt_of_le h3 (Nat.pow_le_pow_right (by decide) (by omega))
instance {p q : Rat} {m n : Nat} [a : SmQ m p] [b : SmQ n q] : SmQ (m + n + 2) (p - q) := by
  rw [Rat.sub_def']
  refine (mkRat_smq (m := m + n + 1) (n := m + n) ?_ (mul_lt_pow a.den b.den)).mono (by omega)
  have h1 := bd_mul a.num (smden b)
  have h2 := bd_mul b.num (smden a)
  have h3 := bd_sub h1 h2
  exact Nat.lt_of_lt_of_le h3 (Nat.pow_le_pow_right (by decide) (by omega))
instance {p q : Rat} {m n : Nat} [a : SmQ m p] [b : SmQ n q] : SmQ (m + n + 1) (p * q) := by
  rw [Rat.mul_def']
  exact (mkRat_smq (m := m + n) (n := m + n) (bd_mul a.num b.num) (mul_lt_pow a.den b.den)).mono (by omega)
instance {p : Rat} {m : Nat} [a : SmQ m p] : SmQ m (-p) := ⟨by rw [Rat.neg_num, Int.natAbs_neg]; exact a.num, by rw [Rat.neg_den]; exact a.den⟩
instance {p : Rat} {m : Nat} [a : SmQ m p] : SmQ (m + 1) p⁻¹ := by
  rw [Rat.inv_def]
  exact (smq_divInt (m := m) (n := m) ⟨smden a⟩ ⟨a.num⟩).mono (by omega)
instance {p q : Rat} {m n : Nat} [a : SmQ m p] [b : SmQ n q] : SmQ (m + n + 2) (p / q) := by
  rw [Rat.div_def]
  have : SmQ (m + (n + 1) + 1) (p * q⁻¹) := inferInstance
  exact this.mono (by omega)
instance {i : Int} {m : Nat} [a : Sm m i] : SmQ (m + 1) (i : Rat) := ⟨by
  rw [Rat.num_intCast, Nat.pow_succ]; have := a.lt; omega, by rw [Rat.den_intCast]; have := nat2_pos m; rw [Nat.pow_succ]; omega⟩
instance (priority := low) smqLit {n : Nat} : SmQ (OfNat.ofNat n + 1) (no_index (OfNat.ofNat n : Rat)) := ⟨by
  rw [Rat.num_ofNat, Nat.pow_succ]; have : n < 2 ^ n := Nat.lt_two_pow_self
  show n < 2 ^ n * 2; omega, by
  rw [Rat.den_ofNat, Nat.pow_succ]; have := nat2_pos n; show 1 < 2 ^ n * 2; omega⟩
end FF

set_option Elab.async false
set_option linter.all false
set_option maxRecDepth 100000
set_option maxHeartbeats 8000000
/-! FF25: whiles; lowest terms. -/
namespace FF
section
variable {Γ : Sem} {s : Slot} {ρ : Env}
/-- a while's test and turn -/
def tstW (Γ : Sem) (c : E) (ρ : Env) : T Bool := blT (ev Γ c true ρ)
def trnW (Γ : Sem) (b : List S) (ρ : Env) : T Xs := execs Γ b ρ
theorem x_wh {f : Nat} {c : E} {b : List S} : exec Γ (.whl f c b) (s :: ρ) = whlL (tstW Γ c) (trnW Γ b) f (s :: ρ) := by rw [exec]; rfl
theorem whl_go {c : Env → T Bool} {b : Env → T Xs} {n : Nat} {ρ ρ' : Env} (h : c ρ = .ret true) (g : b ρ = .ret (.nx, ρ')) : whlL c b (n + 1) ρ = whlL c b n ρ' := by
  rw [whlL, h]
  simp only [T.bind, cond_true, g]
theorem whl_end {c : Env → T Bool} {b : Env → T Xs} {n : Nat} {ρ : Env} (h : c ρ = .ret false) : whlL c b (n + 1) ρ = .ret (.nx, ρ) := by
  rw [whlL, h]; rfl
end
def im_gcdT : E := (.cmp .gt (.v 3) (.c (.int 0)))
def im_gcdB : List S := [(.box 4 false (.bin .mod (.bi .int [(.v 2)]) (.v 3))), (.box 2 false (.v 3)), (.box 3 false (.v 4))]
theorem gcd_turn {Γ : Sem} {a b s4 s5 : Slot} {one other : Int} (h : 0 < other) : trnW Γ im_gcdB [a, b, .pl (.int one), .pl (.int other), s4, s5] = .ret (.nx, [a, b, .pl (.int other), .pl (.int (one % other)), .pl (.int (one % other)), s5]) := by
  simp (maxSteps := 10000000) (disch := omega) [trnW, im_gcdB, k_modp, h, b_ret, o_some, map_some, obind_some, k_add, k_sub, k_mul, k_ixl, k_ixt, ix_0, ix_1, ix_2, ix_3, rd_0, rd_b, rd_l, rd_s, own_0, own_p, own_s, own_n, e_c, e_g, e_v, e_bin, neg_i, e_neg, e_cmp, e_chain, e_nt, e_and, e_or, e_tr, e_ite, e_tup, e_lst, e_ix, e_sl, e_rev, e_call, e_bi, e_isi, e_draw, e_comp, turn_cons, turn_nil, es_nil, es_cons, eS_nil, eS_cons, eC_nil, eC_cons, eA_nil, eA_cons, arg_st, bl_ret, x_nil, then_nx, then_rt, then_ct, then_bk, x_cns, x_bx, x_asgn, x_par, eR_nil, eR_cons, par_nil, par_cons, x_ixs, x_ap, x_ifs, x_rt, x_fr, loop_nx, loop_ct, loop_bk, loop_rt, for_nil, for_cons, bindA, List.replicate, List.cons_append, List.nil_append, a_nm, a_tt, a_tl, as_n, as_c, List.set_cons_zero, List.set_cons_succ, List.length_cons, List.length_nil, setS, boxS, cond_true, cond_false, Bool.and_true, Bool.and_false, Bool.true_and, Bool.false_and, if_true, lk_nil, lk_v, lk_c, lk_g, lk_bin, lk_neg, lk_cmp, lk_chain, lk_nt, lk_and2, lk_or2, lk_tr, lk_ite, lk_tup, lk_lst, lk_ix, lk_sl, lk_rev, lk_call, lk_bi, lk_isi, lk_comp, lk_comp2, lk_draw, ul_nil, ul_v, ul_c, ul_g, ul_bin, ul_neg, ul_cmp, ul_chain, ul_nt, ul_and2, ul_or2, ul_tr, ul_ite, ul_tup, ul_lst, ul_ix, ul_sl, ul_rev, ul_call, ul_bi, ul_isi, ul_comp, ul_comp2, ul_draw, isV, tgS, tgSs, wipeE, rt_v, rt_c, rt_g, rt_bin, rt_neg, rt_cmp, rt_chain, rt_nt, rt_and2, rt_or2, rt_tr, rt_ite, rt_tup, rt_lst, rt_ix, rt_sl, rt_rev, rt_call, rt_bi, rt_isi, rt_comp, rt_comp2, rt_draw, b_lenl, b_lent, b_lens, b_abs, b_sum, b_max, b_min, b_max2, b_min2, b_tupl, b_tupt, b_lstl, b_lstt, b_inti, b_intb, b_all, b_any, b_gcd, is_nil, is_cons, bs_nil, bs_cons, s_seql, s_seqt, s_seqs, s_r1, s_r2, s_zip, s_zipt, s_enum, s_enumt, s_rev, s_revt, s_rr, z_cons, z_nil, z_nil2, n_cons, n_nil, sl_l, sl_t, one_0, one_1, cut_from, cut_to, rv_l, tr_n, tr_b, tr_i, tr_l, tr_t, x_rtN, x_brk, x_cnt, x_pas, x_frz, x_drp, List.getElem?_cons_zero, List.getElem?_cons_succ, arg_c, arg_g, arg_bin, arg_neg, arg_cmp, arg_chain, arg_nt, arg_and2, arg_or2, arg_tr, arg_ite, arg_tup, arg_lst, arg_ix, arg_sl, arg_rev, arg_call, arg_bi, arg_isi, arg_comp, arg_draw, bind_drw, blT_drw, then_drw, loop_drw, all_drw, all_ret, c_lt, c_le, c_gt, c_ge, c_eq, c_ne, c_isN, c_notN, isNon, q_eq, F_inj, k_addl, k_addt, k_ap, rng2, line, rangeL, List.sum_cons, List.sum_nil, tyD, allTy, run]
theorem gcd_test {Γ : Sem} {a b s4 s5 : Slot} {one other : Int} : tstW Γ im_gcdT [a, b, .pl (.int one), .pl (.int other), s4, s5] = .ret (decide (0 < other)) := by
  simp (maxSteps := 10000000) (disch := omega) [tstW, im_gcdT, b_ret, o_some, map_some, obind_some, k_add, k_sub, k_mul, k_ixl, k_ixt, ix_0, ix_1, ix_2, ix_3, rd_0, rd_b, rd_l, rd_s, own_0, own_p, own_s, own_n, e_c, e_g, e_v, e_bin, neg_i, e_neg, e_cmp, e_chain, e_nt, e_and, e_or, e_tr, e_ite, e_tup, e_lst, e_ix, e_sl, e_rev, e_call, e_bi, e_isi, e_draw, e_comp, turn_cons, turn_nil, es_nil, es_cons, eS_nil, eS_cons, eC_nil, eC_cons, eA_nil, eA_cons, arg_st, bl_ret, x_nil, then_nx, then_rt, then_ct, then_bk, x_cns, x_bx, x_asgn, x_par, eR_nil, eR_cons, par_nil, par_cons, x_ixs, x_ap, x_ifs, x_rt, x_fr, loop_nx, loop_ct, loop_bk, loop_rt, for_nil, for_cons, bindA, List.replicate, List.cons_append, List.nil_append, a_nm, a_tt, a_tl, as_n, as_c, List.set_cons_zero, List.set_cons_succ, List.length_cons, List.length_nil, setS, boxS, cond_true, cond_false, Bool.and_true, Bool.and_false, Bool.true_and, Bool.false_and, if_true, lk_nil, lk_v, lk_c, lk_g, lk_bin, lk_neg, lk_cmp, lk_chain, lk_nt, lk_and2, lk_or2, lk_tr, lk_ite, lk_tup, lk_lst, lk_ix, lk_sl, lk_rev, lk_call, lk_bi, lk_isi, lk_comp, lk_comp2, lk_draw, ul_nil, ul_v, ul_c, ul_g, ul_bin, ul_neg, ul_cmp, ul_chain, ul_nt, ul_and2, ul_or2, ul_tr, ul_ite, ul_tup, ul_lst, ul_ix, ul_sl, ul_rev, ul_call, ul_bi, ul_isi, ul_comp, ul_comp2, ul_draw, isV, tgS, tgSs, wipeE, rt_v, rt_c, rt_g, rt_bin, rt_neg, rt_cmp, rt_chain, rt_nt, rt_and2, rt_or2, rt_tr, rt_ite, rt_tup, rt_lst, rt_ix, rt_sl, rt_rev, rt_call, rt_bi, rt_isi, rt_comp, rt_comp2, rt_draw, b_lenl, b_lent, b_lens, b_abs, b_sum, b_max, b_min, b_max2, b_min2, b_tupl, b_tupt, b_lstl, b_lstt, b_inti, b_intb, b_all, b_any, b_gcd, is_nil, is_cons, bs_nil, bs_cons, s_seql, s_seqt, s_seqs, s_r1, s_r2, s_zip, s_zipt, s_enum, s_enumt, s_rev, s_revt, s_rr, z_cons, z_nil, z_nil2, n_cons, n_nil, sl_l, sl_t, one_0, one_1, cut_from, cut_to, rv_l, tr_n, tr_b, tr_i, tr_l, tr_t, x_rtN, x_brk, x_cnt, x_pas, x_frz, x_drp, List.getElem?_cons_zero, List.getElem?_cons_succ, arg_c, arg_g, arg_bin, arg_neg, arg_cmp, arg_chain, arg_nt, arg_and2, arg_or2, arg_tr, arg_ite, arg_tup, arg_lst, arg_ix, arg_sl, arg_rev, arg_call, arg_bi, arg_isi, arg_comp, arg_draw, bind_drw, blT_drw, then_drw, loop_drw, all_drw, all_ret, c_lt, c_le, c_gt, c_ge, c_eq, c_ne, c_isN, c_notN, isNon, q_eq, F_inj, k_addl, k_addt, k_ap, rng2, line, rangeL, List.sum_cons, List.sum_nil, tyD, allTy, run]
theorem gcd_loop {Γ : Sem} {a b s5 : Slot} : ∀ (k n one other : Nat) (s4 : Slot), other < 2 ^ k → 2 * k + 1 ≤ n → ∃ s4', whlL (tstW Γ im_gcdT) (trnW Γ im_gcdB) n [a, b, .pl (.int (one : Int)), .pl (.int (other : Int)), s4, s5] = .ret (.nx, [a, b, .pl (.int (Nat.gcd one other : Nat)), .pl (.int 0), s4', s5])
  | 0, n + 1, one, other, s4, h, hn => by
    have e : other = 0 := by omega
    subst e
    exact ⟨s4, by rw [whl_end gcd_test, Nat.gcd_zero_right]; rfl⟩
  | k + 1, n + 2, one, other, s4, h, hn => by
    by_cases h0 : other = 0
    · subst h0
      exact ⟨s4, by rw [whl_end gcd_test, Nat.gcd_zero_right]; rfl⟩
    · have e1 : ((one : Int) % (other : Int)) = ((one % other : Nat) : Int) := by omega
      have t1 : decide (0 < (other : Int)) = true := decide_eq_true (by omega)
      by_cases h1 : one % other = 0
      · refine ⟨.pl (.int ((one % other : Nat) : Int)), ?_⟩
        rw [whl_go (gcd_test.trans (by rw [t1])) (gcd_turn (by omega)), e1, h1, whl_end gcd_test, Nat.gcd_comm, Nat.gcd_rec, h1, Nat.gcd_zero_left]; rfl
      · have hlt : one % other < other := Nat.mod_lt _ (by omega)
        have t2 : decide (0 < ((one % other : Nat) : Int)) = true := decide_eq_true (by omega)
        have e2 : ((other : Int) % ((one % other : Nat) : Int)) = ((other % (one % other) : Nat) : Int) := by omega
        have hs : other % (one % other) < 2 ^ k := by
          have g1 := Nat.mod_lt other (show 0 < one % other by omega)
          have g2 := Nat.div_add_mod other (one % other)
          have g3 : 1 ≤ other / (one % other) := Nat.div_pos (by omega) (by omega)
          have g4 : (one % other) ≤ (one % other) * (other / (one % other)) := Nat.le_mul_of_pos_right _ (by omega)
          rw [Nat.pow_succ] at h
          omega
        obtain ⟨s4', e⟩ := gcd_loop k n (one % other) (other % (one % other)) (.pl (.int ((other % (one % other) : Nat) : Int))) hs (by omega)
        refine ⟨s4', ?_⟩
        rw [whl_go (gcd_test.trans (by rw [t1])) (gcd_turn (by omega)), e1, whl_go (gcd_test.trans (by rw [t2])) (gcd_turn (by omega)), e2, e, Nat.gcd_comm one other, Nat.gcd_rec other one, Nat.gcd_rec (one % other) other, Nat.gcd_comm]
def im_law_lowest : List S := [(.par [(2, false), (3, false)] [(.bi .abs [(.v 0)]), (.bi .abs [(.v 1)])]), (.whl 1000000 im_gcdT im_gcdB), (.box 5 false (.ite (.cmp .lt (.v 1) (.c (.int 0))) (.neg (.c (.int 1))) (.c (.int 1)))), (.ret (.tup [(.bin .fdiv (.bin .mul (.v 5) (.v 0)) (.v 2)), (.bin .fdiv (.bin .mul (.v 5) (.v 1)) (.v 2))]))]
theorem abs_nat (a : Int) : (if a < 0 then -a else a) = (a.natAbs : Int) := by split <;> omega
theorem law_lowest {Γ : Sem} {a b : Int} {m n : Nat} [ha : Sm m a] [hb : Sm n b] (h : b ≠ 0) (hm : m ≤ 8000) (hn : n ≤ 8000) : run Γ im_law_lowest 4 [.d (.int a), .d (.int b)] = .ret (F (Rat.divInt a b), false) := by
  obtain ⟨s4, e⟩ := gcd_loop (Γ := Γ) (a := .pl (.int a)) (b := .pl (.int b)) (s5 := .no) n 1000000 a.natAbs b.natAbs .no hb.lt (by omega)
  have g0 : 0 < Nat.gcd a.natAbs b.natAbs := Nat.gcd_pos_of_pos_right _ (by omega)
  have g1 : Nat.gcd a.natAbs b.natAbs ≤ b.natAbs := Nat.gcd_le_right _ (by omega)
  have sg : Sm n ((Nat.gcd a.natAbs b.natAbs : Nat) : Int) := ⟨by have := hb.lt; omega⟩
  have hF : F (Rat.divInt a b) = .tup [.int ((if b < 0 then -1 else 1) * a / (Nat.gcd a.natAbs b.natAbs : Nat)), .int ((if b < 0 then -1 else 1) * b / (Nat.gcd a.natAbs b.natAbs : Nat))] := by
    unfold F
    rw [Rat.num_divInt, Rat.den_divInt, if_neg h, Int.gcd, Nat.gcd_comm]
    congr 2
    · congr 2
      rcases Int.lt_or_gt_of_ne h with q | q
      · rw [if_pos q, Int.sign_eq_neg_one_of_neg q]
      · rw [if_neg (by omega), Int.sign_eq_one_of_pos q]
    · congr 2
      rw [Int.natCast_ediv]
      congr 1
      split <;> omega
  rw [hF]
  have tp : (0 : Int) < ((Nat.gcd a.natAbs b.natAbs : Nat) : Int) := by omega
  generalize ((Nat.gcd a.natAbs b.natAbs : Nat) : Int) = g at *
  by_cases q : b < 0
  · simp (maxSteps := 10000000) (disch := omega) [im_law_lowest, x_wh, e, k_fdivp, tp, q, b_ret, o_some, map_some, obind_some, k_add, k_sub, k_mul, k_ixl, k_ixt, ix_0, ix_1, ix_2, ix_3, rd_0, rd_b, rd_l, rd_s, own_0, own_p, own_s, own_n, e_c, e_g, e_v, e_bin, neg_i, e_neg, e_cmp, e_chain, e_nt, e_and, e_or, e_tr, e_ite, e_tup, e_lst, e_ix, e_sl, e_rev, e_call, e_bi, e_isi, e_draw, e_comp, turn_cons, turn_nil, es_nil, es_cons, eS_nil, eS_cons, eC_nil, eC_cons, eA_nil, eA_cons, arg_st, bl_ret, x_nil, then_nx, then_rt, then_ct, then_bk, x_cns, x_bx, x_asgn, x_par, eR_nil, eR_cons, par_nil, par_cons, x_ixs, x_ap, x_ifs, x_rt, x_fr, loop_nx, loop_ct, loop_bk, loop_rt, for_nil, for_cons, bindA, List.replicate, List.cons_append, List.nil_append, a_nm, a_tt, a_tl, as_n, as_c, List.set_cons_zero, List.set_cons_succ, List.length_cons, List.length_nil, setS, boxS, cond_true, cond_false, Bool.and_true, Bool.and_false, Bool.true_and, Bool.false_and, if_true, lk_nil, lk_v, lk_c, lk_g, lk_bin, lk_neg, lk_cmp, lk_chain, lk_nt, lk_and2, lk_or2, lk_tr, lk_ite, lk_tup, lk_lst, lk_ix, lk_sl, lk_rev, lk_call, lk_bi, lk_isi, lk_comp, lk_comp2, lk_draw, ul_nil, ul_v, ul_c, ul_g, ul_bin, ul_neg, ul_cmp, ul_chain, ul_nt, ul_and2, ul_or2, ul_tr, ul_ite, ul_tup, ul_lst, ul_ix, ul_sl, ul_rev, ul_call, ul_bi, ul_isi, ul_comp, ul_comp2, ul_draw, isV, tgS, tgSs, wipeE, rt_v, rt_c, rt_g, rt_bin, rt_neg, rt_cmp, rt_chain, rt_nt, rt_and2, rt_or2, rt_tr, rt_ite, rt_tup, rt_lst, rt_ix, rt_sl, rt_rev, rt_call, rt_bi, rt_isi, rt_comp, rt_comp2, rt_draw, b_lenl, b_lent, b_lens, b_abs, b_sum, b_max, b_min, b_max2, b_min2, b_tupl, b_tupt, b_lstl, b_lstt, b_inti, b_intb, b_all, b_any, b_gcd, is_nil, is_cons, bs_nil, bs_cons, s_seql, s_seqt, s_seqs, s_r1, s_r2, s_zip, s_zipt, s_enum, s_enumt, s_rev, s_revt, s_rr, z_cons, z_nil, z_nil2, n_cons, n_nil, sl_l, sl_t, one_0, one_1, cut_from, cut_to, rv_l, tr_n, tr_b, tr_i, tr_l, tr_t, x_rtN, x_brk, x_cnt, x_pas, x_frz, x_drp, List.getElem?_cons_zero, List.getElem?_cons_succ, arg_c, arg_g, arg_bin, arg_neg, arg_cmp, arg_chain, arg_nt, arg_and2, arg_or2, arg_tr, arg_ite, arg_tup, arg_lst, arg_ix, arg_sl, arg_rev, arg_call, arg_bi, arg_isi, arg_comp, arg_draw, bind_drw, blT_drw, then_drw, loop_drw, all_drw, all_ret, c_lt, c_le, c_gt, c_ge, c_eq, c_ne, c_isN, c_notN, isNon, q_eq, F_inj, k_addl, k_addt, k_ap, rng2, line, rangeL, List.sum_cons, List.sum_nil, tyD, allTy, run]
  · simp (maxSteps := 10000000) (disch := omega) [im_law_lowest, x_wh, e, k_fdivp, tp, q, b_ret, o_some, map_some, obind_some, k_add, k_sub, k_mul, k_ixl, k_ixt, ix_0, ix_1, ix_2, ix_3, rd_0, rd_b, rd_l, rd_s, own_0, own_p, own_s, own_n, e_c, e_g, e_v, e_bin, neg_i, e_neg, e_cmp, e_chain, e_nt, e_and, e_or, e_tr, e_ite, e_tup, e_lst, e_ix, e_sl, e_rev, e_call, e_bi, e_isi, e_draw, e_comp, turn_cons, turn_nil, es_nil, es_cons, eS_nil, eS_cons, eC_nil, eC_cons, eA_nil, eA_cons, arg_st, bl_ret, x_nil, then_nx, then_rt, then_ct, then_bk, x_cns, x_bx, x_asgn, x_par, eR_nil, eR_cons, par_nil, par_cons, x_ixs, x_ap, x_ifs, x_rt, x_fr, loop_nx, loop_ct, loop_bk, loop_rt, for_nil, for_cons, bindA, List.replicate, List.cons_append, List.nil_append, a_nm, a_tt, a_tl, as_n, as_c, List.set_cons_zero, List.set_cons_succ, List.length_cons, List.length_nil, setS, boxS, cond_true, cond_false, Bool.and_true, Bool.and_false, Bool.true_and, Bool.false_and, if_true, lk_nil, lk_v, lk_c, lk_g, lk_bin, lk_neg, lk_cmp, lk_chain, lk_nt, lk_and2, lk_or2, lk_tr, lk_ite, lk_tup, lk_lst, lk_ix, lk_sl, lk_rev, lk_call, lk_bi, lk_isi, lk_comp, lk_comp2, lk_draw, ul_nil, ul_v, ul_c, ul_g, ul_bin, ul_neg, ul_cmp, ul_chain, ul_nt, ul_and2, ul_or2, ul_tr, ul_ite, ul_tup, ul_lst, ul_ix, ul_sl, ul_rev, ul_call, ul_bi, ul_isi, ul_comp, ul_comp2, ul_draw, isV, tgS, tgSs, wipeE, rt_v, rt_c, rt_g, rt_bin, rt_neg, rt_cmp, rt_chain, rt_nt, rt_and2, rt_or2, rt_tr, rt_ite, rt_tup, rt_lst, rt_ix, rt_sl, rt_rev, rt_call, rt_bi, rt_isi, rt_comp, rt_comp2, rt_draw, b_lenl, b_lent, b_lens, b_abs, b_sum, b_max, b_min, b_max2, b_min2, b_tupl, b_tupt, b_lstl, b_lstt, b_inti, b_intb, b_all, b_any, b_gcd, is_nil, is_cons, bs_nil, bs_cons, s_seql, s_seqt, s_seqs, s_r1, s_r2, s_zip, s_zipt, s_enum, s_enumt, s_rev, s_revt, s_rr, z_cons, z_nil, z_nil2, n_cons, n_nil, sl_l, sl_t, one_0, one_1, cut_from, cut_to, rv_l, tr_n, tr_b, tr_i, tr_l, tr_t, x_rtN, x_brk, x_cnt, x_pas, x_frz, x_drp, List.getElem?_cons_zero, List.getElem?_cons_succ, arg_c, arg_g, arg_bin, arg_neg, arg_cmp, arg_chain, arg_nt, arg_and2, arg_or2, arg_tr, arg_ite, arg_tup, arg_lst, arg_ix, arg_sl, arg_rev, arg_call, arg_bi, arg_isi, arg_comp, arg_draw, bind_drw, blT_drw, then_drw, loop_drw, all_drw, all_ret, c_lt, c_le, c_gt, c_ge, c_eq, c_ne, c_isN, c_notN, isNon, q_eq, F_inj, k_addl, k_addt, k_ap, rng2, line, rangeL, List.sum_cons, List.sum_nil, tyD, allTy, run]
def im_lowest : List S := [(.box 2 false (.ite (.cmp .gt (.v 1) (.c (.int 0))) (.bi .gcd [(.v 0), (.v 1)]) (.neg (.bi .gcd [(.v 0), (.v 1)])))), (.ret (.tup [(.bin .fdiv (.v 0) (.v 2)), (.bin .fdiv (.v 1) (.v 2))]))]
theorem lowest {Γ : Sem} {a b : Int} {n : Nat} [hb : Sm n b] (h : b ≠ 0) (hn : n ≤ 8000) : run Γ im_lowest 1 [.d (.int a), .d (.int b)] = .ret (F (Rat.divInt a b), false) := by
  have g0 : 0 < Nat.gcd a.natAbs b.natAbs := Nat.gcd_pos_of_pos_right _ (by omega)
  have g1 : Nat.gcd a.natAbs b.natAbs ≤ b.natAbs := Nat.gcd_le_right _ (by omega)
  have sg : Sm n ((Nat.gcd a.natAbs b.natAbs : Nat) : Int) := ⟨by have := hb.lt; omega⟩
  have tp : (0 : Int) < ((Nat.gcd a.natAbs b.natAbs : Nat) : Int) := by omega
  have d1 : ((Nat.gcd a.natAbs b.natAbs : Nat) : Int) ∣ a := Int.ofNat_dvd_left.mpr (Nat.gcd_dvd_left _ _)
  have d2 : ((Nat.gcd a.natAbs b.natAbs : Nat) : Int) ∣ b := Int.ofNat_dvd_left.mpr (Nat.gcd_dvd_right _ _)
  have hF : F (Rat.divInt a b) = .tup [.int (b.sign * a / (Nat.gcd a.natAbs b.natAbs : Nat)), .int (b.natAbs / (Nat.gcd a.natAbs b.natAbs : Nat))] := by
    unfold F
    rw [Rat.num_divInt, Rat.den_divInt, if_neg h, Int.gcd, Nat.gcd_comm, Int.natCast_ediv]
  rw [hF]
  generalize hg : ((Nat.gcd a.natAbs b.natAbs : Nat) : Int) = g at *
  rcases Int.lt_or_gt_of_ne h with q | q
  · have q' : ¬ 0 < b := by omega
    have e1 : a.fdiv (-g) = b.sign * a / g := by
      obtain ⟨c, rfl⟩ := d1
      rw [Int.sign_eq_neg_one_of_neg q, Int.fdiv_eq_ediv_of_dvd (by rw [Int.neg_dvd]; exact Int.dvd_mul_right _ _), Int.ediv_neg, Int.mul_ediv_cancel_left _ (by omega), Int.neg_one_mul, ← Int.mul_neg, Int.mul_ediv_cancel_left _ (by omega)]
    have e2 : b.fdiv (-g) = b.natAbs / g := by
      rw [show ((b.natAbs : Nat) : Int) = -b by omega]
      obtain ⟨c, rfl⟩ := d2
      rw [Int.fdiv_eq_ediv_of_dvd (by rw [Int.neg_dvd]; exact Int.dvd_mul_right _ _), Int.ediv_neg, Int.mul_ediv_cancel_left _ (by omega), ← Int.mul_neg, Int.mul_ediv_cancel_left _ (by omega)]
    have n0 : -g ≠ 0 := by omega
    rw [← e1, ← e2]
    simp (maxSteps := 10000000) (disch := omega) [im_lowest, hg, q', k_fdiv, n0, b_ret, o_some, map_some, obind_some, k_add, k_sub, k_mul, k_ixl, k_ixt, ix_0, ix_1, ix_2, ix_3, rd_0, rd_b, rd_l, rd_s, own_0, own_p, own_s, own_n, e_c, e_g, e_v, e_bin, neg_i, e_neg, e_cmp, e_chain, e_nt, e_and, e_or, e_tr, e_ite, e_tup, e_lst, e_ix, e_sl, e_rev, e_call, e_bi, e_isi, e_draw, e_comp, turn_cons, turn_nil, es_nil, es_cons, eS_nil, eS_cons, eC_nil, eC_cons, eA_nil, eA_cons, arg_st, bl_ret, x_nil, then_nx, then_rt, then_ct, then_bk, x_cns, x_bx, x_asgn, x_par, eR_nil, eR_cons, par_nil, par_cons, x_ixs, x_ap, x_ifs, x_rt, x_fr, loop_nx, loop_ct, loop_bk, loop_rt, for_nil, for_cons, bindA, List.replicate, List.cons_append, List.nil_append, a_nm, a_tt, a_tl, as_n, as_c, List.set_cons_zero, List.set_cons_succ, List.length_cons, List.length_nil, setS, boxS, cond_true, cond_false, Bool.and_true, Bool.and_false, Bool.true_and, Bool.false_and, if_true, lk_nil, lk_v, lk_c, lk_g, lk_bin, lk_neg, lk_cmp, lk_chain, lk_nt, lk_and2, lk_or2, lk_tr, lk_ite, lk_tup, lk_lst, lk_ix, lk_sl, lk_rev, lk_call, lk_bi, lk_isi, lk_comp, lk_comp2, lk_draw, ul_nil, ul_v, ul_c, ul_g, ul_bin, ul_neg, ul_cmp, ul_chain, ul_nt, ul_and2, ul_or2, ul_tr, ul_ite, ul_tup, ul_lst, ul_ix, ul_sl, ul_rev, ul_call, ul_bi, ul_isi, ul_comp, ul_comp2, ul_draw, isV, tgS, tgSs, wipeE, rt_v, rt_c, rt_g, rt_bin, rt_neg, rt_cmp, rt_chain, rt_nt, rt_and2, rt_or2, rt_tr, rt_ite, rt_tup, rt_lst, rt_ix, rt_sl, rt_rev, rt_call, rt_bi, rt_isi, rt_comp, rt_comp2, rt_draw, b_lenl, b_lent, b_lens, b_abs, b_sum, b_max, b_min, b_max2, b_min2, b_tupl, b_tupt, b_lstl, b_lstt, b_inti, b_intb, b_all, b_any, b_gcd, is_nil, is_cons, bs_nil, bs_cons, s_seql, s_seqt, s_seqs, s_r1, s_r2, s_zip, s_zipt, s_enum, s_enumt, s_rev, s_revt, s_rr, z_cons, z_nil, z_nil2, n_cons, n_nil, sl_l, sl_t, one_0, one_1, cut_from, cut_to, rv_l, tr_n, tr_b, tr_i, tr_l, tr_t, x_rtN, x_brk, x_cnt, x_pas, x_frz, x_drp, List.getElem?_cons_zero, List.getElem?_cons_succ, arg_c, arg_g, arg_bin, arg_neg, arg_cmp, arg_chain, arg_nt, arg_and2, arg_or2, arg_tr, arg_ite, arg_tup, arg_lst, arg_ix, arg_sl, arg_rev, arg_call, arg_bi, arg_isi, arg_comp, arg_draw, bind_drw, blT_drw, then_drw, loop_drw, all_drw, all_ret, c_lt, c_le, c_gt, c_ge, c_eq, c_ne, c_isN, c_notN, isNon, q_eq, F_inj, k_addl, k_addt, k_ap, rng2, line, rangeL, List.sum_cons, List.sum_nil, tyD, allTy, run]
  · rw [Int.sign_eq_one_of_pos q, Int.one_mul, show ((b.natAbs : Nat) : Int) = b by omega]
    simp (maxSteps := 10000000) (disch := omega) [im_lowest, hg, q, k_fdivp, tp, b_ret, o_some, map_some, obind_some, k_add, k_sub, k_mul, k_ixl, k_ixt, ix_0, ix_1, ix_2, ix_3, rd_0, rd_b, rd_l, rd_s, own_0, own_p, own_s, own_n, e_c, e_g, e_v, e_bin, neg_i, e_neg, e_cmp, e_chain, e_nt, e_and, e_or, e_tr, e_ite, e_tup, e_lst, e_ix, e_sl, e_rev, e_call, e_bi, e_isi, e_draw, e_comp, turn_cons, turn_nil, es_nil, es_cons, eS_nil, eS_cons, eC_nil, eC_cons, eA_nil, eA_cons, arg_st, bl_ret, x_nil, then_nx, then_rt, then_ct, then_bk, x_cns, x_bx, x_asgn, x_par, eR_nil, eR_cons, par_nil, par_cons, x_ixs, x_ap, x_ifs, x_rt, x_fr, loop_nx, loop_ct, loop_bk, loop_rt, for_nil, for_cons, bindA, List.replicate, List.cons_append, List.nil_append, a_nm, a_tt, a_tl, as_n, as_c, List.set_cons_zero, List.set_cons_succ, List.length_cons, List.length_nil, setS, boxS, cond_true, cond_false, Bool.and_true, Bool.and_false, Bool.true_and, Bool.false_and, if_true, lk_nil, lk_v, lk_c, lk_g, lk_bin, lk_neg, lk_cmp, lk_chain, lk_nt, lk_and2, lk_or2, lk_tr, lk_ite, lk_tup, lk_lst, lk_ix, lk_sl, lk_rev, lk_call, lk_bi, lk_isi, lk_comp, lk_comp2, lk_draw, ul_nil, ul_v, ul_c, ul_g, ul_bin, ul_neg, ul_cmp, ul_chain, ul_nt, ul_and2, ul_or2, ul_tr, ul_ite, ul_tup, ul_lst, ul_ix, ul_sl, ul_rev, ul_call, ul_bi, ul_isi, ul_comp, ul_comp2, ul_draw, isV, tgS, tgSs, wipeE, rt_v, rt_c, rt_g, rt_bin, rt_neg, rt_cmp, rt_chain, rt_nt, rt_and2, rt_or2, rt_tr, rt_ite, rt_tup, rt_lst, rt_ix, rt_sl, rt_rev, rt_call, rt_bi, rt_isi, rt_comp, rt_comp2, rt_draw, b_lenl, b_lent, b_lens, b_abs, b_sum, b_max, b_min, b_max2, b_min2, b_tupl, b_tupt, b_lstl, b_lstt, b_inti, b_intb, b_all, b_any, b_gcd, is_nil, is_cons, bs_nil, bs_cons, s_seql, s_seqt, s_seqs, s_r1, s_r2, s_zip, s_zipt, s_enum, s_enumt, s_rev, s_revt, s_rr, z_cons, z_nil, z_nil2, n_cons, n_nil, sl_l, sl_t, one_0, one_1, cut_from, cut_to, rv_l, tr_n, tr_b, tr_i, tr_l, tr_t, x_rtN, x_brk, x_cnt, x_pas, x_frz, x_drp, List.getElem?_cons_zero, List.getElem?_cons_succ, arg_c, arg_g, arg_bin, arg_neg, arg_cmp, arg_chain, arg_nt, arg_and2, arg_or2, arg_tr, arg_ite, arg_tup, arg_lst, arg_ix, arg_sl, arg_rev, arg_call, arg_bi, arg_isi, arg_comp, arg_draw, bind_drw, blT_drw, then_drw, loop_drw, all_drw, all_ret, c_lt, c_le, c_gt, c_ge, c_eq, c_ne, c_isN, c_notN, isNon, q_eq, F_inj, k_addl, k_addt, k_ap, rng2, line, rangeL, List.sum_cons, List.sum_nil, tyD, allTy, run]
end FF

set_option Elab.async false
set_option linter.all false
set_option maxRecDepth 100000
set_option maxHeartbeats 8000000
/-! FF26: exact comparison as a test; the law's steps. -/
namespace FF
mutual
/-- of depth below n, lists of at most l -/
def szl : Nat → Nat → D → Bool
  | n + 1, l, .lst xs => decide (xs.length ≤ l) && szls n l xs
  | n + 1, l, .tup xs => decide (xs.length ≤ l) && szls n l xs
  | _, _, .str s => s.all (· < 1114112)
  | _, _, .non => true
  | _, _, .bl _ => true
  | _, _, .int _ => true
  | _, _, _ => false
def szls : Nat → Nat → List D → Bool
  | _, _, [] => true
  | n, l, x :: xs => szl n l x && szls n l xs
end
mutual
theorem szl_mono : ∀ {m n k l : Nat} (a : D), szl m k a = true → m ≤ n → k ≤ l → szl n l a = true
  | m, n, _, _, .non, _, _, _ => by cases n <;> simp [szl]
  | m, n, _, _, .bl _, _, _, _ => by cases n <;> simp [szl]
  | m, n, _, _, .int _, _, _, _ => by cases n <;> simp [szl]
  | m, n, _, _, .str s, h, _, _ => by cases m <;> cases n <;> simpa [szl] using h
  | m + 1, n + 1, k, l, .lst xs, h, g, e => by
    simp only [szl, Bool.and_eq_true, decide_eq_true_eq] at h ⊢; exact ⟨by omega, szls_mono xs h.2 (by omega) e⟩
  | m + 1, n + 1, k, l, .tup xs, h, g, e => by
    simp only [szl, Bool.and_eq_true, decide_eq_true_eq] at h ⊢; exact ⟨by omega, szls_mono xs h.2 (by omega) e⟩
  | 0, _, _, _, .lst _, h, _, _ => by simp [szl] at h
  | 0, _, _, _, .tup _, h, _, _ => by simp [szl] at h
  | m + 1, 0, _, _, .lst _, h, l, _ => by omega
  | m + 1, 0, _, _, .tup _, h, l, _ => by omega
  | m, n, _, _, .dic _ _, h, _, _ => by cases m <;> simp [szl] at h
theorem szls_mono : ∀ {m n k l : Nat} (xs : List D), szls m k xs = true → m ≤ n → k ≤ l → szls n l xs = true
  | m, n, _, _, [], _, _, _ => by simp [szls]
  | m, n, _, _, x :: xs, h, l, e => by
    simp only [szls, Bool.and_eq_true] at h ⊢
    exact ⟨szl_mono x h.1 l e, szls_mono xs h.2 l e⟩
end
mutual
theorem szl_sz : ∀ {n : Nat} (a : D), szl n 1000000 a = true → sz (n + 1) a = true
  | n, .non, _ => by simp [sz]
  | n, .bl _, _ => by simp [sz]
  | n, .int _, _ => by simp [sz]
  | n, .str s, h => by cases n <;> simpa [szl, sz] using h
  | n + 1, .lst xs, h => by
    simp only [szl, sz, Bool.and_eq_true] at h ⊢; exact ⟨h.1, szls_szs xs h.2⟩
  | n + 1, .tup xs, h => by
    simp only [szl, sz, Bool.and_eq_true] at h ⊢; exact ⟨h.1, szls_szs xs h.2⟩
  | 0, .lst _, h => by simp [szl] at h
  | 0, .tup _, h => by simp [szl] at h
  | n, .dic _ _, h => by cases n <;> simp [szl] at h
theorem szls_szs : ∀ {n : Nat} (xs : List D), szls n 1000000 xs = true → szs (n + 1) xs = true
  | n, [], _ => by simp [szs]
  | n, x :: xs, h => by
    simp only [szls, szs, Bool.and_eq_true] at h ⊢
    exact ⟨szl_sz x h.1, szls_szs xs h.2⟩
end
class Sz (n l : outParam Nat) (a : D) : Prop where
  h : szl n l a = true
class Szs (n l k : outParam Nat) (xs : List D) : Prop where
  h : szls n l xs = true
  len : xs.length = k
instance : Sz 0 0 .non := ⟨by simp [szl]⟩
instance {b : Bool} : Sz 0 0 (.bl b) := ⟨by simp [szl]⟩
instance {i : Int} : Sz 0 0 (.int i) := ⟨by simp [szl]⟩
instance : Szs 0 0 0 [] := ⟨by simp [szls], rfl⟩
instance {x : D} {xs : List D} {m n k l e : Nat} [a : Sz m k x] [b : Szs n l e xs] : Szs (max m n) (max k l) (e + 1) (x :: xs) := ⟨by
  simp only [szls, szl_mono x a.h (Nat.le_max_left _ _) (Nat.le_max_left _ _), szls_mono xs b.h (Nat.le_max_right _ _) (Nat.le_max_right _ _), Bool.and_self], by
  simp [b.len]⟩
instance {xs : List D} {n l e : Nat} [a : Szs n l e xs] : Sz (n + 1) (max l e) (.tup xs) := ⟨by
  simp only [szl, Bool.and_eq_true, decide_eq_true_eq, a.len]; exact ⟨Nat.le_max_right _ _, szls_mono xs a.h (Nat.le_refl _) (Nat.le_max_left _ _)⟩⟩
instance {xs : List D} {n l e : Nat} [a : Szs n l e xs] : Sz (n + 1) (max l e) (.lst xs) := ⟨by
  simp only [szl, Bool.and_eq_true, decide_eq_true_eq, a.len]; exact ⟨Nat.le_max_right _ _, szls_mono xs a.h (Nat.le_refl _) (Nat.le_max_left _ _)⟩⟩
instance {q : Rat} : Sz 1 2 (F q) := ⟨by simp [F, szl, szls]⟩
instance {c : Prop} [Decidable c] {x y : D} {m n k l : Nat} [a : Sz m k x] [b : Sz n l y] : Sz (max m n) (max k l) (if c then x else y) := ⟨by
  split
  · exact szl_mono x a.h (Nat.le_max_left _ _) (Nat.le_max_left _ _)
  · exact szl_mono y b.h (Nat.le_max_right _ _) (Nat.le_max_right _ _)⟩
/-- what exact comparison says of unlike data -/
def rx (j : Nat) (a b : D) : T Rs := r_exact j 10 [.d a, .d b]
open Classical in
theorem ex_ite {j : Nat} {a b : D} {n l : Nat} [x : Sz n l a] (h : n ≤ 9) (g : l ≤ 1000000) : r_exact j 10 [.d a, .d b] = if a = b then .ret (.bl true, false) else rx j a b := by
  split
  · rename_i e
    subst e
    exact exact_self j 10 a (szl_sz a (szl_mono a x.h h g))
  · rfl
theorem Sm.up {m n : Nat} {i : Int} (a : Sm m i) (l : m ≤ n) : Sm n i := .mono a.lt l
theorem F0 {q : Rat} : ixD (F q) (.int 0) = some (.int q.num) := rfl
theorem F1 {q : Rat} : ixD (F q) (.int 1) = some (.int q.den) := rfl
theorem dv_add {p q : Rat} : Rat.divInt (p.num * q.den + q.num * p.den) (p.den * q.den) = p + q := by
  rw [Rat.add_def', ← Rat.divInt_ofNat, Int.natCast_mul]
theorem dv_mul {p q : Rat} : Rat.divInt (p.num * q.num) (p.den * q.den) = p * q := by
  rw [Rat.mul_def', ← Rat.divInt_ofNat, Int.natCast_mul]
theorem F_neg {q : Rat} : (D.tup [.int (-q.num), .int q.den]) = F (-q) := rfl
theorem F_num {q : Rat} : (D.tup [.int q.num, .int q.den]) = F q := rfl
theorem F_one : (D.tup [.int 1, .int 1]) = F 1 := rfl
theorem F_zero : (D.tup [.int 0, .int 1]) = F 0 := rfl
theorem dd_ne {p q : Rat} : (p.den : Int) * q.den ≠ 0 := by
  have := Int.mul_pos (@den_pos p) (@den_pos q)
  omega
theorem den_ne {p : Rat} : (p.den : Int) ≠ 0 := by have := @den_pos p; omega
theorem ix_4 {α : Type} {a0 a1 a2 a3 a4 : α} {r : List α} : ixAt (a0 :: a1 :: a2 :: a3 :: a4 :: r) 4 = some a4 := rfl
theorem ix_5 {α : Type} {a0 a1 a2 a3 a4 a5 : α} {r : List α} : ixAt (a0 :: a1 :: a2 :: a3 :: a4 :: a5 :: r) 5 = some a5 := rfl
theorem ix_6 {α : Type} {a0 a1 a2 a3 a4 a5 a6 : α} {r : List α} : ixAt (a0 :: a1 :: a2 :: a3 :: a4 :: a5 :: a6 :: r) 6 = some a6 := rfl
theorem ix_7 {α : Type} {a0 a1 a2 a3 a4 a5 a6 a7 : α} {r : List α} : ixAt (a0 :: a1 :: a2 :: a3 :: a4 :: a5 :: a6 :: a7 :: r) 7 = some a7 := rfl
theorem ix_8 {α : Type} {a0 a1 a2 a3 a4 a5 a6 a7 a8 : α} {r : List α} : ixAt (a0 :: a1 :: a2 :: a3 :: a4 :: a5 :: a6 :: a7 :: a8 :: r) 8 = some a8 := rfl
theorem ix_9 {α : Type} {a0 a1 a2 a3 a4 a5 a6 a7 a8 a9 : α} {r : List α} : ixAt (a0 :: a1 :: a2 :: a3 :: a4 :: a5 :: a6 :: a7 :: a8 :: a9 :: r) 9 = some a9 := rfl
theorem ix_10 {α : Type} {a0 a1 a2 a3 a4 a5 a6 a7 a8 a9 a10 : α} {r : List α} : ixAt (a0 :: a1 :: a2 :: a3 :: a4 :: a5 :: a6 :: a7 :: a8 :: a9 :: a10 :: r) 10 = some a10 := rfl
theorem ix_11 {α : Type} {a0 a1 a2 a3 a4 a5 a6 a7 a8 a9 a10 a11 : α} {r : List α} : ixAt (a0 :: a1 :: a2 :: a3 :: a4 :: a5 :: a6 :: a7 :: a8 :: a9 :: a10 :: a11 :: r) 11 = some a11 := rfl
theorem ix_12 {α : Type} {a0 a1 a2 a3 a4 a5 a6 a7 a8 a9 a10 a11 a12 : α} {r : List α} : ixAt (a0 :: a1 :: a2 :: a3 :: a4 :: a5 :: a6 :: a7 :: a8 :: a9 :: a10 :: a11 :: a12 :: r) 12 = some a12 := rfl
theorem st_0 {a0 x : D} {r : List D} : setD (.lst (a0 :: r)) (.int 0) x = some (.lst (x :: r)) := by
  simp only [setD]; rw [if_pos (by decide), if_pos (by simp only [List.length_cons]; omega)]; rfl
theorem st_1 {a0 a1 x : D} {r : List D} : setD (.lst (a0 :: a1 :: r)) (.int 1) x = some (.lst (a0 :: x :: r)) := by
  simp only [setD]; rw [if_pos (by decide), if_pos (by simp only [List.length_cons]; omega)]; rfl
theorem st_2 {a0 a1 a2 x : D} {r : List D} : setD (.lst (a0 :: a1 :: a2 :: r)) (.int 2) x = some (.lst (a0 :: a1 :: x :: r)) := by
  simp only [setD]; rw [if_pos (by decide), if_pos (by simp only [List.length_cons]; omega)]; rfl
theorem st_3 {a0 a1 a2 a3 x : D} {r : List D} : setD (.lst (a0 :: a1 :: a2 :: a3 :: r)) (.int 3) x = some (.lst (a0 :: a1 :: a2 :: x :: r)) := by
  simp only [setD]; rw [if_pos (by decide), if_pos (by simp only [List.length_cons]; omega)]; rfl
theorem st_4 {a0 a1 a2 a3 a4 x : D} {r : List D} : setD (.lst (a0 :: a1 :: a2 :: a3 :: a4 :: r)) (.int 4) x = some (.lst (a0 :: a1 :: a2 :: a3 :: x :: r)) := by
  simp only [setD]; rw [if_pos (by decide), if_pos (by simp only [List.length_cons]; omega)]; rfl
theorem st_5 {a0 a1 a2 a3 a4 a5 x : D} {r : List D} : setD (.lst (a0 :: a1 :: a2 :: a3 :: a4 :: a5 :: r)) (.int 5) x = some (.lst (a0 :: a1 :: a2 :: a3 :: a4 :: x :: r)) := by
  simp only [setD]; rw [if_pos (by decide), if_pos (by simp only [List.length_cons]; omega)]; rfl
theorem st_6 {a0 a1 a2 a3 a4 a5 a6 x : D} {r : List D} : setD (.lst (a0 :: a1 :: a2 :: a3 :: a4 :: a5 :: a6 :: r)) (.int 6) x = some (.lst (a0 :: a1 :: a2 :: a3 :: a4 :: a5 :: x :: r)) := by
  simp only [setD]; rw [if_pos (by decide), if_pos (by simp only [List.length_cons]; omega)]; rfl
theorem st_7 {a0 a1 a2 a3 a4 a5 a6 a7 x : D} {r : List D} : setD (.lst (a0 :: a1 :: a2 :: a3 :: a4 :: a5 :: a6 :: a7 :: r)) (.int 7) x = some (.lst (a0 :: a1 :: a2 :: a3 :: a4 :: a5 :: a6 :: x :: r)) := by
  simp only [setD]; rw [if_pos (by decide), if_pos (by simp only [List.length_cons]; omega)]; rfl
theorem st_8 {a0 a1 a2 a3 a4 a5 a6 a7 a8 x : D} {r : List D} : setD (.lst (a0 :: a1 :: a2 :: a3 :: a4 :: a5 :: a6 :: a7 :: a8 :: r)) (.int 8) x = some (.lst (a0 :: a1 :: a2 :: a3 :: a4 :: a5 :: a6 :: a7 :: x :: r)) := by
  simp only [setD]; rw [if_pos (by decide), if_pos (by simp only [List.length_cons]; omega)]; rfl
theorem st_9 {a0 a1 a2 a3 a4 a5 a6 a7 a8 a9 x : D} {r : List D} : setD (.lst (a0 :: a1 :: a2 :: a3 :: a4 :: a5 :: a6 :: a7 :: a8 :: a9 :: r)) (.int 9) x = some (.lst (a0 :: a1 :: a2 :: a3 :: a4 :: a5 :: a6 :: a7 :: a8 :: x :: r)) := by
  simp only [setD]; rw [if_pos (by decide), if_pos (by simp only [List.length_cons]; omega)]; rfl
theorem st_10 {a0 a1 a2 a3 a4 a5 a6 a7 a8 a9 a10 x : D} {r : List D} : setD (.lst (a0 :: a1 :: a2 :: a3 :: a4 :: a5 :: a6 :: a7 :: a8 :: a9 :: a10 :: r)) (.int 10) x = some (.lst (a0 :: a1 :: a2 :: a3 :: a4 :: a5 :: a6 :: a7 :: a8 :: a9 :: x :: r)) := by
  simp only [setD]; rw [if_pos (by decide), if_pos (by simp only [List.length_cons]; omega)]; rfl
theorem st_11 {a0 a1 a2 a3 a4 a5 a6 a7 a8 a9 a10 a11 x : D} {r : List D} : setD (.lst (a0 :: a1 :: a2 :: a3 :: a4 :: a5 :: a6 :: a7 :: a8 :: a9 :: a10 :: a11 :: r)) (.int 11) x = some (.lst (a0 :: a1 :: a2 :: a3 :: a4 :: a5 :: a6 :: a7 :: a8 :: a9 :: a10 :: x :: r)) := by
  simp only [setD]; rw [if_pos (by decide), if_pos (by simp only [List.length_cons]; omega)]; rfl
theorem st_12 {a0 a1 a2 a3 a4 a5 a6 a7 a8 a9 a10 a11 a12 x : D} {r : List D} : setD (.lst (a0 :: a1 :: a2 :: a3 :: a4 :: a5 :: a6 :: a7 :: a8 :: a9 :: a10 :: a11 :: a12 :: r)) (.int 12) x = some (.lst (a0 :: a1 :: a2 :: a3 :: a4 :: a5 :: a6 :: a7 :: a8 :: a9 :: a10 :: a11 :: x :: r)) := by
  simp only [setD]; rw [if_pos (by decide), if_pos (by simp only [List.length_cons]; omega)]; rfl
theorem cond_dec {α : Type} {p : Prop} [Decidable p] {x y : α} : cond (decide p) x y = if p then x else y := by by_cases h : p <;> simp [h]
theorem cond_not {α : Type} {b : Bool} {x y : α} : cond (!b) x y = cond b y x := by cases b <;> rfl
theorem cond_and {α : Type} {a b : Bool} {x y : α} : cond (a && b) x y = cond a (cond b x y) y := by cases a <;> rfl
theorem cond_or {α : Type} {a b : Bool} {x y : α} : cond (a || b) x y = cond a x (cond b x y) := by cases a <;> rfl
theorem if_bind {α β : Type} {c : Prop} [Decidable c] {a b : T α} {f : α → T β} : (if c then a else b).bind f = if c then a.bind f else b.bind f := by split <;> rfl
theorem dr10 {ρ : FF.Env} {s : Int} (h : 0 < s) (g : s < 1073741824) : drawT (.scr :: .st :: ρ) 1 0 (.int s) = .drw s.toNat fun d => .ret (.int d, false) := by
  unfold drawT
  simp only [List.getElem?_cons_zero, List.getElem?_cons_succ]
  rw [if_pos ⟨h, g⟩]
theorem dr01 {ρ : FF.Env} {s : Int} (h : 0 < s) (g : s < 1073741824) : drawT (.st :: .scr :: ρ) 0 1 (.int s) = .drw s.toNat fun d => .ret (.int d, false) := by
  unfold drawT
  simp only [List.getElem?_cons_zero, List.getElem?_cons_succ]
  rw [if_pos ⟨h, g⟩]
/-- a statement and what follows, closed to unfolding -/
@[irreducible] def Wt (t : T Xs) (k : FF.Env → Prop) (Q : Xs → Prop) : Prop := t.all fun r => match r.1 with | .nx => k r.2 | _ => Q r
@[irreducible] def Wp (Γ : Sem) (ss : List S) (ρ : FF.Env) (Q : Xs → Prop) : Prop := (execs Γ ss ρ).all Q
section
variable {Γ : Sem} {s : Slot} {ρ : FF.Env} {Q : Xs → Prop} {k : FF.Env → Prop}
theorem wp_mk {ss : List S} (h : Wp Γ ss ρ Q) : (execs Γ ss ρ).all Q := by unfold Wp at h; exact h
theorem wp_of {ss : List S} (h : (execs Γ ss ρ).all Q) : Wp Γ ss ρ Q := by unfold Wp; exact h
theorem wp_nil : Wp Γ [] (s :: ρ) Q ↔ Q (.nx, s :: ρ) := by unfold Wp; rw [x_nil]; rfl
theorem wp_cons {a : S} {as : List S} : Wp Γ (a :: as) (s :: ρ) Q ↔ Wt (exec Γ a (s :: ρ)) (fun ρ => Wp Γ as ρ Q) Q := by
  unfold Wp Wt
  rw [x_cns]
  refine T.all_bind.trans (iff_of_eq ?_)
  congr 1
  funext r
  obtain ⟨f, ρ'⟩ := r
  cases f <;> rfl
theorem wt_nx : Wt (.ret (.nx, ρ)) k Q ↔ k ρ := by unfold Wt; rfl
theorem wt_rt {r : Rs} : Wt (.ret (.rt r, ρ)) k Q ↔ Q (.rt r, ρ) := by unfold Wt; rfl
theorem wt_ct : Wt (.ret (.ct, ρ)) k Q ↔ Q (.ct, ρ) := by unfold Wt; rfl
theorem wt_bk : Wt (.ret (.bk, ρ)) k Q ↔ Q (.bk, ρ) := by unfold Wt; rfl
theorem wt_drw {n : Nat} {f : Nat → T Xs} : Wt (.drw n f) k Q ↔ 0 < n ∧ ∀ d : Nat, d < n → Wt (f d) k Q := by unfold Wt; rfl
theorem wt_if {c : Prop} [Decidable c] {a b : T Xs} : Wt (if c then a else b) k Q ↔ if c then Wt a k Q else Wt b k Q := by split <;> rfl
theorem wt_imp {t : T Xs} {Q' : Xs → Prop} (h : t.all fun r => match r.1 with | .nx => k r.2 | _ => Q r) : Wt t k Q := by unfold Wt; exact h
theorem wp_all {ss : List S} {Q' : Xs → Prop} (h : Wp Γ ss ρ Q) (i : ∀ r, Q r → Q' r) : Wp Γ ss ρ Q' := by
  unfold Wp at h ⊢; exact T.all_mono i h
/-- a walk by an invariant: of the items left and the slots -/
theorem for_inv {t : Tg} {b : List S} (I : List D → FF.Env → Prop) (hs : ∀ its ρ, I its ρ → ∃ s r, ρ = s :: r) (h : ∀ x its ρ ρ', I (x :: its) ρ → asgT t x ρ = some ρ' → Wp Γ b ρ' (fun r => match r.1 with | .nx => I its r.2 | .ct => I its r.2 | .bk => k r.2 | .rt y => Q (.rt y, r.2)))
    (ha : ∀ x its ρ, I (x :: its) ρ → ∃ ρ', asgT t x ρ = some ρ') (hk : ∀ ρ, I [] ρ → k ρ) : ∀ (its : List D) (ρ : FF.Env), I its ρ → Wt (forL (turnF Γ t b) its ρ) k Q
  | [], ρ, i => by unfold Wt; exact hk ρ i
  | x :: its, ρ, i => by
    obtain ⟨ρ', e⟩ := ha x its ρ i
    have h1 := h x its ρ ρ' i e
    unfold Wp at h1
    unfold Wt
    have e2 : forL (turnF Γ t b) (x :: its) ρ = loopT (execs Γ b ρ') fun ρ => forL (turnF Γ t b) its ρ := by
      show (turnF Γ t b x ρ).bind _ = _
      unfold turnF; rw [e]; rfl
    rw [e2]
    refine T.all_bind.mpr (T.all_mono (fun r hr => ?_) h1)
    obtain ⟨f, ρ2⟩ := r
    cases f with
    | nx => have := for_inv I hs h ha hk its ρ2 hr; unfold Wt at this; exact this
    | ct => have := for_inv I hs h ha hk its ρ2 hr; unfold Wt at this; exact this
    | bk => exact hr
    | rt y => exact hr
end
section
variable {Γ : Sem} {s : Slot} {ρ : FF.Env} {Q : Xs → Prop} {k : FF.Env → Prop}
theorem wt_for {t : Tg} {sk : Sk} {ses : List E} {b : List S} {xs its : List D} (h1 : evS Γ ses (s :: ρ) = .ret xs) (h2 : srcD sk xs = some its)
    (h : Wt (forL (turnF Γ t b) its (lockS ses (s :: ρ))) (fun ρ' => k (unlockS (s :: ρ) ses ρ')) (fun r => Q (r.1, unlockS (s :: ρ) ses r.2))) : Wt (exec Γ (.forr t sk ses b) (s :: ρ)) k Q := by
  unfold Wt at h ⊢
  rw [x_fr, h1]
  show ((T.ofO (srcD sk xs)).bind _).all _
  rw [h2]
  show ((forL (turnF Γ t b) its (lockS ses (s :: ρ))).bind _).all _
  refine T.all_bind.mpr (T.all_mono (fun r hr => ?_) h)
  obtain ⟨f, ρ'⟩ := r
  cases f <;> exact hr
theorem wt_forL {t : Tg} {b : List S} {its : List D} {ρ₀ : FF.Env} {ses : List E} (h : Wt (forL (turnF Γ t b) its ρ) (fun ρ' => k (unlockS ρ₀ ses ρ')) (fun r => Q (r.1, unlockS ρ₀ ses r.2))) : Wt ((forL (turnF Γ t b) its ρ).bind fun r => .ret (r.1, unlockS ρ₀ ses r.2)) k Q := by
  unfold Wt at h ⊢
  refine T.all_bind.mpr (T.all_mono (fun r hr => ?_) h)
  obtain ⟨f, ρ'⟩ := r
  cases f <;> exact hr
theorem wt_forI {t : Tg} {b : List S} {its : List D} (h : Wt (forL (turnF Γ t b) its ρ) k Q) : Wt ((forL (turnF Γ t b) its ρ).bind fun r => .ret (r.1, r.2)) k Q := by
  unfold Wt at h ⊢
  refine T.all_bind.mpr (T.all_mono (fun r hr => ?_) h)
  obtain ⟨f, ρ'⟩ := r
  cases f <;> exact hr
theorem compL_filter {f : D → T (Option D)} {g : D → Option D} : ∀ {xs : List D}, (∀ x, x ∈ xs → f x = .ret (g x)) → compL f xs = .ret (xs.filterMap g)
  | [], _ => rfl
  | x :: xs, h => by
    rw [compL, h x List.mem_cons_self, compL_filter fun z m => h z (List.mem_cons_of_mem _ m), List.filterMap_cons]
    show T.ret _ = _
    cases g x <;> rfl
/-- what is asked of a walk's turn -/
def turnQ (I : FF.Env → Prop) (k : FF.Env → Prop) (Q : Xs → Prop) (r : Xs) : Prop := match r.1 with | .nx => I r.2 | .ct => I r.2 | .bk => k r.2 | .rt y => Q (.rt y, r.2)
theorem unl_nv {e : E} {ρ₀ : FF.Env} (he : isV e = false) : unlockS ρ₀ [e] ρ = ρ := by cases e <;> first | rfl | cases he
theorem lck_nv {e : E} (he : isV e = false) : lockS [e] ρ = ρ := by cases e <;> first | rfl | cases he
theorem wt_rangeE {i n : Nat} {e : E} {b : List S} (I : Nat → FF.Env → Prop) (hv : isV e = false) (h1 : evS Γ [e] (s :: ρ) = .ret [.int (n : Int)]) (hn : n ≤ 100000) (hl : ∀ j ρ, I j ρ → i < ρ.length) (h0 : I 0 (s :: ρ))
    (step : ∀ j ρ, j < n → I j ρ → Wp Γ b (ρ.set i (.pl (.int (j : Int)))) (turnQ (I (j + 1)) k Q)) (he : ∀ ρ, I n ρ → k ρ) : Wt (exec Γ (.forr (.nm i) .range [e] b) (s :: ρ)) k Q := by
  refine wt_for (xs := [.int (n : Int)]) (its := rangeL n 0) h1 (by rw [s_r1]; exact rng_ok (by omega)) ?_
  rw [lck_nv hv]
  simp only [unl_nv hv]
  show Wt (forL (turnF Γ (.nm i) b) (rangeL n 0) (s :: ρ)) k (fun r => Q (r.1, r.2))
  refine for_inv (fun its ρ => ∃ j, j ≤ n ∧ its = rangeL (n - j) (j : Int) ∧ I j ρ) ?_ ?_ ?_ ?_ _ _ ⟨0, by omega, by simp, h0⟩
  · rintro its ρ ⟨j, _, _, h⟩
    have := hl j ρ h
    cases ρ with
    | nil => simp at this
    | cons a r => exact ⟨a, r, rfl⟩
  · rintro x its ρ ρ' ⟨j, hj, e, h⟩ ea
    have hjn : j < n := by
      rcases Nat.lt_or_ge j n with z | z
      · exact z
      · rw [show n - j = 0 by omega] at e; cases e
    rw [show n - j = (n - (j + 1)) + 1 by omega, rangeL] at e
    injection e with e1 e2
    subst e1
    rw [a_nm, if_pos (hl j ρ h)] at ea
    cases ea
    refine wp_all (step j ρ hjn h) fun r hr => ?_
    obtain ⟨f, ρ'⟩ := r
    have p : ∀ ρ', I (j + 1) ρ' → ∃ j_1, j_1 ≤ n ∧ its = rangeL (n - j_1) (j_1 : Int) ∧ I j_1 ρ' := fun ρ' h' => ⟨j + 1, by omega, by rw [e2]; simp, h'⟩
    cases f with
    | nx => exact p _ hr
    | ct => exact p _ hr
    | bk => exact hr
    | rt y => exact hr
  · rintro x its ρ ⟨j, hj, e, h⟩
    exact ⟨_, by rw [a_nm, if_pos (hl j ρ h)]⟩
  · rintro ρ ⟨j, hj, e, h⟩
    have : n - j = 0 := by
      rcases Nat.eq_zero_or_pos (n - j) with z | z
      · exact z
      · rw [show n - j = (n - j - 1) + 1 by omega, rangeL] at e; cases e
    have : j = n := by omega
    subst this
    exact he ρ h
theorem wt_range {i n : Nat} {b : List S} (I : Nat → FF.Env → Prop) (hn : n ≤ 100000) (hl : ∀ j ρ, I j ρ → i < ρ.length) (h0 : I 0 (s :: ρ))
    (step : ∀ j ρ, j < n → I j ρ → Wp Γ b (ρ.set i (.pl (.int (j : Int)))) (turnQ (I (j + 1)) k Q)) (he : ∀ ρ, I n ρ → k ρ) : Wt (exec Γ (.forr (.nm i) .range [.c (.int (n : Int))] b) (s :: ρ)) k Q :=
  wt_rangeE I rfl (by rw [eS_cons, eS_nil, e_c]; rfl) hn hl h0 step he
end
/-- a draw: of an int -/
theorem draw_all {α : Type} {n : Nat} {k : Nat → T α} {P : α → Prop} (h0 : 0 < n) (h : ∀ d : Nat, d < n → (k d).all P) : (T.drw n k).all P := ⟨h0, h⟩
theorem go {Γ : Sem} {a : S} {as : List S} {s : Slot} {ρ ρ' : FF.Env} {Q : Xs → Prop} (h : exec Γ a (s :: ρ) = .ret (.nx, ρ')) (k : (execs Γ as ρ').all Q) : (execs Γ (a :: as) (s :: ρ)).all Q := by
  rw [x_cns, h]; exact k
theorem goA {Γ : Sem} {a : S} {as : List S} {s : Slot} {ρ : FF.Env} {Q : Xs → Prop} (h : (exec Γ a (s :: ρ)).all fun r => r.1 = .nx ∧ (execs Γ as r.2).all Q) : (execs Γ (a :: as) (s :: ρ)).all Q := by
  rw [x_cns]
  refine T.all_bind.mpr (T.all_mono (fun r hr => ?_) h)
  obtain ⟨f, ρ'⟩ := r
  obtain ⟨e, k⟩ := hr
  have e : f = .nx := e
  subst e
  exact k
end FF

set_option Elab.async false
set_option linter.all false
set_option maxRecDepth 100000
set_option maxHeartbeats 8000000
/-! FF27: walks in a def; more sizes. -/
namespace FF
section
variable {Γ : Sem} {ρ : FF.Env}
theorem for_exL {f : D → FF.Env → T Xs} (I : List D → FF.Env → Prop) (step : ∀ x its ρ, I (x :: its) ρ → ∃ ρ', f x ρ = .ret (.nx, ρ') ∧ I its ρ') : ∀ (its : List D) (ρ : FF.Env), I its ρ → ∃ ρ', forL f its ρ = .ret (.nx, ρ') ∧ I [] ρ'
  | [], ρ, h => ⟨ρ, rfl, h⟩
  | x :: its, ρ, h => by
    obtain ⟨ρ1, e1, h1⟩ := step x its ρ h
    obtain ⟨ρ2, e2, h2⟩ := for_exL I step its ρ1 h1
    exact ⟨ρ2, by rw [forL, e1]; exact e2, h2⟩
theorem for_ex {f : D → FF.Env → T Xs} (I : Nat → FF.Env → Prop) {n : Nat} (h0 : I 0 ρ) (step : ∀ (j : Nat) ρ, j < n → I j ρ → ∃ ρ', f (.int (j : Int)) ρ = .ret (.nx, ρ') ∧ I (j + 1) ρ') : ∃ ρ', forL f (rangeL n 0) ρ = .ret (.nx, ρ') ∧ I n ρ' := by
  have := for_exL (f := f) (fun its ρ => ∃ j, j ≤ n ∧ its = rangeL (n - j) (j : Int) ∧ I j ρ) (fun x its ρ h => by
    obtain ⟨j, hj, e, h⟩ := h
    have hjn : j < n := by
      rcases Nat.lt_or_ge j n with z | z
      · exact z
      · rw [show n - j = 0 by omega] at e; cases e
    rw [show n - j = (n - (j + 1)) + 1 by omega, rangeL] at e
    injection e with e1 e2
    subst e1
    obtain ⟨ρ', a, b⟩ := step j ρ hjn h
    exact ⟨ρ', a, j + 1, by omega, by rw [e2]; simp, b⟩) (rangeL n 0) ρ ⟨0, by omega, by simp, h0⟩
  obtain ⟨ρ', a, j, hj, e, h⟩ := this
  have : n - j = 0 := by
    rcases Nat.eq_zero_or_pos (n - j) with z | z
    · exact z
    · rw [show n - j = (n - j - 1) + 1 by omega, rangeL] at e; cases e
  have : j = n := by omega
  subst this
  exact ⟨ρ', a, h⟩
end
instance {i j : Int} {m : Nat} [a : Sm m i] : Sm m (i / j) := ⟨Nat.lt_of_le_of_lt (Int.natAbs_ediv_le_natAbs i j) a.lt⟩
instance {i : Int} {n : Nat} [a : Sm n i] : Sm n ((i.natAbs : Nat) : Int) := ⟨by rw [Int.natAbs_natCast]; exact a.lt⟩
theorem sm_le {i B : Int} {n : Nat} (h1 : -B ≤ i) (h2 : i ≤ B) (hB : B < 2 ^ n) : Sm n i := ⟨by
  have : ((2 ^ n : Nat) : Int) = 2 ^ n := by push_cast; rfl
  omega⟩
open Classical in
theorem any_pln : ∀ (n : Nat) (y : D) (xs : List D), pln n y = true → plns n xs = true → anyEq y xs = some (decide (y ∈ xs))
  | _, _, [], _, _ => by simp [anyEq]
  | n, y, x :: xs, h, g => by
    simp only [plns, Bool.and_eq_true] at g
    rw [anyEq, any_pln n y xs h g.2, eqD_pln n x y g.1 h]
    simp only [Option.bind_some, Option.map_some, List.mem_cons, Option.some.injEq]
    by_cases h1 : x = y
    · subst h1; simp
    · have h2 : ¬ y = x := fun z => h1 z.symm
      by_cases h3 : y ∈ xs <;> simp [h1, h2, h3]
open Classical in
theorem inSeq_pl {y : D} {xs : List D} {m n : Nat} [a : Pl m y] [b : Pls n xs] (h : m ≤ 50) (g : n ≤ 50) : inSeq y xs = some (decide (y ∈ xs)) := by
  have h1 := pln_mono y a.h h
  have h2 := plns_mono xs b.h g
  unfold inSeq
  rw [pln_flat 50 y h1, plns_flat 50 xs h2]
  exact any_pln 50 y xs h1 h2
open Classical in
theorem in_t {y : D} {xs : List D} {m n : Nat} [Pl m y] [Pls n xs] (h : m ≤ 50) (g : n ≤ 50) : cmpD .inn y (.tup xs) = some (decide (y ∈ xs)) := inSeq_pl h g
open Classical in
theorem nin_t {y : D} {xs : List D} {m n : Nat} [Pl m y] [Pls n xs] (h : m ≤ 50) (g : n ≤ 50) : cmpD .nin y (.tup xs) = some (!decide (y ∈ xs)) := by
  show (inSeq y xs).map _ = _
  rw [inSeq_pl h g]; rfl
open Classical in
theorem in_l {y : D} {xs : List D} {m n : Nat} [Pl m y] [Pls n xs] (h : m ≤ 50) (g : n ≤ 50) : cmpD .inn y (.lst xs) = some (decide (y ∈ xs)) := inSeq_pl h g
open Classical in
theorem nin_l {y : D} {xs : List D} {m n : Nat} [Pl m y] [Pls n xs] (h : m ≤ 50) (g : n ≤ 50) : cmpD .nin y (.lst xs) = some (!decide (y ∈ xs)) := by
  show (inSeq y xs).map _ = _
  rw [inSeq_pl h g]; rfl
/-- a closed call's value, by the kernel -/
def chk (t : T Rs) (d : D) (b : Bool) : Bool := match t with
  | .ret (x, f) => eqDB x d && (f == b)
  | _ => false
theorem chk_eq {t : T Rs} {d : D} {b : Bool} (h : chk t d b = true) : t = .ret (d, b) := by
  unfold chk at h
  split at h
  · rename_i x f
    rw [Bool.and_eq_true] at h
    rw [eqDB_eq _ _ h.1, eq_of_beq h.2]
  · cases h
theorem rng_int {n : Int} (h0 : 0 ≤ n) (h : n ≤ 1000000) : rng2 0 n = some (rangeL n.toNat 0) := by
  obtain ⟨m, rfl⟩ := Int.eq_ofNat_of_zero_le h0
  rw [Int.toNat_natCast]
  exact rng_ok (by omega)
end FF

set_option Elab.async false
set_option linter.all false
set_option maxRecDepth 100000
set_option maxHeartbeats 8000000
/-! FF28: gcd loops of any form; classes of None; the index of a list. -/
namespace FF
theorem gcd_gen {tst : FF.Env → T Bool} {trn : FF.Env → T Xs} (st : Int → Int → Slot → FF.Env) (h1 : ∀ a b s, tst (st a b s) = .ret (decide (0 < b))) (h2 : ∀ a b s, 0 < b → ∃ s', trn (st a b s) = .ret (.nx, st b (a % b) s')) : ∀ (k n one other : Nat) (s : Slot), other < 2 ^ k → 2 * k + 1 ≤ n → ∃ s', whlL tst trn n (st (one : Int) (other : Int) s) = .ret (.nx, st (Nat.gcd one other : Nat) 0 s')
  | 0, n + 1, one, other, s, h, hn => by
    have e : other = 0 := by omega
    subst e
    exact ⟨s, by rw [whl_end (by rw [h1]; rfl), Nat.gcd_zero_right]; rfl⟩
  | k + 1, n + 2, one, other, s, h, hn => by
    by_cases h0 : other = 0
    · subst h0
      exact ⟨s, by rw [whl_end (by rw [h1]; rfl), Nat.gcd_zero_right]; rfl⟩
    · have e1 : ((one : Int) % (other : Int)) = ((one % other : Nat) : Int) := by omega
      have t1 : decide (0 < (other : Int)) = true := decide_eq_true (by omega)
      obtain ⟨s1, g1⟩ := h2 one other s (by omega)
      rw [e1] at g1
      by_cases hz : one % other = 0
      · refine ⟨s1, ?_⟩
        rw [whl_go ((h1 _ _ _).trans (by rw [t1])) g1, hz, whl_end (by rw [h1]; rfl), Nat.gcd_comm, Nat.gcd_rec, hz, Nat.gcd_zero_left]; rfl
      · have hlt : one % other < other := Nat.mod_lt _ (by omega)
        have t2 : decide (0 < ((one % other : Nat) : Int)) = true := decide_eq_true (by omega)
        have e2 : ((other : Int) % ((one % other : Nat) : Int)) = ((other % (one % other) : Nat) : Int) := by omega
        have hs : other % (one % other) < 2 ^ k := by
          have g1 := Nat.mod_lt other (show 0 < one % other by omega)
          have g2 := Nat.div_add_mod other (one % other)
          have g3 : 1 ≤ other / (one % other) := Nat.div_pos (by omega) (by omega)
          have g4 : (one % other) ≤ (one % other) * (other / (one % other)) := Nat.le_mul_of_pos_right _ (by omega)
          rw [Nat.pow_succ] at h
          omega
        obtain ⟨s2, g2⟩ := h2 other (one % other : Nat) s1 (by omega)
        rw [e2] at g2
        obtain ⟨s', e⟩ := gcd_gen st h1 h2 k n (one % other) (other % (one % other)) s2 hs (by omega)
        refine ⟨s', ?_⟩
        rw [whl_go ((h1 _ _ _).trans (by rw [t1])) g1, whl_go ((h1 _ _ _).trans (by rw [t2])) g2, e, Nat.gcd_comm one other, Nat.gcd_rec other one, Nat.gcd_rec (one % other) other, Nat.gcd_comm]
def gI (i j : Int) : Int := (Int.gcd i j : Nat)
theorem gI_nn {i j : Int} : 0 ≤ gI i j := by unfold gI; omega
instance {i j : Int} {m n : Nat} [a : Sm m i] [b : Sm n j] : Sm (max m n) (gI i j) := by
  unfold gI
  by_cases h : j = 0
  · subst h
    rw [Int.gcd_zero_right]
    exact (inferInstance : Sm m ((i.natAbs : Nat) : Int)).up (Nat.le_max_left _ _)
  · have : Sm n ((Int.gcd i j : Nat) : Int) := ⟨by
      rw [Int.natAbs_natCast]
      exact Nat.lt_of_le_of_lt (Nat.le_of_dvd (by omega) (Int.gcd_dvd_natAbs_right i j)) b.lt⟩
    exact this.up (Nat.le_max_right _ _)
theorem isn_n : isNon .non = true := rfl
theorem isn_F {q : Rat} : isNon (F q) = false := rfl
theorem isn_i {i : Int} : isNon (.int i) = false := rfl
theorem wt_all {α : Type} {t : T α} {P : α → Prop} {k : α → T Xs} {K : FF.Env → Prop} {Q : Xs → Prop} (ht : t.all P) (h : ∀ r, P r → Wt (k r) K Q) : Wt (t.bind k) K Q := by
  unfold Wt at *
  exact T.all_bind.mpr (T.all_mono (fun r hr => h r hr) ht)
end FF

set_option Elab.async false
set_option linter.all false
set_option maxRecDepth 100000
set_option maxHeartbeats 8000000
namespace K95
open PySem PySem.Spec PyProof.Rows L2 FF
def topS (i : Nat) : Stmt := PySem.Challenge.pw_fourfolds_k95_whole_fractions_side_by_si.main.body.getD i (.Pass ⟨0, 0, 0, 0⟩)
abbrev t_refill : Stmt := topS 7
abbrev t_draw : Stmt := topS 8
abbrev t_farey : Stmt := topS 1
def c_farey : Cfg := { N := ["most", "told", "a", "b", "c", "d", "many"], fns := [], cns := [], boxes := ["told"], gcd := false }
abbrev t__law_lowest : Stmt := topS 10
def c__law_lowest : Cfg := { N := ["above", "below", "one", "other", "rest", "sign"], fns := [], cns := [], boxes := [], gcd := false }
abbrev t_are_neighbours : Stmt := topS 3
def c_are_neighbours : Cfg := { N := ["one", "other"], fns := [], cns := [], boxes := [], gcd := false }
abbrev t__law_exact : Stmt := topS 9
def c__law_exact : Cfg := { N := ["first", "second", "k", "alike"], fns := [("_law_exact", 3, 2)], cns := [], boxes := [], gcd := false }
abbrev t_between : Stmt := topS 2
def c_between : Cfg := { N := ["one", "other"], fns := [], cns := [], boxes := [], gcd := false }
abbrev t_by_way : Stmt := topS 5
def c_by_way : Cfg := { N := ["word", "low", "high", "sign", "here"], fns := [("between", 4, 2)], cns := [], boxes := [], gcd := false }
abbrev t_way_to : Stmt := topS 4
def c_way_to : Cfg := { N := ["place", "low", "high", "told", "here"], fns := [("between", 4, 2)], cns := [], boxes := ["told"], gcd := false }
abbrev t__law_common : Stmt := topS 11
def c__law_common : Cfg := { N := ["one", "other", "rest"], fns := [], cns := [], boxes := [], gcd := false }
abbrev t_law : Stmt := topS 12
def c_law : Cfg := { N := ["script", "state", "most", "rows", "below", "above", "told", "rising", "j", "k", "word", "low", "high", "here", "sign", "place", "other", "size"], fns := [("farey", 0, 1), ("_law_lowest", 1, 2), ("are_neighbours", 2, 2), ("_law_exact", 3, 2), ("by_way", 5, 1), ("way_to", 6, 1), ("between", 4, 2), ("_law_common", 7, 2)], cns := [], boxes := [], gcd := false }
theorem s_farey : FnScope c_farey.N ["most"] (defScope t_farey) := ⟨rfl, rfl, rfl, by decide +kernel, rfl, by decide +kernel, by decide +kernel⟩
def i_farey : List S := [(.box 1 true (.lst [(.tup [(.c (.int 0)), (.c (.int 1))]), (.tup [(.c (.int 1)), (.v 0)])])), (.whl 1000000 (.cmp .ne (.ix (.v 1) (.neg (.c (.int 1)))) (.tup [(.c (.int 1)), (.c (.int 1))])) [(.asg (.tup [(.tup [(.nm 2), (.nm 3)]), (.tup [(.nm 4), (.nm 5)])]) (.tup [(.ix (.v 1) (.neg (.c (.int 2)))), (.ix (.v 1) (.neg (.c (.int 1))))])), (.box 6 false (.bin .fdiv (.bin .add (.v 0) (.v 3)) (.v 5))), (.app 1 (.tup [(.bin .sub (.bin .mul (.v 6) (.v 4)) (.v 2)), (.bin .sub (.bin .mul (.v 6) (.v 5)) (.v 3))]))]), (.ret (.v 1))]
theorem b_farey : cSts c_farey 1000000 80 (defScope t_farey) (defBody t_farey) = some i_farey := eqO_eq (by decide +kernel)
theorem d_farey : ∀ (kV doc pm : Value) (an : Option Addr) (cdv ct : Value) (us : List Value), us.length = ["most"].length → bindArgs (PySem.W.fnOf "farey" "farey" (defArgs t_farey) (defBody t_farey) (defScope t_farey) .none kV doc pm an cdv ct) ⟨us, []⟩ = pure (((["most"] : List Str)).zip us) := fun _ _ _ _ _ _ us hl => match us, hl with | [_], _ => rfl
def g_farey : Sem := fun k => match k with | _ => fun _ => .err
def r_farey : List FF.Arg → T Rs := run g_farey i_farey 6
theorem s__law_lowest : FnScope c__law_lowest.N ["above", "below"] (defScope t__law_lowest) := ⟨rfl, rfl, rfl, by decide +kernel, rfl, by decide +kernel, by decide +kernel⟩
def i__law_lowest : List S := [(.par [(2, false), (3, false)] [(.bi .abs [(.v 0)]), (.bi .abs [(.v 1)])]), (.whl 1000000 (.cmp .gt (.v 3) (.c (.int 0))) [(.box 4 false (.bin .mod (.bi .int [(.v 2)]) (.v 3))), (.box 2 false (.v 3)), (.box 3 false (.v 4))]), (.box 5 false (.ite (.cmp .lt (.v 1) (.c (.int 0))) (.neg (.c (.int 1))) (.c (.int 1)))), (.ret (.tup [(.bin .fdiv (.bin .mul (.v 5) (.v 0)) (.v 2)), (.bin .fdiv (.bin .mul (.v 5) (.v 1)) (.v 2))]))]
theorem b__law_lowest : cSts c__law_lowest 1000000 80 (defScope t__law_lowest) (defBody t__law_lowest) = some i__law_lowest := eqO_eq (by decide +kernel)
theorem d__law_lowest : ∀ (kV doc pm : Value) (an : Option Addr) (cdv ct : Value) (us : List Value), us.length = ["above", "below"].length → bindArgs (PySem.W.fnOf "_law_lowest" "_law_lowest" (defArgs t__law_lowest) (defBody t__law_lowest) (defScope t__law_lowest) .none kV doc pm an cdv ct) ⟨us, []⟩ = pure (((["above", "below"] : List Str)).zip us) := fun _ _ _ _ _ _ us hl => match us, hl with | [_, _], _ => rfl
def g__law_lowest : Sem := fun k => match k with | _ => fun _ => .err
def r__law_lowest : List FF.Arg → T Rs := run g__law_lowest i__law_lowest 4
theorem s_are_neighbours : FnScope c_are_neighbours.N ["one", "other"] (defScope t_are_neighbours) := ⟨rfl, rfl, rfl, by decide +kernel, rfl, by decide +kernel, by decide +kernel⟩
def i_are_neighbours : List S := [(.ret (.cmp .eq (.bi .abs [(.bin .sub (.bin .mul (.ix (.v 0) (.c (.int 0))) (.ix (.v 1) (.c (.int 1)))) (.bin .mul (.ix (.v 0) (.c (.int 1))) (.ix (.v 1) (.c (.int 0)))))]) (.c (.int 1))))]
theorem b_are_neighbours : cSts c_are_neighbours 1000000 80 (defScope t_are_neighbours) (defBody t_are_neighbours) = some i_are_neighbours := eqO_eq (by decide +kernel)
theorem d_are_neighbours : ∀ (kV doc pm : Value) (an : Option Addr) (cdv ct : Value) (us : List Value), us.length = ["one", "other"].length → bindArgs (PySem.W.fnOf "are_neighbours" "are_neighbours" (defArgs t_are_neighbours) (defBody t_are_neighbours) (defScope t_are_neighbours) .none kV doc pm an cdv ct) ⟨us, []⟩ = pure (((["one", "other"] : List Str)).zip us) := fun _ _ _ _ _ _ us hl => match us, hl with | [_, _], _ => rfl
def g_are_neighbours : Sem := fun k => match k with | _ => fun _ => .err
def r_are_neighbours : List FF.Arg → T Rs := run g_are_neighbours i_are_neighbours 0
theorem s__law_exact : FnScope c__law_exact.N ["first", "second"] (defScope t__law_exact) := ⟨rfl, rfl, rfl, by decide +kernel, rfl, by decide +kernel, by decide +kernel⟩
theorem b__law_exact : cSts c__law_exact 1000000 80 (defScope t__law_exact) (defBody t__law_exact) = some (i_exact 3) := eqO_eq (by decide +kernel)
theorem d__law_exact : ∀ (kV doc pm : Value) (an : Option Addr) (cdv ct : Value) (us : List Value), us.length = ["first", "second"].length → bindArgs (PySem.W.fnOf "_law_exact" "_law_exact" (defArgs t__law_exact) (defBody t__law_exact) (defScope t__law_exact) .none kV doc pm an cdv ct) ⟨us, []⟩ = pure (((["first", "second"] : List Str)).zip us) := fun _ _ _ _ _ _ us hl => match us, hl with | [_, _], _ => rfl
abbrev r__law_exact : List FF.Arg → T Rs := r_exact 3 10
theorem s_between : FnScope c_between.N ["one", "other"] (defScope t_between) := ⟨rfl, rfl, rfl, by decide +kernel, rfl, by decide +kernel, by decide +kernel⟩
def i_between : List S := [(.ret (.tup [(.bin .add (.ix (.v 0) (.c (.int 0))) (.ix (.v 1) (.c (.int 0)))), (.bin .add (.ix (.v 0) (.c (.int 1))) (.ix (.v 1) (.c (.int 1))))]))]
theorem b_between : cSts c_between 1000000 80 (defScope t_between) (defBody t_between) = some i_between := eqO_eq (by decide +kernel)
theorem d_between : ∀ (kV doc pm : Value) (an : Option Addr) (cdv ct : Value) (us : List Value), us.length = ["one", "other"].length → bindArgs (PySem.W.fnOf "between" "between" (defArgs t_between) (defBody t_between) (defScope t_between) .none kV doc pm an cdv ct) ⟨us, []⟩ = pure (((["one", "other"] : List Str)).zip us) := fun _ _ _ _ _ _ us hl => match us, hl with | [_, _], _ => rfl
def g_between : Sem := fun k => match k with | _ => fun _ => .err
def r_between : List FF.Arg → T Rs := run g_between i_between 0
theorem s_by_way : FnScope c_by_way.N ["word"] (defScope t_by_way) := ⟨rfl, rfl, rfl, by decide +kernel, rfl, by decide +kernel, by decide +kernel⟩
def i_by_way : List S := [(.par [(1, false), (2, false)] [(.tup [(.c (.int 0)), (.c (.int 1))]), (.tup [(.c (.int 1)), (.c (.int 0))])]), (.forr (.nm 3) .seq [(.v 0)] [(.box 4 false (.call 4 [(.v 1), (.v 2)])), (.ifs (.cmp .eq (.v 3) (.c (.str [108]))) [(.box 2 false (.v 4))] [(.box 1 false (.v 4))])]), (.ret (.call 4 [(.v 1), (.v 2)]))]
theorem b_by_way : cSts c_by_way 1000000 80 (defScope t_by_way) (defBody t_by_way) = some i_by_way := eqO_eq (by decide +kernel)
theorem d_by_way : ∀ (kV doc pm : Value) (an : Option Addr) (cdv ct : Value) (us : List Value), us.length = ["word"].length → bindArgs (PySem.W.fnOf "by_way" "by_way" (defArgs t_by_way) (defBody t_by_way) (defScope t_by_way) .none kV doc pm an cdv ct) ⟨us, []⟩ = pure (((["word"] : List Str)).zip us) := fun _ _ _ _ _ _ us hl => match us, hl with | [_], _ => rfl
def g_by_way : Sem := fun k => match k with | 4 => r_between | _ => fun _ => .err
def r_by_way : List FF.Arg → T Rs := run g_by_way i_by_way 4
theorem s_way_to : FnScope c_way_to.N ["place"] (defScope t_way_to) := ⟨rfl, rfl, rfl, by decide +kernel, rfl, by decide +kernel, by decide +kernel⟩
def i_way_to : List S := [(.par [(1, false), (2, false)] [(.tup [(.c (.int 0)), (.c (.int 1))]), (.tup [(.c (.int 1)), (.c (.int 0))])]), (.box 3 true (.lst [])), (.box 4 false (.call 4 [(.v 1), (.v 2)])), (.whl 1000000 (.cmp .ne (.v 4) (.v 0)) [(.ifs (.cmp .lt (.bin .mul (.ix (.v 0) (.c (.int 0))) (.ix (.v 4) (.c (.int 1)))) (.bin .mul (.ix (.v 4) (.c (.int 0))) (.ix (.v 0) (.c (.int 1))))) [(.box 2 false (.v 4)), (.app 3 (.c (.str [108])))] [(.box 1 false (.v 4)), (.app 3 (.c (.str [114])))]), (.box 4 false (.call 4 [(.v 1), (.v 2)]))]), (.ret (.bi .join [(.c (.str [])), (.v 3)]))]
theorem b_way_to : cSts c_way_to 1000000 80 (defScope t_way_to) (defBody t_way_to) = some i_way_to := eqO_eq (by decide +kernel)
theorem d_way_to : ∀ (kV doc pm : Value) (an : Option Addr) (cdv ct : Value) (us : List Value), us.length = ["place"].length → bindArgs (PySem.W.fnOf "way_to" "way_to" (defArgs t_way_to) (defBody t_way_to) (defScope t_way_to) .none kV doc pm an cdv ct) ⟨us, []⟩ = pure (((["place"] : List Str)).zip us) := fun _ _ _ _ _ _ us hl => match us, hl with | [_], _ => rfl
def g_way_to : Sem := fun k => match k with | 4 => r_between | _ => fun _ => .err
def r_way_to : List FF.Arg → T Rs := run g_way_to i_way_to 4
theorem s__law_common : FnScope c__law_common.N ["one", "other"] (defScope t__law_common) := ⟨rfl, rfl, rfl, by decide +kernel, rfl, by decide +kernel, by decide +kernel⟩
def i__law_common : List S := [(.whl 1000000 (.cmp .gt (.v 1) (.c (.int 0))) [(.box 2 false (.bin .mod (.bi .int [(.v 0)]) (.v 1))), (.box 0 false (.v 1)), (.box 1 false (.v 2))]), (.ret (.v 0))]
theorem b__law_common : cSts c__law_common 1000000 80 (defScope t__law_common) (defBody t__law_common) = some i__law_common := eqO_eq (by decide +kernel)
theorem d__law_common : ∀ (kV doc pm : Value) (an : Option Addr) (cdv ct : Value) (us : List Value), us.length = ["one", "other"].length → bindArgs (PySem.W.fnOf "_law_common" "_law_common" (defArgs t__law_common) (defBody t__law_common) (defScope t__law_common) .none kV doc pm an cdv ct) ⟨us, []⟩ = pure (((["one", "other"] : List Str)).zip us) := fun _ _ _ _ _ _ us hl => match us, hl with | [_, _], _ => rfl
def g__law_common : Sem := fun k => match k with | _ => fun _ => .err
def r__law_common : List FF.Arg → T Rs := run g__law_common i__law_common 1
theorem s_law : FnScope c_law.N ["script"] (defScope t_law) := ⟨rfl, rfl, rfl, by decide +kernel, rfl, by decide +kernel, by decide +kernel⟩
def i_law : List S := [(.box 2 false (.bin .add (.c (.int 1)) (.draw 1 0 (.c (.int 25))))), (.box 3 false (.lst [])), (.forr (.nm 4) .range [(.c (.int 1)), (.bin .add (.v 2) (.c (.int 1)))] [(.box 3 false (.bin .add (.v 3) (.comp (.nm 5) .range [(.bin .add (.v 4) (.c (.int 1)))] [(.cmp .eq (.call 7 [(.v 5), (.v 4)]) (.c (.int 1)))] (.tup [(.v 5), (.v 4)]))))]), (.box 6 false (.call 0 [(.v 2)])), (.box 7 false (.cmp .eq (.comp (.nm 8) .range [(.bin .sub (.bi .len [(.v 6)]) (.c (.int 1)))] [(.cmp .ge (.bin .mul (.ix (.ix (.v 6) (.v 8)) (.c (.int 0))) (.ix (.ix (.v 6) (.bin .add (.v 8) (.c (.int 1)))) (.c (.int 1)))) (.bin .mul (.ix (.ix (.v 6) (.bin .add (.v 8) (.c (.int 1)))) (.c (.int 0))) (.ix (.ix (.v 6) (.v 8)) (.c (.int 1)))))] (.v 8)) (.lst []))), (.ifs (.or2 (.cmp .ne (.bi .sorted [(.v 6)]) (.bi .sorted [(.v 3)])) (.or2 (.nt (.tr (.v 7))) (.cmp .ne (.comp (.nm 8) .range [(.bin .sub (.bi .len [(.v 6)]) (.c (.int 1)))] [(.nt (.tr (.call 2 [(.ix (.v 6) (.v 8)), (.ix (.v 6) (.bin .add (.v 8) (.c (.int 1))))])))] (.v 8)) (.lst [])))) [(.ret (.c (.bl false)))] []), (.forr (.nm 8) .range [(.c (.int 1)), (.bin .sub (.bi .len [(.v 6)]) (.c (.int 1)))] [(.ifs (.cmp .ne (.call 1 [(.bin .add (.ix (.ix (.v 6) (.bin .sub (.v 8) (.c (.int 1)))) (.c (.int 0))) (.ix (.ix (.v 6) (.bin .add (.v 8) (.c (.int 1)))) (.c (.int 0)))), (.bin .add (.ix (.ix (.v 6) (.bin .sub (.v 8) (.c (.int 1)))) (.c (.int 1))) (.ix (.ix (.v 6) (.bin .add (.v 8) (.c (.int 1)))) (.c (.int 1))))]) (.ix (.v 6) (.v 8))) [(.ret (.c (.bl false)))] [])]), (.forr (.nm 9) .range [(.c (.int 5))] [(.box 10 false (.bi .join [(.c (.str [])), (.comp (.nm 8) .range [(.draw 1 0 (.c (.int 12)))] [] (.ix (.c (.str [108, 114])) (.draw 1 0 (.c (.int 2)))))])), (.par [(11, false), (12, false)] [(.tup [(.c (.int 0)), (.c (.int 1))]), (.tup [(.c (.int 1)), (.c (.int 0))])]), (.box 13 false (.tup [(.c (.int 1)), (.c (.int 1))])), (.forr (.nm 14) .seq [(.v 10)] [(.ifs (.cmp .eq (.v 14) (.c (.str [108]))) [(.box 12 false (.v 13))] [(.box 11 false (.v 13))]), (.box 13 false (.tup [(.bin .add (.ix (.v 11) (.c (.int 0))) (.ix (.v 12) (.c (.int 0)))), (.bin .add (.ix (.v 11) (.c (.int 1))) (.ix (.v 12) (.c (.int 1))))]))]), (.ifs (.nt (.tr (.call 3 [(.lst [(.v 13), (.v 10)]), (.lst [(.call 5 [(.v 10)]), (.call 6 [(.v 13)])])]))) [(.ret (.c (.bl false)))] []), (.box 15 false (.call 1 [(.bin .add (.c (.int 1)) (.draw 1 0 (.c (.int 40)))), (.bin .add (.c (.int 1)) (.draw 1 0 (.c (.int 40))))])), (.ifs (.cmp .ne (.call 5 [(.call 6 [(.v 15)])]) (.v 15)) [(.ret (.c (.bl false)))] []), (.box 16 false (.call 1 [(.draw 1 0 (.c (.int 20))), (.bin .add (.c (.int 1)) (.draw 1 0 (.c (.int 20))))])), (.box 17 false (.bin .sub (.bin .mul (.ix (.v 15) (.c (.int 0))) (.ix (.v 16) (.c (.int 1)))) (.bin .mul (.ix (.v 15) (.c (.int 1))) (.ix (.v 16) (.c (.int 0)))))), (.ifs (.nt (.tr (.call 3 [(.lst [(.cmp .inn (.v 17) (.tup [(.c (.int 1)), (.neg (.c (.int 1)))])), (.tup [(.bin .add (.ix (.v 15) (.c (.int 0))) (.ix (.v 16) (.c (.int 0)))), (.bin .add (.ix (.v 15) (.c (.int 1))) (.ix (.v 16) (.c (.int 1))))])]), (.lst [(.call 2 [(.v 15), (.v 16)]), (.call 4 [(.v 15), (.v 16)])])]))) [(.ret (.c (.bl false)))] [])]), (.ret (.and2 (.cmp .eq (.call 6 [(.tup [(.c (.int 1)), (.c (.int 1))])]) (.c (.str []))) (.and2 (.cmp .eq (.call 5 [(.c (.str [108, 114, 108]))]) (.tup [(.c (.int 3)), (.c (.int 5))])) (.and2 (.cmp .eq (.call 0 [(.c (.int 1))]) (.lst [(.tup [(.c (.int 0)), (.c (.int 1))]), (.tup [(.c (.int 1)), (.c (.int 1))])])) (.call 2 [(.tup [(.c (.int 1)), (.c (.int 0))]), (.tup [(.c (.int 3)), (.c (.int 1))])])))))]
theorem b_law : cSts c_law 1000000 80 (defScope t_law) ((defBody t_law).drop 1) = some i_law := eqO_eq (by decide +kernel)
def g_law : Sem := fun k => match k with | 0 => r_farey | 1 => r__law_lowest | 2 => r_are_neighbours | 3 => r__law_exact | 5 => r_by_way | 6 => r_way_to | 4 => r_between | 7 => r__law_common | _ => fun _ => .err
theorem d_refill : ∀ (kV doc pm : Value) (an : Option Addr) (cdv ct : Value) (us : List Value), us.length = ["script", "k"].length → bindArgs (PySem.W.fnOf "_law_refill" "_law_refill" (defArgs t_refill) (defBody t_refill) (defScope t_refill) .none kV doc pm an cdv ct) ⟨us, []⟩ = pure (((["script", "k"] : List Str)).zip us) := fun _ _ _ _ _ _ us hl => match us, hl with | [_, _], _ => rfl
theorem d_draw : ∀ (kV doc pm : Value) (an : Option Addr) (cdv ct : Value) (us : List Value), us.length = ["state", "script", "size"].length → bindArgs (PySem.W.fnOf "_law_draw" "_law_draw" (defArgs t_draw) (defBody t_draw) (defScope t_draw) .none kV doc pm an cdv ct) ⟨us, []⟩ = pure (((["state", "script", "size"] : List Str)).zip us) := fun _ _ _ _ _ _ us hl => match us, hl with | [_, _, _], _ => rfl
section
variable {P : Program} {w : World} {K : Fg} {mg : Str → Option Value} {base : Heap}
theorem s_refill : FnScope ["script", "k", "cell"] ["script", "k"] (defScope t_refill) := ⟨rfl, rfl, rfl, by decide +kernel, rfl, by decide +kernel, by decide +kernel⟩
theorem s_draw : FnScope ["state", "script", "size", "digit"] ["state", "script", "size"] (defScope t_draw) := ⟨rfl, rfl, rfl, by decide +kernel, rfl, by decide +kernel, by decide +kernel⟩
def HaveRe (P : Program) (w : World) (K : Fg) (mg : Str → Option Value) (base : Heap) (lev : Nat) : Prop :=
  ∃ f fd ps, FnOk P w K mg base CX0 lev f fd ps (spRefill K) ∧ mg "_law_refill" = some (.ref f) ∧ PySem.W.keepIn K (.ref f) = true ∧ Binds K fd ps []
theorem ok_refill (F : Stand K mg "_law_refill" t_refill ["script", "k"]) (nn : NoneAll mg biNames) : HaveRe P w K mg base 1 := by
  obtain ⟨f, fd, F, hm, hb⟩ := F
  refine ⟨f, fd, _, F.ok s_refill (fun vs H Q E h => by obtain ⟨w, k, rfl, _⟩ := h; rfl) (fun cdv A outer s H vs Q E hr h => ?_), hm, F.kp, hb⟩
  obtain ⟨sw, k, rfl, hS, q⟩ := h
  have ml : mg "len" = none := nn.get (by simp [biNames])
  have mi : mg "int" = none := nn.get (by simp [biNames])
  refine ⟨_, pss_cons (ps_set (i := 2) s_refill.nd rfl (.inl rfl) pe_int)
    (pss_cons (ps_if (pt_truth (pv 0) (fun _ => rfl)) (pss_one (ps_set (i := 2) s_refill.nd rfl (.inl rfl) (pe_ix ix_list (pv 0) (pe_op op_modN (pv 1) (pe_callB call_len_seq (by rfl) ml PySem.boot_len (pa_cons (pv 0) pa_nil))) (fun _ _ => rfl)))) pss_nil)
    (pss_cons (ps_if (pt_cmpR op_lt (pv 2) pe_int (nomark _)) (pss_one (ps_set (i := 2) s_refill.nd rfl (.inl rfl) (pe_op op_sub pe_int (pe_op op_mulK pe_int (pv 2))))) pss_nil)
    (pss_cons (ps_if (pw_and (pt_cmpR op_ge (pv 2) (pe_op op_pow pe_int pe_int) (nomark _)) (pw_and1 (pt_cmpR op_lt (pv 1) (pe_callB call_len_seq (by rfl) ml PySem.boot_len (pa_cons (pv 0) pa_nil)) (nomark _)))).pt (pss_one (ps_ret (pv 2))) pss_nil)
    (pss_one (ps_ret (pe_op op_modN (pe_callTy call_int1 (by rfl) mi (by decide +kernel) (pa_cons (pe_op op_add (pe_op op_mulK (pe_callTy call_int1 (by rfl) mi (by decide +kernel) (pa_cons (pe_op op_add (pe_op op_add (pe_op op_mulK (pv 2) pe_int) (pe_op op_mulK (pv 1) pe_int)) pe_int) pa_nil)) pe_int) pe_int) pa_nil)) pe_int)))))), ?_⟩
  obtain ⟨a, ns, rfl, hq⟩ := hS.seq
  refine ⟨.ref a, rfl, _, .inl ⟨_, hq, rfl⟩, ite2 (fun e => ?_) (fun e => ?_)⟩
  · have ne : ns ≠ [] := fun z => by subst z; cases e
    obtain ⟨i, hi⟩ := atI_mod k ne
    have hl : ((ns.map V.int).length : Int) ≠ 0 := fun z => ne (List.length_eq_zero_iff.mp (by rw [List.length_map] at z; omega))
    refine ⟨.ref a, rfl, .int k, rfl, .ref a, rfl, a, _, rfl, .inl hq, k, _, rfl, rfl, hl, a, _, _, .int i, rfl, rfl, hq, hi, ?_⟩
    refine ⟨_, rfl, _, _, rfl, rfl, _, rfl, ite2 (fun e => ⟨_, rfl, 2, _, rfl, rfl, mulK_l (by decide), 1, _, rfl, rfl, ?_⟩) (fun e => ?_)⟩ <;>
    · refine ⟨_, rfl, 10, 18, rfl, rfl, ⟨by decide, by decide, by decide⟩, _, _, rfl, rfl, _, rfl, ite2 (fun e => ⟨_, rfl, .ref a, rfl, a, _, rfl, .inl hq, _, _, rfl, rfl, _, rfl, ite2 (fun e => ⟨_, rfl, q _⟩) (fun e => ?_)⟩) (fun e => iteF ?_)⟩ <;>
      exact ⟨_, rfl, _, 48271, rfl, rfl, mulK_r (by decide), _, rfl, _, 69621, rfl, rfl, mulK_r (by decide), _, _, rfl, rfl, _, _, rfl, rfl, .inl ⟨_, rfl, _, 40692, rfl, rfl, mulK_r (by decide), _, _, rfl, rfl, .inl ⟨_, rfl, _, 2147483399, rfl, rfl, (show (2147483399 : Int) ≠ 0 by decide), q _⟩⟩⟩
  · refine ⟨_, rfl, _, _, rfl, rfl, _, rfl, ite2 (fun e => ⟨_, rfl, 2, _, rfl, rfl, mulK_l (by decide), 1, _, rfl, rfl, ?_⟩) (fun e => ?_)⟩ <;>
    · refine ⟨_, rfl, 10, 18, rfl, rfl, ⟨by decide, by decide, by decide⟩, _, _, rfl, rfl, _, rfl, ite2 (fun e => ⟨_, rfl, .ref a, rfl, a, _, rfl, .inl hq, _, _, rfl, rfl, _, rfl, ite2 (fun e => ⟨_, rfl, q _⟩) (fun e => ?_)⟩) (fun e => iteF ?_)⟩ <;>
      exact ⟨_, rfl, _, 48271, rfl, rfl, mulK_r (by decide), _, rfl, _, 69621, rfl, rfl, mulK_r (by decide), _, _, rfl, rfl, _, _, rfl, rfl, .inl ⟨_, rfl, _, 40692, rfl, rfl, mulK_r (by decide), _, _, rfl, rfl, .inl ⟨_, rfl, _, 2147483399, rfl, rfl, (show (2147483399 : Int) ≠ 0 by decide), q _⟩⟩⟩
theorem ok_draw (R : HaveRe P w K mg base 1) (F : Stand K mg "_law_draw" t_draw ["state", "script", "size"]) (nn : NoneAll mg biNames) : HaveDr P w K mg base 2 := by
  obtain ⟨f, fd, F, hm, hb⟩ := F
  obtain ⟨fr, fdr, psr, FR, hmr, hkr, hbr⟩ := R
  refine ⟨f, fd, _, F.ok s_draw (fun vs H Q E h => by obtain ⟨p, s, k, v, w, rfl, _⟩ := h; rfl) (fun cdv A outer s H vs Q E hr h => ?_), hm, F.kp, hb⟩
  obtain ⟨p, sz, k, v, sw, rfl, hS, hp, h0, h1, q⟩ := h
  have mi : mg "int" = none := nn.get (by simp [biNames])
  refine ⟨_, pss_cons (ps_if (pt_cmpR op_eq (pe_ix ix_list (pv 0) pe_int (fun _ _ => rfl)) pe_int (nomark _))
      (pss_cons (ps_asg (pe_call FR hr (by rfl) hmr hkr hbr .nil pass0 (pa_cons (pv 1) (pa_cons (pe_ix ix_list (pv 0) pe_int (fun _ _ => rfl)) pa_nil))) (pg_sub (pv 0) pe_int set_list (fun _ => rfl)))
      (pss_one (ps_asg (pe_op op_add (pe_ix ix_list (pv 0) pe_int (fun _ _ => rfl)) pe_int) (pg_sub (pv 0) pe_int set_list (fun _ => rfl))))) pss_nil)
    (pss_cons (ps_set (i := 3) s_draw.nd rfl (.inl rfl) (pe_op op_modN (pe_callTy call_int1 (by rfl) mi (by decide +kernel) (pa_cons (pe_ix ix_list (pv 0) pe_int (fun _ _ => rfl)) pa_nil)) (pv 2)))
    (pss_cons (ps_asg (pe_op op_fdivK (pe_ix ix_list (pv 0) pe_int (fun _ _ => rfl)) (pv 2)) (pg_sub (pv 0) pe_int set_list (fun _ => rfl)))
    (pss_one (ps_ret (pv 3))))), ?_⟩
  have sq : ∀ {H : Hp} {a b : Int}, H p = some (.lst [.int a, .int b]) → SqL K H p [.int a, .int b] := fun h => .inl (.inl h)
  have hs0 : sz ≠ 0 := by omega
  have hlog : sz.natAbs.log2 < 9000 := by
    have h2 : sz.natAbs < 2 ^ 30 := by omega
    have := (Nat.log2_lt (show sz.natAbs ≠ 0 by omega)).mpr h2
    omega
  have m0 : ∀ r : Int, 0 ≤ r.fmod sz ∧ r.fmod sz < sz := fun r => by
    rw [Int.fmod_eq_emod_of_nonneg _ (by omega)]
    exact ⟨Int.emod_nonneg _ hs0, Int.emod_lt_of_pos _ h0⟩
  refine ⟨.ref p, rfl, p, _, 1, .int v, rfl, rfl, sq hp, rfl, rfl, _, rfl, ite2 (fun e => ?_) (fun e => ?_)⟩
  · refine ⟨sw, rfl, .ref p, rfl, p, _, 0, .int k, rfl, rfl, sq hp, rfl, sw, k, rfl, hS, fun r => ?_⟩
    refine ⟨.ref p, rfl, p, _, 1, 1, rfl, rfl, hp, rfl, ?_⟩
    refine ⟨.ref p, rfl, p, _, 0, .int k, rfl, rfl, sq (b := r) upd_same, rfl, k, 1, rfl, rfl, .ref p, rfl, p, _, 0, 0, rfl, rfl, upd_same, rfl, ?_⟩
    refine ⟨.ref p, rfl, p, _, 1, .int r, rfl, rfl, sq (a := k + 1) upd_same, rfl, .inl ⟨r, rfl, .int sz, rfl, r, sz, rfl, rfl, hs0, ?_⟩⟩
    refine ⟨.ref p, rfl, p, _, 1, .int r, rfl, rfl, sq (a := k + 1) upd_same, rfl, .int sz, rfl, r, sz, rfl, rfl, ⟨hs0, hlog⟩, .ref p, rfl, p, _, 1, 1, rfl, rfl, upd_same, rfl, ?_⟩
    refine ⟨_, rfl, ?_⟩
    have := q (r.fmod sz) (k + 1) (r.fdiv sz) (m0 r).1 (m0 r).2
    rw [upd_upd, upd_upd]
    exact this
  · refine ⟨.ref p, rfl, p, _, 1, .int v, rfl, rfl, sq hp, rfl, .inl ⟨v, rfl, .int sz, rfl, v, sz, rfl, rfl, hs0, ?_⟩⟩
    refine ⟨.ref p, rfl, p, _, 1, .int v, rfl, rfl, sq hp, rfl, .int sz, rfl, v, sz, rfl, rfl, ⟨hs0, hlog⟩, .ref p, rfl, p, _, 1, 1, rfl, rfl, hp, rfl, ?_⟩
    exact ⟨_, rfl, q (v.fmod sz) k (v.fdiv sz) (m0 v).1 (m0 v).2⟩
end
section
variable {P : Program} {w : World} {K : Fg} {mg : Str → Option Value} {base : Heap}
structure Behind (K : Fg) (mg : Str → Option Value) : Prop where
  h_law_refill : Stand K mg "_law_refill" t_refill ["script", "k"]
  h_law_draw : Stand K mg "_law_draw" t_draw ["state", "script", "size"]
  hfarey : Stand K mg "farey" t_farey ["most"]
  h_law_lowest : Stand K mg "_law_lowest" t__law_lowest ["above", "below"]
  hare_neighbours : Stand K mg "are_neighbours" t_are_neighbours ["one", "other"]
  h_law_exact : Stand K mg "_law_exact" t__law_exact ["first", "second"]
  hbetween : Stand K mg "between" t_between ["one", "other"]
  hby_way : Stand K mg "by_way" t_by_way ["word"]
  hway_to : Stand K mg "way_to" t_way_to ["place"]
  h_law_common : Stand K mg "_law_common" t__law_common ["one", "other"]
  nn : NoneAll mg biNames
theorem h_dr (S : Behind K mg) : HaveDr P w K mg base 2 := ok_draw (ok_refill S.h_law_refill S.nn) S.h_law_draw S.nn
theorem h_farey (S : Behind K mg) : Have P w K mg base 3 "farey" 1 r_farey := have_fn S.hfarey s_farey b_farey rfl (facts_mk (Γ := g_farey) trivial trivial S.nn (fun h => by cases h) ((h_dr S).mono (by decide)))
theorem h__law_lowest (S : Behind K mg) : Have P w K mg base 3 "_law_lowest" 2 r__law_lowest := have_fn S.h_law_lowest s__law_lowest b__law_lowest rfl (facts_mk (Γ := g__law_lowest) trivial trivial S.nn (fun h => by cases h) ((h_dr S).mono (by decide)))
theorem h_are_neighbours (S : Behind K mg) : Have P w K mg base 3 "are_neighbours" 2 r_are_neighbours := have_fn S.hare_neighbours s_are_neighbours b_are_neighbours rfl (facts_mk (Γ := g_are_neighbours) trivial trivial S.nn (fun h => by cases h) ((h_dr S).mono (by decide)))
theorem h__law_exact (S : Behind K mg) : Have P w K mg base 12 "_law_exact" 2 r__law_exact := ok_exact 3 S.h_law_exact s__law_exact b__law_exact rfl rfl ⟨rfl, rfl⟩ S.nn (h_dr S) 10
theorem h_between (S : Behind K mg) : Have P w K mg base 3 "between" 2 r_between := have_fn S.hbetween s_between b_between rfl (facts_mk (Γ := g_between) trivial trivial S.nn (fun h => by cases h) ((h_dr S).mono (by decide)))
theorem h_by_way (S : Behind K mg) : Have P w K mg base 4 "by_way" 1 r_by_way := have_fn S.hby_way s_by_way b_by_way rfl (facts_mk (Γ := g_by_way) ⟨(h_between S).mono (by decide), trivial⟩ trivial S.nn (fun h => by cases h) ((h_dr S).mono (by decide)))
theorem h_way_to (S : Behind K mg) : Have P w K mg base 4 "way_to" 1 r_way_to := have_fn S.hway_to s_way_to b_way_to rfl (facts_mk (Γ := g_way_to) ⟨(h_between S).mono (by decide), trivial⟩ trivial S.nn (fun h => by cases h) ((h_dr S).mono (by decide)))
theorem h__law_common (S : Behind K mg) : Have P w K mg base 3 "_law_common" 2 r__law_common := have_fn S.h_law_common s__law_common b__law_common rfl (facts_mk (Γ := g__law_common) trivial trivial S.nn (fun h => by cases h) ((h_dr S).mono (by decide)))
theorem h_law (S : Behind K mg) {f : Addr} {fd : FuncData} (F : Fun K "law" "law" t_law f fd) (law : (lawT g_law i_law 16).all IsT) : FnOk P w K mg base CX0 13 f fd ["script"] (spL K) := law_ok (N' := ["most", "rows", "below", "above", "told", "rising", "j", "k", "word", "low", "high", "here", "sign", "place", "other", "size"]) F s_law (facts_mk (Γ := g_law) ⟨(h_farey S).mono (by decide), (h__law_lowest S).mono (by decide), (h_are_neighbours S).mono (by decide), (h__law_exact S).mono (by decide), (h_by_way S).mono (by decide), (h_way_to S).mono (by decide), (h_between S).mono (by decide), (h__law_common S).mono (by decide), trivial⟩ trivial S.nn (fun h => by cases h) ((h_dr S).mono (by decide))) rfl rfl (by first | exact .inl rfl | exact .inr rfl) rfl b_law law
end
end K95

set_option Elab.async false
set_option linter.all false
set_option maxRecDepth 100000
set_option maxHeartbeats 8000000
/-! K95M: plain maths of ways between fractions. -/
namespace K95
/-- two neighbours: a / b low, c / d high -/
structure SB where
  a : Int
  b : Int
  c : Int
  d : Int
namespace SB
def start : SB := ⟨0, 1, 1, 0⟩
def m0 (s : SB) : Int := s.a + s.c
def m1 (s : SB) : Int := s.b + s.d
def left (s : SB) : SB := ⟨s.a, s.b, s.m0, s.m1⟩
def right (s : SB) : SB := ⟨s.m0, s.m1, s.c, s.d⟩
def step (s : SB) (k : Nat) : SB := if k = 108 then s.left else s.right
def go (s : SB) : List Nat → SB
  | [] => s
  | k :: w => (s.step k).go w
structure Ok (s : SB) : Prop where
  det : s.c * s.b - s.a * s.d = 1
  a0 : 0 ≤ s.a
  b0 : 0 ≤ s.b
  c0 : 0 ≤ s.c
  d0 : 0 ≤ s.d
theorem ok_start : Ok start := ⟨by decide, by decide, by decide, by decide, by decide⟩
theorem Ok.left {s : SB} (h : Ok s) : Ok s.left := ⟨by have := h.det; simp only [SB.left, m0, m1]; grind, h.a0, h.b0, by have := h.a0; have := h.c0; simp only [SB.left, m0]; omega, by have := h.b0; have := h.d0; simp only [SB.left, m1]; omega⟩
theorem Ok.right {s : SB} (h : Ok s) : Ok s.right := ⟨by have := h.det; simp only [SB.right, m0, m1]; grind, by have := h.a0; have := h.c0; simp only [SB.right, m0]; omega, by have := h.b0; have := h.d0; simp only [SB.right, m1]; omega, h.c0, h.d0⟩
theorem Ok.step {s : SB} (h : Ok s) (k : Nat) : Ok (s.step k) := by
  unfold SB.step; split
  · exact h.left
  · exact h.right
/-- p is so many times low and high -/
structure Rp (s : SB) (p q : Int) (x y : Int) : Prop where
  x1 : 1 ≤ x
  y1 : 1 ≤ y
  e0 : p = x * s.a + y * s.c
  e1 : q = x * s.b + y * s.d
theorem Rp.mid (s : SB) : Rp s s.m0 s.m1 1 1 := ⟨by omega, by omega, by simp only [m0]; omega, by simp only [m1]; omega⟩
theorem rp_go : ∀ (w : List Nat) (s : SB), ∃ x y, Rp s (s.go w).m0 (s.go w).m1 x y
  | [], s => ⟨1, 1, Rp.mid s⟩
  | k :: w, s => by
    obtain ⟨x, y, h⟩ := rp_go w (s.step k)
    rw [go]
    unfold step at h ⊢
    split
    · rename_i hk
      rw [if_pos hk] at h
      refine ⟨x + y, y, by have := h.x1; have := h.y1; omega, h.y1, ?_, ?_⟩
      · rw [h.e0]; simp only [left, m0]; grind
      · rw [h.e1]; simp only [left, m1]; grind
    · rename_i hk
      rw [if_neg hk] at h
      refine ⟨x, x + y, h.x1, by have := h.x1; have := h.y1; omega, ?_, ?_⟩
      · rw [h.e0]; simp only [right, m0]; grind
      · rw [h.e1]; simp only [right, m1]; grind
/-- what is met on the way is not greater -/
theorem Rp.le {s : SB} {p q x y : Int} (o : Ok s) (h : Rp s p q x y) : s.m0 ≤ p ∧ s.m1 ≤ q := by
  have h1 := Int.mul_le_mul_of_nonneg_right h.x1 o.a0
  have h2 := Int.mul_le_mul_of_nonneg_right h.y1 o.c0
  have h3 := Int.mul_le_mul_of_nonneg_right h.x1 o.b0
  have h4 := Int.mul_le_mul_of_nonneg_right h.y1 o.d0
  have e0 := h.e0
  have e1 := h.e1
  simp only [m0, m1]
  omega
theorem cross_l {s : SB} {p q x y : Int} (o : Ok s) (h : Rp s.left p q x y) : p * s.m1 < s.m0 * q := by
  have e : p * s.m1 - s.m0 * q = -x := by
    have := o.det
    rw [h.e0, h.e1]; simp only [left, m0, m1]; grind
  have := h.x1
  omega
theorem cross_r {s : SB} {p q x y : Int} (o : Ok s) (h : Rp s.right p q x y) : s.m0 * q < p * s.m1 := by
  have e : p * s.m1 - s.m0 * q = y := by
    have := o.det
    rw [h.e0, h.e1]; simp only [right, m0, m1]; grind
  have := h.y1
  omega
theorem gl {x y : Nat} (h : Nat.gcd x y = 1) (l : x ≤ y) : Nat.gcd x (y - x) = 1 := by
  obtain ⟨k, rfl⟩ : ∃ k, y = x + k := ⟨y - x, by omega⟩
  rw [Nat.add_sub_cancel_left]; simpa using h
theorem gr {x y : Nat} (h : Nat.gcd x y = 1) (l : y ≤ x) : Nat.gcd (x - y) y = 1 := by
  obtain ⟨k, rfl⟩ : ∃ k, x = y + k := ⟨x - y, by omega⟩
  rw [Nat.add_sub_cancel_left, Nat.gcd_comm]
  rw [Nat.gcd_comm] at h; simpa using h
/-- each plain fraction is met -/
theorem meets : ∀ (n : Nat) (s : SB) (p q : Int) (x y : Nat), x + y ≤ n → Nat.gcd x y = 1 → Rp s p q x y → ∃ w : List Nat, (∀ k ∈ w, k = 108 ∨ k = 114) ∧ w.length + 2 ≤ x + y ∧ (s.go w).m0 = p ∧ (s.go w).m1 = q
  | 0, s, p, q, x, y, hn, _, h => by have := h.x1; have := h.y1; omega
  | n + 1, s, p, q, x, y, hn, hg, h => by
    have hx := h.x1
    have hy := h.y1
    rcases Nat.lt_trichotomy x y with l | l | l
    · obtain ⟨w, h1, h2, h3, h4⟩ := meets n s.right p q x (y - x) (by omega) (gl hg (by omega)) ⟨hx, by omega, by
        rw [h.e0]; simp only [right, m0]; rw [Int.natCast_sub (by omega)]; grind, by
        rw [h.e1]; simp only [right, m1]; rw [Int.natCast_sub (by omega)]; grind⟩
      refine ⟨114 :: w, fun k hk => ?_, by rw [List.length_cons]; omega, h3, h4⟩
      rcases List.mem_cons.mp hk with e | e
      · exact .inr e
      · exact h1 k e
    · subst l
      rw [Nat.gcd_self] at hg
      subst hg
      refine ⟨[], fun k hk => by (cases hk), by simp, ?_, ?_⟩
      · rw [h.e0]; simp only [go, m0]; omega
      · rw [h.e1]; simp only [go, m1]; omega
    · obtain ⟨w, h1, h2, h3, h4⟩ := meets n s.left p q (x - y) y (by omega) (gr hg (by omega)) ⟨by omega, hy, by
        rw [h.e0]; simp only [left, m0]; rw [Int.natCast_sub (by omega)]; grind, by
        rw [h.e1]; simp only [left, m1]; rw [Int.natCast_sub (by omega)]; grind⟩
      refine ⟨108 :: w, fun k hk => ?_, by rw [List.length_cons]; omega, h3, h4⟩
      rcases List.mem_cons.mp hk with e | e
      · exact .inl e
      · exact h1 k e
theorem meets_start {p q : Nat} (hp : 1 ≤ p) (hq : 1 ≤ q) (hg : Nat.gcd p q = 1) : ∃ w : List Nat, (∀ k ∈ w, k = 108 ∨ k = 114) ∧ w.length + 2 ≤ p + q ∧ (start.go w).m0 = p ∧ (start.go w).m1 = q := by
  obtain ⟨w, h1, h2, h3, h4⟩ := meets (q + p) start p q q p (Nat.le_refl _) (by rw [Nat.gcd_comm]; exact hg) ⟨by omega, by omega, by simp [start], by simp [start]⟩
  exact ⟨w, h1, by omega, h3, h4⟩
theorem go_len : ∀ (w : List Nat) (s : SB) (N : Int), Ok s → s.m0 ≤ N → s.m1 ≤ N → (s.go w).m0 ≤ N * 2 ^ w.length ∧ (s.go w).m1 ≤ N * 2 ^ w.length
  | [], s, N, o, h1, h2 => by simp [go]; exact ⟨h1, h2⟩
  | k :: w, s, N, o, h1, h2 => by
    have h := go_len w (s.step k) (2 * N) (o.step k) (by
      have := o.a0; have := o.c0
      unfold step; split
      · simp only [left, m0] at *; omega
      · simp only [right, m0] at *; omega) (by
      have := o.b0; have := o.d0
      unfold step; split
      · simp only [left, m1] at *; omega
      · simp only [right, m1] at *; omega)
    rw [go, List.length_cons, Int.pow_succ]
    have e : N * (2 ^ w.length * 2) = 2 * N * 2 ^ w.length := by grind
    rw [e]; exact h
end SB
end K95

set_option Elab.async false
set_option linter.all false
set_option maxRecDepth 100000
set_option maxHeartbeats 8000000
namespace K95
open FF SB
theorem p__law_lowest {a b : Int} {m n : Nat} [Sm m a] [Sm n b] (h : b ≠ 0) (hm : m ≤ 8000) (hn : n ≤ 8000) : r__law_lowest [.d (.int a), .d (.int b)] = .ret (F (Rat.divInt a b), false) := law_lowest h hm hn
theorem p_between {a b c d : Int} : r_between [.d (.tup [.int a, .int b]), .d (.tup [.int c, .int d])] = .ret (.tup [.int (a + c), .int (b + d)], false) := by
  simp (maxSteps := 10000000) (implicitDefEqProofs := false) (disch := omega) [r_between, i_between, b_ret, o_some, map_some, obind_some, k_add, k_sub, k_mul, k_ixl, k_ixt, ix_0, ix_1, ix_2, ix_3, ix_4, ix_5, ix_6, ix_7, ix_8, ix_9, ix_10, ix_11, ix_12, st_0, st_1, st_2, st_3, st_4, st_5, st_6, st_7, st_8, st_9, st_10, st_11, st_12, rd_0, rd_b, rd_l, rd_s, own_0, own_p, own_s, own_n, e_c, e_g, e_v, e_bin, neg_i, e_neg, e_cmp, e_chain, e_nt, e_and, e_or, e_tr, e_ite, e_tup, e_lst, e_ix, e_sl, e_rev, e_call, e_bi, e_isi, e_draw, e_comp, turn_cons, turn_nil, es_nil, es_cons, eS_nil, eS_cons, eC_nil, eC_cons, eA_nil, eA_cons, arg_st, bl_ret, x_nil, then_nx, then_rt, then_ct, then_bk, x_cns, x_bx, x_asgn, x_par, eR_nil, eR_cons, par_nil, par_cons, x_ixs, x_ap, x_ifs, x_rt, x_fr, loop_nx, loop_ct, loop_bk, loop_rt, for_nil, for_cons, bindA, List.replicate, List.cons_append, List.nil_append, a_nm, a_tt, a_tl, as_n, as_c, List.set_cons_zero, List.set_cons_succ, List.length_cons, List.length_nil, setS, boxS, cond_true, cond_false, Bool.and_true, Bool.and_false, Bool.true_and, Bool.false_and, if_true, lk_nil, lk_v, lk_c, lk_g, lk_bin, lk_neg, lk_cmp, lk_chain, lk_nt, lk_and2, lk_or2, lk_tr, lk_ite, lk_tup, lk_lst, lk_ix, lk_sl, lk_rev, lk_call, lk_bi, lk_isi, lk_comp, lk_comp2, lk_draw, ul_nil, ul_v, ul_c, ul_g, ul_bin, ul_neg, ul_cmp, ul_chain, ul_nt, ul_and2, ul_or2, ul_tr, ul_ite, ul_tup, ul_lst, ul_ix, ul_sl, ul_rev, ul_call, ul_bi, ul_isi, ul_comp, ul_comp2, ul_draw, isV, tgS, tgSs, wipeE, rt_v, rt_c, rt_g, rt_bin, rt_neg, rt_cmp, rt_chain, rt_nt, rt_and2, rt_or2, rt_tr, rt_ite, rt_tup, rt_lst, rt_ix, rt_sl, rt_rev, rt_call, rt_bi, rt_isi, rt_comp, rt_comp2, rt_draw, b_lenl, b_lent, b_lens, b_abs, b_sum, b_max, b_min, b_max2, b_min2, b_tupl, b_tupt, b_lstl, b_lstt, b_inti, b_intb, b_all, b_any, b_gcd, is_nil, is_cons, bs_nil, bs_cons, s_seql, s_seqt, s_seqs, s_r1, s_r2, s_zip, s_zipt, s_enum, s_enumt, s_rev, s_revt, s_rr, z_cons, z_nil, z_nil2, n_cons, n_nil, sl_l, sl_t, one_0, one_1, cut_from, cut_to, rv_l, tr_n, tr_b, tr_i, tr_l, tr_t, x_rtN, x_brk, x_cnt, x_pas, x_frz, x_drp, List.getElem?_cons_zero, List.getElem?_cons_succ, arg_c, arg_g, arg_bin, arg_neg, arg_cmp, arg_chain, arg_nt, arg_and2, arg_or2, arg_tr, arg_ite, arg_tup, arg_lst, arg_ix, arg_sl, arg_rev, arg_call, arg_bi, arg_isi, arg_comp, arg_draw, bind_drw, blT_drw, then_drw, loop_drw, all_drw, all_ret, c_lt, c_le, c_gt, c_ge, c_eq, c_ne, c_isN, c_notN, isNon, cond_dec, cond_not, cond_and, cond_or, dr10, dr01, ex_ite, wt_nx, wt_rt, wt_ct, wt_bk, wt_drw, q_eq, F_inj, k_addl, k_addt, k_ap, rng2, line, rangeL, List.sum_cons, List.sum_nil, tyD, allTy, run]
/-- texts of l and r -/
def lrs (w : List Nat) : List D := w.map fun c => .str [c]
def Lr (w : List Nat) : Prop := ∀ k ∈ w, k = 108 ∨ k = 114
instance : Pl 0 (D.str [108]) := pl_str rfl
instance : Pl 0 (D.str [114]) := pl_str rfl
theorem p_by_turn {s : SB} {w3 w4 : Slot} {W : D} {k : Nat} (hk : k = 108 ∨ k = 114) : turnF g_by_way (.nm 3) [(.box 4 false (.call 4 [(.v 1), (.v 2)])), (.ifs (.cmp .eq (.v 3) (.c (.str [108]))) [(.box 2 false (.v 4))] [(.box 1 false (.v 4))])] (.str [k]) [.pl W, .pl (.tup [.int s.a, .int s.b]), .pl (.tup [.int s.c, .int s.d]), w3, w4] = .ret (.nx, [.pl W, .pl (.tup [.int (s.step k).a, .int (s.step k).b]), .pl (.tup [.int (s.step k).c, .int (s.step k).d]), .pl (.str [k]), .pl (.tup [.int s.m0, .int s.m1])]) := by
  rcases hk with rfl | rfl
  · simp (maxSteps := 10000000) (implicitDefEqProofs := false) (disch := omega) [turnF, g_by_way, p_between, SB.step, SB.left, SB.m0, SB.m1, b_ret, o_some, map_some, obind_some, k_add, k_sub, k_mul, k_ixl, k_ixt, ix_0, ix_1, ix_2, ix_3, ix_4, ix_5, ix_6, ix_7, ix_8, ix_9, ix_10, ix_11, ix_12, st_0, st_1, st_2, st_3, st_4, st_5, st_6, st_7, st_8, st_9, st_10, st_11, st_12, rd_0, rd_b, rd_l, rd_s, own_0, own_p, own_s, own_n, e_c, e_g, e_v, e_bin, neg_i, e_neg, e_cmp, e_chain, e_nt, e_and, e_or, e_tr, e_ite, e_tup, e_lst, e_ix, e_sl, e_rev, e_call, e_bi, e_isi, e_draw, e_comp, turn_cons, turn_nil, es_nil, es_cons, eS_nil, eS_cons, eC_nil, eC_cons, eA_nil, eA_cons, arg_st, bl_ret, x_nil, then_nx, then_rt, then_ct, then_bk, x_cns, x_bx, x_asgn, x_par, eR_nil, eR_cons, par_nil, par_cons, x_ixs, x_ap, x_ifs, x_rt, x_fr, loop_nx, loop_ct, loop_bk, loop_rt, for_nil, for_cons, bindA, List.replicate, List.cons_append, List.nil_append, a_nm, a_tt, a_tl, as_n, as_c, List.set_cons_zero, List.set_cons_succ, List.length_cons, List.length_nil, setS, boxS, cond_true, cond_false, Bool.and_true, Bool.and_false, Bool.true_and, Bool.false_and, if_true, lk_nil, lk_v, lk_c, lk_g, lk_bin, lk_neg, lk_cmp, lk_chain, lk_nt, lk_and2, lk_or2, lk_tr, lk_ite, lk_tup, lk_lst, lk_ix, lk_sl, lk_rev, lk_call, lk_bi, lk_isi, lk_comp, lk_comp2, lk_draw, ul_nil, ul_v, ul_c, ul_g, ul_bin, ul_neg, ul_cmp, ul_chain, ul_nt, ul_and2, ul_or2, ul_tr, ul_ite, ul_tup, ul_lst, ul_ix, ul_sl, ul_rev, ul_call, ul_bi, ul_isi, ul_comp, ul_comp2, ul_draw, isV, tgS, tgSs, wipeE, rt_v, rt_c, rt_g, rt_bin, rt_neg, rt_cmp, rt_chain, rt_nt, rt_and2, rt_or2, rt_tr, rt_ite, rt_tup, rt_lst, rt_ix, rt_sl, rt_rev, rt_call, rt_bi, rt_isi, rt_comp, rt_comp2, rt_draw, b_lenl, b_lent, b_lens, b_abs, b_sum, b_max, b_min, b_max2, b_min2, b_tupl, b_tupt, b_lstl, b_lstt, b_inti, b_intb, b_all, b_any, b_gcd, is_nil, is_cons, bs_nil, bs_cons, s_seql, s_seqt, s_seqs, s_r1, s_r2, s_zip, s_zipt, s_enum, s_enumt, s_rev, s_revt, s_rr, z_cons, z_nil, z_nil2, n_cons, n_nil, sl_l, sl_t, one_0, one_1, cut_from, cut_to, rv_l, tr_n, tr_b, tr_i, tr_l, tr_t, x_rtN, x_brk, x_cnt, x_pas, x_frz, x_drp, List.getElem?_cons_zero, List.getElem?_cons_succ, arg_c, arg_g, arg_bin, arg_neg, arg_cmp, arg_chain, arg_nt, arg_and2, arg_or2, arg_tr, arg_ite, arg_tup, arg_lst, arg_ix, arg_sl, arg_rev, arg_call, arg_bi, arg_isi, arg_comp, arg_draw, bind_drw, blT_drw, then_drw, loop_drw, all_drw, all_ret, c_lt, c_le, c_gt, c_ge, c_eq, c_ne, c_isN, c_notN, isNon, cond_dec, cond_not, cond_and, cond_or, dr10, dr01, ex_ite, wt_nx, wt_rt, wt_ct, wt_bk, wt_drw, q_eq, F_inj, k_addl, k_addt, k_ap, rng2, line, rangeL, List.sum_cons, List.sum_nil, tyD, allTy, run]
  · simp (maxSteps := 10000000) (implicitDefEqProofs := false) (disch := omega) [turnF, g_by_way, p_between, SB.step, SB.right, SB.m0, SB.m1, b_ret, o_some, map_some, obind_some, k_add, k_sub, k_mul, k_ixl, k_ixt, ix_0, ix_1, ix_2, ix_3, ix_4, ix_5, ix_6, ix_7, ix_8, ix_9, ix_10, ix_11, ix_12, st_0, st_1, st_2, st_3, st_4, st_5, st_6, st_7, st_8, st_9, st_10, st_11, st_12, rd_0, rd_b, rd_l, rd_s, own_0, own_p, own_s, own_n, e_c, e_g, e_v, e_bin, neg_i, e_neg, e_cmp, e_chain, e_nt, e_and, e_or, e_tr, e_ite, e_tup, e_lst, e_ix, e_sl, e_rev, e_call, e_bi, e_isi, e_draw, e_comp, turn_cons, turn_nil, es_nil, es_cons, eS_nil, eS_cons, eC_nil, eC_cons, eA_nil, eA_cons, arg_st, bl_ret, x_nil, then_nx, then_rt, then_ct, then_bk, x_cns, x_bx, x_asgn, x_par, eR_nil, eR_cons, par_nil, par_cons, x_ixs, x_ap, x_ifs, x_rt, x_fr, loop_nx, loop_ct, loop_bk, loop_rt, for_nil, for_cons, bindA, List.replicate, List.cons_append, List.nil_append, a_nm, a_tt, a_tl, as_n, as_c, List.set_cons_zero, List.set_cons_succ, List.length_cons, List.length_nil, setS, boxS, cond_true, cond_false, Bool.and_true, Bool.and_false, Bool.true_and, Bool.false_and, if_true, lk_nil, lk_v, lk_c, lk_g, lk_bin, lk_neg, lk_cmp, lk_chain, lk_nt, lk_and2, lk_or2, lk_tr, lk_ite, lk_tup, lk_lst, lk_ix, lk_sl, lk_rev, lk_call, lk_bi, lk_isi, lk_comp, lk_comp2, lk_draw, ul_nil, ul_v, ul_c, ul_g, ul_bin, ul_neg, ul_cmp, ul_chain, ul_nt, ul_and2, ul_or2, ul_tr, ul_ite, ul_tup, ul_lst, ul_ix, ul_sl, ul_rev, ul_call, ul_bi, ul_isi, ul_comp, ul_comp2, ul_draw, isV, tgS, tgSs, wipeE, rt_v, rt_c, rt_g, rt_bin, rt_neg, rt_cmp, rt_chain, rt_nt, rt_and2, rt_or2, rt_tr, rt_ite, rt_tup, rt_lst, rt_ix, rt_sl, rt_rev, rt_call, rt_bi, rt_isi, rt_comp, rt_comp2, rt_draw, b_lenl, b_lent, b_lens, b_abs, b_sum, b_max, b_min, b_max2, b_min2, b_tupl, b_tupt, b_lstl, b_lstt, b_inti, b_intb, b_all, b_any, b_gcd, is_nil, is_cons, bs_nil, bs_cons, s_seql, s_seqt, s_seqs, s_r1, s_r2, s_zip, s_zipt, s_enum, s_enumt, s_rev, s_revt, s_rr, z_cons, z_nil, z_nil2, n_cons, n_nil, sl_l, sl_t, one_0, one_1, cut_from, cut_to, rv_l, tr_n, tr_b, tr_i, tr_l, tr_t, x_rtN, x_brk, x_cnt, x_pas, x_frz, x_drp, List.getElem?_cons_zero, List.getElem?_cons_succ, arg_c, arg_g, arg_bin, arg_neg, arg_cmp, arg_chain, arg_nt, arg_and2, arg_or2, arg_tr, arg_ite, arg_tup, arg_lst, arg_ix, arg_sl, arg_rev, arg_call, arg_bi, arg_isi, arg_comp, arg_draw, bind_drw, blT_drw, then_drw, loop_drw, all_drw, all_ret, c_lt, c_le, c_gt, c_ge, c_eq, c_ne, c_isN, c_notN, isNon, cond_dec, cond_not, cond_and, cond_or, dr10, dr01, ex_ite, wt_nx, wt_rt, wt_ct, wt_bk, wt_drw, q_eq, F_inj, k_addl, k_addt, k_ap, rng2, line, rangeL, List.sum_cons, List.sum_nil, tyD, allTy, run]
theorem p_by_loop {W : D} : ∀ (w : List Nat) (s : SB) (w3 w4 : Slot), Lr w → ∃ w3' w4', forL (turnF g_by_way (.nm 3) [(.box 4 false (.call 4 [(.v 1), (.v 2)])), (.ifs (.cmp .eq (.v 3) (.c (.str [108]))) [(.box 2 false (.v 4))] [(.box 1 false (.v 4))])]) (lrs w) [.pl W, .pl (.tup [.int s.a, .int s.b]), .pl (.tup [.int s.c, .int s.d]), w3, w4] = .ret (.nx, [.pl W, .pl (.tup [.int (s.go w).a, .int (s.go w).b]), .pl (.tup [.int (s.go w).c, .int (s.go w).d]), w3', w4'])
  | [], s, w3, w4, _ => ⟨w3, w4, rfl⟩
  | k :: w, s, w3, w4, h => by
    obtain ⟨w3', w4', e⟩ := p_by_loop (W := W) w (s.step k) (.pl (.str [k])) (.pl (.tup [.int s.m0, .int s.m1])) fun j hj => h j (List.mem_cons_of_mem _ hj)
    refine ⟨w3', w4', ?_⟩
    show forL _ (.str [k] :: lrs w) _ = _
    rw [forL, p_by_turn (h k List.mem_cons_self)]
    exact e
theorem seq_w {w : List Nat} : srcD .seq [.str w] = some (lrs w) := rfl
theorem p_by_way {w : List Nat} (h : Lr w) : r_by_way [.d (.str w)] = .ret (.tup [.int (start.go w).m0, .int (start.go w).m1], false) := by
  obtain ⟨w3', w4', e⟩ := p_by_loop (W := .str w) w start .no .no h
  have e : forL (turnF g_by_way (.nm 3) [(.box 4 false (.call 4 [(.v 1), (.v 2)])), (.ifs (.cmp .eq (.v 3) (.c (.str [108]))) [(.box 2 false (.v 4))] [(.box 1 false (.v 4))])]) (lrs w) [.pl (.str w), .pl (.tup [.int 0, .int 1]), .pl (.tup [.int 1, .int 0]), .no, .no] = _ := e
  simp (maxSteps := 10000000) (implicitDefEqProofs := false) (disch := omega) [r_by_way, i_by_way, g_by_way, seq_w, e, p_between, SB.m0, SB.m1, b_ret, o_some, map_some, obind_some, k_add, k_sub, k_mul, k_ixl, k_ixt, ix_0, ix_1, ix_2, ix_3, ix_4, ix_5, ix_6, ix_7, ix_8, ix_9, ix_10, ix_11, ix_12, st_0, st_1, st_2, st_3, st_4, st_5, st_6, st_7, st_8, st_9, st_10, st_11, st_12, rd_0, rd_b, rd_l, rd_s, own_0, own_p, own_s, own_n, e_c, e_g, e_v, e_bin, neg_i, e_neg, e_cmp, e_chain, e_nt, e_and, e_or, e_tr, e_ite, e_tup, e_lst, e_ix, e_sl, e_rev, e_call, e_bi, e_isi, e_draw, e_comp, turn_cons, turn_nil, es_nil, es_cons, eS_nil, eS_cons, eC_nil, eC_cons, eA_nil, eA_cons, arg_st, bl_ret, x_nil, then_nx, then_rt, then_ct, then_bk, x_cns, x_bx, x_asgn, x_par, eR_nil, eR_cons, par_nil, par_cons, x_ixs, x_ap, x_ifs, x_rt, x_fr, loop_nx, loop_ct, loop_bk, loop_rt, bindA, List.replicate, List.cons_append, List.nil_append, a_nm, a_tt, a_tl, as_n, as_c, List.set_cons_zero, List.set_cons_succ, List.length_cons, List.length_nil, setS, boxS, cond_true, cond_false, Bool.and_true, Bool.and_false, Bool.true_and, Bool.false_and, if_true, lk_nil, lk_v, lk_c, lk_g, lk_bin, lk_neg, lk_cmp, lk_chain, lk_nt, lk_and2, lk_or2, lk_tr, lk_ite, lk_tup, lk_lst, lk_ix, lk_sl, lk_rev, lk_call, lk_bi, lk_isi, lk_comp, lk_comp2, lk_draw, ul_nil, ul_v, ul_c, ul_g, ul_bin, ul_neg, ul_cmp, ul_chain, ul_nt, ul_and2, ul_or2, ul_tr, ul_ite, ul_tup, ul_lst, ul_ix, ul_sl, ul_rev, ul_call, ul_bi, ul_isi, ul_comp, ul_comp2, ul_draw, isV, tgS, tgSs, wipeE, rt_v, rt_c, rt_g, rt_bin, rt_neg, rt_cmp, rt_chain, rt_nt, rt_and2, rt_or2, rt_tr, rt_ite, rt_tup, rt_lst, rt_ix, rt_sl, rt_rev, rt_call, rt_bi, rt_isi, rt_comp, rt_comp2, rt_draw, b_lenl, b_lent, b_lens, b_abs, b_sum, b_max, b_min, b_max2, b_min2, b_tupl, b_tupt, b_lstl, b_lstt, b_inti, b_intb, b_all, b_any, b_gcd, is_nil, is_cons, bs_nil, bs_cons, s_seql, s_seqt, s_r1, s_r2, s_zip, s_zipt, s_enum, s_enumt, s_rev, s_revt, s_rr, z_cons, z_nil, z_nil2, n_cons, n_nil, sl_l, sl_t, one_0, one_1, cut_from, cut_to, rv_l, tr_n, tr_b, tr_i, tr_l, tr_t, x_rtN, x_brk, x_cnt, x_pas, x_frz, x_drp, List.getElem?_cons_zero, List.getElem?_cons_succ, arg_c, arg_g, arg_bin, arg_neg, arg_cmp, arg_chain, arg_nt, arg_and2, arg_or2, arg_tr, arg_ite, arg_tup, arg_lst, arg_ix, arg_sl, arg_rev, arg_call, arg_bi, arg_isi, arg_comp, arg_draw, bind_drw, blT_drw, then_drw, loop_drw, all_drw, all_ret, c_lt, c_le, c_gt, c_ge, c_eq, c_ne, c_isN, c_notN, isNon, cond_dec, cond_not, cond_and, cond_or, dr10, dr01, ex_ite, wt_nx, wt_rt, wt_ct, wt_bk, wt_drw, q_eq, F_inj, k_addl, k_addt, k_ap, line, List.sum_cons, List.sum_nil, tyD, allTy, run]
/-- numbers of so many bits -/
theorem sm_of {i N : Int} {n : Nat} (h0 : 0 ≤ i) (h : i ≤ N) (hN : N < 2 ^ n) : Sm n i := sm_le (B := N) (by omega) h hN
theorem p_way_tst {s : SB} {p q : Int} {W : D} : tstW g_way_to (.cmp .ne (.v 4) (.v 0)) [.pl (.tup [.int p, .int q]), .pl (.tup [.int s.a, .int s.b]), .pl (.tup [.int s.c, .int s.d]), .bx W, .pl (.tup [.int s.m0, .int s.m1])] = .ret (!decide (s.m0 = p ∧ s.m1 = q)) := by
  simp (maxSteps := 10000000) (implicitDefEqProofs := false) (disch := omega) [tstW, b_ret, o_some, map_some, obind_some, k_add, k_sub, k_mul, k_ixl, k_ixt, ix_0, ix_1, ix_2, ix_3, ix_4, ix_5, ix_6, ix_7, ix_8, ix_9, ix_10, ix_11, ix_12, st_0, st_1, st_2, st_3, st_4, st_5, st_6, st_7, st_8, st_9, st_10, st_11, st_12, rd_0, rd_b, rd_l, rd_s, own_0, own_p, own_s, own_n, e_c, e_g, e_v, e_bin, neg_i, e_neg, e_cmp, e_chain, e_nt, e_and, e_or, e_tr, e_ite, e_tup, e_lst, e_ix, e_sl, e_rev, e_call, e_bi, e_isi, e_draw, e_comp, turn_cons, turn_nil, es_nil, es_cons, eS_nil, eS_cons, eC_nil, eC_cons, eA_nil, eA_cons, arg_st, bl_ret, x_nil, then_nx, then_rt, then_ct, then_bk, x_cns, x_bx, x_asgn, x_par, eR_nil, eR_cons, par_nil, par_cons, x_ixs, x_ap, x_ifs, x_rt, x_fr, loop_nx, loop_ct, loop_bk, loop_rt, for_nil, for_cons, bindA, List.replicate, List.cons_append, List.nil_append, a_nm, a_tt, a_tl, as_n, as_c, List.set_cons_zero, List.set_cons_succ, List.length_cons, List.length_nil, setS, boxS, cond_true, cond_false, Bool.and_true, Bool.and_false, Bool.true_and, Bool.false_and, if_true, lk_nil, lk_v, lk_c, lk_g, lk_bin, lk_neg, lk_cmp, lk_chain, lk_nt, lk_and2, lk_or2, lk_tr, lk_ite, lk_tup, lk_lst, lk_ix, lk_sl, lk_rev, lk_call, lk_bi, lk_isi, lk_comp, lk_comp2, lk_draw, ul_nil, ul_v, ul_c, ul_g, ul_bin, ul_neg, ul_cmp, ul_chain, ul_nt, ul_and2, ul_or2, ul_tr, ul_ite, ul_tup, ul_lst, ul_ix, ul_sl, ul_rev, ul_call, ul_bi, ul_isi, ul_comp, ul_comp2, ul_draw, isV, tgS, tgSs, wipeE, rt_v, rt_c, rt_g, rt_bin, rt_neg, rt_cmp, rt_chain, rt_nt, rt_and2, rt_or2, rt_tr, rt_ite, rt_tup, rt_lst, rt_ix, rt_sl, rt_rev, rt_call, rt_bi, rt_isi, rt_comp, rt_comp2, rt_draw, b_lenl, b_lent, b_lens, b_abs, b_sum, b_max, b_min, b_max2, b_min2, b_tupl, b_tupt, b_lstl, b_lstt, b_inti, b_intb, b_all, b_any, b_gcd, is_nil, is_cons, bs_nil, bs_cons, s_seql, s_seqt, s_seqs, s_r1, s_r2, s_zip, s_zipt, s_enum, s_enumt, s_rev, s_revt, s_rr, z_cons, z_nil, z_nil2, n_cons, n_nil, sl_l, sl_t, one_0, one_1, cut_from, cut_to, rv_l, tr_n, tr_b, tr_i, tr_l, tr_t, x_rtN, x_brk, x_cnt, x_pas, x_frz, x_drp, List.getElem?_cons_zero, List.getElem?_cons_succ, arg_c, arg_g, arg_bin, arg_neg, arg_cmp, arg_chain, arg_nt, arg_and2, arg_or2, arg_tr, arg_ite, arg_tup, arg_lst, arg_ix, arg_sl, arg_rev, arg_call, arg_bi, arg_isi, arg_comp, arg_draw, bind_drw, blT_drw, then_drw, loop_drw, all_drw, all_ret, c_lt, c_le, c_gt, c_ge, c_eq, c_ne, c_isN, c_notN, isNon, cond_dec, cond_not, cond_and, cond_or, dr10, dr01, ex_ite, wt_nx, wt_rt, wt_ct, wt_bk, wt_drw, q_eq, F_inj, k_addl, k_addt, k_ap, rng2, line, rangeL, List.sum_cons, List.sum_nil, tyD, allTy, run]
theorem p_way_trn {s : SB} {p q : Int} {xs : List D} {n : Nat} (o : Ok s) (hl : xs.length = n) (hn : n ≤ 1000) (i1 : Sm 30 p) (i2 : Sm 30 q) (i3 : Sm 30 s.m0) (i4 : Sm 30 s.m1) : trnW g_way_to [(.ifs (.cmp .lt (.bin .mul (.ix (.v 0) (.c (.int 0))) (.ix (.v 4) (.c (.int 1)))) (.bin .mul (.ix (.v 4) (.c (.int 0))) (.ix (.v 0) (.c (.int 1))))) [(.box 2 false (.v 4)), (.app 3 (.c (.str [108])))] [(.box 1 false (.v 4)), (.app 3 (.c (.str [114])))]), (.box 4 false (.call 4 [(.v 1), (.v 2)]))] [.pl (.tup [.int p, .int q]), .pl (.tup [.int s.a, .int s.b]), .pl (.tup [.int s.c, .int s.d]), .bx (.lst xs), .pl (.tup [.int s.m0, .int s.m1])] =
    (if p * s.m1 < s.m0 * q then T.ret (.nx, [.pl (.tup [.int p, .int q]), .pl (.tup [.int s.left.a, .int s.left.b]), .pl (.tup [.int s.left.c, .int s.left.d]), .bx (.lst (xs ++ [.str [108]])), .pl (.tup [.int s.left.m0, .int s.left.m1])])
      else T.ret (.nx, [.pl (.tup [.int p, .int q]), .pl (.tup [.int s.right.a, .int s.right.b]), .pl (.tup [.int s.right.c, .int s.right.d]), .bx (.lst (xs ++ [.str [114]])), .pl (.tup [.int s.right.m0, .int s.right.m1])])) := by
  have hln : Ln n xs := ⟨hl⟩
  have el : s.left.m0 = s.a + s.m0 ∧ s.left.m1 = s.b + s.m1 := ⟨rfl, rfl⟩
  have er : s.right.m0 = s.m0 + s.c ∧ s.right.m1 = s.m1 + s.d := ⟨rfl, rfl⟩
  rw [el.1, el.2, er.1, er.2]
  show _ = ((if p * s.m1 < s.m0 * q then T.ret (.nx, [.pl (.tup [.int p, .int q]), .pl (.tup [.int s.a, .int s.b]), .pl (.tup [.int s.m0, .int s.m1]), .bx (.lst (xs ++ [.str [108]])), .pl (.tup [.int (s.a + s.m0), .int (s.b + s.m1)])])
      else T.ret (.nx, [.pl (.tup [.int p, .int q]), .pl (.tup [.int s.m0, .int s.m1]), .pl (.tup [.int s.c, .int s.d]), .bx (.lst (xs ++ [.str [114]])), .pl (.tup [.int (s.m0 + s.c), .int (s.m1 + s.d)])])) : T Xs)
  generalize s.m0 = u at *
  generalize s.m1 = v at *
  by_cases h : p * v < u * q
  · simp (maxSteps := 10000000) (implicitDefEqProofs := false) (disch := omega) [trnW, g_way_to, p_between, h, b_ret, o_some, map_some, obind_some, k_add, k_sub, k_mul, k_ixl, k_ixt, ix_0, ix_1, ix_2, ix_3, ix_4, ix_5, ix_6, ix_7, ix_8, ix_9, ix_10, ix_11, ix_12, st_0, st_1, st_2, st_3, st_4, st_5, st_6, st_7, st_8, st_9, st_10, st_11, st_12, rd_0, rd_b, rd_l, rd_s, own_0, own_p, own_s, own_n, e_c, e_g, e_v, e_bin, neg_i, e_neg, e_cmp, e_chain, e_nt, e_and, e_or, e_tr, e_ite, e_tup, e_lst, e_ix, e_sl, e_rev, e_call, e_bi, e_isi, e_draw, e_comp, turn_cons, turn_nil, es_nil, es_cons, eS_nil, eS_cons, eC_nil, eC_cons, eA_nil, eA_cons, arg_st, bl_ret, x_nil, then_nx, then_rt, then_ct, then_bk, x_cns, x_bx, x_asgn, x_par, eR_nil, eR_cons, par_nil, par_cons, x_ixs, x_ap, x_ifs, x_rt, x_fr, loop_nx, loop_ct, loop_bk, loop_rt, for_nil, for_cons, bindA, List.replicate, List.cons_append, List.nil_append, a_nm, a_tt, a_tl, as_n, as_c, List.set_cons_zero, List.set_cons_succ, List.length_cons, List.length_nil, setS, boxS, cond_true, cond_false, Bool.and_true, Bool.and_false, Bool.true_and, Bool.false_and, if_true, lk_nil, lk_v, lk_c, lk_g, lk_bin, lk_neg, lk_cmp, lk_chain, lk_nt, lk_and2, lk_or2, lk_tr, lk_ite, lk_tup, lk_lst, lk_ix, lk_sl, lk_rev, lk_call, lk_bi, lk_isi, lk_comp, lk_comp2, lk_draw, ul_nil, ul_v, ul_c, ul_g, ul_bin, ul_neg, ul_cmp, ul_chain, ul_nt, ul_and2, ul_or2, ul_tr, ul_ite, ul_tup, ul_lst, ul_ix, ul_sl, ul_rev, ul_call, ul_bi, ul_isi, ul_comp, ul_comp2, ul_draw, isV, tgS, tgSs, wipeE, rt_v, rt_c, rt_g, rt_bin, rt_neg, rt_cmp, rt_chain, rt_nt, rt_and2, rt_or2, rt_tr, rt_ite, rt_tup, rt_lst, rt_ix, rt_sl, rt_rev, rt_call, rt_bi, rt_isi, rt_comp, rt_comp2, rt_draw, b_lenl, b_lent, b_lens, b_abs, b_sum, b_max, b_min, b_max2, b_min2, b_tupl, b_tupt, b_lstl, b_lstt, b_inti, b_intb, b_all, b_any, b_gcd, is_nil, is_cons, bs_nil, bs_cons, s_seql, s_seqt, s_seqs, s_r1, s_r2, s_zip, s_zipt, s_enum, s_enumt, s_rev, s_revt, s_rr, z_cons, z_nil, z_nil2, n_cons, n_nil, sl_l, sl_t, one_0, one_1, cut_from, cut_to, rv_l, tr_n, tr_b, tr_i, tr_l, tr_t, x_rtN, x_brk, x_cnt, x_pas, x_frz, x_drp, List.getElem?_cons_zero, List.getElem?_cons_succ, arg_c, arg_g, arg_bin, arg_neg, arg_cmp, arg_chain, arg_nt, arg_and2, arg_or2, arg_tr, arg_ite, arg_tup, arg_lst, arg_ix, arg_sl, arg_rev, arg_call, arg_bi, arg_isi, arg_comp, arg_draw, bind_drw, blT_drw, then_drw, loop_drw, all_drw, all_ret, c_lt, c_le, c_gt, c_ge, c_eq, c_ne, c_isN, c_notN, isNon, cond_dec, cond_not, cond_and, cond_or, dr10, dr01, ex_ite, wt_nx, wt_rt, wt_ct, wt_bk, wt_drw, q_eq, F_inj, k_addl, k_addt, k_ap, rng2, line, rangeL, List.sum_cons, List.sum_nil, tyD, allTy, run]
  · simp (maxSteps := 10000000) (implicitDefEqProofs := false) (disch := omega) [trnW, g_way_to, p_between, h, b_ret, o_some, map_some, obind_some, k_add, k_sub, k_mul, k_ixl, k_ixt, ix_0, ix_1, ix_2, ix_3, ix_4, ix_5, ix_6, ix_7, ix_8, ix_9, ix_10, ix_11, ix_12, st_0, st_1, st_2, st_3, st_4, st_5, st_6, st_7, st_8, st_9, st_10, st_11, st_12, rd_0, rd_b, rd_l, rd_s, own_0, own_p, own_s, own_n, e_c, e_g, e_v, e_bin, neg_i, e_neg, e_cmp, e_chain, e_nt, e_and, e_or, e_tr, e_ite, e_tup, e_lst, e_ix, e_sl, e_rev, e_call, e_bi, e_isi, e_draw, e_comp, turn_cons, turn_nil, es_nil, es_cons, eS_nil, eS_cons, eC_nil, eC_cons, eA_nil, eA_cons, arg_st, bl_ret, x_nil, then_nx, then_rt, then_ct, then_bk, x_cns, x_bx, x_asgn, x_par, eR_nil, eR_cons, par_nil, par_cons, x_ixs, x_ap, x_ifs, x_rt, x_fr, loop_nx, loop_ct, loop_bk, loop_rt, for_nil, for_cons, bindA, List.replicate, List.cons_append, List.nil_append, a_nm, a_tt, a_tl, as_n, as_c, List.set_cons_zero, List.set_cons_succ, List.length_cons, List.length_nil, setS, boxS, cond_true, cond_false, Bool.and_true, Bool.and_false, Bool.true_and, Bool.false_and, if_true, lk_nil, lk_v, lk_c, lk_g, lk_bin, lk_neg, lk_cmp, lk_chain, lk_nt, lk_and2, lk_or2, lk_tr, lk_ite, lk_tup, lk_lst, lk_ix, lk_sl, lk_rev, lk_call, lk_bi, lk_isi, lk_comp, lk_comp2, lk_draw, ul_nil, ul_v, ul_c, ul_g, ul_bin, ul_neg, ul_cmp, ul_chain, ul_nt, ul_and2, ul_or2, ul_tr, ul_ite, ul_tup, ul_lst, ul_ix, ul_sl, ul_rev, ul_call, ul_bi, ul_isi, ul_comp, ul_comp2, ul_draw, isV, tgS, tgSs, wipeE, rt_v, rt_c, rt_g, rt_bin, rt_neg, rt_cmp, rt_chain, rt_nt, rt_and2, rt_or2, rt_tr, rt_ite, rt_tup, rt_lst, rt_ix, rt_sl, rt_rev, rt_call, rt_bi, rt_isi, rt_comp, rt_comp2, rt_draw, b_lenl, b_lent, b_lens, b_abs, b_sum, b_max, b_min, b_max2, b_min2, b_tupl, b_tupt, b_lstl, b_lstt, b_inti, b_intb, b_all, b_any, b_gcd, is_nil, is_cons, bs_nil, bs_cons, s_seql, s_seqt, s_seqs, s_r1, s_r2, s_zip, s_zipt, s_enum, s_enumt, s_rev, s_revt, s_rr, z_cons, z_nil, z_nil2, n_cons, n_nil, sl_l, sl_t, one_0, one_1, cut_from, cut_to, rv_l, tr_n, tr_b, tr_i, tr_l, tr_t, x_rtN, x_brk, x_cnt, x_pas, x_frz, x_drp, List.getElem?_cons_zero, List.getElem?_cons_succ, arg_c, arg_g, arg_bin, arg_neg, arg_cmp, arg_chain, arg_nt, arg_and2, arg_or2, arg_tr, arg_ite, arg_tup, arg_lst, arg_ix, arg_sl, arg_rev, arg_call, arg_bi, arg_isi, arg_comp, arg_draw, bind_drw, blT_drw, then_drw, loop_drw, all_drw, all_ret, c_lt, c_le, c_gt, c_ge, c_eq, c_ne, c_isN, c_notN, isNon, cond_dec, cond_not, cond_and, cond_or, dr10, dr01, ex_ite, wt_nx, wt_rt, wt_ct, wt_bk, wt_drw, q_eq, F_inj, k_addl, k_addt, k_ap, rng2, line, rangeL, List.sum_cons, List.sum_nil, tyD, allTy, run]
theorem p_way_loop {p q : Int} (hp : p < 2 ^ 30) (hq : q < 2 ^ 30) : ∀ (w : List Nat) (s : SB) (xs : List D) (n : Nat), Lr w → Ok s → (s.go w).m0 = p → (s.go w).m1 = q → w.length < n → xs.length + w.length ≤ 1000 →
    ∃ s' : SB, whlL (tstW g_way_to (.cmp .ne (.v 4) (.v 0))) (trnW g_way_to [(.ifs (.cmp .lt (.bin .mul (.ix (.v 0) (.c (.int 0))) (.ix (.v 4) (.c (.int 1)))) (.bin .mul (.ix (.v 4) (.c (.int 0))) (.ix (.v 0) (.c (.int 1))))) [(.box 2 false (.v 4)), (.app 3 (.c (.str [108])))] [(.box 1 false (.v 4)), (.app 3 (.c (.str [114])))]), (.box 4 false (.call 4 [(.v 1), (.v 2)]))]) n [.pl (.tup [.int p, .int q]), .pl (.tup [.int s.a, .int s.b]), .pl (.tup [.int s.c, .int s.d]), .bx (.lst xs), .pl (.tup [.int s.m0, .int s.m1])] = .ret (.nx, [.pl (.tup [.int p, .int q]), .pl (.tup [.int s'.a, .int s'.b]), .pl (.tup [.int s'.c, .int s'.d]), .bx (.lst (xs ++ lrs w)), .pl (.tup [.int s'.m0, .int s'.m1])])
  | [], s, xs, n + 1, _, o, h1, h2, _, _ => ⟨s, by
    rw [whl_end (by rw [p_way_tst]; simp [← h1, ← h2, SB.go])]
    simp [lrs]⟩
  | k :: w, s, xs, n + 1, hw, o, h1, h2, hn, hx => by
    rw [SB.go] at h1 h2
    obtain ⟨x, y, r⟩ := rp_go w (s.step k)
    rw [h1, h2] at r
    obtain ⟨x', y', r'⟩ := rp_go (k :: w) s
    rw [SB.go, h1, h2] at r'
    have le := r'.le o
    have a0 := o.a0
    have b0 := o.b0
    have c0 := o.c0
    have d0 := o.d0
    have m0 : 0 ≤ s.m0 := by simp only [SB.m0]; omega
    have m1 : 0 ≤ s.m1 := by simp only [SB.m1]; omega
    have t := p_way_trn (s := s) (p := p) (q := q) (xs := xs) o rfl (by rw [List.length_cons] at hx; omega) (sm_of (by omega) (Int.le_refl p) hp) (sm_of (by omega) (Int.le_refl q) hq) (sm_of m0 le.1 hp) (sm_of m1 le.2 hq)
    rw [List.length_cons] at hn hx
    have ih := p_way_loop hp hq w (s.step k) (xs ++ [.str [k]]) n (fun j hj => hw j (List.mem_cons_of_mem _ hj)) (o.step k) h1 h2 (by omega) (by rw [List.length_append]; simp only [List.length_cons, List.length_nil]; omega)
    obtain ⟨s', ih⟩ := ih
    refine ⟨s', ?_⟩
    have e : xs ++ lrs (k :: w) = xs ++ [.str [k]] ++ lrs w := by rw [List.append_assoc]; rfl
    rw [e]
    rcases hw k List.mem_cons_self with rfl | rfl
    · have e2 : s.step 108 = s.left := rfl
      rw [e2] at r ih
      have c := cross_l o r
      rw [if_pos c] at t
      rw [whl_go (by rw [p_way_tst, decide_eq_false (by rintro ⟨z1, z2⟩; rw [z1, z2] at c; rw [Int.mul_comm] at c; omega)]; rfl) t]
      exact ih
    · have e2 : s.step 114 = s.right := rfl
      rw [e2] at r ih
      have c := cross_r o r
      rw [if_neg (by omega)] at t
      rw [whl_go (by rw [p_way_tst, decide_eq_false (by rintro ⟨z1, z2⟩; rw [z1, z2] at c; rw [Int.mul_comm] at c; omega)]; rfl) t]
      exact ih
theorem strs_lrs : ∀ w : List Nat, strsOf (lrs w) = some (w.map fun c => [c])
  | [] => rfl
  | k :: w => by
    show (strsOf (lrs w)).map _ = _
    rw [strs_lrs w]; rfl
theorem join_lrs : ∀ w : List Nat, joinN [] (w.map fun c => [c]) = w
  | [] => rfl
  | [_] => rfl
  | a :: b :: w => by
    show [a] ++ ([] ++ joinN [] ((b :: w).map fun c => [c])) = _
    rw [join_lrs (b :: w)]; rfl
theorem b_join {w : List Nat} (h : w.length ≤ 1000) : biD .join [.str [], .lst (lrs w)] = some (.str w, false) := by
  show (strsOf (lrs w)).bind _ = _
  rw [strs_lrs]
  show (if _ then _ else _) = _
  rw [if_pos, join_lrs]
  have e : ((w.map fun c => [c]).map List.length).sum = w.length := by
    clear h
    induction w with
    | nil => rfl
    | cons a w ih => simp only [List.map_cons, List.sum_cons, List.length_cons, ih, List.length_nil]; omega
  rw [e]; simp; omega
theorem p_way_to {w : List Nat} (h : Lr w) (hp : (start.go w).m0 < 2 ^ 30) (hq : (start.go w).m1 < 2 ^ 30) (hw : w.length ≤ 900) : r_way_to [.d (.tup [.int (start.go w).m0, .int (start.go w).m1])] = .ret (.str w, false) := by
  obtain ⟨s', e⟩ := p_way_loop hp hq w start [] 1000000 h ok_start rfl rfl (by omega) (by simp; omega)
  have e : whlL (tstW g_way_to (.cmp .ne (.v 4) (.v 0))) (trnW g_way_to [(.ifs (.cmp .lt (.bin .mul (.ix (.v 0) (.c (.int 0))) (.ix (.v 4) (.c (.int 1)))) (.bin .mul (.ix (.v 4) (.c (.int 0))) (.ix (.v 0) (.c (.int 1))))) [(.box 2 false (.v 4)), (.app 3 (.c (.str [108])))] [(.box 1 false (.v 4)), (.app 3 (.c (.str [114])))]), (.box 4 false (.call 4 [(.v 1), (.v 2)]))]) 1000000 [.pl (.tup [.int (start.go w).m0, .int (start.go w).m1]), .pl (.tup [.int 0, .int 1]), .pl (.tup [.int 1, .int 0]), .bx (.lst []), .pl (.tup [.int 1, .int 1])] = _ := e
  rw [List.nil_append] at e
  have hj := b_join (w := w) (by omega)
  generalize (start.go w).m0 = p at *
  generalize (start.go w).m1 = q at *
  simp (maxSteps := 10000000) (implicitDefEqProofs := false) (disch := omega) [r_way_to, i_way_to, g_way_to, p_between, x_wh, e, hj, b_ret, o_some, map_some, obind_some, k_add, k_sub, k_mul, k_ixl, k_ixt, ix_0, ix_1, ix_2, ix_3, ix_4, ix_5, ix_6, ix_7, ix_8, ix_9, ix_10, ix_11, ix_12, st_0, st_1, st_2, st_3, st_4, st_5, st_6, st_7, st_8, st_9, st_10, st_11, st_12, rd_0, rd_b, rd_l, rd_s, own_0, own_p, own_s, own_n, e_c, e_g, e_v, e_bin, neg_i, e_neg, e_cmp, e_chain, e_nt, e_and, e_or, e_tr, e_ite, e_tup, e_lst, e_ix, e_sl, e_rev, e_call, e_bi, e_isi, e_draw, e_comp, turn_cons, turn_nil, es_nil, es_cons, eS_nil, eS_cons, eC_nil, eC_cons, eA_nil, eA_cons, arg_st, bl_ret, x_nil, then_nx, then_rt, then_ct, then_bk, x_cns, x_bx, x_asgn, x_par, eR_nil, eR_cons, par_nil, par_cons, x_ixs, x_ap, x_ifs, x_rt, x_fr, loop_nx, loop_ct, loop_bk, loop_rt, for_nil, for_cons, bindA, List.replicate, List.cons_append, List.nil_append, a_nm, a_tt, a_tl, as_n, as_c, List.set_cons_zero, List.set_cons_succ, List.length_cons, List.length_nil, setS, boxS, cond_true, cond_false, Bool.and_true, Bool.and_false, Bool.true_and, Bool.false_and, if_true, lk_nil, lk_v, lk_c, lk_g, lk_bin, lk_neg, lk_cmp, lk_chain, lk_nt, lk_and2, lk_or2, lk_tr, lk_ite, lk_tup, lk_lst, lk_ix, lk_sl, lk_rev, lk_call, lk_bi, lk_isi, lk_comp, lk_comp2, lk_draw, ul_nil, ul_v, ul_c, ul_g, ul_bin, ul_neg, ul_cmp, ul_chain, ul_nt, ul_and2, ul_or2, ul_tr, ul_ite, ul_tup, ul_lst, ul_ix, ul_sl, ul_rev, ul_call, ul_bi, ul_isi, ul_comp, ul_comp2, ul_draw, isV, tgS, tgSs, wipeE, rt_v, rt_c, rt_g, rt_bin, rt_neg, rt_cmp, rt_chain, rt_nt, rt_and2, rt_or2, rt_tr, rt_ite, rt_tup, rt_lst, rt_ix, rt_sl, rt_rev, rt_call, rt_bi, rt_isi, rt_comp, rt_comp2, rt_draw, b_lenl, b_lent, b_lens, b_abs, b_sum, b_max, b_min, b_max2, b_min2, b_tupl, b_tupt, b_lstl, b_lstt, b_inti, b_intb, b_all, b_any, b_gcd, is_nil, is_cons, bs_nil, bs_cons, s_seql, s_seqt, s_seqs, s_r1, s_r2, s_zip, s_zipt, s_enum, s_enumt, s_rev, s_revt, s_rr, z_cons, z_nil, z_nil2, n_cons, n_nil, sl_l, sl_t, one_0, one_1, cut_from, cut_to, rv_l, tr_n, tr_b, tr_i, tr_l, tr_t, x_rtN, x_brk, x_cnt, x_pas, x_frz, x_drp, List.getElem?_cons_zero, List.getElem?_cons_succ, arg_c, arg_g, arg_bin, arg_neg, arg_cmp, arg_chain, arg_nt, arg_and2, arg_or2, arg_tr, arg_ite, arg_tup, arg_lst, arg_ix, arg_sl, arg_rev, arg_call, arg_bi, arg_isi, arg_comp, arg_draw, bind_drw, blT_drw, then_drw, loop_drw, all_drw, all_ret, c_lt, c_le, c_gt, c_ge, c_eq, c_ne, c_isN, c_notN, isNon, cond_dec, cond_not, cond_and, cond_or, dr10, dr01, ex_ite, wt_nx, wt_rt, wt_ct, wt_bk, wt_drw, q_eq, F_inj, k_addl, k_addt, k_ap, rng2, line, rangeL, List.sum_cons, List.sum_nil, tyD, allTy, run]
theorem p_near {a b c d : Int} (i1 : Sm 30 a) (i2 : Sm 30 b) (i3 : Sm 30 c) (i4 : Sm 30 d) : r_are_neighbours [.d (.tup [.int a, .int b]), .d (.tup [.int c, .int d])] = .ret (.bl (decide ((a * d - b * c).natAbs = 1)), false) := by
  have e : ∀ z : Int, ((if z < 0 then -z else z) = 1) = (z.natAbs = 1) := fun z => by apply propext; split <;> omega
  simp (maxSteps := 10000000) (implicitDefEqProofs := false) (disch := omega) [r_are_neighbours, i_are_neighbours, e, b_ret, o_some, map_some, obind_some, k_add, k_sub, k_mul, k_ixl, k_ixt, ix_0, ix_1, ix_2, ix_3, ix_4, ix_5, ix_6, ix_7, ix_8, ix_9, ix_10, ix_11, ix_12, st_0, st_1, st_2, st_3, st_4, st_5, st_6, st_7, st_8, st_9, st_10, st_11, st_12, rd_0, rd_b, rd_l, rd_s, own_0, own_p, own_s, own_n, e_c, e_g, e_v, e_bin, neg_i, e_neg, e_cmp, e_chain, e_nt, e_and, e_or, e_tr, e_ite, e_tup, e_lst, e_ix, e_sl, e_rev, e_call, e_bi, e_isi, e_draw, e_comp, turn_cons, turn_nil, es_nil, es_cons, eS_nil, eS_cons, eC_nil, eC_cons, eA_nil, eA_cons, arg_st, bl_ret, x_nil, then_nx, then_rt, then_ct, then_bk, x_cns, x_bx, x_asgn, x_par, eR_nil, eR_cons, par_nil, par_cons, x_ixs, x_ap, x_ifs, x_rt, x_fr, loop_nx, loop_ct, loop_bk, loop_rt, for_nil, for_cons, bindA, List.replicate, List.cons_append, List.nil_append, a_nm, a_tt, a_tl, as_n, as_c, List.set_cons_zero, List.set_cons_succ, List.length_cons, List.length_nil, setS, boxS, cond_true, cond_false, Bool.and_true, Bool.and_false, Bool.true_and, Bool.false_and, if_true, lk_nil, lk_v, lk_c, lk_g, lk_bin, lk_neg, lk_cmp, lk_chain, lk_nt, lk_and2, lk_or2, lk_tr, lk_ite, lk_tup, lk_lst, lk_ix, lk_sl, lk_rev, lk_call, lk_bi, lk_isi, lk_comp, lk_comp2, lk_draw, ul_nil, ul_v, ul_c, ul_g, ul_bin, ul_neg, ul_cmp, ul_chain, ul_nt, ul_and2, ul_or2, ul_tr, ul_ite, ul_tup, ul_lst, ul_ix, ul_sl, ul_rev, ul_call, ul_bi, ul_isi, ul_comp, ul_comp2, ul_draw, isV, tgS, tgSs, wipeE, rt_v, rt_c, rt_g, rt_bin, rt_neg, rt_cmp, rt_chain, rt_nt, rt_and2, rt_or2, rt_tr, rt_ite, rt_tup, rt_lst, rt_ix, rt_sl, rt_rev, rt_call, rt_bi, rt_isi, rt_comp, rt_comp2, rt_draw, b_lenl, b_lent, b_lens, b_abs, b_sum, b_max, b_min, b_max2, b_min2, b_tupl, b_tupt, b_lstl, b_lstt, b_inti, b_intb, b_all, b_any, b_gcd, is_nil, is_cons, bs_nil, bs_cons, s_seql, s_seqt, s_seqs, s_r1, s_r2, s_zip, s_zipt, s_enum, s_enumt, s_rev, s_revt, s_rr, z_cons, z_nil, z_nil2, n_cons, n_nil, sl_l, sl_t, one_0, one_1, cut_from, cut_to, rv_l, tr_n, tr_b, tr_i, tr_l, tr_t, x_rtN, x_brk, x_cnt, x_pas, x_frz, x_drp, List.getElem?_cons_zero, List.getElem?_cons_succ, arg_c, arg_g, arg_bin, arg_neg, arg_cmp, arg_chain, arg_nt, arg_and2, arg_or2, arg_tr, arg_ite, arg_tup, arg_lst, arg_ix, arg_sl, arg_rev, arg_call, arg_bi, arg_isi, arg_comp, arg_draw, bind_drw, blT_drw, then_drw, loop_drw, all_drw, all_ret, c_lt, c_le, c_gt, c_ge, c_eq, c_ne, c_isN, c_notN, isNon, cond_dec, cond_not, cond_and, cond_or, dr10, dr01, ex_ite, wt_nx, wt_rt, wt_ct, wt_bk, wt_drw, q_eq, F_inj, k_addl, k_addt, k_ap, rng2, line, rangeL, List.sum_cons, List.sum_nil, tyD, allTy, run]
  omega
end K95

set_option Elab.async false
set_option linter.all false
set_option maxRecDepth 100000
set_option maxHeartbeats 8000000
namespace K95
open FF SB
def p1 : S := (.box 3 false (.lst []))
def p2 : S := (.forr (.nm 4) .range [(.c (.int 1)), (.bin .add (.v 2) (.c (.int 1)))] [(.box 3 false (.bin .add (.v 3) (.comp (.nm 5) .range [(.bin .add (.v 4) (.c (.int 1)))] [(.cmp .eq (.call 7 [(.v 5), (.v 4)]) (.c (.int 1)))] (.tup [(.v 5), (.v 4)]))))])
def p3 : S := (.box 6 false (.call 0 [(.v 2)]))
def p4 : S := (.box 7 false (.cmp .eq (.comp (.nm 8) .range [(.bin .sub (.bi .len [(.v 6)]) (.c (.int 1)))] [(.cmp .ge (.bin .mul (.ix (.ix (.v 6) (.v 8)) (.c (.int 0))) (.ix (.ix (.v 6) (.bin .add (.v 8) (.c (.int 1)))) (.c (.int 1)))) (.bin .mul (.ix (.ix (.v 6) (.bin .add (.v 8) (.c (.int 1)))) (.c (.int 0))) (.ix (.ix (.v 6) (.v 8)) (.c (.int 1)))))] (.v 8)) (.lst [])))
def p5 : S := (.ifs (.or2 (.cmp .ne (.bi .sorted [(.v 6)]) (.bi .sorted [(.v 3)])) (.or2 (.nt (.tr (.v 7))) (.cmp .ne (.comp (.nm 8) .range [(.bin .sub (.bi .len [(.v 6)]) (.c (.int 1)))] [(.nt (.tr (.call 2 [(.ix (.v 6) (.v 8)), (.ix (.v 6) (.bin .add (.v 8) (.c (.int 1))))])))] (.v 8)) (.lst [])))) [(.ret (.c (.bl false)))] [])
def p6 : S := (.forr (.nm 8) .range [(.c (.int 1)), (.bin .sub (.bi .len [(.v 6)]) (.c (.int 1)))] [(.ifs (.cmp .ne (.call 1 [(.bin .add (.ix (.ix (.v 6) (.bin .sub (.v 8) (.c (.int 1)))) (.c (.int 0))) (.ix (.ix (.v 6) (.bin .add (.v 8) (.c (.int 1)))) (.c (.int 0)))), (.bin .add (.ix (.ix (.v 6) (.bin .sub (.v 8) (.c (.int 1)))) (.c (.int 1))) (.ix (.ix (.v 6) (.bin .add (.v 8) (.c (.int 1)))) (.c (.int 1))))]) (.ix (.v 6) (.v 8))) [(.ret (.c (.bl false)))] [])])
/-- rows of ints as data -/
def TD (L : List (List Int)) : List D := L.map fun t => .tup (t.map .int)
theorem TD_app {L M : List (List Int)} : TD L ++ TD M = TD (L ++ M) := by simp [TD]
theorem p_common {a b : Nat} (h : b < 2 ^ 20) : r__law_common [.d (.int (a : Int)), .d (.int (b : Int))] = .ret (.int (Nat.gcd a b : Nat), false) := by
  obtain ⟨s', e⟩ := gcd_gen (tst := tstW g__law_common (.cmp .gt (.v 1) (.c (.int 0)))) (trn := trnW g__law_common [(.box 2 false (.bin .mod (.bi .int [(.v 0)]) (.v 1))), (.box 0 false (.v 1)), (.box 1 false (.v 2))]) (fun a b s => [.pl (.int a), .pl (.int b), s]) (by
    intro a b s
    simp (maxSteps := 10000000) (implicitDefEqProofs := false) (disch := omega) [tstW, b_ret, o_some, map_some, obind_some, k_add, k_sub, k_mul, k_ixl, k_ixt, ix_0, ix_1, ix_2, ix_3, ix_4, ix_5, ix_6, ix_7, ix_8, ix_9, ix_10, ix_11, ix_12, st_0, st_1, st_2, st_3, st_4, st_5, st_6, st_7, st_8, st_9, st_10, st_11, st_12, rd_0, rd_b, rd_l, rd_s, own_0, own_p, own_s, own_n, e_c, e_g, e_v, e_bin, neg_i, e_neg, e_cmp, e_chain, e_nt, e_and, e_or, e_tr, e_ite, e_tup, e_lst, e_ix, e_sl, e_rev, e_call, e_bi, e_isi, e_draw, e_comp, turn_cons, turn_nil, es_nil, es_cons, eS_nil, eS_cons, eC_nil, eC_cons, eA_nil, eA_cons, arg_st, bl_ret, x_nil, then_nx, then_rt, then_ct, then_bk, x_cns, x_bx, x_asgn, x_par, eR_nil, eR_cons, par_nil, par_cons, x_ixs, x_ap, x_ifs, x_rt, x_fr, loop_nx, loop_ct, loop_bk, loop_rt, for_nil, for_cons, bindA, List.replicate, List.cons_append, List.nil_append, a_nm, a_tt, a_tl, as_n, as_c, List.set_cons_zero, List.set_cons_succ, List.length_cons, List.length_nil, setS, boxS, cond_true, cond_false, Bool.and_true, Bool.and_false, Bool.true_and, Bool.false_and, if_true, lk_nil, lk_v, lk_c, lk_g, lk_bin, lk_neg, lk_cmp, lk_chain, lk_nt, lk_and2, lk_or2, lk_tr, lk_ite, lk_tup, lk_lst, lk_ix, lk_sl, lk_rev, lk_call, lk_bi, lk_isi, lk_comp, lk_comp2, lk_draw, ul_nil, ul_v, ul_c, ul_g, ul_bin, ul_neg, ul_cmp, ul_chain, ul_nt, ul_and2, ul_or2, ul_tr, ul_ite, ul_tup, ul_lst, ul_ix, ul_sl, ul_rev, ul_call, ul_bi, ul_isi, ul_comp, ul_comp2, ul_draw, isV, tgS, tgSs, wipeE, rt_v, rt_c, rt_g, rt_bin, rt_neg, rt_cmp, rt_chain, rt_nt, rt_and2, rt_or2, rt_tr, rt_ite, rt_tup, rt_lst, rt_ix, rt_sl, rt_rev, rt_call, rt_bi, rt_isi, rt_comp, rt_comp2, rt_draw, b_lenl, b_lent, b_lens, b_abs, b_sum, b_max, b_min, b_max2, b_min2, b_tupl, b_tupt, b_lstl, b_lstt, b_inti, b_intb, b_all, b_any, b_gcd, is_nil, is_cons, bs_nil, bs_cons, s_seql, s_seqt, s_seqs, s_r1, s_r2, s_zip, s_zipt, s_enum, s_enumt, s_rev, s_revt, s_rr, z_cons, z_nil, z_nil2, n_cons, n_nil, sl_l, sl_t, one_0, one_1, cut_from, cut_to, rv_l, tr_n, tr_b, tr_i, tr_l, tr_t, x_rtN, x_brk, x_cnt, x_pas, x_frz, x_drp, List.getElem?_cons_zero, List.getElem?_cons_succ, arg_c, arg_g, arg_bin, arg_neg, arg_cmp, arg_chain, arg_nt, arg_and2, arg_or2, arg_tr, arg_ite, arg_tup, arg_lst, arg_ix, arg_sl, arg_rev, arg_call, arg_bi, arg_isi, arg_comp, arg_draw, bind_drw, blT_drw, then_drw, loop_drw, all_drw, all_ret, c_lt, c_le, c_gt, c_ge, c_eq, c_ne, c_isN, c_notN, isNon, cond_dec, cond_not, cond_and, cond_or, dr10, dr01, ex_ite, wt_nx, wt_rt, wt_ct, wt_bk, wt_drw, q_eq, F_inj, k_addl, k_addt, k_ap, rng2, line, rangeL, List.sum_cons, List.sum_nil, tyD, allTy, run]) (by
    intro a b s hb
    refine ⟨.pl (.int (a % b)), ?_⟩
    simp (maxSteps := 10000000) (implicitDefEqProofs := false) (disch := omega) [trnW, k_modp, hb, b_ret, o_some, map_some, obind_some, k_add, k_sub, k_mul, k_ixl, k_ixt, ix_0, ix_1, ix_2, ix_3, ix_4, ix_5, ix_6, ix_7, ix_8, ix_9, ix_10, ix_11, ix_12, st_0, st_1, st_2, st_3, st_4, st_5, st_6, st_7, st_8, st_9, st_10, st_11, st_12, rd_0, rd_b, rd_l, rd_s, own_0, own_p, own_s, own_n, e_c, e_g, e_v, e_bin, neg_i, e_neg, e_cmp, e_chain, e_nt, e_and, e_or, e_tr, e_ite, e_tup, e_lst, e_ix, e_sl, e_rev, e_call, e_bi, e_isi, e_draw, e_comp, turn_cons, turn_nil, es_nil, es_cons, eS_nil, eS_cons, eC_nil, eC_cons, eA_nil, eA_cons, arg_st, bl_ret, x_nil, then_nx, then_rt, then_ct, then_bk, x_cns, x_bx, x_asgn, x_par, eR_nil, eR_cons, par_nil, par_cons, x_ixs, x_ap, x_ifs, x_rt, x_fr, loop_nx, loop_ct, loop_bk, loop_rt, for_nil, for_cons, bindA, List.replicate, List.cons_append, List.nil_append, a_nm, a_tt, a_tl, as_n, as_c, List.set_cons_zero, List.set_cons_succ, List.length_cons, List.length_nil, setS, boxS, cond_true, cond_false, Bool.and_true, Bool.and_false, Bool.true_and, Bool.false_and, if_true, lk_nil, lk_v, lk_c, lk_g, lk_bin, lk_neg, lk_cmp, lk_chain, lk_nt, lk_and2, lk_or2, lk_tr, lk_ite, lk_tup, lk_lst, lk_ix, lk_sl, lk_rev, lk_call, lk_bi, lk_isi, lk_comp, lk_comp2, lk_draw, ul_nil, ul_v, ul_c, ul_g, ul_bin, ul_neg, ul_cmp, ul_chain, ul_nt, ul_and2, ul_or2, ul_tr, ul_ite, ul_tup, ul_lst, ul_ix, ul_sl, ul_rev, ul_call, ul_bi, ul_isi, ul_comp, ul_comp2, ul_draw, isV, tgS, tgSs, wipeE, rt_v, rt_c, rt_g, rt_bin, rt_neg, rt_cmp, rt_chain, rt_nt, rt_and2, rt_or2, rt_tr, rt_ite, rt_tup, rt_lst, rt_ix, rt_sl, rt_rev, rt_call, rt_bi, rt_isi, rt_comp, rt_comp2, rt_draw, b_lenl, b_lent, b_lens, b_abs, b_sum, b_max, b_min, b_max2, b_min2, b_tupl, b_tupt, b_lstl, b_lstt, b_inti, b_intb, b_all, b_any, b_gcd, is_nil, is_cons, bs_nil, bs_cons, s_seql, s_seqt, s_seqs, s_r1, s_r2, s_zip, s_zipt, s_enum, s_enumt, s_rev, s_revt, s_rr, z_cons, z_nil, z_nil2, n_cons, n_nil, sl_l, sl_t, one_0, one_1, cut_from, cut_to, rv_l, tr_n, tr_b, tr_i, tr_l, tr_t, x_rtN, x_brk, x_cnt, x_pas, x_frz, x_drp, List.getElem?_cons_zero, List.getElem?_cons_succ, arg_c, arg_g, arg_bin, arg_neg, arg_cmp, arg_chain, arg_nt, arg_and2, arg_or2, arg_tr, arg_ite, arg_tup, arg_lst, arg_ix, arg_sl, arg_rev, arg_call, arg_bi, arg_isi, arg_comp, arg_draw, bind_drw, blT_drw, then_drw, loop_drw, all_drw, all_ret, c_lt, c_le, c_gt, c_ge, c_eq, c_ne, c_isN, c_notN, isNon, cond_dec, cond_not, cond_and, cond_or, dr10, dr01, ex_ite, wt_nx, wt_rt, wt_ct, wt_bk, wt_drw, q_eq, F_inj, k_addl, k_addt, k_ap, rng2, line, rangeL, List.sum_cons, List.sum_nil, tyD, allTy, run]) 20 1000000 a b .no h (by omega)
  simp (maxSteps := 10000000) (implicitDefEqProofs := false) (disch := omega) [r__law_common, i__law_common, x_wh, e, b_ret, o_some, map_some, obind_some, k_add, k_sub, k_mul, k_ixl, k_ixt, ix_0, ix_1, ix_2, ix_3, ix_4, ix_5, ix_6, ix_7, ix_8, ix_9, ix_10, ix_11, ix_12, st_0, st_1, st_2, st_3, st_4, st_5, st_6, st_7, st_8, st_9, st_10, st_11, st_12, rd_0, rd_b, rd_l, rd_s, own_0, own_p, own_s, own_n, e_c, e_g, e_v, e_bin, neg_i, e_neg, e_cmp, e_chain, e_nt, e_and, e_or, e_tr, e_ite, e_tup, e_lst, e_ix, e_sl, e_rev, e_call, e_bi, e_isi, e_draw, e_comp, turn_cons, turn_nil, es_nil, es_cons, eS_nil, eS_cons, eC_nil, eC_cons, eA_nil, eA_cons, arg_st, bl_ret, x_nil, then_nx, then_rt, then_ct, then_bk, x_cns, x_bx, x_asgn, x_par, eR_nil, eR_cons, par_nil, par_cons, x_ixs, x_ap, x_ifs, x_rt, x_fr, loop_nx, loop_ct, loop_bk, loop_rt, for_nil, for_cons, bindA, List.replicate, List.cons_append, List.nil_append, a_nm, a_tt, a_tl, as_n, as_c, List.set_cons_zero, List.set_cons_succ, List.length_cons, List.length_nil, setS, boxS, cond_true, cond_false, Bool.and_true, Bool.and_false, Bool.true_and, Bool.false_and, if_true, lk_nil, lk_v, lk_c, lk_g, lk_bin, lk_neg, lk_cmp, lk_chain, lk_nt, lk_and2, lk_or2, lk_tr, lk_ite, lk_tup, lk_lst, lk_ix, lk_sl, lk_rev, lk_call, lk_bi, lk_isi, lk_comp, lk_comp2, lk_draw, ul_nil, ul_v, ul_c, ul_g, ul_bin, ul_neg, ul_cmp, ul_chain, ul_nt, ul_and2, ul_or2, ul_tr, ul_ite, ul_tup, ul_lst, ul_ix, ul_sl, ul_rev, ul_call, ul_bi, ul_isi, ul_comp, ul_comp2, ul_draw, isV, tgS, tgSs, wipeE, rt_v, rt_c, rt_g, rt_bin, rt_neg, rt_cmp, rt_chain, rt_nt, rt_and2, rt_or2, rt_tr, rt_ite, rt_tup, rt_lst, rt_ix, rt_sl, rt_rev, rt_call, rt_bi, rt_isi, rt_comp, rt_comp2, rt_draw, b_lenl, b_lent, b_lens, b_abs, b_sum, b_max, b_min, b_max2, b_min2, b_tupl, b_tupt, b_lstl, b_lstt, b_inti, b_intb, b_all, b_any, b_gcd, is_nil, is_cons, bs_nil, bs_cons, s_seql, s_seqt, s_seqs, s_r1, s_r2, s_zip, s_zipt, s_enum, s_enumt, s_rev, s_revt, s_rr, z_cons, z_nil, z_nil2, n_cons, n_nil, sl_l, sl_t, one_0, one_1, cut_from, cut_to, rv_l, tr_n, tr_b, tr_i, tr_l, tr_t, x_rtN, x_brk, x_cnt, x_pas, x_frz, x_drp, List.getElem?_cons_zero, List.getElem?_cons_succ, arg_c, arg_g, arg_bin, arg_neg, arg_cmp, arg_chain, arg_nt, arg_and2, arg_or2, arg_tr, arg_ite, arg_tup, arg_lst, arg_ix, arg_sl, arg_rev, arg_call, arg_bi, arg_isi, arg_comp, arg_draw, bind_drw, blT_drw, then_drw, loop_drw, all_drw, all_ret, c_lt, c_le, c_gt, c_ge, c_eq, c_ne, c_isN, c_notN, isNon, cond_dec, cond_not, cond_and, cond_or, dr10, dr01, ex_ite, wt_nx, wt_rt, wt_ct, wt_bk, wt_drw, q_eq, F_inj, k_addl, k_addt, k_ap, rng2, line, rangeL, List.sum_cons, List.sum_nil, tyD, allTy, run]
/-- the row below k -/
def rw (k : Nat) : List (List Int) := (List.range (k + 1)).filterMap fun a => if Nat.gcd a k = 1 then some [(a : Int), (k : Int)] else none
def rowsP : Nat → List (List Int)
  | 0 => []
  | k + 1 => rowsP k ++ rw (k + 1)
theorem rw_len (k : Nat) : (rw k).length ≤ k + 1 := by
  unfold rw
  have := List.length_filterMap_le (fun a => if Nat.gcd a k = 1 then some [(a : Int), (k : Int)] else none) (List.range (k + 1))
  rw [List.length_range] at this; exact this
theorem rows_len : ∀ k, k ≤ 25 → (rowsP k).length ≤ 26 * k
  | 0, _ => by simp [rowsP]
  | k + 1, h => by
    have := rows_len k (by omega); have := rw_len (k + 1)
    rw [rowsP, List.length_append]; omega
theorem rangeL_map : ∀ (n : Nat) (lo : Int), rangeL n lo = (List.range n).map fun (i : Nat) => D.int (lo + (i : Int)) := by
  intro n
  induction n with
  | zero => intro lo; rfl
  | succ n ih =>
    intro lo
    rw [rangeL, ih, List.range_succ_eq_map, List.map_cons, List.map_map]
    congr 1
    · simp
    · refine List.map_congr_left fun i _ => ?_
      show D.int (lo + 1 + (i : Int)) = D.int (lo + ((i + 1 : Nat) : Int))
      congr 1; omega
theorem for_stJ {J : Type} {f : D → FF.Env → T Xs} (st : Nat → J → FF.Env) : ∀ (n : Nat) (lo : Int) (k : Nat) (s : J), (∀ (j : Nat) s, j < n → ∃ s', f (.int (lo + j)) (st (k + j) s) = .ret (.nx, st (k + j + 1) s')) → ∃ s', forL f (rangeL n lo) (st k s) = .ret (.nx, st (k + n) s')
  | 0, lo, k, s, h => ⟨s, rfl⟩
  | n + 1, lo, k, s, h => by
    obtain ⟨s1, e1⟩ := h 0 s (by omega)
    have q : lo + ((0 : Nat) : Int) = lo := by omega
    rw [q, Nat.add_zero] at e1
    obtain ⟨s2, e2⟩ := for_stJ st n (lo + 1) (k + 1) s1 fun j s hj => by
      obtain ⟨s', e⟩ := h (j + 1) s (by omega)
      refine ⟨s', ?_⟩
      rw [show lo + ((j + 1 : Nat) : Int) = lo + 1 + (j : Int) by omega, show k + (j + 1) = k + 1 + j by omega] at e
      exact e
    refine ⟨s2, ?_⟩
    rw [rangeL, forL, e1]
    show forL f _ _ = _
    rw [e2, show k + 1 + n = k + (n + 1) by omega]
theorem rng_lo {a b : Int} (h0 : 0 ≤ a) (h2 : a ≤ 100000) (h3 : 0 ≤ b) (h1 : b ≤ 100000) : rng2 a b = some (rangeL (b - a).toNat a) := by
  unfold rng2
  rw [if_pos]
  refine ⟨by omega, by omega, by omega, by omega, ?_⟩
  unfold line
  omega
theorem gk0 : g_law 0 = r_farey := rfl
theorem gk1 : g_law 1 = r__law_lowest := rfl
theorem gk2 : g_law 2 = r_are_neighbours := rfl
theorem gk7 : g_law 7 = r__law_common := rfl
theorem row_ev {s5 s6 s7 s8 s9 s10 s11 s12 s13 s14 s15 s16 s17 : Slot} {m k : Nat} {R : List (List Int)} (hk : k ≤ 25) : ev g_law (.comp (.nm 5) .range [(.bin .add (.v 4) (.c (.int 1)))] [(.cmp .eq (.call 7 [(.v 5), (.v 4)]) (.c (.int 1)))] (.tup [(.v 5), (.v 4)])) true [.scr, .st, .pl (.int (m : Int)), .pl (.lst (TD (R))), .pl (.int (k : Int)), s5, s6, s7, s8, s9, s10, s11, s12, s13, s14, s15, s16, s17] = .ret (.lst (TD (rw k)), true) := by
  rw [e_comp]
  have hr : srcD .range [.int ((k : Int) + 1)] = some (rangeL (k + 1) 0) := by
    rw [s_r1, rng_lo (by omega) (by omega) (by omega) (by omega), show ((k : Int) + 1 - 0).toNat = k + 1 by omega]
  have es : evS g_law [(.bin .add (.v 4) (.c (.int 1)))] [.scr, .st, .pl (.int (m : Int)), .pl (.lst (TD (R))), .pl (.int (k : Int)), s5, s6, s7, s8, s9, s10, s11, s12, s13, s14, s15, s16, s17] = .ret [.int ((k : Int) + 1)] := by simp (maxSteps := 10000000) (implicitDefEqProofs := false) (disch := omega) [b_ret, o_some, map_some, obind_some, k_add, k_sub, k_mul, k_ixl, k_ixt, ix_0, ix_1, ix_2, ix_3, ix_4, ix_5, ix_6, ix_7, ix_8, ix_9, ix_10, ix_11, ix_12, st_0, st_1, st_2, st_3, st_4, st_5, st_6, st_7, st_8, st_9, st_10, st_11, st_12, rd_0, rd_b, rd_l, rd_s, own_0, own_p, own_s, own_n, e_c, e_g, e_v, e_bin, neg_i, e_neg, e_cmp, e_chain, e_nt, e_and, e_or, e_tr, e_ite, e_tup, e_lst, e_ix, e_sl, e_rev, e_call, e_bi, e_isi, e_draw, e_comp, turn_cons, turn_nil, es_nil, es_cons, eS_nil, eS_cons, eC_nil, eC_cons, eA_nil, eA_cons, arg_st, bl_ret, x_nil, then_nx, then_rt, then_ct, then_bk, x_cns, x_bx, x_asgn, x_par, eR_nil, eR_cons, par_nil, par_cons, x_ixs, x_ap, x_ifs, x_rt, x_fr, loop_nx, loop_ct, loop_bk, loop_rt, for_nil, for_cons, bindA, List.replicate, List.cons_append, List.nil_append, a_nm, a_tt, a_tl, as_n, as_c, List.set_cons_zero, List.set_cons_succ, List.length_cons, List.length_nil, setS, boxS, cond_true, cond_false, Bool.and_true, Bool.and_false, Bool.true_and, Bool.false_and, if_true, lk_nil, lk_v, lk_c, lk_g, lk_bin, lk_neg, lk_cmp, lk_chain, lk_nt, lk_and2, lk_or2, lk_tr, lk_ite, lk_tup, lk_lst, lk_ix, lk_sl, lk_rev, lk_call, lk_bi, lk_isi, lk_comp, lk_comp2, lk_draw, ul_nil, ul_v, ul_c, ul_g, ul_bin, ul_neg, ul_cmp, ul_chain, ul_nt, ul_and2, ul_or2, ul_tr, ul_ite, ul_tup, ul_lst, ul_ix, ul_sl, ul_rev, ul_call, ul_bi, ul_isi, ul_comp, ul_comp2, ul_draw, isV, tgS, tgSs, wipeE, rt_v, rt_c, rt_g, rt_bin, rt_neg, rt_cmp, rt_chain, rt_nt, rt_and2, rt_or2, rt_tr, rt_ite, rt_tup, rt_lst, rt_ix, rt_sl, rt_rev, rt_call, rt_bi, rt_isi, rt_comp, rt_comp2, rt_draw, b_lenl, b_lent, b_lens, b_abs, b_sum, b_max, b_min, b_max2, b_min2, b_tupl, b_tupt, b_lstl, b_lstt, b_inti, b_intb, b_all, b_any, b_gcd, is_nil, is_cons, bs_nil, bs_cons, s_seql, s_seqt, s_seqs, s_r1, s_r2, s_zip, s_zipt, s_enum, s_enumt, s_rev, s_revt, s_rr, z_cons, z_nil, z_nil2, n_cons, n_nil, sl_l, sl_t, one_0, one_1, cut_from, cut_to, rv_l, tr_n, tr_b, tr_i, tr_l, tr_t, x_rtN, x_brk, x_cnt, x_pas, x_frz, x_drp, List.getElem?_cons_zero, List.getElem?_cons_succ, arg_c, arg_g, arg_bin, arg_neg, arg_cmp, arg_chain, arg_nt, arg_and2, arg_or2, arg_tr, arg_ite, arg_tup, arg_lst, arg_ix, arg_sl, arg_rev, arg_call, arg_bi, arg_isi, arg_comp, arg_draw, bind_drw, blT_drw, then_drw, loop_drw, all_drw, all_ret, c_lt, c_le, c_gt, c_ge, c_eq, c_ne, c_isN, c_notN, isNon, cond_dec, cond_not, cond_and, cond_or, dr10, dr01, ex_ite, wt_nx, wt_rt, wt_ct, wt_bk, wt_drw, q_eq, F_inj, k_addl, k_addt, k_ap, rng2, line, rangeL, List.sum_cons, List.sum_nil, tyD, allTy, run]
  have hc : ∀ z, z ∈ rangeL (k + 1) 0 → turnC g_law (.nm 5) [(.cmp .eq (.call 7 [(.v 5), (.v 4)]) (.c (.int 1)))] (.tup [(.v 5), (.v 4)]) [.scr, .st, .pl (.int (m : Int)), .pl (.lst (TD (R))), .pl (.int (k : Int)), s5, s6, s7, s8, s9, s10, s11, s12, s13, s14, s15, s16, s17] z = .ret ((fun z => match z with | .int i => if Nat.gcd i.toNat k = 1 then some (.tup [.int i, .int (k : Int)]) else none | _ => none) z) := by
    intro z hz
    rw [rangeL_map] at hz
    obtain ⟨i, hi, rfl⟩ := List.mem_map.mp hz
    have e1 := p_common (a := i) (b := k) (by omega)
    have e0 : (0 : Int) + (i : Int) = (i : Int) := by omega
    rw [e0]
    dsimp only
    rw [Int.toNat_natCast]
    unfold turnC
    by_cases h : Nat.gcd i k = 1
    · have h2 : ((Nat.gcd i k : Nat) : Int) = 1 := by omega
      simp (maxSteps := 10000000) (implicitDefEqProofs := false) (disch := omega) [e1, h, h2, gk0, gk1, gk2, gk7, b_ret, o_some, map_some, obind_some, k_add, k_sub, k_mul, k_ixl, k_ixt, ix_0, ix_1, ix_2, ix_3, ix_4, ix_5, ix_6, ix_7, ix_8, ix_9, ix_10, ix_11, ix_12, st_0, st_1, st_2, st_3, st_4, st_5, st_6, st_7, st_8, st_9, st_10, st_11, st_12, rd_0, rd_b, rd_l, rd_s, own_0, own_p, own_s, own_n, e_c, e_g, e_v, e_bin, neg_i, e_neg, e_cmp, e_chain, e_nt, e_and, e_or, e_tr, e_ite, e_tup, e_lst, e_ix, e_sl, e_rev, e_call, e_bi, e_isi, e_draw, e_comp, turn_cons, turn_nil, es_nil, es_cons, eS_nil, eS_cons, eC_nil, eC_cons, eA_nil, eA_cons, arg_st, bl_ret, x_nil, then_nx, then_rt, then_ct, then_bk, x_cns, x_bx, x_asgn, x_par, eR_nil, eR_cons, par_nil, par_cons, x_ixs, x_ap, x_ifs, x_rt, x_fr, loop_nx, loop_ct, loop_bk, loop_rt, for_nil, for_cons, bindA, List.replicate, List.cons_append, List.nil_append, a_nm, a_tt, a_tl, as_n, as_c, List.set_cons_zero, List.set_cons_succ, List.length_cons, List.length_nil, setS, boxS, cond_true, cond_false, Bool.and_true, Bool.and_false, Bool.true_and, Bool.false_and, if_true, lk_nil, lk_v, lk_c, lk_g, lk_bin, lk_neg, lk_cmp, lk_chain, lk_nt, lk_and2, lk_or2, lk_tr, lk_ite, lk_tup, lk_lst, lk_ix, lk_sl, lk_rev, lk_call, lk_bi, lk_isi, lk_comp, lk_comp2, lk_draw, ul_nil, ul_v, ul_c, ul_g, ul_bin, ul_neg, ul_cmp, ul_chain, ul_nt, ul_and2, ul_or2, ul_tr, ul_ite, ul_tup, ul_lst, ul_ix, ul_sl, ul_rev, ul_call, ul_bi, ul_isi, ul_comp, ul_comp2, ul_draw, isV, tgS, tgSs, wipeE, rt_v, rt_c, rt_g, rt_bin, rt_neg, rt_cmp, rt_chain, rt_nt, rt_and2, rt_or2, rt_tr, rt_ite, rt_tup, rt_lst, rt_ix, rt_sl, rt_rev, rt_call, rt_bi, rt_isi, rt_comp, rt_comp2, rt_draw, b_lenl, b_lent, b_lens, b_abs, b_sum, b_max, b_min, b_max2, b_min2, b_tupl, b_tupt, b_lstl, b_lstt, b_inti, b_intb, b_all, b_any, b_gcd, is_nil, is_cons, bs_nil, bs_cons, s_seql, s_seqt, s_seqs, s_r1, s_r2, s_zip, s_zipt, s_enum, s_enumt, s_rev, s_revt, s_rr, z_cons, z_nil, z_nil2, n_cons, n_nil, sl_l, sl_t, one_0, one_1, cut_from, cut_to, rv_l, tr_n, tr_b, tr_i, tr_l, tr_t, x_rtN, x_brk, x_cnt, x_pas, x_frz, x_drp, List.getElem?_cons_zero, List.getElem?_cons_succ, arg_c, arg_g, arg_bin, arg_neg, arg_cmp, arg_chain, arg_nt, arg_and2, arg_or2, arg_tr, arg_ite, arg_tup, arg_lst, arg_ix, arg_sl, arg_rev, arg_call, arg_bi, arg_isi, arg_comp, arg_draw, bind_drw, blT_drw, then_drw, loop_drw, all_drw, all_ret, c_lt, c_le, c_gt, c_ge, c_eq, c_ne, c_isN, c_notN, isNon, cond_dec, cond_not, cond_and, cond_or, dr10, dr01, ex_ite, wt_nx, wt_rt, wt_ct, wt_bk, wt_drw, q_eq, F_inj, k_addl, k_addt, k_ap, rng2, line, rangeL, List.sum_cons, List.sum_nil, tyD, allTy, run]
    · have h2 : ¬ ((Nat.gcd i k : Nat) : Int) = 1 := by omega
      simp (maxSteps := 10000000) (implicitDefEqProofs := false) (disch := omega) [e1, h, h2, gk0, gk1, gk2, gk7, b_ret, o_some, map_some, obind_some, k_add, k_sub, k_mul, k_ixl, k_ixt, ix_0, ix_1, ix_2, ix_3, ix_4, ix_5, ix_6, ix_7, ix_8, ix_9, ix_10, ix_11, ix_12, st_0, st_1, st_2, st_3, st_4, st_5, st_6, st_7, st_8, st_9, st_10, st_11, st_12, rd_0, rd_b, rd_l, rd_s, own_0, own_p, own_s, own_n, e_c, e_g, e_v, e_bin, neg_i, e_neg, e_cmp, e_chain, e_nt, e_and, e_or, e_tr, e_ite, e_tup, e_lst, e_ix, e_sl, e_rev, e_call, e_bi, e_isi, e_draw, e_comp, turn_cons, turn_nil, es_nil, es_cons, eS_nil, eS_cons, eC_nil, eC_cons, eA_nil, eA_cons, arg_st, bl_ret, x_nil, then_nx, then_rt, then_ct, then_bk, x_cns, x_bx, x_asgn, x_par, eR_nil, eR_cons, par_nil, par_cons, x_ixs, x_ap, x_ifs, x_rt, x_fr, loop_nx, loop_ct, loop_bk, loop_rt, for_nil, for_cons, bindA, List.replicate, List.cons_append, List.nil_append, a_nm, a_tt, a_tl, as_n, as_c, List.set_cons_zero, List.set_cons_succ, List.length_cons, List.length_nil, setS, boxS, cond_true, cond_false, Bool.and_true, Bool.and_false, Bool.true_and, Bool.false_and, if_true, lk_nil, lk_v, lk_c, lk_g, lk_bin, lk_neg, lk_cmp, lk_chain, lk_nt, lk_and2, lk_or2, lk_tr, lk_ite, lk_tup, lk_lst, lk_ix, lk_sl, lk_rev, lk_call, lk_bi, lk_isi, lk_comp, lk_comp2, lk_draw, ul_nil, ul_v, ul_c, ul_g, ul_bin, ul_neg, ul_cmp, ul_chain, ul_nt, ul_and2, ul_or2, ul_tr, ul_ite, ul_tup, ul_lst, ul_ix, ul_sl, ul_rev, ul_call, ul_bi, ul_isi, ul_comp, ul_comp2, ul_draw, isV, tgS, tgSs, wipeE, rt_v, rt_c, rt_g, rt_bin, rt_neg, rt_cmp, rt_chain, rt_nt, rt_and2, rt_or2, rt_tr, rt_ite, rt_tup, rt_lst, rt_ix, rt_sl, rt_rev, rt_call, rt_bi, rt_isi, rt_comp, rt_comp2, rt_draw, b_lenl, b_lent, b_lens, b_abs, b_sum, b_max, b_min, b_max2, b_min2, b_tupl, b_tupt, b_lstl, b_lstt, b_inti, b_intb, b_all, b_any, b_gcd, is_nil, is_cons, bs_nil, bs_cons, s_seql, s_seqt, s_seqs, s_r1, s_r2, s_zip, s_zipt, s_enum, s_enumt, s_rev, s_revt, s_rr, z_cons, z_nil, z_nil2, n_cons, n_nil, sl_l, sl_t, one_0, one_1, cut_from, cut_to, rv_l, tr_n, tr_b, tr_i, tr_l, tr_t, x_rtN, x_brk, x_cnt, x_pas, x_frz, x_drp, List.getElem?_cons_zero, List.getElem?_cons_succ, arg_c, arg_g, arg_bin, arg_neg, arg_cmp, arg_chain, arg_nt, arg_and2, arg_or2, arg_tr, arg_ite, arg_tup, arg_lst, arg_ix, arg_sl, arg_rev, arg_call, arg_bi, arg_isi, arg_comp, arg_draw, bind_drw, blT_drw, then_drw, loop_drw, all_drw, all_ret, c_lt, c_le, c_gt, c_ge, c_eq, c_ne, c_isN, c_notN, isNon, cond_dec, cond_not, cond_and, cond_or, dr10, dr01, ex_ite, wt_nx, wt_rt, wt_ct, wt_bk, wt_drw, q_eq, F_inj, k_addl, k_addt, k_ap, rng2, line, rangeL, List.sum_cons, List.sum_nil, tyD, allTy, run]
  have hfm : (rangeL (k + 1) 0).filterMap (fun z => match z with | .int i => if Nat.gcd i.toNat k = 1 then some (D.tup [.int i, .int (k : Int)]) else none | _ => none) = TD (rw k) := by
    rw [rangeL_map, List.filterMap_map]
    have hf : ((fun z => match z with | .int i => if Nat.gcd i.toNat k = 1 then some (D.tup [.int i, .int (k : Int)]) else none | _ => none) ∘ fun (i : Nat) => D.int (0 + (i : Int))) = fun a => Option.map (fun t : List Int => D.tup (t.map .int)) (if Nat.gcd a k = 1 then some [(a : Int), (k : Int)] else none) := by
      funext a
      have e0 : (0 : Int) + (a : Int) = (a : Int) := by omega
      show (if Nat.gcd (0 + (a : Int)).toNat k = 1 then some (D.tup [.int (0 + (a : Int)), .int (k : Int)]) else none) = _
      rw [e0, Int.toNat_natCast]
      split <;> rfl
    rw [hf, TD, rw, List.map_filterMap]
  rw [es, b_ret, hr, o_some, b_ret, compL_filter hc, b_ret, hfm]
theorem loop2 {s5 s6 s7 s8 s9 s10 s11 s12 s13 s14 s15 s16 s17 : Slot} {m : Nat} (hm : m ≤ 25) : ∃ s4' s5', forL (turnF g_law (.nm 4) [(.box 3 false (.bin .add (.v 3) (.comp (.nm 5) .range [(.bin .add (.v 4) (.c (.int 1)))] [(.cmp .eq (.call 7 [(.v 5), (.v 4)]) (.c (.int 1)))] (.tup [(.v 5), (.v 4)]))))]) (rangeL m 1) [.scr, .st, .pl (.int (m : Int)), .pl (.lst (TD (rowsP 0))), s4, s5, s6, s7, s8, s9, s10, s11, s12, s13, s14, s15, s16, s17] = .ret (.nx, [.scr, .st, .pl (.int (m : Int)), .pl (.lst (TD (rowsP m))), s4', s5', s6, s7, s8, s9, s10, s11, s12, s13, s14, s15, s16, s17]) := by
  obtain ⟨s', e⟩ := for_stJ (f := turnF g_law (.nm 4) [(.box 3 false (.bin .add (.v 3) (.comp (.nm 5) .range [(.bin .add (.v 4) (.c (.int 1)))] [(.cmp .eq (.call 7 [(.v 5), (.v 4)]) (.c (.int 1)))] (.tup [(.v 5), (.v 4)]))))]) (fun j (s : Slot × Slot) => [.scr, .st, .pl (.int (m : Int)), .pl (.lst (TD (rowsP j))), s.1, s.2, s6, s7, s8, s9, s10, s11, s12, s13, s14, s15, s16, s17]) m 1 0 (s4, s5) (by
    intro j s hj
    refine ⟨(.pl (.int (1 + (j : Int))), s.2), ?_⟩
    have er := row_ev (m := m) (k := j + 1) (R := rowsP j) (s5 := s.2) (s6 := s6) (s7 := s7) (s8 := s8) (s9 := s9) (s10 := s10) (s11 := s11) (s12 := s12) (s13 := s13) (s14 := s14) (s15 := s15) (s16 := s16) (s17 := s17) (by omega)
    have ek : ((j + 1 : Nat) : Int) = 1 + (j : Int) := by omega
    rw [ek] at er
    have h1 : Ln (rowsP j).length (TD (rowsP j)) := ⟨by simp [TD]⟩
    have h2 : Ln (rw (j + 1)).length (TD (rw (j + 1))) := ⟨by simp [TD]⟩
    have h3 := rows_len j (by omega)
    have h4 := rw_len (j + 1)
    simp only [Nat.zero_add, rowsP]
    simp (maxSteps := 10000000) (implicitDefEqProofs := false) (disch := omega) [turnF, er, TD_app, gk0, gk1, gk2, gk7, b_ret, o_some, map_some, obind_some, k_add, k_sub, k_mul, k_ixl, k_ixt, ix_0, ix_1, ix_2, ix_3, ix_4, ix_5, ix_6, ix_7, ix_8, ix_9, ix_10, ix_11, ix_12, st_0, st_1, st_2, st_3, st_4, st_5, st_6, st_7, st_8, st_9, st_10, st_11, st_12, rd_0, rd_b, rd_l, rd_s, own_0, own_p, own_s, own_n, e_c, e_g, e_v, e_bin, neg_i, e_neg, e_cmp, e_chain, e_nt, e_and, e_or, e_tr, e_ite, e_tup, e_lst, e_ix, e_sl, e_rev, e_call, e_bi, e_isi, e_draw, turn_cons, turn_nil, es_nil, es_cons, eS_nil, eS_cons, eC_nil, eC_cons, eA_nil, eA_cons, arg_st, bl_ret, x_nil, then_nx, then_rt, then_ct, then_bk, x_cns, x_bx, x_asgn, x_par, eR_nil, eR_cons, par_nil, par_cons, x_ixs, x_ap, x_ifs, x_rt, x_fr, loop_nx, loop_ct, loop_bk, loop_rt, for_nil, for_cons, bindA, List.replicate, List.cons_append, List.nil_append, a_nm, a_tt, a_tl, as_n, as_c, List.set_cons_zero, List.set_cons_succ, List.length_cons, List.length_nil, setS, boxS, cond_true, cond_false, Bool.and_true, Bool.and_false, Bool.true_and, Bool.false_and, if_true, lk_nil, lk_v, lk_c, lk_g, lk_bin, lk_neg, lk_cmp, lk_chain, lk_nt, lk_and2, lk_or2, lk_tr, lk_ite, lk_tup, lk_lst, lk_ix, lk_sl, lk_rev, lk_call, lk_bi, lk_isi, lk_comp, lk_comp2, lk_draw, ul_nil, ul_v, ul_c, ul_g, ul_bin, ul_neg, ul_cmp, ul_chain, ul_nt, ul_and2, ul_or2, ul_tr, ul_ite, ul_tup, ul_lst, ul_ix, ul_sl, ul_rev, ul_call, ul_bi, ul_isi, ul_comp, ul_comp2, ul_draw, isV, tgS, tgSs, wipeE, rt_v, rt_c, rt_g, rt_bin, rt_neg, rt_cmp, rt_chain, rt_nt, rt_and2, rt_or2, rt_tr, rt_ite, rt_tup, rt_lst, rt_ix, rt_sl, rt_rev, rt_call, rt_bi, rt_isi, rt_comp, rt_comp2, rt_draw, b_lenl, b_lent, b_lens, b_abs, b_sum, b_max, b_min, b_max2, b_min2, b_tupl, b_tupt, b_lstl, b_lstt, b_inti, b_intb, b_all, b_any, b_gcd, is_nil, is_cons, bs_nil, bs_cons, s_seql, s_seqt, s_seqs, s_r1, s_r2, s_zip, s_zipt, s_enum, s_enumt, s_rev, s_revt, s_rr, z_cons, z_nil, z_nil2, n_cons, n_nil, sl_l, sl_t, one_0, one_1, cut_from, cut_to, rv_l, tr_n, tr_b, tr_i, tr_l, tr_t, x_rtN, x_brk, x_cnt, x_pas, x_frz, x_drp, List.getElem?_cons_zero, List.getElem?_cons_succ, arg_c, arg_g, arg_bin, arg_neg, arg_cmp, arg_chain, arg_nt, arg_and2, arg_or2, arg_tr, arg_ite, arg_tup, arg_lst, arg_ix, arg_sl, arg_rev, arg_call, arg_bi, arg_isi, arg_comp, arg_draw, bind_drw, blT_drw, then_drw, loop_drw, all_drw, all_ret, c_lt, c_le, c_gt, c_ge, c_eq, c_ne, c_isN, c_notN, isNon, cond_dec, cond_not, cond_and, cond_or, dr10, dr01, ex_ite, wt_nx, wt_rt, wt_ct, wt_bk, wt_drw, q_eq, F_inj, k_addl, k_addt, k_ap, rng2, line, rangeL, List.sum_cons, List.sum_nil, tyD, allTy, run])
  simp only [Nat.zero_add] at e
  exact ⟨_, _, e⟩
/-- the fractions one by one, as the program makes them -/
def fr (m : Int) : Nat → List (List Int) → Int → Int → Int → Int → Option (List (List Int))
  | 0, _, _, _, _, _ => none
  | n + 1, ys, a, b, c, d => if c = 1 ∧ d = 1 then some (ys ++ [[a, b], [c, d]]) else
    if 1 ≤ d ∧ d ≤ 25 ∧ 0 ≤ c ∧ c ≤ 25 ∧ 0 ≤ a ∧ a ≤ 25 ∧ 0 ≤ b ∧ b ≤ 25 then fr m n (ys ++ [[a, b]]) c d ((m + b) / d * c - a) ((m + b) / d * d - b) else none
theorem ix_m1 {xs : List D} {u v : D} : ixD (.lst (xs ++ [u, v])) (.int (-1)) = some v := by
  show ixAt _ _ = _
  unfold ixAt
  rw [if_neg (by omega), if_pos (by simp only [List.length_append, List.length_cons, List.length_nil]; omega)]
  have : ((-1 : Int) + ((xs ++ [u, v]).length : Nat)).toNat = xs.length + 1 := by simp only [List.length_append, List.length_cons, List.length_nil]; omega
  rw [this]; simp
theorem ix_m2 {xs : List D} {u v : D} : ixD (.lst (xs ++ [u, v])) (.int (-2)) = some u := by
  show ixAt _ _ = _
  unfold ixAt
  rw [if_neg (by omega), if_pos (by simp only [List.length_append, List.length_cons, List.length_nil]; omega)]
  have : ((-2 : Int) + ((xs ++ [u, v]).length : Nat)).toNat = xs.length := by simp only [List.length_append, List.length_cons, List.length_nil]; omega
  rw [this]; simp
theorem TD_2 {ys : List (List Int)} {a b c d : Int} : TD (ys ++ [[a, b], [c, d]]) = TD ys ++ [.tup [.int a, .int b], .tup [.int c, .int d]] := by simp [TD]
theorem p_farey_loop {m : Int} (hm : 0 ≤ m ∧ m ≤ 25) (n : Nat) : ∀ (N : Nat) (ys : List (List Int)) (a b c d : Int) (L : List (List Int)) (s2 s3 s4 s5 s6 : Slot), n ≤ N → ys.length + n ≤ 1000 → fr m n ys a b c d = some L →
    ∃ s2' s3' s4' s5' s6', whlL (tstW g_farey (.cmp .ne (.ix (.v 1) (.neg (.c (.int 1)))) (.tup [(.c (.int 1)), (.c (.int 1))]))) (trnW g_farey [(.asg (.tup [(.tup [(.nm 2), (.nm 3)]), (.tup [(.nm 4), (.nm 5)])]) (.tup [(.ix (.v 1) (.neg (.c (.int 2)))), (.ix (.v 1) (.neg (.c (.int 1))))])), (.box 6 false (.bin .fdiv (.bin .add (.v 0) (.v 3)) (.v 5))), (.app 1 (.tup [(.bin .sub (.bin .mul (.v 6) (.v 4)) (.v 2)), (.bin .sub (.bin .mul (.v 6) (.v 5)) (.v 3))]))]) N [.pl (.int m), .bx (.lst (TD (ys ++ [[a, b], [c, d]]))), s2, s3, s4, s5, s6] = .ret (.nx, [.pl (.int m), .bx (.lst (TD L)), s2', s3', s4', s5', s6']) := by
  induction n with
  | zero =>
    intro N ys a b c d L s2 s3 s4 s5 s6 hN hy h
    rw [fr] at h
    cases h
  | succ n ih =>
    intro N' ys a b c d L s2 s3 s4 s5 s6 hN hy h
    obtain ⟨N, rfl⟩ : ∃ N, N' = N + 1 := ⟨N' - 1, by omega⟩
    have x1 := ix_m1 (xs := TD ys) (u := .tup [.int a, .int b]) (v := .tup [.int c, .int d])
    have x2 := ix_m2 (xs := TD ys) (u := .tup [.int a, .int b]) (v := .tup [.int c, .int d])
    rw [← TD_2] at x1 x2
    have t1 : tstW g_farey (.cmp .ne (.ix (.v 1) (.neg (.c (.int 1)))) (.tup [(.c (.int 1)), (.c (.int 1))])) [.pl (.int m), .bx (.lst (TD (ys ++ [[a, b], [c, d]]))), s2, s3, s4, s5, s6] = .ret (!decide (c = 1 ∧ d = 1)) := by
      simp (maxSteps := 10000000) (implicitDefEqProofs := false) (disch := omega) [tstW, x1, b_ret, o_some, map_some, obind_some, k_add, k_sub, k_mul, k_ixt, ix_0, ix_1, ix_2, ix_3, ix_4, ix_5, ix_6, ix_7, ix_8, ix_9, ix_10, ix_11, ix_12, st_0, st_1, st_2, st_3, st_4, st_5, st_6, st_7, st_8, st_9, st_10, st_11, st_12, rd_0, rd_b, rd_l, rd_s, own_0, own_p, own_s, own_n, e_c, e_g, e_v, e_bin, neg_i, e_neg, e_cmp, e_chain, e_nt, e_and, e_or, e_tr, e_ite, e_tup, e_lst, e_ix, e_sl, e_rev, e_call, e_bi, e_isi, e_draw, e_comp, turn_cons, turn_nil, es_nil, es_cons, eS_nil, eS_cons, eC_nil, eC_cons, eA_nil, eA_cons, arg_st, bl_ret, x_nil, then_nx, then_rt, then_ct, then_bk, x_cns, x_bx, x_asgn, x_par, eR_nil, eR_cons, par_nil, par_cons, x_ixs, x_ap, x_ifs, x_rt, x_fr, loop_nx, loop_ct, loop_bk, loop_rt, for_nil, for_cons, bindA, List.replicate, List.cons_append, List.nil_append, a_nm, a_tt, a_tl, as_n, as_c, List.set_cons_zero, List.set_cons_succ, List.length_cons, List.length_nil, setS, boxS, cond_true, cond_false, Bool.and_true, Bool.and_false, Bool.true_and, Bool.false_and, if_true, lk_nil, lk_v, lk_c, lk_g, lk_bin, lk_neg, lk_cmp, lk_chain, lk_nt, lk_and2, lk_or2, lk_tr, lk_ite, lk_tup, lk_lst, lk_ix, lk_sl, lk_rev, lk_call, lk_bi, lk_isi, lk_comp, lk_comp2, lk_draw, ul_nil, ul_v, ul_c, ul_g, ul_bin, ul_neg, ul_cmp, ul_chain, ul_nt, ul_and2, ul_or2, ul_tr, ul_ite, ul_tup, ul_lst, ul_ix, ul_sl, ul_rev, ul_call, ul_bi, ul_isi, ul_comp, ul_comp2, ul_draw, isV, tgS, tgSs, wipeE, rt_v, rt_c, rt_g, rt_bin, rt_neg, rt_cmp, rt_chain, rt_nt, rt_and2, rt_or2, rt_tr, rt_ite, rt_tup, rt_lst, rt_ix, rt_sl, rt_rev, rt_call, rt_bi, rt_isi, rt_comp, rt_comp2, rt_draw, b_lenl, b_lent, b_lens, b_abs, b_sum, b_max, b_min, b_max2, b_min2, b_tupl, b_tupt, b_lstl, b_lstt, b_inti, b_intb, b_all, b_any, b_gcd, is_nil, is_cons, bs_nil, bs_cons, s_seql, s_seqt, s_seqs, s_r1, s_r2, s_zip, s_zipt, s_enum, s_enumt, s_rev, s_revt, s_rr, z_cons, z_nil, z_nil2, n_cons, n_nil, sl_l, sl_t, one_0, one_1, cut_from, cut_to, rv_l, tr_n, tr_b, tr_i, tr_l, tr_t, x_rtN, x_brk, x_cnt, x_pas, x_frz, x_drp, List.getElem?_cons_zero, List.getElem?_cons_succ, arg_c, arg_g, arg_bin, arg_neg, arg_cmp, arg_chain, arg_nt, arg_and2, arg_or2, arg_tr, arg_ite, arg_tup, arg_lst, arg_ix, arg_sl, arg_rev, arg_call, arg_bi, arg_isi, arg_comp, arg_draw, bind_drw, blT_drw, then_drw, loop_drw, all_drw, all_ret, c_lt, c_le, c_gt, c_ge, c_eq, c_ne, c_isN, c_notN, isNon, cond_dec, cond_not, cond_and, cond_or, dr10, dr01, ex_ite, wt_nx, wt_rt, wt_ct, wt_bk, wt_drw, q_eq, F_inj, k_addl, k_addt, k_ap, rng2, line, rangeL, List.sum_cons, List.sum_nil, tyD, allTy, run]
    rw [fr] at h
    split at h
    · rename_i hc
      cases h
      exact ⟨s2, s3, s4, s5, s6, by rw [whl_end (by rw [t1, decide_eq_true hc]; rfl)]⟩
    · rename_i hc
      split at h
      · rename_i hb
        obtain ⟨b1, b2, b3, b4, b5, b6, b7, b8⟩ := hb
        have i1 : Sm 5 d := ⟨by omega⟩
        have i2 : Sm 5 c := ⟨by omega⟩
        have q0 : 0 ≤ (m + b) / d := Int.ediv_nonneg (by omega) (by omega)
        have q1 : (m + b) / d ≤ m + b := Int.ediv_le_self _ (by omega)
        have i3 : Sm 6 ((m + b) / d) := ⟨by omega⟩
        have hl : Ln (ys ++ [[a, b], [c, d]]).length (TD (ys ++ [[a, b], [c, d]])) := ⟨by simp [TD]⟩
        have hlen : (ys ++ [[a, b], [c, d]]).length ≤ 1002 := by simp only [List.length_append, List.length_cons, List.length_nil]; omega
        have ea : TD (ys ++ [[a, b], [c, d]]) ++ [.tup [.int ((m + b) / d * c - a), .int ((m + b) / d * d - b)]] = TD (ys ++ [[a, b]] ++ [[c, d], [(m + b) / d * c - a, (m + b) / d * d - b]]) := by simp [TD]
        have t2 : trnW g_farey [(.asg (.tup [(.tup [(.nm 2), (.nm 3)]), (.tup [(.nm 4), (.nm 5)])]) (.tup [(.ix (.v 1) (.neg (.c (.int 2)))), (.ix (.v 1) (.neg (.c (.int 1))))])), (.box 6 false (.bin .fdiv (.bin .add (.v 0) (.v 3)) (.v 5))), (.app 1 (.tup [(.bin .sub (.bin .mul (.v 6) (.v 4)) (.v 2)), (.bin .sub (.bin .mul (.v 6) (.v 5)) (.v 3))]))] [.pl (.int m), .bx (.lst (TD (ys ++ [[a, b], [c, d]]))), s2, s3, s4, s5, s6] = .ret (.nx, [.pl (.int m), .bx (.lst (TD (ys ++ [[a, b]] ++ [[c, d], [(m + b) / d * c - a, (m + b) / d * d - b]]))), .pl (.int a), .pl (.int b), .pl (.int c), .pl (.int d), .pl (.int ((m + b) / d))]) := by
          rw [← ea]
          simp (maxSteps := 10000000) (implicitDefEqProofs := false) (disch := omega) [trnW, x1, x2, k_fdivp, b1, b_ret, o_some, map_some, obind_some, k_add, k_sub, k_mul, k_ixt, ix_0, ix_1, ix_2, ix_3, ix_4, ix_5, ix_6, ix_7, ix_8, ix_9, ix_10, ix_11, ix_12, st_0, st_1, st_2, st_3, st_4, st_5, st_6, st_7, st_8, st_9, st_10, st_11, st_12, rd_0, rd_b, rd_l, rd_s, own_0, own_p, own_s, own_n, e_c, e_g, e_v, e_bin, neg_i, e_neg, e_cmp, e_chain, e_nt, e_and, e_or, e_tr, e_ite, e_tup, e_lst, e_ix, e_sl, e_rev, e_call, e_bi, e_isi, e_draw, e_comp, turn_cons, turn_nil, es_nil, es_cons, eS_nil, eS_cons, eC_nil, eC_cons, eA_nil, eA_cons, arg_st, bl_ret, x_nil, then_nx, then_rt, then_ct, then_bk, x_cns, x_bx, x_asgn, x_par, eR_nil, eR_cons, par_nil, par_cons, x_ixs, x_ap, x_ifs, x_rt, x_fr, loop_nx, loop_ct, loop_bk, loop_rt, for_nil, for_cons, bindA, List.replicate, List.cons_append, List.nil_append, a_nm, a_tt, a_tl, as_n, as_c, List.set_cons_zero, List.set_cons_succ, List.length_cons, List.length_nil, setS, boxS, cond_true, cond_false, Bool.and_true, Bool.and_false, Bool.true_and, Bool.false_and, if_true, lk_nil, lk_v, lk_c, lk_g, lk_bin, lk_neg, lk_cmp, lk_chain, lk_nt, lk_and2, lk_or2, lk_tr, lk_ite, lk_tup, lk_lst, lk_ix, lk_sl, lk_rev, lk_call, lk_bi, lk_isi, lk_comp, lk_comp2, lk_draw, ul_nil, ul_v, ul_c, ul_g, ul_bin, ul_neg, ul_cmp, ul_chain, ul_nt, ul_and2, ul_or2, ul_tr, ul_ite, ul_tup, ul_lst, ul_ix, ul_sl, ul_rev, ul_call, ul_bi, ul_isi, ul_comp, ul_comp2, ul_draw, isV, tgS, tgSs, wipeE, rt_v, rt_c, rt_g, rt_bin, rt_neg, rt_cmp, rt_chain, rt_nt, rt_and2, rt_or2, rt_tr, rt_ite, rt_tup, rt_lst, rt_ix, rt_sl, rt_rev, rt_call, rt_bi, rt_isi, rt_comp, rt_comp2, rt_draw, b_lenl, b_lent, b_lens, b_abs, b_sum, b_max, b_min, b_max2, b_min2, b_tupl, b_tupt, b_lstl, b_lstt, b_inti, b_intb, b_all, b_any, b_gcd, is_nil, is_cons, bs_nil, bs_cons, s_seql, s_seqt, s_seqs, s_r1, s_r2, s_zip, s_zipt, s_enum, s_enumt, s_rev, s_revt, s_rr, z_cons, z_nil, z_nil2, n_cons, n_nil, sl_l, sl_t, one_0, one_1, cut_from, cut_to, rv_l, tr_n, tr_b, tr_i, tr_l, tr_t, x_rtN, x_brk, x_cnt, x_pas, x_frz, x_drp, List.getElem?_cons_zero, List.getElem?_cons_succ, arg_c, arg_g, arg_bin, arg_neg, arg_cmp, arg_chain, arg_nt, arg_and2, arg_or2, arg_tr, arg_ite, arg_tup, arg_lst, arg_ix, arg_sl, arg_rev, arg_call, arg_bi, arg_isi, arg_comp, arg_draw, bind_drw, blT_drw, then_drw, loop_drw, all_drw, all_ret, c_lt, c_le, c_gt, c_ge, c_eq, c_ne, c_isN, c_notN, isNon, cond_dec, cond_not, cond_and, cond_or, dr10, dr01, ex_ite, wt_nx, wt_rt, wt_ct, wt_bk, wt_drw, q_eq, F_inj, k_addl, k_addt, k_ap, rng2, line, rangeL, List.sum_cons, List.sum_nil, tyD, allTy, run]
        obtain ⟨u2, u3, u4, u5, u6, e⟩ := ih N (ys ++ [[a, b]]) c d _ _ L (.pl (.int a)) (.pl (.int b)) (.pl (.int c)) (.pl (.int d)) (.pl (.int ((m + b) / d))) (by omega) (by simp only [List.length_append, List.length_cons, List.length_nil]; omega) h
        refine ⟨u2, u3, u4, u5, u6, ?_⟩
        rw [whl_go (by rw [t1, decide_eq_false hc]; rfl) t2]
        exact e
      · cases h
theorem p_farey {m : Int} (hm : 0 ≤ m ∧ m ≤ 25) {L : List (List Int)} (h : fr m 400 [] 0 1 1 m = some L) : r_farey [.d (.int m)] = .ret (.lst (TD L), true) := by
  obtain ⟨s2', s3', s4', s5', s6', e⟩ := p_farey_loop hm 400 1000000 [] 0 1 1 m L .no .no .no .no .no (by omega) (by simp) h
  have e : whlL (tstW g_farey (.cmp .ne (.ix (.v 1) (.neg (.c (.int 1)))) (.tup [(.c (.int 1)), (.c (.int 1))]))) (trnW g_farey [(.asg (.tup [(.tup [(.nm 2), (.nm 3)]), (.tup [(.nm 4), (.nm 5)])]) (.tup [(.ix (.v 1) (.neg (.c (.int 2)))), (.ix (.v 1) (.neg (.c (.int 1))))])), (.box 6 false (.bin .fdiv (.bin .add (.v 0) (.v 3)) (.v 5))), (.app 1 (.tup [(.bin .sub (.bin .mul (.v 6) (.v 4)) (.v 2)), (.bin .sub (.bin .mul (.v 6) (.v 5)) (.v 3))]))]) 1000000 [.pl (.int m), .bx (.lst [.tup [.int 0, .int 1], .tup [.int 1, .int m]]), .no, .no, .no, .no, .no] = _ := e
  simp (maxSteps := 10000000) (implicitDefEqProofs := false) (disch := omega) [r_farey, i_farey, x_wh, e, b_ret, o_some, map_some, obind_some, k_add, k_sub, k_mul, k_ixl, k_ixt, ix_0, ix_1, ix_2, ix_3, ix_4, ix_5, ix_6, ix_7, ix_8, ix_9, ix_10, ix_11, ix_12, st_0, st_1, st_2, st_3, st_4, st_5, st_6, st_7, st_8, st_9, st_10, st_11, st_12, rd_0, rd_b, rd_l, rd_s, own_0, own_p, own_s, own_n, e_c, e_g, e_v, e_bin, neg_i, e_neg, e_cmp, e_chain, e_nt, e_and, e_or, e_tr, e_ite, e_tup, e_lst, e_ix, e_sl, e_rev, e_call, e_bi, e_isi, e_draw, e_comp, turn_cons, turn_nil, es_nil, es_cons, eS_nil, eS_cons, eC_nil, eC_cons, eA_nil, eA_cons, arg_st, bl_ret, x_nil, then_nx, then_rt, then_ct, then_bk, x_cns, x_bx, x_asgn, x_par, eR_nil, eR_cons, par_nil, par_cons, x_ixs, x_ap, x_ifs, x_rt, x_fr, loop_nx, loop_ct, loop_bk, loop_rt, for_nil, for_cons, bindA, List.replicate, List.cons_append, List.nil_append, a_nm, a_tt, a_tl, as_n, as_c, List.set_cons_zero, List.set_cons_succ, List.length_cons, List.length_nil, setS, boxS, cond_true, cond_false, Bool.and_true, Bool.and_false, Bool.true_and, Bool.false_and, if_true, lk_nil, lk_v, lk_c, lk_g, lk_bin, lk_neg, lk_cmp, lk_chain, lk_nt, lk_and2, lk_or2, lk_tr, lk_ite, lk_tup, lk_lst, lk_ix, lk_sl, lk_rev, lk_call, lk_bi, lk_isi, lk_comp, lk_comp2, lk_draw, ul_nil, ul_v, ul_c, ul_g, ul_bin, ul_neg, ul_cmp, ul_chain, ul_nt, ul_and2, ul_or2, ul_tr, ul_ite, ul_tup, ul_lst, ul_ix, ul_sl, ul_rev, ul_call, ul_bi, ul_isi, ul_comp, ul_comp2, ul_draw, isV, tgS, tgSs, wipeE, rt_v, rt_c, rt_g, rt_bin, rt_neg, rt_cmp, rt_chain, rt_nt, rt_and2, rt_or2, rt_tr, rt_ite, rt_tup, rt_lst, rt_ix, rt_sl, rt_rev, rt_call, rt_bi, rt_isi, rt_comp, rt_comp2, rt_draw, b_lenl, b_lent, b_lens, b_abs, b_sum, b_max, b_min, b_max2, b_min2, b_tupl, b_tupt, b_lstl, b_lstt, b_inti, b_intb, b_all, b_any, b_gcd, is_nil, is_cons, bs_nil, bs_cons, s_seql, s_seqt, s_seqs, s_r1, s_r2, s_zip, s_zipt, s_enum, s_enumt, s_rev, s_revt, s_rr, z_cons, z_nil, z_nil2, n_cons, n_nil, sl_l, sl_t, one_0, one_1, cut_from, cut_to, rv_l, tr_n, tr_b, tr_i, tr_l, tr_t, x_rtN, x_brk, x_cnt, x_pas, x_frz, x_drp, List.getElem?_cons_zero, List.getElem?_cons_succ, arg_c, arg_g, arg_bin, arg_neg, arg_cmp, arg_chain, arg_nt, arg_and2, arg_or2, arg_tr, arg_ite, arg_tup, arg_lst, arg_ix, arg_sl, arg_rev, arg_call, arg_bi, arg_isi, arg_comp, arg_draw, bind_drw, blT_drw, then_drw, loop_drw, all_drw, all_ret, c_lt, c_le, c_gt, c_ge, c_eq, c_ne, c_isN, c_notN, isNon, cond_dec, cond_not, cond_and, cond_or, dr10, dr01, ex_ite, wt_nx, wt_rt, wt_ct, wt_bk, wt_drw, q_eq, F_inj, k_addl, k_addt, k_ap, rng2, line, rangeL, List.sum_cons, List.sum_nil, tyD, allTy, run]
end K95

set_option Elab.async false
set_option linter.all false
set_option maxRecDepth 100000
set_option maxHeartbeats 8000000
namespace K95
open FF SB
def pa (L : List (List Int)) (j : Nat) : Int := (L.getD j []).getD 0 0
def pb (L : List (List Int)) (j : Nat) : Int := (L.getD j []).getD 1 0
def allN (p : Nat → Bool) : Nat → Bool
  | 0 => true
  | n + 1 => allN p n && p n
theorem allN_get {p : Nat → Bool} : ∀ {n : Nat}, allN p n = true → ∀ j, j < n → p j = true
  | 0, _, j, h => by omega
  | n + 1, e, j, h => by
    rw [allN, Bool.and_eq_true] at e
    rcases Nat.lt_or_ge j n with q | q
    · exact allN_get e.1 j q
    · have : j = n := by omega
      rw [this]; exact e.2
structure Good (L : List (List Int)) : Prop where
  len : 2 ≤ L.length ∧ L.length ≤ 400
  at_ : ∀ j, j < L.length → L[j]? = some [pa L j, pb L j] ∧ 0 ≤ pa L j ∧ pa L j ≤ 25 ∧ 1 ≤ pb L j ∧ pb L j ≤ 25
  rise : ∀ j, j < L.length - 1 → pa L j * pb L (j + 1) < pa L (j + 1) * pb L j ∧ (pa L j * pb L (j + 1) - pb L j * pa L (j + 1)).natAbs = 1
  mid : ∀ j, j < L.length - 2 → (pa L j + pa L (j + 2)) * pb L (j + 1) = pa L (j + 1) * (pb L j + pb L (j + 2)) ∧ Nat.gcd (pa L (j + 1)).natAbs (pb L (j + 1)).natAbs = 1
def goodB (L : List (List Int)) : Bool := decide (2 ≤ L.length ∧ L.length ≤ 400) &&
  allN (fun j => decide (L[j]? = some [pa L j, pb L j] ∧ 0 ≤ pa L j ∧ pa L j ≤ 25 ∧ 1 ≤ pb L j ∧ pb L j ≤ 25)) L.length &&
  allN (fun j => decide (pa L j * pb L (j + 1) < pa L (j + 1) * pb L j ∧ (pa L j * pb L (j + 1) - pb L j * pa L (j + 1)).natAbs = 1)) (L.length - 1) &&
  allN (fun j => decide ((pa L j + pa L (j + 2)) * pb L (j + 1) = pa L (j + 1) * (pb L j + pb L (j + 2)) ∧ Nat.gcd (pa L (j + 1)).natAbs (pb L (j + 1)).natAbs = 1)) (L.length - 2)
theorem good_of {L : List (List Int)} (h : goodB L = true) : Good L := by
  unfold goodB at h
  rw [Bool.and_eq_true, Bool.and_eq_true, Bool.and_eq_true] at h
  obtain ⟨⟨⟨h1, h2⟩, h3⟩, h4⟩ := h
  exact ⟨of_decide_eq_true h1, fun j hj => of_decide_eq_true (allN_get h2 j hj), fun j hj => of_decide_eq_true (allN_get h3 j hj), fun j hj => of_decide_eq_true (allN_get h4 j hj)⟩
def chkM (m : Nat) : Bool := match fr (1 + (m : Int)) 400 [] 0 1 1 (1 + (m : Int)) with
  | none => false
  | some L => goodB L && decide (sortT L = sortT (rowsP (1 + m)))
theorem chk_all : ∀ m : Nat, m < 25 → chkM m = true := by decide +kernel
theorem chk_ex {m : Nat} (h : m < 25) : ∃ L, fr (1 + (m : Int)) 400 [] 0 1 1 (1 + (m : Int)) = some L ∧ Good L ∧ sortT L = sortT (rowsP (1 + m)) := by
  have := chk_all m h
  unfold chkM at this
  split at this
  · cases this
  · rename_i L e
    rw [Bool.and_eq_true] at this
    exact ⟨L, e, good_of this.1, of_decide_eq_true this.2⟩
theorem tups_TD : ∀ {L : List (List Int)}, (∀ t ∈ L, t ≠ []) → tupsOf (TD L) = some L
  | [], _ => rfl
  | t :: L, h => by
    have hi : ∀ t : List Int, intsOf (t.map .int) = some t := by
      intro t
      induction t with
      | nil => rfl
      | cons x t ih => show (intsOf (t.map .int)).map _ = _; rw [ih]; rfl
    show (intsOf (t.map .int)).bind _ = _
    rw [hi]
    show (tupsOf (TD L)).bind _ = _
    rw [tups_TD fun u hu => h u (List.mem_cons_of_mem _ hu)]
    have := h t List.mem_cons_self
    cases t with
    | nil => exact absurd rfl this
    | cons _ _ => rfl
theorem sort_TD {L : List (List Int)} (h0 : L ≠ []) (h : ∀ t ∈ L, t ≠ []) : biD .sorted [.lst (TD L)] = some (.lst (TD (sortT L)), true) := by
  show sortD (TD L) = _
  unfold sortD
  have e : intsOf (TD L) = none := by
    cases L with
    | nil => exact absurd rfl h0
    | cons t L => rfl
  rw [e]
  show (tupsOf (TD L)).map _ = _
  rw [tups_TD h]; rfl
theorem plns_ints : ∀ (n : Nat) (t : List Int), plns n (t.map .int) = true
  | _, [] => by simp [plns]
  | n, x :: t => by simp only [List.map_cons, plns, plns_ints n t, Bool.and_true]; cases n <;> simp [pln]
theorem plns_TD : ∀ (L : List (List Int)), plns 1 (TD L) = true
  | [] => by simp [TD, plns]
  | t :: L => by
    show (pln 1 (.tup (t.map .int)) && plns 1 (TD L)) = true
    rw [plns_TD L, Bool.and_true]
    simp only [pln]; exact plns_ints 0 t
instance {L : List (List Int)} : Pl 2 (.lst (TD L)) := ⟨by simp only [pln]; exact plns_TD L⟩
theorem TD_len {L : List (List Int)} : (TD L).length = L.length := by simp [TD]
theorem ixL {L : List (List Int)} (g : Good L) {i : Int} {j : Nat} (hi : i = (j : Int)) (h : j < L.length) : ixD (.lst (TD L)) (.int i) = some (.tup [.int (pa L j), .int (pb L j)]) := by
  subst hi
  show ixAt _ _ = _
  unfold ixAt
  rw [if_pos (by omega), Int.toNat_natCast]
  unfold TD
  rw [List.getElem?_map, (g.at_ j h).1]; rfl
theorem compL_none {f : D → T (Option D)} : ∀ {xs : List D}, (∀ x, x ∈ xs → f x = .ret none) → compL f xs = .ret []
  | [], _ => rfl
  | x :: xs, h => by
    rw [compL, h x List.mem_cons_self, compL_none fun z m => h z (List.mem_cons_of_mem _ m)]; rfl
theorem mem_rg {n : Nat} {lo : Int} {z : D} (h : z ∈ rangeL n lo) : ∃ j : Nat, j < n ∧ z = .int (lo + (j : Int)) := by
  rw [rangeL_map] at h
  obtain ⟨j, hj, rfl⟩ := List.mem_map.mp h
  exact ⟨j, List.mem_range.mp hj, rfl⟩
theorem low_eq {A B a b : Int} (hB : 0 < B) (hb : 0 < b) (e : A * b = a * B) (g : Nat.gcd a.natAbs b.natAbs = 1) : F (Rat.divInt A B) = .tup [.int a, .int b] := by
  have h1 : Rat.divInt A B = Rat.divInt a b := (Rat.divInt_eq_divInt_iff (by omega) (by omega)).mpr e
  rw [h1]
  have hg : Int.gcd b a = 1 := by rw [Int.gcd, Nat.gcd_comm]; exact g
  have hn : (Rat.divInt a b).num = a := by
    rw [Rat.num_divInt, Int.sign_eq_one_of_pos hb, hg, Int.one_mul]; simp
  have hd : ((Rat.divInt a b).den : Int) = b := by
    rw [Rat.den_divInt, if_neg (by omega), hg, Nat.div_one]; omega
  unfold F
  rw [hn, hd]
theorem len_TD {L : List (List Int)} : biD .len [.lst (TD L)] = some (.int (L.length : Int), false) := by
  show some _ = _; rw [TD_len]
theorem comp4_ev {s3 s4 s5 s7 s8 s9 s10 s11 s12 s13 s14 s15 s16 s17 : Slot} {m : Int} {L : List (List Int)} {mm : Bool} (g : Good L) : ev g_law (.comp (.nm 8) .range [(.bin .sub (.bi .len [(.v 6)]) (.c (.int 1)))] [(.cmp .ge (.bin .mul (.ix (.ix (.v 6) (.v 8)) (.c (.int 0))) (.ix (.ix (.v 6) (.bin .add (.v 8) (.c (.int 1)))) (.c (.int 1)))) (.bin .mul (.ix (.ix (.v 6) (.bin .add (.v 8) (.c (.int 1)))) (.c (.int 0))) (.ix (.ix (.v 6) (.v 8)) (.c (.int 1)))))] (.v 8)) mm [.scr, .st, .pl (.int m), s3, s4, s5, .pl (.lst (TD L)), s7, s8, s9, s10, s11, s12, s13, s14, s15, s16, s17] = .ret (.lst [], true) := by
  obtain ⟨l1, l2⟩ := g.len
  rw [e_comp]
  have es : evS g_law [(.bin .sub (.bi .len [(.v 6)]) (.c (.int 1)))] [.scr, .st, .pl (.int m), s3, s4, s5, .pl (.lst (TD L)), s7, s8, s9, s10, s11, s12, s13, s14, s15, s16, s17] = .ret [.int ((L.length : Int) - 1)] := by simp (maxSteps := 10000000) (implicitDefEqProofs := false) (disch := omega) [len_TD, gk0, gk1, gk2, gk7, b_ret, o_some, map_some, obind_some, k_add, k_sub, k_mul, k_ixl, k_ixt, ix_0, ix_1, ix_2, ix_3, ix_4, ix_5, ix_6, ix_7, ix_8, ix_9, ix_10, ix_11, ix_12, st_0, st_1, st_2, st_3, st_4, st_5, st_6, st_7, st_8, st_9, st_10, st_11, st_12, rd_0, rd_b, rd_l, rd_s, own_0, own_p, own_s, own_n, e_c, e_g, e_v, e_bin, neg_i, e_neg, e_cmp, e_chain, e_nt, e_and, e_or, e_tr, e_ite, e_tup, e_lst, e_ix, e_sl, e_rev, e_call, e_bi, e_isi, e_draw, e_comp, turn_cons, turn_nil, es_nil, es_cons, eS_nil, eS_cons, eC_nil, eC_cons, eA_nil, eA_cons, arg_st, bl_ret, x_nil, then_nx, then_rt, then_ct, then_bk, x_cns, x_bx, x_asgn, x_par, eR_nil, eR_cons, par_nil, par_cons, x_ixs, x_ap, x_ifs, x_rt, x_fr, loop_nx, loop_ct, loop_bk, loop_rt, for_nil, for_cons, bindA, List.replicate, List.cons_append, List.nil_append, a_nm, a_tt, a_tl, as_n, as_c, List.set_cons_zero, List.set_cons_succ, List.length_cons, List.length_nil, setS, boxS, cond_true, cond_false, Bool.and_true, Bool.and_false, Bool.true_and, Bool.false_and, if_true, lk_nil, lk_v, lk_c, lk_g, lk_bin, lk_neg, lk_cmp, lk_chain, lk_nt, lk_and2, lk_or2, lk_tr, lk_ite, lk_tup, lk_lst, lk_ix, lk_sl, lk_rev, lk_call, lk_bi, lk_isi, lk_comp, lk_comp2, lk_draw, ul_nil, ul_v, ul_c, ul_g, ul_bin, ul_neg, ul_cmp, ul_chain, ul_nt, ul_and2, ul_or2, ul_tr, ul_ite, ul_tup, ul_lst, ul_ix, ul_sl, ul_rev, ul_call, ul_bi, ul_isi, ul_comp, ul_comp2, ul_draw, isV, tgS, tgSs, wipeE, rt_v, rt_c, rt_g, rt_bin, rt_neg, rt_cmp, rt_chain, rt_nt, rt_and2, rt_or2, rt_tr, rt_ite, rt_tup, rt_lst, rt_ix, rt_sl, rt_rev, rt_call, rt_bi, rt_isi, rt_comp, rt_comp2, rt_draw, b_lent, b_lens, b_abs, b_sum, b_max, b_min, b_max2, b_min2, b_tupl, b_tupt, b_lstl, b_lstt, b_inti, b_intb, b_all, b_any, b_gcd, is_nil, is_cons, bs_nil, bs_cons, s_seql, s_seqt, s_seqs, s_r1, s_r2, s_zip, s_zipt, s_enum, s_enumt, s_rev, s_revt, s_rr, z_cons, z_nil, z_nil2, n_cons, n_nil, sl_l, sl_t, one_0, one_1, cut_from, cut_to, rv_l, tr_n, tr_b, tr_i, tr_l, tr_t, x_rtN, x_brk, x_cnt, x_pas, x_frz, x_drp, List.getElem?_cons_zero, List.getElem?_cons_succ, arg_c, arg_g, arg_bin, arg_neg, arg_cmp, arg_chain, arg_nt, arg_and2, arg_or2, arg_tr, arg_ite, arg_tup, arg_lst, arg_ix, arg_sl, arg_rev, arg_call, arg_bi, arg_isi, arg_comp, arg_draw, bind_drw, blT_drw, then_drw, loop_drw, all_drw, all_ret, c_lt, c_le, c_gt, c_ge, c_eq, c_ne, c_isN, c_notN, isNon, cond_dec, cond_not, cond_and, cond_or, dr10, dr01, ex_ite, wt_nx, wt_rt, wt_ct, wt_bk, wt_drw, q_eq, F_inj, k_addl, k_addt, k_ap, rng2, line, rangeL, List.sum_cons, List.sum_nil, tyD, allTy, run]
  have hr : srcD .range [.int ((L.length : Int) - 1)] = some (rangeL (L.length - 1) 0) := by
    rw [s_r1, rng_lo (by omega) (by omega) (by omega) (by omega), show ((L.length : Int) - 1 - 0).toNat = L.length - 1 by omega]
  have hc : ∀ z, z ∈ rangeL (L.length - 1) 0 → turnC g_law (.nm 8) [(.cmp .ge (.bin .mul (.ix (.ix (.v 6) (.v 8)) (.c (.int 0))) (.ix (.ix (.v 6) (.bin .add (.v 8) (.c (.int 1)))) (.c (.int 1)))) (.bin .mul (.ix (.ix (.v 6) (.bin .add (.v 8) (.c (.int 1)))) (.c (.int 0))) (.ix (.ix (.v 6) (.v 8)) (.c (.int 1)))))] (.v 8) [.scr, .st, .pl (.int m), s3, s4, s5, .pl (.lst (TD L)), s7, s8, s9, s10, s11, s12, s13, s14, s15, s16, s17] z = .ret none := by
    intro z hz
    obtain ⟨j, hj, rfl⟩ := mem_rg hz
    have e0 : (0 : Int) + (j : Int) = (j : Int) := by omega
    rw [e0]
    have q1 := ixL g (i := (j : Int)) rfl (show j < L.length by omega)
    have q2 := ixL g (i := (j : Int) + 1) (j := j + 1) (by omega) (by omega)
    have r := (g.rise j hj).1
    obtain ⟨_, a1, a2, a3, a4⟩ := g.at_ j (by omega)
    obtain ⟨_, b1, b2, b3, b4⟩ := g.at_ (j + 1) (by omega)
    have i1 : Sm 5 (pa L j) := ⟨by omega⟩
    have i2 : Sm 5 (pb L j) := ⟨by omega⟩
    have i3 : Sm 5 (pa L (j + 1)) := ⟨by omega⟩
    have i4 : Sm 5 (pb L (j + 1)) := ⟨by omega⟩
    unfold turnC
    have r : ¬ pa L (j + 1) * pb L j ≤ pa L j * pb L (j + 1) := by omega
    simp (maxSteps := 10000000) (implicitDefEqProofs := false) (disch := omega) [q1, q2, r, gk0, gk1, gk2, gk7, b_ret, o_some, map_some, obind_some, k_add, k_sub, k_mul, k_ixt, ix_0, ix_1, ix_2, ix_3, ix_4, ix_5, ix_6, ix_7, ix_8, ix_9, ix_10, ix_11, ix_12, st_0, st_1, st_2, st_3, st_4, st_5, st_6, st_7, st_8, st_9, st_10, st_11, st_12, rd_0, rd_b, rd_l, rd_s, own_0, own_p, own_s, own_n, e_c, e_g, e_v, e_bin, neg_i, e_neg, e_cmp, e_chain, e_nt, e_and, e_or, e_tr, e_ite, e_tup, e_lst, e_ix, e_sl, e_rev, e_call, e_bi, e_isi, e_draw, e_comp, turn_cons, turn_nil, es_nil, es_cons, eS_nil, eS_cons, eC_nil, eC_cons, eA_nil, eA_cons, arg_st, bl_ret, x_nil, then_nx, then_rt, then_ct, then_bk, x_cns, x_bx, x_asgn, x_par, eR_nil, eR_cons, par_nil, par_cons, x_ixs, x_ap, x_ifs, x_rt, x_fr, loop_nx, loop_ct, loop_bk, loop_rt, for_nil, for_cons, bindA, List.replicate, List.cons_append, List.nil_append, a_nm, a_tt, a_tl, as_n, as_c, List.set_cons_zero, List.set_cons_succ, List.length_cons, List.length_nil, setS, boxS, cond_true, cond_false, Bool.and_true, Bool.and_false, Bool.true_and, Bool.false_and, if_true, lk_nil, lk_v, lk_c, lk_g, lk_bin, lk_neg, lk_cmp, lk_chain, lk_nt, lk_and2, lk_or2, lk_tr, lk_ite, lk_tup, lk_lst, lk_ix, lk_sl, lk_rev, lk_call, lk_bi, lk_isi, lk_comp, lk_comp2, lk_draw, ul_nil, ul_v, ul_c, ul_g, ul_bin, ul_neg, ul_cmp, ul_chain, ul_nt, ul_and2, ul_or2, ul_tr, ul_ite, ul_tup, ul_lst, ul_ix, ul_sl, ul_rev, ul_call, ul_bi, ul_isi, ul_comp, ul_comp2, ul_draw, isV, tgS, tgSs, wipeE, rt_v, rt_c, rt_g, rt_bin, rt_neg, rt_cmp, rt_chain, rt_nt, rt_and2, rt_or2, rt_tr, rt_ite, rt_tup, rt_lst, rt_ix, rt_sl, rt_rev, rt_call, rt_bi, rt_isi, rt_comp, rt_comp2, rt_draw, b_lenl, b_lent, b_lens, b_abs, b_sum, b_max, b_min, b_max2, b_min2, b_tupl, b_tupt, b_lstl, b_lstt, b_inti, b_intb, b_all, b_any, b_gcd, is_nil, is_cons, bs_nil, bs_cons, s_seql, s_seqt, s_seqs, s_r1, s_r2, s_zip, s_zipt, s_enum, s_enumt, s_rev, s_revt, s_rr, z_cons, z_nil, z_nil2, n_cons, n_nil, sl_l, sl_t, one_0, one_1, cut_from, cut_to, rv_l, tr_n, tr_b, tr_i, tr_l, tr_t, x_rtN, x_brk, x_cnt, x_pas, x_frz, x_drp, List.getElem?_cons_zero, List.getElem?_cons_succ, arg_c, arg_g, arg_bin, arg_neg, arg_cmp, arg_chain, arg_nt, arg_and2, arg_or2, arg_tr, arg_ite, arg_tup, arg_lst, arg_ix, arg_sl, arg_rev, arg_call, arg_bi, arg_isi, arg_comp, arg_draw, bind_drw, blT_drw, then_drw, loop_drw, all_drw, all_ret, c_lt, c_le, c_gt, c_ge, c_eq, c_ne, c_isN, c_notN, isNon, cond_dec, cond_not, cond_and, cond_or, dr10, dr01, ex_ite, wt_nx, wt_rt, wt_ct, wt_bk, wt_drw, q_eq, F_inj, k_addl, k_addt, k_ap, rng2, line, rangeL, List.sum_cons, List.sum_nil, tyD, allTy, run]
  rw [es, b_ret, hr, o_some, b_ret, compL_none hc]; rfl
theorem comp5_ev {s3 s4 s5 s7 s8 s9 s10 s11 s12 s13 s14 s15 s16 s17 : Slot} {m : Int} {L : List (List Int)} {mm : Bool} (g : Good L) : ev g_law (.comp (.nm 8) .range [(.bin .sub (.bi .len [(.v 6)]) (.c (.int 1)))] [(.nt (.tr (.call 2 [(.ix (.v 6) (.v 8)), (.ix (.v 6) (.bin .add (.v 8) (.c (.int 1))))])))] (.v 8)) mm [.scr, .st, .pl (.int m), s3, s4, s5, .pl (.lst (TD L)), s7, s8, s9, s10, s11, s12, s13, s14, s15, s16, s17] = .ret (.lst [], true) := by
  obtain ⟨l1, l2⟩ := g.len
  rw [e_comp]
  have es : evS g_law [(.bin .sub (.bi .len [(.v 6)]) (.c (.int 1)))] [.scr, .st, .pl (.int m), s3, s4, s5, .pl (.lst (TD L)), s7, s8, s9, s10, s11, s12, s13, s14, s15, s16, s17] = .ret [.int ((L.length : Int) - 1)] := by simp (maxSteps := 10000000) (implicitDefEqProofs := false) (disch := omega) [len_TD, gk0, gk1, gk2, gk7, b_ret, o_some, map_some, obind_some, k_add, k_sub, k_mul, k_ixl, k_ixt, ix_0, ix_1, ix_2, ix_3, ix_4, ix_5, ix_6, ix_7, ix_8, ix_9, ix_10, ix_11, ix_12, st_0, st_1, st_2, st_3, st_4, st_5, st_6, st_7, st_8, st_9, st_10, st_11, st_12, rd_0, rd_b, rd_l, rd_s, own_0, own_p, own_s, own_n, e_c, e_g, e_v, e_bin, neg_i, e_neg, e_cmp, e_chain, e_nt, e_and, e_or, e_tr, e_ite, e_tup, e_lst, e_ix, e_sl, e_rev, e_call, e_bi, e_isi, e_draw, e_comp, turn_cons, turn_nil, es_nil, es_cons, eS_nil, eS_cons, eC_nil, eC_cons, eA_nil, eA_cons, arg_st, bl_ret, x_nil, then_nx, then_rt, then_ct, then_bk, x_cns, x_bx, x_asgn, x_par, eR_nil, eR_cons, par_nil, par_cons, x_ixs, x_ap, x_ifs, x_rt, x_fr, loop_nx, loop_ct, loop_bk, loop_rt, for_nil, for_cons, bindA, List.replicate, List.cons_append, List.nil_append, a_nm, a_tt, a_tl, as_n, as_c, List.set_cons_zero, List.set_cons_succ, List.length_cons, List.length_nil, setS, boxS, cond_true, cond_false, Bool.and_true, Bool.and_false, Bool.true_and, Bool.false_and, if_true, lk_nil, lk_v, lk_c, lk_g, lk_bin, lk_neg, lk_cmp, lk_chain, lk_nt, lk_and2, lk_or2, lk_tr, lk_ite, lk_tup, lk_lst, lk_ix, lk_sl, lk_rev, lk_call, lk_bi, lk_isi, lk_comp, lk_comp2, lk_draw, ul_nil, ul_v, ul_c, ul_g, ul_bin, ul_neg, ul_cmp, ul_chain, ul_nt, ul_and2, ul_or2, ul_tr, ul_ite, ul_tup, ul_lst, ul_ix, ul_sl, ul_rev, ul_call, ul_bi, ul_isi, ul_comp, ul_comp2, ul_draw, isV, tgS, tgSs, wipeE, rt_v, rt_c, rt_g, rt_bin, rt_neg, rt_cmp, rt_chain, rt_nt, rt_and2, rt_or2, rt_tr, rt_ite, rt_tup, rt_lst, rt_ix, rt_sl, rt_rev, rt_call, rt_bi, rt_isi, rt_comp, rt_comp2, rt_draw, b_lent, b_lens, b_abs, b_sum, b_max, b_min, b_max2, b_min2, b_tupl, b_tupt, b_lstl, b_lstt, b_inti, b_intb, b_all, b_any, b_gcd, is_nil, is_cons, bs_nil, bs_cons, s_seql, s_seqt, s_seqs, s_r1, s_r2, s_zip, s_zipt, s_enum, s_enumt, s_rev, s_revt, s_rr, z_cons, z_nil, z_nil2, n_cons, n_nil, sl_l, sl_t, one_0, one_1, cut_from, cut_to, rv_l, tr_n, tr_b, tr_i, tr_l, tr_t, x_rtN, x_brk, x_cnt, x_pas, x_frz, x_drp, List.getElem?_cons_zero, List.getElem?_cons_succ, arg_c, arg_g, arg_bin, arg_neg, arg_cmp, arg_chain, arg_nt, arg_and2, arg_or2, arg_tr, arg_ite, arg_tup, arg_lst, arg_ix, arg_sl, arg_rev, arg_call, arg_bi, arg_isi, arg_comp, arg_draw, bind_drw, blT_drw, then_drw, loop_drw, all_drw, all_ret, c_lt, c_le, c_gt, c_ge, c_eq, c_ne, c_isN, c_notN, isNon, cond_dec, cond_not, cond_and, cond_or, dr10, dr01, ex_ite, wt_nx, wt_rt, wt_ct, wt_bk, wt_drw, q_eq, F_inj, k_addl, k_addt, k_ap, rng2, line, rangeL, List.sum_cons, List.sum_nil, tyD, allTy, run]
  have hr : srcD .range [.int ((L.length : Int) - 1)] = some (rangeL (L.length - 1) 0) := by
    rw [s_r1, rng_lo (by omega) (by omega) (by omega) (by omega), show ((L.length : Int) - 1 - 0).toNat = L.length - 1 by omega]
  have hc : ∀ z, z ∈ rangeL (L.length - 1) 0 → turnC g_law (.nm 8) [(.nt (.tr (.call 2 [(.ix (.v 6) (.v 8)), (.ix (.v 6) (.bin .add (.v 8) (.c (.int 1))))])))] (.v 8) [.scr, .st, .pl (.int m), s3, s4, s5, .pl (.lst (TD L)), s7, s8, s9, s10, s11, s12, s13, s14, s15, s16, s17] z = .ret none := by
    intro z hz
    obtain ⟨j, hj, rfl⟩ := mem_rg hz
    have e0 : (0 : Int) + (j : Int) = (j : Int) := by omega
    rw [e0]
    have q1 := ixL g (i := (j : Int)) rfl (show j < L.length by omega)
    have q2 := ixL g (i := (j : Int) + 1) (j := j + 1) (by omega) (by omega)
    have r := (g.rise j hj).2
    obtain ⟨_, a1, a2, a3, a4⟩ := g.at_ j (by omega)
    obtain ⟨_, b1, b2, b3, b4⟩ := g.at_ (j + 1) (by omega)
    have i1 : Sm 30 (pa L j) := ⟨by omega⟩
    have i2 : Sm 30 (pb L j) := ⟨by omega⟩
    have i3 : Sm 30 (pa L (j + 1)) := ⟨by omega⟩
    have i4 : Sm 30 (pb L (j + 1)) := ⟨by omega⟩
    have en := p_near i1 i2 i3 i4
    rw [decide_eq_true r] at en
    unfold turnC
    simp (maxSteps := 10000000) (implicitDefEqProofs := false) (disch := omega) [q1, q2, en, gk0, gk1, gk2, gk7, b_ret, o_some, map_some, obind_some, k_add, k_sub, k_mul, k_ixt, ix_0, ix_1, ix_2, ix_3, ix_4, ix_5, ix_6, ix_7, ix_8, ix_9, ix_10, ix_11, ix_12, st_0, st_1, st_2, st_3, st_4, st_5, st_6, st_7, st_8, st_9, st_10, st_11, st_12, rd_0, rd_b, rd_l, rd_s, own_0, own_p, own_s, own_n, e_c, e_g, e_v, e_bin, neg_i, e_neg, e_cmp, e_chain, e_nt, e_and, e_or, e_tr, e_ite, e_tup, e_lst, e_ix, e_sl, e_rev, e_call, e_bi, e_isi, e_draw, e_comp, turn_cons, turn_nil, es_nil, es_cons, eS_nil, eS_cons, eC_nil, eC_cons, eA_nil, eA_cons, arg_st, bl_ret, x_nil, then_nx, then_rt, then_ct, then_bk, x_cns, x_bx, x_asgn, x_par, eR_nil, eR_cons, par_nil, par_cons, x_ixs, x_ap, x_ifs, x_rt, x_fr, loop_nx, loop_ct, loop_bk, loop_rt, for_nil, for_cons, bindA, List.replicate, List.cons_append, List.nil_append, a_nm, a_tt, a_tl, as_n, as_c, List.set_cons_zero, List.set_cons_succ, List.length_cons, List.length_nil, setS, boxS, cond_true, cond_false, Bool.and_true, Bool.and_false, Bool.true_and, Bool.false_and, if_true, lk_nil, lk_v, lk_c, lk_g, lk_bin, lk_neg, lk_cmp, lk_chain, lk_nt, lk_and2, lk_or2, lk_tr, lk_ite, lk_tup, lk_lst, lk_ix, lk_sl, lk_rev, lk_call, lk_bi, lk_isi, lk_comp, lk_comp2, lk_draw, ul_nil, ul_v, ul_c, ul_g, ul_bin, ul_neg, ul_cmp, ul_chain, ul_nt, ul_and2, ul_or2, ul_tr, ul_ite, ul_tup, ul_lst, ul_ix, ul_sl, ul_rev, ul_call, ul_bi, ul_isi, ul_comp, ul_comp2, ul_draw, isV, tgS, tgSs, wipeE, rt_v, rt_c, rt_g, rt_bin, rt_neg, rt_cmp, rt_chain, rt_nt, rt_and2, rt_or2, rt_tr, rt_ite, rt_tup, rt_lst, rt_ix, rt_sl, rt_rev, rt_call, rt_bi, rt_isi, rt_comp, rt_comp2, rt_draw, b_lenl, b_lent, b_lens, b_abs, b_sum, b_max, b_min, b_max2, b_min2, b_tupl, b_tupt, b_lstl, b_lstt, b_inti, b_intb, b_all, b_any, b_gcd, is_nil, is_cons, bs_nil, bs_cons, s_seql, s_seqt, s_seqs, s_r1, s_r2, s_zip, s_zipt, s_enum, s_enumt, s_rev, s_revt, s_rr, z_cons, z_nil, z_nil2, n_cons, n_nil, sl_l, sl_t, one_0, one_1, cut_from, cut_to, rv_l, tr_n, tr_b, tr_i, tr_l, tr_t, x_rtN, x_brk, x_cnt, x_pas, x_frz, x_drp, List.getElem?_cons_zero, List.getElem?_cons_succ, arg_c, arg_g, arg_bin, arg_neg, arg_cmp, arg_chain, arg_nt, arg_and2, arg_or2, arg_tr, arg_ite, arg_tup, arg_lst, arg_ix, arg_sl, arg_rev, arg_call, arg_bi, arg_isi, arg_comp, arg_draw, bind_drw, blT_drw, then_drw, loop_drw, all_drw, all_ret, c_lt, c_le, c_gt, c_ge, c_eq, c_ne, c_isN, c_notN, isNon, cond_dec, cond_not, cond_and, cond_or, dr10, dr01, ex_ite, wt_nx, wt_rt, wt_ct, wt_bk, wt_drw, q_eq, F_inj, k_addl, k_addt, k_ap, rng2, line, rangeL, List.sum_cons, List.sum_nil, tyD, allTy, run]
  rw [es, b_ret, hr, o_some, b_ret, compL_none hc]; rfl
theorem loop6 {s3 s4 s5 s7 s8 s9 s10 s11 s12 s13 s14 s15 s16 s17 : Slot} {m : Int} {L : List (List Int)} (g : Good L) : ∃ s8', forL (turnF g_law (.nm 8) [(.ifs (.cmp .ne (.call 1 [(.bin .add (.ix (.ix (.v 6) (.bin .sub (.v 8) (.c (.int 1)))) (.c (.int 0))) (.ix (.ix (.v 6) (.bin .add (.v 8) (.c (.int 1)))) (.c (.int 0)))), (.bin .add (.ix (.ix (.v 6) (.bin .sub (.v 8) (.c (.int 1)))) (.c (.int 1))) (.ix (.ix (.v 6) (.bin .add (.v 8) (.c (.int 1)))) (.c (.int 1))))]) (.ix (.v 6) (.v 8))) [(.ret (.c (.bl false)))] [])]) (rangeL (L.length - 2) 1) [.scr, .st, .pl (.int m), s3, s4, s5, .pl (.lst (TD L)), s7, s8, s9, s10, s11, s12, s13, s14, s15, s16, s17] = .ret (.nx, [.scr, .st, .pl (.int m), s3, s4, s5, .pl (.lst (TD L)), s7, s8', s9, s10, s11, s12, s13, s14, s15, s16, s17]) := by
  obtain ⟨l1, l2⟩ := g.len
  have := for_stJ (f := turnF g_law (.nm 8) [(.ifs (.cmp .ne (.call 1 [(.bin .add (.ix (.ix (.v 6) (.bin .sub (.v 8) (.c (.int 1)))) (.c (.int 0))) (.ix (.ix (.v 6) (.bin .add (.v 8) (.c (.int 1)))) (.c (.int 0)))), (.bin .add (.ix (.ix (.v 6) (.bin .sub (.v 8) (.c (.int 1)))) (.c (.int 1))) (.ix (.ix (.v 6) (.bin .add (.v 8) (.c (.int 1)))) (.c (.int 1))))]) (.ix (.v 6) (.v 8))) [(.ret (.c (.bl false)))] [])]) (fun _ (s : Slot) => [.scr, .st, .pl (.int m), s3, s4, s5, .pl (.lst (TD L)), s7, s, s9, s10, s11, s12, s13, s14, s15, s16, s17]) (L.length - 2) 1 0 s8 (by
    intro j s hj
    refine ⟨.pl (.int (1 + (j : Int))), ?_⟩
    have q0 := ixL g (i := 1 + (j : Int) - 1) (j := j) (by omega) (by omega)
    have q1 := ixL g (i := 1 + (j : Int)) (j := j + 1) (by omega) (by omega)
    have q2 := ixL g (i := 1 + (j : Int) + 1) (j := j + 2) (by omega) (by omega)
    obtain ⟨r1, r2⟩ := g.mid j hj
    obtain ⟨_, a1, a2, a3, a4⟩ := g.at_ j (by omega)
    obtain ⟨_, b1, b2, b3, b4⟩ := g.at_ (j + 1) (by omega)
    obtain ⟨_, c1, c2, c3, c4⟩ := g.at_ (j + 2) (by omega)
    have i1 : Sm 6 (pa L j + pa L (j + 2)) := ⟨by omega⟩
    have i2 : Sm 6 (pb L j + pb L (j + 2)) := ⟨by omega⟩
    have el : r__law_lowest [.d (.int (pa L j + pa L (j + 2))), .d (.int (pb L j + pb L (j + 2)))] = .ret (.tup [.int (pa L (j + 1)), .int (pb L (j + 1))], false) := by
      rw [p__law_lowest (by omega) (by omega) (by omega), low_eq (by omega) (by omega) r1 r2]
    simp (maxSteps := 10000000) (implicitDefEqProofs := false) (disch := omega) [turnF, q0, q1, q2, el, gk0, gk1, gk2, gk7, b_ret, o_some, map_some, obind_some, k_add, k_sub, k_mul, k_ixt, ix_0, ix_1, ix_2, ix_3, ix_4, ix_5, ix_6, ix_7, ix_8, ix_9, ix_10, ix_11, ix_12, st_0, st_1, st_2, st_3, st_4, st_5, st_6, st_7, st_8, st_9, st_10, st_11, st_12, rd_0, rd_b, rd_l, rd_s, own_0, own_p, own_s, own_n, e_c, e_g, e_v, e_bin, neg_i, e_neg, e_cmp, e_chain, e_nt, e_and, e_or, e_tr, e_ite, e_tup, e_lst, e_ix, e_sl, e_rev, e_call, e_bi, e_isi, e_draw, e_comp, turn_cons, turn_nil, es_nil, es_cons, eS_nil, eS_cons, eC_nil, eC_cons, eA_nil, eA_cons, arg_st, bl_ret, x_nil, then_nx, then_rt, then_ct, then_bk, x_cns, x_bx, x_asgn, x_par, eR_nil, eR_cons, par_nil, par_cons, x_ixs, x_ap, x_ifs, x_rt, x_fr, loop_nx, loop_ct, loop_bk, loop_rt, for_nil, for_cons, bindA, List.replicate, List.cons_append, List.nil_append, a_nm, a_tt, a_tl, as_n, as_c, List.set_cons_zero, List.set_cons_succ, List.length_cons, List.length_nil, setS, boxS, cond_true, cond_false, Bool.and_true, Bool.and_false, Bool.true_and, Bool.false_and, if_true, lk_nil, lk_v, lk_c, lk_g, lk_bin, lk_neg, lk_cmp, lk_chain, lk_nt, lk_and2, lk_or2, lk_tr, lk_ite, lk_tup, lk_lst, lk_ix, lk_sl, lk_rev, lk_call, lk_bi, lk_isi, lk_comp, lk_comp2, lk_draw, ul_nil, ul_v, ul_c, ul_g, ul_bin, ul_neg, ul_cmp, ul_chain, ul_nt, ul_and2, ul_or2, ul_tr, ul_ite, ul_tup, ul_lst, ul_ix, ul_sl, ul_rev, ul_call, ul_bi, ul_isi, ul_comp, ul_comp2, ul_draw, isV, tgS, tgSs, wipeE, rt_v, rt_c, rt_g, rt_bin, rt_neg, rt_cmp, rt_chain, rt_nt, rt_and2, rt_or2, rt_tr, rt_ite, rt_tup, rt_lst, rt_ix, rt_sl, rt_rev, rt_call, rt_bi, rt_isi, rt_comp, rt_comp2, rt_draw, b_lenl, b_lent, b_lens, b_abs, b_sum, b_max, b_min, b_max2, b_min2, b_tupl, b_tupt, b_lstl, b_lstt, b_inti, b_intb, b_all, b_any, b_gcd, is_nil, is_cons, bs_nil, bs_cons, s_seql, s_seqt, s_seqs, s_r1, s_r2, s_zip, s_zipt, s_enum, s_enumt, s_rev, s_revt, s_rr, z_cons, z_nil, z_nil2, n_cons, n_nil, sl_l, sl_t, one_0, one_1, cut_from, cut_to, rv_l, tr_n, tr_b, tr_i, tr_l, tr_t, x_rtN, x_brk, x_cnt, x_pas, x_frz, x_drp, List.getElem?_cons_zero, List.getElem?_cons_succ, arg_c, arg_g, arg_bin, arg_neg, arg_cmp, arg_chain, arg_nt, arg_and2, arg_or2, arg_tr, arg_ite, arg_tup, arg_lst, arg_ix, arg_sl, arg_rev, arg_call, arg_bi, arg_isi, arg_comp, arg_draw, bind_drw, blT_drw, then_drw, loop_drw, all_drw, all_ret, c_lt, c_le, c_gt, c_ge, c_eq, c_ne, c_isN, c_notN, isNon, cond_dec, cond_not, cond_and, cond_or, dr10, dr01, ex_ite, wt_nx, wt_rt, wt_ct, wt_bk, wt_drw, q_eq, F_inj, k_addl, k_addt, k_ap, rng2, line, rangeL, List.sum_cons, List.sum_nil, tyD, allTy, run])
  exact this
theorem rows_ne : ∀ k, ∀ t ∈ rowsP k, t ≠ []
  | 0, t, h => by cases h
  | k + 1, t, h => by
    rw [rowsP] at h
    rcases List.mem_append.mp h with q | q
    · exact rows_ne k t q
    · unfold rw at q
      obtain ⟨a, _, e⟩ := List.mem_filterMap.mp q
      split at e
      · cases e; simp
      · cases e
theorem rows_1 (k : Nat) : rowsP (k + 1) ≠ [] := by
  have h1 : ∀ k, rowsP (k + 1) ≠ [] := by
    intro k
    induction k with
    | zero => decide
    | succ k ih => rw [rowsP]; exact fun e => ih (List.append_eq_nil_iff.mp e).1
  exact h1 k
theorem part_ok {s3 s4 s5 s6 s7 s8 s9 s10 s11 s12 s13 s14 s15 s16 s17 : Slot} {m : Nat} (hm : m < 25) {rest : List S} {Q : Xs → Prop} (h : ∀ t2 t3 t4 t5 t6 t7 t8 t9 t10 t11 t12 t13 t14 t15 t16 t17 : Slot, Wp g_law rest [.scr, .st, t2, t3, t4, t5, t6, t7, t8, t9, t10, t11, t12, t13, t14, t15, t16, t17] Q) : Wp g_law (p1 :: p2 :: p3 :: p4 :: p5 :: p6 :: rest) [.scr, .st, .pl (.int (1 + (m : Int))), s3, s4, s5, s6, s7, s8, s9, s10, s11, s12, s13, s14, s15, s16, s17] Q := by
  obtain ⟨L, eL, g, es⟩ := chk_ex hm
  have ef := p_farey (m := 1 + (m : Int)) (by omega) eL
  obtain ⟨l1, l2⟩ := g.len
  have hL0 : L ≠ [] := fun z => by rw [z] at l1; simp at l1
  have hLn : ∀ t ∈ L, t ≠ [] := fun t ht => by
    obtain ⟨j, hj, e⟩ := List.getElem_of_mem ht
    have := (g.at_ j hj).1
    rw [List.getElem?_eq_getElem hj] at this
    rw [← e, Option.some.inj this]; simp
  rw [wp_cons]
  simp (maxSteps := 10000000) (implicitDefEqProofs := false) (disch := omega) [p1, gk0, gk1, gk2, gk7, b_ret, o_some, map_some, obind_some, k_add, k_sub, k_mul, k_ixl, k_ixt, ix_0, ix_1, ix_2, ix_3, ix_4, ix_5, ix_6, ix_7, ix_8, ix_9, ix_10, ix_11, ix_12, st_0, st_1, st_2, st_3, st_4, st_5, st_6, st_7, st_8, st_9, st_10, st_11, st_12, rd_0, rd_b, rd_l, rd_s, own_0, own_p, own_s, own_n, e_c, e_g, e_v, e_bin, neg_i, e_neg, e_cmp, e_chain, e_nt, e_and, e_or, e_tr, e_ite, e_tup, e_lst, e_ix, e_sl, e_rev, e_call, e_bi, e_isi, e_draw, e_comp, turn_cons, turn_nil, es_nil, es_cons, eS_nil, eS_cons, eC_nil, eC_cons, eA_nil, eA_cons, arg_st, bl_ret, x_nil, then_nx, then_rt, then_ct, then_bk, x_cns, x_bx, x_asgn, x_par, eR_nil, eR_cons, par_nil, par_cons, x_ixs, x_ap, x_ifs, x_rt, x_fr, loop_nx, loop_ct, loop_bk, loop_rt, for_nil, for_cons, bindA, List.replicate, List.cons_append, List.nil_append, a_nm, a_tt, a_tl, as_n, as_c, List.set_cons_zero, List.set_cons_succ, List.length_cons, List.length_nil, setS, boxS, cond_true, cond_false, Bool.and_true, Bool.and_false, Bool.true_and, Bool.false_and, if_true, lk_nil, lk_v, lk_c, lk_g, lk_bin, lk_neg, lk_cmp, lk_chain, lk_nt, lk_and2, lk_or2, lk_tr, lk_ite, lk_tup, lk_lst, lk_ix, lk_sl, lk_rev, lk_call, lk_bi, lk_isi, lk_comp, lk_comp2, lk_draw, ul_nil, ul_v, ul_c, ul_g, ul_bin, ul_neg, ul_cmp, ul_chain, ul_nt, ul_and2, ul_or2, ul_tr, ul_ite, ul_tup, ul_lst, ul_ix, ul_sl, ul_rev, ul_call, ul_bi, ul_isi, ul_comp, ul_comp2, ul_draw, isV, tgS, tgSs, wipeE, rt_v, rt_c, rt_g, rt_bin, rt_neg, rt_cmp, rt_chain, rt_nt, rt_and2, rt_or2, rt_tr, rt_ite, rt_tup, rt_lst, rt_ix, rt_sl, rt_rev, rt_call, rt_bi, rt_isi, rt_comp, rt_comp2, rt_draw, b_lenl, b_lent, b_lens, b_abs, b_sum, b_max, b_min, b_max2, b_min2, b_tupl, b_tupt, b_lstl, b_lstt, b_inti, b_intb, b_all, b_any, b_gcd, is_nil, is_cons, bs_nil, bs_cons, s_seql, s_seqt, s_seqs, s_r1, s_r2, s_zip, s_zipt, s_enum, s_enumt, s_rev, s_revt, s_rr, z_cons, z_nil, z_nil2, n_cons, n_nil, sl_l, sl_t, one_0, one_1, cut_from, cut_to, rv_l, tr_n, tr_b, tr_i, tr_l, tr_t, x_rtN, x_brk, x_cnt, x_pas, x_frz, x_drp, List.getElem?_cons_zero, List.getElem?_cons_succ, arg_c, arg_g, arg_bin, arg_neg, arg_cmp, arg_chain, arg_nt, arg_and2, arg_or2, arg_tr, arg_ite, arg_tup, arg_lst, arg_ix, arg_sl, arg_rev, arg_call, arg_bi, arg_isi, arg_comp, arg_draw, bind_drw, blT_drw, then_drw, loop_drw, all_drw, all_ret, c_lt, c_le, c_gt, c_ge, c_eq, c_ne, c_isN, c_notN, isNon, cond_dec, cond_not, cond_and, cond_or, dr10, dr01, ex_ite, wt_nx, wt_rt, wt_ct, wt_bk, wt_drw, q_eq, F_inj, k_addl, k_addt, k_ap, rng2, line, rangeL, List.sum_cons, List.sum_nil, tyD, allTy, run]
  obtain ⟨s4', s5', h2⟩ := loop2 (m := 1 + m) (s4 := s4) (s5 := s5) (s6 := s6) (s7 := s7) (s8 := s8) (s9 := s9) (s10 := s10) (s11 := s11) (s12 := s12) (s13 := s13) (s14 := s14) (s15 := s15) (s16 := s16) (s17 := s17) (by omega)
  have em : (((1 + m : Nat)) : Int) = 1 + (m : Int) := by omega
  rw [em] at h2
  have h2 : forL (turnF g_law (.nm 4) [(.box 3 false (.bin .add (.v 3) (.comp (.nm 5) .range [(.bin .add (.v 4) (.c (.int 1)))] [(.cmp .eq (.call 7 [(.v 5), (.v 4)]) (.c (.int 1)))] (.tup [(.v 5), (.v 4)]))))]) (rangeL (1 + m) 1) [.scr, .st, .pl (.int (1 + (m : Int))), .pl (.lst []), s4, s5, s6, s7, s8, s9, s10, s11, s12, s13, s14, s15, s16, s17] = _ := h2
  have hr : rng2 1 (1 + (m : Int) + 1) = some (rangeL (1 + m) 1) := by
    rw [rng_lo (by omega) (by omega) (by omega) (by omega), show (1 + (m : Int) + 1 - 1).toNat = 1 + m by omega]
  rw [wp_cons]
  simp (maxSteps := 10000000) (implicitDefEqProofs := false) (disch := omega) [p2, hr, h2, gk0, gk1, gk2, gk7, b_ret, o_some, map_some, obind_some, k_add, k_sub, k_mul, k_ixl, k_ixt, ix_0, ix_1, ix_2, ix_3, ix_4, ix_5, ix_6, ix_7, ix_8, ix_9, ix_10, ix_11, ix_12, st_0, st_1, st_2, st_3, st_4, st_5, st_6, st_7, st_8, st_9, st_10, st_11, st_12, rd_0, rd_b, rd_l, rd_s, own_0, own_p, own_s, own_n, e_c, e_g, e_v, e_bin, neg_i, e_neg, e_cmp, e_chain, e_nt, e_and, e_or, e_tr, e_ite, e_tup, e_lst, e_ix, e_sl, e_rev, e_call, e_bi, e_isi, e_draw, e_comp, turn_cons, turn_nil, es_nil, es_cons, eS_nil, eS_cons, eC_nil, eC_cons, eA_nil, eA_cons, arg_st, bl_ret, x_nil, then_nx, then_rt, then_ct, then_bk, x_cns, x_bx, x_asgn, x_par, eR_nil, eR_cons, par_nil, par_cons, x_ixs, x_ap, x_ifs, x_rt, x_fr, loop_nx, loop_ct, loop_bk, loop_rt, bindA, List.replicate, List.cons_append, List.nil_append, a_nm, a_tt, a_tl, as_n, as_c, List.set_cons_zero, List.set_cons_succ, List.length_cons, List.length_nil, setS, boxS, cond_true, cond_false, Bool.and_true, Bool.and_false, Bool.true_and, Bool.false_and, if_true, lk_nil, lk_v, lk_c, lk_g, lk_bin, lk_neg, lk_cmp, lk_chain, lk_nt, lk_and2, lk_or2, lk_tr, lk_ite, lk_tup, lk_lst, lk_ix, lk_sl, lk_rev, lk_call, lk_bi, lk_isi, lk_comp, lk_comp2, lk_draw, ul_nil, ul_v, ul_c, ul_g, ul_bin, ul_neg, ul_cmp, ul_chain, ul_nt, ul_and2, ul_or2, ul_tr, ul_ite, ul_tup, ul_lst, ul_ix, ul_sl, ul_rev, ul_call, ul_bi, ul_isi, ul_comp, ul_comp2, ul_draw, isV, tgS, tgSs, wipeE, rt_v, rt_c, rt_g, rt_bin, rt_neg, rt_cmp, rt_chain, rt_nt, rt_and2, rt_or2, rt_tr, rt_ite, rt_tup, rt_lst, rt_ix, rt_sl, rt_rev, rt_call, rt_bi, rt_isi, rt_comp, rt_comp2, rt_draw, b_lenl, b_lent, b_lens, b_abs, b_sum, b_max, b_min, b_max2, b_min2, b_tupl, b_tupt, b_lstl, b_lstt, b_inti, b_intb, b_all, b_any, b_gcd, is_nil, is_cons, bs_nil, bs_cons, s_seql, s_seqt, s_seqs, s_r1, s_r2, s_zip, s_zipt, s_enum, s_enumt, s_rev, s_revt, s_rr, z_cons, z_nil, z_nil2, n_cons, n_nil, sl_l, sl_t, one_0, one_1, cut_from, cut_to, rv_l, tr_n, tr_b, tr_i, tr_l, tr_t, x_rtN, x_brk, x_cnt, x_pas, x_frz, x_drp, List.getElem?_cons_zero, List.getElem?_cons_succ, arg_c, arg_g, arg_bin, arg_neg, arg_cmp, arg_chain, arg_nt, arg_and2, arg_or2, arg_tr, arg_ite, arg_tup, arg_lst, arg_ix, arg_sl, arg_rev, arg_call, arg_bi, arg_isi, arg_comp, arg_draw, bind_drw, blT_drw, then_drw, loop_drw, all_drw, all_ret, c_lt, c_le, c_gt, c_ge, c_eq, c_ne, c_isN, c_notN, isNon, cond_dec, cond_not, cond_and, cond_or, dr10, dr01, ex_ite, wt_nx, wt_rt, wt_ct, wt_bk, wt_drw, q_eq, F_inj, k_addl, k_addt, k_ap, line, List.sum_cons, List.sum_nil, tyD, allTy, run]
  rw [wp_cons]
  simp (maxSteps := 10000000) (implicitDefEqProofs := false) (disch := omega) [p3, ef, gk0, gk1, gk2, gk7, b_ret, o_some, map_some, obind_some, k_add, k_sub, k_mul, k_ixl, k_ixt, ix_0, ix_1, ix_2, ix_3, ix_4, ix_5, ix_6, ix_7, ix_8, ix_9, ix_10, ix_11, ix_12, st_0, st_1, st_2, st_3, st_4, st_5, st_6, st_7, st_8, st_9, st_10, st_11, st_12, rd_0, rd_b, rd_l, rd_s, own_0, own_p, own_s, own_n, e_c, e_g, e_v, e_bin, neg_i, e_neg, e_cmp, e_chain, e_nt, e_and, e_or, e_tr, e_ite, e_tup, e_lst, e_ix, e_sl, e_rev, e_call, e_bi, e_isi, e_draw, e_comp, turn_cons, turn_nil, es_nil, es_cons, eS_nil, eS_cons, eC_nil, eC_cons, eA_nil, eA_cons, arg_st, bl_ret, x_nil, then_nx, then_rt, then_ct, then_bk, x_cns, x_bx, x_asgn, x_par, eR_nil, eR_cons, par_nil, par_cons, x_ixs, x_ap, x_ifs, x_rt, x_fr, loop_nx, loop_ct, loop_bk, loop_rt, for_nil, for_cons, bindA, List.replicate, List.cons_append, List.nil_append, a_nm, a_tt, a_tl, as_n, as_c, List.set_cons_zero, List.set_cons_succ, List.length_cons, List.length_nil, setS, boxS, cond_true, cond_false, Bool.and_true, Bool.and_false, Bool.true_and, Bool.false_and, if_true, lk_nil, lk_v, lk_c, lk_g, lk_bin, lk_neg, lk_cmp, lk_chain, lk_nt, lk_and2, lk_or2, lk_tr, lk_ite, lk_tup, lk_lst, lk_ix, lk_sl, lk_rev, lk_call, lk_bi, lk_isi, lk_comp, lk_comp2, lk_draw, ul_nil, ul_v, ul_c, ul_g, ul_bin, ul_neg, ul_cmp, ul_chain, ul_nt, ul_and2, ul_or2, ul_tr, ul_ite, ul_tup, ul_lst, ul_ix, ul_sl, ul_rev, ul_call, ul_bi, ul_isi, ul_comp, ul_comp2, ul_draw, isV, tgS, tgSs, wipeE, rt_v, rt_c, rt_g, rt_bin, rt_neg, rt_cmp, rt_chain, rt_nt, rt_and2, rt_or2, rt_tr, rt_ite, rt_tup, rt_lst, rt_ix, rt_sl, rt_rev, rt_call, rt_bi, rt_isi, rt_comp, rt_comp2, rt_draw, b_lenl, b_lent, b_lens, b_abs, b_sum, b_max, b_min, b_max2, b_min2, b_tupl, b_tupt, b_lstl, b_lstt, b_inti, b_intb, b_all, b_any, b_gcd, is_nil, is_cons, bs_nil, bs_cons, s_seql, s_seqt, s_seqs, s_r1, s_r2, s_zip, s_zipt, s_enum, s_enumt, s_rev, s_revt, s_rr, z_cons, z_nil, z_nil2, n_cons, n_nil, sl_l, sl_t, one_0, one_1, cut_from, cut_to, rv_l, tr_n, tr_b, tr_i, tr_l, tr_t, x_rtN, x_brk, x_cnt, x_pas, x_frz, x_drp, List.getElem?_cons_zero, List.getElem?_cons_succ, arg_c, arg_g, arg_bin, arg_neg, arg_cmp, arg_chain, arg_nt, arg_and2, arg_or2, arg_tr, arg_ite, arg_tup, arg_lst, arg_ix, arg_sl, arg_rev, arg_call, arg_bi, arg_isi, arg_comp, arg_draw, bind_drw, blT_drw, then_drw, loop_drw, all_drw, all_ret, c_lt, c_le, c_gt, c_ge, c_eq, c_ne, c_isN, c_notN, isNon, cond_dec, cond_not, cond_and, cond_or, dr10, dr01, ex_ite, wt_nx, wt_rt, wt_ct, wt_bk, wt_drw, q_eq, F_inj, k_addl, k_addt, k_ap, rng2, line, rangeL, List.sum_cons, List.sum_nil, tyD, allTy, run]
  rw [wp_cons]
  simp (maxSteps := 10000000) (implicitDefEqProofs := false) (disch := omega) [p4, comp4_ev g, gk0, gk1, gk2, gk7, b_ret, o_some, map_some, obind_some, k_add, k_sub, k_mul, k_ixl, k_ixt, ix_0, ix_1, ix_2, ix_3, ix_4, ix_5, ix_6, ix_7, ix_8, ix_9, ix_10, ix_11, ix_12, st_0, st_1, st_2, st_3, st_4, st_5, st_6, st_7, st_8, st_9, st_10, st_11, st_12, rd_0, rd_b, rd_l, rd_s, own_0, own_p, own_s, own_n, e_c, e_g, e_v, e_bin, neg_i, e_neg, e_cmp, e_chain, e_nt, e_and, e_or, e_tr, e_ite, e_tup, e_lst, e_ix, e_sl, e_rev, e_call, e_bi, e_isi, e_draw, turn_cons, turn_nil, es_nil, es_cons, eS_nil, eS_cons, eC_nil, eC_cons, eA_nil, eA_cons, arg_st, bl_ret, x_nil, then_nx, then_rt, then_ct, then_bk, x_cns, x_bx, x_asgn, x_par, eR_nil, eR_cons, par_nil, par_cons, x_ixs, x_ap, x_ifs, x_rt, x_fr, loop_nx, loop_ct, loop_bk, loop_rt, for_nil, for_cons, bindA, List.replicate, List.cons_append, List.nil_append, a_nm, a_tt, a_tl, as_n, as_c, List.set_cons_zero, List.set_cons_succ, List.length_cons, List.length_nil, setS, boxS, cond_true, cond_false, Bool.and_true, Bool.and_false, Bool.true_and, Bool.false_and, if_true, lk_nil, lk_v, lk_c, lk_g, lk_bin, lk_neg, lk_cmp, lk_chain, lk_nt, lk_and2, lk_or2, lk_tr, lk_ite, lk_tup, lk_lst, lk_ix, lk_sl, lk_rev, lk_call, lk_bi, lk_isi, lk_comp, lk_comp2, lk_draw, ul_nil, ul_v, ul_c, ul_g, ul_bin, ul_neg, ul_cmp, ul_chain, ul_nt, ul_and2, ul_or2, ul_tr, ul_ite, ul_tup, ul_lst, ul_ix, ul_sl, ul_rev, ul_call, ul_bi, ul_isi, ul_comp, ul_comp2, ul_draw, isV, tgS, tgSs, wipeE, rt_v, rt_c, rt_g, rt_bin, rt_neg, rt_cmp, rt_chain, rt_nt, rt_and2, rt_or2, rt_tr, rt_ite, rt_tup, rt_lst, rt_ix, rt_sl, rt_rev, rt_call, rt_bi, rt_isi, rt_comp, rt_comp2, rt_draw, b_lenl, b_lent, b_lens, b_abs, b_sum, b_max, b_min, b_max2, b_min2, b_tupl, b_tupt, b_lstl, b_lstt, b_inti, b_intb, b_all, b_any, b_gcd, is_nil, is_cons, bs_nil, bs_cons, s_seql, s_seqt, s_seqs, s_r1, s_r2, s_zip, s_zipt, s_enum, s_enumt, s_rev, s_revt, s_rr, z_cons, z_nil, z_nil2, n_cons, n_nil, sl_l, sl_t, one_0, one_1, cut_from, cut_to, rv_l, tr_n, tr_b, tr_i, tr_l, tr_t, x_rtN, x_brk, x_cnt, x_pas, x_frz, x_drp, List.getElem?_cons_zero, List.getElem?_cons_succ, arg_c, arg_g, arg_bin, arg_neg, arg_cmp, arg_chain, arg_nt, arg_and2, arg_or2, arg_tr, arg_ite, arg_tup, arg_lst, arg_ix, arg_sl, arg_rev, arg_call, arg_bi, arg_isi, arg_comp, arg_draw, bind_drw, blT_drw, then_drw, loop_drw, all_drw, all_ret, c_lt, c_le, c_gt, c_ge, c_eq, c_ne, c_isN, c_notN, isNon, cond_dec, cond_not, cond_and, cond_or, dr10, dr01, ex_ite, wt_nx, wt_rt, wt_ct, wt_bk, wt_drw, q_eq, F_inj, k_addl, k_addt, k_ap, rng2, line, rangeL, List.sum_cons, List.sum_nil, tyD, allTy, run]
  have s1 := sort_TD hL0 hLn
  have s2' := sort_TD (L := rowsP (1 + m)) (by rw [Nat.add_comm]; exact rows_1 m) (rows_ne _)
  rw [← es] at s2'
  rw [wp_cons]
  simp (maxSteps := 10000000) (implicitDefEqProofs := false) (disch := omega) [p5, s1, s2', comp5_ev g, gk0, gk1, gk2, gk7, b_ret, o_some, map_some, obind_some, k_add, k_sub, k_mul, k_ixl, k_ixt, ix_0, ix_1, ix_2, ix_3, ix_4, ix_5, ix_6, ix_7, ix_8, ix_9, ix_10, ix_11, ix_12, st_0, st_1, st_2, st_3, st_4, st_5, st_6, st_7, st_8, st_9, st_10, st_11, st_12, rd_0, rd_b, rd_l, rd_s, own_0, own_p, own_s, own_n, e_c, e_g, e_v, e_bin, neg_i, e_neg, e_cmp, e_chain, e_nt, e_and, e_or, e_tr, e_ite, e_tup, e_lst, e_ix, e_sl, e_rev, e_call, e_bi, e_isi, e_draw, turn_cons, turn_nil, es_nil, es_cons, eS_nil, eS_cons, eC_nil, eC_cons, eA_nil, eA_cons, arg_st, bl_ret, x_nil, then_nx, then_rt, then_ct, then_bk, x_cns, x_bx, x_asgn, x_par, eR_nil, eR_cons, par_nil, par_cons, x_ixs, x_ap, x_ifs, x_rt, x_fr, loop_nx, loop_ct, loop_bk, loop_rt, for_nil, for_cons, bindA, List.replicate, List.cons_append, List.nil_append, a_nm, a_tt, a_tl, as_n, as_c, List.set_cons_zero, List.set_cons_succ, List.length_cons, List.length_nil, setS, boxS, cond_true, cond_false, Bool.and_true, Bool.and_false, Bool.true_and, Bool.false_and, if_true, lk_nil, lk_v, lk_c, lk_g, lk_bin, lk_neg, lk_cmp, lk_chain, lk_nt, lk_and2, lk_or2, lk_tr, lk_ite, lk_tup, lk_lst, lk_ix, lk_sl, lk_rev, lk_call, lk_bi, lk_isi, lk_comp, lk_comp2, lk_draw, ul_nil, ul_v, ul_c, ul_g, ul_bin, ul_neg, ul_cmp, ul_chain, ul_nt, ul_and2, ul_or2, ul_tr, ul_ite, ul_tup, ul_lst, ul_ix, ul_sl, ul_rev, ul_call, ul_bi, ul_isi, ul_comp, ul_comp2, ul_draw, isV, tgS, tgSs, wipeE, rt_v, rt_c, rt_g, rt_bin, rt_neg, rt_cmp, rt_chain, rt_nt, rt_and2, rt_or2, rt_tr, rt_ite, rt_tup, rt_lst, rt_ix, rt_sl, rt_rev, rt_call, rt_bi, rt_isi, rt_comp, rt_comp2, rt_draw, b_lenl, b_lent, b_lens, b_abs, b_sum, b_max, b_min, b_max2, b_min2, b_tupl, b_tupt, b_lstl, b_lstt, b_inti, b_intb, b_all, b_any, b_gcd, is_nil, is_cons, bs_nil, bs_cons, s_seql, s_seqt, s_seqs, s_r1, s_r2, s_zip, s_zipt, s_enum, s_enumt, s_rev, s_revt, s_rr, z_cons, z_nil, z_nil2, n_cons, n_nil, sl_l, sl_t, one_0, one_1, cut_from, cut_to, rv_l, tr_n, tr_b, tr_i, tr_l, tr_t, x_rtN, x_brk, x_cnt, x_pas, x_frz, x_drp, List.getElem?_cons_zero, List.getElem?_cons_succ, arg_c, arg_g, arg_bin, arg_neg, arg_cmp, arg_chain, arg_nt, arg_and2, arg_or2, arg_tr, arg_ite, arg_tup, arg_lst, arg_ix, arg_sl, arg_rev, arg_call, arg_bi, arg_isi, arg_comp, arg_draw, bind_drw, blT_drw, then_drw, loop_drw, all_drw, all_ret, c_lt, c_le, c_gt, c_ge, c_eq, c_ne, c_isN, c_notN, isNon, cond_dec, cond_not, cond_and, cond_or, dr10, dr01, ex_ite, wt_nx, wt_rt, wt_ct, wt_bk, wt_drw, q_eq, F_inj, k_addl, k_addt, k_ap, rng2, line, rangeL, List.sum_cons, List.sum_nil, tyD, allTy, run]
  obtain ⟨s8', h6⟩ := loop6 g (m := 1 + (m : Int)) (s3 := .pl (.lst (TD (rowsP (1 + m))))) (s4 := s4') (s5 := s5') (s7 := .pl (.bl true)) (s8 := s8) (s9 := s9) (s10 := s10) (s11 := s11) (s12 := s12) (s13 := s13) (s14 := s14) (s15 := s15) (s16 := s16) (s17 := s17)
  have hr2 : rng2 1 ((L.length : Int) - 1) = some (rangeL (L.length - 2) 1) := by
    rw [rng_lo (by omega) (by omega) (by omega) (by omega), show ((L.length : Int) - 1 - 1).toNat = L.length - 2 by omega]
  rw [wp_cons]
  simp (maxSteps := 10000000) (implicitDefEqProofs := false) (disch := omega) [p6, len_TD, hr2, h6, gk0, gk1, gk2, gk7, b_ret, o_some, map_some, obind_some, k_add, k_sub, k_mul, k_ixl, k_ixt, ix_0, ix_1, ix_2, ix_3, ix_4, ix_5, ix_6, ix_7, ix_8, ix_9, ix_10, ix_11, ix_12, st_0, st_1, st_2, st_3, st_4, st_5, st_6, st_7, st_8, st_9, st_10, st_11, st_12, rd_0, rd_b, rd_l, rd_s, own_0, own_p, own_s, own_n, e_c, e_g, e_v, e_bin, neg_i, e_neg, e_cmp, e_chain, e_nt, e_and, e_or, e_tr, e_ite, e_tup, e_lst, e_ix, e_sl, e_rev, e_call, e_bi, e_isi, e_draw, e_comp, turn_cons, turn_nil, es_nil, es_cons, eS_nil, eS_cons, eC_nil, eC_cons, eA_nil, eA_cons, arg_st, bl_ret, x_nil, then_nx, then_rt, then_ct, then_bk, x_cns, x_bx, x_asgn, x_par, eR_nil, eR_cons, par_nil, par_cons, x_ixs, x_ap, x_ifs, x_rt, x_fr, loop_nx, loop_ct, loop_bk, loop_rt, bindA, List.replicate, List.cons_append, List.nil_append, a_nm, a_tt, a_tl, as_n, as_c, List.set_cons_zero, List.set_cons_succ, List.length_cons, List.length_nil, setS, boxS, cond_true, cond_false, Bool.and_true, Bool.and_false, Bool.true_and, Bool.false_and, if_true, lk_nil, lk_v, lk_c, lk_g, lk_bin, lk_neg, lk_cmp, lk_chain, lk_nt, lk_and2, lk_or2, lk_tr, lk_ite, lk_tup, lk_lst, lk_ix, lk_sl, lk_rev, lk_call, lk_bi, lk_isi, lk_comp, lk_comp2, lk_draw, ul_nil, ul_v, ul_c, ul_g, ul_bin, ul_neg, ul_cmp, ul_chain, ul_nt, ul_and2, ul_or2, ul_tr, ul_ite, ul_tup, ul_lst, ul_ix, ul_sl, ul_rev, ul_call, ul_bi, ul_isi, ul_comp, ul_comp2, ul_draw, isV, tgS, tgSs, wipeE, rt_v, rt_c, rt_g, rt_bin, rt_neg, rt_cmp, rt_chain, rt_nt, rt_and2, rt_or2, rt_tr, rt_ite, rt_tup, rt_lst, rt_ix, rt_sl, rt_rev, rt_call, rt_bi, rt_isi, rt_comp, rt_comp2, rt_draw, b_lent, b_lens, b_abs, b_sum, b_max, b_min, b_max2, b_min2, b_tupl, b_tupt, b_lstl, b_lstt, b_inti, b_intb, b_all, b_any, b_gcd, is_nil, is_cons, bs_nil, bs_cons, s_seql, s_seqt, s_seqs, s_r1, s_r2, s_zip, s_zipt, s_enum, s_enumt, s_rev, s_revt, s_rr, z_cons, z_nil, z_nil2, n_cons, n_nil, sl_l, sl_t, one_0, one_1, cut_from, cut_to, rv_l, tr_n, tr_b, tr_i, tr_l, tr_t, x_rtN, x_brk, x_cnt, x_pas, x_frz, x_drp, List.getElem?_cons_zero, List.getElem?_cons_succ, arg_c, arg_g, arg_bin, arg_neg, arg_cmp, arg_chain, arg_nt, arg_and2, arg_or2, arg_tr, arg_ite, arg_tup, arg_lst, arg_ix, arg_sl, arg_rev, arg_call, arg_bi, arg_isi, arg_comp, arg_draw, bind_drw, blT_drw, then_drw, loop_drw, all_drw, all_ret, c_lt, c_le, c_gt, c_ge, c_eq, c_ne, c_isN, c_notN, isNon, cond_dec, cond_not, cond_and, cond_or, dr10, dr01, ex_ite, wt_nx, wt_rt, wt_ct, wt_bk, wt_drw, q_eq, F_inj, k_addl, k_addt, k_ap, line, List.sum_cons, List.sum_nil, tyD, allTy, run]
  exact h _ _ _ _ _ _ _ _ _ _ _ _ _ _ _ _
end K95

set_option Elab.async false
set_option linter.all false
set_option maxRecDepth 100000
set_option maxHeartbeats 8000000
namespace K95
open FF SB
def b1 : S := (.box 10 false (.bi .join [(.c (.str [])), (.comp (.nm 8) .range [(.draw 1 0 (.c (.int 12)))] [] (.ix (.c (.str [108, 114])) (.draw 1 0 (.c (.int 2)))))]))
def b2 : S := (.par [(11, false), (12, false)] [(.tup [(.c (.int 0)), (.c (.int 1))]), (.tup [(.c (.int 1)), (.c (.int 0))])])
def b3 : S := (.box 13 false (.tup [(.c (.int 1)), (.c (.int 1))]))
def b4 : S := (.forr (.nm 14) .seq [(.v 10)] [(.ifs (.cmp .eq (.v 14) (.c (.str [108]))) [(.box 12 false (.v 13))] [(.box 11 false (.v 13))]), (.box 13 false (.tup [(.bin .add (.ix (.v 11) (.c (.int 0))) (.ix (.v 12) (.c (.int 0)))), (.bin .add (.ix (.v 11) (.c (.int 1))) (.ix (.v 12) (.c (.int 1))))]))])
def b5 : S := (.ifs (.nt (.tr (.call 3 [(.lst [(.v 13), (.v 10)]), (.lst [(.call 5 [(.v 10)]), (.call 6 [(.v 13)])])]))) [(.ret (.c (.bl false)))] [])
def b6 : S := (.box 15 false (.call 1 [(.bin .add (.c (.int 1)) (.draw 1 0 (.c (.int 40)))), (.bin .add (.c (.int 1)) (.draw 1 0 (.c (.int 40))))]))
def b7 : S := (.ifs (.cmp .ne (.call 5 [(.call 6 [(.v 15)])]) (.v 15)) [(.ret (.c (.bl false)))] [])
def b8 : S := (.box 16 false (.call 1 [(.draw 1 0 (.c (.int 20))), (.bin .add (.c (.int 1)) (.draw 1 0 (.c (.int 20))))]))
def b9 : S := (.box 17 false (.bin .sub (.bin .mul (.ix (.v 15) (.c (.int 0))) (.ix (.v 16) (.c (.int 1)))) (.bin .mul (.ix (.v 15) (.c (.int 1))) (.ix (.v 16) (.c (.int 0))))))
def b10 : S := (.ifs (.nt (.tr (.call 3 [(.lst [(.cmp .inn (.v 17) (.tup [(.c (.int 1)), (.neg (.c (.int 1)))])), (.tup [(.bin .add (.ix (.v 15) (.c (.int 0))) (.ix (.v 16) (.c (.int 0)))), (.bin .add (.ix (.v 15) (.c (.int 1))) (.ix (.v 16) (.c (.int 1))))])]), (.lst [(.call 2 [(.v 15), (.v 16)]), (.call 4 [(.v 15), (.v 16)])])]))) [(.ret (.c (.bl false)))] [])
def e0 : S := (.box 2 false (.bin .add (.c (.int 1)) (.draw 1 0 (.c (.int 25)))))
def e8 : S := (.ret (.and2 (.cmp .eq (.call 6 [(.tup [(.c (.int 1)), (.c (.int 1))])]) (.c (.str []))) (.and2 (.cmp .eq (.call 5 [(.c (.str [108, 114, 108]))]) (.tup [(.c (.int 3)), (.c (.int 5))])) (.and2 (.cmp .eq (.call 0 [(.c (.int 1))]) (.lst [(.tup [(.c (.int 0)), (.c (.int 1))]), (.tup [(.c (.int 1)), (.c (.int 1))])])) (.call 2 [(.tup [(.c (.int 1)), (.c (.int 0))]), (.tup [(.c (.int 3)), (.c (.int 1))])])))))
theorem i_law_eq : i_law = [e0, p1, p2, p3, p4, p5, p6, .forr (.nm 9) .range [(.c (.int 5))] [b1, b2, b3, b4, b5, b6, b7, b8, b9, b10], e8] := rfl
theorem gl0 : g_law 0 = r_farey := rfl
theorem gl1 : g_law 1 = r__law_lowest := rfl
theorem gl2 : g_law 2 = r_are_neighbours := rfl
theorem gl3 : g_law 3 = r_exact 3 10 := rfl
theorem gl5 : g_law 5 = r_by_way := rfl
theorem gl6 : g_law 6 = r_way_to := rfl
theorem gl4 : g_law 4 = r_between := rfl
theorem gl7 : g_law 7 = r__law_common := rfl
def OK (r : Xs) : Prop := r.1 = .nx ∧ ∃ t2 t3 t4 t5 t6 t7 t8 t9 t10 t11 t12 t13 t14 t15 t16 t17 : Slot, r.2 = [.scr, .st, t2, t3, t4, t5, t6, t7, t8, t9, t10, t11, t12, t13, t14, t15, t16, t17]
theorem sz_w {w : List Nat} (h : Lr w) : szl 0 0 (.str w) = true := by
  simp only [szl, List.all_eq_true, decide_eq_true_eq]
  intro k hk
  rcases h k hk with e | e <;> omega
theorem F_t {q : Rat} : F q = .tup [.int q.num, .int (q.den : Int)] := rfl
theorem fin {s2 s3 s4 s5 s6 s7 s8 s9 s10 s11 s12 s13 s14 s15 s16 s17 : Slot}  :
    Wp g_law [] [.scr, .st, s2, s3, s4, s5, s6, s7, s8, s9, s10, s11, s12, s13, s14, s15, s16, s17] OK := by
  rw [wp_nil]; exact ⟨rfl, _, _, _, _, _, _, _, _, _, _, _, _, _, _, _, _, rfl⟩
theorem t8 {s2 s3 s4 s5 s6 s7 s8 s9 s10 s11 s12 s13 s14 s16 s17 : Slot} {p q : Nat} (hp : p ≤ 40) (hq : q ≤ 40) :
    Wp g_law [b8, b9, b10] [.scr, .st, s2, s3, s4, s5, s6, s7, s8, s9, s10, s11, s12, s13, s14, .pl (.tup [.int (p : Int), .int (q : Int)]), s16, s17] OK := by
  rw [wp_cons]
  simp (maxSteps := 10000000) (implicitDefEqProofs := false) (disch := omega) [b8, gl0, gl1, gl2, gl3, gl5, gl6, gl4, gl7, b_ret, o_some, map_some, obind_some, k_add, k_sub, k_mul, k_ixl, k_ixt, ix_0, ix_1, ix_2, ix_3, ix_4, ix_5, ix_6, ix_7, ix_8, ix_9, ix_10, ix_11, ix_12, st_0, st_1, st_2, st_3, st_4, st_5, st_6, st_7, st_8, st_9, st_10, st_11, st_12, rd_0, rd_b, rd_l, rd_s, own_0, own_p, own_s, own_n, e_c, e_g, e_v, e_bin, neg_i, e_neg, e_cmp, e_chain, e_nt, e_and, e_or, e_tr, e_ite, e_tup, e_lst, e_ix, e_sl, e_rev, e_call, e_bi, e_isi, e_draw, e_comp, turn_cons, turn_nil, es_nil, es_cons, eS_nil, eS_cons, eC_nil, eC_cons, eA_nil, eA_cons, arg_st, bl_ret, x_nil, then_nx, then_rt, then_ct, then_bk, x_cns, x_bx, x_asgn, x_par, eR_nil, eR_cons, par_nil, par_cons, x_ixs, x_ap, x_ifs, x_rt, x_fr, loop_nx, loop_ct, loop_bk, loop_rt, for_nil, for_cons, bindA, List.replicate, List.cons_append, List.nil_append, a_nm, a_tt, a_tl, as_n, as_c, List.set_cons_zero, List.set_cons_succ, List.length_cons, List.length_nil, setS, boxS, cond_true, cond_false, Bool.and_true, Bool.and_false, Bool.true_and, Bool.false_and, if_true, lk_nil, lk_v, lk_c, lk_g, lk_bin, lk_neg, lk_cmp, lk_chain, lk_nt, lk_and2, lk_or2, lk_tr, lk_ite, lk_tup, lk_lst, lk_ix, lk_sl, lk_rev, lk_call, lk_bi, lk_isi, lk_comp, lk_comp2, lk_draw, ul_nil, ul_v, ul_c, ul_g, ul_bin, ul_neg, ul_cmp, ul_chain, ul_nt, ul_and2, ul_or2, ul_tr, ul_ite, ul_tup, ul_lst, ul_ix, ul_sl, ul_rev, ul_call, ul_bi, ul_isi, ul_comp, ul_comp2, ul_draw, isV, tgS, tgSs, wipeE, rt_v, rt_c, rt_g, rt_bin, rt_neg, rt_cmp, rt_chain, rt_nt, rt_and2, rt_or2, rt_tr, rt_ite, rt_tup, rt_lst, rt_ix, rt_sl, rt_rev, rt_call, rt_bi, rt_isi, rt_comp, rt_comp2, rt_draw, b_lenl, b_lent, b_lens, b_abs, b_sum, b_max, b_min, b_max2, b_min2, b_tupl, b_tupt, b_lstl, b_lstt, b_inti, b_intb, b_all, b_any, b_gcd, is_nil, is_cons, bs_nil, bs_cons, s_seql, s_seqt, s_seqs, s_r1, s_r2, s_zip, s_zipt, s_enum, s_enumt, s_rev, s_revt, s_rr, z_cons, z_nil, z_nil2, n_cons, n_nil, sl_l, sl_t, one_0, one_1, cut_from, cut_to, rv_l, tr_n, tr_b, tr_i, tr_l, tr_t, x_rtN, x_brk, x_cnt, x_pas, x_frz, x_drp, List.getElem?_cons_zero, List.getElem?_cons_succ, arg_c, arg_g, arg_bin, arg_neg, arg_cmp, arg_chain, arg_nt, arg_and2, arg_or2, arg_tr, arg_ite, arg_tup, arg_lst, arg_ix, arg_sl, arg_rev, arg_call, arg_bi, arg_isi, arg_comp, arg_draw, bind_drw, blT_drw, then_drw, loop_drw, all_drw, all_ret, c_lt, c_le, c_gt, c_ge, c_eq, c_ne, c_isN, c_notN, isNon, cond_dec, cond_not, cond_and, cond_or, dr10, dr01, ex_ite, wt_nx, wt_rt, wt_ct, wt_bk, wt_drw, q_eq, F_inj, k_addl, k_addt, k_ap, rng2, line, rangeL, List.sum_cons, List.sum_nil, tyD, allTy, run]
  intro a ha b hb
  have i1 : Sm 6 (a : Int) := ⟨by omega⟩
  have i2 : Sm 6 (1 + (b : Int)) := ⟨by omega⟩
  have e1 : r__law_lowest [.d (.int (a : Int)), .d (.int (1 + (b : Int)))] = .ret (F (Rat.divInt (a : Int) (1 + (b : Int))), false) := p__law_lowest (by omega) (by omega) (by omega)
  have iq : SmQ 7 (Rat.divInt (a : Int) (1 + (b : Int))) := (inferInstance : SmQ _ (Rat.divInt (a : Int) (1 + (b : Int)))).mono (by omega)
  generalize Rat.divInt (a : Int) (1 + (b : Int)) = z at *
  simp (maxSteps := 10000000) (implicitDefEqProofs := false) (disch := omega) [e1, gl0, gl1, gl2, gl3, gl5, gl6, gl4, gl7, b_ret, o_some, map_some, obind_some, k_add, k_sub, k_mul, k_ixl, k_ixt, ix_0, ix_1, ix_2, ix_3, ix_4, ix_5, ix_6, ix_7, ix_8, ix_9, ix_10, ix_11, ix_12, st_0, st_1, st_2, st_3, st_4, st_5, st_6, st_7, st_8, st_9, st_10, st_11, st_12, rd_0, rd_b, rd_l, rd_s, own_0, own_p, own_s, own_n, e_c, e_g, e_v, e_bin, neg_i, e_neg, e_cmp, e_chain, e_nt, e_and, e_or, e_tr, e_ite, e_tup, e_lst, e_ix, e_sl, e_rev, e_call, e_bi, e_isi, e_draw, e_comp, turn_cons, turn_nil, es_nil, es_cons, eS_nil, eS_cons, eC_nil, eC_cons, eA_nil, eA_cons, arg_st, bl_ret, x_nil, then_nx, then_rt, then_ct, then_bk, x_cns, x_bx, x_asgn, x_par, eR_nil, eR_cons, par_nil, par_cons, x_ixs, x_ap, x_ifs, x_rt, x_fr, loop_nx, loop_ct, loop_bk, loop_rt, for_nil, for_cons, bindA, List.replicate, List.cons_append, List.nil_append, a_nm, a_tt, a_tl, as_n, as_c, List.set_cons_zero, List.set_cons_succ, List.length_cons, List.length_nil, setS, boxS, cond_true, cond_false, Bool.and_true, Bool.and_false, Bool.true_and, Bool.false_and, if_true, lk_nil, lk_v, lk_c, lk_g, lk_bin, lk_neg, lk_cmp, lk_chain, lk_nt, lk_and2, lk_or2, lk_tr, lk_ite, lk_tup, lk_lst, lk_ix, lk_sl, lk_rev, lk_call, lk_bi, lk_isi, lk_comp, lk_comp2, lk_draw, ul_nil, ul_v, ul_c, ul_g, ul_bin, ul_neg, ul_cmp, ul_chain, ul_nt, ul_and2, ul_or2, ul_tr, ul_ite, ul_tup, ul_lst, ul_ix, ul_sl, ul_rev, ul_call, ul_bi, ul_isi, ul_comp, ul_comp2, ul_draw, isV, tgS, tgSs, wipeE, rt_v, rt_c, rt_g, rt_bin, rt_neg, rt_cmp, rt_chain, rt_nt, rt_and2, rt_or2, rt_tr, rt_ite, rt_tup, rt_lst, rt_ix, rt_sl, rt_rev, rt_call, rt_bi, rt_isi, rt_comp, rt_comp2, rt_draw, b_lenl, b_lent, b_lens, b_abs, b_sum, b_max, b_min, b_max2, b_min2, b_tupl, b_tupt, b_lstl, b_lstt, b_inti, b_intb, b_all, b_any, b_gcd, is_nil, is_cons, bs_nil, bs_cons, s_seql, s_seqt, s_seqs, s_r1, s_r2, s_zip, s_zipt, s_enum, s_enumt, s_rev, s_revt, s_rr, z_cons, z_nil, z_nil2, n_cons, n_nil, sl_l, sl_t, one_0, one_1, cut_from, cut_to, rv_l, tr_n, tr_b, tr_i, tr_l, tr_t, x_rtN, x_brk, x_cnt, x_pas, x_frz, x_drp, List.getElem?_cons_zero, List.getElem?_cons_succ, arg_c, arg_g, arg_bin, arg_neg, arg_cmp, arg_chain, arg_nt, arg_and2, arg_or2, arg_tr, arg_ite, arg_tup, arg_lst, arg_ix, arg_sl, arg_rev, arg_call, arg_bi, arg_isi, arg_comp, arg_draw, bind_drw, blT_drw, then_drw, loop_drw, all_drw, all_ret, c_lt, c_le, c_gt, c_ge, c_eq, c_ne, c_isN, c_notN, isNon, cond_dec, cond_not, cond_and, cond_or, dr10, dr01, ex_ite, wt_nx, wt_rt, wt_ct, wt_bk, wt_drw, q_eq, F_inj, k_addl, k_addt, k_ap, rng2, line, rangeL, List.sum_cons, List.sum_nil, tyD, allTy, run]
  have i3 : Sm 6 (p : Int) := ⟨by omega⟩
  have i4 : Sm 6 (q : Int) := ⟨by omega⟩
  have j1 : Sm 7 z.num := inferInstance
  have j2 : Sm 7 (z.den : Int) := inferInstance
  rw [F_t]
  generalize z.num = u at *
  generalize (z.den : Int) = v at *
  have en := p_near (a := p) (b := q) (c := u) (d := v) (i3.up (by omega)) (i4.up (by omega)) (j1.up (by omega)) (j2.up (by omega))
  have eb := p_between (a := p) (b := q) (c := u) (d := v)
  rw [wp_cons]
  simp (maxSteps := 10000000) (implicitDefEqProofs := false) (disch := omega) [b9, gl0, gl1, gl2, gl3, gl5, gl6, gl4, gl7, b_ret, o_some, map_some, obind_some, k_add, k_sub, k_mul, k_ixl, k_ixt, ix_0, ix_1, ix_2, ix_3, ix_4, ix_5, ix_6, ix_7, ix_8, ix_9, ix_10, ix_11, ix_12, st_0, st_1, st_2, st_3, st_4, st_5, st_6, st_7, st_8, st_9, st_10, st_11, st_12, rd_0, rd_b, rd_l, rd_s, own_0, own_p, own_s, own_n, e_c, e_g, e_v, e_bin, neg_i, e_neg, e_cmp, e_chain, e_nt, e_and, e_or, e_tr, e_ite, e_tup, e_lst, e_ix, e_sl, e_rev, e_call, e_bi, e_isi, e_draw, e_comp, turn_cons, turn_nil, es_nil, es_cons, eS_nil, eS_cons, eC_nil, eC_cons, eA_nil, eA_cons, arg_st, bl_ret, x_nil, then_nx, then_rt, then_ct, then_bk, x_cns, x_bx, x_asgn, x_par, eR_nil, eR_cons, par_nil, par_cons, x_ixs, x_ap, x_ifs, x_rt, x_fr, loop_nx, loop_ct, loop_bk, loop_rt, for_nil, for_cons, bindA, List.replicate, List.cons_append, List.nil_append, a_nm, a_tt, a_tl, as_n, as_c, List.set_cons_zero, List.set_cons_succ, List.length_cons, List.length_nil, setS, boxS, cond_true, cond_false, Bool.and_true, Bool.and_false, Bool.true_and, Bool.false_and, if_true, lk_nil, lk_v, lk_c, lk_g, lk_bin, lk_neg, lk_cmp, lk_chain, lk_nt, lk_and2, lk_or2, lk_tr, lk_ite, lk_tup, lk_lst, lk_ix, lk_sl, lk_rev, lk_call, lk_bi, lk_isi, lk_comp, lk_comp2, lk_draw, ul_nil, ul_v, ul_c, ul_g, ul_bin, ul_neg, ul_cmp, ul_chain, ul_nt, ul_and2, ul_or2, ul_tr, ul_ite, ul_tup, ul_lst, ul_ix, ul_sl, ul_rev, ul_call, ul_bi, ul_isi, ul_comp, ul_comp2, ul_draw, isV, tgS, tgSs, wipeE, rt_v, rt_c, rt_g, rt_bin, rt_neg, rt_cmp, rt_chain, rt_nt, rt_and2, rt_or2, rt_tr, rt_ite, rt_tup, rt_lst, rt_ix, rt_sl, rt_rev, rt_call, rt_bi, rt_isi, rt_comp, rt_comp2, rt_draw, b_lenl, b_lent, b_lens, b_abs, b_sum, b_max, b_min, b_max2, b_min2, b_tupl, b_tupt, b_lstl, b_lstt, b_inti, b_intb, b_all, b_any, b_gcd, is_nil, is_cons, bs_nil, bs_cons, s_seql, s_seqt, s_seqs, s_r1, s_r2, s_zip, s_zipt, s_enum, s_enumt, s_rev, s_revt, s_rr, z_cons, z_nil, z_nil2, n_cons, n_nil, sl_l, sl_t, one_0, one_1, cut_from, cut_to, rv_l, tr_n, tr_b, tr_i, tr_l, tr_t, x_rtN, x_brk, x_cnt, x_pas, x_frz, x_drp, List.getElem?_cons_zero, List.getElem?_cons_succ, arg_c, arg_g, arg_bin, arg_neg, arg_cmp, arg_chain, arg_nt, arg_and2, arg_or2, arg_tr, arg_ite, arg_tup, arg_lst, arg_ix, arg_sl, arg_rev, arg_call, arg_bi, arg_isi, arg_comp, arg_draw, bind_drw, blT_drw, then_drw, loop_drw, all_drw, all_ret, c_lt, c_le, c_gt, c_ge, c_eq, c_ne, c_isN, c_notN, isNon, cond_dec, cond_not, cond_and, cond_or, dr10, dr01, ex_ite, wt_nx, wt_rt, wt_ct, wt_bk, wt_drw, q_eq, F_inj, k_addl, k_addt, k_ap, rng2, line, rangeL, List.sum_cons, List.sum_nil, tyD, allTy, run]
  have hin : cmpD .inn (.int ((p : Int) * v - (q : Int) * u)) (.tup [.int 1, .int (-1)]) = some (decide (((p : Int) * v - (q : Int) * u).natAbs = 1)) := by
    rw [in_t (by omega) (by omega)]
    congr 1
    simp only [List.mem_cons, D.int.injEq, List.not_mem_nil, or_false]
    generalize (p : Int) * v - (q : Int) * u = t
    by_cases h : t.natAbs = 1
    · rw [decide_eq_true h]; exact decide_eq_true (by omega)
    · rw [decide_eq_false h]; exact decide_eq_false (by omega)
  rw [wp_cons]
  simp (maxSteps := 10000000) (implicitDefEqProofs := false) (disch := omega) [b10, hin, en, eb, gl0, gl1, gl2, gl3, gl5, gl6, gl4, gl7, b_ret, o_some, map_some, obind_some, k_add, k_sub, k_mul, k_ixl, k_ixt, ix_0, ix_1, ix_2, ix_3, ix_4, ix_5, ix_6, ix_7, ix_8, ix_9, ix_10, ix_11, ix_12, st_0, st_1, st_2, st_3, st_4, st_5, st_6, st_7, st_8, st_9, st_10, st_11, st_12, rd_0, rd_b, rd_l, rd_s, own_0, own_p, own_s, own_n, e_c, e_g, e_v, e_bin, neg_i, e_neg, e_cmp, e_chain, e_nt, e_and, e_or, e_tr, e_ite, e_tup, e_lst, e_ix, e_sl, e_rev, e_call, e_bi, e_isi, e_draw, e_comp, turn_cons, turn_nil, es_nil, es_cons, eS_nil, eS_cons, eC_nil, eC_cons, eA_nil, eA_cons, arg_st, bl_ret, x_nil, then_nx, then_rt, then_ct, then_bk, x_cns, x_bx, x_asgn, x_par, eR_nil, eR_cons, par_nil, par_cons, x_ixs, x_ap, x_ifs, x_rt, x_fr, loop_nx, loop_ct, loop_bk, loop_rt, for_nil, for_cons, bindA, List.replicate, List.cons_append, List.nil_append, a_nm, a_tt, a_tl, as_n, as_c, List.set_cons_zero, List.set_cons_succ, List.length_cons, List.length_nil, setS, boxS, cond_true, cond_false, Bool.and_true, Bool.and_false, Bool.true_and, Bool.false_and, if_true, lk_nil, lk_v, lk_c, lk_g, lk_bin, lk_neg, lk_cmp, lk_chain, lk_nt, lk_and2, lk_or2, lk_tr, lk_ite, lk_tup, lk_lst, lk_ix, lk_sl, lk_rev, lk_call, lk_bi, lk_isi, lk_comp, lk_comp2, lk_draw, ul_nil, ul_v, ul_c, ul_g, ul_bin, ul_neg, ul_cmp, ul_chain, ul_nt, ul_and2, ul_or2, ul_tr, ul_ite, ul_tup, ul_lst, ul_ix, ul_sl, ul_rev, ul_call, ul_bi, ul_isi, ul_comp, ul_comp2, ul_draw, isV, tgS, tgSs, wipeE, rt_v, rt_c, rt_g, rt_bin, rt_neg, rt_cmp, rt_chain, rt_nt, rt_and2, rt_or2, rt_tr, rt_ite, rt_tup, rt_lst, rt_ix, rt_sl, rt_rev, rt_call, rt_bi, rt_isi, rt_comp, rt_comp2, rt_draw, b_lenl, b_lent, b_lens, b_abs, b_sum, b_max, b_min, b_max2, b_min2, b_tupl, b_tupt, b_lstl, b_lstt, b_inti, b_intb, b_all, b_any, b_gcd, is_nil, is_cons, bs_nil, bs_cons, s_seql, s_seqt, s_seqs, s_r1, s_r2, s_zip, s_zipt, s_enum, s_enumt, s_rev, s_revt, s_rr, z_cons, z_nil, z_nil2, n_cons, n_nil, sl_l, sl_t, one_0, one_1, cut_from, cut_to, rv_l, tr_n, tr_b, tr_i, tr_l, tr_t, x_rtN, x_brk, x_cnt, x_pas, x_frz, x_drp, List.getElem?_cons_zero, List.getElem?_cons_succ, arg_c, arg_g, arg_bin, arg_neg, arg_cmp, arg_chain, arg_nt, arg_and2, arg_or2, arg_tr, arg_ite, arg_tup, arg_lst, arg_ix, arg_sl, arg_rev, arg_call, arg_bi, arg_isi, arg_comp, arg_draw, bind_drw, blT_drw, then_drw, loop_drw, all_drw, all_ret, c_lt, c_le, c_gt, c_ge, c_eq, c_ne, c_isN, c_notN, isNon, cond_dec, cond_not, cond_and, cond_or, dr10, dr01, ex_ite, wt_nx, wt_rt, wt_ct, wt_bk, wt_drw, q_eq, F_inj, k_addl, k_addt, k_ap, rng2, line, rangeL, List.sum_cons, List.sum_nil, tyD, allTy, run]
  exact fin
theorem t6 {s2 s3 s4 s5 s6 s7 s8 s9 s10 s11 s12 s13 s14 s15 s16 s17 : Slot}  :
    Wp g_law [b6, b7, b8, b9, b10] [.scr, .st, s2, s3, s4, s5, s6, s7, s8, s9, s10, s11, s12, s13, s14, s15, s16, s17] OK := by
  rw [wp_cons]
  simp (maxSteps := 10000000) (implicitDefEqProofs := false) (disch := omega) [b6, gl0, gl1, gl2, gl3, gl5, gl6, gl4, gl7, b_ret, o_some, map_some, obind_some, k_add, k_sub, k_mul, k_ixl, k_ixt, ix_0, ix_1, ix_2, ix_3, ix_4, ix_5, ix_6, ix_7, ix_8, ix_9, ix_10, ix_11, ix_12, st_0, st_1, st_2, st_3, st_4, st_5, st_6, st_7, st_8, st_9, st_10, st_11, st_12, rd_0, rd_b, rd_l, rd_s, own_0, own_p, own_s, own_n, e_c, e_g, e_v, e_bin, neg_i, e_neg, e_cmp, e_chain, e_nt, e_and, e_or, e_tr, e_ite, e_tup, e_lst, e_ix, e_sl, e_rev, e_call, e_bi, e_isi, e_draw, e_comp, turn_cons, turn_nil, es_nil, es_cons, eS_nil, eS_cons, eC_nil, eC_cons, eA_nil, eA_cons, arg_st, bl_ret, x_nil, then_nx, then_rt, then_ct, then_bk, x_cns, x_bx, x_asgn, x_par, eR_nil, eR_cons, par_nil, par_cons, x_ixs, x_ap, x_ifs, x_rt, x_fr, loop_nx, loop_ct, loop_bk, loop_rt, for_nil, for_cons, bindA, List.replicate, List.cons_append, List.nil_append, a_nm, a_tt, a_tl, as_n, as_c, List.set_cons_zero, List.set_cons_succ, List.length_cons, List.length_nil, setS, boxS, cond_true, cond_false, Bool.and_true, Bool.and_false, Bool.true_and, Bool.false_and, if_true, lk_nil, lk_v, lk_c, lk_g, lk_bin, lk_neg, lk_cmp, lk_chain, lk_nt, lk_and2, lk_or2, lk_tr, lk_ite, lk_tup, lk_lst, lk_ix, lk_sl, lk_rev, lk_call, lk_bi, lk_isi, lk_comp, lk_comp2, lk_draw, ul_nil, ul_v, ul_c, ul_g, ul_bin, ul_neg, ul_cmp, ul_chain, ul_nt, ul_and2, ul_or2, ul_tr, ul_ite, ul_tup, ul_lst, ul_ix, ul_sl, ul_rev, ul_call, ul_bi, ul_isi, ul_comp, ul_comp2, ul_draw, isV, tgS, tgSs, wipeE, rt_v, rt_c, rt_g, rt_bin, rt_neg, rt_cmp, rt_chain, rt_nt, rt_and2, rt_or2, rt_tr, rt_ite, rt_tup, rt_lst, rt_ix, rt_sl, rt_rev, rt_call, rt_bi, rt_isi, rt_comp, rt_comp2, rt_draw, b_lenl, b_lent, b_lens, b_abs, b_sum, b_max, b_min, b_max2, b_min2, b_tupl, b_tupt, b_lstl, b_lstt, b_inti, b_intb, b_all, b_any, b_gcd, is_nil, is_cons, bs_nil, bs_cons, s_seql, s_seqt, s_seqs, s_r1, s_r2, s_zip, s_zipt, s_enum, s_enumt, s_rev, s_revt, s_rr, z_cons, z_nil, z_nil2, n_cons, n_nil, sl_l, sl_t, one_0, one_1, cut_from, cut_to, rv_l, tr_n, tr_b, tr_i, tr_l, tr_t, x_rtN, x_brk, x_cnt, x_pas, x_frz, x_drp, List.getElem?_cons_zero, List.getElem?_cons_succ, arg_c, arg_g, arg_bin, arg_neg, arg_cmp, arg_chain, arg_nt, arg_and2, arg_or2, arg_tr, arg_ite, arg_tup, arg_lst, arg_ix, arg_sl, arg_rev, arg_call, arg_bi, arg_isi, arg_comp, arg_draw, bind_drw, blT_drw, then_drw, loop_drw, all_drw, all_ret, c_lt, c_le, c_gt, c_ge, c_eq, c_ne, c_isN, c_notN, isNon, cond_dec, cond_not, cond_and, cond_or, dr10, dr01, ex_ite, wt_nx, wt_rt, wt_ct, wt_bk, wt_drw, q_eq, F_inj, k_addl, k_addt, k_ap, rng2, line, rangeL, List.sum_cons, List.sum_nil, tyD, allTy, run]
  intro a ha b hb
  have i1 : Sm 6 (1 + (a : Int)) := ⟨by omega⟩
  have i2 : Sm 6 (1 + (b : Int)) := ⟨by omega⟩
  have e1 : r__law_lowest [.d (.int (1 + (a : Int))), .d (.int (1 + (b : Int)))] = .ret (F (Rat.divInt (1 + (a : Int)) (1 + (b : Int))), false) := p__law_lowest (by omega) (by omega) (by omega)
  obtain ⟨p, q, hp, hq, hp1, hq1, hg, ez⟩ : ∃ p q : Nat, p ≤ 40 ∧ q ≤ 40 ∧ 1 ≤ p ∧ 1 ≤ q ∧ Nat.gcd p q = 1 ∧ F (Rat.divInt (1 + (a : Int)) (1 + (b : Int))) = .tup [.int (p : Int), .int (q : Int)] := by
    generalize hz : Rat.divInt (1 + (a : Int)) (1 + (b : Int)) = z
    have h1 : z.num = (1 + (a : Int)) / (Int.gcd (1 + (b : Int)) (1 + (a : Int)) : Nat) := by
      rw [← hz, Rat.num_divInt, Int.sign_eq_one_of_pos (by omega), Int.one_mul]
    have h2 : z.den = (1 + (b : Int)).natAbs / Int.gcd (1 + (b : Int)) (1 + (a : Int)) := by
      rw [← hz, Rat.den_divInt, if_neg (by omega)]
    have hd : 0 < z.den := z.den_pos
    have hn : 0 < z.num := by
      rw [h1]
      exact Int.ediv_pos_of_pos_of_dvd (by omega) (by omega) (Int.gcd_dvd_right _ _)
    refine ⟨z.num.natAbs, z.den, ?_, ?_, by omega, hd, z.reduced, ?_⟩
    · have : z.num ≤ 1 + (a : Int) := by rw [h1]; exact Int.ediv_le_self _ (by omega)
      omega
    · have : z.den ≤ (1 + (b : Int)).natAbs := by rw [h2]; exact Nat.div_le_self _ _
      omega
    · rw [F_t, show ((z.num.natAbs : Nat) : Int) = z.num by omega]
  obtain ⟨w, h1, h2, h3, h4⟩ := meets_start hp1 hq1 hg
  have ew := p_way_to h1 (by rw [h3]; omega) (by rw [h4]; omega) (by omega)
  have eb := p_by_way h1
  rw [h3, h4] at ew eb
  rw [ez] at e1
  simp (maxSteps := 10000000) (implicitDefEqProofs := false) (disch := omega) [e1, gl0, gl1, gl2, gl3, gl5, gl6, gl4, gl7, b_ret, o_some, map_some, obind_some, k_add, k_sub, k_mul, k_ixl, k_ixt, ix_0, ix_1, ix_2, ix_3, ix_4, ix_5, ix_6, ix_7, ix_8, ix_9, ix_10, ix_11, ix_12, st_0, st_1, st_2, st_3, st_4, st_5, st_6, st_7, st_8, st_9, st_10, st_11, st_12, rd_0, rd_b, rd_l, rd_s, own_0, own_p, own_s, own_n, e_c, e_g, e_v, e_bin, neg_i, e_neg, e_cmp, e_chain, e_nt, e_and, e_or, e_tr, e_ite, e_tup, e_lst, e_ix, e_sl, e_rev, e_call, e_bi, e_isi, e_draw, e_comp, turn_cons, turn_nil, es_nil, es_cons, eS_nil, eS_cons, eC_nil, eC_cons, eA_nil, eA_cons, arg_st, bl_ret, x_nil, then_nx, then_rt, then_ct, then_bk, x_cns, x_bx, x_asgn, x_par, eR_nil, eR_cons, par_nil, par_cons, x_ixs, x_ap, x_ifs, x_rt, x_fr, loop_nx, loop_ct, loop_bk, loop_rt, for_nil, for_cons, bindA, List.replicate, List.cons_append, List.nil_append, a_nm, a_tt, a_tl, as_n, as_c, List.set_cons_zero, List.set_cons_succ, List.length_cons, List.length_nil, setS, boxS, cond_true, cond_false, Bool.and_true, Bool.and_false, Bool.true_and, Bool.false_and, if_true, lk_nil, lk_v, lk_c, lk_g, lk_bin, lk_neg, lk_cmp, lk_chain, lk_nt, lk_and2, lk_or2, lk_tr, lk_ite, lk_tup, lk_lst, lk_ix, lk_sl, lk_rev, lk_call, lk_bi, lk_isi, lk_comp, lk_comp2, lk_draw, ul_nil, ul_v, ul_c, ul_g, ul_bin, ul_neg, ul_cmp, ul_chain, ul_nt, ul_and2, ul_or2, ul_tr, ul_ite, ul_tup, ul_lst, ul_ix, ul_sl, ul_rev, ul_call, ul_bi, ul_isi, ul_comp, ul_comp2, ul_draw, isV, tgS, tgSs, wipeE, rt_v, rt_c, rt_g, rt_bin, rt_neg, rt_cmp, rt_chain, rt_nt, rt_and2, rt_or2, rt_tr, rt_ite, rt_tup, rt_lst, rt_ix, rt_sl, rt_rev, rt_call, rt_bi, rt_isi, rt_comp, rt_comp2, rt_draw, b_lenl, b_lent, b_lens, b_abs, b_sum, b_max, b_min, b_max2, b_min2, b_tupl, b_tupt, b_lstl, b_lstt, b_inti, b_intb, b_all, b_any, b_gcd, is_nil, is_cons, bs_nil, bs_cons, s_seql, s_seqt, s_seqs, s_r1, s_r2, s_zip, s_zipt, s_enum, s_enumt, s_rev, s_revt, s_rr, z_cons, z_nil, z_nil2, n_cons, n_nil, sl_l, sl_t, one_0, one_1, cut_from, cut_to, rv_l, tr_n, tr_b, tr_i, tr_l, tr_t, x_rtN, x_brk, x_cnt, x_pas, x_frz, x_drp, List.getElem?_cons_zero, List.getElem?_cons_succ, arg_c, arg_g, arg_bin, arg_neg, arg_cmp, arg_chain, arg_nt, arg_and2, arg_or2, arg_tr, arg_ite, arg_tup, arg_lst, arg_ix, arg_sl, arg_rev, arg_call, arg_bi, arg_isi, arg_comp, arg_draw, bind_drw, blT_drw, then_drw, loop_drw, all_drw, all_ret, c_lt, c_le, c_gt, c_ge, c_eq, c_ne, c_isN, c_notN, isNon, cond_dec, cond_not, cond_and, cond_or, dr10, dr01, ex_ite, wt_nx, wt_rt, wt_ct, wt_bk, wt_drw, q_eq, F_inj, k_addl, k_addt, k_ap, rng2, line, rangeL, List.sum_cons, List.sum_nil, tyD, allTy, run]
  rw [wp_cons]
  simp (maxSteps := 10000000) (implicitDefEqProofs := false) (disch := omega) [b7, ew, eb, gl0, gl1, gl2, gl3, gl5, gl6, gl4, gl7, b_ret, o_some, map_some, obind_some, k_add, k_sub, k_mul, k_ixl, k_ixt, ix_0, ix_1, ix_2, ix_3, ix_4, ix_5, ix_6, ix_7, ix_8, ix_9, ix_10, ix_11, ix_12, st_0, st_1, st_2, st_3, st_4, st_5, st_6, st_7, st_8, st_9, st_10, st_11, st_12, rd_0, rd_b, rd_l, rd_s, own_0, own_p, own_s, own_n, e_c, e_g, e_v, e_bin, neg_i, e_neg, e_cmp, e_chain, e_nt, e_and, e_or, e_tr, e_ite, e_tup, e_lst, e_ix, e_sl, e_rev, e_call, e_bi, e_isi, e_draw, e_comp, turn_cons, turn_nil, es_nil, es_cons, eS_nil, eS_cons, eC_nil, eC_cons, eA_nil, eA_cons, arg_st, bl_ret, x_nil, then_nx, then_rt, then_ct, then_bk, x_cns, x_bx, x_asgn, x_par, eR_nil, eR_cons, par_nil, par_cons, x_ixs, x_ap, x_ifs, x_rt, x_fr, loop_nx, loop_ct, loop_bk, loop_rt, for_nil, for_cons, bindA, List.replicate, List.cons_append, List.nil_append, a_nm, a_tt, a_tl, as_n, as_c, List.set_cons_zero, List.set_cons_succ, List.length_cons, List.length_nil, setS, boxS, cond_true, cond_false, Bool.and_true, Bool.and_false, Bool.true_and, Bool.false_and, if_true, lk_nil, lk_v, lk_c, lk_g, lk_bin, lk_neg, lk_cmp, lk_chain, lk_nt, lk_and2, lk_or2, lk_tr, lk_ite, lk_tup, lk_lst, lk_ix, lk_sl, lk_rev, lk_call, lk_bi, lk_isi, lk_comp, lk_comp2, lk_draw, ul_nil, ul_v, ul_c, ul_g, ul_bin, ul_neg, ul_cmp, ul_chain, ul_nt, ul_and2, ul_or2, ul_tr, ul_ite, ul_tup, ul_lst, ul_ix, ul_sl, ul_rev, ul_call, ul_bi, ul_isi, ul_comp, ul_comp2, ul_draw, isV, tgS, tgSs, wipeE, rt_v, rt_c, rt_g, rt_bin, rt_neg, rt_cmp, rt_chain, rt_nt, rt_and2, rt_or2, rt_tr, rt_ite, rt_tup, rt_lst, rt_ix, rt_sl, rt_rev, rt_call, rt_bi, rt_isi, rt_comp, rt_comp2, rt_draw, b_lenl, b_lent, b_lens, b_abs, b_sum, b_max, b_min, b_max2, b_min2, b_tupl, b_tupt, b_lstl, b_lstt, b_inti, b_intb, b_all, b_any, b_gcd, is_nil, is_cons, bs_nil, bs_cons, s_seql, s_seqt, s_seqs, s_r1, s_r2, s_zip, s_zipt, s_enum, s_enumt, s_rev, s_revt, s_rr, z_cons, z_nil, z_nil2, n_cons, n_nil, sl_l, sl_t, one_0, one_1, cut_from, cut_to, rv_l, tr_n, tr_b, tr_i, tr_l, tr_t, x_rtN, x_brk, x_cnt, x_pas, x_frz, x_drp, List.getElem?_cons_zero, List.getElem?_cons_succ, arg_c, arg_g, arg_bin, arg_neg, arg_cmp, arg_chain, arg_nt, arg_and2, arg_or2, arg_tr, arg_ite, arg_tup, arg_lst, arg_ix, arg_sl, arg_rev, arg_call, arg_bi, arg_isi, arg_comp, arg_draw, bind_drw, blT_drw, then_drw, loop_drw, all_drw, all_ret, c_lt, c_le, c_gt, c_ge, c_eq, c_ne, c_isN, c_notN, isNon, cond_dec, cond_not, cond_and, cond_or, dr10, dr01, ex_ite, wt_nx, wt_rt, wt_ct, wt_bk, wt_drw, q_eq, F_inj, k_addl, k_addt, k_ap, rng2, line, rangeL, List.sum_cons, List.sum_nil, tyD, allTy, run]
  exact t8 hp hq
theorem loop4 {s2 s3 s4 s5 s6 s7 s8 s9 s15 s16 s17 : Slot} {W : List Nat} : ∀ (w : List Nat) (s : SB) (v : Slot), Lr w → ∃ v', forL (turnF g_law (.nm 14) [(.ifs (.cmp .eq (.v 14) (.c (.str [108]))) [(.box 12 false (.v 13))] [(.box 11 false (.v 13))]), (.box 13 false (.tup [(.bin .add (.ix (.v 11) (.c (.int 0))) (.ix (.v 12) (.c (.int 0)))), (.bin .add (.ix (.v 11) (.c (.int 1))) (.ix (.v 12) (.c (.int 1))))]))]) (lrs w) [.scr, .st, s2, s3, s4, s5, s6, s7, s8, s9, .pl (.str W), .pl (.tup [.int s.a, .int s.b]), .pl (.tup [.int s.c, .int s.d]), .pl (.tup [.int s.m0, .int s.m1]), v, s15, s16, s17] = .ret (.nx, [.scr, .st, s2, s3, s4, s5, s6, s7, s8, s9, .pl (.str W), .pl (.tup [.int (s.go w).a, .int (s.go w).b]), .pl (.tup [.int (s.go w).c, .int (s.go w).d]), .pl (.tup [.int (s.go w).m0, .int (s.go w).m1]), v', s15, s16, s17])
  | [], s, v, _ => ⟨v, rfl⟩
  | k :: w, s, v, h => by
    obtain ⟨v', e⟩ := loop4 (s2 := s2) (s3 := s3) (s4 := s4) (s5 := s5) (s6 := s6) (s7 := s7) (s8 := s8) (s9 := s9) (s15 := s15) (s16 := s16) (s17 := s17) (W := W) w (s.step k) (.pl (.str [k])) fun j hj => h j (List.mem_cons_of_mem _ hj)
    refine ⟨v', ?_⟩
    show forL _ (.str [k] :: lrs w) _ = _
    have t : turnF g_law (.nm 14) [(.ifs (.cmp .eq (.v 14) (.c (.str [108]))) [(.box 12 false (.v 13))] [(.box 11 false (.v 13))]), (.box 13 false (.tup [(.bin .add (.ix (.v 11) (.c (.int 0))) (.ix (.v 12) (.c (.int 0)))), (.bin .add (.ix (.v 11) (.c (.int 1))) (.ix (.v 12) (.c (.int 1))))]))] (.str [k]) [.scr, .st, s2, s3, s4, s5, s6, s7, s8, s9, .pl (.str W), .pl (.tup [.int s.a, .int s.b]), .pl (.tup [.int s.c, .int s.d]), .pl (.tup [.int s.m0, .int s.m1]), v, s15, s16, s17] = .ret (.nx, [.scr, .st, s2, s3, s4, s5, s6, s7, s8, s9, .pl (.str W), .pl (.tup [.int (s.step k).a, .int (s.step k).b]), .pl (.tup [.int (s.step k).c, .int (s.step k).d]), .pl (.tup [.int (s.step k).m0, .int (s.step k).m1]), (.pl (.str [k])), s15, s16, s17]) := by
      rcases h k List.mem_cons_self with rfl | rfl
      · simp (maxSteps := 10000000) (implicitDefEqProofs := false) (disch := omega) [turnF, SB.step, SB.left, SB.m0, SB.m1, gl0, gl1, gl2, gl3, gl5, gl6, gl4, gl7, b_ret, o_some, map_some, obind_some, k_add, k_sub, k_mul, k_ixl, k_ixt, ix_0, ix_1, ix_2, ix_3, ix_4, ix_5, ix_6, ix_7, ix_8, ix_9, ix_10, ix_11, ix_12, st_0, st_1, st_2, st_3, st_4, st_5, st_6, st_7, st_8, st_9, st_10, st_11, st_12, rd_0, rd_b, rd_l, rd_s, own_0, own_p, own_s, own_n, e_c, e_g, e_v, e_bin, neg_i, e_neg, e_cmp, e_chain, e_nt, e_and, e_or, e_tr, e_ite, e_tup, e_lst, e_ix, e_sl, e_rev, e_call, e_bi, e_isi, e_draw, e_comp, turn_cons, turn_nil, es_nil, es_cons, eS_nil, eS_cons, eC_nil, eC_cons, eA_nil, eA_cons, arg_st, bl_ret, x_nil, then_nx, then_rt, then_ct, then_bk, x_cns, x_bx, x_asgn, x_par, eR_nil, eR_cons, par_nil, par_cons, x_ixs, x_ap, x_ifs, x_rt, x_fr, loop_nx, loop_ct, loop_bk, loop_rt, for_nil, for_cons, bindA, List.replicate, List.cons_append, List.nil_append, a_nm, a_tt, a_tl, as_n, as_c, List.set_cons_zero, List.set_cons_succ, List.length_cons, List.length_nil, setS, boxS, cond_true, cond_false, Bool.and_true, Bool.and_false, Bool.true_and, Bool.false_and, if_true, lk_nil, lk_v, lk_c, lk_g, lk_bin, lk_neg, lk_cmp, lk_chain, lk_nt, lk_and2, lk_or2, lk_tr, lk_ite, lk_tup, lk_lst, lk_ix, lk_sl, lk_rev, lk_call, lk_bi, lk_isi, lk_comp, lk_comp2, lk_draw, ul_nil, ul_v, ul_c, ul_g, ul_bin, ul_neg, ul_cmp, ul_chain, ul_nt, ul_and2, ul_or2, ul_tr, ul_ite, ul_tup, ul_lst, ul_ix, ul_sl, ul_rev, ul_call, ul_bi, ul_isi, ul_comp, ul_comp2, ul_draw, isV, tgS, tgSs, wipeE, rt_v, rt_c, rt_g, rt_bin, rt_neg, rt_cmp, rt_chain, rt_nt, rt_and2, rt_or2, rt_tr, rt_ite, rt_tup, rt_lst, rt_ix, rt_sl, rt_rev, rt_call, rt_bi, rt_isi, rt_comp, rt_comp2, rt_draw, b_lenl, b_lent, b_lens, b_abs, b_sum, b_max, b_min, b_max2, b_min2, b_tupl, b_tupt, b_lstl, b_lstt, b_inti, b_intb, b_all, b_any, b_gcd, is_nil, is_cons, bs_nil, bs_cons, s_seql, s_seqt, s_seqs, s_r1, s_r2, s_zip, s_zipt, s_enum, s_enumt, s_rev, s_revt, s_rr, z_cons, z_nil, z_nil2, n_cons, n_nil, sl_l, sl_t, one_0, one_1, cut_from, cut_to, rv_l, tr_n, tr_b, tr_i, tr_l, tr_t, x_rtN, x_brk, x_cnt, x_pas, x_frz, x_drp, List.getElem?_cons_zero, List.getElem?_cons_succ, arg_c, arg_g, arg_bin, arg_neg, arg_cmp, arg_chain, arg_nt, arg_and2, arg_or2, arg_tr, arg_ite, arg_tup, arg_lst, arg_ix, arg_sl, arg_rev, arg_call, arg_bi, arg_isi, arg_comp, arg_draw, bind_drw, blT_drw, then_drw, loop_drw, all_drw, all_ret, c_lt, c_le, c_gt, c_ge, c_eq, c_ne, c_isN, c_notN, isNon, cond_dec, cond_not, cond_and, cond_or, dr10, dr01, ex_ite, wt_nx, wt_rt, wt_ct, wt_bk, wt_drw, q_eq, F_inj, k_addl, k_addt, k_ap, rng2, line, rangeL, List.sum_cons, List.sum_nil, tyD, allTy, run]
      · simp (maxSteps := 10000000) (implicitDefEqProofs := false) (disch := omega) [turnF, SB.step, SB.right, SB.m0, SB.m1, gl0, gl1, gl2, gl3, gl5, gl6, gl4, gl7, b_ret, o_some, map_some, obind_some, k_add, k_sub, k_mul, k_ixl, k_ixt, ix_0, ix_1, ix_2, ix_3, ix_4, ix_5, ix_6, ix_7, ix_8, ix_9, ix_10, ix_11, ix_12, st_0, st_1, st_2, st_3, st_4, st_5, st_6, st_7, st_8, st_9, st_10, st_11, st_12, rd_0, rd_b, rd_l, rd_s, own_0, own_p, own_s, own_n, e_c, e_g, e_v, e_bin, neg_i, e_neg, e_cmp, e_chain, e_nt, e_and, e_or, e_tr, e_ite, e_tup, e_lst, e_ix, e_sl, e_rev, e_call, e_bi, e_isi, e_draw, e_comp, turn_cons, turn_nil, es_nil, es_cons, eS_nil, eS_cons, eC_nil, eC_cons, eA_nil, eA_cons, arg_st, bl_ret, x_nil, then_nx, then_rt, then_ct, then_bk, x_cns, x_bx, x_asgn, x_par, eR_nil, eR_cons, par_nil, par_cons, x_ixs, x_ap, x_ifs, x_rt, x_fr, loop_nx, loop_ct, loop_bk, loop_rt, for_nil, for_cons, bindA, List.replicate, List.cons_append, List.nil_append, a_nm, a_tt, a_tl, as_n, as_c, List.set_cons_zero, List.set_cons_succ, List.length_cons, List.length_nil, setS, boxS, cond_true, cond_false, Bool.and_true, Bool.and_false, Bool.true_and, Bool.false_and, if_true, lk_nil, lk_v, lk_c, lk_g, lk_bin, lk_neg, lk_cmp, lk_chain, lk_nt, lk_and2, lk_or2, lk_tr, lk_ite, lk_tup, lk_lst, lk_ix, lk_sl, lk_rev, lk_call, lk_bi, lk_isi, lk_comp, lk_comp2, lk_draw, ul_nil, ul_v, ul_c, ul_g, ul_bin, ul_neg, ul_cmp, ul_chain, ul_nt, ul_and2, ul_or2, ul_tr, ul_ite, ul_tup, ul_lst, ul_ix, ul_sl, ul_rev, ul_call, ul_bi, ul_isi, ul_comp, ul_comp2, ul_draw, isV, tgS, tgSs, wipeE, rt_v, rt_c, rt_g, rt_bin, rt_neg, rt_cmp, rt_chain, rt_nt, rt_and2, rt_or2, rt_tr, rt_ite, rt_tup, rt_lst, rt_ix, rt_sl, rt_rev, rt_call, rt_bi, rt_isi, rt_comp, rt_comp2, rt_draw, b_lenl, b_lent, b_lens, b_abs, b_sum, b_max, b_min, b_max2, b_min2, b_tupl, b_tupt, b_lstl, b_lstt, b_inti, b_intb, b_all, b_any, b_gcd, is_nil, is_cons, bs_nil, bs_cons, s_seql, s_seqt, s_seqs, s_r1, s_r2, s_zip, s_zipt, s_enum, s_enumt, s_rev, s_revt, s_rr, z_cons, z_nil, z_nil2, n_cons, n_nil, sl_l, sl_t, one_0, one_1, cut_from, cut_to, rv_l, tr_n, tr_b, tr_i, tr_l, tr_t, x_rtN, x_brk, x_cnt, x_pas, x_frz, x_drp, List.getElem?_cons_zero, List.getElem?_cons_succ, arg_c, arg_g, arg_bin, arg_neg, arg_cmp, arg_chain, arg_nt, arg_and2, arg_or2, arg_tr, arg_ite, arg_tup, arg_lst, arg_ix, arg_sl, arg_rev, arg_call, arg_bi, arg_isi, arg_comp, arg_draw, bind_drw, blT_drw, then_drw, loop_drw, all_drw, all_ret, c_lt, c_le, c_gt, c_ge, c_eq, c_ne, c_isN, c_notN, isNon, cond_dec, cond_not, cond_and, cond_or, dr10, dr01, ex_ite, wt_nx, wt_rt, wt_ct, wt_bk, wt_drw, q_eq, F_inj, k_addl, k_addt, k_ap, rng2, line, rangeL, List.sum_cons, List.sum_nil, tyD, allTy, run]
    rw [forL, t]
    exact e
theorem t2 {s2 s3 s4 s5 s6 s7 s8 s9 s11 s12 s13 s14 s15 s16 s17 : Slot} {w : List Nat} (h : Lr w) (hl : w.length ≤ 12) :
    Wp g_law [b2, b3, b4, b5, b6, b7, b8, b9, b10] [.scr, .st, s2, s3, s4, s5, s6, s7, s8, s9, .pl (.str w), s11, s12, s13, s14, s15, s16, s17] OK := by
  rw [wp_cons]
  simp (maxSteps := 10000000) (implicitDefEqProofs := false) (disch := omega) [b2, gl0, gl1, gl2, gl3, gl5, gl6, gl4, gl7, b_ret, o_some, map_some, obind_some, k_add, k_sub, k_mul, k_ixl, k_ixt, ix_0, ix_1, ix_2, ix_3, ix_4, ix_5, ix_6, ix_7, ix_8, ix_9, ix_10, ix_11, ix_12, st_0, st_1, st_2, st_3, st_4, st_5, st_6, st_7, st_8, st_9, st_10, st_11, st_12, rd_0, rd_b, rd_l, rd_s, own_0, own_p, own_s, own_n, e_c, e_g, e_v, e_bin, neg_i, e_neg, e_cmp, e_chain, e_nt, e_and, e_or, e_tr, e_ite, e_tup, e_lst, e_ix, e_sl, e_rev, e_call, e_bi, e_isi, e_draw, e_comp, turn_cons, turn_nil, es_nil, es_cons, eS_nil, eS_cons, eC_nil, eC_cons, eA_nil, eA_cons, arg_st, bl_ret, x_nil, then_nx, then_rt, then_ct, then_bk, x_cns, x_bx, x_asgn, x_par, eR_nil, eR_cons, par_nil, par_cons, x_ixs, x_ap, x_ifs, x_rt, x_fr, loop_nx, loop_ct, loop_bk, loop_rt, for_nil, for_cons, bindA, List.replicate, List.cons_append, List.nil_append, a_nm, a_tt, a_tl, as_n, as_c, List.set_cons_zero, List.set_cons_succ, List.length_cons, List.length_nil, setS, boxS, cond_true, cond_false, Bool.and_true, Bool.and_false, Bool.true_and, Bool.false_and, if_true, lk_nil, lk_v, lk_c, lk_g, lk_bin, lk_neg, lk_cmp, lk_chain, lk_nt, lk_and2, lk_or2, lk_tr, lk_ite, lk_tup, lk_lst, lk_ix, lk_sl, lk_rev, lk_call, lk_bi, lk_isi, lk_comp, lk_comp2, lk_draw, ul_nil, ul_v, ul_c, ul_g, ul_bin, ul_neg, ul_cmp, ul_chain, ul_nt, ul_and2, ul_or2, ul_tr, ul_ite, ul_tup, ul_lst, ul_ix, ul_sl, ul_rev, ul_call, ul_bi, ul_isi, ul_comp, ul_comp2, ul_draw, isV, tgS, tgSs, wipeE, rt_v, rt_c, rt_g, rt_bin, rt_neg, rt_cmp, rt_chain, rt_nt, rt_and2, rt_or2, rt_tr, rt_ite, rt_tup, rt_lst, rt_ix, rt_sl, rt_rev, rt_call, rt_bi, rt_isi, rt_comp, rt_comp2, rt_draw, b_lenl, b_lent, b_lens, b_abs, b_sum, b_max, b_min, b_max2, b_min2, b_tupl, b_tupt, b_lstl, b_lstt, b_inti, b_intb, b_all, b_any, b_gcd, is_nil, is_cons, bs_nil, bs_cons, s_seql, s_seqt, s_seqs, s_r1, s_r2, s_zip, s_zipt, s_enum, s_enumt, s_rev, s_revt, s_rr, z_cons, z_nil, z_nil2, n_cons, n_nil, sl_l, sl_t, one_0, one_1, cut_from, cut_to, rv_l, tr_n, tr_b, tr_i, tr_l, tr_t, x_rtN, x_brk, x_cnt, x_pas, x_frz, x_drp, List.getElem?_cons_zero, List.getElem?_cons_succ, arg_c, arg_g, arg_bin, arg_neg, arg_cmp, arg_chain, arg_nt, arg_and2, arg_or2, arg_tr, arg_ite, arg_tup, arg_lst, arg_ix, arg_sl, arg_rev, arg_call, arg_bi, arg_isi, arg_comp, arg_draw, bind_drw, blT_drw, then_drw, loop_drw, all_drw, all_ret, c_lt, c_le, c_gt, c_ge, c_eq, c_ne, c_isN, c_notN, isNon, cond_dec, cond_not, cond_and, cond_or, dr10, dr01, ex_ite, wt_nx, wt_rt, wt_ct, wt_bk, wt_drw, q_eq, F_inj, k_addl, k_addt, k_ap, rng2, line, rangeL, List.sum_cons, List.sum_nil, tyD, allTy, run]
  rw [wp_cons]
  simp (maxSteps := 10000000) (implicitDefEqProofs := false) (disch := omega) [b3, gl0, gl1, gl2, gl3, gl5, gl6, gl4, gl7, b_ret, o_some, map_some, obind_some, k_add, k_sub, k_mul, k_ixl, k_ixt, ix_0, ix_1, ix_2, ix_3, ix_4, ix_5, ix_6, ix_7, ix_8, ix_9, ix_10, ix_11, ix_12, st_0, st_1, st_2, st_3, st_4, st_5, st_6, st_7, st_8, st_9, st_10, st_11, st_12, rd_0, rd_b, rd_l, rd_s, own_0, own_p, own_s, own_n, e_c, e_g, e_v, e_bin, neg_i, e_neg, e_cmp, e_chain, e_nt, e_and, e_or, e_tr, e_ite, e_tup, e_lst, e_ix, e_sl, e_rev, e_call, e_bi, e_isi, e_draw, e_comp, turn_cons, turn_nil, es_nil, es_cons, eS_nil, eS_cons, eC_nil, eC_cons, eA_nil, eA_cons, arg_st, bl_ret, x_nil, then_nx, then_rt, then_ct, then_bk, x_cns, x_bx, x_asgn, x_par, eR_nil, eR_cons, par_nil, par_cons, x_ixs, x_ap, x_ifs, x_rt, x_fr, loop_nx, loop_ct, loop_bk, loop_rt, for_nil, for_cons, bindA, List.replicate, List.cons_append, List.nil_append, a_nm, a_tt, a_tl, as_n, as_c, List.set_cons_zero, List.set_cons_succ, List.length_cons, List.length_nil, setS, boxS, cond_true, cond_false, Bool.and_true, Bool.and_false, Bool.true_and, Bool.false_and, if_true, lk_nil, lk_v, lk_c, lk_g, lk_bin, lk_neg, lk_cmp, lk_chain, lk_nt, lk_and2, lk_or2, lk_tr, lk_ite, lk_tup, lk_lst, lk_ix, lk_sl, lk_rev, lk_call, lk_bi, lk_isi, lk_comp, lk_comp2, lk_draw, ul_nil, ul_v, ul_c, ul_g, ul_bin, ul_neg, ul_cmp, ul_chain, ul_nt, ul_and2, ul_or2, ul_tr, ul_ite, ul_tup, ul_lst, ul_ix, ul_sl, ul_rev, ul_call, ul_bi, ul_isi, ul_comp, ul_comp2, ul_draw, isV, tgS, tgSs, wipeE, rt_v, rt_c, rt_g, rt_bin, rt_neg, rt_cmp, rt_chain, rt_nt, rt_and2, rt_or2, rt_tr, rt_ite, rt_tup, rt_lst, rt_ix, rt_sl, rt_rev, rt_call, rt_bi, rt_isi, rt_comp, rt_comp2, rt_draw, b_lenl, b_lent, b_lens, b_abs, b_sum, b_max, b_min, b_max2, b_min2, b_tupl, b_tupt, b_lstl, b_lstt, b_inti, b_intb, b_all, b_any, b_gcd, is_nil, is_cons, bs_nil, bs_cons, s_seql, s_seqt, s_seqs, s_r1, s_r2, s_zip, s_zipt, s_enum, s_enumt, s_rev, s_revt, s_rr, z_cons, z_nil, z_nil2, n_cons, n_nil, sl_l, sl_t, one_0, one_1, cut_from, cut_to, rv_l, tr_n, tr_b, tr_i, tr_l, tr_t, x_rtN, x_brk, x_cnt, x_pas, x_frz, x_drp, List.getElem?_cons_zero, List.getElem?_cons_succ, arg_c, arg_g, arg_bin, arg_neg, arg_cmp, arg_chain, arg_nt, arg_and2, arg_or2, arg_tr, arg_ite, arg_tup, arg_lst, arg_ix, arg_sl, arg_rev, arg_call, arg_bi, arg_isi, arg_comp, arg_draw, bind_drw, blT_drw, then_drw, loop_drw, all_drw, all_ret, c_lt, c_le, c_gt, c_ge, c_eq, c_ne, c_isN, c_notN, isNon, cond_dec, cond_not, cond_and, cond_or, dr10, dr01, ex_ite, wt_nx, wt_rt, wt_ct, wt_bk, wt_drw, q_eq, F_inj, k_addl, k_addt, k_ap, rng2, line, rangeL, List.sum_cons, List.sum_nil, tyD, allTy, run]
  obtain ⟨v', e⟩ := loop4 (s2 := s2) (s3 := s3) (s4 := s4) (s5 := s5) (s6 := s6) (s7 := s7) (s8 := s8) (s9 := s9) (s15 := s15) (s16 := s16) (s17 := s17) (W := w) w start s14 h
  have e : forL (turnF g_law (.nm 14) [(.ifs (.cmp .eq (.v 14) (.c (.str [108]))) [(.box 12 false (.v 13))] [(.box 11 false (.v 13))]), (.box 13 false (.tup [(.bin .add (.ix (.v 11) (.c (.int 0))) (.ix (.v 12) (.c (.int 0)))), (.bin .add (.ix (.v 11) (.c (.int 1))) (.ix (.v 12) (.c (.int 1))))]))]) (lrs w) [.scr, .st, s2, s3, s4, s5, s6, s7, s8, s9, .pl (.str w), .pl (.tup [.int 0, .int 1]), .pl (.tup [.int 1, .int 0]), .pl (.tup [.int 1, .int 1]), s14, s15, s16, s17] = _ := e
  rw [wp_cons]
  simp (maxSteps := 10000000) (implicitDefEqProofs := false) (disch := omega) [b4, seq_w, e, gl0, gl1, gl2, gl3, gl5, gl6, gl4, gl7, b_ret, o_some, map_some, obind_some, k_add, k_sub, k_mul, k_ixl, k_ixt, ix_0, ix_1, ix_2, ix_3, ix_4, ix_5, ix_6, ix_7, ix_8, ix_9, ix_10, ix_11, ix_12, st_0, st_1, st_2, st_3, st_4, st_5, st_6, st_7, st_8, st_9, st_10, st_11, st_12, rd_0, rd_b, rd_l, rd_s, own_0, own_p, own_s, own_n, e_c, e_g, e_v, e_bin, neg_i, e_neg, e_cmp, e_chain, e_nt, e_and, e_or, e_tr, e_ite, e_tup, e_lst, e_ix, e_sl, e_rev, e_call, e_bi, e_isi, e_draw, e_comp, turn_cons, turn_nil, es_nil, es_cons, eS_nil, eS_cons, eC_nil, eC_cons, eA_nil, eA_cons, arg_st, bl_ret, x_nil, then_nx, then_rt, then_ct, then_bk, x_cns, x_bx, x_asgn, x_par, eR_nil, eR_cons, par_nil, par_cons, x_ixs, x_ap, x_ifs, x_rt, x_fr, loop_nx, loop_ct, loop_bk, loop_rt, bindA, List.replicate, List.cons_append, List.nil_append, a_nm, a_tt, a_tl, as_n, as_c, List.set_cons_zero, List.set_cons_succ, List.length_cons, List.length_nil, setS, boxS, cond_true, cond_false, Bool.and_true, Bool.and_false, Bool.true_and, Bool.false_and, if_true, lk_nil, lk_v, lk_c, lk_g, lk_bin, lk_neg, lk_cmp, lk_chain, lk_nt, lk_and2, lk_or2, lk_tr, lk_ite, lk_tup, lk_lst, lk_ix, lk_sl, lk_rev, lk_call, lk_bi, lk_isi, lk_comp, lk_comp2, lk_draw, ul_nil, ul_v, ul_c, ul_g, ul_bin, ul_neg, ul_cmp, ul_chain, ul_nt, ul_and2, ul_or2, ul_tr, ul_ite, ul_tup, ul_lst, ul_ix, ul_sl, ul_rev, ul_call, ul_bi, ul_isi, ul_comp, ul_comp2, ul_draw, isV, tgS, tgSs, wipeE, rt_v, rt_c, rt_g, rt_bin, rt_neg, rt_cmp, rt_chain, rt_nt, rt_and2, rt_or2, rt_tr, rt_ite, rt_tup, rt_lst, rt_ix, rt_sl, rt_rev, rt_call, rt_bi, rt_isi, rt_comp, rt_comp2, rt_draw, b_lenl, b_lent, b_lens, b_abs, b_sum, b_max, b_min, b_max2, b_min2, b_tupl, b_tupt, b_lstl, b_lstt, b_inti, b_intb, b_all, b_any, b_gcd, is_nil, is_cons, bs_nil, bs_cons, s_seql, s_seqt, s_r1, s_r2, s_zip, s_zipt, s_enum, s_enumt, s_rev, s_revt, s_rr, z_cons, z_nil, z_nil2, n_cons, n_nil, sl_l, sl_t, one_0, one_1, cut_from, cut_to, rv_l, tr_n, tr_b, tr_i, tr_l, tr_t, x_rtN, x_brk, x_cnt, x_pas, x_frz, x_drp, List.getElem?_cons_zero, List.getElem?_cons_succ, arg_c, arg_g, arg_bin, arg_neg, arg_cmp, arg_chain, arg_nt, arg_and2, arg_or2, arg_tr, arg_ite, arg_tup, arg_lst, arg_ix, arg_sl, arg_rev, arg_call, arg_bi, arg_isi, arg_comp, arg_draw, bind_drw, blT_drw, then_drw, loop_drw, all_drw, all_ret, c_lt, c_le, c_gt, c_ge, c_eq, c_ne, c_isN, c_notN, isNon, cond_dec, cond_not, cond_and, cond_or, dr10, dr01, ex_ite, wt_nx, wt_rt, wt_ct, wt_bk, wt_drw, q_eq, F_inj, k_addl, k_addt, k_ap, line, List.sum_cons, List.sum_nil, tyD, allTy, run]
  have hb := go_len w start 1 ok_start (by decide) (by decide)
  have h12 : (2 : Int) ^ w.length ≤ 2 ^ 12 := by
    have := Nat.pow_le_pow_right (show 0 < 2 by omega) hl
    exact_mod_cast this
  have ew := p_way_to h (by omega) (by omega) (by omega)
  have eb := p_by_way h
  have iz : Sz 0 0 (.str w) := ⟨sz_w h⟩
  generalize (start.go w).m0 = p at *
  generalize (start.go w).m1 = q at *
  rw [wp_cons]
  simp (maxSteps := 10000000) (implicitDefEqProofs := false) (disch := omega) [b5, ew, eb, gl0, gl1, gl2, gl3, gl5, gl6, gl4, gl7, b_ret, o_some, map_some, obind_some, k_add, k_sub, k_mul, k_ixl, k_ixt, ix_0, ix_1, ix_2, ix_3, ix_4, ix_5, ix_6, ix_7, ix_8, ix_9, ix_10, ix_11, ix_12, st_0, st_1, st_2, st_3, st_4, st_5, st_6, st_7, st_8, st_9, st_10, st_11, st_12, rd_0, rd_b, rd_l, rd_s, own_0, own_p, own_s, own_n, e_c, e_g, e_v, e_bin, neg_i, e_neg, e_cmp, e_chain, e_nt, e_and, e_or, e_tr, e_ite, e_tup, e_lst, e_ix, e_sl, e_rev, e_call, e_bi, e_isi, e_draw, e_comp, turn_cons, turn_nil, es_nil, es_cons, eS_nil, eS_cons, eC_nil, eC_cons, eA_nil, eA_cons, arg_st, bl_ret, x_nil, then_nx, then_rt, then_ct, then_bk, x_cns, x_bx, x_asgn, x_par, eR_nil, eR_cons, par_nil, par_cons, x_ixs, x_ap, x_ifs, x_rt, x_fr, loop_nx, loop_ct, loop_bk, loop_rt, for_nil, for_cons, bindA, List.replicate, List.cons_append, List.nil_append, a_nm, a_tt, a_tl, as_n, as_c, List.set_cons_zero, List.set_cons_succ, List.length_cons, List.length_nil, setS, boxS, cond_true, cond_false, Bool.and_true, Bool.and_false, Bool.true_and, Bool.false_and, if_true, lk_nil, lk_v, lk_c, lk_g, lk_bin, lk_neg, lk_cmp, lk_chain, lk_nt, lk_and2, lk_or2, lk_tr, lk_ite, lk_tup, lk_lst, lk_ix, lk_sl, lk_rev, lk_call, lk_bi, lk_isi, lk_comp, lk_comp2, lk_draw, ul_nil, ul_v, ul_c, ul_g, ul_bin, ul_neg, ul_cmp, ul_chain, ul_nt, ul_and2, ul_or2, ul_tr, ul_ite, ul_tup, ul_lst, ul_ix, ul_sl, ul_rev, ul_call, ul_bi, ul_isi, ul_comp, ul_comp2, ul_draw, isV, tgS, tgSs, wipeE, rt_v, rt_c, rt_g, rt_bin, rt_neg, rt_cmp, rt_chain, rt_nt, rt_and2, rt_or2, rt_tr, rt_ite, rt_tup, rt_lst, rt_ix, rt_sl, rt_rev, rt_call, rt_bi, rt_isi, rt_comp, rt_comp2, rt_draw, b_lenl, b_lent, b_lens, b_abs, b_sum, b_max, b_min, b_max2, b_min2, b_tupl, b_tupt, b_lstl, b_lstt, b_inti, b_intb, b_all, b_any, b_gcd, is_nil, is_cons, bs_nil, bs_cons, s_seql, s_seqt, s_seqs, s_r1, s_r2, s_zip, s_zipt, s_enum, s_enumt, s_rev, s_revt, s_rr, z_cons, z_nil, z_nil2, n_cons, n_nil, sl_l, sl_t, one_0, one_1, cut_from, cut_to, rv_l, tr_n, tr_b, tr_i, tr_l, tr_t, x_rtN, x_brk, x_cnt, x_pas, x_frz, x_drp, List.getElem?_cons_zero, List.getElem?_cons_succ, arg_c, arg_g, arg_bin, arg_neg, arg_cmp, arg_chain, arg_nt, arg_and2, arg_or2, arg_tr, arg_ite, arg_tup, arg_lst, arg_ix, arg_sl, arg_rev, arg_call, arg_bi, arg_isi, arg_comp, arg_draw, bind_drw, blT_drw, then_drw, loop_drw, all_drw, all_ret, c_lt, c_le, c_gt, c_ge, c_eq, c_ne, c_isN, c_notN, isNon, cond_dec, cond_not, cond_and, cond_or, dr10, dr01, ex_ite, wt_nx, wt_rt, wt_ct, wt_bk, wt_drw, q_eq, F_inj, k_addl, k_addt, k_ap, rng2, line, rangeL, List.sum_cons, List.sum_nil, tyD, allTy, run]
  exact t6
theorem word_all {s2 s3 s4 s5 s6 s7 s8 s9 s10 s11 s12 s13 s14 s15 s16 s17 : Slot} : ∀ (n : Nat) (m : Int), (compL (turnC g_law (.nm 8) [] (.ix (.c (.str [108, 114])) (.draw 1 0 (.c (.int 2)))) [.scr, .st, s2, s3, s4, s5, s6, s7, s8, s9, s10, s11, s12, s13, s14, s15, s16, s17]) (rangeL n m)).all fun r => ∃ w, Lr w ∧ w.length = n ∧ r = lrs w
  | 0, m => ⟨[], (fun _ h => nomatch h), rfl, rfl⟩
  | n + 1, m => by
    have ih := word_all (s2 := s2) (s3 := s3) (s4 := s4) (s5 := s5) (s6 := s6) (s7 := s7) (s8 := s8) (s9 := s9) (s10 := s10) (s11 := s11) (s12 := s12) (s13 := s13) (s14 := s14) (s15 := s15) (s16 := s16) (s17 := s17) n (m + 1)
    have x0 : ixD (.str [108, 114]) (.int 0) = some (.str [108]) := rfl
    have x1 : ixD (.str [108, 114]) (.int 1) = some (.str [114]) := rfl
    rw [rangeL, turn_cons]
    simp (maxSteps := 10000000) (implicitDefEqProofs := false) (disch := omega) [gl0, gl1, gl2, gl3, gl5, gl6, gl4, gl7, b_ret, o_some, map_some, obind_some, k_add, k_sub, k_mul, k_ixl, k_ixt, ix_0, ix_1, ix_2, ix_3, ix_4, ix_5, ix_6, ix_7, ix_8, ix_9, ix_10, ix_11, ix_12, st_0, st_1, st_2, st_3, st_4, st_5, st_6, st_7, st_8, st_9, st_10, st_11, st_12, rd_0, rd_b, rd_l, rd_s, own_0, own_p, own_s, own_n, e_c, e_g, e_v, e_bin, neg_i, e_neg, e_cmp, e_chain, e_nt, e_and, e_or, e_tr, e_ite, e_tup, e_lst, e_ix, e_sl, e_rev, e_call, e_bi, e_isi, e_draw, e_comp, turn_cons, turn_nil, es_nil, es_cons, eS_nil, eS_cons, eC_nil, eC_cons, eA_nil, eA_cons, arg_st, bl_ret, x_nil, then_nx, then_rt, then_ct, then_bk, x_cns, x_bx, x_asgn, x_par, eR_nil, eR_cons, par_nil, par_cons, x_ixs, x_ap, x_ifs, x_rt, x_fr, loop_nx, loop_ct, loop_bk, loop_rt, for_nil, for_cons, bindA, List.replicate, List.cons_append, List.nil_append, a_nm, a_tt, a_tl, as_n, as_c, List.set_cons_zero, List.set_cons_succ, List.length_cons, List.length_nil, setS, boxS, cond_true, cond_false, Bool.and_true, Bool.and_false, Bool.true_and, Bool.false_and, if_true, lk_nil, lk_v, lk_c, lk_g, lk_bin, lk_neg, lk_cmp, lk_chain, lk_nt, lk_and2, lk_or2, lk_tr, lk_ite, lk_tup, lk_lst, lk_ix, lk_sl, lk_rev, lk_call, lk_bi, lk_isi, lk_comp, lk_comp2, lk_draw, ul_nil, ul_v, ul_c, ul_g, ul_bin, ul_neg, ul_cmp, ul_chain, ul_nt, ul_and2, ul_or2, ul_tr, ul_ite, ul_tup, ul_lst, ul_ix, ul_sl, ul_rev, ul_call, ul_bi, ul_isi, ul_comp, ul_comp2, ul_draw, isV, tgS, tgSs, wipeE, rt_v, rt_c, rt_g, rt_bin, rt_neg, rt_cmp, rt_chain, rt_nt, rt_and2, rt_or2, rt_tr, rt_ite, rt_tup, rt_lst, rt_ix, rt_sl, rt_rev, rt_call, rt_bi, rt_isi, rt_comp, rt_comp2, rt_draw, b_lenl, b_lent, b_lens, b_abs, b_sum, b_max, b_min, b_max2, b_min2, b_tupl, b_tupt, b_lstl, b_lstt, b_inti, b_intb, b_all, b_any, b_gcd, is_nil, is_cons, bs_nil, bs_cons, s_seql, s_seqt, s_seqs, s_r1, s_r2, s_zip, s_zipt, s_enum, s_enumt, s_rev, s_revt, s_rr, z_cons, z_nil, z_nil2, n_cons, n_nil, sl_l, sl_t, one_0, one_1, cut_from, cut_to, rv_l, tr_n, tr_b, tr_i, tr_l, tr_t, x_rtN, x_brk, x_cnt, x_pas, x_frz, x_drp, List.getElem?_cons_zero, List.getElem?_cons_succ, arg_c, arg_g, arg_bin, arg_neg, arg_cmp, arg_chain, arg_nt, arg_and2, arg_or2, arg_tr, arg_ite, arg_tup, arg_lst, arg_ix, arg_sl, arg_rev, arg_call, arg_bi, arg_isi, arg_comp, arg_draw, bind_drw, blT_drw, then_drw, loop_drw, all_drw, all_ret, c_lt, c_le, c_gt, c_ge, c_eq, c_ne, c_isN, c_notN, isNon, cond_dec, cond_not, cond_and, cond_or, dr10, dr01, ex_ite, wt_nx, wt_rt, wt_ct, wt_bk, wt_drw, q_eq, F_inj, k_addl, k_addt, k_ap, rng2, line, rangeL, List.sum_cons, List.sum_nil, tyD, allTy, run]
    intro a ha
    rcases (by omega : a = 0 ∨ a = 1) with rfl | rfl
    · simp (maxSteps := 10000000) (implicitDefEqProofs := false) (disch := omega) [x0, gl0, gl1, gl2, gl3, gl5, gl6, gl4, gl7, b_ret, o_some, map_some, obind_some, k_add, k_sub, k_mul, k_ixl, k_ixt, ix_0, ix_1, ix_2, ix_3, ix_4, ix_5, ix_6, ix_7, ix_8, ix_9, ix_10, ix_11, ix_12, st_0, st_1, st_2, st_3, st_4, st_5, st_6, st_7, st_8, st_9, st_10, st_11, st_12, rd_0, rd_b, rd_l, rd_s, own_0, own_p, own_s, own_n, e_c, e_g, e_v, e_bin, neg_i, e_neg, e_cmp, e_chain, e_nt, e_and, e_or, e_tr, e_ite, e_tup, e_lst, e_ix, e_sl, e_rev, e_call, e_bi, e_isi, e_draw, e_comp, turn_cons, turn_nil, es_nil, es_cons, eS_nil, eS_cons, eC_nil, eC_cons, eA_nil, eA_cons, arg_st, bl_ret, x_nil, then_nx, then_rt, then_ct, then_bk, x_cns, x_bx, x_asgn, x_par, eR_nil, eR_cons, par_nil, par_cons, x_ixs, x_ap, x_ifs, x_rt, x_fr, loop_nx, loop_ct, loop_bk, loop_rt, for_nil, for_cons, bindA, List.replicate, List.cons_append, List.nil_append, a_nm, a_tt, a_tl, as_n, as_c, List.set_cons_zero, List.set_cons_succ, List.length_cons, List.length_nil, setS, boxS, cond_true, cond_false, Bool.and_true, Bool.and_false, Bool.true_and, Bool.false_and, if_true, lk_nil, lk_v, lk_c, lk_g, lk_bin, lk_neg, lk_cmp, lk_chain, lk_nt, lk_and2, lk_or2, lk_tr, lk_ite, lk_tup, lk_lst, lk_ix, lk_sl, lk_rev, lk_call, lk_bi, lk_isi, lk_comp, lk_comp2, lk_draw, ul_nil, ul_v, ul_c, ul_g, ul_bin, ul_neg, ul_cmp, ul_chain, ul_nt, ul_and2, ul_or2, ul_tr, ul_ite, ul_tup, ul_lst, ul_ix, ul_sl, ul_rev, ul_call, ul_bi, ul_isi, ul_comp, ul_comp2, ul_draw, isV, tgS, tgSs, wipeE, rt_v, rt_c, rt_g, rt_bin, rt_neg, rt_cmp, rt_chain, rt_nt, rt_and2, rt_or2, rt_tr, rt_ite, rt_tup, rt_lst, rt_ix, rt_sl, rt_rev, rt_call, rt_bi, rt_isi, rt_comp, rt_comp2, rt_draw, b_lenl, b_lent, b_lens, b_abs, b_sum, b_max, b_min, b_max2, b_min2, b_tupl, b_tupt, b_lstl, b_lstt, b_inti, b_intb, b_all, b_any, b_gcd, is_nil, is_cons, bs_nil, bs_cons, s_seql, s_seqt, s_seqs, s_r1, s_r2, s_zip, s_zipt, s_enum, s_enumt, s_rev, s_revt, s_rr, z_cons, z_nil, z_nil2, n_cons, n_nil, sl_l, sl_t, one_0, one_1, cut_from, cut_to, rv_l, tr_n, tr_b, tr_i, tr_l, tr_t, x_rtN, x_brk, x_cnt, x_pas, x_frz, x_drp, List.getElem?_cons_zero, List.getElem?_cons_succ, arg_c, arg_g, arg_bin, arg_neg, arg_cmp, arg_chain, arg_nt, arg_and2, arg_or2, arg_tr, arg_ite, arg_tup, arg_lst, arg_ix, arg_sl, arg_rev, arg_call, arg_bi, arg_isi, arg_comp, arg_draw, bind_drw, blT_drw, then_drw, loop_drw, all_drw, all_ret, c_lt, c_le, c_gt, c_ge, c_eq, c_ne, c_isN, c_notN, isNon, cond_dec, cond_not, cond_and, cond_or, dr10, dr01, ex_ite, wt_nx, wt_rt, wt_ct, wt_bk, wt_drw, q_eq, F_inj, k_addl, k_addt, k_ap, rng2, line, rangeL, List.sum_cons, List.sum_nil, tyD, allTy, run]
      refine T.all_bind.mpr (T.all_mono (fun r h => ?_) ih)
      obtain ⟨w, h1, h2, rfl⟩ := h
      exact ⟨108 :: w, fun k hk => by
        rcases List.mem_cons.mp hk with e | e
        · exact .inl e
        · exact h1 k e, by rw [List.length_cons, h2], rfl⟩
    · simp (maxSteps := 10000000) (implicitDefEqProofs := false) (disch := omega) [x1, gl0, gl1, gl2, gl3, gl5, gl6, gl4, gl7, b_ret, o_some, map_some, obind_some, k_add, k_sub, k_mul, k_ixl, k_ixt, ix_0, ix_1, ix_2, ix_3, ix_4, ix_5, ix_6, ix_7, ix_8, ix_9, ix_10, ix_11, ix_12, st_0, st_1, st_2, st_3, st_4, st_5, st_6, st_7, st_8, st_9, st_10, st_11, st_12, rd_0, rd_b, rd_l, rd_s, own_0, own_p, own_s, own_n, e_c, e_g, e_v, e_bin, neg_i, e_neg, e_cmp, e_chain, e_nt, e_and, e_or, e_tr, e_ite, e_tup, e_lst, e_ix, e_sl, e_rev, e_call, e_bi, e_isi, e_draw, e_comp, turn_cons, turn_nil, es_nil, es_cons, eS_nil, eS_cons, eC_nil, eC_cons, eA_nil, eA_cons, arg_st, bl_ret, x_nil, then_nx, then_rt, then_ct, then_bk, x_cns, x_bx, x_asgn, x_par, eR_nil, eR_cons, par_nil, par_cons, x_ixs, x_ap, x_ifs, x_rt, x_fr, loop_nx, loop_ct, loop_bk, loop_rt, for_nil, for_cons, bindA, List.replicate, List.cons_append, List.nil_append, a_nm, a_tt, a_tl, as_n, as_c, List.set_cons_zero, List.set_cons_succ, List.length_cons, List.length_nil, setS, boxS, cond_true, cond_false, Bool.and_true, Bool.and_false, Bool.true_and, Bool.false_and, if_true, lk_nil, lk_v, lk_c, lk_g, lk_bin, lk_neg, lk_cmp, lk_chain, lk_nt, lk_and2, lk_or2, lk_tr, lk_ite, lk_tup, lk_lst, lk_ix, lk_sl, lk_rev, lk_call, lk_bi, lk_isi, lk_comp, lk_comp2, lk_draw, ul_nil, ul_v, ul_c, ul_g, ul_bin, ul_neg, ul_cmp, ul_chain, ul_nt, ul_and2, ul_or2, ul_tr, ul_ite, ul_tup, ul_lst, ul_ix, ul_sl, ul_rev, ul_call, ul_bi, ul_isi, ul_comp, ul_comp2, ul_draw, isV, tgS, tgSs, wipeE, rt_v, rt_c, rt_g, rt_bin, rt_neg, rt_cmp, rt_chain, rt_nt, rt_and2, rt_or2, rt_tr, rt_ite, rt_tup, rt_lst, rt_ix, rt_sl, rt_rev, rt_call, rt_bi, rt_isi, rt_comp, rt_comp2, rt_draw, b_lenl, b_lent, b_lens, b_abs, b_sum, b_max, b_min, b_max2, b_min2, b_tupl, b_tupt, b_lstl, b_lstt, b_inti, b_intb, b_all, b_any, b_gcd, is_nil, is_cons, bs_nil, bs_cons, s_seql, s_seqt, s_seqs, s_r1, s_r2, s_zip, s_zipt, s_enum, s_enumt, s_rev, s_revt, s_rr, z_cons, z_nil, z_nil2, n_cons, n_nil, sl_l, sl_t, one_0, one_1, cut_from, cut_to, rv_l, tr_n, tr_b, tr_i, tr_l, tr_t, x_rtN, x_brk, x_cnt, x_pas, x_frz, x_drp, List.getElem?_cons_zero, List.getElem?_cons_succ, arg_c, arg_g, arg_bin, arg_neg, arg_cmp, arg_chain, arg_nt, arg_and2, arg_or2, arg_tr, arg_ite, arg_tup, arg_lst, arg_ix, arg_sl, arg_rev, arg_call, arg_bi, arg_isi, arg_comp, arg_draw, bind_drw, blT_drw, then_drw, loop_drw, all_drw, all_ret, c_lt, c_le, c_gt, c_ge, c_eq, c_ne, c_isN, c_notN, isNon, cond_dec, cond_not, cond_and, cond_or, dr10, dr01, ex_ite, wt_nx, wt_rt, wt_ct, wt_bk, wt_drw, q_eq, F_inj, k_addl, k_addt, k_ap, rng2, line, rangeL, List.sum_cons, List.sum_nil, tyD, allTy, run]
      refine T.all_bind.mpr (T.all_mono (fun r h => ?_) ih)
      obtain ⟨w, h1, h2, rfl⟩ := h
      exact ⟨114 :: w, fun k hk => by
        rcases List.mem_cons.mp hk with e | e
        · exact .inr e
        · exact h1 k e, by rw [List.length_cons, h2], rfl⟩
theorem t1 {s2 s3 s4 s5 s6 s7 s8 s9 s10 s11 s12 s13 s14 s15 s16 s17 : Slot}  :
    Wp g_law [b1, b2, b3, b4, b5, b6, b7, b8, b9, b10] [.scr, .st, s2, s3, s4, s5, s6, s7, s8, s9, s10, s11, s12, s13, s14, s15, s16, s17] OK := by
  rw [wp_cons]
  simp (maxSteps := 10000000) (implicitDefEqProofs := false) (disch := omega) [b1, bind_assoc, gl0, gl1, gl2, gl3, gl5, gl6, gl4, gl7, b_ret, o_some, map_some, obind_some, k_add, k_sub, k_mul, k_ixl, k_ixt, ix_0, ix_1, ix_2, ix_3, ix_4, ix_5, ix_6, ix_7, ix_8, ix_9, ix_10, ix_11, ix_12, st_0, st_1, st_2, st_3, st_4, st_5, st_6, st_7, st_8, st_9, st_10, st_11, st_12, rd_0, rd_b, rd_l, rd_s, own_0, own_p, own_s, own_n, e_c, e_g, e_v, e_bin, neg_i, e_neg, e_cmp, e_chain, e_nt, e_and, e_or, e_tr, e_ite, e_tup, e_lst, e_ix, e_sl, e_rev, e_call, e_bi, e_isi, e_draw, e_comp, es_nil, es_cons, eS_nil, eS_cons, eC_nil, eC_cons, eA_nil, eA_cons, arg_st, bl_ret, x_nil, then_nx, then_rt, then_ct, then_bk, x_cns, x_bx, x_asgn, x_par, eR_nil, eR_cons, par_nil, par_cons, x_ixs, x_ap, x_ifs, x_rt, x_fr, loop_nx, loop_ct, loop_bk, loop_rt, for_nil, for_cons, bindA, List.replicate, List.cons_append, List.nil_append, a_nm, a_tt, a_tl, as_n, as_c, List.set_cons_zero, List.set_cons_succ, List.length_cons, List.length_nil, setS, boxS, cond_true, cond_false, Bool.and_true, Bool.and_false, Bool.true_and, Bool.false_and, if_true, lk_nil, lk_v, lk_c, lk_g, lk_bin, lk_neg, lk_cmp, lk_chain, lk_nt, lk_and2, lk_or2, lk_tr, lk_ite, lk_tup, lk_lst, lk_ix, lk_sl, lk_rev, lk_call, lk_bi, lk_isi, lk_comp, lk_comp2, lk_draw, ul_nil, ul_v, ul_c, ul_g, ul_bin, ul_neg, ul_cmp, ul_chain, ul_nt, ul_and2, ul_or2, ul_tr, ul_ite, ul_tup, ul_lst, ul_ix, ul_sl, ul_rev, ul_call, ul_bi, ul_isi, ul_comp, ul_comp2, ul_draw, isV, tgS, tgSs, wipeE, rt_v, rt_c, rt_g, rt_bin, rt_neg, rt_cmp, rt_chain, rt_nt, rt_and2, rt_or2, rt_tr, rt_ite, rt_tup, rt_lst, rt_ix, rt_sl, rt_rev, rt_call, rt_bi, rt_isi, rt_comp, rt_comp2, rt_draw, b_lenl, b_lent, b_lens, b_abs, b_sum, b_max, b_min, b_max2, b_min2, b_tupl, b_tupt, b_lstl, b_lstt, b_inti, b_intb, b_all, b_any, b_gcd, is_nil, is_cons, bs_nil, bs_cons, s_seql, s_seqt, s_seqs, s_r1, s_r2, s_zip, s_zipt, s_enum, s_enumt, s_rev, s_revt, s_rr, z_cons, z_nil, z_nil2, n_cons, n_nil, sl_l, sl_t, one_0, one_1, cut_from, cut_to, rv_l, tr_n, tr_b, tr_i, tr_l, tr_t, x_rtN, x_brk, x_cnt, x_pas, x_frz, x_drp, List.getElem?_cons_zero, List.getElem?_cons_succ, arg_c, arg_g, arg_bin, arg_neg, arg_cmp, arg_chain, arg_nt, arg_and2, arg_or2, arg_tr, arg_ite, arg_tup, arg_lst, arg_ix, arg_sl, arg_rev, arg_call, arg_bi, arg_isi, arg_comp, arg_draw, bind_drw, blT_drw, then_drw, loop_drw, all_drw, all_ret, c_lt, c_le, c_gt, c_ge, c_eq, c_ne, c_isN, c_notN, isNon, cond_dec, cond_not, cond_and, cond_or, dr10, dr01, ex_ite, wt_nx, wt_rt, wt_ct, wt_bk, wt_drw, q_eq, F_inj, k_addl, k_addt, k_ap, line, List.sum_cons, List.sum_nil, tyD, allTy, run]
  intro n hn
  have hr : rng2 0 (n : Int) = some (rangeL n 0) := rng_ok (by omega)
  simp (maxSteps := 10000000) (implicitDefEqProofs := false) (disch := omega) [hr, bind_assoc, gl0, gl1, gl2, gl3, gl5, gl6, gl4, gl7, b_ret, o_some, map_some, obind_some, k_add, k_sub, k_mul, k_ixl, k_ixt, ix_0, ix_1, ix_2, ix_3, ix_4, ix_5, ix_6, ix_7, ix_8, ix_9, ix_10, ix_11, ix_12, st_0, st_1, st_2, st_3, st_4, st_5, st_6, st_7, st_8, st_9, st_10, st_11, st_12, rd_0, rd_b, rd_l, rd_s, own_0, own_p, own_s, own_n, e_c, e_g, e_v, e_bin, neg_i, e_neg, e_cmp, e_chain, e_nt, e_and, e_or, e_tr, e_ite, e_tup, e_lst, e_ix, e_sl, e_rev, e_call, e_bi, e_isi, e_draw, e_comp, es_nil, es_cons, eS_nil, eS_cons, eC_nil, eC_cons, eA_nil, eA_cons, arg_st, bl_ret, x_nil, then_nx, then_rt, then_ct, then_bk, x_cns, x_bx, x_asgn, x_par, eR_nil, eR_cons, par_nil, par_cons, x_ixs, x_ap, x_ifs, x_rt, x_fr, loop_nx, loop_ct, loop_bk, loop_rt, for_nil, for_cons, bindA, List.replicate, List.cons_append, List.nil_append, a_nm, a_tt, a_tl, as_n, as_c, List.set_cons_zero, List.set_cons_succ, List.length_cons, List.length_nil, setS, boxS, cond_true, cond_false, Bool.and_true, Bool.and_false, Bool.true_and, Bool.false_and, if_true, lk_nil, lk_v, lk_c, lk_g, lk_bin, lk_neg, lk_cmp, lk_chain, lk_nt, lk_and2, lk_or2, lk_tr, lk_ite, lk_tup, lk_lst, lk_ix, lk_sl, lk_rev, lk_call, lk_bi, lk_isi, lk_comp, lk_comp2, lk_draw, ul_nil, ul_v, ul_c, ul_g, ul_bin, ul_neg, ul_cmp, ul_chain, ul_nt, ul_and2, ul_or2, ul_tr, ul_ite, ul_tup, ul_lst, ul_ix, ul_sl, ul_rev, ul_call, ul_bi, ul_isi, ul_comp, ul_comp2, ul_draw, isV, tgS, tgSs, wipeE, rt_v, rt_c, rt_g, rt_bin, rt_neg, rt_cmp, rt_chain, rt_nt, rt_and2, rt_or2, rt_tr, rt_ite, rt_tup, rt_lst, rt_ix, rt_sl, rt_rev, rt_call, rt_bi, rt_isi, rt_comp, rt_comp2, rt_draw, b_lenl, b_lent, b_lens, b_abs, b_sum, b_max, b_min, b_max2, b_min2, b_tupl, b_tupt, b_lstl, b_lstt, b_inti, b_intb, b_all, b_any, b_gcd, is_nil, is_cons, bs_nil, bs_cons, s_seql, s_seqt, s_seqs, s_r1, s_r2, s_zip, s_zipt, s_enum, s_enumt, s_rev, s_revt, s_rr, z_cons, z_nil, z_nil2, n_cons, n_nil, sl_l, sl_t, one_0, one_1, cut_from, cut_to, rv_l, tr_n, tr_b, tr_i, tr_l, tr_t, x_rtN, x_brk, x_cnt, x_pas, x_frz, x_drp, List.getElem?_cons_zero, List.getElem?_cons_succ, arg_c, arg_g, arg_bin, arg_neg, arg_cmp, arg_chain, arg_nt, arg_and2, arg_or2, arg_tr, arg_ite, arg_tup, arg_lst, arg_ix, arg_sl, arg_rev, arg_call, arg_bi, arg_isi, arg_comp, arg_draw, bind_drw, blT_drw, then_drw, loop_drw, all_drw, all_ret, c_lt, c_le, c_gt, c_ge, c_eq, c_ne, c_isN, c_notN, isNon, cond_dec, cond_not, cond_and, cond_or, dr10, dr01, ex_ite, wt_nx, wt_rt, wt_ct, wt_bk, wt_drw, q_eq, F_inj, k_addl, k_addt, k_ap, line, List.sum_cons, List.sum_nil, tyD, allTy, run]
  refine wt_all (word_all n 0) ?_
  rintro r ⟨w, h1, h2, rfl⟩
  have hj := b_join (w := w) (by omega)
  simp (maxSteps := 10000000) (implicitDefEqProofs := false) (disch := omega) [hj, gl0, gl1, gl2, gl3, gl5, gl6, gl4, gl7, b_ret, o_some, map_some, obind_some, k_add, k_sub, k_mul, k_ixl, k_ixt, ix_0, ix_1, ix_2, ix_3, ix_4, ix_5, ix_6, ix_7, ix_8, ix_9, ix_10, ix_11, ix_12, st_0, st_1, st_2, st_3, st_4, st_5, st_6, st_7, st_8, st_9, st_10, st_11, st_12, rd_0, rd_b, rd_l, rd_s, own_0, own_p, own_s, own_n, e_c, e_g, e_v, e_bin, neg_i, e_neg, e_cmp, e_chain, e_nt, e_and, e_or, e_tr, e_ite, e_tup, e_lst, e_ix, e_sl, e_rev, e_call, e_bi, e_isi, e_draw, e_comp, turn_cons, turn_nil, es_nil, es_cons, eS_nil, eS_cons, eC_nil, eC_cons, eA_nil, eA_cons, arg_st, bl_ret, x_nil, then_nx, then_rt, then_ct, then_bk, x_cns, x_bx, x_asgn, x_par, eR_nil, eR_cons, par_nil, par_cons, x_ixs, x_ap, x_ifs, x_rt, x_fr, loop_nx, loop_ct, loop_bk, loop_rt, for_nil, for_cons, bindA, List.replicate, List.cons_append, List.nil_append, a_nm, a_tt, a_tl, as_n, as_c, List.set_cons_zero, List.set_cons_succ, List.length_cons, List.length_nil, setS, boxS, cond_true, cond_false, Bool.and_true, Bool.and_false, Bool.true_and, Bool.false_and, if_true, lk_nil, lk_v, lk_c, lk_g, lk_bin, lk_neg, lk_cmp, lk_chain, lk_nt, lk_and2, lk_or2, lk_tr, lk_ite, lk_tup, lk_lst, lk_ix, lk_sl, lk_rev, lk_call, lk_bi, lk_isi, lk_comp, lk_comp2, lk_draw, ul_nil, ul_v, ul_c, ul_g, ul_bin, ul_neg, ul_cmp, ul_chain, ul_nt, ul_and2, ul_or2, ul_tr, ul_ite, ul_tup, ul_lst, ul_ix, ul_sl, ul_rev, ul_call, ul_bi, ul_isi, ul_comp, ul_comp2, ul_draw, isV, tgS, tgSs, wipeE, rt_v, rt_c, rt_g, rt_bin, rt_neg, rt_cmp, rt_chain, rt_nt, rt_and2, rt_or2, rt_tr, rt_ite, rt_tup, rt_lst, rt_ix, rt_sl, rt_rev, rt_call, rt_bi, rt_isi, rt_comp, rt_comp2, rt_draw, b_lenl, b_lent, b_lens, b_abs, b_sum, b_max, b_min, b_max2, b_min2, b_tupl, b_tupt, b_lstl, b_lstt, b_inti, b_intb, b_all, b_any, b_gcd, is_nil, is_cons, bs_nil, bs_cons, s_seql, s_seqt, s_seqs, s_r1, s_r2, s_zip, s_zipt, s_enum, s_enumt, s_rev, s_revt, s_rr, z_cons, z_nil, z_nil2, n_cons, n_nil, sl_l, sl_t, one_0, one_1, cut_from, cut_to, rv_l, tr_n, tr_b, tr_i, tr_l, tr_t, x_rtN, x_brk, x_cnt, x_pas, x_frz, x_drp, List.getElem?_cons_zero, List.getElem?_cons_succ, arg_c, arg_g, arg_bin, arg_neg, arg_cmp, arg_chain, arg_nt, arg_and2, arg_or2, arg_tr, arg_ite, arg_tup, arg_lst, arg_ix, arg_sl, arg_rev, arg_call, arg_bi, arg_isi, arg_comp, arg_draw, bind_drw, blT_drw, then_drw, loop_drw, all_drw, all_ret, c_lt, c_le, c_gt, c_ge, c_eq, c_ne, c_isN, c_notN, isNon, cond_dec, cond_not, cond_and, cond_or, dr10, dr01, ex_ite, wt_nx, wt_rt, wt_ct, wt_bk, wt_drw, q_eq, F_inj, k_addl, k_addt, k_ap, rng2, line, rangeL, List.sum_cons, List.sum_nil, tyD, allTy, run]
  exact t2 h1 (by omega)
theorem law_true : (lawT g_law i_law 16).all IsT := by
  unfold lawT
  rw [i_law_eq]
  refine wp_mk ?_
  show Wp g_law _ [.scr, .st, .no, .no, .no, .no, .no, .no, .no, .no, .no, .no, .no, .no, .no, .no, .no, .no] IsT
  rw [wp_cons]
  simp (maxSteps := 10000000) (implicitDefEqProofs := false) (disch := omega) [e0, gl0, gl1, gl2, gl3, gl5, gl6, gl4, gl7, b_ret, o_some, map_some, obind_some, k_add, k_sub, k_mul, k_ixl, k_ixt, ix_0, ix_1, ix_2, ix_3, ix_4, ix_5, ix_6, ix_7, ix_8, ix_9, ix_10, ix_11, ix_12, st_0, st_1, st_2, st_3, st_4, st_5, st_6, st_7, st_8, st_9, st_10, st_11, st_12, rd_0, rd_b, rd_l, rd_s, own_0, own_p, own_s, own_n, e_c, e_g, e_v, e_bin, neg_i, e_neg, e_cmp, e_chain, e_nt, e_and, e_or, e_tr, e_ite, e_tup, e_lst, e_ix, e_sl, e_rev, e_call, e_bi, e_isi, e_draw, e_comp, turn_cons, turn_nil, es_nil, es_cons, eS_nil, eS_cons, eC_nil, eC_cons, eA_nil, eA_cons, arg_st, bl_ret, x_nil, then_nx, then_rt, then_ct, then_bk, x_cns, x_bx, x_asgn, x_par, eR_nil, eR_cons, par_nil, par_cons, x_ixs, x_ap, x_ifs, x_rt, x_fr, loop_nx, loop_ct, loop_bk, loop_rt, for_nil, for_cons, bindA, List.replicate, List.cons_append, List.nil_append, a_nm, a_tt, a_tl, as_n, as_c, List.set_cons_zero, List.set_cons_succ, List.length_cons, List.length_nil, setS, boxS, cond_true, cond_false, Bool.and_true, Bool.and_false, Bool.true_and, Bool.false_and, if_true, lk_nil, lk_v, lk_c, lk_g, lk_bin, lk_neg, lk_cmp, lk_chain, lk_nt, lk_and2, lk_or2, lk_tr, lk_ite, lk_tup, lk_lst, lk_ix, lk_sl, lk_rev, lk_call, lk_bi, lk_isi, lk_comp, lk_comp2, lk_draw, ul_nil, ul_v, ul_c, ul_g, ul_bin, ul_neg, ul_cmp, ul_chain, ul_nt, ul_and2, ul_or2, ul_tr, ul_ite, ul_tup, ul_lst, ul_ix, ul_sl, ul_rev, ul_call, ul_bi, ul_isi, ul_comp, ul_comp2, ul_draw, isV, tgS, tgSs, wipeE, rt_v, rt_c, rt_g, rt_bin, rt_neg, rt_cmp, rt_chain, rt_nt, rt_and2, rt_or2, rt_tr, rt_ite, rt_tup, rt_lst, rt_ix, rt_sl, rt_rev, rt_call, rt_bi, rt_isi, rt_comp, rt_comp2, rt_draw, b_lenl, b_lent, b_lens, b_abs, b_sum, b_max, b_min, b_max2, b_min2, b_tupl, b_tupt, b_lstl, b_lstt, b_inti, b_intb, b_all, b_any, b_gcd, is_nil, is_cons, bs_nil, bs_cons, s_seql, s_seqt, s_seqs, s_r1, s_r2, s_zip, s_zipt, s_enum, s_enumt, s_rev, s_revt, s_rr, z_cons, z_nil, z_nil2, n_cons, n_nil, sl_l, sl_t, one_0, one_1, cut_from, cut_to, rv_l, tr_n, tr_b, tr_i, tr_l, tr_t, x_rtN, x_brk, x_cnt, x_pas, x_frz, x_drp, List.getElem?_cons_zero, List.getElem?_cons_succ, arg_c, arg_g, arg_bin, arg_neg, arg_cmp, arg_chain, arg_nt, arg_and2, arg_or2, arg_tr, arg_ite, arg_tup, arg_lst, arg_ix, arg_sl, arg_rev, arg_call, arg_bi, arg_isi, arg_comp, arg_draw, bind_drw, blT_drw, then_drw, loop_drw, all_drw, all_ret, c_lt, c_le, c_gt, c_ge, c_eq, c_ne, c_isN, c_notN, isNon, cond_dec, cond_not, cond_and, cond_or, dr10, dr01, ex_ite, wt_nx, wt_rt, wt_ct, wt_bk, wt_drw, q_eq, F_inj, k_addl, k_addt, k_ap, rng2, line, rangeL, List.sum_cons, List.sum_nil, tyD, allTy, run]
  intro m hm
  refine part_ok hm ?_
  intro t2 t3 t4 t5 t6 t7 t8 t9 t10 t11 t12 t13 t14 t15 t16 t17
  rw [wp_cons]
  refine wt_range (n := 5) (I := fun _ ρ => ∃ t2 t3 t4 t5 t6 t7 t8 t9 t10 t11 t12 t13 t14 t15 t16 t17 : Slot, ρ = [.scr, .st, t2, t3, t4, t5, t6, t7, t8, t9, t10, t11, t12, t13, t14, t15, t16, t17]) (by omega) ?_ ⟨_, _, _, _, _, _, _, _, _, _, _, _, _, _, _, _, rfl⟩ ?_ ?_
  · rintro j ρ ⟨t2, t3, t4, t5, t6, t7, t8, t9, t10, t11, t12, t13, t14, t15, t16, t17, rfl⟩
    simp
  · rintro j ρ hj ⟨t2, t3, t4, t5, t6, t7, t8, t9, t10, t11, t12, t13, t14, t15, t16, t17, rfl⟩
    refine wp_all t1 fun r hr => ?_
    obtain ⟨f, ρ'⟩ := r
    obtain ⟨h1, u2, u3, u4, u5, u6, u7, u8, u9, u10, u11, u12, u13, u14, u15, u16, u17, h2⟩ := hr
    have h1 : f = .nx := h1
    have h2 : ρ' = _ := h2
    subst h1 h2
    exact ⟨_, _, _, _, _, _, _, _, _, _, _, _, _, _, _, _, rfl⟩
  · rintro ρ ⟨t2, t3, t4, t5, t6, t7, t8, t9, t10, t11, t12, t13, t14, t15, t16, t17, rfl⟩
    have c1 : r_way_to [.d (.tup [.int 1, .int 1])] = .ret (.str [], false) := chk_eq (by decide +kernel)
    have c2 : r_by_way [.d (.str [108, 114, 108])] = .ret (.tup [.int 3, .int 5], false) := chk_eq (by decide +kernel)
    have c3 : r_farey [.d (.int 1)] = .ret (.lst [.tup [.int 0, .int 1], .tup [.int 1, .int 1]], true) := chk_eq (by decide +kernel)
    have c4 : r_are_neighbours [.d (.tup [.int 1, .int 0]), .d (.tup [.int 3, .int 1])] = .ret (.bl true, false) := chk_eq (by decide +kernel)
    have ps : Pl 0 (D.str []) := pl_str rfl
    rw [wp_cons]
    simp (maxSteps := 10000000) (implicitDefEqProofs := false) (disch := omega) [e8, c1, c2, c3, c4, gl0, gl1, gl2, gl3, gl5, gl6, gl4, gl7, b_ret, o_some, map_some, obind_some, k_add, k_sub, k_mul, k_ixl, k_ixt, ix_0, ix_1, ix_2, ix_3, ix_4, ix_5, ix_6, ix_7, ix_8, ix_9, ix_10, ix_11, ix_12, st_0, st_1, st_2, st_3, st_4, st_5, st_6, st_7, st_8, st_9, st_10, st_11, st_12, rd_0, rd_b, rd_l, rd_s, own_0, own_p, own_s, own_n, e_c, e_g, e_v, e_bin, neg_i, e_neg, e_cmp, e_chain, e_nt, e_and, e_or, e_tr, e_ite, e_tup, e_lst, e_ix, e_sl, e_rev, e_call, e_bi, e_isi, e_draw, e_comp, turn_cons, turn_nil, es_nil, es_cons, eS_nil, eS_cons, eC_nil, eC_cons, eA_nil, eA_cons, arg_st, bl_ret, x_nil, then_nx, then_rt, then_ct, then_bk, x_cns, x_bx, x_asgn, x_par, eR_nil, eR_cons, par_nil, par_cons, x_ixs, x_ap, x_ifs, x_rt, x_fr, loop_nx, loop_ct, loop_bk, loop_rt, for_nil, for_cons, bindA, List.replicate, List.cons_append, List.nil_append, a_nm, a_tt, a_tl, as_n, as_c, List.set_cons_zero, List.set_cons_succ, List.length_cons, List.length_nil, setS, boxS, cond_true, cond_false, Bool.and_true, Bool.and_false, Bool.true_and, Bool.false_and, if_true, lk_nil, lk_v, lk_c, lk_g, lk_bin, lk_neg, lk_cmp, lk_chain, lk_nt, lk_and2, lk_or2, lk_tr, lk_ite, lk_tup, lk_lst, lk_ix, lk_sl, lk_rev, lk_call, lk_bi, lk_isi, lk_comp, lk_comp2, lk_draw, ul_nil, ul_v, ul_c, ul_g, ul_bin, ul_neg, ul_cmp, ul_chain, ul_nt, ul_and2, ul_or2, ul_tr, ul_ite, ul_tup, ul_lst, ul_ix, ul_sl, ul_rev, ul_call, ul_bi, ul_isi, ul_comp, ul_comp2, ul_draw, isV, tgS, tgSs, wipeE, rt_v, rt_c, rt_g, rt_bin, rt_neg, rt_cmp, rt_chain, rt_nt, rt_and2, rt_or2, rt_tr, rt_ite, rt_tup, rt_lst, rt_ix, rt_sl, rt_rev, rt_call, rt_bi, rt_isi, rt_comp, rt_comp2, rt_draw, b_lenl, b_lent, b_lens, b_abs, b_sum, b_max, b_min, b_max2, b_min2, b_tupl, b_tupt, b_lstl, b_lstt, b_inti, b_intb, b_all, b_any, b_gcd, is_nil, is_cons, bs_nil, bs_cons, s_seql, s_seqt, s_seqs, s_r1, s_r2, s_zip, s_zipt, s_enum, s_enumt, s_rev, s_revt, s_rr, z_cons, z_nil, z_nil2, n_cons, n_nil, sl_l, sl_t, one_0, one_1, cut_from, cut_to, rv_l, tr_n, tr_b, tr_i, tr_l, tr_t, x_rtN, x_brk, x_cnt, x_pas, x_frz, x_drp, List.getElem?_cons_zero, List.getElem?_cons_succ, arg_c, arg_g, arg_bin, arg_neg, arg_cmp, arg_chain, arg_nt, arg_and2, arg_or2, arg_tr, arg_ite, arg_tup, arg_lst, arg_ix, arg_sl, arg_rev, arg_call, arg_bi, arg_isi, arg_comp, arg_draw, bind_drw, blT_drw, then_drw, loop_drw, all_drw, all_ret, c_lt, c_le, c_gt, c_ge, c_eq, c_ne, c_isN, c_notN, isNon, cond_dec, cond_not, cond_and, cond_or, dr10, dr01, ex_ite, wt_nx, wt_rt, wt_ct, wt_bk, wt_drw, q_eq, F_inj, k_addl, k_addt, k_ap, rng2, line, rangeL, List.sum_cons, List.sum_nil, tyD, allTy, run]
    rfl
end K95

namespace K95
open PySem PySem.Spec PyProof.Rows L2 FF
theorem all_mk {l : PySem.W.OpenLaw} {w : World} {K : Fg} {h : Heap} {mg : Str → Option Value} {fa fl : Addr} (X : K.In h) (G : h.Ns mainGlobals mg) (hfa : mg "law" = some (.ref fa))
    {f0 : Addr} {od0 an0 : Option Addr} {sl0 : Array (Option Value)} {oc0 kV0 dc0 pm0 cd0 ct0 : Value}
    (a0 : PySem.W.nsIn K mainGlobals "_law_refill" = some (some (.ref f0))) (l0 : K.lookup f0 = some ⟨oc0, od0, .func (PySem.W.fnOf "_law_refill" "_law_refill" (defArgs t_refill) (defBody t_refill) (defScope t_refill) .none kV0 dc0 pm0 an0 cd0 ct0), sl0⟩) (c0 : PySem.W.codeIn K cd0 "_law_refill" = true) (k0 : PySem.W.keepIn K (.ref f0) = true)
    {f1 : Addr} {od1 an1 : Option Addr} {sl1 : Array (Option Value)} {oc1 kV1 dc1 pm1 cd1 ct1 : Value}
    (a1 : PySem.W.nsIn K mainGlobals "_law_draw" = some (some (.ref f1))) (l1 : K.lookup f1 = some ⟨oc1, od1, .func (PySem.W.fnOf "_law_draw" "_law_draw" (defArgs t_draw) (defBody t_draw) (defScope t_draw) .none kV1 dc1 pm1 an1 cd1 ct1), sl1⟩) (c1 : PySem.W.codeIn K cd1 "_law_draw" = true) (k1 : PySem.W.keepIn K (.ref f1) = true)
    {f2 : Addr} {od2 an2 : Option Addr} {sl2 : Array (Option Value)} {oc2 kV2 dc2 pm2 cd2 ct2 : Value}
    (a2 : PySem.W.nsIn K mainGlobals "farey" = some (some (.ref f2))) (l2 : K.lookup f2 = some ⟨oc2, od2, .func (PySem.W.fnOf "farey" "farey" (defArgs t_farey) (defBody t_farey) (defScope t_farey) .none kV2 dc2 pm2 an2 cd2 ct2), sl2⟩) (c2 : PySem.W.codeIn K cd2 "farey" = true) (k2 : PySem.W.keepIn K (.ref f2) = true)
    {f3 : Addr} {od3 an3 : Option Addr} {sl3 : Array (Option Value)} {oc3 kV3 dc3 pm3 cd3 ct3 : Value}
    (a3 : PySem.W.nsIn K mainGlobals "_law_lowest" = some (some (.ref f3))) (l3 : K.lookup f3 = some ⟨oc3, od3, .func (PySem.W.fnOf "_law_lowest" "_law_lowest" (defArgs t__law_lowest) (defBody t__law_lowest) (defScope t__law_lowest) .none kV3 dc3 pm3 an3 cd3 ct3), sl3⟩) (c3 : PySem.W.codeIn K cd3 "_law_lowest" = true) (k3 : PySem.W.keepIn K (.ref f3) = true)
    {f4 : Addr} {od4 an4 : Option Addr} {sl4 : Array (Option Value)} {oc4 kV4 dc4 pm4 cd4 ct4 : Value}
    (a4 : PySem.W.nsIn K mainGlobals "are_neighbours" = some (some (.ref f4))) (l4 : K.lookup f4 = some ⟨oc4, od4, .func (PySem.W.fnOf "are_neighbours" "are_neighbours" (defArgs t_are_neighbours) (defBody t_are_neighbours) (defScope t_are_neighbours) .none kV4 dc4 pm4 an4 cd4 ct4), sl4⟩) (c4 : PySem.W.codeIn K cd4 "are_neighbours" = true) (k4 : PySem.W.keepIn K (.ref f4) = true)
    {f5 : Addr} {od5 an5 : Option Addr} {sl5 : Array (Option Value)} {oc5 kV5 dc5 pm5 cd5 ct5 : Value}
    (a5 : PySem.W.nsIn K mainGlobals "_law_exact" = some (some (.ref f5))) (l5 : K.lookup f5 = some ⟨oc5, od5, .func (PySem.W.fnOf "_law_exact" "_law_exact" (defArgs t__law_exact) (defBody t__law_exact) (defScope t__law_exact) .none kV5 dc5 pm5 an5 cd5 ct5), sl5⟩) (c5 : PySem.W.codeIn K cd5 "_law_exact" = true) (k5 : PySem.W.keepIn K (.ref f5) = true)
    {f6 : Addr} {od6 an6 : Option Addr} {sl6 : Array (Option Value)} {oc6 kV6 dc6 pm6 cd6 ct6 : Value}
    (a6 : PySem.W.nsIn K mainGlobals "between" = some (some (.ref f6))) (l6 : K.lookup f6 = some ⟨oc6, od6, .func (PySem.W.fnOf "between" "between" (defArgs t_between) (defBody t_between) (defScope t_between) .none kV6 dc6 pm6 an6 cd6 ct6), sl6⟩) (c6 : PySem.W.codeIn K cd6 "between" = true) (k6 : PySem.W.keepIn K (.ref f6) = true)
    {f7 : Addr} {od7 an7 : Option Addr} {sl7 : Array (Option Value)} {oc7 kV7 dc7 pm7 cd7 ct7 : Value}
    (a7 : PySem.W.nsIn K mainGlobals "by_way" = some (some (.ref f7))) (l7 : K.lookup f7 = some ⟨oc7, od7, .func (PySem.W.fnOf "by_way" "by_way" (defArgs t_by_way) (defBody t_by_way) (defScope t_by_way) .none kV7 dc7 pm7 an7 cd7 ct7), sl7⟩) (c7 : PySem.W.codeIn K cd7 "by_way" = true) (k7 : PySem.W.keepIn K (.ref f7) = true)
    {f8 : Addr} {od8 an8 : Option Addr} {sl8 : Array (Option Value)} {oc8 kV8 dc8 pm8 cd8 ct8 : Value}
    (a8 : PySem.W.nsIn K mainGlobals "way_to" = some (some (.ref f8))) (l8 : K.lookup f8 = some ⟨oc8, od8, .func (PySem.W.fnOf "way_to" "way_to" (defArgs t_way_to) (defBody t_way_to) (defScope t_way_to) .none kV8 dc8 pm8 an8 cd8 ct8), sl8⟩) (c8 : PySem.W.codeIn K cd8 "way_to" = true) (k8 : PySem.W.keepIn K (.ref f8) = true)
    {f9 : Addr} {od9 an9 : Option Addr} {sl9 : Array (Option Value)} {oc9 kV9 dc9 pm9 cd9 ct9 : Value}
    (a9 : PySem.W.nsIn K mainGlobals "_law_common" = some (some (.ref f9))) (l9 : K.lookup f9 = some ⟨oc9, od9, .func (PySem.W.fnOf "_law_common" "_law_common" (defArgs t__law_common) (defBody t__law_common) (defScope t__law_common) .none kV9 dc9 pm9 an9 cd9 ct9), sl9⟩) (c9 : PySem.W.codeIn K cd9 "_law_common" = true) (k9 : PySem.W.keepIn K (.ref f9) = true)
    {odl anl : Option Addr} {sll : Array (Option Value)} {ocl kVl dcl pml cdl ctl : Value}
    (al : PySem.W.nsIn K mainGlobals "law" = some (some (.ref fl))) (ll : K.lookup fl = some ⟨ocl, odl, .func (PySem.W.fnOf "law" "law" (defArgs t_law) (defBody t_law) (defScope t_law) .none kVl dcl pml anl cdl ctl), sll⟩) (cl : PySem.W.codeIn K cdl "law" = true) (kl : PySem.W.keepIn K (.ref fl) = true)
    (z0 : PySem.W.nsIn K mainGlobals "len" = some none)
    (z1 : PySem.W.nsIn K mainGlobals "abs" = some none)
    (z2 : PySem.W.nsIn K mainGlobals "sum" = some none)
    (z3 : PySem.W.nsIn K mainGlobals "max" = some none)
    (z4 : PySem.W.nsIn K mainGlobals "min" = some none)
    (z5 : PySem.W.nsIn K mainGlobals "tuple" = some none)
    (z6 : PySem.W.nsIn K mainGlobals "list" = some none)
    (z7 : PySem.W.nsIn K mainGlobals "int" = some none)
    (z8 : PySem.W.nsIn K mainGlobals "all" = some none)
    (z9 : PySem.W.nsIn K mainGlobals "any" = some none)
    (z10 : PySem.W.nsIn K mainGlobals "range" = some none)
    (z11 : PySem.W.nsIn K mainGlobals "zip" = some none)
    (z12 : PySem.W.nsIn K mainGlobals "enumerate" = some none)
    (z13 : PySem.W.nsIn K mainGlobals "reversed" = some none)
    (z14 : PySem.W.nsIn K mainGlobals "isinstance" = some none)
    (z15 : PySem.W.nsIn K mainGlobals "str" = some none)
    (z16 : PySem.W.nsIn K mainGlobals "bool" = some none)
    (z17 : PySem.W.nsIn K mainGlobals "sorted" = some none)
    (law : (lawT g_law i_law 16).all IsT) :
    ∃ fd : FuncData, (∀ (s : Shared) (v : Value), BindsTo s fd ⟨[v], []⟩ [("script", v)]) ∧ ∀ base : Heap, K.In base → base.Ns mainGlobals mg → FnOk l.prog w K mg base CX0 13 fa fd ["script"] (spL K) := by
  have e := hfa.symm.trans (PySem.W.mg_of X G al)
  cases e
  have S : Behind K mg := ⟨stand_mk X G d_refill a0 l0 c0 k0, stand_mk X G d_draw a1 l1 c1 k1, stand_mk X G d_farey a2 l2 c2 k2, stand_mk X G d__law_lowest a3 l3 c3 k3, stand_mk X G d_are_neighbours a4 l4 c4 k4, stand_mk X G d__law_exact a5 l5 c5 k5, stand_mk X G d_between a6 l6 c6 k6, stand_mk X G d_by_way a7 l7 c7 k7, stand_mk X G d_way_to a8 l8 c8 k8, stand_mk X G d__law_common a9 l9 c9 k9, ⟨PySem.W.mg_none_of X G z0, PySem.W.mg_none_of X G z1, PySem.W.mg_none_of X G z2, PySem.W.mg_none_of X G z3, PySem.W.mg_none_of X G z4, PySem.W.mg_none_of X G z5, PySem.W.mg_none_of X G z6, PySem.W.mg_none_of X G z7, PySem.W.mg_none_of X G z8, PySem.W.mg_none_of X G z9, PySem.W.mg_none_of X G z10, PySem.W.mg_none_of X G z11, PySem.W.mg_none_of X G z12, PySem.W.mg_none_of X G z13, PySem.W.mg_none_of X G z14, PySem.W.mg_none_of X G z15, PySem.W.mg_none_of X G z16, PySem.W.mg_none_of X G z17, trivial⟩⟩
  exact ⟨PySem.W.fnOf "law" "law" (defArgs t_law) (defBody t_law) (defScope t_law) .none kVl dcl pml anl cdl ctl, fun s v => .of_eq rfl, fun base _ _ => h_law S (fun_mk (st := t_law) ll cl kl) law⟩
end K95
open PySem PySem.W PyProof.Rows
set_option maxHeartbeats 0 in
theorem PySem.Challenge.cw_fourfolds_k95_whole_fractions_side_by_si_holds : PySem.Challenge.rw_fourfolds_k95_whole_fractions_side_by_si.Holds := by
  w_on; o_law; k_head; (case hw => w_witness2)
  k_fill
  refine L2.walk_of (l := PySem.Challenge.rw_fourfolds_k95_whole_fractions_side_by_si) (n := 63) (k := 13) (x := "script") (CX := fun _ => L2.CX0) (sp := fun w => FF.spL _) rfl (by decide) rfl ⟨rfl, by decide, by decide⟩ (fun w h Y => PySem.W.kIn_of Y) ?F (fun _ _ a ns hl hO hS => ⟨_, rfl, FF.scr_of hl hO hS, fun _ => rfl⟩) (fun _ _ _ _ _ h => h)
  case F =>
    intro w mg fa h KX G hmg
    refine' K95.all_mk KX G hmg ?a0 ?l0 ?c0 ?k0 ?a1 ?l1 ?c1 ?k1 ?a2 ?l2 ?c2 ?k2 ?a3 ?l3 ?c3 ?k3 ?a4 ?l4 ?c4 ?k4 ?a5 ?l5 ?c5 ?k5 ?a6 ?l6 ?c6 ?k6 ?a7 ?l7 ?c7 ?k7 ?a8 ?l8 ?c8 ?k8 ?a9 ?l9 ?c9 ?k9 ?al ?ll ?cl ?kl ?z0 ?z1 ?z2 ?z3 ?z4 ?z5 ?z6 ?z7 ?z8 ?z9 ?z10 ?z11 ?z12 ?z13 ?z14 ?z15 ?z16 ?z17 K95.law_true
    (case a0 => k_is); (case l0 => k_is); (case c0 => k_is); (case k0 => k_is); (case a1 => k_is); (case l1 => k_is); (case c1 => k_is); (case k1 => k_is); (case a2 => k_is); (case l2 => k_is); (case c2 => k_is); (case k2 => k_is); (case a3 => k_is); (case l3 => k_is); (case c3 => k_is); (case k3 => k_is); (case a4 => k_is); (case l4 => k_is); (case c4 => k_is); (case k4 => k_is); (case a5 => k_is); (case l5 => k_is); (case c5 => k_is); (case k5 => k_is); (case a6 => k_is); (case l6 => k_is); (case c6 => k_is); (case k6 => k_is); (case a7 => k_is); (case l7 => k_is); (case c7 => k_is); (case k7 => k_is); (case a8 => k_is); (case l8 => k_is); (case c8 => k_is); (case k8 => k_is); (case a9 => k_is); (case l9 => k_is); (case c9 => k_is); (case k9 => k_is); (case al => k_is); (case ll => k_is); (case cl => k_is); (case kl => k_is); (case z0 => k_is); (case z1 => k_is); (case z2 => k_is); (case z3 => k_is); (case z4 => k_is); (case z5 => k_is); (case z6 => k_is); (case z7 => k_is); (case z8 => k_is); (case z9 => k_is); (case z10 => k_is); (case z11 => k_is); (case z12 => k_is); (case z13 => k_is); (case z14 => k_is); (case z15 => k_is); (case z16 => k_is); (case z17 => k_is)

