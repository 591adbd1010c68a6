import PyProof.Rows.All
import Wide.All
import OpenK.AllK
import Wide.FinOn
import HandS.ForMost
import HandS.IsInst
import HandS.Deep
import HandS.TupAny
import HandS.NoneIn
import HandS.Style
import HandS.Gcd
import HandS.Wide
import HandS.Rev
import HandS.RevRange
import HandS.Zip
import HandS.SortInts
import KE.GoesMore
import KE.GoesEnum
import PySem.Challenge.RW_fourfolds_k91_whole_maps_of_spots
set_option linter.all false
/-! FF0: plain data, trees of draws, a small language of expressions and statements, and what it yields. No program in sight. -/
namespace FF

/-- plain data -/
inductive D where
  | non | bl (b : Bool) | int (i : Int) | str (s : List Nat)
  | lst (xs : List D) | tup (xs : List D) | dic (ks vs : List D)
instance : Inhabited D := ⟨.non⟩

/-- a computation that draws numbers below n -/
inductive T (α : Type) where
  | ret (a : α) | err | drw (n : Nat) (k : Nat → T α)
namespace T
variable {α β : Type}
def bind : T α → (α → T β) → T β
  | .ret a, f => f a
  | .err, _ => .err
  | .drw n k, f => .drw n fun d => (k d).bind f
def ofO : Option α → T α
  | some a => .ret a
  | none => .err
/-- at every leaf P, whatever is drawn -/
def all (P : α → Prop) : T α → Prop
  | .ret a => P a
  | .err => False
  | .drw n k => 0 < n ∧ ∀ d, d < n → (k d).all P
theorem all_bind {P : β → Prop} {f : α → T β} : ∀ {t : T α}, (t.bind f).all P ↔ t.all fun a => (f a).all P
  | .ret _ => Iff.rfl
  | .err => Iff.rfl
  | .drw n k => by
    show (0 < n ∧ ∀ d, d < n → ((k d).bind f).all P) ↔ (0 < n ∧ ∀ d, d < n → (k d).all fun a => (f a).all P)
    exact ⟨fun h => ⟨h.1, fun d hd => all_bind.mp (h.2 d hd)⟩, fun h => ⟨h.1, fun d hd => all_bind.mpr (h.2 d hd)⟩⟩
theorem all_mono {P Q : α → Prop} (hPQ : ∀ a, P a → Q a) : ∀ {t : T α}, t.all P → t.all Q
  | .ret _, h => hPQ _ h
  | .err, h => h
  | .drw _ _, h => ⟨h.1, fun d hd => all_mono hPQ (h.2 d hd)⟩
theorem all_ofO {P : α → Prop} {o : Option α} : (ofO o).all P ↔ ∃ a, o = some a ∧ P a := by
  cases o with
  | none => exact ⟨fun h => h.elim, fun ⟨_, h, _⟩ => nomatch h⟩
  | some a => exact ⟨fun h => ⟨a, rfl, h⟩, fun ⟨_, e, h⟩ => by cases e; exact h⟩
end T

def line : Nat := 16777216
def wide : Nat := 134217728
def nb (i : Int) : Nat := i.natAbs.log2 + 1

inductive Bop where | add | sub | mul | fdiv | mod | pow | band | bxor
deriving DecidableEq
inductive Cop where | eq | ne | lt | le | gt | ge | isN | notN | inn | nin
deriving DecidableEq
inductive Bi where | len | abs | sum | max | min | max2 | min2 | sorted | tuple | list | int | all | any | gcd | set | index
deriving DecidableEq
inductive Sk where | seq | range | zip | enum | rev | revrange | items | values
deriving DecidableEq
inductive Ty where | tlist | ttuple | tstr | tbool | tint
deriving DecidableEq
inductive Tg where
  | nm (i : Nat) | tup (ts : List Tg)

inductive E where
  | c (d : D)
  | g (k : Nat) (d : D)
  | v (i : Nat)
  | bin (o : Bop) (a b : E)
  | neg (a : E)
  | cmp (o : Cop) (a b : E)
  | chain (o p : Cop) (a b c : E)
  | nt (a : E) | and2 (a b : E) | or2 (a b : E) | tr (a : E)
  | ite (c a b : E)
  | tup (es : List E) | lst (es : List E)
  | ix (a i : E) | sl (a : E) (lo hi : List E) | rev (a : E)
  | call (k : Nat) (es : List E)
  | bi (b : Bi) (es : List E)
  | isi (a : E) (ts : List Ty)
  | comp (t : Tg) (sk : Sk) (ses : List E) (cs : List E) (e : E)
  | comp2 (t : Tg) (sk : Sk) (ses : List E) (cs : List E) (t' : Tg) (sk' : Sk) (ses' : List E) (cs' : List E) (e : E)
  | draw (i j : Nat) (e : E)
  | dget (d k : E) (e : List E)
  | index (a e : E)
  | join (s a : E)
  | dict (ks vs : List E)

inductive S where
  | asg (t : Tg) (e : E)
  | box (i : Nat) (b : Bool) (e : E)
  | par (is : List (Nat × Bool)) (es : List E)
  | setix (i : Nat) (k e : E)
  | app (i : Nat) (e : E)
  | popto (t : Tg) (i : Nat) (k : List E)
  | apppop (o i : Nat) (k : List E)
  | ifs (c : E) (a b : List S)
  | whl (f : Nat) (c : E) (b : List S)
  | forr (t : Tg) (sk : Sk) (ses : List E) (b : List S)
  | ret (e : E) | retN | brk | cont | pass | drop (e : E)
  | frz (i : Nat)

/-- what a slot holds: nothing, a value, a list or dict of one's own, such a one while it is walked, the state, the script -/
inductive Slot where
  | no | pl (d : D) | bx (d : D) | lk (d : D) | st | scr
inductive Arg where
  | d (d : D) | st | scr
abbrev Env := List Slot
/-- a value, and whether it is a new list or dict -/
abbrev Rs := D × Bool
abbrev Sem := Nat → List Arg → T Rs

/-! ### values -/
mutual
def eqD : D → D → Option Bool
  | .non, .non => some true
  | .bl a, .bl b => some (a == b)
  | .int i, .int j => some (decide (i = j))
  | .bl a, .int j => some (decide ((if a then 1 else 0) = j))
  | .int i, .bl b => some (decide (i = (if b then 1 else 0)))
  | .str a, .str b => some (decide (a = b))
  | .lst xs, .lst ys => eqDs xs ys
  | .tup xs, .tup ys => eqDs xs ys
  | .dic _ _, _ => none
  | _, .dic _ _ => none
  | _, _ => some false
def eqDs : List D → List D → Option Bool
  | [], [] => some true
  | x :: xs, y :: ys => (eqD x y).bind fun a => (eqDs xs ys).map fun b => a && b
  | _, _ => some false
end
mutual
/-- no dict in it, and no deeper than n -/
def flat : Nat → D → Bool
  | n + 1, .lst xs => flats n xs
  | n + 1, .tup xs => flats n xs
  | _, .dic _ _ => false
  | 0, .lst _ => false
  | 0, .tup _ => false
  | _, .str s => s.all (· < 1114112)
  | _, _ => true
def flats : Nat → List D → Bool
  | _, [] => true
  | n, x :: xs => flat n x && flats n xs
end
def eqT (a b : D) : Option Bool := if flat 50 a && flat 50 b then eqD a b else none
def anyEq (y : D) : List D → Option Bool
  | [] => some false
  | x :: xs => (eqD x y).bind fun a => (anyEq y xs).map fun b => a || b
def inSeq (y : D) (xs : List D) : Option Bool := if flat 50 y && flats 50 xs then anyEq y xs else none
def idxEq (y : D) : List D → Option Nat
  | [] => none
  | x :: xs => (eqD x y).bind fun a => cond a (some 0) ((idxEq y xs).map (· + 1))
def findKey (k : D) : List D → List D → Option (Option D)
  | [], _ => some none
  | x :: ks, v :: vs => (eqD x k).bind fun a => if a then some (some v) else findKey k ks vs
  | _ :: _, [] => none

def isNon : D → Bool
  | .non => true
  | _ => false
def seqItems : D → Option (List D)
  | .lst xs => some xs
  | .tup xs => some xs
  | _ => none
def truth : D → Option Bool
  | .non => some false
  | .bl b => some b
  | .int i => some (i != 0)
  | .str s => some (!s.isEmpty)
  | .lst xs => some (!xs.isEmpty)
  | .tup xs => some (!xs.isEmpty)
  | .dic ks _ => some (!ks.isEmpty)

def binD : Bop → D → D → Option Rs
  | .add, .int i, .int j => some (.int (i + j), false)
  | .add, .str s, .str t => if s.length + t.length ≤ line then some (.str (s ++ t), false) else none
  | .add, .lst xs, .lst ys => if xs.length + ys.length ≤ line then some (.lst (xs ++ ys), true) else none
  | .add, .tup xs, .tup ys => if xs.length + ys.length ≤ line then some (.tup (xs ++ ys), false) else none
  | .sub, .int i, .int j => some (.int (i - j), false)
  | .mul, .int i, .int j => if nb i ≤ 64 ∨ nb j ≤ 64 ∨ nb i + nb j ≤ wide then some (.int (i * j), false) else none
  | .mul, .lst xs, .int j => if xs.length * j.toNat ≤ line ∧ j < 2 ^ 62 ∧ -(2 ^ 62) < j then some (.lst (List.replicate j.toNat xs).flatten, true) else none
  | .fdiv, .int i, .int j => if j ≠ 0 ∧ nb j ≤ 9000 then some (.int (i.fdiv j), false) else none
  | .mod, .int i, .int j => if j ≠ 0 then some (.int (i.fmod j), false) else none
  | .pow, .int i, .int j => if 0 ≤ j ∧ j ≤ 1000000 ∧ nb i ≤ 64 then some (.int (i ^ j.toNat), false) else none
  | _, _, _ => none
def cmpD : Cop → D → D → Option Bool
  | .eq, a, b => eqT a b
  | .ne, a, b => (eqT a b).map (!·)
  | .lt, .int i, .int j => some (decide (i < j))
  | .le, .int i, .int j => some (decide (i ≤ j))
  | .gt, .int i, .int j => some (decide (j < i))
  | .ge, .int i, .int j => some (decide (j ≤ i))
  | .isN, a, .non => some (isNon a)
  | .notN, a, .non => some (!isNon a)
  | .inn, a, .lst xs => inSeq a xs
  | .nin, a, .lst xs => (inSeq a xs).map (!·)
  | .inn, a, .tup xs => inSeq a xs
  | .nin, a, .tup xs => (inSeq a xs).map (!·)
  | _, _, _ => none
def ixAt {α : Type} (xs : List α) (i : Int) : Option α :=
  if 0 ≤ i then xs[i.toNat]? else if -(xs.length : Int) ≤ i then xs[(i + xs.length).toNat]? else none
def ixD : D → D → Option D
  | .lst xs, .int i => ixAt xs i
  | .tup xs, .int i => ixAt xs i
  | .str s, .int i => (ixAt s i).map fun c => .str [c]
  | .dic ks vs, k => (findKey k ks vs).bind id
  | _, _ => none
/-- a bound of a slice, brought within 0 .. n -/
def sIx (n d : Nat) : Option Int → Nat
  | none => d
  | some v => if v < 0 then (v + n).toNat else min v.toNat n
def cut {α : Type} (xs : List α) (lo hi : Option Int) : List α := (xs.drop (sIx xs.length 0 lo)).take (sIx xs.length xs.length hi - sIx xs.length 0 lo)
def slD : D → Option Int → Option Int → Option Rs
  | .lst xs, lo, hi => some (.lst (cut xs lo hi), true)
  | .tup xs, lo, hi => some (.tup (cut xs lo hi), false)
  | .str s, lo, hi => some (.str (cut s lo hi), false)
  | _, _, _ => none
def revD : D → Option Rs
  | .lst xs => some (.lst xs.reverse, true)
  | _ => none
def oneI : List D → Option (Option Int)
  | [] => some none
  | [.int i] => some (some i)
  | _ => none

def intsOf : List D → Option (List Int)
  | [] => some []
  | .int i :: r => (intsOf r).map (i :: ·)
  | _ => none
def blsOf : List D → Option (List Bool)
  | [] => some []
  | .bl b :: r => (blsOf r).map (b :: ·)
  | _ => none
def maxI : Int → List Int → Int
  | m, [] => m
  | m, x :: xs => maxI (if m < x then x else m) xs
def minI : Int → List Int → Int
  | m, [] => m
  | m, x :: xs => minI (if x < m then x else m) xs
def insI (x : Int) : List Int → List Int
  | [] => [x]
  | y :: ys => if x ≤ y then x :: y :: ys else y :: insI x ys
def sortI : List Int → List Int
  | [] => []
  | x :: xs => insI x (sortI xs)
def biD : Bi → List D → Option Rs
  | .len, [.lst xs] => some (.int xs.length, false)
  | .len, [.tup xs] => some (.int xs.length, false)
  | .len, [.str s] => some (.int s.length, false)
  | .abs, [.int i] => some (.int (if i < 0 then -i else i), false)
  | .sum, [.lst xs] => (intsOf xs).map fun p => (.int p.sum, false)
  | .max, [.lst xs] => (intsOf xs).bind fun p => match p with | [] => none | x :: r => some (.int (maxI x r), false)
  | .min, [.lst xs] => (intsOf xs).bind fun p => match p with | [] => none | x :: r => some (.int (minI x r), false)
  | .max2, [.int i, .int j] => some (.int (if j > i then j else i), false)
  | .min2, [.int i, .int j] => some (.int (if j < i then j else i), false)
  | .tuple, [.lst xs] => some (.tup xs, false)
  | .tuple, [.tup xs] => some (.tup xs, false)
  | .list, [.lst xs] => some (.lst xs, true)
  | .list, [.tup xs] => some (.lst xs, true)
  | .int, [.int i] => some (.int i, false)
  | .int, [.bl b] => some (.int (if b then 1 else 0), false)
  | .all, [.lst xs] => (blsOf xs).map fun bs => (.bl (bs.all id), false)
  | .any, [.lst xs] => (blsOf xs).map fun bs => (.bl (bs.any id), false)
  | .gcd, [.int i, .int j] => some (.int (Nat.gcd i.natAbs j.natAbs : Nat), false)
  | .index, [.lst xs, y] => if flat 50 y && flats 50 xs then (idxEq y xs).map fun k => (.int (k : Nat), false) else none
  | _, _ => none
def tyD : D → Ty → Bool
  | .lst _, .tlist => true
  | .tup _, .ttuple => true
  | .str _, .tstr => true
  | .bl _, .tbool => true
  | .bl _, .tint => true
  | .int _, .tint => true
  | _, _ => false

/-! ### what is walked -/
def rangeL : Nat → Int → List D
  | 0, _ => []
  | n + 1, lo => .int lo :: rangeL n (lo + 1)
def zipL : List D → List D → List D
  | x :: xs, y :: ys => .tup [x, y] :: zipL xs ys
  | _, _ => []
def enumL : Nat → List D → List D
  | _, [] => []
  | n, x :: xs => .tup [.int n, x] :: enumL (n + 1) xs
def rng2 (i j : Int) : Option (List D) :=
  if -(2 ^ 62) ≤ i ∧ i < 2 ^ 62 ∧ -(2 ^ 62) ≤ j ∧ j < 2 ^ 62 ∧ (j - i).toNat ≤ line then some (rangeL (j - i).toNat i) else none
def srcD : Sk → List D → Option (List D)
  | .seq, [.lst xs] => some xs
  | .seq, [.tup xs] => some xs
  | .seq, [.str s] => some (s.map fun c => .str [c])
  | .seq, [.dic ks _] => some ks
  | .range, [.int j] => rng2 0 j
  | .range, [.int i, .int j] => rng2 i j
  | .zip, [.lst xs, .lst ys] => some (zipL xs ys)
  | .zip, [.tup xs, .tup ys] => some (zipL xs ys)
  | .enum, [.lst xs] => some (enumL 0 xs)
  | .enum, [.tup xs] => some (enumL 0 xs)
  | .rev, [.lst xs] => some xs.reverse
  | .rev, [.tup xs] => some xs.reverse
  | .revrange, [.int j] => (rng2 0 j).map List.reverse
  | _, _ => none

/-! ### slots -/
def rd (m : Bool) (ρ : Env) (i : Nat) : Option D :=
  match ρ[i]? with
  | some (.pl d) => some d
  | some (.bx d) => if m then some d else none
  | some (.lk d) => if m then some d else none
  | _ => none
mutual
def asgT : Tg → D → Env → Option Env
  | .nm i, x, ρ => if i < ρ.length then some (ρ.set i (.pl x)) else none
  | .tup ts, .tup xs, ρ => asgTs ts xs ρ
  | .tup ts, .lst xs, ρ => asgTs ts xs ρ
  | _, _, _ => none
def asgTs : List Tg → List D → Env → Option Env
  | [], [], ρ => some ρ
  | t :: ts, x :: xs, ρ => (asgT t x ρ).bind (asgTs ts xs)
  | _, _, _ => none
end
mutual
/-- the slots that a target stores -/
def tgS : Tg → List Nat
  | .nm i => [i]
  | .tup ts => tgSs ts
def tgSs : List Tg → List Nat
  | [] => []
  | t :: ts => tgS t ++ tgSs ts
end
def wipeE (ρ : Env) : List Nat → Env
  | [] => ρ
  | v :: vs => (wipeE ρ vs).set v .no
def isV : E → Bool
  | .v _ => true
  | _ => false
def bindA : List Arg → Env
  | [] => []
  | .d x :: r => .pl x :: bindA r
  | .st :: r => .st :: bindA r
  | .scr :: r => .scr :: bindA r

def allTy (d : D) : List Ty → Bool
  | [] => false
  | t :: ts => tyD d t || allTy d ts
/-- a comprehension's turns, the items from the left -/
def compL (f : D → T (Option D)) : List D → T (List D)
  | [] => .ret []
  | x :: xs => (f x).bind fun o => (compL f xs).bind fun r => .ret (match o with | some y => y :: r | none => r)
def compC (f : Nat → D → T (List D)) : Nat → List D → T (List D)
  | _, [] => .ret []
  | n, x :: xs => (f n x).bind fun o => (compC f (n + o.length) xs).bind fun r => .ret (o ++ r)
def blT : T Rs → T Bool := fun t => t.bind fun x => match x.1 with | .bl b => .ret b | _ => .err
def drawT (ρ : Env) (i j : Nat) (x : D) : T Rs :=
  match ρ[i]?, ρ[j]?, x with
  | some .st, some .scr, .int s => if 0 < s ∧ s < 2 ^ 30 then .drw s.toNat fun d => .ret (.int d, false) else .err
  | _, _, _ => .err

mutual
/-- m: is a list or dict of one's own taken as it stands (to be looked at alone) -/
def ev (Γ : Sem) : E → Bool → Env → T Rs
  | .c d, _, _ => .ret (d, false)
  | .g _ d, _, _ => .ret (d, false)
  | .v i, m, ρ => T.ofO ((rd m ρ i).map fun d => (d, false))
  | .bin o a b, _, ρ => (ev Γ a true ρ).bind fun x => (ev Γ b true ρ).bind fun y => T.ofO (binD o x.1 y.1)
  | .neg a, _, ρ => (ev Γ a true ρ).bind fun x => match x.1 with | .int i => .ret (.int (-i), false) | _ => .err
  | .cmp o a b, _, ρ => (ev Γ a true ρ).bind fun x => (ev Γ b true ρ).bind fun y => T.ofO ((cmpD o x.1 y.1).map fun r => (.bl r, false))
  | .chain o p a b c, _, ρ => (ev Γ a true ρ).bind fun x => (ev Γ b true ρ).bind fun y => (T.ofO (cmpD o x.1 y.1)).bind fun r =>
      cond r ((ev Γ c true ρ).bind fun z => T.ofO ((cmpD p y.1 z.1).map fun r => (.bl r, false))) (.ret (.bl false, false))
  | .nt a, _, ρ => (blT (ev Γ a true ρ)).bind fun b => .ret (.bl (!b), false)
  | .and2 a b, m, ρ => (blT (ev Γ a true ρ)).bind fun x => cond x (ev Γ b m ρ) (.ret (.bl false, false))
  | .or2 a b, m, ρ => (blT (ev Γ a true ρ)).bind fun x => cond x (.ret (.bl true, false)) (ev Γ b m ρ)
  | .tr a, _, ρ => (ev Γ a true ρ).bind fun x => T.ofO ((truth x.1).map fun b => (.bl b, false))
  | .ite c a b, m, ρ => (blT (ev Γ c true ρ)).bind fun x => cond x (ev Γ a m ρ) (ev Γ b m ρ)
  | .tup es, _, ρ => (evs Γ es false ρ).bind fun xs => .ret (.tup xs, false)
  | .lst es, _, ρ => (evs Γ es false ρ).bind fun xs => .ret (.lst xs, true)
  | .ix a i, _, ρ => (ev Γ a true ρ).bind fun x => (ev Γ i true ρ).bind fun y => T.ofO ((ixD x.1 y.1).map fun d => (d, false))
  | .sl a lo hi, _, ρ => (ev Γ a true ρ).bind fun x => ((evs Γ lo true ρ).bind fun l => T.ofO (oneI l)).bind fun i => ((evs Γ hi true ρ).bind fun h => T.ofO (oneI h)).bind fun j =>
      T.ofO (slD x.1 i j)
  | .rev a, _, ρ => (ev Γ a true ρ).bind fun x => T.ofO (revD x.1)
  | .call k es, _, ρ => (evA Γ es ρ).bind fun xs => Γ k xs
  | .bi b es, _, ρ => (evs Γ es true ρ).bind fun xs => T.ofO (biD b xs)
  | .isi a ts, _, ρ => (ev Γ a true ρ).bind fun x => .ret (.bl (allTy x.1 ts), false)
  | .comp t sk ses cs e, _, ρ => (evS Γ ses ρ).bind fun xs => (T.ofO (srcD sk xs)).bind fun its =>
      (compL (fun x => (T.ofO (asgT t x (wipeE ρ (tgS t)))).bind fun ρ' => (evC Γ cs ρ').bind fun b => cond b ((ev Γ e false ρ').bind fun y => .ret (some y.1)) (.ret none)) its).bind fun r => .ret (.lst r, true)
  | .comp2 t sk ses cs t' sk' ses' cs' e, _, ρ => (evS Γ ses ρ).bind fun xs => (T.ofO (srcD sk xs)).bind fun its =>
      (compC (fun n x => (T.ofO (asgT t x (wipeE ρ (tgS t ++ tgS t')))).bind fun ρ' => (evC Γ cs ρ').bind fun b => cond b
        ((evS Γ ses' ρ').bind fun xs' => (T.ofO (srcD sk' xs')).bind fun its' => if n + its'.length ≤ line then
          compL (fun x => (T.ofO (asgT t' x (wipeE ρ' (tgS t')))).bind fun ρ'' => (evC Γ cs' ρ'').bind fun b => cond b ((ev Γ e false ρ'').bind fun y => .ret (some y.1)) (.ret none)) its' else .err) (.ret [])) 0 its).bind fun r =>
      .ret (.lst r, true)
  | .draw i j e, _, ρ => (ev Γ e true ρ).bind fun x => drawT ρ i j x.1
  | .dget _ _ _, _, _ => .err
  | .index _ _, _, _ => .err
  | .join _ _, _, _ => .err
  | .dict _ _, _, _ => .err
def evs (Γ : Sem) : List E → Bool → Env → T (List D)
  | [], _, _ => .ret []
  | e :: es, m, ρ => (ev Γ e m ρ).bind fun x => (evs Γ es m ρ).bind fun xs => .ret (x.1 :: xs)
/-- what is walked: an own list may stand as itself -/
def evS (Γ : Sem) : List E → Env → T (List D)
  | [], _ => .ret []
  | e :: es, ρ => (ev Γ e (isV e) ρ).bind fun x => (evS Γ es ρ).bind fun xs => .ret (x.1 :: xs)
/-- the tests of a clause -/
def evC (Γ : Sem) : List E → Env → T Bool
  | [], _ => .ret true
  | e :: es, ρ => (blT (ev Γ e true ρ)).bind fun b => cond b (evC Γ es ρ) (.ret false)
/-- arguments: the state and the script are handed on -/
def evA (Γ : Sem) : List E → Env → T (List Arg)
  | [], _ => .ret []
  | .v i :: es, ρ => match ρ[i]? with
    | some .st => (evA Γ es ρ).bind fun xs => .ret (.st :: xs)
    | some .scr => (evA Γ es ρ).bind fun xs => .ret (.scr :: xs)
    | _ => (ev Γ (.v i) false ρ).bind fun x => (evA Γ es ρ).bind fun xs => .ret (.d x.1 :: xs)
  | e :: es, ρ => (ev Γ e false ρ).bind fun x => (evA Γ es ρ).bind fun xs => .ret (.d x.1 :: xs)
end

/-! ### statements -/
inductive Fl where | nx | rt (r : Rs) | bk | ct
abbrev Xs := Fl × Env
def setS (ρ : Env) (i : Nat) (s : Slot) : T Xs := if i < ρ.length then .ret (.nx, ρ.set i s) else .err
def boxS (ρ : Env) (i : Nat) (b : Bool) (r : Rs) : Slot := cond (b && r.2) (.bx r.1) (.pl r.1)
def parS : List (Nat × Bool) → List Rs → Env → T Xs
  | [], [], ρ => .ret (.nx, ρ)
  | p :: ps, r :: rs, ρ => if p.1 < ρ.length then parS ps rs (ρ.set p.1 (boxS ρ p.1 p.2 r)) else .err
  | _, _, _ => .err
/-- the slots that a walk's sources name are held while it goes -/
def lockS : List E → Env → Env
  | [], ρ => ρ
  | .v i :: r, ρ => lockS r (match ρ[i]? with | some (.bx d) => ρ.set i (.lk d) | _ => ρ)
  | _ :: r, ρ => lockS r ρ
def unlockS (ρ₀ : Env) : List E → Env → Env
  | [], ρ => ρ
  | .v i :: r, ρ => unlockS ρ₀ r (match ρ₀[i]?, ρ[i]? with | some (.bx _), some (.lk d) => ρ.set i (.bx d) | _, _ => ρ)
  | _ :: r, ρ => unlockS ρ₀ r ρ
def forL (f : D → Env → T Xs) : List D → Env → T Xs
  | [], ρ => .ret (.nx, ρ)
  | x :: xs, ρ => (f x ρ).bind fun r => match r.1 with
    | .nx => forL f xs r.2
    | .ct => forL f xs r.2
    | .bk => .ret (.nx, r.2)
    | .rt y => .ret (.rt y, r.2)
def whlL (c : Env → T Bool) (b : Env → T Xs) : Nat → Env → T Xs
  | 0, _ => .err
  | n + 1, ρ => (c ρ).bind fun k => cond k ((b ρ).bind fun r => match r.1 with
    | .nx => whlL c b n r.2
    | .ct => whlL c b n r.2
    | .bk => .ret (.nx, r.2)
    | .rt y => .ret (.rt y, r.2)) (.ret (.nx, ρ))
def setD : D → D → D → Option D
  | .lst xs, .int i, x => if 0 ≤ i then (if i < xs.length then some (.lst (xs.set i.toNat x)) else none) else if -(xs.length : Int) ≤ i then some (.lst (xs.set (i + xs.length).toNat x)) else none
  | _, _, _ => none
def popD : D → List D → Option (D × D)
  | .lst xs, [] => match xs.reverse with | y :: r => some (y, .lst r.reverse) | [] => none
  | .lst xs, [.int i] => if 0 ≤ i ∧ i < xs.length then (xs[i.toNat]?).map fun y => (y, .lst (xs.eraseIdx i.toNat)) else none
  | _, _ => none
def ownAt (ρ : Env) (i : Nat) : Option D := match ρ[i]? with | some (.bx d) => some d | _ => none
def appD : D → D → Option D
  | .lst xs, x => if xs.length < line then some (.lst (xs ++ [x])) else none
  | _, _ => none

def evR (Γ : Sem) : List E → Env → T (List Rs)
  | [], _ => .ret []
  | e :: es, ρ => (ev Γ e false ρ).bind fun x => (evR Γ es ρ).bind fun xs => .ret (x :: xs)

/-- what a def hands back: its own list goes with it -/
def evRet (Γ : Sem) (e : E) (ρ : Env) : T Rs :=
  match e with
  | .v i => match ownAt ρ i with
    | some d => T.ret (d, true)
    | none => ev Γ (.v i) false ρ
  | e => ev Γ e false ρ
mutual
def exec (Γ : Sem) : S → Env → T Xs
  | .asg t e, ρ => (ev Γ e false ρ).bind fun x => (T.ofO (asgT t x.1 ρ)).bind fun ρ' => .ret (.nx, ρ')
  | .box i b e, ρ => (ev Γ e false ρ).bind fun x => setS ρ i (boxS ρ i b x)
  | .par is es, ρ => (evR Γ es ρ).bind fun xs => parS is xs ρ
  | .setix i k e, ρ => (ev Γ e false ρ).bind fun x => (ev Γ k true ρ).bind fun y => (T.ofO ((ownAt ρ i).bind fun d => setD d y.1 x.1)).bind fun d => setS ρ i (.bx d)
  | .app i e, ρ => (ev Γ e false ρ).bind fun x => (T.ofO ((ownAt ρ i).bind fun d => appD d x.1)).bind fun d => setS ρ i (.bx d)
  | .popto t i k, ρ => (evs Γ k true ρ).bind fun ks => (T.ofO ((ownAt ρ i).bind fun d => popD d ks)).bind fun p => (T.ofO (asgT t p.1 (ρ.set i (.bx p.2)))).bind fun ρ' => .ret (.nx, ρ')
  | .apppop o i k, ρ => (evs Γ k true ρ).bind fun ks => (T.ofO ((ownAt ρ i).bind fun d => popD d ks)).bind fun p =>
      (T.ofO ((ownAt ρ o).bind fun d => appD d p.1)).bind fun d => if o = i then .err else setS (ρ.set i (.bx p.2)) o (.bx d)
  | .ifs c a b, ρ => (blT (ev Γ c true ρ)).bind fun k => cond k (execs Γ a ρ) (execs Γ b ρ)
  | .whl f c b, ρ => whlL (fun ρ => blT (ev Γ c true ρ)) (fun ρ => execs Γ b ρ) f ρ
  | .forr t sk ses b, ρ => (evS Γ ses ρ).bind fun xs => (T.ofO (srcD sk xs)).bind fun its =>
      (forL (fun x ρ => (T.ofO (asgT t x ρ)).bind fun ρ' => execs Γ b ρ') its (lockS ses ρ)).bind fun r => .ret (r.1, unlockS ρ ses r.2)
  | .ret e, ρ => (evRet Γ e ρ).bind fun x => .ret (.rt x, ρ)
  | .retN, ρ => .ret (.rt (.non, false), ρ)
  | .brk, ρ => .ret (.bk, ρ)
  | .cont, ρ => .ret (.ct, ρ)
  | .pass, ρ => .ret (.nx, ρ)
  | .drop e, ρ => (ev Γ e true ρ).bind fun _ => .ret (.nx, ρ)
  | .frz i, ρ => match ρ[i]? with
    | some (.bx d) => .ret (.nx, ρ.set i (.pl d))
    | _ => .ret (.nx, ρ)
def execs (Γ : Sem) : List S → Env → T Xs
  | [], ρ => .ret (.nx, ρ)
  | s :: ss, ρ => (exec Γ s ρ).bind fun r => match r.1 with
    | .nx => execs Γ ss r.2
    | _ => .ret r
end
/-- a def: its body over its arguments and n more slots -/
def run (Γ : Sem) (b : List S) (n : Nat) (as : List Arg) : T Rs :=
  (execs Γ b (bindA as ++ List.replicate n .no)).bind fun r => match r.1 with
    | .rt x => .ret x
    | .nx => .ret (.non, false)
    | _ => .err
end FF

set_option Elab.async false
set_option linter.all false
set_option maxRecDepth 100000
set_option maxHeartbeats 4000000
/-! FF1: how plain data stand in the abstract heap. -/
namespace FF
open PySem PySem.Spec PyProof.Rows L2

abbrev Fg := PySem.W.Frag
/-- what never changes -/
def imm : HO → Bool
  | .tup _ => true
  | .frz _ _ => true
  | _ => false
/-- only at C has the heap changed, and new objects may be there -/
def Ch (C : Addr → Prop) (H H' : Hp) : Prop := ∀ p o, H p = some o → (C p → imm o = true) → H' p = some o
theorem Ch.refl {C : Addr → Prop} {H : Hp} : Ch C H H := fun _ _ h _ => h
theorem Ch.trans {C : Addr → Prop} {H H1 H2 : Hp} (a : Ch C H H1) (b : Ch C H1 H2) : Ch C H H2 := fun p o h i => b p o (a p o h i) i
theorem Ch.mono {C C' : Addr → Prop} {H H1 : Hp} (a : Ch C H H1) (h : ∀ p, C p → C' p) : Ch C' H H1 := fun p o e i => a p o e fun c => i (h p c)
theorem Ch.fresh {C : Addr → Prop} {H H1 : Hp} {p : Addr} (a : Ch C H H1) (hc : ¬ C p) (h : H1 p = none) : H p = none := by
  cases q : H p with
  | none => rfl
  | some o => rw [a p o q fun c => (hc c).elim] at h; cases h
theorem Ch.new {C : Addr → Prop} {H : Hp} {p : Addr} {o : HO} (h : H p = none) : Ch C H (upd H p o) := fun q u e _ => by
  rw [upd_ne (ne_of_none e h)]; exact e
theorem Ch.put {C : Addr → Prop} {H : Hp} {p : Addr} {o u : HO} (h : H p = some u) (hu : imm u = false) (c : C p) : Ch C H (upd H p o) := fun q w e i => by
  by_cases hq : q = p
  · subst hq; rw [h] at e; cases e; rw [i c] at hu; cases hu
  · rw [upd_ne hq]; exact e

mutual
def Rep (K : Fg) (B : Addr → Prop) (H : Hp) : D → V → Prop
  | .non, v => v = .non
  | .bl b, v => v = .bl b
  | .int i, v => v = .int i
  | .str s, v => v = .str ⟨s.toArray⟩ ∧ s.length ≤ sizeLine
  | .lst xs, v => ∃ p vs, v = .ref p ∧ ¬ B p ∧ H p = some (.lst vs) ∧ vs.length ≤ sizeLine ∧ Reps K B H xs vs
  | .tup xs, v => ∃ p vs, v = .ref p ∧ SqT K H p vs ∧ vs.length ≤ sizeLine ∧ Reps K B H xs vs
  | .dic _ _, _ => False
def Reps (K : Fg) (B : Addr → Prop) (H : Hp) : List D → List V → Prop
  | [], vs => vs = []
  | x :: xs, vs => ∃ v r, vs = v :: r ∧ Rep K B H x v ∧ Reps K B H xs r
end

section
variable {K : Fg} {B B' : Addr → Prop} {H H' : Hp}
theorem SqT.ch {C : Addr → Prop} {p : Addr} {vs : List V} (h : SqT K H p vs) (c : Ch C H H') : SqT K H' p vs := by
  rcases h with (h | ⟨o, h⟩) | h
  · exact .inl (.inl (c _ _ h fun _ => rfl))
  · exact .inl (.inr ⟨o, c _ _ h fun _ => rfl⟩)
  · exact .inr h
mutual
theorem Rep.ch {C : Addr → Prop} (c : Ch C H H') (hB : ∀ p, C p → B p) : ∀ (d : D) (v : V), Rep K B H d v → Rep K B H' d v
  | .non, _, h => h
  | .bl _, _, h => h
  | .int _, _, h => h
  | .str _, _, h => h
  | .lst xs, v, ⟨p, vs, e, nb, hp, hl, hr⟩ => ⟨p, vs, e, nb, c _ _ hp fun z => (nb (hB _ z)).elim, hl, Reps.ch c hB xs vs hr⟩
  | .tup xs, v, ⟨p, vs, e, hp, hl, hr⟩ => ⟨p, vs, e, SqT.ch hp c, hl, Reps.ch c hB xs vs hr⟩
  | .dic _ _, _, h => h
theorem Reps.ch {C : Addr → Prop} (c : Ch C H H') (hB : ∀ p, C p → B p) : ∀ (xs : List D) (vs : List V), Reps K B H xs vs → Reps K B H' xs vs
  | [], _, h => h
  | x :: xs, vs, ⟨v, r, e, h1, h2⟩ => ⟨v, r, e, Rep.ch c hB x v h1, Reps.ch c hB xs r h2⟩
end
mutual
theorem Rep.less (hB : ∀ p, (∃ o, H p = some o) → B' p → B p) : ∀ (d : D) (v : V), Rep K B H d v → Rep K B' H d v
  | .non, _, h => h
  | .bl _, _, h => h
  | .int _, _, h => h
  | .str _, _, h => h
  | .lst xs, v, ⟨p, vs, e, nb, hp, hl, hr⟩ => ⟨p, vs, e, fun z => nb (hB p ⟨_, hp⟩ z), hp, hl, Reps.less hB xs vs hr⟩
  | .tup xs, v, ⟨p, vs, e, hp, hl, hr⟩ => ⟨p, vs, e, hp, hl, Reps.less hB xs vs hr⟩
  | .dic _ _, _, h => h
theorem Reps.less (hB : ∀ p, (∃ o, H p = some o) → B' p → B p) : ∀ (xs : List D) (vs : List V), Reps K B H xs vs → Reps K B' H xs vs
  | [], _, h => h
  | x :: xs, vs, ⟨v, r, e, h1, h2⟩ => ⟨v, r, e, Rep.less hB x v h1, Reps.less hB xs r h2⟩
end
end
/-! ### data at a later heap -/
mutual
theorem Rep.later {K : Fg} {B B' C : Addr → Prop} {H H' : Hp} (c : Ch C H H') (hC : ∀ p, C p → B p ∨ H p = none) (hB : ∀ p, B' p → B p ∨ H p = none) : ∀ (d : D) (v : V), Rep K B H d v → Rep K B' H' d v
  | .non, _, h => h
  | .bl _, _, h => h
  | .int _, _, h => h
  | .str _, _, h => h
  | .lst xs, v, ⟨p, vs, e, nb, hp, hl, hr⟩ => by
    have nz : ∀ {Z : Addr → Prop}, (∀ p, Z p → B p ∨ H p = none) → ¬ Z p := fun hZ z => (hZ p z).elim nb fun q => by rw [hp] at q; cases q
    exact ⟨p, vs, e, nz hB, c _ _ hp fun z => (nz hC z).elim, hl, Reps.later c hC hB xs vs hr⟩
  | .tup xs, v, ⟨p, vs, e, hp, hl, hr⟩ => ⟨p, vs, e, SqT.ch hp c, hl, Reps.later c hC hB xs vs hr⟩
  | .dic _ _, _, h => h
theorem Reps.later {K : Fg} {B B' C : Addr → Prop} {H H' : Hp} (c : Ch C H H') (hC : ∀ p, C p → B p ∨ H p = none) (hB : ∀ p, B' p → B p ∨ H p = none) : ∀ (xs : List D) (vs : List V), Reps K B H xs vs → Reps K B' H' xs vs
  | [], _, h => h
  | x :: xs, vs, ⟨v, r, e, h1, h2⟩ => ⟨v, r, e, Rep.later c hC hB x v h1, Reps.later c hC hB xs r h2⟩
end

section
variable {K : Fg} {B B' : Addr → Prop} {H H' : Hp}
theorem Reps.length : ∀ {xs : List D} {vs : List V}, Reps K B H xs vs → vs.length = xs.length
  | [], _, h => by rw [show _ = _ from h]; rfl
  | x :: xs, _, ⟨v, r, e, _, h2⟩ => by rw [e, List.length_cons, List.length_cons, Reps.length h2]
theorem Reps.get : ∀ {xs : List D} {vs : List V} {i : Nat} {d : D}, Reps K B H xs vs → xs[i]? = some d → ∃ v, vs[i]? = some v ∧ Rep K B H d v
  | x :: xs, _, 0, d, ⟨v, r, e, h1, _⟩, q => by
    simp at q; subst q; exact ⟨v, by rw [e]; rfl, h1⟩
  | x :: xs, _, i + 1, d, ⟨v, r, e, _, h2⟩, q => by
    obtain ⟨u, h3, h4⟩ := Reps.get (i := i) h2 (by simpa using q)
    exact ⟨u, by rw [e]; simpa using h3, h4⟩
theorem Reps.append : ∀ {xs ys : List D} {vs ws : List V}, Reps K B H xs vs → Reps K B H ys ws → Reps K B H (xs ++ ys) (vs ++ ws)
  | [], _, _, _, h, g => by rw [show _ = _ from h]; exact g
  | x :: xs, _, _, _, ⟨v, r, e, h1, h2⟩, g => ⟨v, r ++ _, by rw [e]; rfl, h1, Reps.append h2 g⟩
theorem Reps.drop : ∀ {xs : List D} {vs : List V} (n : Nat), Reps K B H xs vs → Reps K B H (xs.drop n) (vs.drop n)
  | _, _, 0, h => h
  | [], _, n + 1, h => by rw [show _ = _ from h]; rfl
  | x :: xs, _, n + 1, ⟨v, r, e, h1, h2⟩ => by rw [e]; exact Reps.drop n h2
theorem Reps.take : ∀ {xs : List D} {vs : List V} (n : Nat), Reps K B H xs vs → Reps K B H (xs.take n) (vs.take n)
  | _, _, 0, h => rfl
  | [], _, n + 1, h => by rw [show _ = _ from h]; rfl
  | x :: xs, _, n + 1, ⟨v, r, e, h1, h2⟩ => ⟨v, r.take n, by rw [e]; rfl, h1, Reps.take n h2⟩
theorem Reps.set : ∀ {xs : List D} {vs : List V} (i : Nat) {d : D} {v : V}, Reps K B H xs vs → Rep K B H d v → Reps K B H (xs.set i d) (vs.set i v)
  | [], _, i, _, _, h, _ => by rw [show _ = _ from h]; rfl
  | x :: xs, _, 0, _, _, ⟨v, r, e, h1, h2⟩, g => ⟨_, r, by rw [e]; rfl, g, h2⟩
  | x :: xs, _, i + 1, _, _, ⟨v, r, e, h1, h2⟩, g => ⟨v, _, by rw [e]; rfl, h1, Reps.set i h2 g⟩
theorem Reps.eraseIdx : ∀ {xs : List D} {vs : List V} (i : Nat), Reps K B H xs vs → Reps K B H (xs.eraseIdx i) (vs.eraseIdx i)
  | [], _, i, h => by rw [show _ = _ from h]; rfl
  | x :: xs, _, 0, ⟨v, r, e, h1, h2⟩ => by rw [e]; exact h2
  | x :: xs, _, i + 1, ⟨v, r, e, h1, h2⟩ => ⟨v, _, by rw [e]; rfl, h1, Reps.eraseIdx i h2⟩
theorem Reps.one {x : D} {v : V} (h : Rep K B H x v) : Reps K B H [x] [v] := ⟨v, [], rfl, h, rfl⟩
theorem Reps.reverse : ∀ {xs : List D} {vs : List V}, Reps K B H xs vs → Reps K B H xs.reverse vs.reverse
  | [], _, h => by rw [show _ = _ from h]; rfl
  | x :: xs, _, ⟨v, r, e, h1, h2⟩ => by rw [e, List.reverse_cons, List.reverse_cons]; exact Reps.append (Reps.reverse h2) (.one h1)
theorem Reps.rep {xs : List D} {vs : List V} (h : Reps K B H xs vs) : ∀ k : Nat, Reps K B H (List.replicate k xs).flatten (List.replicate k vs).flatten
  | 0 => rfl
  | k + 1 => by rw [List.replicate_succ, List.replicate_succ, List.flatten_cons, List.flatten_cons]; exact Reps.append h (Reps.rep h k)
/-- what is looked at: data, or a list of one's own -/
def Look (K : Fg) (B : Addr → Prop) (st : Option Addr) (H : Hp) : D → V → Prop
  | .lst xs, v => ∃ p vs, v = .ref p ∧ st ≠ some p ∧ H p = some (.lst vs) ∧ vs.length ≤ sizeLine ∧ Reps K B H xs vs
  | d, v => Rep K B H d v
theorem Rep.look {st : Option Addr} {d : D} {v : V} (hB : ∀ p, st = some p → B p) (h : Rep K B H d v) : Look K B st H d v := by
  cases d with
  | lst xs => obtain ⟨p, vs, e, nb, hp, hl, hr⟩ := h; exact ⟨p, vs, e, fun z => nb (hB p z), hp, hl, hr⟩
  | _ => exact h
theorem Look.ch {st : Option Addr} {d : D} {v : V} (hB : ∀ p, st = some p → B p) (c : Ch (fun p => st = some p) H H') (h : Look K B st H d v) : Look K B st H' d v := by
  cases d with
  | lst xs => obtain ⟨p, vs, e, nb, hp, hl, hr⟩ := h; exact ⟨p, vs, e, nb, c _ _ hp fun z => (nb z).elim, hl, Reps.ch c hB _ _ hr⟩
  | _ => exact Rep.ch c hB _ _ h
/-- a new list -/
def New (K : Fg) (B : Addr → Prop) (H H' : Hp) (d : D) (v : V) : Prop := ∃ xs p vs, d = .lst xs ∧ v = .ref p ∧ H p = none ∧ ¬ B p ∧ H' p = some (.lst vs) ∧ vs.length ≤ sizeLine ∧ Reps K (fun q => B q ∨ q = p) H' xs vs
theorem New.rep {d : D} {v : V} (h : New K B H H' d v) : Rep K B H' d v := by
  obtain ⟨xs, p, vs, rfl, e, _, nb, hp, hl, hr⟩ := h
  exact ⟨p, vs, e, nb, hp, hl, Reps.less (fun _ _ z => Or.inl z) _ _ hr⟩
/-- how an expression's value stands; m: it may be a list of one's own -/
def Res (K : Fg) (B : Addr → Prop) (st : Option Addr) (m : Bool) (r : Rs) (H H' : Hp) (v : V) : Prop :=
  if r.2 = true then New K B H H' r.1 v else if m = true then Look K B st H' r.1 v else Rep K B H' r.1 v
theorem Res.rep {st : Option Addr} {r : Rs} {v : V} (h : Res K B st false r H H' v) : Rep K B H' r.1 v := by
  unfold Res at h
  split at h
  · exact h.rep
  · exact h
theorem Res.look {st : Option Addr} {m : Bool} {r : Rs} {v : V} (hB : ∀ p, st = some p → B p) (h : Res K B st m r H H' v) : Look K B st H' r.1 v := by
  unfold Res at h
  split at h
  · exact h.rep.look hB
  · split at h
    · exact h
    · exact h.look hB
theorem Res.of {st : Option Addr} {m : Bool} {d : D} {v : V} (hB : ∀ p, st = some p → B p) (h : Rep K B H' d v) : Res K B st m (d, false) H H' v := by
  unfold Res
  rw [if_neg Bool.false_ne_true]
  split
  · exact h.look hB
  · exact h
theorem Res.new {st : Option Addr} {m : Bool} {d : D} {v : V} (h : New K B H H' d v) : Res K B st m (d, true) H H' v := by
  unfold Res; rw [if_pos rfl]; exact h
end

/-- the state: a list of two ints -/
def StOk (st : Option Addr) (H : Hp) : Prop := ∀ p, st = some p → ∃ k v : Int, H p = some (.lst [.int k, .int v])
theorem StOk.ch {st : Option Addr} {H : Hp} (S : StOk st H) {p : Addr} {o : HO} (hp : H p = none) : StOk st (upd H p o) := fun q e => by
  obtain ⟨k, v, h⟩ := S q e
  exact ⟨k, v, by rw [upd_ne (ne_of_none h hp)]; exact h⟩
def Scr (K : Fg) (H : Hp) (v : V) : Prop := ∃ (a : Addr) (ns : List Int), v = .ref a ∧ ns.length ≤ 63 ∧ ((∃ o, H a = some (.frz o (.lst (ns.map V.int)))) ∨ ∀ H', SqL K H' a (ns.map V.int))
theorem Scr.ch {K : Fg} {C : Addr → Prop} {H H' : Hp} {v : V} (h : Scr K H v) (c : Ch C H H') : Scr K H' v := by
  obtain ⟨a, ns, e, l, h | h⟩ := h
  · obtain ⟨o, h⟩ := h
    exact ⟨a, ns, e, l, .inl ⟨o, c _ _ h fun _ => rfl⟩⟩
  · exact ⟨a, ns, e, l, .inr h⟩

/-- an own list, at its address -/
def BoxOk (K : Fg) (B : Addr → Prop) (H : Hp) (p : Addr) : D → Prop
  | .lst xs => ∃ vs, H p = some (.lst vs) ∧ vs.length ≤ sizeLine ∧ Reps K B H xs vs
  | _ => False
def badOf (B0 : Addr → Prop) (st : Option Addr) (fp : Nat → Option Addr) : Addr → Prop := fun p => B0 p ∨ st = some p ∨ ∃ i, fp i = some p

def SlotOk (K : Fg) (B : Addr → Prop) (st : Option Addr) (fp : Nat → Option Addr) (H : Hp) (i : Nat) (x : Option (Option V)) : Slot → Prop
  | .no => True
  | .pl d => ∃ v, x = some (some v) ∧ Rep K B H d v
  | .bx d => ∃ p, fp i = some p ∧ x = some (some (.ref p)) ∧ BoxOk K B H p d
  | .lk d => ∃ p, fp i = some p ∧ x = some (some (.ref p)) ∧ BoxOk K B H p d
  | .st => ∃ p, st = some p ∧ x = some (some (.ref p))
  | .scr => ∃ v, x = some (some v) ∧ Scr K H v
/-- the slots and the heap -/
structure Rel (K : Fg) (B0 : Addr → Prop) (st : Option Addr) (fp : Nat → Option Addr) (ρ : Env) (σ : L2.St) (H : Hp) : Prop where
  len : ρ.length = σ.length
  slot : ∀ i s, ρ[i]? = some s → SlotOk K (badOf B0 st fp) st fp H i σ[i]? s
  own : ∀ i p, fp i = some p → ∃ d, ρ[i]? = some (.bx d) ∨ ρ[i]? = some (.lk d)
  nb : ∀ i p, fp i = some p → ¬ B0 p ∧ st ≠ some p
  inj : ∀ i j p, fp i = some p → fp j = some p → i = j
  dom : ∀ p, B0 p → ∃ o, H p = some o
  st0 : ∀ p, st = some p → ¬ B0 p
  sok : StOk st H

section
variable {K : Fg} {B0 : Addr → Prop} {st : Option Addr} {fp : Nat → Option Addr} {ρ : Env} {σ : L2.St} {H H' : Hp}
abbrev Cs (st : Option Addr) : Addr → Prop := fun p => st = some p
theorem BoxOk.ch {B : Addr → Prop} {p : Addr} {d : D} (h : BoxOk K B H p d) (c : Ch (Cs st) H H') (hp : st ≠ some p) (hB : ∀ p, st = some p → B p) : BoxOk K B H' p d := by
  cases d with
  | lst xs => obtain ⟨vs, e, l, r⟩ := h; exact ⟨vs, c _ _ e fun z => (hp z).elim, l, Reps.ch c hB _ _ r⟩
  | _ => exact h.elim
theorem bad_st {p : Addr} (h : st = some p) : badOf B0 st fp p := .inr (.inl h)
theorem Rel.boxAt (R : Rel K B0 st fp ρ σ H) {i : Nat} {p : Addr} (h : fp i = some p) : ∃ xs vs, (ρ[i]? = some (.bx (.lst xs)) ∨ ρ[i]? = some (.lk (.lst xs))) ∧ H p = some (.lst vs) := by
  obtain ⟨d, e⟩ := R.own i p h
  have ok : BoxOk K (badOf B0 st fp) H p d := by
    rcases e with e | e
    · obtain ⟨q, h1, _, h3⟩ := R.slot i _ e
      rw [h] at h1; cases h1; exact h3
    · obtain ⟨q, h1, _, h3⟩ := R.slot i _ e
      rw [h] at h1; cases h1; exact h3
  cases d with
  | lst xs => obtain ⟨vs, e2, _⟩ := ok; exact ⟨xs, vs, e, e2⟩
  | _ => exact ok.elim
theorem Rel.dom' (R : Rel K B0 st fp ρ σ H) {p : Addr} (h : badOf B0 st fp p) : ∃ o, H p = some o := by
  rcases h with h | h | ⟨i, h⟩
  · exact R.dom p h
  · obtain ⟨k, v, e⟩ := R.sok p h; exact ⟨_, e⟩
  · obtain ⟨_, vs, _, e⟩ := R.boxAt h; exact ⟨_, e⟩
theorem Rel.nbad (R : Rel K B0 st fp ρ σ H) {p : Addr} (h : H p = none) : ¬ badOf B0 st fp p := fun z => by
  obtain ⟨o, e⟩ := R.dom' z; rw [h] at e; cases e
/-- behind an expression -/
theorem Rel.mono (R : Rel K B0 st fp ρ σ H) (c : Ch (Cs st) H H') (S : StOk st H') : Rel K B0 st fp ρ σ H' := by
  refine ⟨R.len, fun i s e => ?_, R.own, R.nb, R.inj, fun p hp => ?_, R.st0, S⟩
  · have h := R.slot i s e
    cases s with
    | no => exact h
    | pl d => obtain ⟨v, e1, r⟩ := h; exact ⟨v, e1, Rep.ch c (fun _ => bad_st) _ _ r⟩
    | bx d => obtain ⟨p, f, e1, r⟩ := h; exact ⟨p, f, e1, r.ch c (R.nb i p f).2 fun _ => bad_st⟩
    | lk d => obtain ⟨p, f, e1, r⟩ := h; exact ⟨p, f, e1, r.ch c (R.nb i p f).2 fun _ => bad_st⟩
    | st => exact h
    | scr => obtain ⟨v, e1, r⟩ := h; exact ⟨v, e1, r.ch c⟩
  · obtain ⟨o, e⟩ := R.dom p hp
    exact ⟨o, c p o e fun z => (R.st0 p z hp).elim⟩
end
end FF

set_option Elab.async false
set_option linter.all false
set_option maxRecDepth 100000
set_option maxHeartbeats 4000000
/-! FF2: operators, by data. -/
namespace FF
open PySem PySem.Spec PyProof.Rows L2

/-- the heap may have been changed at the state alone; the value stands as r says -/
def Fin (K : Fg) (B : Addr → Prop) (st : Option Addr) (m : Bool) (r : Rs) (H : Hp) (Q : VK) : Prop := ∀ v H', Ch (Cs st) H H' → StOk st H' → Res K B st m r H H' v → Q v H'
structure Gd (B : Addr → Prop) (st : Option Addr) (H : Hp) : Prop where
  stb : ∀ p, st = some p → B p
  dom : ∀ p, B p → ∃ o, H p = some o
  sok : StOk st H
section
variable {K : Fg} {B : Addr → Prop} {st : Option Addr} {H H' : Hp} {m : Bool} {r : Rs} {Q : VK} {v : V}
theorem Gd.nb (g : Gd B st H) {p : Addr} (h : H p = none) : ¬ B p := fun z => by obtain ⟨o, e⟩ := g.dom p z; rw [h] at e; cases e
/-- a value without an object -/
theorem Fin.same (f : Fin K B st m (d, false) H Q) (g : Gd B st H) (h : Rep K B H d v) : Q v H := f v H .refl g.sok (.of g.stb h)
theorem Fin.list {xs : List D} {vs : List V} {p : Addr} (f : Fin K B st m (.lst xs, true) H Q) (g : Gd B st H) (hp : H p = none) (hl : vs.length ≤ sizeLine) (h : Reps K B H xs vs) : Q (.ref p) (upd H p (.lst vs)) :=
  f _ _ (Ch.new hp) (g.sok.ch hp) (.new ⟨xs, p, vs, rfl, rfl, hp, g.nb hp, upd_same, hl, Reps.later (C := fun _ => False) (Ch.new hp) (fun _ z => z.elim) (fun q z => z.elim Or.inl fun z => Or.inr (by rw [z]; exact hp)) _ _ h⟩)
theorem Fin.tup {xs : List D} {vs : List V} {p : Addr} (f : Fin K B st m (.tup xs, false) H Q) (g : Gd B st H) (hp : H p = none) (hl : vs.length ≤ sizeLine) (h : Reps K B H xs vs) : Q (.ref p) (upd H p (.tup vs)) :=
  f _ _ (Ch.new hp) (g.sok.ch hp) (.of g.stb ⟨p, vs, rfl, .inl (.inl upd_same), hl, Reps.ch (C := fun _ => False) (Ch.new hp) (fun _ z => z.elim) _ _ h⟩)
end
theorem line_eq : sizeLine = line := by rw [sizeLine_eq]; rfl

/-! ### bounds of ints -/
theorem nat2_pos (n : Nat) : 0 < 2 ^ n := Nat.pow_pos (by decide)
theorem pow_max {m n : Nat} : 2 ^ m ≤ 2 ^ max m n ∧ 2 ^ n ≤ 2 ^ max m n := ⟨Nat.pow_le_pow_right (by decide) (Nat.le_max_left _ _), Nat.pow_le_pow_right (by decide) (Nat.le_max_right _ _)⟩
theorem bd_add {i j : Int} {m n : Nat} (h : i.natAbs < 2 ^ m) (g : j.natAbs < 2 ^ n) : (i + j).natAbs < 2 ^ (max m n + 1) := by
  have := @pow_max m n
  rw [Nat.pow_succ]
  omega
theorem bd_sub {i j : Int} {m n : Nat} (h : i.natAbs < 2 ^ m) (g : j.natAbs < 2 ^ n) : (i - j).natAbs < 2 ^ (max m n + 1) := by
  have := @pow_max m n
  rw [Nat.pow_succ]
  omega
theorem bd_mul {i j : Int} {m n : Nat} (h : i.natAbs < 2 ^ m) (g : j.natAbs < 2 ^ n) : (i * j).natAbs < 2 ^ (m + n) := wide_lt h g
theorem bits_le {i : Int} {n : Nat} (h : i.natAbs < 2 ^ n) : Builtin.Int.intBits i ≤ n := by
  unfold Builtin.Int.intBits
  split
  · exact Nat.zero_le _
  · rename_i q
    have q0 : i.natAbs ≠ 0 := fun z => q (by have : i = 0 := by omega
                                             simp [this])
    exact Nat.succ_le_of_lt ((Nat.log2_lt q0).mpr h)
theorem mul_ok {i j : Int} {m n : Nat} (h : i.natAbs < 2 ^ m) (g : j.natAbs < 2 ^ n) (c : m ≤ 64 ∨ n ≤ 64 ∨ m + n ≤ wide) : IntMulOk i j := by
  rcases c with c | c | c
  · exact .of_left (Nat.le_trans (bits_le h) c)
  · exact .of_right (Nat.le_trans (bits_le g) c)
  · exact .of_le (bits_le h) (bits_le g) c
theorem fmod_lt (i : Int) {j : Int} (hj : j ≠ 0) : (i.fmod j).natAbs < j.natAbs := by
  rw [Int.fmod_eq_emod]
  have h1 := Int.emod_nonneg i hj
  have h2 : i % j < (j.natAbs : Int) := by
    rcases Int.lt_or_gt_of_ne hj with q | q
    · have := Int.emod_lt_of_neg i q; omega
    · have := Int.emod_lt_of_pos i q; omega
  split
  · omega
  · rename_i q
    have q1 : ¬ 0 ≤ j := fun z => q (.inl z)
    have q2 : i % j ≠ 0 := fun z => q (.inr (Int.dvd_of_emod_eq_zero z))
    omega
theorem bd_fdiv {i j : Int} {m : Nat} (h : i.natAbs < 2 ^ m) (hj : j ≠ 0) : (i.fdiv j).natAbs < 2 ^ (m + 1) := by
  have e := Int.mul_fdiv_add_fmod i j
  have hm := fmod_lt i hj
  have a : (j * i.fdiv j).natAbs = j.natAbs * (i.fdiv j).natAbs := Int.natAbs_mul _ _
  have j1 : 1 ≤ j.natAbs := by omega
  -- |j| |q| ≤ |i| + |r| < 2^m + |j|
  have b : j.natAbs * (i.fdiv j).natAbs < 2 ^ m + j.natAbs := by rw [← a]; omega
  rw [Nat.pow_succ]
  by_cases q : (i.fdiv j).natAbs ≤ 1
  · have := nat2_pos m; omega
  · have c : j.natAbs * ((i.fdiv j).natAbs - 1) < 2 ^ m := by rw [Nat.mul_sub, Nat.mul_one]; omega
    have d : (i.fdiv j).natAbs - 1 ≤ j.natAbs * ((i.fdiv j).natAbs - 1) := Nat.le_mul_of_pos_left _ j1
    omega
theorem bd_fmod {i j : Int} {n : Nat} (g : j.natAbs < 2 ^ n) (hj : j ≠ 0) : (i.fmod j).natAbs < 2 ^ n := by
  exact Nat.lt_trans (fmod_lt i hj) g
theorem natAbs_pow (i : Int) : ∀ k : Nat, (i ^ k).natAbs = i.natAbs ^ k
  | 0 => by simp
  | k + 1 => by rw [Int.pow_succ, Int.natAbs_mul, natAbs_pow i k, Nat.pow_succ]
theorem bd_pow {i : Int} {m k : Nat} (h : i.natAbs < 2 ^ m) : (i ^ k).natAbs < 2 ^ (m * k + 1) := by
  rw [natAbs_pow, Nat.pow_succ, Nat.pow_mul]
  have a : i.natAbs ^ k ≤ (2 ^ m) ^ k := Nat.pow_le_pow_left (Nat.le_of_lt h) k
  have := nat2_pos m
  have b : 0 < (2 ^ m) ^ k := Nat.pow_pos this
  omega
theorem nb_ok (i : Int) : i.natAbs < 2 ^ nb i := by
  unfold nb
  exact Nat.lt_log2_self

/-! ### binary operators -/
/-- a two-place operation, by data -/
def r2D (K : Fg) (f : D → D → Option Rs) : R2 := fun v w H Q => ∃ (B : Addr → Prop) (st : Option Addr) (m : Bool) (x y : D) (r : Rs), Gd B st H ∧ Look K B st H x v ∧ Look K B st H y w ∧ f x y = some r ∧ Fin K B st m r H Q
section
variable {X : Cx}
theorem log2_of {j : Int} {n : Nat} (h : j.natAbs < 2 ^ n) (h9 : n ≤ 9000) : j.natAbs.log2 < 9000 := by
  by_cases q : j.natAbs = 0
  · rw [q]; decide +kernel
  · exact Nat.lt_of_lt_of_le ((Nat.log2_lt q).mpr h) h9
theorem bin_add : OpR X (binaryOp .Add) (r2D X.K (binD .add)) := by
  intro pins s σ H v w vv wv Q I rv rw' ⟨B, st, m, x, y, r, g, lx, ly, e, q⟩
  cases x with
  | int i =>
    cases y with
    | int j =>
      obtain rfl := lx
      have bi := nb_ok i
      obtain rfl := ly
      have bj := nb_ok j
      simp only [binD, Option.some.injEq] at e
      subst e
      exact op_add pins s σ H _ _ vv wv Q I rv rw' ⟨i, j, rfl, rfl, q.same g rfl⟩
    | _ => simp [binD] at e
  | str a =>
    cases y with
    | str b =>
      obtain ⟨rfl, la⟩ := lx
      obtain ⟨rfl, lb⟩ := ly
      simp only [binD] at e
      split at e
      · rename_i hz
        simp only [Option.some.injEq] at e
        subst e
        refine op_add_str pins s σ H _ _ vv wv Q I rv rw' ⟨_, _, rfl, rfl, by rw [line_eq]; simpa [Str.length] using hz, q.same g ⟨?_, by rw [line_eq, List.length_append]; exact hz⟩⟩
        show V.str (_ : Str) = V.str _
        congr 1
        show (Str.mk (a.toArray ++ b.toArray)) = _
        rw [List.append_toArray]
      · cases e
    | _ => simp [binD] at e
  | lst xs =>
    cases y with
    | lst ys =>
      obtain ⟨p, vs, rfl, _, hp, hl, hr⟩ := lx
      obtain ⟨p', vs', rfl, _, hp', hl', hr'⟩ := ly
      simp only [binD] at e
      split at e
      · rename_i hz
        simp only [Option.some.injEq] at e
        subst e
        have hz' : vs.length + vs'.length ≤ sizeLine := by rw [line_eq, hr.length, hr'.length]; exact hz
        exact op_cat pins s σ H _ _ vv wv Q I rv rw' ⟨p, p', vs, vs', rfl, rfl, hp, hp', hz', fun d hd => q.list g hd (by rw [List.length_append]; exact hz') (hr.append hr')⟩
      · cases e
    | _ => simp [binD] at e
  | tup xs =>
    cases y with
    | tup ys =>
      obtain ⟨p, vs, rfl, hp, hl, hr⟩ := lx
      obtain ⟨p', vs', rfl, hp', hl', hr'⟩ := ly
      simp only [binD] at e
      split at e
      · rename_i hz
        simp only [Option.some.injEq] at e
        subst e
        have hz' : vs.length + vs'.length ≤ sizeLine := by rw [line_eq, hr.length, hr'.length]; exact hz
        refine op_catA pins s σ H _ _ vv wv Q I rv rw' ⟨p, p', vs, vs', rfl, rfl, hp, hp', hz', fun e0 => ?_, fun _ e0 => ?_, fun _ _ d hd => q.tup g hd (by rw [List.length_append]; exact hz') (hr.append hr')⟩
        · subst e0
          have e1 : xs = [] := by have := hr.length; cases xs with | nil => rfl | cons _ _ => simp at this
          subst e1
          exact q.same g ⟨p', vs', rfl, hp', hl', hr'⟩
        · subst e0
          have e1 : ys = [] := by have := hr'.length; cases ys with | nil => rfl | cons _ _ => simp at this
          subst e1
          rw [List.append_nil] at q
          exact q.same g ⟨p, vs, rfl, hp, hl, hr⟩
      · cases e
    | _ => simp [binD] at e
  | _ => simp [binD] at e
theorem bin_sub : OpR X (binaryOp .Sub) (r2D X.K (binD .sub)) := by
  intro pins s σ H v w vv wv Q I rv rw' ⟨B, st, m, x, y, r, g, lx, ly, e, q⟩
  cases x with
  | int i =>
    cases y with
    | int j =>
      obtain rfl := lx
      have bi := nb_ok i
      obtain rfl := ly
      have bj := nb_ok j
      simp only [binD, Option.some.injEq] at e
      subst e
      exact op_sub pins s σ H _ _ vv wv Q I rv rw' ⟨i, j, rfl, rfl, q.same g rfl⟩
    | _ => simp [binD] at e
  | _ => simp [binD] at e
theorem bin_mul : OpR X (binaryOp .Mult) (r2D X.K (binD .mul)) := by
  intro pins s σ H v w vv wv Q I rv rw' ⟨B, st, m, x, y, r, g, lx, ly, e, q⟩
  cases x with
  | int i =>
    cases y with
    | int j =>
      obtain rfl := lx
      have bi := nb_ok i
      obtain rfl := ly
      have bj := nb_ok j
      simp only [binD] at e
      split at e
      · rename_i hz
        simp only [Option.some.injEq] at e
        subst e
        have op : OpR X (binaryOp .Mult) (rI IntMulOk fun i j => .int (i * j)) := opI fun _ _ _ _ _ _ _ hc q => mul_int q hc
        exact op pins s σ H _ _ vv wv Q I rv rw' ⟨i, j, rfl, rfl, mul_ok bi bj hz, q.same g rfl⟩
      · cases e
    | _ => simp [binD] at e
  | lst xs =>
    cases y with
    | int j =>
      obtain ⟨p, vs, rfl, _, hp, hl, hr⟩ := lx
      obtain rfl := ly
      have bj := nb_ok j
      simp only [binD] at e
      split at e
      · rename_i hz
        simp only [Option.some.injEq] at e
        subst e
        obtain ⟨hz, h1, h2⟩ := hz
        have hz' : vs.length * j.toNat ≤ sizeLine := by rw [line_eq, hr.length]; exact hz
        refine op_rep pins s σ H _ _ vv wv Q I rv rw' ⟨p, j, vs, rfl, rfl, hp, by omega, by omega, hz', fun d hd => q.list g hd ?_ (hr.rep _)⟩
        rw [List.length_flatten, List.map_replicate, List.sum_replicate_nat]
        rw [Nat.mul_comm]; exact hz'
      · cases e
    | _ => simp [binD] at e
  | _ => simp [binD] at e
theorem bin_fdiv : OpR X (binaryOp .FloorDiv) (r2D X.K (binD .fdiv)) := by
  intro pins s σ H v w vv wv Q I rv rw' ⟨B, st, m, x, y, r, g, lx, ly, e, q⟩
  cases x with
  | int i =>
    cases y with
    | int j =>
      obtain rfl := lx
      have bi := nb_ok i
      obtain rfl := ly
      have bj := nb_ok j
      simp only [binD] at e
      split at e
      · rename_i hz
        simp only [Option.some.injEq] at e
        subst e
        have op : OpR X (binaryOp .FloorDiv) (rI (fun _ j => j ≠ 0 ∧ j.natAbs.log2 < 9000) fun i j => .int (i.fdiv j)) := opI fun _ _ _ _ _ _ _ hc q => floordiv_int hc.1 q (.inl (PyProof.noPylong_of_log2 hc.2))
        exact op pins s σ H _ _ vv wv Q I rv rw' ⟨i, j, rfl, rfl, ⟨hz.1, log2_of bj hz.2⟩, q.same g rfl⟩
      · cases e
    | _ => simp [binD] at e
  | _ => simp [binD] at e
theorem bin_mod : OpR X (binaryOp .Mod) (r2D X.K (binD .mod)) := by
  intro pins s σ H v w vv wv Q I rv rw' ⟨B, st, m, x, y, r, g, lx, ly, e, q⟩
  cases x with
  | int i =>
    cases y with
    | int j =>
      obtain rfl := lx
      have bi := nb_ok i
      obtain rfl := ly
      have bj := nb_ok j
      simp only [binD] at e
      split at e
      · rename_i hz
        simp only [Option.some.injEq] at e
        subst e
        exact op_modN pins s σ H _ _ vv wv Q I rv rw' ⟨i, j, rfl, rfl, hz, q.same g rfl⟩
      · cases e
    | _ => simp [binD] at e
  | _ => simp [binD] at e
theorem bin_pow : OpR X (binaryOp .Pow) (r2D X.K (binD .pow)) := by
  intro pins s σ H v w vv wv Q I rv rw' ⟨B, st, m, x, y, r, g, lx, ly, e, q⟩
  cases x with
  | int i =>
    cases y with
    | int j =>
      obtain rfl := lx
      have bi := nb_ok i
      obtain rfl := ly
      have bj := nb_ok j
      simp only [binD] at e
      split at e
      · rename_i hz
        simp only [Option.some.injEq] at e
        subst e
        refine op_pow pins s σ H _ _ vv wv Q I rv rw' ⟨i, j, rfl, rfl, ⟨hz.1, hz.2.1, Nat.lt_of_lt_of_le bi (Nat.pow_le_pow_right (by decide) hz.2.2)⟩, q.same g rfl⟩
      · cases e
    | _ => simp [binD] at e
  | _ => simp [binD] at e
end
end FF

set_option Elab.async false
set_option linter.all false
set_option maxRecDepth 100000
set_option maxHeartbeats 4000000
/-! FF3: comparisons, places, built-ins, by data. -/
namespace FF
open PySem PySem.Spec PyProof.Rows L2

/-! ### == -/
mutual
def toPy : D → PyData
  | .non => .none
  | .bl b => .bool b
  | .int i => .int i
  | .str s => .str ⟨s.toArray⟩
  | .lst xs => .list (toPys xs)
  | .tup xs => .tuple (toPys xs)
  | .dic _ _ => .none
def toPys : List D → List PyData
  | [] => []
  | x :: xs => toPy x :: toPys xs
end
mutual
theorem dp_rep {K : Fg} {B : Addr → Prop} {H : Hp} : ∀ (n : Nat) (d : D) (v : V), flat n d = true → Rep K B H d v → Dp K H v (toPy d)
  | _, .non, _, _, h => by rw [show _ = _ from h]; exact .non
  | _, .bl b, _, _, h => by rw [show _ = _ from h]; exact .bl b
  | _, .int i, _, _, h => by rw [show _ = _ from h]; exact .int i
  | _, .str s, _, _, h => by rw [show _ = _ from h.1]; exact .str _
  | n + 1, .lst xs, _, f, ⟨p, vs, e, _, hp, _, hr⟩ => by rw [e]; exact .lst (SqL.of hp) (dp_reps n xs vs (by simpa [flat] using f) hr)
  | n + 1, .tup xs, _, f, ⟨p, vs, e, hp, _, hr⟩ => by rw [e]; exact .tup hp (dp_reps n xs vs (by simpa [flat] using f) hr)
  | 0, .lst _, _, f, _ => by simp [flat] at f
  | 0, .tup _, _, f, _ => by simp [flat] at f
  | _, .dic _ _, _, _, h => h.elim
theorem dp_reps {K : Fg} {B : Addr → Prop} {H : Hp} : ∀ (n : Nat) (xs : List D) (vs : List V), flats n xs = true → Reps K B H xs vs → DpAll K H vs (toPys xs)
  | _, [], _, _, h => by rw [show _ = _ from h]; exact .nil
  | n, x :: xs, _, f, ⟨v, r, e, h1, h2⟩ => by
    have f' : flat n x = true ∧ flats n xs = true := by simpa [flats] using f
    rw [e]; exact .cons (dp_rep n x v f'.1 h1) (dp_reps n xs r f'.2 h2)
end
theorem dp_look {K : Fg} {B : Addr → Prop} {st : Option Addr} {H : Hp} {n : Nat} {d : D} {v : V} (f : flat n d = true) (h : Look K B st H d v) : Dp K H v (toPy d) := by
  cases d with
  | lst xs =>
    obtain ⟨p, vs, e, _, hp, _, hr⟩ := h
    cases n with
    | zero => simp [flat] at f
    | succ n => rw [e]; exact .lst (SqL.of hp) (dp_reps n xs vs (by simpa [flat] using f) hr)
  | non => exact dp_rep (B := B) n _ v f h
  | bl _ => exact dp_rep (B := B) n _ v f h
  | int _ => exact dp_rep (B := B) n _ v f h
  | str _ => exact dp_rep (B := B) n _ v f h
  | tup _ => exact dp_rep (B := B) n _ v f h
  | dic _ _ => exact dp_rep (B := B) n _ v f h
mutual
theorem lay_of : ∀ (n : Nat) (d : D), flat n d = true → (toPy d).canLay0 = true ∧ (toPy d).depth ≤ n
  | _, .non, _ => by simp [toPy, PyData.canLay0, PyData.depth]
  | _, .bl _, _ => by simp [toPy, PyData.canLay0, PyData.depth]
  | _, .int _, _ => by simp [toPy, PyData.canLay0, PyData.depth]
  | n, .str s, f => by
    have f' : s.all (· < 1114112) = true := by cases n <;> simpa [flat] using f
    simp only [toPy, PyData.canLay0, PyData.depth, Nat.zero_le, and_true]
    unfold PyData.strOk
    simpa using f'
  | n + 1, .lst xs, f => by
    have := lays_of n xs (by simpa [flat] using f)
    simp only [toPy, PyData.canLay0, PyData.depth]
    exact ⟨this.1, by omega⟩
  | n + 1, .tup xs, f => by
    have := lays_of n xs (by simpa [flat] using f)
    simp only [toPy, PyData.canLay0, PyData.depth]
    exact ⟨this.1, by omega⟩
  | 0, .lst _, f => by simp [flat] at f
  | 0, .tup _, f => by simp [flat] at f
  | n, .dic _ _, f => by cases n <;> simp [flat] at f
theorem lays_of : ∀ (n : Nat) (xs : List D), flats n xs = true → PyData.canLayAll0 (toPys xs) = true ∧ PyData.depthAll (toPys xs) ≤ n
  | _, [], _ => by simp [toPys, PyData.canLayAll0, PyData.depthAll]
  | n, x :: xs, f => by
    have f' : flat n x = true ∧ flats n xs = true := by simpa [flats] using f
    have h1 := lay_of n x f'.1
    have h2 := lays_of n xs f'.2
    simp only [toPys, PyData.canLayAll0, PyData.depthAll, h1.1, h2.1, Bool.and_self, true_and]
    omega
end
theorem shaped_of {d : D} (f : flat 50 d = true) : SeqAt.shaped (toPy d) = true := by
  have h := lay_of 50 d f
  exact Bool.and_eq_true_iff.mpr ⟨h.1, decide_eq_true (by omega)⟩
theorem shapeds_of {xs : List D} (f : flats 50 xs = true) : SeqAt.shaped (.list (toPys xs)) = true := by
  have h := lays_of 50 xs f
  refine Bool.and_eq_true_iff.mpr ⟨by simp only [PyData.canLay0]; exact h.1, decide_eq_true ?_⟩
  simp only [PyData.depth]
  omega
mutual
theorem eqv_of : ∀ (a b : D) (r : Bool), eqD a b = some r → PyData.eqv (toPy a) (toPy b) = r
  | .non, b, r, h => by cases b <;> simp [eqD] at h <;> subst h <;> simp [toPy, PyData.eqv]
  | .bl x, b, r, h => by cases b <;> simp [eqD] at h <;> subst h <;> simp [toPy, PyData.eqv, Bool.beq_eq_decide_eq]
  | .int i, b, r, h => by cases b <;> simp [eqD] at h <;> subst h <;> simp [toPy, PyData.eqv, Bool.beq_eq_decide_eq]
  | .str s, b, r, h => by
    cases b with
    | str t =>
      simp only [eqD, Option.some.injEq] at h
      subst h
      simp only [toPy, PyData.eqv]
      rw [Bool.eq_iff_iff, beq_iff_eq, decide_eq_true_iff]
      exact ⟨fun e => by simpa using congrArg Array.toList (Str.mk.inj e), fun e => by rw [e]⟩
    | _ => simp [eqD] at h <;> subst h <;> simp [toPy, PyData.eqv]
  | .lst xs, b, r, h => by
    cases b with
    | lst ys => simp only [eqD] at h; simp only [toPy, PyData.eqv]; exact eqvs_of xs ys r h
    | _ => simp [eqD] at h <;> subst h <;> simp [toPy, PyData.eqv]
  | .tup xs, b, r, h => by
    cases b with
    | tup ys => simp only [eqD] at h; simp only [toPy, PyData.eqv]; exact eqvs_of xs ys r h
    | _ => simp [eqD] at h <;> subst h <;> simp [toPy, PyData.eqv]
  | .dic _ _, b, r, h => by cases b <;> simp [eqD] at h
theorem eqvs_of : ∀ (xs ys : List D) (r : Bool), eqDs xs ys = some r → PyData.eqvAll (toPys xs) (toPys ys) = r
  | [], [], r, h => by simp [eqDs] at h; subst h; simp [toPys, PyData.eqvAll]
  | [], _ :: _, r, h => by simp [eqDs] at h; subst h; simp [toPys, PyData.eqvAll]
  | _ :: _, [], r, h => by simp [eqDs] at h; subst h; simp [toPys, PyData.eqvAll]
  | x :: xs, y :: ys, r, h => by
    simp only [eqDs, Option.bind_eq_some_iff, Option.map_eq_some_iff] at h
    obtain ⟨a, h1, b, h2, rfl⟩ := h
    simp only [toPys, PyData.eqvAll]
    rw [eqv_of x y a h1, eqvs_of xs ys b h2]
end
theorem eqT_spec {a b : D} {r : Bool} (h : eqT a b = some r) : flat 50 a = true ∧ flat 50 b = true ∧ PyData.eqv (toPy a) (toPy b) = r := by
  unfold eqT at h
  split at h
  · rename_i hf
    rw [Bool.and_eq_true] at hf
    exact ⟨hf.1, hf.2, eqv_of a b r h⟩
  · cases h
theorem anyEq_spec {y : D} : ∀ {xs : List D} {r : Bool}, anyEq y xs = some r → ((toPys xs).any fun z => PyData.eqv z (toPy y)) = r
  | [], r, h => by simp [anyEq] at h; subst h; rfl
  | x :: xs, r, h => by
    simp only [anyEq, Option.bind_eq_some_iff, Option.map_eq_some_iff] at h
    obtain ⟨a, h1, b, h2, rfl⟩ := h
    simp only [toPys, List.any_cons]
    rw [eqv_of x y a h1, anyEq_spec h2]

/-! ### comparisons, by data -/
def rCmp (K : Fg) (o : Cop) : R2 := fun v w H Q => ∃ (B : Addr → Prop) (st : Option Addr) (x y : D) (r : Bool), Gd B st H ∧ Look K B st H x v ∧ Look K B st H y w ∧ cmpD o x y = some r ∧ Q (.bl r) H
def copOf : Cop → CmpOp
  | .eq => .Eq | .ne => .NotEq | .lt => .Lt | .le => .LtE | .gt => .Gt | .ge => .GtE | .isN => .Is | .notN => .IsNot | .inn => .In | .nin => .NotIn
section
variable {X : Cx}
theorem isN_rep {K : Fg} {B : Addr → Prop} {st : Option Addr} {H : Hp} {d : D} {v : V} (h : Look K B st H d v) : decide (v = .non) = isNon d := by
  cases d with
  | non => rw [show _ = _ from h]; rfl
  | bl b => rw [show _ = _ from h]; rfl
  | int i => rw [show _ = _ from h]; rfl
  | str s => rw [show _ = _ from h.1]; rfl
  | lst xs => obtain ⟨p, vs, e, _⟩ := h; rw [e]; rfl
  | tup xs => obtain ⟨p, vs, e, _⟩ := h; rw [e]; rfl
  | dic _ _ => exact (show False from h).elim
theorem dp_seq {K : Fg} {B : Addr → Prop} {st : Option Addr} {H : Hp} {xs : List D} {w : V} (f : flats 50 xs = true) (h : Look K B st H (.lst xs) w) : Dp K H w (.list (toPys xs)) := by
  obtain ⟨p, vs, e, _, hp, _, hr⟩ := h
  rw [e]; exact .lst (SqL.of hp) (dp_reps 50 xs vs f hr)
theorem dp_seqT {K : Fg} {B : Addr → Prop} {st : Option Addr} {H : Hp} {xs : List D} {w : V} (f : flats 50 xs = true) (h : Look K B st H (.tup xs) w) : Dp K H w (.tuple (toPys xs)) := by
  obtain ⟨p, vs, e, hp, _, hr⟩ := h
  rw [e]; exact .tup hp (dp_reps 50 xs vs f hr)
theorem shapedsT_of {xs : List D} (f : flats 50 xs = true) : SeqAt.shaped (.tuple (toPys xs)) = true := by
  have h := lays_of 50 xs f
  refine Bool.and_eq_true_iff.mpr ⟨by simp only [PyData.canLay0]; exact h.1, decide_eq_true ?_⟩
  simp only [PyData.depth]
  omega
theorem inSeq_spec {a : D} {xs : List D} {r : Bool} (e : inSeq a xs = some r) : flat 50 a = true ∧ flats 50 xs = true ∧ ((toPys xs).any fun z => PyData.eqv z (toPy a)) = r := by
  unfold inSeq at e
  split at e
  · rename_i hf
    rw [Bool.and_eq_true] at hf
    exact ⟨hf.1, hf.2, anyEq_spec e⟩
  · cases e
theorem cmp_ok (hu : X.A.units + 65 < cLine) (o : Cop) : OpR X (compareOp (copOf o)) (rCmp X.K o) := by
  intro pins s σ H v w vv wv Q I rv rw' ⟨B, st, x, y, r, g, lx, ly, e, q⟩
  cases o with
  | eq =>
    obtain ⟨f1, f2, ev⟩ := eqT_spec (show eqT x y = some r from e)
    exact op_eqD (by omega) pins s σ H _ _ vv wv Q I rv rw' ⟨_, _, dp_look f1 lx, dp_look f2 ly, shaped_of f1, shaped_of f2, by rw [ev]; exact q⟩
  | ne =>
    obtain ⟨r', e', rfl⟩ := Option.map_eq_some_iff.mp (show (eqT x y).map (!·) = some r from e)
    obtain ⟨f1, f2, ev⟩ := eqT_spec e'
    exact op_neD (by omega) pins s σ H _ _ vv wv Q I rv rw' ⟨_, _, dp_look f1 lx, dp_look f2 ly, shaped_of f1, shaped_of f2, by rw [ev]; exact q⟩
  | isN =>
    cases y with
    | non =>
      simp only [cmpD, Option.some.injEq] at e
      subst e
      refine op_isN pins s σ H _ _ vv wv Q I rv rw' ⟨ly, ?_⟩
      rw [isN_rep lx]; exact q
    | _ => simp [cmpD] at e
  | notN =>
    cases y with
    | non =>
      simp only [cmpD, Option.some.injEq] at e
      subst e
      refine op_notN pins s σ H _ _ vv wv Q I rv rw' ⟨ly, ?_⟩
      rw [isN_rep lx]; exact q
    | _ => simp [cmpD] at e
  | inn =>
    cases y with
    | lst xs =>
      obtain ⟨f1, f2, ev⟩ := inSeq_spec (show inSeq x xs = some r from e)
      exact op_inD hu pins s σ H _ _ vv wv Q I rv rw' ⟨_, _, dp_look f1 lx, dp_seq f2 ly, shaped_of f1, shapeds_of f2, by rw [ev]; exact q⟩
    | tup xs =>
      obtain ⟨f1, f2, ev⟩ := inSeq_spec (show inSeq x xs = some r from e)
      obtain ⟨as, r1⟩ := Dp.reads I _ _ vv (dp_look f1 lx) rv
      obtain ⟨bs, r2⟩ := Dp.reads I (.tuple (toPys xs)) _ wv (dp_seqT f2 ly) rw'
      exact SeqAt.in_tuple_reads r2 r1 (SeqAt.canLay_of_shaped (shapedsT_of f2)) (SeqAt.canLay_of_shaped (shaped_of f1)) (room_in_shaped (shaped_of f1) hu) ⟨.bl _, H, I, rfl, by rw [ev]; exact q⟩
    | _ => simp [cmpD] at e
  | nin =>
    cases y with
    | lst xs =>
      obtain ⟨r', e', rfl⟩ := Option.map_eq_some_iff.mp (show (inSeq x xs).map (!·) = some r from e)
      obtain ⟨f1, f2, ev⟩ := inSeq_spec e'
      exact op_notInD hu pins s σ H _ _ vv wv Q I rv rw' ⟨_, _, dp_look f1 lx, dp_seq f2 ly, shaped_of f1, shapeds_of f2, by rw [ev]; exact q⟩
    | tup xs =>
      obtain ⟨r', e', rfl⟩ := Option.map_eq_some_iff.mp (show (inSeq x xs).map (!·) = some r from e)
      obtain ⟨f1, f2, ev⟩ := inSeq_spec e'
      obtain ⟨as, r1⟩ := Dp.reads I _ _ vv (dp_look f1 lx) rv
      obtain ⟨bs, r2⟩ := Dp.reads I (.tuple (toPys xs)) _ wv (dp_seqT f2 ly) rw'
      exact SeqAt.notIn_tuple_reads r2 r1 (SeqAt.canLay_of_shaped (shapedsT_of f2)) (SeqAt.canLay_of_shaped (shaped_of f1)) (room_in_shaped (shaped_of f1) hu) ⟨.bl _, H, I, rfl, by rw [ev]; exact q⟩
    | _ => simp [cmpD] at e
  | _ =>
    cases x with
    | int i =>
      cases y with
      | int j =>
        obtain rfl := lx
        obtain rfl := ly
        simp only [cmpD, Option.some.injEq] at e
        subst e
        first
          | exact op_lt pins s σ H _ _ vv wv Q I rv rw' ⟨i, j, rfl, rfl, q⟩
          | exact op_le pins s σ H _ _ vv wv Q I rv rw' ⟨i, j, rfl, rfl, q⟩
          | exact op_gt pins s σ H _ _ vv wv Q I rv rw' ⟨i, j, rfl, rfl, q⟩
          | exact op_ge pins s σ H _ _ vv wv Q I rv rw' ⟨i, j, rfl, rfl, q⟩
      | _ => simp [cmpD] at e
    | _ => simp [cmpD] at e

/-! ### places -/
theorem ixAt_ixN {α : Type} {xs : List α} {i : Int} {d : α} (h : ixAt xs i = some d) : ∃ j, ixN xs.length i = some j ∧ xs[j]? = some d := by
  unfold ixAt at h
  unfold ixN
  split at h
  · rename_i h0
    rw [if_pos h0]
    have hl : i.toNat < xs.length := by
      rcases Nat.lt_or_ge i.toNat xs.length with q | q
      · exact q
      · rw [List.getElem?_eq_none q] at h; cases h
    rw [if_pos (by omega)]
    exact ⟨_, rfl, h⟩
  · rename_i h0
    rw [if_neg h0]
    split at h
    · rename_i h1
      rw [if_pos h1]
      exact ⟨_, rfl, h⟩
    · cases h
theorem atI_of {K : Fg} {B : Addr → Prop} {H : Hp} {xs : List D} {vs : List V} {i : Int} {d : D} (r : Reps K B H xs vs) (h : ixAt xs i = some d) : ∃ v, atI vs i = some v ∧ Rep K B H d v := by
  obtain ⟨j, h1, h2⟩ := ixAt_ixN h
  obtain ⟨v, h3, h4⟩ := r.get h2
  refine ⟨v, ?_, h4⟩
  unfold atI
  rw [r.length, h1]
  exact h3
def rIxAll (K : Fg) : R2 := fun v w H Q => ∃ (B : Addr → Prop) (st : Option Addr) (m : Bool) (x y d : D), Gd B st H ∧ Look K B st H x v ∧ Look K B st H y w ∧ ixD x y = some d ∧ Fin K B st m (d, false) H Q
theorem ix_ok : IxR X (rIxAll X.K) := by
  intro val slc pins s σ H v w vv wv Q I rv rw' ⟨B, st, m, x, y, d, g, lx, ly, e, q⟩ hs
  cases x with
  | lst xs =>
    cases y with
    | int i =>
      obtain ⟨p, vs, rfl, _, hp, hl, hr⟩ := lx
      obtain rfl := ly
      obtain ⟨z, h1, h2⟩ := atI_of hr (show ixAt xs i = some d from e)
      exact ix_list val slc pins s σ H _ _ vv wv Q I rv rw' ⟨p, vs, i, z, rfl, rfl, SqL.of hp, h1, q.same g h2⟩ hs
    | _ => simp [ixD] at e
  | tup xs =>
    cases y with
    | int i =>
      obtain ⟨p, vs, rfl, hp, hl, hr⟩ := lx
      obtain rfl := ly
      obtain ⟨z, h1, h2⟩ := atI_of hr (show ixAt xs i = some d from e)
      exact ix_tup val slc pins s σ H _ _ vv wv Q I rv rw' ⟨p, vs, i, z, rfl, rfl, hp, h1, q.same g h2⟩ hs
    | _ => simp [ixD] at e
  | str a =>
    cases y with
    | int i =>
      obtain ⟨rfl, la⟩ := lx
      obtain rfl := ly
      obtain ⟨c, h1, rfl⟩ := Option.map_eq_some_iff.mp (show (ixAt a i).map (fun c => D.str [c]) = some d from e)
      obtain ⟨j, h2, h3⟩ := ixAt_ixN h1
      refine ix_str val slc pins s σ H _ _ vv wv Q I rv rw' ⟨_, i, c, rfl, rfl, by simpa [Str.length] using la, ?_, q.same g ⟨rfl, show 1 ≤ sizeLine by rw [sizeLine_eq]; decide⟩⟩ hs
      unfold atI
      simp only [List.toList_toArray]
      rw [h2]; exact h3
    | _ => simp [ixD] at e
  | dic _ _ => exact (show False from lx).elim
  | _ => simp [ixD] at e
theorem sIx_eq (n d : Nat) (o : Option Int) : HT.sIx n d o = sIx n d o := by cases o <;> rfl
theorem cutV_reps {K : Fg} {B : Addr → Prop} {H : Hp} {xs : List D} {vs : List V} (r : Reps K B H xs vs) (lo hi : Option Int) : Reps K B H (cut xs lo hi) (cutV vs lo hi) := by
  unfold cut cutV
  rw [sIx_eq, sIx_eq, r.length]
  exact Reps.take _ (Reps.drop _ r)
theorem cut_whole {α : Type} {xs : List α} {lo hi : Option Int} (h : sIx xs.length 0 lo = 0 ∧ sIx xs.length xs.length hi = xs.length) : cut xs lo hi = xs := by
  unfold cut
  rw [h.1, h.2]; simp
def rSlAll (K : Fg) : V → Option Int → Option Int → Hp → VK → Prop := fun v lo hi H Q => ∃ (B : Addr → Prop) (st : Option Addr) (m : Bool) (x : D) (r : Rs), Gd B st H ∧ Look K B st H x v ∧ slD x lo hi = some r ∧ Fin K B st m r H Q
theorem sl_ok : SlR X (rSlAll X.K) := by
  intro pins s σ H v vv vl vu lo hi sl Q I rv hs pl pu ⟨B, st, m, x, r, g, lx, e, q⟩
  cases x with
  | lst xs =>
    obtain ⟨p, vs, rfl, _, hp, hl, hr⟩ := lx
    simp only [slD, Option.some.injEq] at e
    subst e
    exact sl_list pins s σ H _ vv vl vu lo hi sl Q I rv hs pl pu ⟨p, vs, rfl, SqL.of hp, fun d hd => q.list g hd (Nat.le_trans (cutV_length _ _ _) hl) (cutV_reps hr lo hi)⟩
  | tup xs =>
    obtain ⟨p, vs, rfl, hp, hl, hr⟩ := lx
    simp only [slD, Option.some.injEq] at e
    subst e
    refine sl_tupA pins s σ H _ vv vl vu lo hi sl Q I rv hs pl pu ⟨p, vs, rfl, hp, fun hw => ?_, fun _ d hd => q.tup g hd (Nat.le_trans (cutV_length _ _ _) hl) (cutV_reps hr lo hi)⟩
    rw [sIx_eq, sIx_eq, hr.length] at hw
    rw [cut_whole hw] at q
    exact q.same g ⟨p, vs, rfl, hp, hl, hr⟩
  | str a =>
    obtain ⟨rfl, la⟩ := lx
    simp only [slD, Option.some.injEq] at e
    subst e
    refine sl_str pins s σ H _ vv vl vu lo hi sl Q I rv hs pl pu ⟨_, rfl, by simpa [Str.length] using la, q.same g ⟨?_, ?_⟩⟩
    · unfold cutS cut
      simp only [sIx_eq, Str.length, List.size_toArray, List.toList_toArray]
    · unfold cut
      refine Nat.le_trans ?_ la
      rw [List.length_take, List.length_drop]; omega
  | dic _ _ => exact (show False from lx).elim
  | _ => simp [slD] at e

/-! ### truth -/
theorem truth_ok {K : Fg} {B : Addr → Prop} {st : Option Addr} {H : Hp} {d : D} {v : V} {b : Bool} (h : Look K B st H d v) (e : truth d = some b) : TruV K v H b := by
  cases d with
  | non => rw [show _ = _ from h]; simp only [truth, Option.some.injEq] at e; exact e.symm
  | bl _ => rw [show _ = _ from h]; simp only [truth, Option.some.injEq] at e; exact e.symm
  | int _ => rw [show _ = _ from h]; simp only [truth, Option.some.injEq] at e; exact e.symm
  | str s =>
    rw [show _ = _ from h.1]
    simp only [truth, Option.some.injEq] at e
    refine ⟨by simpa [Str.length] using h.2, ?_⟩
    subst e
    cases s with
    | nil => rfl
    | cons a t =>
      simp only [Str.length, List.size_toArray, List.length_cons, List.isEmpty_cons, Bool.not_false]
      symm
      rw [bne_iff_ne]
      omega
  | lst xs =>
    obtain ⟨p, vs, rfl, _, hp, _, hr⟩ := h
    simp only [truth, Option.some.injEq] at e
    refine .inl ⟨vs, SqL.of hp, ?_⟩
    subst e
    have := hr.length
    cases xs <;> cases vs <;> simp_all
  | tup xs =>
    obtain ⟨p, vs, rfl, hp, _, hr⟩ := h
    simp only [truth, Option.some.injEq] at e
    refine .inr (.inl ⟨vs, hp, ?_⟩)
    subst e
    have := hr.length
    cases xs <;> cases vs <;> simp_all
  | dic _ _ => exact (show False from h).elim
end
end FF

set_option Elab.async false
set_option linter.all false
set_option maxRecDepth 100000
set_option maxHeartbeats 4000000
/-! FF4: calls of built-ins, by data. -/
namespace FF
open PySem PySem.Spec PyProof.Rows L2

def Looks (K : Fg) (B : Addr → Prop) (st : Option Addr) (H : Hp) : List D → List V → Prop
  | [], vs => vs = []
  | x :: xs, vs => ∃ v r, vs = v :: r ∧ Look K B st H x v ∧ Looks K B st H xs r
def rBi (K : Fg) (b : Bi) : List V → Hp → VK → Prop := fun vs H Q => ∃ (B : Addr → Prop) (st : Option Addr) (m : Bool) (ds : List D) (r : Rs), Gd B st H ∧ Looks K B st H ds vs ∧ biD b ds = some r ∧ Fin K B st m r H Q

theorem ints_of {K : Fg} {B : Addr → Prop} {H : Hp} : ∀ {xs : List D} {vs : List V} {p : List Int}, Reps K B H xs vs → intsOf xs = some p → vs = p.map V.int
  | [], _, p, h, e => by
    simp only [intsOf, Option.some.injEq] at e
    subst e
    exact h
  | x :: xs, _, p, ⟨v, r, e1, h1, h2⟩, e => by
    cases x with
    | int i =>
      obtain ⟨q, e2, rfl⟩ := Option.map_eq_some_iff.mp (show (intsOf xs).map (i :: ·) = some p from e)
      rw [e1, ints_of h2 e2, show _ = _ from h1]; rfl
    | _ => simp [intsOf] at e
theorem bls_of {K : Fg} {B : Addr → Prop} {H : Hp} : ∀ {xs : List D} {vs : List V} {p : List Bool}, Reps K B H xs vs → blsOf xs = some p → vs = p.map V.bl
  | [], _, p, h, e => by
    simp only [blsOf, Option.some.injEq] at e
    subst e; exact h
  | x :: xs, _, p, ⟨v, r, e1, h1, h2⟩, e => by
    cases x with
    | bl b =>
      obtain ⟨q, e2, rfl⟩ := Option.map_eq_some_iff.mp (show (blsOf xs).map (b :: ·) = some p from e)
      rw [e1, bls_of h2 e2, show _ = _ from h1]; rfl
    | _ => simp [blsOf] at e
theorem maxI_spec : ∀ (l : List Int) (m : Int), maxI m l ∈ m :: l ∧ ∀ y ∈ m :: l, y ≤ maxI m l
  | [], m => ⟨by simp [maxI], fun y hy => by simp at hy; simp [maxI, hy]⟩
  | x :: l, m => by
    have h := maxI_spec l (if m < x then x else m)
    simp only [maxI]
    refine ⟨?_, fun y hy => ?_⟩
    · rcases List.mem_cons.mp h.1 with e | e
      · rw [e]; split <;> simp
      · exact List.mem_cons_of_mem _ (List.mem_cons_of_mem _ e)
    · have h0 := h.2 _ List.mem_cons_self
      rcases List.mem_cons.mp hy with rfl | hy
      · refine Int.le_trans ?_ h0; split <;> omega
      · rcases List.mem_cons.mp hy with rfl | hy
        · refine Int.le_trans ?_ h0; split <;> omega
        · exact h.2 y (List.mem_cons_of_mem _ hy)
theorem minI_spec : ∀ (l : List Int) (m : Int), minI m l ∈ m :: l ∧ ∀ y ∈ m :: l, minI m l ≤ y
  | [], m => ⟨by simp [minI], fun y hy => by simp at hy; simp [minI, hy]⟩
  | x :: l, m => by
    have h := minI_spec l (if x < m then x else m)
    simp only [minI]
    refine ⟨?_, fun y hy => ?_⟩
    · rcases List.mem_cons.mp h.1 with e | e
      · rw [e]; split <;> simp
      · exact List.mem_cons_of_mem _ (List.mem_cons_of_mem _ e)
    · have h0 := h.2 _ List.mem_cons_self
      rcases List.mem_cons.mp hy with rfl | hy
      · refine Int.le_trans h0 ?_; split <;> omega
      · rcases List.mem_cons.mp hy with rfl | hy
        · refine Int.le_trans h0 ?_; split <;> omega
        · exact h.2 y (List.mem_cons_of_mem _ hy)

theorem looks1 {K : Fg} {B : Addr → Prop} {st : Option Addr} {H : Hp} {d : D} {vs : List V} (h : Looks K B st H [d] vs) : ∃ v, vs = [v] ∧ Look K B st H d v := by
  obtain ⟨v, r, e, h1, h2⟩ := h
  rw [show _ = _ from h2] at e
  exact ⟨v, e, h1⟩
theorem looks2 {K : Fg} {B : Addr → Prop} {st : Option Addr} {H : Hp} {d e : D} {vs : List V} (h : Looks K B st H [d, e] vs) : ∃ v w, vs = [v, w] ∧ Look K B st H d v ∧ Look K B st H e w := by
  obtain ⟨v, r, e, h1, h2⟩ := h
  obtain ⟨w, rfl, h3⟩ := looks1 h2
  exact ⟨v, w, e, h1, h3⟩
section
variable {X : Cx}
theorem bi_len : CallR X (.builtin "len") (rBi X.K .len) := by
  intro pins s σ H vs us Q I rv ⟨B, st, m, ds, r, g, lk, e, q⟩
  rcases ds with _ | ⟨d, _ | ⟨d2, ds⟩⟩
  · simp [biD] at e
  · obtain ⟨v, rfl, l1⟩ := looks1 lk
    cases d with
    | lst xs =>
      obtain ⟨p, ws, rfl, _, hp, hl, hr⟩ := l1
      simp only [biD, Option.some.injEq] at e
      subst e
      refine call_len pins s σ H _ us Q I rv ⟨_, _, rfl, .inl ⟨ws, SqL.of hp, rfl⟩, ?_⟩
      rw [hr.length]
      exact q.same g rfl
    | tup xs =>
      obtain ⟨p, ws, rfl, hp, hl, hr⟩ := l1
      simp only [biD, Option.some.injEq] at e
      subst e
      refine call_len pins s σ H _ us Q I rv ⟨_, _, rfl, .inr ⟨ws, hp, rfl⟩, ?_⟩
      rw [hr.length]
      exact q.same g rfl
    | str a =>
      obtain ⟨rfl, la⟩ := l1
      simp only [biD, Option.some.injEq] at e
      subst e
      refine call_len pins s σ H _ us Q I rv ⟨_, _, rfl, ⟨by simpa [Str.length] using la, rfl⟩, ?_⟩
      simp only [Str.length, List.size_toArray]
      exact q.same g rfl
    | _ => simp [biD] at e
  · cases d <;> simp [biD] at e
theorem bi_abs : CallR X (.builtin "abs") (rBi X.K .abs) := by
  intro pins s σ H vs us Q I rv ⟨B, st, m, ds, r, g, lk, e, q⟩
  rcases ds with _ | ⟨d, _ | ⟨d2, ds⟩⟩
  · simp [biD] at e
  · obtain ⟨v, rfl, l1⟩ := looks1 lk
    cases d with
    | int i =>
      obtain rfl := l1
      simp only [biD, Option.some.injEq] at e
      subst e
      exact call_abs pins s σ H _ us Q I rv ⟨i, rfl, q.same g rfl⟩
    | _ => simp [biD] at e
  · cases d <;> simp [biD] at e
theorem bi_sum (hc : X.calm = true) : CallR X (.builtin "sum") (rBi X.K .sum) := by
  intro pins s σ H vs us Q I rv ⟨B, st, m, ds, r, g, lk, e, q⟩
  rcases ds with _ | ⟨d, _ | ⟨d2, ds⟩⟩
  · simp [biD] at e
  · obtain ⟨v, rfl, l1⟩ := looks1 lk
    cases d with
    | lst xs =>
      obtain ⟨p, ws, rfl, _, hp, hl, hr⟩ := l1
      obtain ⟨t, e1, rfl⟩ := Option.map_eq_some_iff.mp (show (intsOf xs).map _ = some r from e)
      have g1 := ints_of hr e1
      subst g1
      refine cr_sum hc pins s σ H _ us Q I rv ⟨p, t, rfl, SqL.of hp, q.same g rfl⟩
    | _ => simp [biD] at e
  · cases d <;> simp [biD] at e
theorem bi_max (hc : X.calm = true) : CallR X (.builtin "max") (rBi X.K .max) := by
  intro pins s σ H vs us Q I rv ⟨B, st, m, ds, r, g, lk, e, q⟩
  rcases ds with _ | ⟨d, _ | ⟨d2, ds⟩⟩
  · simp [biD] at e
  · obtain ⟨v, rfl, l1⟩ := looks1 lk
    cases d with
    | lst xs =>
      obtain ⟨p, ws, rfl, _, hp, hl, hr⟩ := l1
      obtain ⟨t, e1, e2⟩ := Option.bind_eq_some_iff.mp (show (intsOf xs).bind _ = some r from e)
      have g1 := ints_of hr e1
      subst g1
      cases t with
      | nil => simp at e2
      | cons x l =>
        simp only [Option.some.injEq] at e2
        subst e2
        refine cr_max hc pins s σ H _ us Q I rv ⟨p, x :: l, rfl, SqL.of hp, by simp, fun z hz hy => ?_⟩
        have sp := maxI_spec l x
        have ez : z = maxI x l := Int.le_antisymm (sp.2 z hz) (hy _ sp.1)
        subst ez
        exact q.same g rfl
    | _ => simp [biD] at e
  · cases d <;> simp [biD] at e
theorem bi_min (hc : X.calm = true) : CallR X (.builtin "min") (rBi X.K .min) := by
  intro pins s σ H vs us Q I rv ⟨B, st, m, ds, r, g, lk, e, q⟩
  rcases ds with _ | ⟨d, _ | ⟨d2, ds⟩⟩
  · simp [biD] at e
  · obtain ⟨v, rfl, l1⟩ := looks1 lk
    cases d with
    | lst xs =>
      obtain ⟨p, ws, rfl, _, hp, hl, hr⟩ := l1
      obtain ⟨t, e1, e2⟩ := Option.bind_eq_some_iff.mp (show (intsOf xs).bind _ = some r from e)
      have g1 := ints_of hr e1
      subst g1
      cases t with
      | nil => simp at e2
      | cons x l =>
        simp only [Option.some.injEq] at e2
        subst e2
        refine cr_min hc pins s σ H _ us Q I rv ⟨p, x :: l, rfl, SqL.of hp, by simp, fun z hz hy => ?_⟩
        have sp := minI_spec l x
        have ez : z = minI x l := Int.le_antisymm (hy _ sp.1) (sp.2 z hz)
        subst ez
        exact q.same g rfl
    | _ => simp [biD] at e
  · cases d <;> simp [biD] at e
theorem bi_max2 (hc : X.calm = true) : CallR X (.builtin "max") (rBi X.K .max2) := by
  intro pins s σ H vs us Q I rv ⟨B, st, m, ds, r, g, lk, e, q⟩
  rcases ds with _ | ⟨d, _ | ⟨d2, _ | ⟨d3, ds⟩⟩⟩
  · simp [biD] at e
  · cases d <;> simp [biD] at e
  · obtain ⟨v, w, rfl, lk1, lk2⟩ := looks2 lk
    cases d with
    | int i =>
      cases d2 with
      | int j =>
        obtain rfl := lk1
        obtain rfl := lk2
        simp only [biD, Option.some.injEq] at e
        subst e
        refine call_max2 hc pins s σ H _ us Q I rv ⟨i, j, rfl, q.same g rfl⟩
      | _ => simp [biD] at e
    | _ => simp [biD] at e
  · cases d <;> cases d2 <;> simp [biD] at e
theorem bi_min2 (hc : X.calm = true) : CallR X (.builtin "min") (rBi X.K .min2) := by
  intro pins s σ H vs us Q I rv ⟨B, st, m, ds, r, g, lk, e, q⟩
  rcases ds with _ | ⟨d, _ | ⟨d2, _ | ⟨d3, ds⟩⟩⟩
  · simp [biD] at e
  · cases d <;> simp [biD] at e
  · obtain ⟨v, w, rfl, lk1, lk2⟩ := looks2 lk
    cases d with
    | int i =>
      cases d2 with
      | int j =>
        obtain rfl := lk1
        obtain rfl := lk2
        simp only [biD, Option.some.injEq] at e
        subst e
        refine call_min2 hc pins s σ H _ us Q I rv ⟨i, j, rfl, q.same g rfl⟩
      | _ => simp [biD] at e
    | _ => simp [biD] at e
  · cases d <;> cases d2 <;> simp [biD] at e
theorem bi_tuple : CallR X (.type "tuple") (rBi X.K .tuple) := by
  intro pins s σ H vs us Q I rv ⟨B, st, m, ds, r, g, lk, e, q⟩
  rcases ds with _ | ⟨d, _ | ⟨d2, ds⟩⟩
  · simp [biD] at e
  · obtain ⟨v, rfl, l1⟩ := looks1 lk
    cases d with
    | lst xs =>
      obtain ⟨p, ws, rfl, _, hp, hl, hr⟩ := l1
      simp only [biD, Option.some.injEq] at e
      subst e
      exact call_tuple_of pins s σ H _ us Q I rv ⟨p, ws, rfl, .inl ⟨SqL.of hp, fun d hd => q.tup g hd hl hr⟩⟩
    | tup xs =>
      obtain ⟨p, ws, rfl, hp, hl, hr⟩ := l1
      simp only [biD, Option.some.injEq] at e
      subst e
      exact call_tuple_of pins s σ H _ us Q I rv ⟨p, ws, rfl, .inr ⟨hp, q.same g ⟨p, ws, rfl, hp, hl, hr⟩⟩⟩
    | _ => simp [biD] at e
  · cases d <;> simp [biD] at e
theorem bi_list : CallR X (.type "list") (rBi X.K .list) := by
  intro pins s σ H vs us Q I rv ⟨B, st, m, ds, r, g, lk, e, q⟩
  rcases ds with _ | ⟨d, _ | ⟨d2, ds⟩⟩
  · simp [biD] at e
  · obtain ⟨v, rfl, l1⟩ := looks1 lk
    cases d with
    | lst xs =>
      obtain ⟨p, ws, rfl, _, hp, hl, hr⟩ := l1
      simp only [biD, Option.some.injEq] at e
      subst e
      exact call_list_of pins s σ H _ us Q I rv ⟨p, ws, rfl, .inl (SqL.of hp), fun d hd => q.list g hd hl hr⟩
    | tup xs =>
      obtain ⟨p, ws, rfl, hp, hl, hr⟩ := l1
      simp only [biD, Option.some.injEq] at e
      subst e
      exact call_list_of pins s σ H _ us Q I rv ⟨p, ws, rfl, .inr hp, fun d hd => q.list g hd hl hr⟩
    | _ => simp [biD] at e
  · cases d <;> simp [biD] at e
theorem bi_int : CallR X (.type "int") (rBi X.K .int) := by
  intro pins s σ H vs us Q I rv ⟨B, st, m, ds, r, g, lk, e, q⟩
  rcases ds with _ | ⟨d, _ | ⟨d2, ds⟩⟩
  · simp [biD] at e
  · obtain ⟨v, rfl, l1⟩ := looks1 lk
    cases d with
    | int i =>
      obtain rfl := l1
      simp only [biD, Option.some.injEq] at e
      subst e
      exact call_int1 pins s σ H _ us Q I rv (.inl ⟨i, rfl, q.same g rfl⟩)
    | bl b =>
      obtain rfl : v = _ := l1
      simp only [biD, Option.some.injEq] at e
      subst e
      exact call_int1 pins s σ H _ us Q I rv (.inr ⟨b, rfl, q.same g rfl⟩)
    | _ => simp [biD] at e
  · cases d <;> simp [biD] at e
theorem bi_all (hc : X.calm = true) : CallR X (.builtin "all") (rBi X.K .all) := by
  intro pins s σ H vs us Q I rv ⟨B, st, m, ds, r, g, lk, e, q⟩
  rcases ds with _ | ⟨d, _ | ⟨d2, ds⟩⟩
  · simp [biD] at e
  · obtain ⟨v, rfl, l1⟩ := looks1 lk
    cases d with
    | lst xs =>
      obtain ⟨p, ws, rfl, _, hp, hl, hr⟩ := l1
      obtain ⟨t, e1, rfl⟩ := Option.map_eq_some_iff.mp (show (blsOf xs).map _ = some r from e)
      have g1 := bls_of hr e1
      subst g1
      exact cr_all hc pins s σ H _ us Q I rv ⟨p, t, rfl, SqL.of hp, q.same g rfl⟩
    | _ => simp [biD] at e
  · cases d <;> simp [biD] at e
theorem bi_any (hc : X.calm = true) : CallR X (.builtin "any") (rBi X.K .any) := by
  intro pins s σ H vs us Q I rv ⟨B, st, m, ds, r, g, lk, e, q⟩
  rcases ds with _ | ⟨d, _ | ⟨d2, ds⟩⟩
  · simp [biD] at e
  · obtain ⟨v, rfl, l1⟩ := looks1 lk
    cases d with
    | lst xs =>
      obtain ⟨p, ws, rfl, _, hp, hl, hr⟩ := l1
      obtain ⟨t, e1, rfl⟩ := Option.map_eq_some_iff.mp (show (blsOf xs).map _ = some r from e)
      have g1 := bls_of hr e1
      subst g1
      exact cr_any hc pins s σ H _ us Q I rv ⟨p, t, rfl, SqL.of hp, q.same g rfl⟩
    | _ => simp [biD] at e
  · cases d <;> simp [biD] at e
theorem bi_gcd : CallR X (.builtin "math.gcd") (rBi X.K .gcd) := by
  intro pins s σ H vs us Q I rv ⟨B, st, m, ds, r, g, lk, e, q⟩
  rcases ds with _ | ⟨d, _ | ⟨d2, _ | ⟨d3, ds⟩⟩⟩
  · simp [biD] at e
  · cases d <;> simp [biD] at e
  · obtain ⟨v, w, rfl, lk1, lk2⟩ := looks2 lk
    cases d with
    | int i =>
      cases d2 with
      | int j =>
        obtain rfl := lk1
        obtain rfl := lk2
        simp only [biD, Option.some.injEq] at e
        subst e
        exact cr_gcd pins s σ H _ us Q I rv ⟨i, j, rfl, q.same g rfl⟩
      | _ => simp [biD] at e
    | _ => simp [biD] at e
  · cases d <;> cases d2 <;> simp [biD] at e

/-! ### isinstance -/
def tyName : Ty → String
  | .tlist => "list" | .ttuple => "tuple" | .tstr => "str" | .tbool => "bool" | .tint => "int"
def tyOfD : D → String
  | .non => "NoneType" | .bl _ => "bool" | .int _ => "int" | .str _ => "str" | .lst _ => "list" | .tup _ => "tuple" | .dic _ _ => "dict"
theorem tyx_of {K : Fg} {B : Addr → Prop} {st : Option Addr} {H : Hp} {d : D} {v : V} (h : Look K B st H d v) : TyX K H v (.type (tyOfD d)) := by
  cases d with
  | non => rw [show _ = _ from h]; exact .base .non
  | bl b => rw [show _ = _ from h]; exact .base (.bl b)
  | int i => rw [show _ = _ from h]; exact .base (.int i)
  | str s => rw [show _ = _ from h.1]; exact .base (.str _)
  | lst xs => obtain ⟨p, vs, rfl, _, hp, _⟩ := h; exact .base (.lst hp)
  | tup xs =>
    obtain ⟨p, vs, rfl, hp, _⟩ := h
    rcases hp with (hp | ⟨o, hp⟩) | ⟨o, its, n, hk, hc, _⟩
    · exact .base (.tup hp)
    · exact .fTuple hp
    · exact .kTuple hk hc
  | dic _ _ => exact (show False from h).elim
theorem kit_one (d : D) (t : Ty) (hd : ∀ a b, d ≠ .dic a b) {K : Fg} : PySem.W.kitOne K (.type (tyOfD d)) (.type (tyName t)) = some (tyD d t) := by
  cases d <;> cases t <;> first | (simp only [tyOfD, tyName, tyD]; exact kit_ty (by decide +kernel)) | exact (hd _ _ rfl).elim
theorem kit_any {K : Fg} (d : D) (hd : ∀ a b, d ≠ .dic a b) : ∀ ts : List Ty, PySem.W.kitAny K (.type (tyOfD d)) (ts.map fun t => .type (tyName t)) = some (allTy d ts)
  | [] => rfl
  | t :: ts => by
    refine kitAny_cons (kit_one d t hd) (fun e => ?_) fun e => ?_
    · simp only [allTy, e, Bool.false_or]; exact kit_any d hd ts
    · simp only [allTy, e, Bool.true_or]
theorem ne_dic {K : Fg} {B : Addr → Prop} {st : Option Addr} {H : Hp} {d : D} {v : V} (h : Look K B st H d v) : ∀ a b, d ≠ .dic a b := fun a b e => by subst e; exact h
end
theorem idx_spec {y : D} : ∀ {xs : List D} {k : Nat}, idxEq y xs = some k → ∃ z, (toPys xs)[k]? = some z ∧ PyData.eqv z (toPy y) = true ∧ ∀ (m : Nat) (z' : PyData), m < k → (toPys xs)[m]? = some z' → PyData.eqv z' (toPy y) = false
  | [], k, h => by cases h
  | x :: xs, k, h => by
    rw [idxEq] at h
    obtain ⟨a, h1, h2⟩ := Option.bind_eq_some_iff.mp h
    have e := eqv_of x y a h1
    cases a with
    | true =>
      cases h2
      exact ⟨toPy x, rfl, e, fun m z' hm => absurd hm (Nat.not_lt_zero m)⟩
    | false =>
      obtain ⟨k', h3, rfl⟩ := Option.map_eq_some_iff.mp (show (idxEq y xs).map (· + 1) = some k from h2)
      obtain ⟨z, e1, e2, e3⟩ := idx_spec h3
      refine ⟨z, e1, e2, fun m z' hm hz => ?_⟩
      cases m with
      | zero => cases (show some (toPy x) = some z' from hz); exact e
      | succ m => exact e3 m z' (by omega) hz
theorem mt_idx {X : Cx} (hu : X.A.units + 65 < cLine) : MtR X "list.index" (fun v vs H Q => rBi X.K .index (v :: vs) H Q) := by
  intro pins s σ H x xs v us Q I rx rxs ⟨B, st, m, ds, r, g, lk, e, q⟩
  rcases ds with _ | ⟨d, _ | ⟨d2, _ | ⟨d3, ds⟩⟩⟩
  · simp [biD] at e
  · cases d <;> simp [biD] at e
  · cases d with
    | lst ws =>
      simp only [biD] at e
      split at e
      · rename_i hf
        rw [Bool.and_eq_true] at hf
        obtain ⟨k, e1, rfl⟩ := Option.map_eq_some_iff.mp e
        obtain ⟨v1, r1, hv, l1, lk2⟩ := lk
        obtain ⟨v2, r2, hv2, l2, lk3⟩ := lk2
        have lk3 : r2 = [] := lk3
        subst lk3 hv2
        injection hv with hv3 hv4
        subst hv3 hv4
        have l1' := l1
        obtain ⟨p, vs, rfl, _, hp, _, hr⟩ := l1
        obtain ⟨z, z1, z2, z3⟩ := idx_spec e1
        exact mt_indexD hu pins s σ H _ _ v us Q I rx rxs ⟨p, v2, toPy d2, toPys ws, k, z, rfl, rfl, dp_seq hf.2 l1', dp_look hf.1 l2, shapeds_of hf.2, shaped_of hf.1, z1, z2, z3, q.same g rfl⟩
      · cases e
    | _ => simp [biD] at e
  · cases d <;> simp [biD] at e
end FF

set_option Elab.async false
set_option linter.all false
set_option maxRecDepth 100000
set_option maxHeartbeats 4000000
/-! FF5: expressions: the machine yields what ev yields. -/
namespace FF
open PySem PySem.Spec PyProof.Rows L2

def tEv (K : Fg) (Γ : Sem) (e : E) (m : Bool) : TE := fun σ H Q => ∃ (B0 : Addr → Prop) (st : Option Addr) (fp : Nat → Option Addr) (ρ : Env), Rel K B0 st fp ρ σ H ∧
  (ev Γ e m ρ).all fun r => Fin K (badOf B0 st fp) st m r H Q
def tEvT (K : Fg) (Γ : Sem) (e : E) : TT := fun σ H Q => ∃ (B0 : Addr → Prop) (st : Option Addr) (fp : Nat → Option Addr) (ρ : Env), Rel K B0 st fp ρ σ H ∧
  (blT (ev Γ e true ρ)).all fun b => ∀ H', Ch (Cs st) H H' → StOk st H' → Q b H'
def Many (K : Fg) (B : Addr → Prop) (st : Option Addr) (m : Bool) (H : Hp) (xs : List D) (vs : List V) : Prop := if m = true then Looks K B st H xs vs else Reps K B H xs vs
def tEvs (K : Fg) (Γ : Sem) (es : List E) (m : Bool) : TA := fun σ H Q => ∃ (B0 : Addr → Prop) (st : Option Addr) (fp : Nat → Option Addr) (ρ : Env), Rel K B0 st fp ρ σ H ∧
  (evs Γ es m ρ).all fun xs => ∀ vs H', Ch (Cs st) H H' → StOk st H' → Many K (badOf B0 st fp) st m H' xs vs → Q vs H'

section
variable {K : Fg} {B0 : Addr → Prop} {st : Option Addr} {fp : Nat → Option Addr} {ρ : Env} {σ : L2.St} {H H1 : Hp} {Γ : Sem} {Q : VK}
theorem Rel.gd (R : Rel K B0 st fp ρ σ H) : Gd (badOf B0 st fp) st H := ⟨fun _ => bad_st, fun _ h => R.dom' h, R.sok⟩
theorem Res.back {B : Addr → Prop} {m : Bool} {r : Rs} {H H1 H2 : Hp} {v : V} (hB : ∀ p, st = some p → B p) (h : Res K B st m r H1 H2 v) (c : Ch (Cs st) H H1) : Res K B st m r H H2 v := by
  unfold Res at h ⊢
  split
  · rename_i q
    rw [if_pos q] at h
    obtain ⟨xs, p, vs, e1, e2, hp, nb, r⟩ := h
    exact ⟨xs, p, vs, e1, e2, c.fresh (fun z => nb (hB p z)) hp, nb, r⟩
  · rename_i q
    rw [if_neg q] at h
    exact h
theorem Res.up {B : Addr → Prop} {m : Bool} {r : Rs} {H H2 : Hp} {v : V} (hB : ∀ p, st = some p → B p) (h : Res K B st false r H H2 v) : Res K B st m r H H2 v := by
  unfold Res at h ⊢
  split
  · rename_i q; rw [if_pos q] at h; exact h
  · rename_i q
    rw [if_neg q, if_neg Bool.false_ne_true] at h
    split
    · exact h.look hB
    · exact h
theorem Fin.back {B : Addr → Prop} {m : Bool} {r : Rs} (hB : ∀ p, st = some p → B p) (f : Fin K B st m r H Q) (c : Ch (Cs st) H H1) : Fin K B st m r H1 Q :=
  fun v H2 c2 S res => f v H2 (c.trans c2) S (res.back hB c)
theorem ev_step {β : Type} {f : Rs → T β} {P : β → Prop} {e : E} {m : Bool} (R : Rel K B0 st fp ρ σ H) (h : ((ev Γ e m ρ).bind f).all P)
    (k : ∀ r v H1, Ch (Cs st) H H1 → Rel K B0 st fp ρ σ H1 → Res K (badOf B0 st fp) st m r H H1 v → (f r).all P → Q v H1) : tEv K Γ e m σ H Q :=
  ⟨B0, st, fp, ρ, R, T.all_mono (fun r hr v H1 c S res => k r v H1 c (R.mono c S) res hr) (T.all_bind.mp h)⟩
theorem evT_step {β : Type} {f : Bool → T β} {P : β → Prop} {e : E} {QB : Bool → Hp → Prop} (R : Rel K B0 st fp ρ σ H) (h : ((blT (ev Γ e true ρ)).bind f).all P)
    (k : ∀ b H1, Ch (Cs st) H H1 → Rel K B0 st fp ρ σ H1 → (f b).all P → QB b H1) : tEvT K Γ e σ H QB :=
  ⟨B0, st, fp, ρ, R, T.all_mono (fun b hb H1 c S => k b H1 c (R.mono c S) hb) (T.all_bind.mp h)⟩
theorem evs_step {β : Type} {f : List D → T β} {P : β → Prop} {es : List E} {m : Bool} {QA : List V → Hp → Prop} (R : Rel K B0 st fp ρ σ H) (h : ((evs Γ es m ρ).bind f).all P)
    (k : ∀ xs vs H1, Ch (Cs st) H H1 → Rel K B0 st fp ρ σ H1 → Many K (badOf B0 st fp) st m H1 xs vs → (f xs).all P → QA vs H1) : tEvs K Γ es m σ H QA :=
  ⟨B0, st, fp, ρ, R, T.all_mono (fun xs hx vs H1 c S res => k xs vs H1 c (R.mono c S) res hx) (T.all_bind.mp h)⟩
end
theorem PE.imp {X : Cx} {e : Expr} {t t' : TE} (h : PE X e t) (i : ∀ σ H Q, t' σ H Q → t σ H Q) : PE X e t' := ⟨fun pins s σ H Q I q => h.run pins s σ H Q I (i σ H Q q)⟩
theorem PT.imp {X : Cx} {e : Expr} {t t' : TT} (h : PT X e t) (i : ∀ σ H Q, t' σ H Q → t σ H Q) : PT X e t' := ⟨fun pins s σ H Q I q => h.run pins s σ H Q I (i σ H Q q)⟩
theorem PW.imp {X : Cx} {e : Expr} {t t' : TT} (h : PW X e t) (i : ∀ σ H Q, t' σ H Q → t σ H Q) : PW X e t' := ⟨fun wh pins s σ H Q I q => h.run wh pins s σ H Q I (i σ H Q q)⟩
theorem PA.imp {X : Cx} {es : List Expr} {t t' : TA} (h : PA X es t) (i : ∀ σ H Q, t' σ H Q → t σ H Q) : PA X es t' := ⟨fun p pins s σ H Q I q => h.run p pins s σ H Q I (i σ H Q q)⟩

section
variable {X : Cx} {Γ : Sem} {m : Bool} {pos : Pos} {a b c : Expr} {ia ib ic : E}
/-! ### names, constants -/
theorem se_lit {e : Expr} {v : V} {d : D} (h : PE X e (tC v)) (r : ∀ B H, Rep X.K B H d v) : PE X e (tEv X.K Γ (.c d) m) :=
  PE.imp h fun σ H Q ⟨B0, st, fp, ρ, R, q⟩ => Fin.same (m := m) q R.gd (r _ H)
theorem se_glob {e : Expr} {v : V} {d : D} {k : Nat} (h : PE X e (tC v)) (r : ∀ B H, Rep X.K B H d v) : PE X e (tEv X.K Γ (.g k d) m) :=
  PE.imp h fun σ H Q ⟨B0, st, fp, ρ, R, q⟩ => Fin.same (m := m) q R.gd (r _ H)
theorem rd_spec {K : Fg} {B0 : Addr → Prop} {st : Option Addr} {fp : Nat → Option Addr} {ρ : Env} {σ : L2.St} {H : Hp} {i : Nat} {d : D} (R : Rel K B0 st fp ρ σ H) (h : rd m ρ i = some d) : ∃ v, σ[i]? = some (some v) ∧ (if m = true then Look K (badOf B0 st fp) st H d v else Rep K (badOf B0 st fp) H d v) := by
  unfold rd at h
  split at h
  · rename_i d' e
    cases h
    obtain ⟨v, e1, r⟩ := R.slot i _ e
    refine ⟨v, e1, ?_⟩
    split
    · exact r.look fun _ => bad_st
    · exact r
  · rename_i d' e
    split at h
    · rename_i hm
      cases h
      obtain ⟨p, f, e1, r⟩ := R.slot i _ e
      refine ⟨_, e1, ?_⟩
      rw [if_pos hm]
      cases d with
      | lst xs => obtain ⟨vs, h1, h2, h3⟩ := r; exact ⟨p, vs, rfl, (R.nb i p f).2, h1, h2, h3⟩
      | _ => exact r.elim
    · cases h
  · rename_i d' e
    split at h
    · rename_i hm
      cases h
      obtain ⟨p, f, e1, r⟩ := R.slot i _ e
      refine ⟨_, e1, ?_⟩
      rw [if_pos hm]
      cases d with
      | lst xs => obtain ⟨vs, h1, h2, h3⟩ := r; exact ⟨p, vs, rfl, (R.nb i p f).2, h1, h2, h3⟩
      | _ => exact r.elim
    · cases h
  · cases h
theorem se_var {e : Expr} {i : Nat} (h : PE X e (tVar i)) : PE X e (tEv X.K Γ (.v i) m) :=
  PE.imp h fun σ H Q ⟨B0, st, fp, ρ, R, q⟩ => by
    rw [ev] at q
    obtain ⟨r, e, q⟩ := T.all_ofO.mp q
    obtain ⟨d, e2, rfl⟩ := Option.map_eq_some_iff.mp e
    obtain ⟨v, e1, r⟩ := rd_spec R e2
    refine ⟨v, e1, q v H .refl R.sok ?_⟩
    unfold Res
    rw [if_neg Bool.false_ne_true]
    exact r

/-! ### operators -/
theorem se_bin {op : Operator} {o : Bop} (ho : OpR X (binaryOp op) (r2D X.K (binD o))) (ha : PE X a (tEv X.K Γ ia true)) (hb : PE X b (tEv X.K Γ ib true)) : PE X (.BinOp a op b pos) (tEv X.K Γ (.bin o ia ib) m) :=
  PE.imp (pe_op ho ha hb) fun σ H Q ⟨B0, st, fp, ρ, R, h⟩ => by
    rw [ev] at h
    refine ev_step R h fun x v H1 c1 R1 r1 h1 => ev_step R1 h1 fun y w H2 c2 R2 r2 h2 => ?_
    obtain ⟨r, e, q⟩ := T.all_ofO.mp h2
    have hB : ∀ p, st = some p → badOf B0 st fp p := fun _ => bad_st
    exact ⟨_, st, m, x.1, y.1, r, R2.gd, (r1.look hB).ch hB c2, r2.look hB, e, Fin.back hB q (c1.trans c2)⟩
theorem se_neg (ha : PE X a (tEv X.K Γ ia true)) : PE X (.UnaryOp .USub a pos) (tEv X.K Γ (.neg ia) m) :=
  PE.imp (pe_un un_neg ha) fun σ H Q ⟨B0, st, fp, ρ, R, h⟩ => by
    rw [ev] at h
    refine ev_step R h fun x v H1 c1 R1 r1 h1 => ?_
    have hB : ∀ p, st = some p → badOf B0 st fp p := fun _ => bad_st
    have l := r1.look hB
    obtain ⟨d, f⟩ := x
    cases d with
    | int i =>
      obtain rfl := l
      exact ⟨i, rfl, Fin.same (Fin.back hB h1 c1) R1.gd rfl⟩
    | _ => exact h1.elim
theorem se_cmp {o : Cop} (hu : X.A.units + 65 < cLine) (ha : PE X a (tEv X.K Γ ia true)) (hb : PE X b (tEv X.K Γ ib true)) (hm : behindInMarks (copOf o) b = false) : PE X (.Compare a [copOf o] [b] pos) (tEv X.K Γ (.cmp o ia ib) m) :=
  PE.imp (pe_cmpR (cmp_ok hu o) ha hb hm) fun σ H Q ⟨B0, st, fp, ρ, R, h⟩ => by
    rw [ev] at h
    refine ev_step R h fun x v H1 c1 R1 r1 h1 => ev_step R1 h1 fun y w H2 c2 R2 r2 h2 => ?_
    obtain ⟨r, e, q⟩ := T.all_ofO.mp h2
    obtain ⟨r', e2, rfl⟩ := Option.map_eq_some_iff.mp e
    have hB : ∀ p, st = some p → badOf B0 st fp p := fun _ => bad_st
    exact ⟨_, st, x.1, y.1, r', R2.gd, (r1.look hB).ch hB c2, r2.look hB, e2, Fin.same (Fin.back hB q (c1.trans c2)) R2.gd rfl⟩
theorem se_chain {o p : Cop} (hu : X.A.units + 65 < cLine) (ha : PE X a (tEv X.K Γ ia true)) (hb : PE X b (tEv X.K Γ ib true)) (hc : PE X c (tEv X.K Γ ic true)) (hm : behindInMarks (copOf p) c = false) : PE X (.Compare a [copOf o, copOf p] [b, c] pos) (tEv X.K Γ (.chain o p ia ib ic) m) :=
  PE.imp (pe_chain (cmp_ok hu o) (cmp_ok hu p) ha hb hc hm) fun σ H Q ⟨B0, st, fp, ρ, R, h⟩ => by
    rw [ev] at h
    refine ev_step R h fun x v H1 c1 R1 r1 h1 => ev_step R1 h1 fun y w H2 c2 R2 r2 h2 => ?_
    obtain ⟨r, e, q⟩ := T.all_ofO.mp (T.all_bind.mp h2)
    have hB : ∀ p, st = some p → badOf B0 st fp p := fun _ => bad_st
    refine ⟨_, st, x.1, y.1, r, R2.gd, (r1.look hB).ch hB c2, r2.look hB, e, r, rfl, ?_⟩
    cases r with
    | false => exact Fin.same (Fin.back hB q (c1.trans c2)) R2.gd rfl
    | true =>
      refine ev_step R2 q fun z u H3 c3 R3 r3 h3 => ?_
      obtain ⟨r, e, q⟩ := T.all_ofO.mp h3
      obtain ⟨r', e2, rfl⟩ := Option.map_eq_some_iff.mp e
      exact ⟨_, st, y.1, z.1, r', R3.gd, (r2.look hB).ch hB c3, r3.look hB, e2, Fin.same (Fin.back hB q (c1.trans (c2.trans c3))) R3.gd rfl⟩

/-! ### tests -/
theorem bl_val {K : Fg} {B : Addr → Prop} {st : Option Addr} {H : Hp} {b : Bool} {v : V} (h : Look K B st H (.bl b) v) : v = .bl b := h
theorem se_tv {e : Expr} {ie : E} (he : ∀ whole, isTrue e X.env whole = (do let v ← whole; standAt e.pos; holding [v] (truthy v))) (h : PE X e (tEv X.K Γ ie true)) : PT X e (tEvT X.K Γ (.tr ie)) :=
  PT.imp (pt_truth h he) fun σ H Q ⟨B0, st, fp, ρ, R, h⟩ => by
    unfold blT at h
    rw [ev] at h
    have h := T.all_bind.mp h
    refine ev_step R h fun x v H1 c1 R1 r1 h1 => ?_
    obtain ⟨r, e, q⟩ := T.all_ofO.mp h1
    obtain ⟨k, e2, rfl⟩ := Option.map_eq_some_iff.mp e
    have hB : ∀ p, st = some p → badOf B0 st fp p := fun _ => bad_st
    exact ⟨k, truth_ok (r1.look hB) e2, q H1 c1 R1.sok⟩
/-- a comparison as a test -/
theorem se_tcmp {o : Cop} (hu : X.A.units + 65 < cLine) (ha : PE X a (tEv X.K Γ ia true)) (hb : PE X b (tEv X.K Γ ib true)) (hm : behindInMarks (copOf o) b = false) : PT X (.Compare a [copOf o] [b] pos) (tEvT X.K Γ (.cmp o ia ib)) :=
  PT.imp (pt_cmpR (cmp_ok hu o) ha hb hm) fun σ H Q ⟨B0, st, fp, ρ, R, h⟩ => by
    unfold blT at h
    rw [ev] at h
    have h := T.all_bind.mp h
    refine ev_step R h fun x v H1 c1 R1 r1 h1 => ev_step R1 h1 fun y w H2 c2 R2 r2 h2 => ?_
    obtain ⟨r, e, q⟩ := T.all_ofO.mp h2
    obtain ⟨r', e2, rfl⟩ := Option.map_eq_some_iff.mp e
    have hB : ∀ p, st = some p → badOf B0 st fp p := fun _ => bad_st
    exact ⟨_, st, x.1, y.1, r', R2.gd, (r1.look hB).ch hB c2, r2.look hB, e2, r', rfl, q H2 (c1.trans c2) R2.sok⟩
theorem se_tchain {o p : Cop} (hu : X.A.units + 65 < cLine) (ha : PE X a (tEv X.K Γ ia true)) (hb : PE X b (tEv X.K Γ ib true)) (hc : PE X c (tEv X.K Γ ic true)) (hm : behindInMarks (copOf p) c = false) : PT X (.Compare a [copOf o, copOf p] [b, c] pos) (tEvT X.K Γ (.chain o p ia ib ic)) :=
  PT.imp (pt_chain (cmp_ok hu o) (cmp_ok hu p) ha hb hc hm) fun σ H Q ⟨B0, st, fp, ρ, R, h⟩ => by
    unfold blT at h
    rw [ev] at h
    have h := T.all_bind.mp h
    refine ev_step R h fun x v H1 c1 R1 r1 h1 => ev_step R1 h1 fun y w H2 c2 R2 r2 h2 => ?_
    obtain ⟨r, e, q⟩ := T.all_ofO.mp (T.all_bind.mp h2)
    have hB : ∀ p, st = some p → badOf B0 st fp p := fun _ => bad_st
    refine ⟨_, st, x.1, y.1, r, R2.gd, (r1.look hB).ch hB c2, r2.look hB, e, r, rfl, ?_⟩
    cases r with
    | false => exact ⟨false, rfl, q H2 (c1.trans c2) R2.sok⟩
    | true =>
      refine ev_step R2 q fun z u H3 c3 R3 r3 h3 => ?_
      obtain ⟨r, e, q⟩ := T.all_ofO.mp h3
      obtain ⟨r', e2, rfl⟩ := Option.map_eq_some_iff.mp e
      exact ⟨_, st, y.1, z.1, r', R3.gd, (r2.look hB).ch hB c3, r3.look hB, e2, r', rfl, q H3 (c1.trans (c2.trans c3)) R3.sok⟩
theorem blT_ret {P : Bool → Prop} {t : T Bool} : (blT (t.bind fun b => .ret (.bl b, false))).all P ↔ t.all P := by
  unfold blT
  rw [T.all_bind, T.all_bind]
  exact Iff.rfl
theorem cond_blT {b : Bool} {x y : T Rs} : blT (cond b x y) = cond b (blT x) (blT y) := by cases b <;> rfl
theorem se_tnot (ha : PT X a (tEvT X.K Γ ia)) : PT X (.UnaryOp .Not a pos) (tEvT X.K Γ (.nt ia)) :=
  PT.imp (pt_not ha) fun σ H Q ⟨B0, st, fp, ρ, R, h⟩ => by
    rw [ev] at h
    have h := (T.all_bind.mp (T.all_bind.mp h))
    exact ⟨B0, st, fp, ρ, R, T.all_mono (fun b hb H' c S => hb H' c S) h⟩
theorem se_tand1 (ha : PT X a (tEvT X.K Γ ia)) : PW X (.BoolOp .And [a] pos) (tEvT X.K Γ ia) := pw_and1 ha
theorem se_tor1 (ha : PT X a (tEvT X.K Γ ia)) : PW X (.BoolOp .Or [a] pos) (tEvT X.K Γ ia) := pw_or1 ha
theorem se_tand {rest : List Expr} (ha : PT X a (tEvT X.K Γ ia)) (hb : PW X (.BoolOp .And (b :: rest) pos) (tEvT X.K Γ ib)) : PW X (.BoolOp .And (a :: b :: rest) pos) (tEvT X.K Γ (.and2 ia ib)) :=
  PW.imp (pw_and ha hb) fun σ H Q ⟨B0, st, fp, ρ, R, h⟩ => by
    unfold blT at h
    rw [ev] at h
    have h := T.all_bind.mp h
    refine evT_step R h fun b H1 c1 R1 h1 => ?_
    cases b with
    | true =>
      rw [if_pos rfl]
      exact ⟨B0, st, fp, ρ, R1, T.all_mono (fun b hb H' c S => hb H' (c1.trans c) S) (T.all_bind.mpr h1)⟩
    | false => exact h1 H1 c1 R1.sok
theorem se_tor {rest : List Expr} (ha : PT X a (tEvT X.K Γ ia)) (hb : PW X (.BoolOp .Or (b :: rest) pos) (tEvT X.K Γ ib)) : PW X (.BoolOp .Or (a :: b :: rest) pos) (tEvT X.K Γ (.or2 ia ib)) :=
  PW.imp (pw_or ha hb) fun σ H Q ⟨B0, st, fp, ρ, R, h⟩ => by
    unfold blT at h
    rw [ev] at h
    have h := T.all_bind.mp h
    refine evT_step R h fun b H1 c1 R1 h1 => ?_
    cases b with
    | false =>
      rw [if_neg Bool.false_ne_true]
      exact ⟨B0, st, fp, ρ, R1, T.all_mono (fun b hb H' c S => hb H' (c1.trans c) S) (T.all_bind.mpr h1)⟩
    | true => exact h1 H1 c1 R1.sok
/-- .. as values -/
theorem blv_step {K : Fg} {B0 : Addr → Prop} {st : Option Addr} {fp : Nat → Option Addr} {ρ : Env} {σ : L2.St} {H : Hp} {Q : VK} {β : Type} {f : Bool → T β} {P : β → Prop} {e : E} (R : Rel K B0 st fp ρ σ H) (h : ((blT (ev Γ e true ρ)).bind f).all P)
    (k : ∀ b H1, Ch (Cs st) H H1 → Rel K B0 st fp ρ σ H1 → (f b).all P → Q (.bl b) H1) : tEv K Γ e true σ H Q := by
  unfold blT at h
  have h := T.all_bind.mp (T.all_bind.mp h)
  refine ⟨B0, st, fp, ρ, R, T.all_mono (fun x hx v H1 c S res => ?_) h⟩
  have l := res.look (fun _ => bad_st)
  obtain ⟨d, f⟩ := x
  cases d with
  | bl b => obtain rfl : v = _ := l; exact k b H1 c (R.mono c S) hx
  | _ => exact hx.elim
theorem se_vnot (ha : PE X a (tEv X.K Γ ia true)) : PE X (.UnaryOp .Not a pos) (tEv X.K Γ (.nt ia) m) :=
  PE.imp (pe_not ha) fun σ H Q ⟨B0, st, fp, ρ, R, h⟩ => by
    rw [ev] at h
    exact blv_step R h fun b H1 c1 R1 h1 => ⟨b, rfl, Fin.same (Fin.back (fun _ => bad_st) h1 c1) R1.gd rfl⟩
theorem se_vone {op : BoolOp} (ha : PE X a (tEv X.K Γ ia m)) : PE X (.BoolOp op [a] pos) (tEv X.K Γ ia m) := pe_one ha
theorem se_vand {rest : List Expr} (ha : PE X a (tEv X.K Γ ia true)) (hb : PE X (.BoolOp .And (b :: rest) pos) (tEv X.K Γ ib m)) : PE X (.BoolOp .And (a :: b :: rest) pos) (tEv X.K Γ (.and2 ia ib) m) :=
  PE.imp (pe_and ha hb) fun σ H Q ⟨B0, st, fp, ρ, R, h⟩ => by
    rw [ev] at h
    refine blv_step R h fun b H1 c1 R1 h1 => ⟨b, rfl, ?_⟩
    cases b with
    | true => rw [if_pos rfl]; exact ⟨B0, st, fp, ρ, R1, T.all_mono (fun r hr => Fin.back (fun _ => bad_st) hr c1) h1⟩
    | false => rw [if_neg Bool.false_ne_true]; exact Fin.same (Fin.back (fun _ => bad_st) h1 c1) R1.gd rfl
theorem se_vor {rest : List Expr} (ha : PE X a (tEv X.K Γ ia true)) (hb : PE X (.BoolOp .Or (b :: rest) pos) (tEv X.K Γ ib m)) : PE X (.BoolOp .Or (a :: b :: rest) pos) (tEv X.K Γ (.or2 ia ib) m) :=
  PE.imp (pe_or ha hb) fun σ H Q ⟨B0, st, fp, ρ, R, h⟩ => by
    rw [ev] at h
    refine blv_step R h fun b H1 c1 R1 h1 => ⟨b, rfl, ?_⟩
    cases b with
    | false => rw [if_neg Bool.false_ne_true]; exact ⟨B0, st, fp, ρ, R1, T.all_mono (fun r hr => Fin.back (fun _ => bad_st) hr c1) h1⟩
    | true => rw [if_pos rfl]; exact Fin.same (Fin.back (fun _ => bad_st) h1 c1) R1.gd rfl
theorem se_ite (hc : PT X c (tEvT X.K Γ ic)) (ha : PE X a (tEv X.K Γ ia m)) (hb : PE X b (tEv X.K Γ ib m)) : PE X (.IfExp c a b pos) (tEv X.K Γ (.ite ic ia ib) m) :=
  PE.imp (pe_ifExp hc ha hb) fun σ H Q ⟨B0, st, fp, ρ, R, h⟩ => by
    rw [ev] at h
    refine evT_step R h fun b H1 c1 R1 h1 => ?_
    cases b with
    | true => rw [if_pos rfl]; exact ⟨B0, st, fp, ρ, R1, T.all_mono (fun r hr => Fin.back (fun _ => bad_st) hr c1) h1⟩
    | false => rw [if_neg Bool.false_ne_true]; exact ⟨B0, st, fp, ρ, R1, T.all_mono (fun r hr => Fin.back (fun _ => bad_st) hr c1) h1⟩

/-! ### argument lists, displays -/
theorem Looks.ch {K : Fg} {B : Addr → Prop} {st : Option Addr} {H H' : Hp} (hB : ∀ p, st = some p → B p) (c : Ch (Cs st) H H') : ∀ {xs : List D} {vs : List V}, Looks K B st H xs vs → Looks K B st H' xs vs
  | [], _, h => h
  | x :: xs, _, ⟨v, r, e, h1, h2⟩ => ⟨v, r, e, h1.ch hB c, Looks.ch hB c h2⟩
theorem Many.cons {K : Fg} {B : Addr → Prop} {st : Option Addr} {H H1 H2 : Hp} {r : Rs} {xs : List D} {v : V} {vs : List V} (hB : ∀ p, st = some p → B p) (h1 : Res K B st m r H H1 v) (h2 : Many K B st m H2 xs vs) (c : Ch (Cs st) H1 H2) : Many K B st m H2 (r.1 :: xs) (v :: vs) := by
  unfold Many at h2 ⊢
  cases m with
  | true => exact ⟨v, vs, rfl, (h1.look hB).ch hB c, h2⟩
  | false => exact ⟨v, vs, rfl, Rep.ch c hB _ _ h1.rep, h2⟩
theorem se_nil : PA X [] (tEvs X.K Γ [] m) := PA.imp pa_nil fun σ H Q ⟨B0, st, fp, ρ, R, h⟩ => by
  rw [evs] at h
  refine h [] H .refl R.sok ?_
  unfold Many
  split <;> rfl
theorem se_cons {es : List Expr} {ies : List E} (ha : PE X a (tEv X.K Γ ia m)) (hr : PA X es (tEvs X.K Γ ies m)) (hs : starEach (a :: es) X.env = (false, eval a X.env) :: starEach es X.env) : PA X (a :: es) (tEvs X.K Γ (ia :: ies) m) :=
  PA.imp (pa_cons ha hr hs) fun σ H Q ⟨B0, st, fp, ρ, R, h⟩ => by
    rw [evs] at h
    refine ev_step R h fun x v H1 c1 R1 r1 h1 => evs_step R1 h1 fun xs vs H2 c2 R2 r2 h2 => ?_
    exact h2 _ H2 (c1.trans c2) R2.sok (Many.cons (fun _ => bad_st) r1 r2 c2)
theorem all_leaf {α β : Type} {f : α → T β} {P Q : β → Prop} (hf : ∀ a, (f a).all P → (f a).all fun b => P b ∧ Q b) : ∀ {t : T α}, (t.bind f).all P → (t.bind f).all fun b => P b ∧ Q b := fun {t} h =>
  T.all_bind.mpr (T.all_mono (fun a ha => hf a ha) (T.all_bind.mp h))
theorem evs_len {Γ : Sem} {ρ : Env} {m : Bool} : ∀ {es : List E} {P : List D → Prop}, (evs Γ es m ρ).all P → (evs Γ es m ρ).all fun xs => P xs ∧ xs.length = es.length
  | [], P, h => by rw [evs] at h ⊢; exact ⟨h, rfl⟩
  | e :: es, P, h => by
    rw [evs] at h ⊢
    refine T.all_bind.mpr (T.all_mono (fun x hx => ?_) (T.all_bind.mp h))
    refine T.all_bind.mpr (T.all_mono (fun xs hxs => ?_) (evs_len (T.all_bind.mp hx)))
    exact ⟨hxs.1, by rw [List.length_cons, List.length_cons, hxs.2]⟩
theorem evs_step' {K : Fg} {B0 : Addr → Prop} {st : Option Addr} {fp : Nat → Option Addr} {ρ : Env} {σ : L2.St} {H : Hp} {Γ : Sem} {β : Type} {f : List D → T β} {P : β → Prop} {es : List E} {QA : List V → Hp → Prop} (R : Rel K B0 st fp ρ σ H) (h : ((evs Γ es m ρ).bind f).all P)
    (k : ∀ xs vs H1, xs.length = es.length → Ch (Cs st) H H1 → Rel K B0 st fp ρ σ H1 → Many K (badOf B0 st fp) st m H1 xs vs → (f xs).all P → QA vs H1) : tEvs K Γ es m σ H QA :=
  ⟨B0, st, fp, ρ, R, T.all_mono (fun xs hx vs H1 c S res => k xs vs H1 hx.2 c (R.mono c S) res hx.1) (evs_len (T.all_bind.mp h))⟩
theorem small_line {n : Nat} (h : n ≤ 1000) : n ≤ sizeLine := by rw [sizeLine_eq]; omega
theorem se_tup {es : List Expr} {ies : List E} {k : Nat} (ha : PA X es (tEvs X.K Γ ies false)) (hl : ies.length ≤ 1000) : PE X (.Tuple es k pos) (tEv X.K Γ (.tup ies) m) :=
  PE.imp (pe_tup ha) fun σ H Q ⟨B0, st, fp, ρ, R, h⟩ => by
    rw [ev] at h
    refine evs_step' R h fun xs vs H1 e1 c1 R1 r1 h1 => ?_
    have r1 : Reps X.K (badOf B0 st fp) H1 xs vs := r1
    have hz : vs.length ≤ sizeLine := by rw [r1.length, e1]; exact small_line hl
    exact ⟨hz, fun p hp => Fin.tup (Fin.back (fun _ => bad_st) h1 c1) R1.gd hp hz r1⟩
theorem se_lst {es : List Expr} {ies : List E} (ha : PA X es (tEvs X.K Γ ies false)) (hl : ies.length ≤ 1000) : PE X (.List es pos) (tEv X.K Γ (.lst ies) m) :=
  PE.imp (pe_lst ha) fun σ H Q ⟨B0, st, fp, ρ, R, h⟩ => by
    rw [ev] at h
    refine evs_step' R h fun xs vs H1 e1 c1 R1 r1 h1 => ?_
    have r1 : Reps X.K (badOf B0 st fp) H1 xs vs := r1
    have hz : vs.length ≤ sizeLine := by rw [r1.length, e1]; exact small_line hl
    exact ⟨hz, fun p hp => Fin.list (Fin.back (fun _ => bad_st) h1 c1) R1.gd hp hz r1⟩

/-! ### places, slices -/
theorem se_ix (ha : PE X a (tEv X.K Γ ia true)) (hb : PE X b (tEv X.K Γ ib true)) (hs : PlainIx b) : PE X (.Subscript a b pos) (tEv X.K Γ (.ix ia ib) m) :=
  PE.imp (pe_ix ix_ok ha hb hs) fun σ H Q ⟨B0, st, fp, ρ, R, h⟩ => by
    rw [ev] at h
    refine ev_step R h fun x v H1 c1 R1 r1 h1 => ev_step R1 h1 fun y w H2 c2 R2 r2 h2 => ?_
    obtain ⟨r, e, q⟩ := T.all_ofO.mp h2
    obtain ⟨d, e2, rfl⟩ := Option.map_eq_some_iff.mp e
    have hB : ∀ p, st = some p → badOf B0 st fp p := fun _ => bad_st
    exact ⟨_, st, m, x.1, y.1, d, R2.gd, (r1.look hB).ch hB c2, r2.look hB, e2, Fin.back hB q (c1.trans c2)⟩
def tPrt (K : Fg) (Γ : Sem) (ie : List E) : TO := fun σ H Q => ∃ (B0 : Addr → Prop) (st : Option Addr) (fp : Nat → Option Addr) (ρ : Env), Rel K B0 st fp ρ σ H ∧
  ((evs Γ ie true ρ).bind fun l => T.ofO (oneI l)).all fun o => ∀ H', Ch (Cs st) H H' → StOk st H' → Q o H'
theorem PO.imp {e : Option Expr} {t t' : TO} (h : PO X e t) (i : ∀ σ H Q, t' σ H Q → t σ H Q) : PO X e t' := ⟨fun pins s σ H Q I q => h.run pins s σ H Q I (i σ H Q q)⟩
theorem se_none : PO X none (tPrt X.K Γ []) := PO.imp po_none fun σ H Q ⟨B0, st, fp, ρ, R, h⟩ => by
  rw [evs] at h
  exact h H .refl R.sok
theorem se_some (ha : PE X a (tEv X.K Γ ia true)) : PO X (some a) (tPrt X.K Γ [ia]) := PO.imp (po_some ha) fun σ H Q ⟨B0, st, fp, ρ, R, h⟩ => by
  rw [evs] at h
  refine ev_step R (T.all_bind.mp h |> T.all_bind.mp |> T.all_bind.mpr) fun x v H1 c1 R1 r1 h1 => ?_
  rw [evs] at h1
  have l := r1.look (fun _ => bad_st)
  obtain ⟨d, f⟩ := x
  cases d with
  | int i => exact ⟨i, l, h1 H1 c1 R1.sok⟩
  | _ => exact h1.elim
theorem prt_step {K : Fg} {B0 : Addr → Prop} {st : Option Addr} {fp : Nat → Option Addr} {ρ : Env} {σ : L2.St} {H : Hp} {Γ : Sem} {β : Type} {f : Option Int → T β} {P : β → Prop} {es : List E} {QA : Option Int → Hp → Prop} (R : Rel K B0 st fp ρ σ H) (h : (((evs Γ es true ρ).bind fun l => T.ofO (oneI l)).bind f).all P)
    (k : ∀ o H1, Ch (Cs st) H H1 → Rel K B0 st fp ρ σ H1 → (f o).all P → QA o H1) : tPrt K Γ es σ H QA :=
  ⟨B0, st, fp, ρ, R, T.all_mono (fun o ho H1 c S => k o H1 c (R.mono c S) ho) (T.all_bind.mp h)⟩
theorem se_sl {lo hi : Option Expr} {il ih : List E} {p2 : Pos} (ha : PE X a (tEv X.K Γ ia true)) (hl : PO X lo (tPrt X.K Γ il)) (hh : PO X hi (tPrt X.K Γ ih)) : PE X (.Subscript a (.Slice lo hi none p2) pos) (tEv X.K Γ (.sl ia il ih) m) :=
  PE.imp (pe_slice sl_ok ha hl hh) fun σ H Q ⟨B0, st, fp, ρ, R, h⟩ => by
    rw [ev] at h
    refine ev_step R h fun x v H1 c1 R1 r1 h1 => prt_step R1 h1 fun i H2 c2 R2 h2 => prt_step R2 h2 fun j H3 c3 R3 h3 => ?_
    obtain ⟨r, e, q⟩ := T.all_ofO.mp h3
    have hB : ∀ p, st = some p → badOf B0 st fp p := fun _ => bad_st
    exact ⟨_, st, m, x.1, r, R3.gd, (r1.look hB).ch hB (c2.trans c3), e, Fin.back hB q (c1.trans (c2.trans c3))⟩
theorem se_rev {k : Nat} {p1 p2 p3 : Pos} (ha : PE X a (tEv X.K Γ ia true)) : PE X (.Subscript a (.Slice none none (some (.UnaryOp .USub (.Constant (.int 1) k p1) p2)) p3) pos) (tEv X.K Γ (.rev ia) m) :=
  PE.imp (pe_revL ha) fun σ H Q ⟨B0, st, fp, ρ, R, h⟩ => by
    rw [ev] at h
    refine ev_step R h fun x v H1 c1 R1 r1 h1 => ?_
    obtain ⟨r, e, q⟩ := T.all_ofO.mp h1
    have hB : ∀ p, st = some p → badOf B0 st fp p := fun _ => bad_st
    have l := r1.look hB
    obtain ⟨d, f⟩ := x
    cases d with
    | lst xs =>
      obtain ⟨p, vs, rfl, _, hp, hl, hr⟩ := l
      cases e
      exact ⟨p, vs, rfl, SqL.of hp, fun d hd => Fin.list (Fin.back hB q c1) R1.gd hd (by rw [List.length_reverse]; exact hl) hr.reverse⟩
    | _ => simp [revD] at e

/-! ### calls -/
theorem se_bi {id : String} {x : Str} {p : Pos} {es : List Expr} {ies : List E} {bi : Bi} (hc : CallR X (.builtin id) (rBi X.K bi)) (hg : Gl X x) (hm : X.mg x = none) (hv : bootBuiltins x = some (.builtin id)) (ha : PA X (a :: es) (tEvs X.K Γ ies true))
    (hn : x ≠ "__name__") (hdb : (x == ("__debug__" : Str)) = false) (he : starEach (a :: es) X.env = (false, eval a X.env) :: starEach es X.env) (hpl : (backTo pos (starEach es X.env)).any (·.1) = false) : PE X (.Call (.Name x p) (a :: es) [] pos) (tEv X.K Γ (.bi bi ies) m) :=
  PE.imp (pe_callB hc hg hm hv ha hn hdb he hpl) fun σ H Q ⟨B0, st, fp, ρ, R, h⟩ => by
    rw [ev] at h
    refine evs_step R h fun xs vs H1 c1 R1 r1 h1 => ?_
    obtain ⟨r, e, q⟩ := T.all_ofO.mp h1
    exact ⟨_, st, m, xs, r, R1.gd, r1, e, Fin.back (fun _ => bad_st) q c1⟩
theorem se_bty {tn : String} {x : Str} {p : Pos} {es : List Expr} {ies : List E} {bi : Bi} (hc : CallR X (.type tn) (rBi X.K bi)) (hg : Gl X x) (hm : X.mg x = none) (hv : bootBuiltins x = some (.type tn)) (ha : PA X (a :: es) (tEvs X.K Γ ies true))
    (hn : x ≠ "__name__") (hdb : (x == ("__debug__" : Str)) = false) (he : starEach (a :: es) X.env = (false, eval a X.env) :: starEach es X.env) (hpl : (backTo pos (starEach es X.env)).any (·.1) = false) : PE X (.Call (.Name x p) (a :: es) [] pos) (tEv X.K Γ (.bi bi ies) m) :=
  PE.imp (pe_callTy hc hg hm hv ha hn hdb he hpl) fun σ H Q ⟨B0, st, fp, ρ, R, h⟩ => by
    rw [ev] at h
    refine evs_step R h fun xs vs H1 c1 R1 r1 h1 => ?_
    obtain ⟨r, e, q⟩ := T.all_ofO.mp h1
    exact ⟨_, st, m, xs, r, R1.gd, r1, e, Fin.back (fun _ => bad_st) q c1⟩
theorem se_bfun {id : String} {x : Str} {p : Pos} {es : List Expr} {ies : List E} {bi : Bi} (hc : CallR X (.builtin id) (rBi X.K bi)) (hg : Gl X x) (hm : X.mg x = some (.builtin id)) (ha : PA X (a :: es) (tEvs X.K Γ ies true))
    (hdb : (x == ("__debug__" : Str)) = false) (he : starEach (a :: es) X.env = (false, eval a X.env) :: starEach es X.env) (hpl : (backTo pos (starEach es X.env)).any (·.1) = false) : PE X (.Call (.Name x p) (a :: es) [] pos) (tEv X.K Γ (.bi bi ies) m) :=
  PE.imp (pe_callBfun hc hg hm ha hdb he hpl) fun σ H Q ⟨B0, st, fp, ρ, R, h⟩ => by
    rw [ev] at h
    refine evs_step R h fun xs vs H1 c1 R1 r1 h1 => ?_
    obtain ⟨r, e, q⟩ := T.all_ofO.mp h1
    exact ⟨_, st, m, xs, r, R1.gd, r1, e, Fin.back (fun _ => bad_st) q c1⟩
/-- the class named in an isinstance -/
theorem se_isi1 {p pt : Pos} {x xt : Str} {t : Ty} (hg : Gl X x) (hm : X.mg x = none) (hv : bootBuiltins x = some (.builtin "isinstance")) (ha : PE X a (tEv X.K Γ ia true)) (hgt : Gl X xt) (hmt : X.mg xt = none) (hvt : bootBuiltins xt = some (.type (tyName t)))
    (hn : x ≠ "__name__") (hdb : (x == ("__debug__" : Str)) = false) (hnt : xt ≠ "__name__") (hdbt : (xt == ("__debug__" : Str)) = false) (he : starEach [a, .Name xt pt] X.env = (false, eval a X.env) :: starEach [.Name xt pt] X.env) :
    PE X (.Call (.Name x p) [a, .Name xt pt] [] pos) (tEv X.K Γ (.isi ia [t]) m) :=
  PE.imp (pe_callB call_isi hg hm hv (pa_cons ha (pa_cons (pe_bltn (v := .ty (tyName t)) hgt hmt hvt rfl hnt hdbt) pa_nil) he) hn hdb he rfl) fun σ H Q ⟨B0, st, fp, ρ, R, h⟩ => by
    rw [ev] at h
    refine ev_step R h fun r v H1 c1 R1 r1 h1 => ?_
    have l := r1.look (fun _ => bad_st)
    refine ⟨v, .ty (tyName t), _, _, tyD r.1 t, rfl, .ty _, tyx_of l, kit_one r.1 t (ne_dic l), Fin.same (Fin.back (fun _ => bad_st) h1 c1) R1.gd ?_⟩
    show V.bl _ = V.bl _
    simp [allTy]
theorem se_isi2 {p p1 p2 pt : Pos} {k : Nat} {x x1 x2 : Str} {t1 t2 : Ty} (hg : Gl X x) (hm : X.mg x = none) (hv : bootBuiltins x = some (.builtin "isinstance")) (ha : PE X a (tEv X.K Γ ia true)) (hg1 : Gl X x1) (hm1 : X.mg x1 = none) (hv1 : bootBuiltins x1 = some (.type (tyName t1)))
    (hg2 : Gl X x2) (hm2 : X.mg x2 = none) (hv2 : bootBuiltins x2 = some (.type (tyName t2)))
    (hn : x ≠ "__name__") (hdb : (x == ("__debug__" : Str)) = false) (hn1 : x1 ≠ "__name__") (hdb1 : (x1 == ("__debug__" : Str)) = false) (hn2 : x2 ≠ "__name__") (hdb2 : (x2 == ("__debug__" : Str)) = false) (he : starEach [a, .Tuple [.Name x1 p1, .Name x2 p2] k pt] X.env = (false, eval a X.env) :: starEach [.Tuple [.Name x1 p1, .Name x2 p2] k pt] X.env) :
    PE X (.Call (.Name x p) [a, .Tuple [.Name x1 p1, .Name x2 p2] k pt] [] pos) (tEv X.K Γ (.isi ia [t1, t2]) m) :=
  PE.imp (pe_callB call_isiT hg hm hv (pa_cons ha (pa_cons (pe_tup (pa_cons (pe_bltn (v := .ty (tyName t1)) hg1 hm1 hv1 rfl hn1 hdb1) (pa_cons (pe_bltn (v := .ty (tyName t2)) hg2 hm2 hv2 rfl hn2 hdb2) pa_nil))) pa_nil) he) hn hdb he rfl) fun σ H Q ⟨B0, st, fp, ρ, R, h⟩ => by
    rw [ev] at h
    refine ev_step R h fun r v H1 c1 R1 r1 h1 => ?_
    have l := r1.look (fun _ => bad_st)
    refine ⟨small_line (show 2 ≤ 1000 by decide), fun q hq => ?_⟩
    refine ⟨v, q, _, _, _, allTy r.1 [t1, t2], rfl, upd_same, .cons (.ty _) (.cons (.ty _) .nil), tyx_of (l.ch (fun _ => bad_st) (Ch.new hq)), kit_any r.1 (ne_dic l) [t1, t2], ?_⟩
    exact h1 _ _ (c1.trans (Ch.new hq)) (R1.sok.ch hq) (.of (fun _ => bad_st) rfl)

/-! ### calls of defs -/
def Args (K : Fg) (B : Addr → Prop) (st : Option Addr) (H : Hp) : List Arg → List V → Prop
  | [], vs => vs = []
  | .d x :: as, vs => ∃ v r, vs = v :: r ∧ Rep K B H x v ∧ Args K B st H as r
  | .st :: as, vs => ∃ p r, vs = .ref p :: r ∧ st = some p ∧ Args K B st H as r
  | .scr :: as, vs => ∃ v r, vs = v :: r ∧ Scr K H v ∧ Args K B st H as r
/-- the promise of a def of n parameters: it yields what g yields -/
def spF (K : Fg) (n : Nat) (g : List Arg → T Rs) : Sp := fun vs H Q _ => vs.length = n ∧ ∃ (B : Addr → Prop) (st : Option Addr) (as : List Arg), Gd B st H ∧ Args K B st H as vs ∧ (g as).all fun r => Fin K B st false r H Q
def tEvA (K : Fg) (Γ : Sem) (es : List E) : TA := fun σ H Q => ∃ (B0 : Addr → Prop) (st : Option Addr) (fp : Nat → Option Addr) (ρ : Env), Rel K B0 st fp ρ σ H ∧
  (evA Γ es ρ).all fun as => ∀ vs H', Ch (Cs st) H H' → StOk st H' → Args K (badOf B0 st fp) st H' as vs → Q vs H'
theorem Args.ch {K : Fg} {B : Addr → Prop} {st : Option Addr} {H H' : Hp} (hB : ∀ p, st = some p → B p) (c : Ch (Cs st) H H') : ∀ {as : List Arg} {vs : List V}, Args K B st H as vs → Args K B st H' as vs
  | [], _, h => h
  | .d x :: as, _, ⟨v, r, e, h1, h2⟩ => ⟨v, r, e, Rep.ch c hB _ _ h1, Args.ch hB c h2⟩
  | .st :: as, _, ⟨p, r, e, h1, h2⟩ => ⟨p, r, e, h1, Args.ch hB c h2⟩
  | .scr :: as, _, ⟨v, r, e, h1, h2⟩ => ⟨v, r, e, h1.ch c, Args.ch hB c h2⟩
theorem Args.length {K : Fg} {B : Addr → Prop} {st : Option Addr} {H : Hp} : ∀ {as : List Arg} {vs : List V}, Args K B st H as vs → vs.length = as.length
  | [], _, h => by rw [show _ = _ from h]; rfl
  | .d x :: as, _, ⟨v, r, e, h1, h2⟩ => by rw [e, List.length_cons, List.length_cons, Args.length h2]
  | .st :: as, _, ⟨p, r, e, h1, h2⟩ => by rw [e, List.length_cons, List.length_cons, Args.length h2]
  | .scr :: as, _, ⟨v, r, e, h1, h2⟩ => by rw [e, List.length_cons, List.length_cons, Args.length h2]
theorem sa_nil : PA X [] (tEvA X.K Γ []) := PA.imp pa_nil fun σ H Q ⟨B0, st, fp, ρ, R, h⟩ => by
  rw [evA] at h
  exact h [] H .refl R.sok rfl
theorem evA_eq {Γ : Sem} {e : E} {es : List E} {ρ : Env} (h : isV e = false) : evA Γ (e :: es) ρ = (ev Γ e false ρ).bind fun x => (evA Γ es ρ).bind fun xs => .ret (.d x.1 :: xs) := by
  cases e with
  | v i => cases h
  | _ => rw [evA]; intro i z; cases z
theorem evA_step {K : Fg} {B0 : Addr → Prop} {st : Option Addr} {fp : Nat → Option Addr} {ρ : Env} {σ : L2.St} {H : Hp} {Γ : Sem} {β : Type} {f : List Arg → T β} {P : β → Prop} {es : List E} {QA : List V → Hp → Prop} (R : Rel K B0 st fp ρ σ H) (h : ((evA Γ es ρ).bind f).all P)
    (k : ∀ as vs H1, Ch (Cs st) H H1 → Rel K B0 st fp ρ σ H1 → Args K (badOf B0 st fp) st H1 as vs → (f as).all P → QA vs H1) : tEvA K Γ es σ H QA :=
  ⟨B0, st, fp, ρ, R, T.all_mono (fun as ha vs H1 c S res => k as vs H1 c (R.mono c S) res ha) (T.all_bind.mp h)⟩
theorem sa_cons {es : List Expr} {ies : List E} (hv : isV ia = false) (ha : PE X a (tEv X.K Γ ia false)) (hr : PA X es (tEvA X.K Γ ies)) (hs : starEach (a :: es) X.env = (false, eval a X.env) :: starEach es X.env) : PA X (a :: es) (tEvA X.K Γ (ia :: ies)) :=
  PA.imp (pa_cons ha hr hs) fun σ H Q ⟨B0, st, fp, ρ, R, h⟩ => by
    rw [evA_eq hv] at h
    refine ev_step R h fun x v H1 c1 R1 r1 h1 => evA_step R1 h1 fun as vs H2 c2 R2 r2 h2 => ?_
    exact h2 _ H2 (c1.trans c2) R2.sok ⟨v, vs, rfl, Rep.ch c2 (fun _ => bad_st) _ _ r1.rep, r2⟩
theorem sa_var {es : List Expr} {ies : List E} {i : Nat} (ha : PE X a (tVar i)) (hr : PA X es (tEvA X.K Γ ies)) (hs : starEach (a :: es) X.env = (false, eval a X.env) :: starEach es X.env) : PA X (a :: es) (tEvA X.K Γ (.v i :: ies)) :=
  PA.imp (pa_cons ha hr hs) fun σ H Q ⟨B0, st, fp, ρ, R, h⟩ => by
    rw [evA] at h
    split at h
    · rename_i e
      obtain ⟨p, e1, e2⟩ := R.slot i _ e
      refine ⟨_, e2, evA_step R h fun as vs H2 c2 R2 r2 h2 => ?_⟩
      exact h2 _ H2 c2 R2.sok ⟨p, vs, rfl, e1, r2⟩
    · rename_i e
      obtain ⟨v, e2, e1⟩ := R.slot i _ e
      refine ⟨_, e2, evA_step R h fun as vs H2 c2 R2 r2 h2 => ?_⟩
      exact h2 _ H2 c2 R2.sok ⟨v, vs, rfl, e1.ch c2, r2⟩
    · rw [ev] at h
      obtain ⟨r, e, q⟩ := T.all_ofO.mp (T.all_bind.mp h)
      obtain ⟨d, e2, rfl⟩ := Option.map_eq_some_iff.mp e
      obtain ⟨v, e1, r⟩ := rd_spec R e2
      rw [if_neg Bool.false_ne_true] at r
      refine ⟨v, e1, evA_step R q fun as vs H2 c2 R2 r2 h2 => ?_⟩
      exact h2 _ H2 c2 R2.sok ⟨v, vs, rfl, Rep.ch c2 (fun _ => bad_st) _ _ r, r2⟩
theorem evA_len {Γ : Sem} {ρ : Env} : ∀ {es : List E} {P : List Arg → Prop}, (evA Γ es ρ).all P → (evA Γ es ρ).all fun xs => P xs ∧ xs.length = es.length
  | [], P, h => by rw [evA] at h ⊢; exact ⟨h, rfl⟩
  | e :: es, P, h => by
    have gen : ∀ {t : T Rs}, (t.bind fun x => (evA Γ es ρ).bind fun xs => .ret (.d x.1 :: xs)).all P → (t.bind fun x => (evA Γ es ρ).bind fun xs => .ret (.d x.1 :: xs)).all fun xs => P xs ∧ xs.length = (e :: es).length := fun {t} h => by
      refine T.all_bind.mpr (T.all_mono (fun x hx => ?_) (T.all_bind.mp h))
      refine T.all_bind.mpr (T.all_mono (fun xs hxs => ?_) (evA_len (T.all_bind.mp hx)))
      exact ⟨hxs.1, by rw [List.length_cons, List.length_cons, hxs.2]⟩
    cases hv : isV e with
    | false => rw [evA_eq hv] at h ⊢; exact gen h
    | true =>
      cases e with
      | v i =>
        rw [evA] at h ⊢
        split at h
        · refine T.all_bind.mpr (T.all_mono (fun xs hxs => ?_) (evA_len (T.all_bind.mp h)))
          exact ⟨hxs.1, by rw [List.length_cons, List.length_cons, hxs.2]⟩
        · refine T.all_bind.mpr (T.all_mono (fun xs hxs => ?_) (evA_len (T.all_bind.mp h)))
          exact ⟨hxs.1, by rw [List.length_cons, List.length_cons, hxs.2]⟩
        · exact gen h
      | _ => cases hv
theorem se_call {k n lev : Nat} {f : Addr} {fd : FuncData} {ps : List Str} {x : Str} {p : Pos} {es : List Expr} {ies : List E} (F : FnOk X.prog X.w X.K X.mg X.base CX0 lev f fd ps (spF X.K n (Γ k))) (hr : Room lev X.A) (hg : Gl X x) (hm : X.mg x = some (.ref f)) (hk : PySem.W.keepIn X.K (.ref f) = true) (hb : Binds X.K fd ps [])
    (ha : PA X (a :: es) (tEvA X.K Γ ies)) (hl : ies.length = n) (hdb : (x == ("__debug__" : Str)) = false) (he : starEach (a :: es) X.env = (false, eval a X.env) :: starEach es X.env) (hpl : (backTo pos (starEach es X.env)).any (·.1) = false) : PE X (.Call (.Name x p) (a :: es) [] pos) (tEv X.K Γ (.call k ies) m) :=
  PE.imp (pe_call F hr hg hm hk hb .nil pass0 ha hdb he hpl) fun σ H Q ⟨B0, st, fp, ρ, R, h⟩ => by
    rw [ev] at h
    refine ⟨B0, st, fp, ρ, R, T.all_mono (fun as h1 vs H1 c1 S1 r1 => ?_) (evA_len (T.all_bind.mp h))⟩
    obtain ⟨h1, e1⟩ := h1
    have R1 := R.mono c1 S1
    refine ⟨by rw [List.append_nil, r1.length, e1, hl], _, st, as, R1.gd, by rw [List.append_nil]; exact r1, T.all_mono (fun r hr v H2 c2 S2 res => ?_) h1⟩
    exact hr v H2 (c1.trans c2) S2 ((res.up fun _ => bad_st).back (fun _ => bad_st) c1)
theorem se_call0 {k lev : Nat} {f : Addr} {fd : FuncData} {ps : List Str} {x : Str} {p : Pos} (F : FnOk X.prog X.w X.K X.mg X.base CX0 lev f fd ps (spF X.K 0 (Γ k))) (hr : Room lev X.A) (hg : Gl X x) (hm : X.mg x = some (.ref f)) (hk : PySem.W.keepIn X.K (.ref f) = true) (hb : Binds X.K fd ps [])
    (hdb : (x == ("__debug__" : Str)) = false) : PE X (.Call (.Name x p) [] [] pos) (tEv X.K Γ (.call k []) m) :=
  PE.imp (pe_call0 F hr hg hm hk hb .nil pass0 hdb) fun σ H Q ⟨B0, st, fp, ρ, R, h⟩ => by
    rw [ev, evA] at h
    refine ⟨rfl, _, st, [], R.gd, rfl, T.all_mono (fun r hr v H2 c2 S2 res => ?_) h⟩
    exact hr v H2 c2 S2 (res.up fun _ => bad_st)
/-- the promise of the def that draws -/
def spDraw (K : Fg) : Sp := fun vs H Q _ => ∃ (p : Addr) (s : Int) (k v : Int) (w : V), vs = [.ref p, w, .int s] ∧ Scr K H w ∧ H p = some (.lst [.int k, .int v]) ∧ 0 < s ∧ s < 2 ^ 30 ∧
  ∀ d k' v' : Int, 0 ≤ d → d < s → Q (.int d) (upd H p (.lst [.int k', .int v']))
theorem se_draw {lev i j : Nat} {f : Addr} {fd : FuncData} {ps : List Str} {x : Str} {p : Pos} (F : FnOk X.prog X.w X.K X.mg X.base CX0 lev f fd ps (spDraw X.K)) (hr : Room lev X.A) (hg : Gl X x) (hm : X.mg x = some (.ref f)) (hk : PySem.W.keepIn X.K (.ref f) = true) (hb : Binds X.K fd ps [])
    (ha : PE X a (tVar i)) (hb' : PE X b (tVar j)) (hc : PE X c (tEv X.K Γ ic true)) (hdb : (x == ("__debug__" : Str)) = false) (h1 : starEach [a, b, c] X.env = (false, eval a X.env) :: starEach [b, c] X.env) (h2 : starEach [b, c] X.env = (false, eval b X.env) :: starEach [c] X.env) (h3 : starEach [c] X.env = (false, eval c X.env) :: starEach [] X.env)
    (hpl : (backTo pos (starEach [b, c] X.env)).any (·.1) = false) : PE X (.Call (.Name x p) [a, b, c] [] pos) (tEv X.K Γ (.draw i j ic) m) :=
  PE.imp (pe_call F hr hg hm hk hb .nil pass0 (pa_cons ha (pa_cons hb' (pa_cons hc pa_nil h3) h2) h1) hdb h1 hpl) fun σ H Q ⟨B0, st, fp, ρ, R, h⟩ => by
    rw [ev] at h
    have hs : ρ[i]? = some .st ∧ ρ[j]? = some .scr := by
      have : ∀ t : T Rs, (t.bind fun x => drawT ρ i j x.1).all (fun r => Fin X.K (badOf B0 st fp) st m r H Q) → ρ[i]? = some .st ∧ ρ[j]? = some .scr := fun t => by
        induction t with
        | ret a =>
          intro h
          have h : (drawT ρ i j a.1).all _ := h
          unfold drawT at h
          split at h
          · exact ⟨by assumption, by assumption⟩
          · exact h.elim
        | err => intro h; exact h.elim
        | drw n k ih => intro h; exact ih 0 (h.2 0 h.1)
      exact this _ h
    obtain ⟨p, e1, e2⟩ := R.slot i _ hs.1
    obtain ⟨w, e3, e4⟩ := R.slot j _ hs.2
    refine ⟨_, e2, _, e3, ?_⟩
    refine ev_step R h fun r u H1 c1 R1 r1 h1 => ?_
    have l := r1.look (fun _ => bad_st)
    obtain ⟨d, fr⟩ := r
    unfold drawT at h1
    rw [hs.1, hs.2] at h1
    cases d with
    | int s =>
      obtain rfl := l
      simp only at h1
      split at h1
      · rename_i hz
        obtain ⟨k, v, hp⟩ := R1.sok p e1
        refine ⟨p, s, k, v, w, rfl, e4.ch c1, hp, hz.1, hz.2, fun d k' v' h0 hd => ?_⟩
        have hd' : d.toNat < s.toNat := by omega
        have q : Fin X.K (badOf B0 st fp) st m (.int ((d.toNat : Nat) : Int), false) H Q := h1.2 d.toNat hd'
        have ed : ((d.toNat : Nat) : Int) = d := Int.toNat_of_nonneg h0
        rw [ed] at q
        have c2 : Ch (Cs st) H1 (upd H1 p (.lst [.int k', .int v'])) := Ch.put hp rfl e1
        refine q _ _ (c1.trans c2) (fun q' e' => ?_) (.of (fun _ => bad_st) rfl)
        rw [e1] at e'; cases e'
        exact ⟨k', v', upd_same⟩
      · exact h1.elim
    | _ => exact h1.elim
end
end FF

set_option Elab.async false
set_option linter.all false
set_option maxRecDepth 100000
set_option maxHeartbeats 4000000
/-! FFE: enumerate over a tuple. -/
namespace FF
open PySem PySem.Spec PyProof.Rows L2
section
theorem newEnum1 {v : Value} {o : Obj} {G : Heap → Prop} (B : Begins v o G) : Meets (Builtin.«enumerate.__new__» ⟨[.type "enumerate", v], []⟩) (fun _ R s => G s.heap ∧ R (.ok (.ret (.ref (s.heap.push o).objs.size))) { s with heap := (s.heap.push o).push { cls := .type "enumerate", data := .fields #[.none, .bool false, .ref s.heap.objs.size, rawInt 0, .none, .none] } }) :=
  .of_wp fun prog w A R s h => by
    obtain ⟨hp, gg, dd, tk, os⟩ := s
    obtain ⟨g1, hR⟩ := h
    have sb := sub_enumerate
    have it1 : ∀ {A' : Around} {E : Value → Shared → Prop} {Q : Value → Shared → Prop}, Q (.ref hp.objs.size) ⟨hp.push o, gg, dd, tk, os⟩ → wpAny (model prog w) A' (pyIter v) Q E ⟨hp, gg, dd, tk, os⟩ := fun q => B.iter prog w _ _ ⟨hp, gg, dd, tk, os⟩ _ g1 q
    wp_walk using it1
    refine wpAny_stack_any fun st => wpAny_pure ?_
    split
    · rename_i c _ _ _ _ _
      cases (c == Value.type "enumerate") <;> (wp_walk using it1; exact ⟨_, rfl, hR⟩)
    · wp_walk using it1; exact ⟨_, rfl, hR⟩
theorem callEnum1 {prog : Program} {w : World} {A : Around} {E : Value → Shared → Prop} {s : Shared} {v : Value} {o : Obj} {G : Heap → Prop} {Q : Value → Shared → Prop} (B : Begins v o G) (g1 : G s.heap)
    (h : ∀ h', IsEnum h' (s.heap.objs.size + 1) s.heap.objs.size 0 .none → h'.get? s.heap.objs.size = some o → (∀ b ob, s.heap.get? b = some ob → h'.get? b = some ob) → Q (.ref (s.heap.objs.size + 1)) { s with heap := h' }) : wpAny (model prog w) A (call (.type "enumerate") [v]) Q E s := by
  refine callType_new F.called_enumerate (by decide) (F.typeCall_enumerate_1 _) (F.newCall_enumerate_1 _) (fun ob => F.args_object_init_2 ob _) F.entry_enumerate_new (newEnum1 B) ⟨g1, ?_⟩
  have sz : (s.heap.push o).objs.size = s.heap.objs.size + 1 := Heap.size_push ..
  show _ ∧ _
  rw [sz]
  have he := Heap.get?_push_size (s.heap.push o) (o := { cls := .type "enumerate", data := .fields #[.none, .bool false, .ref s.heap.objs.size, rawInt 0, .none, .none] }) rfl
  rw [sz] at he
  exact ⟨⟨_, he, rfl⟩, h _ he (Heap.get?_push_of_some _ (Heap.get?_push_size _ B.free)) fun b ob x => Heap.get?_push_of_some _ (Heap.get?_push_of_some _ x)⟩
/-- a tuple as it stands at each turn, each item in a new pair -/
def IteT (K : Fg) (a : Addr) : It :=
  ⟨fun i H => ∃ (xs : List V) (x : V), SqT K H a xs ∧ xs[i]? = some x, fun i H v H' => ∃ T x, v = .ref T ∧ H T = none ∧ H' = upd H T (.tup [.int (i : Nat), x]) ∧ (∀ xs, SqT K H a xs → xs[i]? = some x), fun i H => ∃ xs : List V, SqT K H a xs ∧ xs.length = i⟩
theorem turnEnumT {P : Program} {w : World} {K : Fg} {elts : List Expr} {kk : Nat} {tpos : Pos} {a e it : Addr} (hae : e ≠ a) (hai : a ≠ it) :
    Turn P w K (.Tuple elts kk tpos) (IteT K a) [e, it] e (fun i h => (∃ old, IsEnum h e it ((i : Nat) : Int) old) ∧ h.IsTupleIter it a i ∧ e ≠ it) where
  mem := by simp
  obj := fun i h st b hb => by
    obtain ⟨⟨old, he⟩, ⟨ob, ho, hc, hd⟩, _⟩ := st
    rcases (by simpa using hb : b = e ∨ b = it) with z | z
    · rw [z]; exact ⟨_, he, fun v q => by cases q⟩
    · rw [z]; exact ⟨ob, ho, fun v q => by rw [hd] at q; cases q⟩
  keep := fun i h h' st k => by
    obtain ⟨⟨old, he⟩, hi, hne⟩ := st
    exact ⟨⟨old, k e (by simp) _ he⟩, hi.at (fun ob q => k it (by simp) ob q), hne⟩
  item := by
    intro X hP hw hK hc i pins s σ H E I hf st hg
    subst hP hw hK
    obtain ⟨⟨old, he⟩, hit, hne⟩ := st
    obtain ⟨xs, x, hq, hx⟩ := hg
    obtain ⟨its, rv, p, hz⟩ := I.tuple hq
    obtain ⟨u, hu, ru⟩ := rv.get hx
    have el : e < s.heap.objs.size := Heap.lt_size he
    have il : it < s.heap.objs.size := by obtain ⟨_, q, _⟩ := hit; exact Heap.lt_size q
    have hlt : i < its.toArray.size := by
      rcases Nat.lt_or_ge i its.length with z | z
      · simpa using z
      · rw [List.getElem?_eq_none z] at hu; cases hu
    have hd : X.A.in1.handled = none := I.ok.hd hc
    refine wpAny_pyNext_enum_itemD (Draws.tuple hd it a hai its.toArray) he ⟨hit, p⟩ hlt hne (by simp [hne, hae]) fun x' h' tk hP' ho st' hT hsz hk => ?_
    have ex : x' = u := by
      have h1 : its[i]? = some x' := by simpa using hP'
      rw [hu] at h1; cases h1; rfl
    subst ex
    refine ⟨_, rfl, wpAny_letOwnedTupleGo_enum (s := { s with heap := h', toks := tk + 1 }) ho fun h'' he' sb => ?_⟩
    have hT2 : h''.get? s.heap.objs.size = some { cls := .type "tuple", data := .seq #[.int i tk, x'] } := (sb.2 _ (Nat.ne_of_gt el)).trans hT
    have new : ObjOk X.prog X.w (upd H s.heap.objs.size (.tup [.int (i : Nat), x])) h'' s.heap.objs.size (.tup [.int (i : Nat), x]) := ⟨by show 2 ≤ sizeLine; decide, [.int i tk, x'], .cons ⟨_, rfl⟩ (.cons ru .nil), ⟨_, hT2, rfl, _, rfl⟩⟩
    have I1 : Inv X pins σ (upd H s.heap.objs.size (.tup [.int (i : Nat), x])) { s with heap := h'', toks := tk + 1 } :=
      I.turnedNew (t' := tk + 1) (ch := [e, it]) (fun b ob hb q => (sb.2 b (fun z => hb (by simp [z]))).trans (hk b ob (fun z => hb (by simp [z])) (fun z => hb (by simp [z])) q)) hf (Nat.le_refl _) new
    refine ⟨.ref s.heap.objs.size, _, I1, rfl, ⟨_, x, rfl, I.hok.fresh (Nat.le_refl _), rfl, fun ys hy => by rw [I.tuple_inj hy hq]; exact hx⟩, ⟨⟨x', ?_⟩, st'.1.at fun ob q => (sb.2 it (Ne.symm hne)).trans q, hne⟩, fun b hb => ?_⟩
    · rw [show ((i + 1 : Nat) : Int) = (i : Int) + 1 by omega]; exact he'
    · have hb' : b < s.heap.objs.size := by
        rcases (by simpa using hb : b = e ∨ b = it) with z | z <;> rw [z] <;> assumption
      rw [upd_ne (Nat.ne_of_lt hb')]; exact (hf b hb).1
  done := by
    intro X hP hw hK hc i pins s σ H E I hf st hg
    subst hP hw hK
    obtain ⟨⟨old, he⟩, hit, hne⟩ := st
    obtain ⟨xs, hq, hx⟩ := hg
    obtain ⟨its, rv, p, hz⟩ := I.tuple hq
    have hd : X.A.in1.handled = none := I.ok.hd hc
    have l1 := rv.length
    have e1 : i = its.toArray.size := by simp; omega
    subst e1
    obtain ⟨f0, f1, f2, f3, f4, f5⟩ := hf it (by simp)
    exact wpAny_pyNext_enum_endD (Draws.tuple hd it a hai its.toArray) he ⟨hit, p⟩ fun h' eb => ⟨rfl, I.turned (t' := s.toks) (fun b ob hb q => eb b ob hb q) f0 f1 f3 f4 f5⟩
  self := fun A i s Q E st h => let ⟨⟨_, he⟩, _⟩ := st; wpAny_pyIter_enum he h
/-- enumerate of a list or a tuple -/
def iEnumA (K : Fg) (ta : TA) : TI := fun σ H R => ta σ H fun vs H1 => ∃ a xs, vs = [.ref a] ∧ ((SqL K H1 a xs ∧ R (Ite K a) H1) ∨ (SqT K H1 a xs ∧ R (IteT K a) H1))
theorem pi_enumA {X : Cx} {e : Expr} {ta : TA} {p pos tpos : Pos} {elts : List Expr} {kk : Nat} (hg : Gl X "enumerate") (hm : X.mg "enumerate" = none) (ha : PA X [e] ta) (hs : starEach [e] X.env = [(false, eval e X.env)] := by rfl) : PI X (.Tuple elts kk tpos) (.Call (.Name "enumerate" p) [e] [] pos) (iEnumA X.K ta) := by
  refine ⟨fun pins s σ H R I h => Call_ (ld_blt I hg hm boot_enumerate (PyProof.Rows.callWith_type1 (thn (ha.run pos pins s σ H _ I h) fun us s1 ⟨vs, H1, I1, r1, q1⟩ => ?_) hs rfl))⟩
  obtain ⟨a, xs, ex, q1⟩ := q1
  subst ex
  cases r1 with
  | cons r rr =>
    cases rr
    cases r
    have fresh2 : ∀ b, b ∈ [s1.heap.objs.size + 1, s1.heap.objs.size] → FpOk X pins H1 b := fun b hb => by
      have hle : s1.heap.objs.size ≤ b := by
        rcases (by simpa using hb : b = s1.heap.objs.size + 1 ∨ b = s1.heap.objs.size) with z | z
        · rw [z]; exact Nat.le_add_right _ _
        · rw [z]; exact Nat.le_refl _
      exact I1.fpOk hle (I1.hok.fresh hle)
    rcases q1 with ⟨hq, q⟩ | ⟨hq, q⟩
    · obtain ⟨its, rv, p', hz⟩ := I1.list hq
      refine call_enumerate_list p'.isList fun h' he hit hsz hk => wpAny_pyIter_enum he ?_
      have I2 : Inv X pins σ H1 { s1 with heap := h' } := I1.kept (t' := s1.toks) hk
      exact ⟨s1.heap.objs.size + 1, [s1.heap.objs.size + 1, s1.heap.objs.size], _, _, H1, rfl, I2, turn_enum a (s1.heap.objs.size + 1) s1.heap.objs.size, ⟨⟨.none, he⟩, hit, Nat.succ_ne_self _⟩, fresh2, q⟩
    · obtain ⟨its, rv, p', hz⟩ := I1.tuple hq
      obtain ⟨o1, ho1, _⟩ := id p'
      have la : a < s1.heap.objs.size := Heap.lt_size ho1
      refine callEnum1 (begins_tuple a its.toArray) (show s1.heap.IsTuple a its.toArray from p') fun h' he hit hk => wpAny_pyIter_enum he ?_
      have I2 : Inv X pins σ H1 { s1 with heap := h' } := I1.kept (t' := s1.toks) hk
      exact ⟨s1.heap.objs.size + 1, [s1.heap.objs.size + 1, s1.heap.objs.size], _, _, H1, rfl, I2, turnEnumT (Nat.ne_of_gt (Nat.lt_succ_of_lt la)) (Nat.ne_of_lt la), ⟨⟨.none, he⟩, ⟨_, hit, rfl, rfl⟩, Nat.succ_ne_self _⟩, fresh2, q⟩
end
end FF

set_option Elab.async false
set_option linter.all false
set_option maxRecDepth 100000
set_option maxHeartbeats 4000000
/-! FF6: what is walked, targets, comprehensions. -/
namespace FF
open PySem PySem.Spec PyProof.Rows L2

/-- J yields the items its, one by one, as long as nothing but C has changed since H1 -/
def Wk (K : Fg) (C B1 : Addr → Prop) (H1 : Hp) (J : It) (its : List D) : Prop := ∀ H, Ch C H1 H →
  (∀ i d, its[i]? = some d → J.go i H ∧ ∀ x H', J.yld i H x H' → Ch (fun _ => False) H H' ∧ ∀ B', (∀ p, B' p → B1 p ∨ H1 p = none) → Rep K B' H' d x) ∧ J.stop its.length H
/-- what may change while it is walked -/
def COk (B1 : Addr → Prop) (fp : Nat → Option Addr) (H1 : Hp) (ses : List E) (C : Addr → Prop) : Prop :=
  (∀ p, C p → B1 p ∨ H1 p = none) ∧ ∀ i p, E.v i ∈ ses → fp i = some p → ¬ C p
def tSrc (K : Fg) (Γ : Sem) (sk : Sk) (ses : List E) : TI := fun σ H R => ∃ (B0 : Addr → Prop) (st : Option Addr) (fp : Nat → Option Addr) (ρ : Env), Rel K B0 st fp ρ σ H ∧
  ((evS Γ ses ρ).bind fun xs => T.ofO (srcD sk xs)).all fun its => ∀ J H', Ch (Cs st) H H' → StOk st H' → its.length ≤ sizeLine → (∀ C, COk (badOf B0 st fp) fp H' ses C → Wk K C (badOf B0 st fp) H' J its) → R J H'
/-- a source's value -/
def Hold (K : Fg) (B : Addr → Prop) (fp : Nat → Option Addr) (ses : List E) (H : Hp) (d : D) (v : V) : Prop :=
  Rep K B H d v ∨ ∃ i p xs vs, E.v i ∈ ses ∧ fp i = some p ∧ d = .lst xs ∧ v = .ref p ∧ H p = some (.lst vs) ∧ vs.length ≤ sizeLine ∧ Reps K B H xs vs
def Holds (K : Fg) (B : Addr → Prop) (fp : Nat → Option Addr) (ses : List E) (H : Hp) : List D → List V → Prop
  | [], vs => vs = []
  | x :: xs, vs => ∃ v r, vs = v :: r ∧ Hold K B fp ses H x v ∧ Holds K B fp ses H xs r
def tEvS (K : Fg) (Γ : Sem) (all es : List E) : TA := fun σ H Q => ∃ (B0 : Addr → Prop) (st : Option Addr) (fp : Nat → Option Addr) (ρ : Env), Rel K B0 st fp ρ σ H ∧
  (evS Γ es ρ).all fun xs => ∀ vs H', Ch (Cs st) H H' → StOk st H' → Holds K (badOf B0 st fp) fp all H' xs vs → Q vs H'
section
variable {K : Fg} {B0 : Addr → Prop} {st : Option Addr} {fp : Nat → Option Addr} {ρ : Env} {σ : L2.St} {H H1 : Hp} {Γ : Sem} {ses : List E}
theorem Hold.ch {d : D} {v : V} (R : Rel K B0 st fp ρ σ H) (c : Ch (Cs st) H H1) (h : Hold K (badOf B0 st fp) fp ses H d v) : Hold K (badOf B0 st fp) fp ses H1 d v := by
  rcases h with h | ⟨i, p, xs, vs, m, f, e1, e2, hp, hl, hr⟩
  · exact .inl (Rep.ch c (fun _ => bad_st) _ _ h)
  · exact .inr ⟨i, p, xs, vs, m, f, e1, e2, c _ _ hp fun z => ((R.nb i p f).2 z).elim, hl, Reps.ch c (fun _ => bad_st) _ _ hr⟩
theorem evS_step {β : Type} {f : List D → T β} {P : β → Prop} {all es : List E} {QA : List V → Hp → Prop} (R : Rel K B0 st fp ρ σ H) (h : ((evS Γ es ρ).bind f).all P)
    (k : ∀ xs vs H1, Ch (Cs st) H H1 → Rel K B0 st fp ρ σ H1 → Holds K (badOf B0 st fp) fp all H1 xs vs → (f xs).all P → QA vs H1) : tEvS K Γ all es σ H QA :=
  ⟨B0, st, fp, ρ, R, T.all_mono (fun xs hx vs H1 c S res => k xs vs H1 c (R.mono c S) res hx) (T.all_bind.mp h)⟩
end
theorem evS_len {Γ : Sem} {ρ : Env} : ∀ {es : List E} {P : List D → Prop}, (evS Γ es ρ).all P → (evS Γ es ρ).all fun xs => P xs ∧ xs.length = es.length
  | [], P, h => by rw [evS] at h ⊢; exact ⟨h, rfl⟩
  | e :: es, P, h => by
    rw [evS] at h ⊢
    refine T.all_bind.mpr (T.all_mono (fun x hx => ?_) (T.all_bind.mp h))
    refine T.all_bind.mpr (T.all_mono (fun xs hxs => ?_) (evS_len (T.all_bind.mp hx)))
    exact ⟨hxs.1, by rw [List.length_cons, List.length_cons, hxs.2]⟩
section
variable {K : Fg} {B0 : Addr → Prop} {st : Option Addr} {fp : Nat → Option Addr} {ρ : Env} {σ : L2.St} {H H1 : Hp} {Γ : Sem}
theorem src1 {β : Type} {f : List D → T β} {P : β → Prop} {all : List E} {e1 : E} {QA : List V → Hp → Prop} (R : Rel K B0 st fp ρ σ H) (h : ((evS Γ [e1] ρ).bind f).all P)
    (k : ∀ x v H1, Ch (Cs st) H H1 → Rel K B0 st fp ρ σ H1 → Hold K (badOf B0 st fp) fp all H1 x v → (f [x]).all P → QA [v] H1) : tEvS K Γ all [e1] σ H QA :=
  ⟨B0, st, fp, ρ, R, T.all_mono (fun xs hx vs H1 c S res => by
    obtain ⟨hx, l⟩ := hx
    match xs, l with
    | [x], _ =>
      obtain ⟨v, r, rfl, hd, hr⟩ := res
      rw [show r = [] from hr]
      exact k x v H1 c (R.mono c S) hd hx) (evS_len (T.all_bind.mp h))⟩
theorem src2 {β : Type} {f : List D → T β} {P : β → Prop} {all : List E} {e1 e2 : E} {QA : List V → Hp → Prop} (R : Rel K B0 st fp ρ σ H) (h : ((evS Γ [e1, e2] ρ).bind f).all P)
    (k : ∀ x y v w H1, Ch (Cs st) H H1 → Rel K B0 st fp ρ σ H1 → Hold K (badOf B0 st fp) fp all H1 x v → Hold K (badOf B0 st fp) fp all H1 y w → (f [x, y]).all P → QA [v, w] H1) : tEvS K Γ all [e1, e2] σ H QA :=
  ⟨B0, st, fp, ρ, R, T.all_mono (fun xs hx vs H1 c S res => by
    obtain ⟨hx, l⟩ := hx
    match xs, l with
    | [x, y], _ =>
      obtain ⟨v, r, rfl, hd, w, r2, rfl, hd2, hr⟩ := res
      rw [show r2 = [] from hr]
      exact k x y v w H1 c (R.mono c S) hd hd2 hx) (evS_len (T.all_bind.mp h))⟩
end
section
variable {X : Cx} {Γ : Sem} {pos : Pos} {a b : Expr} {ia ib : E} {all : List E}
theorem ss_nil : PA X [] (tEvS X.K Γ all []) := PA.imp pa_nil fun σ H Q ⟨B0, st, fp, ρ, R, h⟩ => by
  rw [evS] at h
  exact h [] H .refl R.sok rfl
theorem ss_cons {es : List Expr} {ies : List E} (hv : isV ia = false) (ha : PE X a (tEv X.K Γ ia false)) (hr : PA X es (tEvS X.K Γ all ies)) (hs : starEach (a :: es) X.env = (false, eval a X.env) :: starEach es X.env) : PA X (a :: es) (tEvS X.K Γ all (ia :: ies)) :=
  PA.imp (pa_cons ha hr hs) fun σ H Q ⟨B0, st, fp, ρ, R, h⟩ => by
    rw [evS, hv] at h
    refine ev_step R h fun x v H1 c1 R1 r1 h1 => evS_step (all := all) R1 h1 fun xs vs H2 c2 R2 r2 h2 => ?_
    exact h2 _ H2 (c1.trans c2) R2.sok ⟨v, vs, rfl, Hold.ch R1 c2 (.inl r1.rep), r2⟩
theorem hold_var {K : Fg} {B0 : Addr → Prop} {st : Option Addr} {fp : Nat → Option Addr} {ρ : Env} {σ : L2.St} {H : Hp} {i : Nat} {d : D} (R : Rel K B0 st fp ρ σ H) (m : E.v i ∈ all) (h : rd true ρ i = some d) : ∃ v, σ[i]? = some (some v) ∧ Hold K (badOf B0 st fp) fp all H d v := by
  unfold rd at h
  have own : ∀ p, fp i = some p → BoxOk K (badOf B0 st fp) H p d → Hold K (badOf B0 st fp) fp all H d (.ref p) := fun p f r => by
    cases d with
    | lst xs => obtain ⟨vs, h1, h2, h3⟩ := r; exact .inr ⟨i, p, xs, vs, m, f, rfl, rfl, h1, h2, h3⟩
    | _ => exact r.elim
  split at h
  · rename_i d' e
    cases h
    obtain ⟨v, e1, r⟩ := R.slot i _ e
    exact ⟨v, e1, .inl r⟩
  · rename_i d' e
    rw [if_pos rfl] at h
    cases h
    obtain ⟨p, f, e1, r⟩ := R.slot i _ e
    exact ⟨_, e1, own p f r⟩
  · rename_i d' e
    rw [if_pos rfl] at h
    cases h
    obtain ⟨p, f, e1, r⟩ := R.slot i _ e
    exact ⟨_, e1, own p f r⟩
  · cases h
theorem ss_var {es : List Expr} {ies : List E} {i : Nat} (m : E.v i ∈ all) (ha : PE X a (tVar i)) (hr : PA X es (tEvS X.K Γ all ies)) (hs : starEach (a :: es) X.env = (false, eval a X.env) :: starEach es X.env) : PA X (a :: es) (tEvS X.K Γ all (.v i :: ies)) :=
  PA.imp (pa_cons ha hr hs) fun σ H Q ⟨B0, st, fp, ρ, R, h⟩ => by
    rw [evS] at h
    rw [show isV (.v i) = true from rfl, ev] at h
    obtain ⟨r, e, q⟩ := T.all_ofO.mp (T.all_bind.mp h)
    obtain ⟨d, e2, rfl⟩ := Option.map_eq_some_iff.mp e
    obtain ⟨v, e1, r⟩ := hold_var R m e2
    refine ⟨v, e1, evS_step (all := all) R q fun xs vs H2 c2 R2 r2 h2 => ?_⟩
    exact h2 _ H2 c2 R2.sok ⟨v, vs, rfl, Hold.ch R c2 r, r2⟩
/-- the only source -/
def tHold (K : Fg) (Γ : Sem) (ie : E) : TE := fun σ H Q => ∃ (B0 : Addr → Prop) (st : Option Addr) (fp : Nat → Option Addr) (ρ : Env), Rel K B0 st fp ρ σ H ∧
  (evS Γ [ie] ρ).all fun xs => ∀ d v H', xs = [d] → Ch (Cs st) H H' → StOk st H' → Hold K (badOf B0 st fp) fp [ie] H' d v → Q v H'
theorem sh_of (hv : isV ia = false) (ha : PE X a (tEv X.K Γ ia false)) : PE X a (tHold X.K Γ ia) :=
  PE.imp ha fun σ H Q ⟨B0, st, fp, ρ, R, h⟩ => by
    rw [evS, hv] at h
    refine ev_step R h fun x v H1 c1 R1 r1 h1 => ?_
    rw [evS] at h1
    exact h1 x.1 v H1 rfl c1 R1.sok (.inl r1.rep)
theorem sh_var {i : Nat} (ha : PE X a (tVar i)) : PE X a (tHold X.K Γ (.v i)) :=
  PE.imp ha fun σ H Q ⟨B0, st, fp, ρ, R, h⟩ => by
    rw [evS, evS] at h
    rw [show isV (.v i) = true from rfl, ev] at h
    obtain ⟨r, e, q⟩ := T.all_ofO.mp (T.all_bind.mp h)
    obtain ⟨d, e2, rfl⟩ := Option.map_eq_some_iff.mp e
    obtain ⟨v, e1, r⟩ := hold_var (all := [.v i]) R List.mem_cons_self e2
    exact ⟨v, e1, q d v H rfl .refl R.sok r⟩

/-! ### sources -/
/-- a list, a tuple or a text, as it comes -/
def iSeq (K : Fg) (te : TE) : TI := fun σ H R => te σ H fun x H1 => (∃ p vs, x = .ref p ∧ SqL K H1 p vs ∧ R (Itl K p) H1) ∨ (∃ p vs, x = .ref p ∧ SqT K H1 p vs ∧ R (Itt K p) H1) ∨ ∃ z, x = .str z ∧ R (Its z) H1
theorem pi_seq {tg : Expr} {te : TE} (ha : PE X a te) : PI X tg a (iSeq X.K te) := by
  refine ⟨fun pins s σ H R I h => thn (ha.run pins s σ H _ I h) fun v s1 hx => ?_⟩
  obtain ⟨x, H1, I1, r1, q⟩ := hx
  have fpk : ∀ b ∈ [s1.heap.objs.size], FpOk X pins H1 b := fun b hb => by
    have eb : b = s1.heap.objs.size := List.mem_singleton.mp hb
    rw [eb]
    exact I1.fpOk (Nat.le_refl _) (I1.hok.fresh (Nat.le_refl _))
  rcases q with ⟨p, vs, rfl, hq, q⟩ | ⟨p, vs, rfl, hq, q⟩ | ⟨z, rfl, q⟩
  · cases r1
    obtain ⟨us, rv, pl, hz⟩ := I1.list hq
    exact wpAny_pyIter_list pl.isList ⟨_, _, _, _, H1, rfl, I1.kept (t' := s1.toks) fun b o eo => Heap.get?_push_of_some _ eo, turn_list p _, ⟨_, Heap.get?_push_size _ rfl, rfl, rfl⟩, fpk, q⟩
  · cases r1
    obtain ⟨us, rv, pt, hz⟩ := I1.tuple hq
    exact wpAny_pyIter_tuple (show s1.heap.IsTuple p us.toArray from pt) ⟨_, _, _, _, H1, rfl, I1.kept (t' := s1.toks) fun b o eo => Heap.get?_push_of_some _ eo, turn_tuple p _, ⟨_, Heap.get?_push_size _ rfl, rfl, rfl⟩, fpk, q⟩
  · obtain ⟨tk, rfl⟩ := r1
    cases hasc : z.cps.all (· < 128) with
    | true => exact wpAny_pyIter_ascii hasc (pi_one (tk := s1.toks) I1 _ (turn_str _ z tk "str_ascii_iterator" (.inl rfl)) ⟨_, Heap.get?_push_size _ rfl, rfl, rfl⟩ q)
    | false => exact wpAny_pyIter_wide hasc (pi_one (tk := s1.toks) I1 _ (turn_str _ z tk "str_iterator" (.inr rfl)) ⟨_, Heap.get?_push_size _ rfl, rfl, rfl⟩ q)
theorem PI.imp {tg e : Expr} {t t' : TI} (h : PI X tg e t) (i : ∀ σ H R, t' σ H R → t σ H R) : PI X tg e t' := ⟨fun pins s σ H R I q => h.run pins s σ H R I (i σ H R q)⟩
theorem hold_list {K : Fg} {B1 : Addr → Prop} {fp : Nat → Option Addr} {H1 : Hp} {ses : List E} {xs : List D} {v : V} (h : Hold K B1 fp ses H1 (.lst xs) v) :
    ∃ p vs, v = .ref p ∧ H1 p = some (.lst vs) ∧ (∀ C, COk B1 fp H1 ses C → ¬ C p) ∧ vs.length ≤ sizeLine ∧ Reps K B1 H1 xs vs := by
  rcases h with ⟨p, vs, e, nb, hp, hl, hr⟩ | ⟨i, p, ys, vs, m, f, e1, e2, hp, hl, hr⟩
  · exact ⟨p, vs, e, hp, (fun C ok z => (ok.1 p z).elim nb fun q => by rw [hp] at q; cases q), hl, hr⟩
  · cases e1
    exact ⟨p, vs, e2, hp, fun C ok => ok.2 i p m f, hl, hr⟩
theorem hold_tup {K : Fg} {B1 : Addr → Prop} {fp : Nat → Option Addr} {H1 : Hp} {ses : List E} {xs : List D} {v : V} (h : Hold K B1 fp ses H1 (.tup xs) v) :
    ∃ p vs, v = .ref p ∧ SqT K H1 p vs ∧ vs.length ≤ sizeLine ∧ Reps K B1 H1 xs vs := by
  rcases h with h | ⟨i, p, ys, vs, m, f, e1, _⟩
  · exact h
  · cases e1
theorem hold_int {K : Fg} {B1 : Addr → Prop} {fp : Nat → Option Addr} {H1 : Hp} {ses : List E} {i : Int} {v : V} (h : Hold K B1 fp ses H1 (.int i) v) : v = .int i := by
  rcases h with h | ⟨i, p, ys, vs, m, f, e1, _⟩
  · exact h
  · cases e1
theorem wk_list {K : Fg} {C B1 : Addr → Prop} {H1 : Hp} {p : Addr} {xs : List D} {vs : List V} (hp : H1 p = some (.lst vs)) (nc : ¬ C p) (hC : ∀ p, C p → B1 p ∨ H1 p = none) (r : Reps K B1 H1 xs vs) : Wk K C B1 H1 (Itl K p) xs := fun H c => by
  have hp' : H p = some (.lst vs) := c _ _ hp fun z => (nc z).elim
  refine ⟨fun i d e => ?_, vs, SqL.of hp', by rw [r.length]; exact Nat.le_refl _⟩
  obtain ⟨v, h1, h2⟩ := r.get e
  refine ⟨⟨vs, v, SqL.of hp', h1⟩, fun x H' y => ?_⟩
  obtain ⟨rfl, y⟩ := y
  have ex : x = v := Option.some.inj ((y vs (SqL.of hp')).symm.trans h1)
  subst ex
  exact ⟨.refl, fun B' hB => Rep.later c hC hB _ _ h2⟩
theorem wk_tup {K : Fg} {C B1 : Addr → Prop} {H1 : Hp} {p : Addr} {xs : List D} {vs : List V} (hp : SqT K H1 p vs) (hC : ∀ p, C p → B1 p ∨ H1 p = none) (r : Reps K B1 H1 xs vs) : Wk K C B1 H1 (Itt K p) xs := fun H c => by
  have hp' : SqT K H p vs := SqT.ch hp c
  refine ⟨fun i d e => ?_, vs, hp', by rw [r.length]; exact Nat.le_refl _⟩
  obtain ⟨v, h1, h2⟩ := r.get e
  refine ⟨⟨vs, v, hp', h1⟩, fun x H' y => ?_⟩
  obtain ⟨rfl, y⟩ := y
  have ex : x = v := Option.some.inj ((y vs hp').symm.trans h1)
  subst ex
  exact ⟨.refl, fun B' hB => Rep.later c hC hB _ _ h2⟩
theorem sp_seq {tg : Expr} (ha : PE X a (tHold X.K Γ ia)) : PI X tg a (tSrc X.K Γ .seq [ia]) :=
  PI.imp (pi_seq ha) fun σ H R ⟨B0, st, fp, ρ, Rl, h⟩ => by
    have len : (evS Γ [ia] ρ).all fun xs => (T.ofO (srcD .seq xs)).all (fun its => ∀ J H', Ch (Cs st) H H' → StOk st H' → its.length ≤ sizeLine → (∀ C, COk (badOf B0 st fp) fp H' [ia] C → Wk X.K C (badOf B0 st fp) H' J its) → R J H') := T.all_bind.mp h
    refine ⟨B0, st, fp, ρ, Rl, T.all_mono (fun xs hx d v H1 e c S hd => ?_) len⟩
    subst e
    obtain ⟨its, e, q⟩ := T.all_ofO.mp hx
    cases d with
    | lst xs =>
      cases e
      obtain ⟨p, vs, rfl, hp, nc, hl, hr⟩ := hold_list hd
      exact .inl ⟨p, vs, rfl, SqL.of hp, q _ H1 c S (by rw [← hr.length]; exact hl) fun C ok => wk_list hp (nc C ok) ok.1 hr⟩
    | tup xs =>
      cases e
      obtain ⟨p, vs, rfl, hp, hl, hr⟩ := hold_tup hd
      exact .inr (.inl ⟨p, vs, rfl, hp, q _ H1 c S (by rw [← hr.length]; exact hl) fun C ok => wk_tup hp ok.1 hr⟩)
    | str s =>
      cases e
      have hd : v = .str ⟨s.toArray⟩ ∧ s.length ≤ sizeLine := by
        rcases hd with hd | ⟨i, p, ys, vs, m, f, e1, _⟩
        · exact hd
        · cases e1
      obtain ⟨rfl, ls⟩ := hd
      refine .inr (.inr ⟨_, rfl, q _ H1 c S (by rw [List.length_map]; exact ls) fun C ok H2 c2 => ⟨fun i d e => ?_, ?_⟩⟩)
      · rw [List.getElem?_map] at e
        obtain ⟨k, hk, rfl⟩ := Option.map_eq_some_iff.mp e
        have hi : i < s.length := by
          rcases Nat.lt_or_ge i s.length with z | z
          · exact z
          · rw [List.getElem?_eq_none z] at hk; cases hk
        refine ⟨by show i < s.toArray.size; simpa using hi, fun x H' y => ?_⟩
        obtain ⟨rfl, k', hk', rfl⟩ := y
        have ek : k' = k := by
          have : s.toArray[i]? = some k' := hk'
          rw [List.getElem?_toArray, hk] at this
          exact (Option.some.inj this).symm
        subst ek
        exact ⟨.refl, fun B' _ => ⟨rfl, small_line (show 1 ≤ 1000 by decide)⟩⟩
      · show s.toArray.size ≤ _
        simp
    | dic ks vs =>
      rcases hd with hd | ⟨i, p, ys, vs, m, f, e1, _⟩
      · exact hd.elim
      · cases e1
    | _ => simp [srcD] at e
theorem rangeL_len : ∀ (n : Nat) (lo : Int), (rangeL n lo).length = n
  | 0, _ => rfl
  | n + 1, lo => by rw [rangeL, List.length_cons, rangeL_len n]
theorem rangeL_get : ∀ (n : Nat) (lo : Int) (i : Nat), i < n → (rangeL n lo)[i]? = some (.int (lo + i))
  | n + 1, lo, 0, _ => by simp [rangeL]
  | n + 1, lo, i + 1, h => by
    rw [rangeL, List.getElem?_cons_succ, rangeL_get n (lo + 1) i (by omega)]
    congr 2; omega
theorem wk_range {K : Fg} {C B1 : Addr → Prop} {H1 : Hp} {lo : Int} {n : Nat} : Wk K C B1 H1 (Itr lo n) (rangeL n lo) := fun H c => by
  refine ⟨fun i d e => ?_, by show n ≤ _; rw [rangeL_len]; exact Nat.le_refl _⟩
  have hi : i < n := by
    rcases Nat.lt_or_ge i n with z | z
    · exact z
    · rw [List.getElem?_eq_none (by rw [rangeL_len]; exact z)] at e; cases e
  rw [rangeL_get n lo i hi] at e
  cases e
  refine ⟨hi, fun x H' y => ?_⟩
  obtain ⟨rfl, rfl⟩ := y
  exact ⟨.refl, fun B' _ => rfl⟩
theorem rng2_spec {i j : Int} {its : List D} (h : rng2 i j = some its) : -(2 ^ 62) ≤ i ∧ i < 2 ^ 62 ∧ -(2 ^ 62) ≤ j ∧ j < 2 ^ 62 ∧ (j - i).toNat ≤ line ∧ its = rangeL (j - i).toNat i := by
  unfold rng2 at h
  split at h
  · rename_i z
    cases h
    exact ⟨z.1, z.2.1, z.2.2.1, z.2.2.2.1, z.2.2.2.2, rfl⟩
  · cases h
theorem sp_range1 {tg : Expr} {p : Pos} (hg : Gl X "range") (hm : X.mg "range" = none) (ha : PA X [a] (tEvS X.K Γ [ia] [ia])) (hs : starEach [a] X.env = [(false, eval a X.env)]) : PI X tg (.Call (.Name "range" p) [a] [] pos) (tSrc X.K Γ .range [ia]) :=
  PI.imp (pi_range1 hg hm ha hs) fun σ H R ⟨B0, st, fp, ρ, Rl, h⟩ => by
    refine src1 Rl h fun d v H1 c R1 hd h1 => ?_
    obtain ⟨its, e, q⟩ := T.all_ofO.mp h1
    cases d with
    | int j =>
      obtain rfl := hold_int hd
      obtain ⟨_, _, h3, h4, h5, rfl⟩ := rng2_spec (show rng2 0 j = some its from e)
      rw [Int.sub_zero] at h5 q
      exact ⟨j, rfl, h3, h4, q _ H1 c R1.sok (by rw [rangeL_len, line_eq]; exact h5) fun C ok => wk_range⟩
    | _ => simp [srcD] at e
theorem sp_range2 {tg : Expr} {p : Pos} (hg : Gl X "range") (hm : X.mg "range" = none) (ha : PA X [a, b] (tEvS X.K Γ [ia, ib] [ia, ib])) (hs : starEach [a, b] X.env = [(false, eval a X.env), (false, eval b X.env)]) (hs2 : starEach [b] X.env = [(false, eval b X.env)]) : PI X tg (.Call (.Name "range" p) [a, b] [] pos) (tSrc X.K Γ .range [ia, ib]) :=
  PI.imp (pi_range2 hg hm ha hs hs2) fun σ H R ⟨B0, st, fp, ρ, Rl, h⟩ => by
    refine src2 Rl h fun d d2 v w H1 c R1 hd hd2 h1 => ?_
    obtain ⟨its, e, q⟩ := T.all_ofO.mp h1
    cases d with
    | int i =>
      cases d2 with
      | int j =>
        obtain rfl := hold_int hd
        obtain rfl := hold_int hd2
        obtain ⟨h1, h2, h3, h4, h5, rfl⟩ := rng2_spec (show rng2 i j = some its from e)
        exact ⟨i, j, rfl, ⟨h1, h2, h3, h4⟩, q _ H1 c R1.sok (by rw [rangeL_len, line_eq]; exact h5) fun C ok => wk_range⟩
      | _ => simp [srcD] at e
    | _ => cases d2 <;> simp [srcD] at e
theorem zipL_len : ∀ xs ys : List D, (zipL xs ys).length = min xs.length ys.length
  | [], _ => by simp [zipL]
  | _ :: _, [] => by simp [zipL]
  | x :: xs, y :: ys => by rw [zipL, List.length_cons, zipL_len xs ys, List.length_cons, List.length_cons]; omega
theorem zipL_get : ∀ (xs ys : List D) (i : Nat) (d : D), (zipL xs ys)[i]? = some d → ∃ x y, xs[i]? = some x ∧ ys[i]? = some y ∧ d = .tup [x, y]
  | x :: xs, y :: ys, 0, d, h => by simp [zipL] at h; exact ⟨x, y, rfl, rfl, h.symm⟩
  | x :: xs, y :: ys, i + 1, d, h => by
    obtain ⟨a, b, h1, h2, h3⟩ := zipL_get xs ys i d (by simpa [zipL] using h)
    exact ⟨a, b, by simpa using h1, by simpa using h2, h3⟩
  | [], _, _, _, h => by simp [zipL] at h
  | _ :: _, [], _, _, h => by simp [zipL] at h
theorem pair_item {K : Fg} {C B1 B' : Addr → Prop} {H1 H : Hp} {T : Addr} {x y : D} {v w : V} (c : Ch C H1 H) (hC : ∀ p, C p → B1 p ∨ H1 p = none) (nT : H T = none) (hx : Rep K B1 H1 x v) (hy : Rep K B1 H1 y w) (hB : ∀ p, B' p → B1 p ∨ H1 p = none) : Rep K B' (upd H T (.tup [v, w])) (.tup [x, y]) (.ref T) := by
  have f : ∀ {d : D} {u : V}, Rep K B1 H1 d u → Rep K B' (upd H T (.tup [v, w])) d u := fun h => Rep.ch (C := fun _ => False) (Ch.new nT) (fun _ z => z.elim) _ _ (Rep.later c hC hB _ _ h)
  exact ⟨T, [v, w], rfl, .inl (.inl upd_same), small_line (show 2 ≤ 1000 by decide), v, [w], rfl, f hx, w, [], rfl, f hy, rfl⟩
theorem sp_zip {elts : List Expr} {kk : Nat} {p tpos : Pos} (hg : Gl X "zip") (hm : X.mg "zip" = none) (ha : PA X [a, b] (tEvS X.K Γ [ia, ib] [ia, ib])) (hs : starEach [a, b] X.env = (false, eval a X.env) :: starEach [b] X.env) (hpl : (backTo pos (starEach [b] X.env)).any (·.1) = false) :
    PI X (.Tuple elts kk tpos) (.Call (.Name "zip" p) [a, b] [] pos) (tSrc X.K Γ .zip [ia, ib]) :=
  PI.imp (RZ.pi_zipA hg hm ha hs hpl) fun σ H R ⟨B0, st, fp, ρ, Rl, h⟩ => by
    refine src2 Rl h fun d d2 v w H1 c R1 hd hd2 h1 => ?_
    obtain ⟨its, e, q⟩ := T.all_ofO.mp h1
    cases d with
    | lst xs =>
      cases d2 with
      | lst ys =>
        cases e
        obtain ⟨p, vs, rfl, hp, nc, hl, hr⟩ := hold_list hd
        obtain ⟨p2, ws, rfl, hp2, nc2, hl2, hr2⟩ := hold_list hd2
        refine ⟨p, p2, vs, ws, rfl, .inl ⟨SqL.of hp, SqL.of hp2, q _ H1 c R1.sok (by rw [zipL_len, ← hr.length]; omega) fun C ok H2 c2 => ?_⟩⟩
        have g1 : H2 p = some (.lst vs) := c2 _ _ hp fun z => (nc C ok z).elim
        have g2 : H2 p2 = some (.lst ws) := c2 _ _ hp2 fun z => (nc2 C ok z).elim
        refine ⟨fun i d e => ?_, vs, ws, SqL.of g1, SqL.of g2, ?_⟩
        · obtain ⟨x, y, e1, e2, rfl⟩ := zipL_get _ _ _ _ e
          obtain ⟨v, f1, r1⟩ := hr.get e1
          obtain ⟨w, f2, r2⟩ := hr2.get e2
          refine ⟨⟨vs, ws, v, w, SqL.of g1, SqL.of g2, f1, f2⟩, fun z H' yl => ?_⟩
          obtain ⟨T, v', w', rfl, nT, rfl, k1, k2⟩ := yl
          have ev : v' = v := Option.some.inj ((k1 _ (SqL.of g1)).symm.trans f1)
          have ew : w' = w := Option.some.inj ((k2 _ (SqL.of g2)).symm.trans f2)
          subst ev ew
          exact ⟨Ch.new nT, fun B' hB => pair_item c2 ok.1 nT r1 r2 hB⟩
        · rw [zipL_len, hr.length, hr2.length]; omega
      | _ => simp [srcD] at e
    | tup xs =>
      cases d2 with
      | tup ys =>
        cases e
        obtain ⟨p, vs, rfl, hp, hl, hr⟩ := hold_tup hd
        obtain ⟨p2, ws, rfl, hp2, hl2, hr2⟩ := hold_tup hd2
        refine ⟨p, p2, vs, ws, rfl, .inr ⟨hp, hp2, q _ H1 c R1.sok (by rw [zipL_len, ← hr.length]; omega) fun C ok H2 c2 => ?_⟩⟩
        have g1 : SqT X.K H2 p vs := SqT.ch hp c2
        have g2 : SqT X.K H2 p2 ws := SqT.ch hp2 c2
        refine ⟨fun i d e => ?_, vs, ws, g1, g2, ?_⟩
        · obtain ⟨x, y, e1, e2, rfl⟩ := zipL_get _ _ _ _ e
          obtain ⟨v, f1, r1⟩ := hr.get e1
          obtain ⟨w, f2, r2⟩ := hr2.get e2
          refine ⟨⟨vs, ws, v, w, g1, g2, f1, f2⟩, fun z H' yl => ?_⟩
          obtain ⟨T, v', w', rfl, nT, rfl, k1, k2⟩ := yl
          have ev : v' = v := Option.some.inj ((k1 _ g1).symm.trans f1)
          have ew : w' = w := Option.some.inj ((k2 _ g2).symm.trans f2)
          subst ev ew
          exact ⟨Ch.new nT, fun B' hB => pair_item c2 ok.1 nT r1 r2 hB⟩
        · rw [zipL_len, hr.length, hr2.length]; omega
      | _ => simp [srcD] at e
    | _ => cases d2 <;> simp [srcD] at e
theorem enumL_len : ∀ (n : Nat) (xs : List D), (enumL n xs).length = xs.length
  | _, [] => rfl
  | n, x :: xs => by rw [enumL, List.length_cons, enumL_len (n + 1) xs, List.length_cons]
theorem enumL_get : ∀ (n : Nat) (xs : List D) (i : Nat) (d : D), (enumL n xs)[i]? = some d → ∃ x, xs[i]? = some x ∧ d = .tup [.int ((n + i : Nat) : Int), x]
  | n, x :: xs, 0, d, h => by simp [enumL] at h; exact ⟨x, rfl, h.symm⟩
  | n, x :: xs, i + 1, d, h => by
    obtain ⟨a, h1, h2⟩ := enumL_get (n + 1) xs i d (by simpa [enumL] using h)
    refine ⟨a, by simpa using h1, ?_⟩
    rw [h2, show n + 1 + i = n + (i + 1) by omega]
  | _, [], _, _, h => by simp [enumL] at h
theorem sp_enum {elts : List Expr} {kk : Nat} {p tpos : Pos} (hg : Gl X "enumerate") (hm : X.mg "enumerate" = none) (ha : PA X [a] (tEvS X.K Γ [ia] [ia])) (hs : starEach [a] X.env = [(false, eval a X.env)]) :
    PI X (.Tuple elts kk tpos) (.Call (.Name "enumerate" p) [a] [] pos) (tSrc X.K Γ .enum [ia]) :=
  PI.imp (pi_enumA hg hm ha hs) fun σ H R ⟨B0, st, fp, ρ, Rl, h⟩ => by
    refine src1 Rl h fun d v H1 c R1 hd h1 => ?_
    obtain ⟨its, e, q⟩ := T.all_ofO.mp h1
    cases d with
    | lst xs =>
      cases e
      obtain ⟨p, vs, rfl, hp, nc, hl, hr⟩ := hold_list hd
      refine ⟨p, vs, rfl, .inl ⟨SqL.of hp, q _ H1 c R1.sok (by rw [enumL_len, ← hr.length]; exact hl) fun C ok H2 c2 => ?_⟩⟩
      have g1 : H2 p = some (.lst vs) := c2 _ _ hp fun z => (nc C ok z).elim
      refine ⟨fun i d e => ?_, vs, SqL.of g1, by rw [enumL_len, hr.length]; exact Nat.le_refl _⟩
      obtain ⟨x, e1, rfl⟩ := enumL_get _ _ _ _ e
      obtain ⟨v, f1, r1⟩ := hr.get e1
      have hi : i < vs.length := by
        rcases Nat.lt_or_ge i vs.length with z | z
        · exact z
        · rw [List.getElem?_eq_none z] at f1; cases f1
      refine ⟨⟨vs, v, SqL.of g1, f1⟩, fun z H' yl => ?_⟩
      obtain ⟨T, v', rfl, nT, rfl, k1⟩ := yl
      have ev : v' = v := Option.some.inj ((k1 _ (SqL.of g1)).symm.trans f1)
      subst ev
      refine ⟨Ch.new nT, fun B' hB => pair_item c2 ok.1 nT ?_ r1 hB⟩
      show V.int _ = V.int _
      rw [Nat.zero_add]
    | tup xs =>
      cases e
      obtain ⟨p, vs, rfl, hp, hl, hr⟩ := hold_tup hd
      refine ⟨p, vs, rfl, .inr ⟨hp, q _ H1 c R1.sok (by rw [enumL_len, ← hr.length]; exact hl) fun C ok H2 c2 => ?_⟩⟩
      have g1 : SqT X.K H2 p vs := SqT.ch hp c2
      refine ⟨fun i d e => ?_, vs, g1, by rw [enumL_len, hr.length]⟩
      obtain ⟨x, e1, rfl⟩ := enumL_get _ _ _ _ e
      obtain ⟨v, f1, r1⟩ := hr.get e1
      refine ⟨⟨vs, v, g1, f1⟩, fun z H' yl => ?_⟩
      obtain ⟨T, v', rfl, nT, rfl, k1⟩ := yl
      have ev : v' = v := Option.some.inj ((k1 _ g1).symm.trans f1)
      subst ev
      refine ⟨Ch.new nT, fun B' hB => pair_item c2 ok.1 nT ?_ r1 hB⟩
      show V.int _ = V.int _
      rw [Nat.zero_add]
    | _ => simp [srcD] at e
theorem sp_rev {tg : Expr} {p : Pos} (hg : Gl X "reversed") (hm : X.mg "reversed" = none) (ha : PE X a (tHold X.K Γ ia)) (hs : starEach [a] X.env = (false, eval a X.env) :: starEach [] X.env) : PI X tg (.Call (.Name "reversed" p) [a] [] pos) (tSrc X.K Γ .rev [ia]) :=
  PI.imp (RT.pi_revA hg hm ha hs) fun σ H R ⟨B0, st, fp, ρ, Rl, h⟩ => by
    refine ⟨B0, st, fp, ρ, Rl, T.all_mono (fun xs hx d v H1 e c S hd => ?_) (T.all_bind.mp h)⟩
    subst e
    obtain ⟨its, e, q⟩ := T.all_ofO.mp hx
    cases d with
    | lst xs =>
      cases e
      obtain ⟨p, vs, rfl, hp, nc, hl, hr⟩ := hold_list hd
      refine ⟨p, vs, rfl, .inl ⟨SqL.of hp, q _ H1 c S (by rw [List.length_reverse, ← hr.length]; exact hl) fun C ok H2 c2 => ?_⟩⟩
      have g1 : H2 p = some (.lst vs) := c2 _ _ hp fun z => (nc C ok z).elim
      refine ⟨fun i d e => ?_, by show vs.length ≤ _; rw [List.length_reverse, hr.length]; exact Nat.le_refl _⟩
      have hi : i < xs.length := by
        rcases Nat.lt_or_ge i xs.length with z | z
        · exact z
        · rw [List.getElem?_eq_none (by rw [List.length_reverse]; exact z)] at e; cases e
      rw [List.getElem?_reverse hi] at e
      obtain ⟨v, f1, r1⟩ := hr.get e
      rw [← hr.length] at f1 hi
      refine ⟨⟨hi, vs, v, SqL.of g1, f1⟩, fun z H' yl => ?_⟩
      obtain ⟨rfl, yl⟩ := yl
      have ev : z = v := Option.some.inj ((yl _ (SqL.of g1)).symm.trans f1)
      subst ev
      exact ⟨.refl, fun B' hB => Rep.later c2 ok.1 hB _ _ r1⟩
    | tup xs =>
      cases e
      obtain ⟨p, vs, rfl, hp, hl, hr⟩ := hold_tup hd
      refine ⟨p, vs, rfl, .inr ⟨hp, q _ H1 c S (by rw [List.length_reverse, ← hr.length]; exact hl) fun C ok H2 c2 => ?_⟩⟩
      have g1 : SqT X.K H2 p vs := SqT.ch hp c2
      refine ⟨fun i d e => ?_, by show vs.length ≤ _; rw [List.length_reverse, hr.length]; exact Nat.le_refl _⟩
      have hi : i < xs.length := by
        rcases Nat.lt_or_ge i xs.length with z | z
        · exact z
        · rw [List.getElem?_eq_none (by rw [List.length_reverse]; exact z)] at e; cases e
      rw [List.getElem?_reverse hi] at e
      obtain ⟨v, f1, r1⟩ := hr.get e
      rw [← hr.length] at f1 hi
      refine ⟨⟨hi, vs, v, g1, f1⟩, fun z H' yl => ?_⟩
      obtain ⟨rfl, yl⟩ := yl
      have ev : z = v := Option.some.inj ((yl _ g1).symm.trans f1)
      subst ev
      exact ⟨.refl, fun B' hB => Rep.later c2 ok.1 hB _ _ r1⟩
    | _ => simp [srcD] at e
end
end FF

set_option Elab.async false
set_option linter.all false
set_option maxRecDepth 100000
set_option maxHeartbeats 4000000
/-! FF7: targets, comprehensions. -/
namespace FF
open PySem PySem.Spec PyProof.Rows L2

def dropF (fp : Nat → Option Addr) (i : Nat) : Nat → Option Addr := fun j => if j = i then none else fp j
theorem dropF_some {fp : Nat → Option Addr} {i j : Nat} {p : Addr} (h : dropF fp i j = some p) : j ≠ i ∧ fp j = some p := by
  unfold dropF at h
  split at h
  · cases h
  · rename_i z; exact ⟨z, h⟩
theorem dropF_ne {fp : Nat → Option Addr} {i j : Nat} (h : j ≠ i) : dropF fp i j = fp j := by unfold dropF; rw [if_neg h]
def FpLe (fp fp' : Nat → Option Addr) : Prop := ∀ i p, fp' i = some p → fp i = some p
theorem FpLe.refl {fp : Nat → Option Addr} : FpLe fp fp := fun _ _ h => h
theorem FpLe.trans {a b c : Nat → Option Addr} (h : FpLe a b) (g : FpLe b c) : FpLe a c := fun i p e => h i p (g i p e)
theorem FpLe.drop {fp : Nat → Option Addr} {i : Nat} : FpLe fp (dropF fp i) := fun _ _ h => (dropF_some h).2
section
variable {K : Fg} {B0 B0' : Addr → Prop} {st : Option Addr} {fp fp' : Nat → Option Addr} {ρ : Env} {σ : L2.St} {H H' : Hp}
theorem badOf.le (h : FpLe fp fp') {p : Addr} (b : badOf B0 st fp' p) : badOf B0 st fp p := by
  rcases b with b | b | ⟨i, b⟩
  · exact .inl b
  · exact .inr (.inl b)
  · exact .inr (.inr ⟨i, h i p b⟩)
theorem BoxOk.less {B B' : Addr → Prop} {p : Addr} {d : D} (h : BoxOk K B H p d) (hB : ∀ p, (∃ o, H p = some o) → B' p → B p) : BoxOk K B' H p d := by
  cases d with
  | lst xs => obtain ⟨vs, e, l, r⟩ := h; exact ⟨vs, e, l, Reps.less hB _ _ r⟩
  | _ => exact h.elim
theorem SlotOk.less {B B' : Addr → Prop} {i : Nat} {x : Option (Option V)} {s : Slot} (h : SlotOk K B st fp H i x s) (hB : ∀ p, (∃ o, H p = some o) → B' p → B p) (hf : ∀ p, fp i = some p → fp' i = some p) : SlotOk K B' st fp' H i x s := by
  cases s with
  | no => exact h
  | pl d => obtain ⟨v, e, r⟩ := h; exact ⟨v, e, Rep.less hB _ _ r⟩
  | bx d => obtain ⟨p, f, e, r⟩ := h; exact ⟨p, hf p f, e, r.less hB⟩
  | lk d => obtain ⟨p, f, e, r⟩ := h; exact ⟨p, hf p f, e, r.less hB⟩
  | st => exact h
  | scr => exact h
theorem getElem?_set_some {α : Type} {l : List α} {i j : Nat} {a s : α} (h : (l.set i a)[j]? = some s) : (j = i ∧ s = a ∧ i < l.length) ∨ (j ≠ i ∧ l[j]? = some s) := by
  by_cases e : j = i
  · subst e
    by_cases hl : j < l.length
    · rw [List.getElem?_set_self hl] at h
      exact .inl ⟨rfl, (Option.some.inj h).symm, hl⟩
    · rw [List.getElem?_eq_none (by simpa using hl)] at h; cases h
  · rw [List.getElem?_set_ne (Ne.symm e)] at h
    exact .inr ⟨e, h⟩
theorem Rel.setPl {i : Nat} {x : D} {v : V} (R : Rel K B0 st fp ρ σ H) (r : Rep K (badOf B0 st fp) H x v) : Rel K B0 st (dropF fp i) (ρ.set i (.pl x)) (σ.set i (some v)) H := by
  have le : ∀ p, (∃ o, H p = some o) → badOf B0 st (dropF fp i) p → badOf B0 st fp p := fun p _ => badOf.le FpLe.drop
  refine ⟨by rw [List.length_set, List.length_set, R.len], fun j s e => ?_, fun j p e => ?_, fun j p e => R.nb j p (dropF_some e).2, fun j k p e1 e2 => R.inj j k p (dropF_some e1).2 (dropF_some e2).2, R.dom, R.st0, R.sok⟩
  · rcases getElem?_set_some e with ⟨rfl, rfl, hl⟩ | ⟨hne, e⟩
    · exact ⟨v, by rw [List.getElem?_set_self (by rw [← R.len]; exact hl)], Rep.less le _ _ r⟩
    · have h := R.slot j s e
      rw [List.getElem?_set_ne (Ne.symm hne)]
      exact h.less le fun p f => by rw [dropF_ne hne]; exact f
  · obtain ⟨hne, f⟩ := dropF_some e
    obtain ⟨d, h⟩ := R.own j p f
    exact ⟨d, by rw [List.getElem?_set_ne (Ne.symm hne)]; exact h⟩
end

def dropsF (fp : Nat → Option Addr) (vs : List Nat) : Nat → Option Addr := fun j => if j ∈ vs then none else fp j
theorem dropsF_some {fp : Nat → Option Addr} {vs : List Nat} {j : Nat} {p : Addr} (h : dropsF fp vs j = some p) : j ∉ vs ∧ fp j = some p := by
  unfold dropsF at h
  split at h
  · cases h
  · rename_i z; exact ⟨z, h⟩
theorem dropsF_ne {fp : Nat → Option Addr} {vs : List Nat} {j : Nat} (h : j ∉ vs) : dropsF fp vs j = fp j := by unfold dropsF; rw [if_neg h]
theorem dropsF_two {fp : Nat → Option Addr} {a b : List Nat} : dropsF (dropsF fp a) b = dropsF fp (a ++ b) := by
  funext j
  unfold dropsF
  by_cases h1 : j ∈ a <;> by_cases h2 : j ∈ b <;> simp [h1, h2]
theorem dropsF_nil {fp : Nat → Option Addr} : dropsF fp [] = fp := by funext j; simp [dropsF]
theorem dropsF_one {fp : Nat → Option Addr} {i : Nat} : dropsF fp [i] = dropF fp i := by funext j; simp [dropsF, dropF]
theorem dropsF_le {fp : Nat → Option Addr} {vs : List Nat} : FpLe fp (dropsF fp vs) := fun _ _ h => (dropsF_some h).2
/-! ### targets -/
/-- only the slots at vs have changed -/
def Only' (vs : List Nat) (σ σ' : L2.St) : Prop := σ'.length = σ.length ∧ ∀ j, j ∉ vs → σ'[j]? = σ[j]?
theorem Only'.trans {vs ws : List Nat} {a b c : L2.St} (h : Only' vs a b) (g : Only' ws b c) : Only' (vs ++ ws) a c :=
  ⟨g.1.trans h.1, fun j hj => (g.2 j fun z => hj (List.mem_append_right _ z)).trans (h.2 j fun z => hj (List.mem_append_left _ z))⟩
def tTg (K : Fg) (t : Tg) : TG := fun v σ H Q => ∃ (B0 : Addr → Prop) (st : Option Addr) (fp : Nat → Option Addr) (ρ : Env) (x : D) (ρ' : Env), Rel K B0 st fp ρ σ H ∧ Rep K (badOf B0 st fp) H x v ∧ asgT t x ρ = some ρ' ∧
  ∀ σ', Only' (tgS t) σ σ' → Rel K B0 st (dropsF fp (tgS t)) ρ' σ' H → Q σ' H
def tTgs (K : Fg) (ts : List Tg) : TGs := fun vs σ H Q => ∃ (B0 : Addr → Prop) (st : Option Addr) (fp : Nat → Option Addr) (ρ : Env) (xs : List D) (ρ' : Env), Rel K B0 st fp ρ σ H ∧ Reps K (badOf B0 st fp) H xs vs ∧ asgTs ts xs ρ = some ρ' ∧
  ∀ σ', Only' (tgSs ts) σ σ' → Rel K B0 st (dropsF fp (tgSs ts)) ρ' σ' H → Q σ' H
theorem PG.imp {X : Cx} {e : Expr} {g g' : TG} (h : PG X e g) (i : ∀ v σ H Q, g' v σ H Q → g v σ H Q) : PG X e g' := ⟨fun pins s σ H v u Q I r q => h.run pins s σ H v u Q I r (i v σ H Q q)⟩
theorem PGs.imp {X : Cx} {e : List Expr} {g g' : TGs} (h : PGs X e g) (i : ∀ v σ H Q, g' v σ H Q → g v σ H Q) : PGs X e g' := ⟨fun pins s σ H v u Q I r q => h.run pins s σ H v u Q I r (i v σ H Q q)⟩
theorem PG.or {X : Cx} {e : Expr} {g g' : TG} (h : PG X e g) (h' : PG X e g') : PG X e (fun v σ H Q => g v σ H Q ∨ g' v σ H Q) :=
  ⟨fun pins s σ H v u Q I r q => q.elim (h.run pins s σ H v u Q I r) (h'.run pins s σ H v u Q I r)⟩
section
variable {X : Cx} {pos : Pos}
theorem st_name {i : Nat} {x : Str} (h : PG X (.Name x pos) (gName i)) : PG X (.Name x pos) (tTg X.K (.nm i)) :=
  PG.imp h fun v σ H Q ⟨B0, st, fp, ρ, x, ρ', R, r, e, q⟩ => by
    rw [asgT] at e
    split at e
    · cases e
      refine q _ ⟨by rw [List.length_set], fun j hj => List.getElem?_set_ne fun z => hj (by rw [tgS, ← z]; exact List.mem_cons_self)⟩ ?_
      rw [tgS, dropsF_one]
      exact R.setPl r
    · cases e
theorem st_nil : PGs X [] (tTgs X.K []) := PGs.imp pgs_nil fun vs σ H Q ⟨B0, st, fp, ρ, xs, ρ', R, r, e, q⟩ => by
  cases xs with
  | nil => rw [asgTs] at e; cases e; exact ⟨r, q σ ⟨rfl, fun _ _ => rfl⟩ (by rw [tgSs, dropsF_nil]; exact R)⟩
  | cons x xs => simp [asgTs] at e
theorem st_cons {e : Expr} {es : List Expr} {t : Tg} {ts : List Tg} (h1 : PG X e (tTg X.K t)) (h2 : PGs X es (tTgs X.K ts)) (hs : (assignEach (e :: es) X.env).map (·.2) = assign e X.env :: (assignEach es X.env).map (·.2)) : PGs X (e :: es) (tTgs X.K (t :: ts)) :=
  PGs.imp (pgs_cons h1 h2 hs) fun vs σ H Q ⟨B0, st, fp, ρ, xs, ρ', R, r, e, q⟩ => by
    cases xs with
    | nil => simp [asgTs] at e
    | cons x xs =>
      rw [asgTs] at e
      obtain ⟨ρ1, e1, e2⟩ := Option.bind_eq_some_iff.mp e
      obtain ⟨v, vr, rfl, r1, r2⟩ := r
      refine ⟨v, vr, rfl, B0, st, fp, ρ, x, ρ1, R, r1, e1, fun σ1 o1 R1 => ⟨B0, st, _, ρ1, xs, ρ', R1, Reps.less (fun p _ => badOf.le dropsF_le) _ _ r2, e2, fun σ2 o2 R2 => q σ2 ?_ ?_⟩⟩
      · rw [tgSs]; exact o1.trans o2
      · rw [dropsF_two] at R2; rw [tgSs]; exact R2
theorem asgTs_len : ∀ {ts : List Tg} {xs : List D} {ρ ρ' : Env}, asgTs ts xs ρ = some ρ' → xs.length = ts.length
  | [], [], _, _, _ => rfl
  | [], _ :: _, _, _, h => by simp [asgTs] at h
  | _ :: _, [], _, _, h => by simp [asgTs] at h
  | t :: ts, x :: xs, _, _, h => by
    rw [asgTs] at h
    obtain ⟨_, _, h2⟩ := Option.bind_eq_some_iff.mp h
    rw [List.length_cons, List.length_cons, asgTs_len h2]
theorem st_tup {es : List Expr} {k : Nat} {ts : List Tg} (hc : X.calm = true) (h : PGs X es (tTgs X.K ts)) (hn : (assignEach es X.env).length = ts.length) (hst : (assignEach es X.env).findIdx? (·.1) = none) : PG X (.Tuple es k pos) (tTg X.K (.tup ts)) :=
  PG.imp (PG.or (pg_tup hc h hn hst) (pg_unl hc h hn hst)) fun v σ H Q ⟨B0, st, fp, ρ, x, ρ', R, r, e, q⟩ => by
    cases x with
    | tup xs =>
      rw [asgT] at e
      obtain ⟨p, vs, rfl, hp, hl, hr⟩ := r
      refine .inl ⟨p, vs, rfl, hp, by rw [hr.length, asgTs_len e], B0, st, fp, ρ, xs, ρ', R, hr, e, fun σ' o R' => q σ' (by rw [tgS]; exact o) (by rw [tgS]; exact R')⟩
    | lst xs =>
      rw [asgT] at e
      obtain ⟨p, vs, rfl, nb, hp, hl, hr⟩ := r
      refine .inr ⟨p, vs, rfl, SqL.of hp, by rw [hr.length, asgTs_len e], B0, st, fp, ρ, xs, ρ', R, hr, e, fun σ' o R' => q σ' (by rw [tgS]; exact o) (by rw [tgS]; exact R')⟩
    | _ => simp [asgT] at e
end

/-! ### wiped slots -/
theorem wipe_get {σ : L2.St} {vs : List Nat} {j : Nat} : (wipe σ vs)[j]? = if j ∈ vs then (if j < σ.length then some none else none) else σ[j]? := by
  by_cases hj : j ∈ vs
  · rw [if_pos hj]
    split
    · rename_i hl
      cases e : (wipe σ vs)[j]? with
      | none => rw [List.getElem?_eq_none_iff, wipe_length] at e; omega
      | some o =>
        cases o with
        | none => rfl
        | some x => exact absurd hj (wipe_some e).2
    · rename_i hl
      exact List.getElem?_eq_none (by rw [wipe_length]; omega)
  · rw [if_neg hj, wipe_out hj]
theorem wipe_only {σ σ' : L2.St} {vs ws : List Nat} (o : Only' ws (wipe σ vs) σ') (h : ∀ j ∈ ws, j ∈ vs) : wipe σ' vs = wipe σ vs := by
  have hl : σ'.length = σ.length := by rw [o.1, wipe_length]
  refine List.ext_getElem? fun j => ?_
  rw [wipe_get, wipe_get, hl]
  split
  · rfl
  · rename_i hj
    rw [o.2 j fun z => hj (h j z), wipe_out hj]
theorem wipeE_length (ρ : Env) : ∀ vs : List Nat, (wipeE ρ vs).length = ρ.length
  | [] => rfl
  | v :: vs => by rw [wipeE, List.length_set, wipeE_length ρ vs]
theorem wipeE_get {ρ : Env} {j : Nat} {s : Slot} : ∀ {vs : List Nat}, (wipeE ρ vs)[j]? = some s → (j ∈ vs ∧ s = .no) ∨ (j ∉ vs ∧ ρ[j]? = some s)
  | [], h => .inr ⟨by simp, h⟩
  | v :: vs, h => by
    rw [wipeE] at h
    rcases getElem?_set_some h with ⟨rfl, rfl, _⟩ | ⟨hne, h⟩
    · exact .inl ⟨List.mem_cons_self, rfl⟩
    · rcases wipeE_get h with ⟨m, e⟩ | ⟨m, e⟩
      · exact .inl ⟨List.mem_cons_of_mem _ m, e⟩
      · exact .inr ⟨fun z => (List.mem_cons.mp z).elim hne m, e⟩
theorem wipeE_out {ρ : Env} {j : Nat} : ∀ {vs : List Nat}, j ∉ vs → (wipeE ρ vs)[j]? = ρ[j]?
  | [], _ => rfl
  | v :: vs, h => by
    rw [wipeE, List.getElem?_set_ne fun z => h (by rw [← z]; exact List.mem_cons_self)]
    exact wipeE_out fun z => h (List.mem_cons_of_mem _ z)
section
variable {K : Fg} {B0 : Addr → Prop} {st : Option Addr} {fp : Nat → Option Addr} {ρ : Env} {σ : L2.St} {H H' : Hp}
/-- within a comprehension's block: the slots at vs are wiped; the boxes they held, and D, are kept -/
def blkB (B0 : Addr → Prop) (fp : Nat → Option Addr) (vs : List Nat) (D : Addr) : Addr → Prop := fun p => B0 p ∨ p = D ∨ ∃ i, i ∈ vs ∧ fp i = some p
theorem blkB_bad {vs : List Nat} {D p : Addr} : badOf (blkB B0 fp vs D) st (dropsF fp vs) p ↔ badOf B0 st fp p ∨ p = D := by
  constructor
  · rintro ((b | b | ⟨i, _, b⟩) | b | ⟨i, b⟩)
    · exact .inl (.inl b)
    · exact .inr b
    · exact .inl (.inr (.inr ⟨i, b⟩))
    · exact .inl (.inr (.inl b))
    · exact .inl (.inr (.inr ⟨i, (dropsF_some b).2⟩))
  · rintro ((b | b | ⟨i, b⟩) | b)
    · exact .inl (.inl b)
    · exact .inr (.inl b)
    · by_cases hi : i ∈ vs
      · exact .inl (.inr (.inr ⟨i, hi, b⟩))
      · exact .inr (.inr ⟨i, by rw [dropsF_ne hi]; exact b⟩)
    · exact .inl (.inr (.inl b))
theorem Rel.blk {vs : List Nat} {D : Addr} {C : Addr → Prop} (R : Rel K B0 st fp ρ σ H) (nD : H D = none) (c : Ch C H H') (hC : ∀ p, C p → st = some p ∨ p = D) (hD : ∃ o, H' D = some o) (S : StOk st H') :
    Rel K (blkB B0 fp vs D) st (dropsF fp vs) (wipeE ρ vs) (wipe σ vs) H' := by
  have nst : st ≠ some D := fun z => by obtain ⟨k, v, e⟩ := R.sok D z; rw [nD] at e; cases e
  have nb0 : ¬ B0 D := fun z => by obtain ⟨o, e⟩ := R.dom D z; rw [nD] at e; cases e
  have cC : ∀ p, C p → badOf B0 st fp p ∨ H p = none := fun p z => (hC p z).elim (fun z => .inl (.inr (.inl z))) fun z => .inr (by rw [z]; exact nD)
  have cB : ∀ p, badOf (blkB B0 fp vs D) st (dropsF fp vs) p → badOf B0 st fp p ∨ H p = none := fun p z => (blkB_bad.mp z).elim .inl fun z => .inr (by rw [z]; exact nD)
  have keep : ∀ p o, H p = some o → st ≠ some p → H' p = some o := fun p o e ns => c p o e fun z => (hC p z).elim (fun z => (ns z).elim) fun z => by rw [z, nD] at e; cases e
  have box : ∀ i p d, fp i = some p → BoxOk K (badOf B0 st fp) H p d → BoxOk K (badOf (blkB B0 fp vs D) st (dropsF fp vs)) H' p d := fun i p d f b => by
    cases d with
    | lst xs => obtain ⟨ws, e, l, r⟩ := b; exact ⟨ws, keep _ _ e (R.nb i p f).2, l, Reps.later c cC cB _ _ r⟩
    | _ => exact b.elim
  refine ⟨by rw [wipeE_length, wipe_length, R.len], fun j s e => ?_, fun j p e => ?_, fun j p e => ?_, fun j k p e1 e2 => R.inj j k p (dropsF_some e1).2 (dropsF_some e2).2, fun p hp => ?_, fun p hp => ?_, S⟩
  · rcases wipeE_get e with ⟨m, rfl⟩ | ⟨m, e⟩
    · trivial
    · have h := R.slot j s e
      rw [wipe_out m]
      cases s with
      | no => exact h
      | pl d => obtain ⟨v, e1, r⟩ := h; exact ⟨v, e1, Rep.later c cC cB _ _ r⟩
      | bx d => obtain ⟨p, f, e1, r⟩ := h; exact ⟨p, by rw [dropsF_ne m]; exact f, e1, box j p d f r⟩
      | lk d => obtain ⟨p, f, e1, r⟩ := h; exact ⟨p, by rw [dropsF_ne m]; exact f, e1, box j p d f r⟩
      | st => exact h
      | scr => obtain ⟨v, e1, r⟩ := h; exact ⟨v, e1, r.ch c⟩
  · obtain ⟨m, f⟩ := dropsF_some e
    obtain ⟨d, h⟩ := R.own j p f
    exact ⟨d, by rw [wipeE_out m]; exact h⟩
  · obtain ⟨m, f⟩ := dropsF_some e
    refine ⟨?_, (R.nb j p f).2⟩
    rintro (z | z | ⟨i, mi, z⟩)
    · exact (R.nb j p f).1 z
    · subst z
      obtain ⟨o, e⟩ := R.dom' (p := p) (.inr (.inr ⟨j, f⟩))
      rw [nD] at e; cases e
    · exact m (R.inj i j p z f ▸ mi)
  · rcases hp with z | z | ⟨i, _, z⟩
    · obtain ⟨o, e⟩ := R.dom p z
      exact ⟨o, keep p o e fun q => R.st0 p q z⟩
    · rw [z]; exact hD
    · obtain ⟨_, ws, _, e⟩ := R.boxAt z
      exact ⟨_, keep p _ e (R.nb i p z).2⟩
  · rintro (z | z | ⟨i, _, z⟩)
    · exact R.st0 p hp z
    · exact nst (z ▸ hp)
    · exact (R.nb i p z).2 hp
end

/-! ### comprehensions -/
def tEvC (K : Fg) (Γ : Sem) (cs : List E) : TT := fun σ H Q => ∃ (B0 : Addr → Prop) (st : Option Addr) (fp : Nat → Option Addr) (ρ : Env), Rel K B0 st fp ρ σ H ∧
  (evC Γ cs ρ).all fun b => ∀ H', Ch (Cs st) H H' → StOk st H' → Q b H'
theorem PTs.imp {X : Cx} {cs : List Expr} {t t' : TT} (h : PTs X cs t) (i : ∀ σ H Q, t' σ H Q → t σ H Q) : PTs X cs t' := ⟨fun pins s σ H Q I q => h.run pins s σ H Q I (i σ H Q q)⟩
section
variable {X : Cx} {Γ : Sem}
theorem sc_nil : PTs X [] (tEvC X.K Γ []) := PTs.imp pts_nil fun σ H Q ⟨B0, st, fp, ρ, R, h⟩ => by
  rw [evC] at h
  exact h H .refl R.sok
theorem sc_one {c : Expr} {ic : E} (h : PT X c (tEvT X.K Γ ic)) : PTs X [c] (tEvC X.K Γ [ic]) := PTs.imp (pts_one h) fun σ H Q ⟨B0, st, fp, ρ, R, h⟩ => by
  rw [evC] at h
  refine evT_step R h fun b H1 c1 R1 h1 => ?_
  cases b with
  | true => exact h1 H1 c1 R1.sok
  | false => exact h1 H1 c1 R1.sok
/-- a block's list so far -/
structure CompAt (K : Fg) (B : Addr → Prop) (st : Option Addr) (m : Bool) (D : Addr) (H0 H1 H : Hp) (out : List FF.D) (ws : List V) : Prop where
  ch : Ch (fun p => st = some p ∨ p = D) H1 H
  sok : StOk st H
  at_ : H D = some (.lst ws)
  reps : Reps K (fun p => B p ∨ p = D) H out ws
theorem CompAt.app {K : Fg} {B : Addr → Prop} {st : Option Addr} {m : Bool} {D : Addr} {H0 H1 H : Hp} {out : List FF.D} {ws : List V} {y : FF.D} {v : V} (c : CompAt K B st m D H0 H1 H out ws) (nD : st ≠ some D) (hy : Rep K (fun p => B p ∨ p = D) H y v) (hB : ∀ p, st = some p → B p) :
    CompAt K B st m D H0 H1 (upd H D (.lst (ws ++ [v]))) (out ++ [y]) (ws ++ [v]) := by
  have cD : Ch (fun p => p = D) H (upd H D (.lst (ws ++ [v]))) := Ch.put c.at_ rfl rfl
  refine ⟨c.ch.trans (cD.mono fun p z => .inr z), fun p e => ?_, upd_same, Reps.append (Reps.ch cD (fun p z => .inr z) _ _ c.reps) (.one (Rep.ch cD (fun p z => .inr z) _ _ hy))⟩
  obtain ⟨k, u, e'⟩ := c.sok p e
  refine ⟨k, u, ?_⟩
  rw [upd_ne fun z => nD (by rw [← z]; exact e)]
  exact e'
theorem CompAt.step {K : Fg} {B : Addr → Prop} {st : Option Addr} {m : Bool} {D : Addr} {H0 H1 H H' : Hp} {out : List FF.D} {ws : List V} (c : CompAt K B st m D H0 H1 H out ws) (nD : st ≠ some D) (h : Ch (Cs st) H H') (S : StOk st H') (hB : ∀ p, st = some p → B p) : CompAt K B st m D H0 H1 H' out ws :=
  ⟨c.ch.trans (h.mono fun p z => .inl z), S, h _ _ c.at_ fun z => (nD z).elim, Reps.ch h (fun p z => .inl (hB p z)) _ _ c.reps⟩
theorem CompAt.fin {K : Fg} {B : Addr → Prop} {st : Option Addr} {m : Bool} {D : Addr} {H0 H1 H : Hp} {out : List FF.D} {ws : List V} {Q : VK} (c : CompAt K B st m D H0 H1 H out ws) (c1 : Ch (Cs st) H0 H1) (nD : H1 D = none) (nB : ¬ B D) (hB : ∀ p, st = some p → B p) (hl : ws.length ≤ sizeLine) (f : Fin K B st m (.lst out, true) H0 Q) : Q (.ref D) H := by
  have c2 : Ch (Cs st) H1 H := fun p o e i => c.ch p o e fun z => z.elim i fun z => by rw [z, nD] at e; cases e
  exact f _ H (c1.trans c2) c.sok (.new ⟨out, D, ws, rfl, rfl, c1.fresh (fun z => nB (hB D z)) nD, nB, c.at_, hl, c.reps⟩)
theorem se_comp {elt tg iter : Expr} {ifs : List Expr} {scope : Scope} {own : List (Str × Nat)} {pos : Pos} {t : Tg} {sk : Sk} {ses cs : List E} {e : E} {m : Bool} (hc : X.calm = true) (hN : X.N.Nodup) (hi : PI X tg iter (tSrc X.K Γ sk ses)) (ok : BlkOk X.N X.env.scope scope own) (ho : own.map (·.2) = tgS t)
    (hg : ∀ (s : Shared) (H : Hp) (C : Addr) (cl : List (Str × Addr)) (fp : List Addr), PG (X.blk s H scope (compEnvC scope cl C X.env) fp) tg (tTg X.K t)) (ht : ∀ (s : Shared) (H : Hp) (C : Addr) (cl : List (Str × Addr)) (fp : List Addr), PTs (X.blk s H scope (compEnvC scope cl C X.env) fp) ifs (tEvC X.K Γ cs))
    (he : ∀ (s : Shared) (H : Hp) (C : Addr) (cl : List (Str × Addr)) (fp : List Addr), PE (X.blk s H scope (compEnvC scope cl C X.env) fp) elt (tEv X.K Γ e false)) (hs : ∀ x, foldedSetIterable iter X.env x = pure x) :
    ∀ σ H Q, tEv X.K Γ (.comp t sk ses cs e) m σ H Q → tLc (tSrc X.K Γ sk ses) (tTg X.K t) (tEvC X.K Γ cs) (tEv X.K Γ e false) (tgS t) σ H Q := by
  intro σ H0 Q ⟨B0, st, fp, ρ, R, h⟩
  rw [ev] at h
  have hB : ∀ p, st = some p → badOf B0 st fp p := fun _ => bad_st
  have h : ((evS Γ ses ρ).bind fun xs => T.ofO (srcD sk xs)).all _ := T.all_bind.mpr (T.all_mono (fun xs hx => T.all_bind.mp hx) (T.all_bind.mp h))
  refine ⟨B0, st, fp, ρ, R, T.all_mono (fun its hL J H1 c1 S1 hlen wk D nD => ?_) h⟩
  have R1 := R.mono c1 S1
  have nst : st ≠ some D := fun z => by obtain ⟨k, v, e⟩ := S1 D z; rw [nD] at e; cases e
  have cok : COk (badOf B0 st fp) fp H1 ses (fun p => st = some p ∨ p = D) := by
    refine ⟨fun p z => z.elim (fun z => .inl (hB p z)) fun z => .inr (by rw [z]; exact nD), fun i p _ f z => z.elim (R1.nb i p f).2 fun z => ?_⟩
    obtain ⟨o, e⟩ := R1.dom' (p := p) (.inr (.inr ⟨i, f⟩))
    rw [z, nD] at e; cases e
  have wk := wk _ cok
  have hL := T.all_bind.mp hL
  refine ⟨fun i n H => n = its.length - i ∧ i ≤ its.length ∧ ∃ out ws, CompAt X.K (badOf B0 st fp) st m D H0 H1 H out ws ∧ out.length ≤ i ∧
    (compL (fun x => (T.ofO (asgT t x (wipeE ρ (tgS t)))).bind fun ρ' => (evC Γ cs ρ').bind fun b => cond b ((ev Γ e false ρ').bind fun y => .ret (some y.1)) (.ret none)) (its.drop i)).all fun r => Fin X.K (badOf B0 st fp) st m (.lst (out ++ r), true) H0 Q,
    ⟨its.length, rfl, Nat.zero_le _, [], [], ⟨Ch.new nD, S1.ch nD, upd_same, rfl⟩, Nat.le_refl _, T.all_mono (fun r hr => hr) hL⟩, ?_⟩
  rintro i n H ⟨rfl, hi, out, ws, ca, hout, hr⟩
  obtain ⟨wgo, wstop⟩ := wk H ca.ch
  have hws := ca.reps.length
  by_cases hlt : i < its.length
  · have ei : its[i]? = some its[i] := List.getElem?_eq_getElem hlt
    obtain ⟨go, yl⟩ := wgo i _ ei
    rw [List.drop_eq_getElem_cons hlt, compL] at hr
    refine .inr ⟨go, fun H' => i + 1 ≤ its.length ∧ ∃ out ws, CompAt X.K (badOf B0 st fp) st m D H0 H1 H' out ws ∧ out.length ≤ i + 1 ∧ (compL _ (its.drop (i + 1))).all fun r => Fin X.K (badOf B0 st fp) st m (.lst (out ++ r), true) H0 Q, fun H' nx => ⟨its.length - (i + 1), by omega, rfl, nx⟩, fun x H' y => ?_⟩
    obtain ⟨cy, ry⟩ := yl x H' y
    have ca' : CompAt X.K (badOf B0 st fp) st m D H0 H1 H' out ws := ca.step nst (cy.mono fun _ z => z.elim) (fun p e => by obtain ⟨k, u, e'⟩ := ca.sok p e; exact ⟨k, u, cy _ _ e' fun z => z.elim⟩) hB
    have Rb : Rel X.K (blkB B0 fp (tgS t) D) st (dropsF fp (tgS t)) (wipeE ρ (tgS t)) (wipe σ (tgS t)) H' := R1.blk nD ca'.ch (fun p z => z) ⟨_, ca'.at_⟩ ca'.sok
    have hr := T.all_bind.mp (T.all_bind.mp hr)
    obtain ⟨ρ', ea, hr⟩ := T.all_ofO.mp hr
    have hr := T.all_bind.mp hr
    refine ⟨_, st, _, _, _, ρ', Rb, ry _ fun p z => (blkB_bad.mp z).elim .inl fun z => .inr (by rw [z]; exact nD), ea, fun σ' o R' => ⟨wipe_only o fun _ z => z, _, st, _, ρ', R', T.all_mono (fun b hb H3 c3 S3 => ?_) hr⟩⟩
    have ca3 := ca'.step nst c3 S3 hB
    cases b with
    | false =>
      exact iteF ⟨hlt, out, ws, ca3, by omega, T.all_bind.mp hb⟩
    | true =>
      refine iteT ?_
      refine ⟨_, st, _, ρ', R'.mono c3 S3, T.all_mono (fun r hy v H4 c4 S4 res => ?_) (T.all_bind.mp hb)⟩
      have ca4 := ca3.step nst c4 S4 hB
      have ry4 : Rep X.K (fun p => badOf B0 st fp p ∨ p = D) H4 r.1 v := by
        refine Rep.less (fun p _ z => ?_) _ _ res.rep
        rw [dropsF_two]
        have : badOf (blkB B0 fp (tgS t) D) st (dropsF fp (tgS t)) p := blkB_bad.mpr z
        rcases this with b | b | ⟨i, b⟩
        · exact .inl b
        · exact .inr (.inl b)
        · obtain ⟨n1, n2⟩ := dropsF_some b
          exact .inr (.inr ⟨i, by rw [dropsF_ne (by simpa using n1)]; exact n2⟩)
      refine ⟨ws, ca4.at_, by omega, hlt, _, _, ca4.app nst ry4 hB, by rw [List.length_append]; show out.length + 1 ≤ i + 1; omega, T.all_mono (fun r' hr' => ?_) (T.all_bind.mp hy)⟩
      rw [List.append_assoc]
      exact hr'
  · have ei : i = its.length := by omega
    subst ei
    refine .inl ⟨wstop, ca.fin c1 nD (R1.nbad nD) hB (by omega) ?_⟩
    rw [List.drop_length, compL] at hr
    have hr : Fin X.K (badOf B0 st fp) st m (.lst (out ++ []), true) H0 Q := hr
    rw [List.append_nil] at hr
    exact hr
end
end FF

set_option Elab.async false
set_option linter.all false
set_option maxRecDepth 100000
set_option maxHeartbeats 4000000
/-! FF8: statements. -/
namespace FF
open PySem PySem.Spec PyProof.Rows L2

/-- what a statement may change: the state, the lists of its own that are not held -/
def Mu (st : Option Addr) (fp : Nat → Option Addr) (ρ : Env) : Addr → Prop := fun p => st = some p ∨ ∃ i d, fp i = some p ∧ ρ[i]? = some (.bx d)
structure Aft (B0 : Addr → Prop) (st : Option Addr) (fp : Nat → Option Addr) (ρ : Env) (H : Hp) (fp' : Nat → Option Addr) (ρ' : Env) (H' : Hp) : Prop where
  ch : Ch (Mu st fp ρ) H H'
  mu : ∀ p, Mu st fp' ρ' p → Mu st fp ρ p ∨ H p = none
  bad : ∀ p, badOf B0 st fp' p → badOf B0 st fp p ∨ H p = none
  there : ∀ p o, H p = some o → ∃ o', H' p = some o'
/-- what is held was held -/
def Lkd (fp : Nat → Option Addr) (ρ : Env) (fp' : Nat → Option Addr) (ρ' : Env) : Prop := ∀ i d, ρ'[i]? = some (.lk d) → (∃ d', ρ[i]? = some (.lk d')) ∧ fp' i = fp i
theorem Lkd.refl {fp : Nat → Option Addr} {ρ : Env} : Lkd fp ρ fp ρ := fun i d h => ⟨⟨d, h⟩, rfl⟩
theorem Lkd.trans {fp fp1 fp2 : Nat → Option Addr} {ρ ρ1 ρ2 : Env} (a : Lkd fp ρ fp1 ρ1) (b : Lkd fp1 ρ1 fp2 ρ2) : Lkd fp ρ fp2 ρ2 := fun i d h => by
  obtain ⟨⟨d1, h1⟩, e1⟩ := b i d h
  obtain ⟨h2, e2⟩ := a i d1 h1
  exact ⟨h2, e1.trans e2⟩
/-- a value handed back -/
def RetOk (K : Fg) (B0 : Addr → Prop) (st : Option Addr) (fp : Nat → Option Addr) (r : Rs) (H H' : Hp) (v : V) : Prop :=
  if r.2 = true then ∃ xs p vs, r.1 = .lst xs ∧ v = .ref p ∧ (H p = none ∨ ∃ i, fp i = some p) ∧ ¬ B0 p ∧ st ≠ some p ∧ H' p = some (.lst vs) ∧ vs.length ≤ sizeLine ∧ Reps K (fun q => (B0 q ∨ st = some q) ∨ q = p) H' xs vs
  else Rep K (fun q => B0 q ∨ st = some q) H' r.1 v
def Leaf (K : Fg) (B0 : Addr → Prop) (st : Option Addr) (fp : Nat → Option Addr) (ρ : Env) (H : Hp) (D : Ends) (x : Xs) : Prop :=
  match x.1 with
  | .nx => ∀ fp' σ' H', Rel K B0 st fp' x.2 σ' H' → Aft B0 st fp ρ H fp' x.2 H' → Lkd fp ρ fp' x.2 → D.nx σ' H'
  | .bk => ∀ fp' σ' H', Rel K B0 st fp' x.2 σ' H' → Aft B0 st fp ρ H fp' x.2 H' → Lkd fp ρ fp' x.2 → D.bk σ' H'
  | .ct => ∀ fp' σ' H', Rel K B0 st fp' x.2 σ' H' → Aft B0 st fp ρ H fp' x.2 H' → Lkd fp ρ fp' x.2 → D.ct σ' H'
  | .rt r => ∀ v H', Ch (Mu st fp ρ) H H' → (∀ p o, H p = some o → ∃ o', H' p = some o') → StOk st H' → RetOk K B0 st fp r H H' v → D.rt v H'
def tX (K : Fg) (Γ : Sem) (t : Env → T Xs) : TS := fun D σ H => ∃ (B0 : Addr → Prop) (st : Option Addr) (fp : Nat → Option Addr) (ρ : Env), Rel K B0 st fp ρ σ H ∧ (t ρ).all (Leaf K B0 st fp ρ H D)
section
variable {K : Fg} {B0 : Addr → Prop} {st : Option Addr} {fp fp1 fp2 : Nat → Option Addr} {ρ ρ1 ρ2 : Env} {σ : L2.St} {H H1 H2 : Hp}
theorem Aft.refl : Aft B0 st fp ρ H fp ρ H := ⟨.refl, fun _ => .inl, fun _ => .inl, fun p o h => ⟨o, h⟩⟩
theorem Ch.there {C : Addr → Prop} {H H1 : Hp} (c : Ch C H H1) (h : ∀ p, C p → ∃ o, H1 p = some o) : ∀ p o, H p = some o → ∃ o', H1 p = some o' := fun p o e => by
  by_cases z : C p
  · exact h p z
  · exact ⟨o, c p o e fun q => (z q).elim⟩
theorem St.there (S : StOk st H) : ∀ p, Cs st p → ∃ o, H p = some o := fun p e => by obtain ⟨k, v, h⟩ := S p e; exact ⟨_, h⟩
/-- behind an expression -/
theorem Aft.expr (c : Ch (Cs st) H H1) (S : StOk st H1) : Aft B0 st fp ρ H fp ρ H1 := ⟨c.mono fun p z => .inl z, fun _ => .inl, fun _ => .inl, c.there (St.there S)⟩
theorem Aft.trans (a : Aft B0 st fp ρ H fp1 ρ1 H1) (b : Aft B0 st fp1 ρ1 H1 fp2 ρ2 H2) : Aft B0 st fp ρ H fp2 ρ2 H2 := by
  have nn : ∀ p, H1 p = none → H p = none := fun p h => by
    cases q : H p with
    | none => rfl
    | some o => obtain ⟨o', e⟩ := a.there p o q; rw [h] at e; cases e
  refine ⟨fun p o e i => ?_, fun p z => ?_, fun p z => ?_, fun p o e => ?_⟩
  · refine b.ch p o (a.ch p o e i) fun z => ?_
    rcases a.mu p z with z | z
    · exact i z
    · rw [e] at z; cases z
  · rcases b.mu p z with z | z
    · exact a.mu p z
    · exact .inr (nn p z)
  · rcases b.bad p z with z | z
    · exact a.bad p z
    · exact .inr (nn p z)
  · obtain ⟨o1, e1⟩ := a.there p o e
    exact b.there p o1 e1
theorem Aft.fresh (a : Aft B0 st fp ρ H fp1 ρ1 H1) {p : Addr} (h : H1 p = none) : H p = none := by
  cases q : H p with
  | none => rfl
  | some o => obtain ⟨o', e⟩ := a.there p o q; rw [h] at e; cases e
theorem RetOk.back {r : Rs} {v : V} (a : Aft B0 st fp ρ H fp1 ρ1 H1) (h : RetOk K B0 st fp1 r H1 H2 v) : RetOk K B0 st fp r H H2 v := by
  unfold RetOk at h ⊢
  split
  · rename_i q
    rw [if_pos q] at h
    obtain ⟨xs, p, vs, e1, e2, e3, nb, ns, e⟩ := h
    refine ⟨xs, p, vs, e1, e2, ?_, nb, ns, e⟩
    rcases e3 with e3 | ⟨i, e3⟩
    · exact .inl (a.fresh e3)
    · rcases a.bad p (.inr (.inr ⟨i, e3⟩)) with (z | z | z) | z
      · exact (nb z).elim
      · exact (ns z).elim
      · exact .inr z
      · exact .inl z
  · rename_i q
    rw [if_neg q] at h
    exact h
theorem Leaf.back {D : Ends} {x : Xs} (a : Aft B0 st fp ρ H fp1 ρ1 H1) (l : Lkd fp ρ fp1 ρ1) (h : Leaf K B0 st fp ρ H D x) : Leaf K B0 st fp1 ρ1 H1 D x := by
  obtain ⟨f, ρ'⟩ := x
  cases f with
  | nx => exact fun fp' σ' H' R b m => h fp' σ' H' R (a.trans b) (l.trans m)
  | bk => exact fun fp' σ' H' R b m => h fp' σ' H' R (a.trans b) (l.trans m)
  | ct => exact fun fp' σ' H' R b m => h fp' σ' H' R (a.trans b) (l.trans m)
  | rt r =>
    refine fun v H' c t S q => h v H' (fun p o e i => ?_) (fun p o e => ?_) S (q.back a)
    · refine c p o (a.ch p o e i) fun z => ?_
      rcases a.mu p z with z | z
      · exact i z
      · rw [e] at z; cases z
    · obtain ⟨o1, e1⟩ := a.there p o e
      exact t p o1 e1
end
theorem PS.imp {X : Cx} {s : Stmt} {t t' : TS} (h : PS X s t) (i : ∀ D σ H, t' D σ H → t D σ H) : PS X s t' := ⟨fun pins s σ H D I q => h.run pins s σ H D I (i D σ H q)⟩
theorem PSs.imp {X : Cx} {s : List Stmt} {t t' : TS} (h : PSs X s t) (i : ∀ D σ H, t' D σ H → t D σ H) : PSs X s t' := ⟨fun pins s σ H D I q => h.run pins s σ H D I (i D σ H q)⟩

section
variable {X : Cx} {Γ : Sem} {pos : Pos} {e : Expr} {ie : E}
abbrev tS (K : Fg) (Γ : Sem) (s : S) : TS := tX K Γ (exec Γ s)
abbrev tSs (K : Fg) (Γ : Sem) (ss : List S) : TS := tX K Γ (execs Γ ss)
/-! ### blocks -/
theorem xs_nil : PSs X [] (tSs X.K Γ []) := PSs.imp pss_nil fun D σ H ⟨B0, st, fp, ρ, R, h⟩ => by
  rw [execs] at h
  exact h fp σ H R .refl .refl
theorem xs_cons {s : Stmt} {ss : List Stmt} {is : S} {iss : List S} (h1 : PS X s (tS X.K Γ is)) (h2 : PSs X ss (tSs X.K Γ iss)) : PSs X (s :: ss) (tSs X.K Γ (is :: iss)) :=
  PSs.imp (pss_cons h1 h2) fun D σ H ⟨B0, st, fp, ρ, R, h⟩ => by
    rw [execs] at h
    refine ⟨B0, st, fp, ρ, R, T.all_mono (fun x hx => ?_) (T.all_bind.mp h)⟩
    obtain ⟨f, ρ'⟩ := x
    cases f with
    | nx => exact fun fp' σ' H' R' a l => ⟨B0, st, fp', ρ', R', T.all_mono (fun y hy => Leaf.back a l hy) hx⟩
    | bk => exact hx
    | ct => exact hx
    | rt r => exact hx
/-- a step of ours alone, ahead of a block -/
theorem xs_ghost {ss : List Stmt} {iss : List S} {i : Nat} (h2 : PSs X ss (tSs X.K Γ iss)) : PSs X ss (tSs X.K Γ (.frz i :: iss)) :=
  PSs.imp h2 fun D σ H ⟨B0, st, fp, ρ, R, h⟩ => by
    rw [execs] at h
    have h := T.all_bind.mp h
    rw [exec] at h
    split at h
    · rename_i d e
      have h : (execs Γ iss (ρ.set i (.pl d))).all (Leaf X.K B0 st fp ρ H D) := h
      obtain ⟨p, f, e1, b⟩ := R.slot i _ e
      cases d with
      | lst xs =>
        obtain ⟨vs, hp, hl, hr⟩ := b
        have hi : i < ρ.length := by
          rcases Nat.lt_or_ge i ρ.length with z | z
          · exact z
          · rw [List.getElem?_eq_none z] at e; cases e
        have le : ∀ q, (∃ o, H q = some o) → badOf B0 st (dropF fp i) q → badOf B0 st fp q := fun q _ => badOf.le FpLe.drop
        have nb : ¬ badOf B0 st (dropF fp i) p := by
          rintro (z | z | ⟨j, z⟩)
          · exact (R.nb i p f).1 z
          · exact (R.nb i p f).2 z
          · obtain ⟨n, z⟩ := dropF_some z
            exact n (R.inj j i p z f)
        have R' : Rel X.K B0 st (dropF fp i) (ρ.set i (.pl (.lst xs))) σ H := by
          refine ⟨by rw [List.length_set, R.len], fun j s e' => ?_, fun j q e' => ?_, fun j q e' => R.nb j q (dropF_some e').2, fun j k q e1 e2 => R.inj j k q (dropF_some e1).2 (dropF_some e2).2, R.dom, R.st0, R.sok⟩
          · rcases getElem?_set_some e' with ⟨rfl, rfl, _⟩ | ⟨hne, e'⟩
            · exact ⟨_, e1, p, vs, rfl, nb, hp, hl, Reps.less le _ _ hr⟩
            · exact (R.slot j s e').less le fun q f => by rw [dropF_ne hne]; exact f
          · obtain ⟨hne, f⟩ := dropF_some e'
            obtain ⟨d, h⟩ := R.own j q f
            exact ⟨d, by rw [List.getElem?_set_ne (Ne.symm hne)]; exact h⟩
        refine ⟨B0, st, _, _, R', T.all_mono (fun y hy => Leaf.back ⟨.refl, fun q z => .inl ?_, fun q z => .inl (badOf.le FpLe.drop z), fun q o h => ⟨o, h⟩⟩ (fun j d e' => ?_) hy) h⟩
        rotate_left
        · rcases getElem?_set_some e' with ⟨_, z, _⟩ | ⟨hne, e'⟩
          · cases z
          · exact ⟨⟨d, e'⟩, dropF_ne hne⟩
        rcases z with z | ⟨j, d, f', e'⟩
        · exact .inl z
        · obtain ⟨hne, f'⟩ := dropF_some f'
          rw [List.getElem?_set_ne (Ne.symm hne)] at e'
          exact .inr ⟨j, d, f', e'⟩
      | _ => exact b.elim
    · exact ⟨B0, st, fp, ρ, R, h⟩

/-! ### small statements -/
theorem x_pass : PS X (.Pass pos) (tS X.K Γ .pass) := PS.imp ps_pass fun D σ H ⟨B0, st, fp, ρ, R, h⟩ => by
  rw [exec] at h
  exact h fp σ H R .refl .refl
theorem x_break : PS X (.Break pos) (tS X.K Γ .brk) := PS.imp ps_break fun D σ H ⟨B0, st, fp, ρ, R, h⟩ => by
  rw [exec] at h
  exact h fp σ H R .refl .refl
theorem x_cont : PS X (.Continue pos) (tS X.K Γ .cont) := PS.imp ps_continue fun D σ H ⟨B0, st, fp, ρ, R, h⟩ => by
  rw [exec] at h
  exact h fp σ H R .refl .refl
theorem x_drop (he : PE X e (tEv X.K Γ ie true)) (hs : swapsWith e none pos.line X.env = pure false) : PS X (.Expr e pos) (tS X.K Γ (.drop ie)) := PS.imp (ps_expr he hs) fun D σ H ⟨B0, st, fp, ρ, R, h⟩ => by
  rw [exec] at h
  refine ev_step R h fun x v H1 c1 R1 r1 h1 => h1 fp σ H1 R1 (.expr c1 R1.sok) .refl
theorem x_if {a b : List Stmt} {ia ib : List S} (hc : PT X e (tEvT X.K Γ ie)) (ha : PSs X a (tSs X.K Γ ia)) (hb : PSs X b (tSs X.K Γ ib)) : PS X (.If e a b pos) (tS X.K Γ (.ifs ie ia ib)) :=
  PS.imp (ps_if hc ha hb) fun D σ H ⟨B0, st, fp, ρ, R, h⟩ => by
    rw [exec] at h
    refine evT_step R h fun b H1 c1 R1 h1 => ?_
    have a : Aft B0 st fp ρ H fp ρ H1 := .expr c1 R1.sok
    cases b with
    | true => exact iteT ⟨B0, st, fp, ρ, R1, T.all_mono (fun y hy => Leaf.back a .refl hy) h1⟩
    | false => exact iteF ⟨B0, st, fp, ρ, R1, T.all_mono (fun y hy => Leaf.back a .refl hy) h1⟩
/-! ### names stored -/
theorem leaf_ex {α : Type} {P : α → Prop} : ∀ {t : T α}, t.all P → ∃ a, P a
  | .ret a, h => ⟨a, h⟩
  | .err, h => h.elim
  | .drw n k, h => leaf_ex (h.2 0 h.1)
mutual
theorem asgT_get : ∀ {t : Tg} {x : D} {ρ ρ' : Env}, asgT t x ρ = some ρ' → ρ'.length = ρ.length ∧ (∀ j, j ∉ tgS t → ρ'[j]? = ρ[j]?) ∧ ∀ j, j ∈ tgS t → ∃ d, ρ'[j]? = some (.pl d)
  | .nm i, x, ρ, ρ', h => by
    rw [asgT] at h
    split at h
    · rename_i hi
      cases h
      refine ⟨List.length_set, fun j hj => List.getElem?_set_ne fun z => hj (by rw [tgS, ← z]; exact List.mem_cons_self), fun j hj => ?_⟩
      rw [tgS] at hj
      rw [List.mem_singleton.mp hj, List.getElem?_set_self hi]
      exact ⟨_, rfl⟩
    · cases h
  | .tup ts, x, ρ, ρ', h => by
    cases x with
    | tup xs => rw [asgT] at h; rw [tgS]; exact asgTs_get h
    | lst xs => rw [asgT] at h; rw [tgS]; exact asgTs_get h
    | _ => simp [asgT] at h
theorem asgTs_get : ∀ {ts : List Tg} {xs : List D} {ρ ρ' : Env}, asgTs ts xs ρ = some ρ' → ρ'.length = ρ.length ∧ (∀ j, j ∉ tgSs ts → ρ'[j]? = ρ[j]?) ∧ ∀ j, j ∈ tgSs ts → ∃ d, ρ'[j]? = some (.pl d)
  | [], [], ρ, ρ', h => by rw [asgTs] at h; cases h; exact ⟨rfl, fun _ _ => rfl, fun j hj => by rw [tgSs] at hj; cases hj⟩
  | [], _ :: _, _, _, h => by simp [asgTs] at h
  | _ :: _, [], _, _, h => by simp [asgTs] at h
  | t :: ts, x :: xs, ρ, ρ', h => by
    rw [asgTs] at h
    obtain ⟨ρ1, e1, e2⟩ := Option.bind_eq_some_iff.mp h
    obtain ⟨a0, a1, a2⟩ := asgT_get e1
    obtain ⟨b0, b1, b2⟩ := asgTs_get e2
    refine ⟨b0.trans a0, fun j hj => ?_, fun j hj => ?_⟩
    · rw [tgSs] at hj
      rw [b1 j fun z => hj (List.mem_append_right _ z), a1 j fun z => hj (List.mem_append_left _ z)]
    · by_cases m : j ∈ tgSs ts
      · exact b2 j m
      · rw [tgSs] at hj
        rw [b1 j m]
        exact a2 j ((List.mem_append.mp hj).resolve_right m)
end
theorem Aft.asg {B0 : Addr → Prop} {st : Option Addr} {fp : Nat → Option Addr} {ρ ρ' : Env} {H : Hp} {t : Tg} {x : D} (h : asgT t x ρ = some ρ') : Aft B0 st fp ρ H (dropsF fp (tgS t)) ρ' H := by
  obtain ⟨_, h1, _⟩ := asgT_get h
  refine ⟨.refl, fun p z => .inl ?_, fun p z => .inl (badOf.le dropsF_le z), fun p o e => ⟨o, e⟩⟩
  rcases z with z | ⟨i, d, f, e⟩
  · exact .inl z
  · obtain ⟨n, f⟩ := dropsF_some f
    exact .inr ⟨i, d, f, (h1 i n) ▸ e⟩
theorem Lkd.asg {fp : Nat → Option Addr} {ρ ρ' : Env} {t : Tg} {x : D} (h : asgT t x ρ = some ρ') : Lkd fp ρ (dropsF fp (tgS t)) ρ' := fun i d e => by
  obtain ⟨_, h1, h2⟩ := asgT_get h
  have n : i ∉ tgS t := fun z => by obtain ⟨d', e'⟩ := h2 i z; rw [e] at e'; cases e'
  exact ⟨⟨d, (h1 i n) ▸ e⟩, dropsF_ne n⟩
/-- how a value is stored by a target, behind an expression -/
theorem asg_leaf {K : Fg} {B0 : Addr → Prop} {st : Option Addr} {fp : Nat → Option Addr} {ρ ρ' : Env} {σ : L2.St} {H H1 : Hp} {D : Ends} {t : Tg} {x : FF.D} {v : V} (c : Ch (Cs st) H H1) (R1 : Rel K B0 st fp ρ σ H1) (r : Rep K (badOf B0 st fp) H1 x v) (e : asgT t x ρ = some ρ') (q : Leaf K B0 st fp ρ H D (.nx, ρ')) : tTg K t v σ H1 D.nx :=
  ⟨B0, st, fp, ρ, x, ρ', R1, r, e, fun σ' _ R' => q _ σ' H1 R' ((Aft.expr c R1.sok).trans (.asg e)) (.asg e)⟩
theorem x_asg {tg : Expr} {t : Tg} (he : PE X e (tEv X.K Γ ie false)) (hg : PG X tg (tTg X.K t)) (hs : swapsWithSole [tg] e pos.line X.env = pure false) (hw : swappedStores [tg] e X.env = pure none) (h1 : (assignEach [tg] X.env).map (·.2) = [assign tg X.env]) : PS X (.Assign [tg] e pos) (tS X.K Γ (.asg t ie)) :=
  PS.imp (ps_asg he hg hs hw h1) fun D σ H ⟨B0, st, fp, ρ, R, h⟩ => by
    rw [exec] at h
    refine ev_step R h fun x v H1 c1 R1 r1 h1 => ?_
    obtain ⟨ρ', e, q⟩ := T.all_ofO.mp (T.all_bind.mp h1)
    exact asg_leaf c1 R1 r1.rep e q

/-! ### lists of one's own -/
def putF (fp : Nat → Option Addr) (i : Nat) (p : Addr) : Nat → Option Addr := fun j => if j = i then some p else fp j
theorem putF_same {fp : Nat → Option Addr} {i : Nat} {p : Addr} : putF fp i p i = some p := by unfold putF; rw [if_pos rfl]
theorem putF_ne {fp : Nat → Option Addr} {i j : Nat} {p : Addr} (h : j ≠ i) : putF fp i p j = fp j := by unfold putF; rw [if_neg h]
theorem putF_some {fp : Nat → Option Addr} {i j : Nat} {p q : Addr} (h : putF fp i p j = some q) : (j = i ∧ q = p) ∨ (j ≠ i ∧ fp j = some q) := by
  by_cases e : j = i
  · subst e; rw [putF_same] at h; cases h; exact .inl ⟨rfl, rfl⟩
  · rw [putF_ne e] at h; exact .inr ⟨e, h⟩
section
variable {K : Fg} {B0 : Addr → Prop} {st : Option Addr} {fp : Nat → Option Addr} {ρ : Env} {σ : L2.St} {H H1 : Hp} {i : Nat} {p : Addr} {xs : List D} {vs : List V}
theorem bad_put {q : Addr} (h : badOf B0 st (putF fp i p) q) : badOf B0 st fp q ∨ q = p := by
  rcases h with h | h | ⟨j, h⟩
  · exact .inl (.inl h)
  · exact .inl (.inr (.inl h))
  · rcases putF_some h with ⟨_, e⟩ | ⟨_, e⟩
    · exact .inr e
    · exact .inl (.inr (.inr ⟨j, e⟩))
/-- a new list becomes the slot's own; at H nothing of it was there -/
theorem Rel.setBx (R : Rel K B0 st fp ρ σ H) (c : Ch (Cs st) H H1) (S : StOk st H1) (hn : H p = none) (hp : H1 p = some (.lst vs)) (hl : vs.length ≤ sizeLine) (hr : Reps K (fun q => badOf B0 st fp q ∨ q = p) H1 xs vs) :
    Rel K B0 st (putF fp i p) (ρ.set i (.bx (.lst xs))) (σ.set i (some (.ref p))) H1 ∨ ¬ i < ρ.length := by
  by_cases hi : i < ρ.length
  · refine .inl ?_
    have nb : ¬ badOf B0 st fp p := R.nbad hn
    have cC : ∀ q, Cs st q → badOf B0 st fp q ∨ H q = none := fun q z => .inl (bad_st z)
    have cB : ∀ q, badOf B0 st (putF fp i p) q → badOf B0 st fp q ∨ H q = none := fun q z => (bad_put z).elim .inl fun z => .inr (by rw [z]; exact hn)
    have R1 := R.mono c S
    refine ⟨by rw [List.length_set, List.length_set, R.len], fun j s e => ?_, fun j q e => ?_, fun j q e => ?_, fun j k q e1 e2 => ?_, R1.dom, R.st0, S⟩
    · rcases getElem?_set_some e with ⟨rfl, rfl, _⟩ | ⟨hne, e⟩
      · exact ⟨p, putF_same, by rw [List.getElem?_set_self (by rw [← R.len]; exact hi)], vs, hp, hl, Reps.less (fun q _ z => bad_put z) _ _ hr⟩
      · rw [List.getElem?_set_ne (Ne.symm hne)]
        have h := R.slot j s e
        cases s with
        | no => exact h
        | pl d => obtain ⟨v, e1, r⟩ := h; exact ⟨v, e1, Rep.later c cC cB _ _ r⟩
        | bx d =>
          obtain ⟨q, f, e1, r⟩ := h
          refine ⟨q, by rw [putF_ne hne]; exact f, e1, ?_⟩
          cases d with
          | lst ys => obtain ⟨ws, e2, l, r⟩ := r; exact ⟨ws, c _ _ e2 fun z => ((R.nb j q f).2 z).elim, l, Reps.later c cC cB _ _ r⟩
          | _ => exact r.elim
        | lk d =>
          obtain ⟨q, f, e1, r⟩ := h
          refine ⟨q, by rw [putF_ne hne]; exact f, e1, ?_⟩
          cases d with
          | lst ys => obtain ⟨ws, e2, l, r⟩ := r; exact ⟨ws, c _ _ e2 fun z => ((R.nb j q f).2 z).elim, l, Reps.later c cC cB _ _ r⟩
          | _ => exact r.elim
        | st => exact h
        | scr => obtain ⟨v, e1, r⟩ := h; exact ⟨v, e1, r.ch c⟩
    · rcases putF_some e with ⟨rfl, rfl⟩ | ⟨hne, f⟩
      · exact ⟨_, .inl (List.getElem?_set_self hi)⟩
      · obtain ⟨d, h⟩ := R.own j q f
        exact ⟨d, by rw [List.getElem?_set_ne (Ne.symm hne)]; exact h⟩
    · rcases putF_some e with ⟨rfl, rfl⟩ | ⟨hne, f⟩
      · exact ⟨fun z => nb (.inl z), fun z => nb (.inr (.inl z))⟩
      · exact R.nb j q f
    · rcases putF_some e1 with ⟨rfl, rfl⟩ | ⟨n1, f1⟩ <;> rcases putF_some e2 with ⟨rfl, e3⟩ | ⟨n2, f2⟩
      · rfl
      · exact (nb (.inr (.inr ⟨k, f2⟩))).elim
      · exact (nb (.inr (.inr ⟨j, e3 ▸ f1⟩))).elim
      · exact R.inj j k q f1 f2
  · exact .inr hi
theorem Aft.setBx (R : Rel K B0 st fp ρ σ H) (c : Ch (Cs st) H H1) (S : StOk st H1) (hn : H p = none) : Aft B0 st fp ρ H (putF fp i p) (ρ.set i (.bx (.lst xs))) H1 := by
  refine ⟨c.mono fun q z => .inl z, fun q z => ?_, fun q z => (bad_put z).elim .inl fun z => .inr (by rw [z]; exact hn), c.there (St.there S)⟩
  rcases z with z | ⟨j, d, f, e⟩
  · exact .inl (.inl z)
  · rcases putF_some f with ⟨rfl, rfl⟩ | ⟨hne, f⟩
    · exact .inr hn
    · rw [List.getElem?_set_ne (Ne.symm hne)] at e
      exact .inl (.inr ⟨j, d, f, e⟩)
theorem Lkd.setBx : Lkd fp ρ (putF fp i p) (ρ.set i (.bx (.lst xs))) := fun j d e => by
  rcases getElem?_set_some e with ⟨_, z, _⟩ | ⟨hne, e⟩
  · cases z
  · exact ⟨⟨d, e⟩, putF_ne hne⟩
theorem Aft.setPl {x : D} : Aft B0 st fp ρ H (dropF fp i) (ρ.set i (.pl x)) H := by
  refine ⟨.refl, fun p z => .inl ?_, fun p z => .inl (badOf.le FpLe.drop z), fun p o e => ⟨o, e⟩⟩
  rcases z with z | ⟨j, d, f, e⟩
  · exact .inl z
  · obtain ⟨n, f⟩ := dropF_some f
    rw [List.getElem?_set_ne (Ne.symm n)] at e
    exact .inr ⟨j, d, f, e⟩
theorem Lkd.setPl {x : D} : Lkd fp ρ (dropF fp i) (ρ.set i (.pl x)) := fun j d e => by
  rcases getElem?_set_some e with ⟨_, z, _⟩ | ⟨hne, e⟩
  · cases z
  · exact ⟨⟨d, e⟩, dropF_ne hne⟩
end
/-- name = e; a new list may become the name's own -/
theorem box_leaf {te : TE} {i : Nat} {b : Bool} (ht : ∀ σ H Q, tEv X.K Γ ie false σ H Q → te σ H Q) : ∀ D σ H, tS X.K Γ (.box i b ie) D σ H → tAsg te (gName i) D σ H := by
  intro D σ H ⟨B0, st, fp, ρ, R, h⟩
  rw [exec] at h
  refine ht σ H _ (ev_step R h fun x v H1 c1 R1 r1 h1 => ?_)
  unfold setS at h1
  split at h1
  · rename_i hi
    have pl : Leaf X.K B0 st fp ρ H D (.nx, ρ.set i (.pl x.1)) → gName i v σ H1 D.nx := fun h1 =>
      h1 _ _ H1 (R1.setPl r1.rep) ((Aft.expr c1 R1.sok).trans .setPl) .setPl
    obtain ⟨d, f⟩ := x
    cases b with
    | false => exact pl h1
    | true =>
      cases f with
      | false => exact pl h1
      | true =>
        have h1 : Leaf X.K B0 st fp ρ H D (.nx, ρ.set i (.bx d)) := h1
        have r1 : New X.K (badOf B0 st fp) H H1 d v := r1
        obtain ⟨xs, p, vs, rfl, rfl, hn, nb, hp, hl, hr⟩ := r1
        rcases R.setBx (i := i) c1 R1.sok hn hp hl hr with R2 | z
        · exact h1 _ _ H1 R2 (.setBx R c1 R1.sok hn) .setBx
        · exact (z hi).elim
  · exact h1.elim
theorem x_box {i : Nat} {b : Bool} {x : Str} {px : Pos} (hN : X.N.Nodup) (hi : X.N[i]? = some x) (hx : Loc X.env.scope x) (hf : X.fn x = true ∨ X.env.scope.names.lookup x = some .local) (he : PE X e (tEv X.K Γ ie false)) (hs : swapsWith e (some (.Name x px)) pos.line X.env = pure false) : PS X (.Assign [.Name x px] e pos) (tS X.K Γ (.box i b ie)) :=
  PS.imp (ps_set hN hi hx he hs hf) (box_leaf fun _ _ _ h => h)

/-! ### what is handed back -/
theorem ret_ok {K : Fg} {B0 : Addr → Prop} {st : Option Addr} {fp : Nat → Option Addr} {r : Rs} {H H1 : Hp} {v : V} (h : Res K (badOf B0 st fp) st false r H H1 v) : RetOk K B0 st fp r H H1 v := by
  have le : ∀ q, (B0 q ∨ st = some q) → badOf B0 st fp q := fun q z => z.elim .inl fun z => .inr (.inl z)
  unfold Res at h
  unfold RetOk
  split
  · rename_i q
    rw [if_pos q] at h
    obtain ⟨xs, p, vs, e1, e2, hn, nb, hp, hl, hr⟩ := h
    exact ⟨xs, p, vs, e1, e2, .inl hn, fun z => nb (.inl z), fun z => nb (.inr (.inl z)), hp, hl, Reps.less (fun q _ z => z.elim (fun z => .inl (le q z)) .inr) _ _ hr⟩
  · rename_i q
    rw [if_neg q, if_neg Bool.false_ne_true] at h
    exact Rep.less (fun q _ z => le q z) _ _ h
theorem x_ret (hv : isV ie = false) (he : PE X e (tEv X.K Γ ie false)) : PS X (.Return (some e) pos) (tS X.K Γ (.ret ie)) := PS.imp (ps_ret he) fun D σ H ⟨B0, st, fp, ρ, R, h⟩ => by
  rw [exec] at h
  have h : ((ev Γ ie false ρ).bind fun x => T.ret (Fl.rt x, ρ)).all (Leaf X.K B0 st fp ρ H D) := by
    unfold evRet at h
    cases ie with
    | v i => cases hv
    | _ => exact h
  refine ev_step R h fun x v H1 c1 R1 r1 h1 => ?_
  exact h1 v H1 (c1.mono fun p z => .inl z) (c1.there (St.there R1.sok)) R1.sok (ret_ok r1)
theorem x_retv {i : Nat} (he : PE X e (tVar i)) : PS X (.Return (some e) pos) (tS X.K Γ (.ret (.v i))) := PS.imp (ps_ret he) fun D σ H ⟨B0, st, fp, ρ, R, h⟩ => by
  rw [exec] at h
  unfold evRet at h
  simp only at h
  split at h
  · rename_i d e
    have h : Leaf X.K B0 st fp ρ H D (.rt (d, true), ρ) := h
    have e' : ρ[i]? = some (.bx d) := by
      unfold ownAt at e
      split at e
      · rename_i d' q; cases e; exact q
      · cases e
    obtain ⟨p, f, e1, b⟩ := R.slot i _ e'
    refine ⟨_, e1, h _ H .refl (fun p o e => ⟨o, e⟩) R.sok ?_⟩
    unfold RetOk
    rw [if_pos rfl]
    cases d with
    | lst xs =>
      obtain ⟨vs, hp, hl, hr⟩ := b
      refine ⟨xs, p, vs, rfl, rfl, .inr ⟨i, f⟩, (R.nb i p f).1, (R.nb i p f).2, hp, hl, Reps.less (fun q _ z => ?_) _ _ hr⟩
      rcases z with (z | z) | z
      · exact .inl z
      · exact .inr (.inl z)
      · exact .inr (.inr ⟨i, by rw [z]; exact f⟩)
    | _ => exact b.elim
  · rw [ev] at h
    obtain ⟨r, e, q⟩ := T.all_ofO.mp (T.all_bind.mp h)
    obtain ⟨d, e2, rfl⟩ := Option.map_eq_some_iff.mp e
    obtain ⟨v, e1, r⟩ := rd_spec R e2
    rw [if_neg Bool.false_ne_true] at r
    exact ⟨v, e1, q v H .refl (fun p o e => ⟨o, e⟩) R.sok (ret_ok (.of (fun _ => bad_st) r))⟩
theorem x_retN : PS X (.Return none pos) (tS X.K Γ .retN) := PS.imp ps_retN fun D σ H ⟨B0, st, fp, ρ, R, h⟩ => by
  rw [exec] at h
  exact h .non H .refl (fun p o e => ⟨o, e⟩) R.sok rfl
end
end FF

set_option Elab.async false
set_option linter.all false
set_option maxRecDepth 100000
set_option maxHeartbeats 4000000
/-! FF9: statements that change a list of one's own; loops. -/
namespace FF
open PySem PySem.Spec PyProof.Rows L2

theorem own_spec {ρ : Env} {i : Nat} {d : D} (h : ownAt ρ i = some d) : ρ[i]? = some (.bx d) := by
  unfold ownAt at h
  split at h
  · rename_i d' q; cases h; exact q
  · cases h
theorem idx_lt {ρ : Env} {i : Nat} {s : Slot} (h : ρ[i]? = some s) : i < ρ.length := by
  rcases Nat.lt_or_ge i ρ.length with z | z
  · exact z
  · rw [List.getElem?_eq_none z] at h; cases h
section
variable {K : Fg} {B0 : Addr → Prop} {st : Option Addr} {fp : Nat → Option Addr} {ρ : Env} {σ : L2.St} {H H1 : Hp} {i : Nat} {p : Addr} {xs ys : List D} {vs ws : List V}
/-- the own list of slot i, at p, becomes ys -/
theorem Rel.put (R : Rel K B0 st fp ρ σ H) (e : ρ[i]? = some (.bx (.lst xs))) (f : fp i = some p) (hl : ws.length ≤ sizeLine) (hr : Reps K (badOf B0 st fp) H ys ws) : Rel K B0 st fp (ρ.set i (.bx (.lst ys))) σ (upd H p (.lst ws)) := by
  have hi := idx_lt e
  have bp : badOf B0 st fp p := .inr (.inr ⟨i, f⟩)
  obtain ⟨zs, us, _, hp⟩ := R.boxAt f
  have c : Ch (fun q => q = p) H (upd H p (.lst ws)) := Ch.put hp rfl rfl
  have cB : ∀ q, q = p → badOf B0 st fp q := fun q z => by rw [z]; exact bp
  have keep : ∀ q o, q ≠ p → H q = some o → upd H p (.lst ws) q = some o := fun q o n h => by rw [upd_ne n]; exact h
  refine ⟨by rw [List.length_set, R.len], fun j s e' => ?_, fun j q e' => ?_, R.nb, R.inj, fun q hq => ?_, R.st0, fun q hq => ?_⟩
  · rcases getElem?_set_some e' with ⟨rfl, rfl, _⟩ | ⟨hne, e'⟩
    · obtain ⟨p', f', e1, _⟩ := R.slot j _ e
      rw [f] at f'; cases f'
      exact ⟨p, f, e1, ws, upd_same, hl, Reps.ch c cB _ _ hr⟩
    · have h := R.slot j s e'
      have other : ∀ q d, fp j = some q → BoxOk K (badOf B0 st fp) H q d → BoxOk K (badOf B0 st fp) (upd H p (.lst ws)) q d := fun q d g b => by
        cases d with
        | lst zs =>
          obtain ⟨us, e2, l, r⟩ := b
          exact ⟨us, keep _ _ (fun z => hne (R.inj j i p (z ▸ g) f)) e2, l, Reps.ch c cB _ _ r⟩
        | _ => exact b.elim
      cases s with
      | no => exact h
      | pl d => obtain ⟨v, e1, r⟩ := h; exact ⟨v, e1, Rep.ch c cB _ _ r⟩
      | bx d => obtain ⟨q, g, e1, r⟩ := h; exact ⟨q, g, e1, other q d g r⟩
      | lk d => obtain ⟨q, g, e1, r⟩ := h; exact ⟨q, g, e1, other q d g r⟩
      | st => exact h
      | scr => obtain ⟨v, e1, r⟩ := h; exact ⟨v, e1, r.ch c⟩
  · by_cases hj : j = i
    · subst hj; exact ⟨_, .inl (List.getElem?_set_self hi)⟩
    · obtain ⟨d, h⟩ := R.own j q e'
      exact ⟨d, by rw [List.getElem?_set_ne (Ne.symm hj)]; exact h⟩
  · obtain ⟨o, h⟩ := R.dom q hq
    exact ⟨o, keep q o (fun z => (R.nb i p f).1 (z ▸ hq)) h⟩
  · obtain ⟨k, v, h⟩ := R.sok q hq
    exact ⟨k, v, keep q _ (fun z => (R.nb i p f).2 (z ▸ hq)) h⟩
theorem Aft.put (R : Rel K B0 st fp ρ σ H) (e : ρ[i]? = some (.bx (.lst xs))) (f : fp i = some p) : Aft B0 st fp ρ H fp (ρ.set i (.bx (.lst ys))) (upd H p (.lst ws)) := by
  obtain ⟨zs, us, _, hp⟩ := R.boxAt f
  refine ⟨Ch.put hp rfl (.inr ⟨i, _, f, e⟩), fun q z => .inl ?_, fun q z => .inl z, fun q o h => ?_⟩
  · rcases z with z | ⟨j, d, g, e'⟩
    · exact .inl z
    · rcases getElem?_set_some e' with ⟨rfl, _, _⟩ | ⟨hne, e'⟩
      · exact .inr ⟨j, _, g, e⟩
      · exact .inr ⟨j, d, g, e'⟩
  · by_cases z : q = p
    · subst z; exact ⟨_, upd_same⟩
    · exact ⟨o, by rw [upd_ne z]; exact h⟩
theorem Lkd.put : Lkd fp ρ fp (ρ.set i (.bx (.lst ys))) := fun j d e => by
  rcases getElem?_set_some e with ⟨_, z, _⟩ | ⟨hne, e⟩
  · cases z
  · exact ⟨⟨d, e⟩, rfl⟩
end
theorem setD_spec {d y x d' : D} (h : setD d y x = some d') : ∃ xs i j, d = .lst xs ∧ y = .int i ∧ ixN xs.length i = some j ∧ d' = .lst (xs.set j x) ∧ j < xs.length := by
  cases d with
  | lst xs =>
    cases y with
    | int i =>
      rw [setD] at h
      refine ⟨xs, i, ?_⟩
      unfold ixN
      split at h
      · rename_i h0
        rw [if_pos h0]
        split at h
        · rename_i h1
          cases h
          exact ⟨i.toNat, rfl, rfl, by rw [if_pos h1], rfl, by omega⟩
        · cases h
      · rename_i h0
        rw [if_neg h0]
        split at h
        · rename_i h1
          cases h
          exact ⟨(i + xs.length).toNat, rfl, rfl, by rw [if_pos h1], rfl, by omega⟩
        · cases h
    | _ => simp [setD] at h
  | _ => simp [setD] at h
theorem popD_spec {d y d' : D} {ks : List D} (h : popD d ks = some (y, d')) : ∃ xs, d = .lst xs ∧ ((ks = [] ∧ xs[xs.length - 1]? = some y ∧ d' = .lst xs.dropLast ∧ xs ≠ []) ∨ ∃ i, ks = [.int i] ∧ 0 ≤ i ∧ i < xs.length ∧ xs[i.toNat]? = some y ∧ d' = .lst (xs.eraseIdx i.toNat)) := by
  cases d with
  | lst xs =>
    refine ⟨xs, rfl, ?_⟩
    rcases ks with _ | ⟨k, _ | ⟨k2, ks⟩⟩
    · rw [popD] at h
      split at h
      · rename_i z r e
        cases h
        have ex : xs = r.reverse ++ [y] := by rw [← List.reverse_reverse xs, e, List.reverse_cons]
        refine .inl ⟨rfl, ?_, ?_, ?_⟩
        · rw [ex]; simp
        · rw [ex]; simp
        · rw [ex]; simp
      · cases h
    · cases k with
      | int i =>
        rw [popD] at h
        split at h
        · rename_i h0
          obtain ⟨z, e1, e2⟩ := Option.map_eq_some_iff.mp h
          cases e2
          exact .inr ⟨i, rfl, h0.1, h0.2, e1, rfl⟩
        · cases h
      | _ => simp [popD] at h
    · cases k <;> simp [popD] at h
  | _ => simp [popD] at h
section
variable {X : Cx} {Γ : Sem} {pos : Pos} {e k o : Expr} {ie ik : E}
/-- x[k] = e -/
theorem x_setix {i : Nat} {p2 : Pos} (he : PE X e (tEv X.K Γ ie false)) (hx : PE X o (tVar i)) (hk : PE X k (tEv X.K Γ ik true)) (ha : ∀ v, assign (.Subscript o k p2) X.env v = (do
      let ov ← holding [v] (eval o X.env)
      let iv ← holding [v, ov] (eval k X.env)
      standAt p2
      holding [v, ov, iv] (setItem ov iv v)
      release [v, ov, iv] []))
    (hs : swapsWithSole [.Subscript o k p2] e pos.line X.env = pure false) (hw : swappedStores [.Subscript o k p2] e X.env = pure none) (h1 : (assignEach [.Subscript o k p2] X.env).map (·.2) = [assign (.Subscript o k p2) X.env]) :
    PS X (.Assign [.Subscript o k p2] e pos) (tS X.K Γ (.setix i ik ie)) :=
  PS.imp (ps_asg he (pg_sub hx hk set_list ha) hs hw h1) fun D σ H ⟨B0, st, fp, ρ, R, h⟩ => by
    rw [exec] at h
    refine ev_step R h fun x v H1 c1 R1 r1 h1 => ?_
    have hO : ∃ d, ownAt ρ i = some d := by
      obtain ⟨y, hy⟩ := leaf_ex (T.all_bind.mp h1)
      obtain ⟨d, e, _⟩ := T.all_ofO.mp (T.all_bind.mp hy)
      obtain ⟨d, e, _⟩ := Option.bind_eq_some_iff.mp e
      exact ⟨d, e⟩
    obtain ⟨d, hd⟩ := hO
    have es := own_spec hd
    obtain ⟨p, f, e1, b⟩ := R.slot i _ es
    refine ⟨_, e1, ev_step R1 h1 fun y w H2 c2 R2 r2 h2 => ?_⟩
    obtain ⟨d', e, q⟩ := T.all_ofO.mp (T.all_bind.mp h2)
    rw [hd] at e
    obtain ⟨xs, ii, j, rfl, ey, ej, rfl, hj⟩ := setD_spec (show setD d y.1 x.1 = some d' from e)
    obtain ⟨q2, f2, _, b2⟩ := R2.slot i _ es
    rw [f] at f2; cases f2
    obtain ⟨vs, hp, hl, hr⟩ := b2
    have ly := r2.look (fun _ => bad_st)
    rw [ey] at ly
    obtain rfl := ly
    refine ⟨p, vs, ii, j, rfl, rfl, hp, by rw [hr.length]; exact ej, ?_⟩
    have R3 := R2.put (ys := xs.set j x.1) (ws := vs.set j v) es f (by rw [List.length_set]; exact hl) (hr.set j (Rep.ch c2 (fun _ => bad_st) _ _ r1.rep))
    unfold setS at q
    rw [if_pos (idx_lt es)] at q
    exact q fp σ _ R3 ((Aft.expr (c1.trans c2) R2.sok).trans (.put R2 es f)) .put
/-- x.append(e) -/
theorem x_app {i : Nat} {apos cpos : Pos} (hx : PE X o (tVar i)) (he : PE X e (tEv X.K Γ ie false)) (hs1 : starEach [e] X.env = (false, eval e X.env) :: starEach [] X.env) (hs : ∀ pe : PE X (.Call (.Attribute o "append" apos) [e] [] cpos) (tBM X.K "list" rAppend (tVar i) (tCons (tEv X.K Γ ie false) tNil)), PS X (.Expr (.Call (.Attribute o "append" apos) [e] [] cpos) pos) (tDrop (tBM X.K "list" rAppend (tVar i) (tCons (tEv X.K Γ ie false) tNil))))
    (hpe : PE X (.Call (.Attribute o "append" apos) [e] [] cpos) (tBM X.K "list" rAppend (tVar i) (tCons (tEv X.K Γ ie false) tNil))) :
    PS X (.Expr (.Call (.Attribute o "append" apos) [e] [] cpos) pos) (tS X.K Γ (.app i ie)) :=
  PS.imp (hs hpe) fun D σ H ⟨B0, st, fp, ρ, R, h⟩ => by
    rw [exec] at h
    have hO : ∃ d, ownAt ρ i = some d := by
      obtain ⟨y, hy⟩ := leaf_ex (T.all_bind.mp h)
      obtain ⟨d, e, _⟩ := T.all_ofO.mp (T.all_bind.mp hy)
      obtain ⟨d, e, _⟩ := Option.bind_eq_some_iff.mp e
      exact ⟨d, e⟩
    obtain ⟨d, hd⟩ := hO
    have es := own_spec hd
    obtain ⟨p, f, e1, b⟩ := R.slot i _ es
    cases d with
    | lst xs =>
      obtain ⟨vs0, hp0, _, _⟩ := b
      refine ⟨_, e1, .inl ⟨rfl, _, SqL.of hp0⟩, ev_step R h fun x v H1 c1 R1 r1 h1 => ?_⟩
      obtain ⟨d', e, q⟩ := T.all_ofO.mp (T.all_bind.mp h1)
      rw [hd] at e
      have e : appD (.lst xs) x.1 = some d' := e
      rw [appD] at e
      split at e
      · rename_i hz
        cases e
        obtain ⟨q2, f2, _, b2⟩ := R1.slot i _ es
        rw [f] at f2; cases f2
        obtain ⟨vs, hp, hl, hr⟩ := b2
        have hz' : vs.length < sizeLine := by rw [line_eq, hr.length]; exact hz
        refine ⟨p, vs, v, rfl, rfl, hp, hz', ?_⟩
        have R3 := R1.put (ys := xs ++ [x.1]) (ws := vs ++ [v]) es f (by rw [List.length_append]; exact hz') (hr.append (.one r1.rep))
        unfold setS at q
        rw [if_pos (idx_lt es)] at q
        exact q fp σ _ R3 ((Aft.expr c1 R1.sok).trans (.put R1 es f)) .put
      · cases e
    | _ => exact b.elim

/-! ### pop -/
theorem Reps.getLast {K : Fg} {B : Addr → Prop} {H : Hp} {xs : List D} {vs : List V} {y : D} (r : Reps K B H xs vs) (h : xs[xs.length - 1]? = some y) : ∃ v, vs[vs.length - 1]? = some v ∧ Rep K B H y v := by
  rw [r.length]; exact r.get h
theorem Reps.dropLast {K : Fg} {B : Addr → Prop} {H : Hp} {xs : List D} {vs : List V} (r : Reps K B H xs vs) : Reps K B H xs.dropLast vs.dropLast := by
  rw [List.dropLast_eq_take, List.dropLast_eq_take, r.length]
  exact Reps.take _ r
/-- behind a pop: the value, the shorter list -/
theorem pop_leaf {K : Fg} {B0 : Addr → Prop} {st : Option Addr} {fp : Nat → Option Addr} {ρ : Env} {σ : L2.St} {H H1 : Hp} {i : Nat} {p : Addr} {xs ys : List D} {ws : List V} {y : D} {v : V} {D : Ends} {t : Tg} (c1 : Ch (Cs st) H H1) (R1 : Rel K B0 st fp ρ σ H1) (es : ρ[i]? = some (.bx (.lst xs))) (f : fp i = some p)
    (hl : ws.length ≤ sizeLine) (hr : Reps K (badOf B0 st fp) H1 ys ws) (ry : Rep K (badOf B0 st fp) H1 y v) (q : ((T.ofO (asgT t y (ρ.set i (.bx (.lst ys))))).bind fun ρ' => T.ret ((Fl.nx, ρ') : Xs)).all (Leaf K B0 st fp ρ H D)) : tTg K t v σ (upd H1 p (.lst ws)) D.nx := by
  have R2 := R1.put es f hl hr
  obtain ⟨ρ', e, q⟩ := T.all_ofO.mp (T.all_bind.mp q)
  obtain ⟨zs, us, _, hp⟩ := R1.boxAt f
  refine ⟨B0, st, fp, _, y, ρ', R2, Rep.ch (C := fun q => q = p) (Ch.put hp rfl rfl) (fun q z => .inr (.inr ⟨i, by rw [z]; exact f⟩)) _ _ ry, e, fun σ' _ R' => q _ σ' _ R' ?_ ?_⟩
  · exact ((Aft.expr c1 R1.sok).trans (.put R1 es f)).trans (.asg e)
  · exact Lkd.put.trans (.asg e)
theorem x_pop0 {tg : Expr} {t : Tg} {i : Nat} {apos cpos : Pos} (hp : PE X (.Call (.Attribute o "pop" apos) [] [] cpos) (tBM0 X.K "list" rPop (tVar i))) (hg : PG X tg (tTg X.K t)) (hs : swapsWithSole [tg] (.Call (.Attribute o "pop" apos) [] [] cpos) pos.line X.env = pure false) (hw : swappedStores [tg] (.Call (.Attribute o "pop" apos) [] [] cpos) X.env = pure none) (h1 : (assignEach [tg] X.env).map (·.2) = [assign tg X.env]) :
    PS X (.Assign [tg] (.Call (.Attribute o "pop" apos) [] [] cpos) pos) (tS X.K Γ (.popto t i [])) :=
  PS.imp (ps_asg hp hg hs hw h1) fun D σ H ⟨B0, st, fp, ρ, R, h⟩ => by
    rw [exec, evs] at h
    obtain ⟨⟨y, d'⟩, e, q⟩ := T.all_ofO.mp (T.all_bind.mp h)
    obtain ⟨d, hd, e⟩ := Option.bind_eq_some_iff.mp e
    have es := own_spec hd
    obtain ⟨xs, rfl, hx⟩ := popD_spec e
    obtain ⟨p, f, e1, vs, hp, hl, hr⟩ := R.slot i _ es
    rcases hx with ⟨_, hy, rfl, _⟩ | ⟨_, z, _⟩
    · obtain ⟨v, hv, ry⟩ := hr.getLast hy
      exact ⟨_, e1, .inl ⟨rfl, _, SqL.of hp⟩, p, vs, v, rfl, rfl, hp, hv, pop_leaf .refl R es f (by rw [List.length_dropLast]; omega) hr.dropLast ry q⟩
    · cases z
theorem x_pop1 {tg : Expr} {t : Tg} {i : Nat} {apos cpos : Pos} (hp : PE X (.Call (.Attribute o "pop" apos) [k] [] cpos) (tBM X.K "list" rPopAt (tVar i) (tCons (tEv X.K Γ ik true) tNil))) (hg : PG X tg (tTg X.K t)) (hs : swapsWithSole [tg] (.Call (.Attribute o "pop" apos) [k] [] cpos) pos.line X.env = pure false) (hw : swappedStores [tg] (.Call (.Attribute o "pop" apos) [k] [] cpos) X.env = pure none) (h1 : (assignEach [tg] X.env).map (·.2) = [assign tg X.env]) :
    PS X (.Assign [tg] (.Call (.Attribute o "pop" apos) [k] [] cpos) pos) (tS X.K Γ (.popto t i [ik])) :=
  PS.imp (ps_asg hp hg hs hw h1) fun D σ H ⟨B0, st, fp, ρ, R, h⟩ => by
    rw [exec, evs] at h
    have h := T.all_bind.mp h
    have hO : ∃ d, ownAt ρ i = some d := by
      obtain ⟨y, hy⟩ := leaf_ex h
      obtain ⟨d, e, _⟩ := T.all_ofO.mp (T.all_bind.mp hy)
      obtain ⟨d, e, _⟩ := Option.bind_eq_some_iff.mp e
      exact ⟨d, e⟩
    obtain ⟨d, hd⟩ := hO
    have es := own_spec hd
    have ⟨p, f, e1, b⟩ := R.slot i _ es
    have : ∃ xs, d = .lst xs := by cases d with | lst xs => exact ⟨xs, rfl⟩ | _ => exact b.elim
    obtain ⟨xs, rfl⟩ := this
    obtain ⟨vs0, hp0, _, _⟩ := b
    refine ⟨_, e1, .inl ⟨rfl, _, SqL.of hp0⟩, ev_step R (T.all_bind.mpr (T.all_bind.mp h)) fun x w H1 c1 R1 r1 h1 => ?_⟩
    rw [evs] at h1
    obtain ⟨⟨y, d'⟩, e, q⟩ := T.all_ofO.mp (T.all_bind.mp h1)
    rw [hd] at e
    obtain ⟨xs', ex, hx⟩ := popD_spec (show popD (.lst xs) [x.1] = some (y, d') from e)
    cases ex
    obtain ⟨p', f', _, vs, hp, hl, hr⟩ := R1.slot i _ es
    rw [f] at f'; cases f'
    rcases hx with ⟨z, _⟩ | ⟨ii, ek, h0, hlt, hy, rfl⟩
    · cases z
    · have lx := r1.look (fun _ => bad_st)
      rw [show x.1 = .int ii from List.head_eq_of_cons_eq ek] at lx
      obtain rfl := lx
      obtain ⟨v, hv, ry⟩ := hr.get hy
      have hix : ixN vs.length ii = some ii.toNat := by
        unfold ixN
        rw [if_pos h0, hr.length, if_pos hlt]
      have hsx := (ixN_seq hix).1
      have hz : vs.length ≤ 16777216 := by rw [← sizeLine_eq]; exact hl
      refine ⟨p, vs, ii, ii.toNat, v, rfl, rfl, hp, by omega, by rw [← hr.length] at hlt; omega, hsx, hv, pop_leaf c1 R1 es f ?_ (hr.eraseIdx _) ry q⟩
      exact Nat.le_trans (len_erase _ _) hl
/-- out.append(x.pop(k)) -/
theorem x_apppop {oo : Expr} {i j : Nat} {apos cpos apos' cpos' : Pos} (hs1 : PS X (.Expr (.Call (.Attribute oo "append" apos') [.Call (.Attribute o "pop" apos) [k] [] cpos] [] cpos') pos) (tDrop (tBM X.K "list" rAppend (tVar j) (tCons (tBM X.K "list" rPopAt (tVar i) (tCons (tEv X.K Γ ik true) tNil)) tNil)))) :
    PS X (.Expr (.Call (.Attribute oo "append" apos') [.Call (.Attribute o "pop" apos) [k] [] cpos] [] cpos') pos) (tS X.K Γ (.apppop j i [ik])) :=
  PS.imp hs1 fun D σ H ⟨B0, st, fp, ρ, R, h⟩ => by
    rw [exec, evs] at h
    have h := T.all_bind.mp h
    have hO : ∃ d d2, ownAt ρ i = some d ∧ ownAt ρ j = some d2 ∧ j ≠ i := by
      obtain ⟨y, hy⟩ := leaf_ex h
      obtain ⟨d, e, hz⟩ := T.all_ofO.mp (T.all_bind.mp hy)
      obtain ⟨d, e, _⟩ := Option.bind_eq_some_iff.mp e
      obtain ⟨d2, e2, hz⟩ := T.all_ofO.mp (T.all_bind.mp hz)
      obtain ⟨d2, e2, _⟩ := Option.bind_eq_some_iff.mp e2
      refine ⟨d, d2, e, e2, fun z => ?_⟩
      rw [if_pos z] at hz
      exact hz
    obtain ⟨d, d2, hd, hd2, hne⟩ := hO
    have es := own_spec hd
    have es2 := own_spec hd2
    have ⟨p, f, e1, b⟩ := R.slot i _ es
    have ⟨p2, f2, e2, b2⟩ := R.slot j _ es2
    have : ∃ xs, d = .lst xs := by cases d with | lst xs => exact ⟨xs, rfl⟩ | _ => exact b.elim
    obtain ⟨xs, rfl⟩ := this
    have : ∃ xs, d2 = .lst xs := by cases d2 with | lst xs => exact ⟨xs, rfl⟩ | _ => exact b2.elim
    obtain ⟨xs2, rfl⟩ := this
    obtain ⟨vs0, hp0, _, _⟩ := b
    obtain ⟨vs2, hp2, _, _⟩ := b2
    have npp : p2 ≠ p := fun z => hne (R.inj j i p (z ▸ f2) f)
    refine ⟨_, e2, .inl ⟨rfl, _, SqL.of hp2⟩, _, e1, .inl ⟨rfl, _, SqL.of hp0⟩, ev_step R (T.all_bind.mpr (T.all_bind.mp h)) fun x w H1 c1 R1 r1 h1 => ?_⟩
    rw [evs] at h1
    obtain ⟨⟨y, d'⟩, e, q⟩ := T.all_ofO.mp (T.all_bind.mp h1)
    rw [hd] at e
    obtain ⟨xs', ex, hx⟩ := popD_spec (show popD (.lst xs) [x.1] = some (y, d') from e)
    cases ex
    obtain ⟨p', f', _, vs, hp, hl, hr⟩ := R1.slot i _ es
    rw [f] at f'; cases f'
    obtain ⟨p2', f2', _, ws, hq, hl2, hr2⟩ := R1.slot j _ es2
    rw [f2] at f2'; cases f2'
    rcases hx with ⟨z, _⟩ | ⟨ii, ek, h0, hlt, hy, rfl⟩
    · cases z
    · have lx := r1.look (fun _ => bad_st)
      rw [show x.1 = .int ii from List.head_eq_of_cons_eq ek] at lx
      obtain rfl := lx
      obtain ⟨v, hv, ry⟩ := hr.get hy
      have hix : ixN vs.length ii = some ii.toNat := by
        unfold ixN
        rw [if_pos h0, hr.length, if_pos hlt]
      have hsx := (ixN_seq hix).1
      have hz : vs.length ≤ 16777216 := by rw [← sizeLine_eq]; exact hl
      refine ⟨p, vs, ii, ii.toNat, v, rfl, rfl, hp, by omega, by rw [← hr.length] at hlt; omega, hsx, hv, ?_⟩
      obtain ⟨d3, e3, q⟩ := T.all_ofO.mp (T.all_bind.mp q)
      rw [hd2] at e3
      have e3 : appD (.lst xs2) y = some d3 := e3
      rw [appD] at e3
      split at e3
      · rename_i hz2
        cases e3
        have hz2' : ws.length < sizeLine := by rw [line_eq, hr2.length]; exact hz2
        have R2 := R1.put (ys := xs.eraseIdx ii.toNat) (ws := vs.eraseIdx ii.toNat) es f (Nat.le_trans (len_erase _ _) hl) (hr.eraseIdx _)
        have cp : Ch (fun q => q = p) H1 (upd H1 p (.lst (vs.eraseIdx ii.toNat))) := Ch.put hp rfl rfl
        have bp : ∀ q, q = p → badOf B0 st fp q := fun q z => .inr (.inr ⟨i, by rw [z]; exact f⟩)
        have es3 : (ρ.set i (.bx (.lst (xs.eraseIdx ii.toNat))))[j]? = some (.bx (.lst xs2)) := by rw [List.getElem?_set_ne (Ne.symm hne)]; exact es2
        have R3 := R2.put (ys := xs2 ++ [y]) (ws := ws ++ [v]) es3 f2 (by rw [List.length_append]; exact hz2') ((Reps.ch cp bp _ _ hr2).append (.one (Rep.ch cp bp _ _ ry)))
        refine ⟨p2, ws, v, rfl, rfl, by rw [upd_ne npp]; exact hq, hz2', ?_⟩
        rw [if_neg hne] at q
        unfold setS at q
        rw [if_pos (idx_lt es3)] at q
        exact q fp σ _ R3 (((Aft.expr c1 R1.sok).trans (.put R1 es f)).trans (.put R2 es3 f2)) (Lkd.put.trans .put)
      · cases e3
end

/-! ### while -/
section
variable {X : Cx} {Γ : Sem} {pos : Pos} {c : Expr} {ic : E} {body : List Stmt} {ib : List S}
theorem x_while {n : Nat} (hp : PassesOwn (model X.prog X.w) X.A X.env X.xe) (hc : PT X c (tEvT X.K Γ ic)) (hb : PSs X body (tSs X.K Γ ib)) : PS X (.While c body [] pos) (tS X.K Γ (.whl n ic ib)) :=
  PS.imp (ps_while hp hc hb) fun D σ H ⟨B0, st, fp, ρ, R, h⟩ => by
    rw [exec] at h
    refine ⟨fun m σ1 H1 => ∃ fp1 ρ1, Rel X.K B0 st fp1 ρ1 σ1 H1 ∧ Aft B0 st fp ρ H fp1 ρ1 H1 ∧ Lkd fp ρ fp1 ρ1 ∧ (whlL (fun ρ => blT (ev Γ ic true ρ)) (fun ρ => execs Γ ib ρ) m ρ1).all (Leaf X.K B0 st fp ρ H D), ⟨n, fp, ρ, R, .refl, .refl, h⟩, ?_⟩
    rintro m σ1 H1 ⟨fp1, ρ1, R1, a1, l1, h1⟩
    cases m with
    | zero => exact h1.elim
    | succ m =>
      rw [whlL] at h1
      refine evT_step R1 h1 fun b H2 c2 R2 h2 => ?_
      have a2 : Aft B0 st fp ρ H fp1 ρ1 H2 := a1.trans (.expr c2 R2.sok)
      cases b with
      | false => exact iteF (h2 fp1 σ1 H2 R2 a2 l1)
      | true =>
        refine iteT ⟨_, fun σ' H' w => ⟨m, Nat.lt_succ_self m, w⟩, B0, st, fp1, ρ1, R2, T.all_mono (fun x hx => ?_) (T.all_bind.mp h2)⟩
        obtain ⟨fl, ρ3⟩ := x
        cases fl with
        | nx => exact fun fp3 σ3 H3 R3 a3 l3 => ⟨fp3, ρ3, R3, a2.trans a3, l1.trans l3, hx⟩
        | ct => exact fun fp3 σ3 H3 R3 a3 l3 => ⟨fp3, ρ3, R3, a2.trans a3, l1.trans l3, hx⟩
        | bk => exact fun fp3 σ3 H3 R3 a3 l3 => hx fp3 σ3 H3 R3 (a2.trans a3) (l1.trans l3)
        | rt r =>
          have hx : Leaf X.K B0 st fp ρ H D (.rt r, ρ3) := hx
          exact Leaf.back (fp1 := fp1) (ρ1 := ρ1) a2 l1 hx
end
end FF

set_option Elab.async false
set_option linter.all false
set_option maxRecDepth 100000
set_option maxHeartbeats 4000000
/-! FF10: for; several names at once. -/
namespace FF
open PySem PySem.Spec PyProof.Rows L2

/-! ### slots held while they are walked -/
theorem lockS_get {i : Nat} : ∀ {ses : List E} {ρ : Env} {s : Slot}, (lockS ses ρ)[i]? = some s → ρ[i]? = some s ∨ ∃ d, s = .lk d ∧ ρ[i]? = some (.bx d) ∧ E.v i ∈ ses
  | [], _, _, h => .inl h
  | e :: ses, ρ, s, h => by
    cases e with
    | v j =>
      rw [lockS] at h
      split at h
      · rename_i d e
        rcases lockS_get h with h | ⟨d', e1, h, m⟩
        · rcases getElem?_set_some h with ⟨rfl, rfl, _⟩ | ⟨hne, h⟩
          · exact .inr ⟨d, rfl, e, List.mem_cons_self⟩
          · exact .inl h
        · rcases getElem?_set_some h with ⟨_, z, _⟩ | ⟨hne, h⟩
          · cases z
          · exact .inr ⟨d', e1, h, List.mem_cons_of_mem _ m⟩
      · rcases lockS_get h with h | ⟨d', e1, h, m⟩
        · exact .inl h
        · exact .inr ⟨d', e1, h, List.mem_cons_of_mem _ m⟩
    | _ =>
      rcases lockS_get (show (lockS ses ρ)[i]? = some s from h) with h | ⟨d', e1, h, m⟩
      · exact .inl h
      · exact .inr ⟨d', e1, h, List.mem_cons_of_mem _ m⟩
theorem lockS_length : ∀ {ses : List E} {ρ : Env}, (lockS ses ρ).length = ρ.length
  | [], _ => rfl
  | e :: ses, ρ => by
    cases e with
    | v j =>
      rw [lockS, lockS_length]
      split
      · exact List.length_set
      · rfl
    | _ => exact lockS_length (ses := ses)
/-- a slot that is walked is not one's own to change -/
theorem lockS_not {i : Nat} {d : D} : ∀ {ses : List E} {ρ : Env}, E.v i ∈ ses → (lockS ses ρ)[i]? ≠ some (.bx d)
  | e :: ses, ρ, m => fun h => by
    have hd : ∀ {ρ : Env}, (lockS ses ρ)[i]? = some (.bx d) → ρ[i]? = some (.bx d) := fun h => by
      rcases lockS_get h with h | ⟨d', e1, _⟩
      · exact h
      · cases e1
    rcases List.mem_cons.mp m with rfl | m'
    · rw [lockS] at h
      split at h
      · rename_i d' e
        have h := hd h
        rw [List.getElem?_set_self (idx_lt e)] at h
        cases h
      · rename_i q
        exact q d (hd h)
    · cases e with
      | v j => rw [lockS] at h; exact lockS_not m' h
      | _ => exact lockS_not m' (show (lockS ses ρ)[i]? = some (.bx d) from h)
theorem unlockS_get {ρ₀ : Env} {i : Nat} : ∀ {ses : List E} {ρ : Env} {s : Slot}, (unlockS ρ₀ ses ρ)[i]? = some s → ρ[i]? = some s ∨ ∃ d d', s = .bx d ∧ ρ[i]? = some (.lk d) ∧ ρ₀[i]? = some (.bx d')
  | [], _, _, h => .inl h
  | e :: ses, ρ, s, h => by
    cases e with
    | v j =>
      rw [unlockS] at h
      split at h
      · rename_i d0 d e0 e
        rcases unlockS_get h with h | ⟨d1, d2, e1, h, h0⟩
        · rcases getElem?_set_some h with ⟨rfl, rfl, _⟩ | ⟨hne, h⟩
          · exact .inr ⟨d, d0, rfl, e, e0⟩
          · exact .inl h
        · rcases getElem?_set_some h with ⟨_, z, _⟩ | ⟨hne, h⟩
          · cases z
          · exact .inr ⟨d1, d2, e1, h, h0⟩
      · exact unlockS_get h
    | _ => exact unlockS_get (ses := ses) h
theorem unlockS_length {ρ₀ : Env} : ∀ {ses : List E} {ρ : Env}, (unlockS ρ₀ ses ρ).length = ρ.length
  | [], _ => rfl
  | e :: ses, ρ => by
    cases e with
    | v j =>
      rw [unlockS, unlockS_length]
      split
      · exact List.length_set
      · rfl
    | _ => exact unlockS_length (ses := ses)
/-- a slot that is held behind the walk was held ahead of it -/
theorem unlockS_lk {ρ₀ : Env} {i : Nat} {d d' : D} : ∀ {ses : List E} {ρ : Env}, (unlockS ρ₀ ses ρ)[i]? = some (.lk d) → E.v i ∈ ses → ρ₀[i]? ≠ some (.bx d')
  | e :: ses, ρ, h, m, q => by
    have sub : ∀ {ρ : Env}, (unlockS ρ₀ ses ρ)[i]? = some (.lk d) → ρ[i]? = some (.lk d) := fun h => by
      rcases unlockS_get h with h | ⟨_, _, z, _⟩
      · exact h
      · cases z
    rcases List.mem_cons.mp m with rfl | m'
    · rw [unlockS] at h
      split at h
      · rename_i d0 d1 e0 e1
        have h := sub h
        rw [List.getElem?_set_self (idx_lt e1)] at h
        cases h
      · rename_i z
        exact z d' d q (sub h)
    · cases e with
      | v j => rw [unlockS] at h; exact unlockS_lk h m' q
      | _ => exact unlockS_lk (ses := ses) h m' q
section
variable {K : Fg} {B0 : Addr → Prop} {st : Option Addr} {fp : Nat → Option Addr} {ρ ρ₀ : Env} {σ : L2.St} {H : Hp} {ses : List E}
theorem Rel.lock (R : Rel K B0 st fp ρ σ H) : Rel K B0 st fp (lockS ses ρ) σ H := by
  refine ⟨by rw [lockS_length, R.len], fun i s e => ?_, fun i p f => ?_, R.nb, R.inj, R.dom, R.st0, R.sok⟩
  · rcases lockS_get e with e2 | ⟨d, rfl, e2, _⟩
    · exact R.slot i s e2
    · exact R.slot i (.bx d) e2
  · obtain ⟨d, e⟩ := R.own i p f
    have hi : i < (lockS ses ρ).length := by
      rw [lockS_length]
      rcases e with e | e <;> exact idx_lt e
    have e' : (lockS ses ρ)[i]? = some (lockS ses ρ)[i] := List.getElem?_eq_getElem hi
    rcases lockS_get e' with q | ⟨d', q, _⟩
    · refine ⟨d, ?_⟩
      rcases e with e | e
      · rw [e', ← q, e]; exact .inl rfl
      · rw [e', ← q, e]; exact .inr rfl
    · exact ⟨d', .inr (by rw [e', q])⟩
theorem Rel.unlock (R : Rel K B0 st fp ρ σ H) : Rel K B0 st fp (unlockS ρ₀ ses ρ) σ H := by
  refine ⟨by rw [unlockS_length, R.len], fun i s e => ?_, fun i p f => ?_, R.nb, R.inj, R.dom, R.st0, R.sok⟩
  · rcases unlockS_get e with e2 | ⟨d, _, rfl, e2, _⟩
    · exact R.slot i s e2
    · exact R.slot i (.lk d) e2
  · obtain ⟨d, e⟩ := R.own i p f
    have hi : i < (unlockS ρ₀ ses ρ).length := by
      rw [unlockS_length]
      rcases e with e | e <;> exact idx_lt e
    have e' : (unlockS ρ₀ ses ρ)[i]? = some (unlockS ρ₀ ses ρ)[i] := List.getElem?_eq_getElem hi
    rcases unlockS_get e' with q | ⟨d', _, q, _⟩
    · refine ⟨d, ?_⟩
      rcases e with e | e
      · rw [e', ← q, e]; exact .inl rfl
      · rw [e', ← q, e]; exact .inr rfl
    · exact ⟨d', .inl (by rw [e', q])⟩
end
section
variable {X : Cx} {Γ : Sem} {pos : Pos} {tg iter : Expr} {t : Tg} {sk : Sk} {ses : List E} {body : List Stmt} {ib : List S}
theorem x_for (hp : PassesOwn (model X.prog X.w) X.A X.env X.xe) (hc : X.calm = true) (hi : PI X tg iter (tSrc X.K Γ sk ses)) (hg : PG X tg (tTg X.K t)) (hb : PSs X body (tSs X.K Γ ib)) (hs : ∀ x, foldedSetIterable iter X.env x = pure x) : PS X (.For tg iter body [] pos) (tS X.K Γ (.forr t sk ses ib)) :=
  PS.imp (ps_for hp hc hi hg hb hs) fun D σ H ⟨B0, st, fp, ρ, R, h⟩ => by
    rw [exec] at h
    have h : ((evS Γ ses ρ).bind fun xs => T.ofO (srcD sk xs)).all _ := T.all_bind.mpr (T.all_mono (fun xs hx => T.all_bind.mp hx) (T.all_bind.mp h))
    refine ⟨B0, st, fp, ρ, R, T.all_mono (fun its hL J H1 c1 S1 hlen wk => ?_) h⟩
    have R1 := R.mono c1 S1
    have RL : Rel X.K B0 st fp (lockS ses ρ) σ H1 := R1.lock
    have a0 : Aft B0 st fp ρ H fp ρ H1 := .expr c1 S1
    have mle : ∀ p, Mu st fp (lockS ses ρ) p → Mu st fp ρ p := fun p z => by
      rcases z with z | ⟨i, d, f, e⟩
      · exact .inl z
      · rcases lockS_get e with e | ⟨_, z, _⟩
        · exact .inr ⟨i, d, f, e⟩
        · cases z
    have aL : Aft B0 st fp ρ H fp (lockS ses ρ) H1 := ⟨a0.ch, fun p z => a0.mu p (mle p z), a0.bad, a0.there⟩
    have cok : COk (badOf B0 st fp) fp H1 ses (Mu st fp (lockS ses ρ)) := by
      refine ⟨fun p z => .inl ?_, fun i p m f z => ?_⟩
      · rcases z with z | ⟨i, d, f, e⟩
        · exact .inr (.inl z)
        · exact .inr (.inr ⟨i, f⟩)
      · rcases z with z | ⟨j, d, g, e⟩
        · exact (R.nb i p f).2 z
        · have ej := R.inj i j p f g
          subst ej
          exact lockS_not m e
    have wk := wk _ cok
    have hL := T.all_bind.mp hL
    refine ⟨fun i n σ' H' => n = its.length - i ∧ i ≤ its.length ∧ ∃ fp' ρ', Rel X.K B0 st fp' ρ' σ' H' ∧ Aft B0 st fp (lockS ses ρ) H1 fp' ρ' H' ∧ Lkd fp (lockS ses ρ) fp' ρ' ∧
      (forL (fun x ρ => (T.ofO (asgT t x ρ)).bind fun ρ' => execs Γ ib ρ') (its.drop i) ρ').all (fun r : Xs => Leaf X.K B0 st fp ρ H D (r.1, unlockS ρ ses r.2)),
      ⟨its.length, rfl, Nat.zero_le _, fp, lockS ses ρ, RL, .refl, .refl, T.all_mono (fun _ h => h) hL⟩, ?_⟩
    -- the loop's own end
    have fin : ∀ {fp' ρ' σ' H'}, Rel X.K B0 st fp' ρ' σ' H' → Aft B0 st fp (lockS ses ρ) H1 fp' ρ' H' → Lkd fp (lockS ses ρ) fp' ρ' → Leaf X.K B0 st fp ρ H D (.nx, unlockS ρ ses ρ') → D.nx σ' H' := fun {fp' ρ' σ' H'} R' a' l' q => by
      have a2 := aL.trans a'
      refine q fp' σ' H' R'.unlock ⟨a2.ch, fun p z => ?_, a2.bad, a2.there⟩ fun i d e => ?_
      · rcases z with z | ⟨i, d, f, e⟩
        · exact .inl (.inl z)
        · rcases unlockS_get e with e | ⟨d1, d2, z, e, e0⟩
          · exact a2.mu p (.inr ⟨i, d, f, e⟩)
          · obtain ⟨_, ef⟩ := l' i d1 e
            exact .inl (.inr ⟨i, d2, by rw [← ef]; exact f, e0⟩)
      · have e1 : ρ'[i]? = some (.lk d) := by
          rcases unlockS_get e with e | ⟨_, _, z, _⟩
          · exact e
          · cases z
        obtain ⟨⟨d1, e2⟩, ef⟩ := l' i d e1
        refine ⟨⟨d1, ?_⟩, ef⟩
        rcases lockS_get e2 with e2 | ⟨d3, _, e3, m⟩
        · exact e2
        · exact (unlockS_lk e m e3).elim
    rintro i n σ' H' ⟨rfl, hi, fp', ρ', R', a', l', hr⟩
    obtain ⟨wgo, wstop⟩ := wk H' a'.ch
    by_cases hlt : i < its.length
    · have ei : its[i]? = some its[i] := List.getElem?_eq_getElem hlt
      obtain ⟨go, yl⟩ := wgo i _ ei
      rw [List.drop_eq_getElem_cons hlt, forL] at hr
      refine .inr ⟨go, _, fun σ2 H2 w => ⟨its.length - (i + 1), by omega, rfl, hlt, w⟩, fun x H2 y => ?_⟩
      obtain ⟨cy, ry⟩ := yl x H2 y
      have S2 : StOk st H2 := fun p e => by obtain ⟨k, u, e'⟩ := R'.sok p e; exact ⟨k, u, cy _ _ e' fun z => z.elim⟩
      have R2 : Rel X.K B0 st fp' ρ' σ' H2 := R'.mono (cy.mono fun _ z => z.elim) S2
      have a2 : Aft B0 st fp (lockS ses ρ) H1 fp' ρ' H2 := a'.trans (.expr (cy.mono fun _ z => z.elim) S2)
      obtain ⟨ρ2, ea, hr⟩ := T.all_ofO.mp (T.all_bind.mp (T.all_bind.mp hr))
      refine ⟨B0, st, fp', ρ', its[i], ρ2, R2, ry _ fun p z => ?_, ea, fun σ3 _ R3 => ⟨B0, st, _, ρ2, R3, T.all_mono (fun z hz => ?_) hr⟩⟩
      · exact a2.bad p z |>.elim .inl .inr
      have a3 : Aft B0 st fp (lockS ses ρ) H1 (dropsF fp' (tgS t)) ρ2 H2 := a2.trans (.asg ea)
      have l3 : Lkd fp (lockS ses ρ) (dropsF fp' (tgS t)) ρ2 := l'.trans (.asg ea)
      obtain ⟨fl, ρ4⟩ := z
      cases fl with
      | nx => exact fun fp4 σ4 H4 R4 a4 l4 => ⟨fp4, ρ4, R4, a3.trans a4, l3.trans l4, hz⟩
      | ct => exact fun fp4 σ4 H4 R4 a4 l4 => ⟨fp4, ρ4, R4, a3.trans a4, l3.trans l4, hz⟩
      | bk => exact fun fp4 σ4 H4 R4 a4 l4 => fin R4 (a3.trans a4) (l3.trans l4) hz
      | rt r =>
        have a5 := aL.trans a3
        have hz : Leaf X.K B0 st fp ρ H D (.rt r, unlockS ρ ses ρ4) := hz
        refine fun v H5 c5 t5 S5 q5 => hz v H5 (fun p o e i => ?_) (fun p o e => ?_) S5 (q5.back a5)
        · refine c5 p o (a5.ch p o e i) fun z => ?_
          rcases a5.mu p z with z | z
          · exact i z
          · rw [e] at z; cases z
        · obtain ⟨o1, e1⟩ := a5.there p o e
          exact t5 p o1 e1
    · have ei : i = its.length := by omega
      subst ei
      refine .inl ⟨wstop, fin R' a' l' ?_⟩
      rw [List.drop_length, forL] at hr
      exact hr
end
end FF

set_option Elab.async false
set_option linter.all false
set_option maxRecDepth 100000
set_option maxHeartbeats 4000000
/-! FF11: several names stored at once. -/
namespace FF
open PySem PySem.Spec PyProof.Rows L2

/-- values, the new lists among them at N -/
def ParR (K : Fg) (B : Addr → Prop) (H : Hp) : List Rs → List V → List Addr → Prop
  | [], vs, N => vs = [] ∧ N = []
  | r :: rs, vs, N => ∃ v ws, vs = v :: ws ∧ if r.2 = true then ∃ xs p us N', N = p :: N' ∧ r.1 = .lst xs ∧ v = .ref p ∧ H p = some (.lst us) ∧ us.length ≤ sizeLine ∧ Reps K B H xs us ∧ ParR K B H rs ws N'
      else Rep K B H r.1 v ∧ ParR K B H rs ws N
def withN (B0 : Addr → Prop) (N : List Addr) : Addr → Prop := fun q => B0 q ∨ q ∈ N
def tEvR (K : Fg) (Γ : Sem) (es : List E) : TA := fun σ H Q => ∃ (B0 : Addr → Prop) (st : Option Addr) (fp : Nat → Option Addr) (ρ : Env), Rel K B0 st fp ρ σ H ∧
  (evR Γ es ρ).all fun rs => ∀ vs H' N, Ch (Cs st) H H' → StOk st H' → N.Nodup → (∀ p, p ∈ N → H p = none ∧ ∃ o, H' p = some o) → ParR K (badOf (withN B0 N) st fp) H' rs vs N → Q vs H'
theorem ParR.less {K : Fg} {B B' : Addr → Prop} {H : Hp} (hB : ∀ p, (∃ o, H p = some o) → B' p → B p) : ∀ {rs : List Rs} {vs : List V} {N : List Addr}, ParR K B H rs vs N → ParR K B' H rs vs N
  | [], _, _, h => h
  | r :: rs, _, _, ⟨v, ws, e, h⟩ => by
    refine ⟨v, ws, e, ?_⟩
    split
    · rename_i q
      rw [if_pos q] at h
      obtain ⟨xs, p, us, N', e1, e2, e3, hp, hl, hr, h⟩ := h
      exact ⟨xs, p, us, N', e1, e2, e3, hp, hl, Reps.less hB _ _ hr, ParR.less hB h⟩
    · rename_i q
      rw [if_neg q] at h
      exact ⟨Rep.less hB _ _ h.1, ParR.less hB h.2⟩
section
variable {K : Fg} {B0 : Addr → Prop} {st : Option Addr} {fp : Nat → Option Addr} {ρ : Env} {σ : L2.St} {H H1 : Hp}
/-- new objects may be held to be bad -/
theorem Rel.addN {N : List Addr} (R : Rel K B0 st fp ρ σ H) (c : Ch (Cs st) H H1) (S : StOk st H1) (hN : ∀ p, p ∈ N → H p = none ∧ ∃ o, H1 p = some o) : Rel K (withN B0 N) st fp ρ σ H1 := by
  have R1 := R.mono c S
  have cC : ∀ q, Cs st q → badOf B0 st fp q ∨ H q = none := fun q z => .inl (bad_st z)
  have cB : ∀ q, badOf (withN B0 N) st fp q → badOf B0 st fp q ∨ H q = none := fun q z => by
    rcases z with (z | z) | z
    · exact .inl (.inl z)
    · exact .inr (hN q z).1
    · exact .inl (.inr z)
  refine ⟨R.len, fun i s e => ?_, R.own, fun i p f => ⟨fun z => ?_, (R.nb i p f).2⟩, R.inj, fun p z => ?_, fun p z => fun y => ?_, S⟩
  · have h := R.slot i s e
    have box : ∀ p d, fp i = some p → BoxOk K (badOf B0 st fp) H p d → BoxOk K (badOf (withN B0 N) st fp) H1 p d := fun p d f b => by
      cases d with
      | lst xs => obtain ⟨ws, e2, l, r⟩ := b; exact ⟨ws, c _ _ e2 fun z => ((R.nb i p f).2 z).elim, l, Reps.later c cC cB _ _ r⟩
      | _ => exact b.elim
    cases s with
    | no => exact h
    | pl d => obtain ⟨v, e1, r⟩ := h; exact ⟨v, e1, Rep.later c cC cB _ _ r⟩
    | bx d => obtain ⟨p, f, e1, r⟩ := h; exact ⟨p, f, e1, box p d f r⟩
    | lk d => obtain ⟨p, f, e1, r⟩ := h; exact ⟨p, f, e1, box p d f r⟩
    | st => exact h
    | scr => obtain ⟨v, e1, r⟩ := h; exact ⟨v, e1, r.ch c⟩
  · rcases z with z | z
    · exact (R.nb i p f).1 z
    · obtain ⟨o, e⟩ := R.dom' (p := p) (.inr (.inr ⟨i, f⟩))
      rw [(hN p z).1] at e; cases e
  · rcases z with z | z
    · exact R1.dom p z
    · exact (hN p z).2
  · rcases y with y | y
    · exact R.st0 p z y
    · obtain ⟨k, v, e⟩ := R.sok p z
      rw [(hN p y).1] at e; cases e
theorem Rel.lessB {B0' : Addr → Prop} (R : Rel K B0 st fp ρ σ H) (h : ∀ p, B0' p → B0 p) : Rel K B0' st fp ρ σ H := by
  have le : ∀ p, (∃ o, H p = some o) → badOf B0' st fp p → badOf B0 st fp p := fun p _ z => z.elim (fun z => .inl (h p z)) .inr
  exact ⟨R.len, fun i s e => (R.slot i s e).less le fun p f => f, R.own, fun i p f => ⟨fun z => (R.nb i p f).1 (h p z), (R.nb i p f).2⟩, R.inj, fun p z => R.dom p (h p z), fun p z y => R.st0 p z (h p y), R.sok⟩
/-- a new list becomes a slot's own -/
theorem Rel.takeN {N : List Addr} {i : Nat} {p : Addr} {xs : List D} {us : List V} (R : Rel K (withN B0 (p :: N)) st fp ρ σ H) (hn : p ∉ N) (hb : ¬ B0 p) (hi : i < ρ.length) (hp : H p = some (.lst us)) (hl : us.length ≤ sizeLine) (hr : Reps K (badOf (withN B0 (p :: N)) st fp) H xs us) :
    Rel K (withN B0 N) st (putF fp i p) (ρ.set i (.bx (.lst xs))) (σ.set i (some (.ref p))) H := by
  have inN : withN B0 (p :: N) p := .inr List.mem_cons_self
  have sub : ∀ q, withN B0 N q → withN B0 (p :: N) q := fun q z => z.elim .inl fun z => .inr (List.mem_cons_of_mem _ z)
  have le : ∀ q, (∃ o, H q = some o) → badOf (withN B0 N) st (putF fp i p) q → badOf (withN B0 (p :: N)) st fp q := fun q _ z => by
    rcases bad_put z with (z | z) | z
    · exact .inl (sub q z)
    · exact .inr z
    · rw [z]; exact .inl inN
  have nf : ∀ j, fp j ≠ some p := fun j f => (R.nb j p f).1 inN
  refine ⟨by rw [List.length_set, List.length_set, R.len], fun j s e => ?_, fun j q e => ?_, fun j q e => ?_, fun j k q e1 e2 => ?_, fun q z => R.dom q (sub q z), fun q z y => R.st0 q z (sub q y), R.sok⟩
  · rcases getElem?_set_some e with ⟨rfl, rfl, _⟩ | ⟨hne, e⟩
    · exact ⟨p, putF_same, by rw [List.getElem?_set_self (by rw [← R.len]; exact hi)], us, hp, hl, Reps.less le _ _ hr⟩
    · rw [List.getElem?_set_ne (Ne.symm hne)]
      exact (R.slot j s e).less le fun q f => by rw [putF_ne hne]; exact f
  · rcases putF_some e with ⟨rfl, rfl⟩ | ⟨hne, f⟩
    · exact ⟨_, .inl (List.getElem?_set_self hi)⟩
    · obtain ⟨d, h⟩ := R.own j q f
      exact ⟨d, by rw [List.getElem?_set_ne (Ne.symm hne)]; exact h⟩
  · rcases putF_some e with ⟨rfl, rfl⟩ | ⟨hne, f⟩
    · exact ⟨fun z => z.elim hb hn, fun z => R.st0 _ z inN⟩
    · exact ⟨fun z => (R.nb j q f).1 (sub q z), (R.nb j q f).2⟩
  · rcases putF_some e1 with ⟨rfl, rfl⟩ | ⟨n1, f1⟩ <;> rcases putF_some e2 with ⟨rfl, e3⟩ | ⟨n2, f2⟩
    · rfl
    · exact (nf k f2).elim
    · exact (nf j (e3 ▸ f1)).elim
    · exact R.inj j k q f1 f2
end
section
variable {X : Cx} {Γ : Sem} {pos : Pos} {a : Expr} {ia : E}
theorem sr_nil : PA X [] (tEvR X.K Γ []) := PA.imp pa_nil fun σ H Q ⟨B0, st, fp, ρ, R, h⟩ => by
  rw [evR] at h
  exact h [] H [] .refl R.sok .nil (fun p z => by cases z) ⟨rfl, rfl⟩
theorem sr_cons {es : List Expr} {ies : List E} (ha : PE X a (tEv X.K Γ ia false)) (hr : PA X es (tEvR X.K Γ ies)) (hs : starEach (a :: es) X.env = (false, eval a X.env) :: starEach es X.env) : PA X (a :: es) (tEvR X.K Γ (ia :: ies)) :=
  PA.imp (pa_cons ha hr hs) fun σ H Q ⟨B0, st, fp, ρ, R, h⟩ => by
    rw [evR] at h
    refine ev_step R h fun x v H1 c1 R1 r1 h1 => ?_
    have h1 := T.all_bind.mp h1
    have none1 : ∀ p, H1 p = none → H p = none := fun p z => c1.fresh (fun y => by obtain ⟨k, u, e⟩ := R1.sok p y; rw [z] at e; cases e) z
    obtain ⟨d, f⟩ := x
    cases f with
    | false =>
      refine ⟨B0, st, fp, ρ, R1, T.all_mono (fun rs hq vs H2 N c2 S2 nd hN pr => ?_) h1⟩
      refine hq _ H2 N (c1.trans c2) S2 nd (fun p z => ⟨none1 p (hN p z).1, (hN p z).2⟩) ⟨v, vs, rfl, ?_⟩
      rw [if_neg Bool.false_ne_true]
      refine ⟨Rep.later c2 (fun q z => .inl (bad_st z)) (fun q z => ?_) _ _ r1.rep, pr⟩
      rcases z with (z | z) | z
      · exact .inl (.inl z)
      · exact .inr (hN q z).1
      · exact .inl (.inr z)
    | true =>
      have r1 : New X.K (badOf B0 st fp) H H1 d v := r1
      obtain ⟨xs, p, us, rfl, rfl, hn, nb, hp, hl, hrp⟩ := r1
      have R2 : Rel X.K (withN B0 [p]) st fp ρ σ H1 := R.addN c1 R1.sok fun q z => by rw [List.mem_singleton.mp z]; exact ⟨hn, _, hp⟩
      refine ⟨withN B0 [p], st, fp, ρ, R2, T.all_mono (fun rs hq vs H2 N c2 S2 nd hN pr => ?_) h1⟩
      have pN : p ∉ N := fun z => by have := (hN p z).1; rw [hp] at this; cases this
      have sp : ¬ Cs st p := fun z => nb (bad_st z)
      have e1 : ∀ q, badOf (withN B0 (p :: N)) st fp q → badOf (withN (withN B0 [p]) N) st fp q := fun q z => by
        rcases z with (z | z) | z
        · exact .inl (.inl (.inl z))
        · rcases List.mem_cons.mp z with z | z
          · exact .inl (.inl (.inr (by rw [z]; exact List.mem_cons_self)))
          · exact .inl (.inr z)
        · exact .inr z
      refine hq _ H2 (p :: N) (c1.trans c2) S2 (List.nodup_cons.mpr ⟨pN, nd⟩) (fun q z => ?_) ⟨.ref p, vs, rfl, ?_⟩
      · rcases List.mem_cons.mp z with z | z
        · rw [z]; exact ⟨hn, _, c2 _ _ hp fun z => (sp z).elim⟩
        · exact ⟨none1 q (hN q z).1, (hN q z).2⟩
      · rw [if_pos rfl]
        refine ⟨xs, p, us, N, rfl, rfl, rfl, c2 _ _ hp fun z => (sp z).elim, hl, Reps.later c2 (fun q z => .inl (.inl (bad_st z))) (fun q z => ?_) _ _ hrp, ParR.less (fun q _ z => e1 q z) pr⟩
        rcases z with (z | z) | z
        · exact .inl (.inl (.inl z))
        · rcases List.mem_cons.mp z with z | z
          · exact .inl (.inr z)
          · exact .inr (hN q z).1
        · exact .inl (.inl (.inr z))

/-- the names' slots set one by one -/
def setAll : L2.St → List Nat → List V → L2.St
  | σ, i :: is, v :: vs => setAll (σ.set i (some v)) is vs
  | σ, _, _ => σ
theorem par_all {K : Fg} {B0 : Addr → Prop} {st : Option Addr} {B : Addr → Prop} {H : Hp} {fp₀ : Nat → Option Addr} {ρ₀ : Env} {H₀ : Hp} : ∀ {is : List (Nat × Bool)} {rs : List Rs} {vs : List V} {N : List Addr} {fp : Nat → Option Addr} {ρ : Env} {σ : L2.St} {P : Xs → Prop},
    Rel K (withN B0 N) st fp ρ σ H → Aft B0 st fp₀ ρ₀ H₀ fp ρ H → Lkd fp₀ ρ₀ fp ρ → N.Nodup → (∀ p, p ∈ N → ¬ B0 p ∧ H₀ p = none) → (∀ q, badOf (withN B0 N) st fp q → B q) → ParR K B H rs vs N → (parS is rs ρ).all P →
    ∃ fp' ρ', P (.nx, ρ') ∧ Rel K B0 st fp' ρ' (setAll σ (is.map (·.1)) vs) H ∧ Aft B0 st fp₀ ρ₀ H₀ fp' ρ' H ∧ Lkd fp₀ ρ₀ fp' ρ'
  | [], [], vs, N, fp, ρ, σ, P, R, a, l, nd, hN, hB, pr, h => by
    obtain ⟨rfl, rfl⟩ := pr
    exact ⟨fp, ρ, h, R.lessB fun p z => .inl z, a, l⟩
  | [], _ :: _, _, _, _, _, _, _, _, _, _, _, _, _, _, h => h.elim
  | _ :: _, [], _, _, _, _, _, _, _, _, _, _, _, _, _, h => h.elim
  | i :: is, r :: rs, vs, N, fp, ρ, σ, P, R, a, l, nd, hN, hB, pr, h => by
    obtain ⟨v, ws, rfl, pr⟩ := pr
    rw [parS] at h
    split at h
    · rename_i hi
      obtain ⟨d, f⟩ := r
      cases f with
      | false =>
        rw [if_neg Bool.false_ne_true] at pr
        have h : (parS is rs (ρ.set i.1 (.pl d))).all P := by
          unfold boxS at h
          rw [Bool.and_false] at h
          exact h
        exact par_all (is := is) (vs := ws) (R.setPl (Rep.less (fun q _ z => hB q z) _ _ pr.1)) (a.trans .setPl) (l.trans .setPl) nd hN (fun q z => hB q (badOf.le FpLe.drop z)) pr.2 h
      | true =>
        rw [if_pos rfl] at pr
        obtain ⟨xs, p, us, N', rfl, rfl, rfl, hp, hl, hr, pr⟩ := pr
        obtain ⟨hn, nd'⟩ := List.nodup_cons.mp nd
        have hrB := Reps.less (fun q _ z => hB q z) _ _ hr
        have inN : withN B0 (p :: N') p := .inr List.mem_cons_self
        have hp0 := (hN p List.mem_cons_self)
        have sub : ∀ q, withN B0 N' q → withN B0 (p :: N') q := fun q z => z.elim .inl fun z => .inr (List.mem_cons_of_mem _ z)
        have R' : Rel K (withN B0 N') st fp ρ σ H := R.lessB sub
        obtain ⟨k, b⟩ := i
        cases b with
        | false =>
          have h : (parS is rs (ρ.set k (.pl (.lst xs)))).all P := h
          have rp : Rep K (badOf (withN B0 N') st fp) H (.lst xs) (.ref p) := by
            refine ⟨p, us, rfl, ?_, hp, hl, Reps.less (fun q _ z => z.elim (fun z => .inl (sub q z)) .inr) _ _ hrB⟩
            rintro ((z | z) | z | ⟨j, z⟩)
            · exact hp0.1 z
            · exact hn z
            · exact R.st0 p z inN
            · exact (R.nb j p z).1 inN
          refine par_all (is := is) (vs := ws) (R'.setPl rp) (a.trans .setPl) (l.trans .setPl) nd' (fun q z => hN q (List.mem_cons_of_mem _ z)) (fun q z => hB q ?_) pr h
          exact (badOf.le FpLe.drop z).elim (fun z => .inl (sub q z)) .inr
        | true =>
          have h : (parS is rs (ρ.set k (.bx (.lst xs)))).all P := h
          have R2 := R.takeN (i := k) hn hp0.1 hi hp hl hrB
          have a2 : Aft B0 st fp₀ ρ₀ H₀ (putF fp k p) (ρ.set k (.bx (.lst xs))) H := by
            refine ⟨a.ch, fun q z => ?_, fun q z => ?_, a.there⟩
            · rcases z with z | ⟨j, d, f, e⟩
              · exact a.mu q (.inl z)
              · rcases putF_some f with ⟨_, rfl⟩ | ⟨hne, f⟩
                · exact .inr hp0.2
                · rw [List.getElem?_set_ne (Ne.symm hne)] at e
                  exact a.mu q (.inr ⟨j, d, f, e⟩)
            · rcases bad_put z with z | z
              · exact a.bad q z
              · rw [z]; exact .inr hp0.2
          refine par_all (is := is) (vs := ws) R2 a2 (l.trans .setBx) nd' (fun q z => hN q (List.mem_cons_of_mem _ z)) (fun q z => hB q ?_) pr h
          rcases bad_put z with z | z
          · exact z.elim (fun z => .inl (sub q z)) .inr
          · rw [z]; exact .inl inN
    · exact h.elim
/-- behind the values: the stores -/
theorem ParR.len {K : Fg} {B : Addr → Prop} {H : Hp} : ∀ {rs : List Rs} {vs : List V} {N : List Addr}, ParR K B H rs vs N → vs.length = rs.length
  | [], _, _, ⟨h, _⟩ => by rw [h]; rfl
  | r :: rs, _, _, ⟨v, ws, e, h⟩ => by
    rw [e, List.length_cons, List.length_cons]
    split at h
    · obtain ⟨xs, p, us, N', _, _, _, _, _, _, h⟩ := h
      rw [ParR.len h]
    · rw [ParR.len h.2]
theorem evR_len {Γ : Sem} {ρ : Env} : ∀ {es : List E} {P : List Rs → Prop}, (evR Γ es ρ).all P → (evR Γ es ρ).all fun xs => P xs ∧ xs.length = es.length
  | [], P, h => by rw [evR] at h ⊢; exact ⟨h, rfl⟩
  | e :: es, P, h => by
    rw [evR] at h ⊢
    refine T.all_bind.mpr (T.all_mono (fun x hx => ?_) (T.all_bind.mp h))
    refine T.all_bind.mpr (T.all_mono (fun xs hxs => ?_) (evR_len (T.all_bind.mp hx)))
    exact ⟨hxs.1, by rw [List.length_cons, List.length_cons, hxs.2]⟩
theorem par_leaf {is : List (Nat × Bool)} {ies : List E} {D : Ends} {σ : L2.St} {H : Hp} (h : tS X.K Γ (.par is ies) D σ H) : tEvR X.K Γ ies σ H fun vs H1 => vs.length = ies.length ∧ ∀ H2, Ch (fun _ => False) H1 H2 → D.nx (setAll σ (is.map (·.1)) vs) H2 := by
  obtain ⟨B0, st, fp, ρ, R, h⟩ := h
  rw [exec] at h
  refine ⟨B0, st, fp, ρ, R, T.all_mono (fun rs hq vs H1 N c S nd hN pr => ⟨by rw [pr.len, hq.2], fun H2 c2 => ?_⟩) (evR_len (T.all_bind.mp h))⟩
  have hq := hq.1
  have S2 : StOk st H2 := fun p e => by obtain ⟨k, v, z⟩ := S p e; exact ⟨k, v, c2 _ _ z fun z => z.elim⟩
  have c' : Ch (Cs st) H H2 := c.trans (c2.mono fun _ z => z.elim)
  have hN2 : ∀ p, p ∈ N → H p = none ∧ ∃ o, H2 p = some o := fun p z => ⟨(hN p z).1, let ⟨o, e⟩ := (hN p z).2; ⟨o, c2 _ _ e fun z => z.elim⟩⟩
  have pr2 : ∀ {rs : List Rs} {vs : List V} {N' : List Addr}, ParR X.K (badOf (withN B0 N) st fp) H1 rs vs N' → ParR X.K (badOf (withN B0 N) st fp) H2 rs vs N' := by
    intro rs
    induction rs with
    | nil => intro vs N' h; exact h
    | cons r rs ih =>
      intro vs N' h
      obtain ⟨v, ws, e, h⟩ := h
      refine ⟨v, ws, e, ?_⟩
      split
      · rename_i q
        rw [if_pos q] at h
        obtain ⟨xs, p, us, N'', e1, e2, e3, hp, hl, hr, h⟩ := h
        exact ⟨xs, p, us, N'', e1, e2, e3, c2 _ _ hp fun z => z.elim, hl, Reps.ch c2 (fun _ z => z.elim) _ _ hr, ih h⟩
      · rename_i q
        rw [if_neg q] at h
        exact ⟨Rep.ch c2 (fun _ z => z.elim) _ _ h.1, ih h.2⟩
  obtain ⟨fp', ρ', q, R', a', l'⟩ := par_all (R.addN c' S2 hN2) (.expr c' S2) .refl nd (fun p z => ⟨(fun y => by obtain ⟨o, e⟩ := R.dom p y; rw [(hN p z).1] at e; cases e), (hN p z).1⟩) (fun q z => z) (pr2 pr) hq
  exact q fp' _ H2 R' a' l'
def gN : List Nat → TGs
  | [] => gNil
  | i :: is => gCons (gName i) (gN is)
theorem gN_all {H : Hp} : ∀ {is : List Nat} {vs : List V} {σ : L2.St} {Q : L2.St → Hp → Prop}, vs.length = is.length → Q (setAll σ is vs) H → gN is vs σ H Q
  | [], [], _, _, _, h => ⟨rfl, h⟩
  | i :: is, v :: vs, σ, Q, e, h => ⟨v, vs, rfl, gN_all (is := is) (by simpa using e) h⟩
  | [], _ :: _, _, _, e, _ => by simp at e
  | _ :: _, [], _, _, e, _ => by simp at e
theorem x_parN {es ts : List Expr} {is : List (Nat × Bool)} {ies : List E} {k kt : Nat} {p1 pt : Pos} (hc : X.calm = true) (ha : PA X es (tEvR X.K Γ ies)) (hg : PGs X ts (gN (is.map (·.1)))) (hl : ies.length = is.length) (hl2 : ies.length ≤ 1000) (hn : (assignEach ts X.env).length = is.length) (hst : (assignEach ts X.env).findIdx? (·.1) = none)
    (hs : swapsWithSole [.Tuple ts kt pt] (.Tuple es k p1) pos.line X.env = pure false) (hw : swappedStores [.Tuple ts kt pt] (.Tuple es k p1) X.env = pure none) (h1 : (assignEach [.Tuple ts kt pt] X.env).map (·.2) = [assign (.Tuple ts kt pt) X.env]) : PS X (.Assign [.Tuple ts kt pt] (.Tuple es k p1) pos) (tS X.K Γ (.par is ies)) :=
  PS.imp (ps_asg (pe_tup ha) (pg_tup hc hg hn hst) hs hw h1) fun D σ H h => by
    obtain ⟨B0, st, fp, ρ, R, q⟩ := par_leaf h
    refine ⟨B0, st, fp, ρ, R, T.all_mono (fun rs hq vs H1 N c S nd hN pr => ?_) q⟩
    obtain ⟨e, q⟩ := hq vs H1 N c S nd hN pr
    refine ⟨by rw [e]; exact small_line hl2, fun p hp => ⟨p, vs, rfl, .inl (.inl upd_same), by rw [e, hl], gN_all (by rw [List.length_map, e, hl]) (q _ (Ch.new hp))⟩⟩
theorem x_par2 {x y : Str} {a b : Expr} {px py pt : Pos} {kt k2 : Nat} {pt2 : Pos} {i j : Nat × Bool} {ies : List E} (hc : X.calm = true) (hN : X.N.Nodup) (hi : X.N[i.1]? = some x) (hj : X.N[j.1]? = some y) (hij : i.1 ≠ j.1)
    (hx : X.env.scope.names.lookup x = some .local) (hy : X.env.scope.names.lookup y = some .local) (ha : PA X [a, b] (tEvR X.K Γ ies)) (hl : ies.length = 2)
    (hw : swappedStores [.Tuple [.Name x px, .Name y py] kt pt] (.Tuple [a, b] k2 pt2) X.env = pure (some [x, y]))
    (hs : swapsWithSole [.Tuple [.Name x px, .Name y py] kt pt] (.Tuple [a, b] k2 pt2) pos.line X.env = pure false) :
    PS X (.Assign [.Tuple [.Name x px, .Name y py] kt pt] (.Tuple [a, b] k2 pt2) pos) (tS X.K Γ (.par [i, j] ies)) :=
  PS.imp (ps_par hc hN hi hj hij hx hy ha hw hs) fun D σ H h => by
    obtain ⟨B0, st, fp, ρ, R, q⟩ := par_leaf h
    refine ⟨B0, st, fp, ρ, R, T.all_mono (fun rs hq vs H1 N c S nd hN pr => ?_) q⟩
    obtain ⟨e, q⟩ := hq vs H1 N c S nd hN pr
    rw [hl] at e
    match vs, e with
    | [v, w], _ => exact ⟨v, w, rfl, q H1 .refl⟩
theorem x_par3 {x y z : Str} {a b c : Expr} {px py pz pt : Pos} {kt k2 : Nat} {pt2 : Pos} {i j l : Nat × Bool} {ies : List E} (hc : X.calm = true) (hN : X.N.Nodup) (hi : X.N[i.1]? = some x) (hj : X.N[j.1]? = some y) (hl' : X.N[l.1]? = some z) (hij : i.1 ≠ j.1) (hil : i.1 ≠ l.1) (hjl : j.1 ≠ l.1)
    (hx : X.env.scope.names.lookup x = some .local) (hy : X.env.scope.names.lookup y = some .local) (hz : X.env.scope.names.lookup z = some .local) (ha : PA X [a, b, c] (tEvR X.K Γ ies)) (hl : ies.length = 3)
    (hw : swappedStores [.Tuple [.Name x px, .Name y py, .Name z pz] kt pt] (.Tuple [a, b, c] k2 pt2) X.env = pure (some [x, y, z]))
    (hs : swapsWithSole [.Tuple [.Name x px, .Name y py, .Name z pz] kt pt] (.Tuple [a, b, c] k2 pt2) pos.line X.env = pure false) :
    PS X (.Assign [.Tuple [.Name x px, .Name y py, .Name z pz] kt pt] (.Tuple [a, b, c] k2 pt2) pos) (tS X.K Γ (.par [i, j, l] ies)) :=
  PS.imp (ps_par3 hc hN hi hj hl' hij hil hjl hx hy hz ha hw hs) fun D σ H h => by
    obtain ⟨B0, st, fp, ρ, R, q⟩ := par_leaf h
    refine ⟨B0, st, fp, ρ, R, T.all_mono (fun rs hq vs H1 N c S nd hN pr => ?_) q⟩
    obtain ⟨e, q⟩ := hq vs H1 N c S nd hN pr
    rw [hl] at e
    match vs, e with
    | [u, v, w], _ => exact ⟨u, v, w, rfl, q H1 .refl⟩
end
end FF

set_option Elab.async false
set_option linter.all false
set_option maxRecDepth 100000
set_option maxHeartbeats 4000000
/-! FF12: from the program's text to the small language. -/
namespace FF
open PySem PySem.Spec PyProof.Rows L2

structure Cfg where
  N : List Str
  fns : List (Str × Nat × Nat) := []
  cns : List (Str × Nat × D) := []
  boxes : List Str := []
  gcd : Bool := false

/-! ### names -/
def ixOf (x : Str) : List Str → Option Nat
  | [] => none
  | y :: ys => if y = x then some 0 else (ixOf x ys).map (· + 1)
theorem ixOf_get {x : Str} : ∀ {N : List Str} {i : Nat}, ixOf x N = some i → N[i]? = some x
  | y :: ys, i, h => by
    rw [ixOf] at h
    split at h
    · rename_i e; cases h; rw [e]; rfl
    · obtain ⟨j, h1, rfl⟩ := Option.map_eq_some_iff.mp h
      simpa using ixOf_get h1
def okN (x : Str) : Bool := !(x == ("__debug__" : Str)) && !(x == ("__classdict__" : Str)) && decide (x ≠ ("__name__" : Str))
theorem okN_spec {x : Str} (h : okN x = true) : (x == ("__debug__" : Str)) = false ∧ (x == ("__classdict__" : Str)) = false ∧ x ≠ ("__name__" : Str) := by
  unfold okN at h
  rw [Bool.and_eq_true, Bool.and_eq_true] at h
  exact ⟨by simpa using h.1.1, by simpa using h.1.2, of_decide_eq_true h.2⟩
def isLoc (sc : Scope) (x : Str) : Bool := match sc.names.lookup x with | some .local => true | some .cell => true | some .free => true | _ => false
def isGl (sc : Scope) (x : Str) : Bool := match sc.names.lookup x with | some .globalImplicit => true | _ => false
theorem isLoc_spec {sc : Scope} {x : Str} (h : isLoc sc x = true) : Vis sc x := by
  unfold isLoc at h
  split at h
  · rename_i e; exact .inl e
  · rename_i e; exact .inr (.inl e)
  · rename_i e; exact .inr (.inr e)
  · cases h
theorem isGl_spec {sc : Scope} {x : Str} (h : isGl sc x = true) : sc.names.lookup x = some .globalImplicit := by
  unfold isGl at h
  split at h
  · assumption
  · cases h
def guardO (b : Bool) (o : Option α) : Option α := if b then o else none
theorem guardO_some {α : Type} {b : Bool} {o : Option α} {a : α} (h : guardO b o = some a) : b = true ∧ o = some a := by
  unfold guardO at h
  split at h
  · exact ⟨by assumption, h⟩
  · cases h

/-! ### built-ins by name -/
inductive Hd where | bi (id : String) | ty (n : String)
def biT : List (Str × Nat × Hd × Bi) := [
  ("len", 1, .bi "len", .len), ("abs", 1, .bi "abs", .abs), ("sum", 1, .bi "sum", .sum), ("max", 1, .bi "max", .max), ("min", 1, .bi "min", .min),
  ("max", 2, .bi "max", .max2), ("min", 2, .bi "min", .min2), ("tuple", 1, .ty "tuple", .tuple), ("list", 1, .ty "list", .list), ("int", 1, .ty "int", .int), ("all", 1, .bi "all", .all), ("any", 1, .bi "any", .any)]
def biNames : List Str := ["len", "abs", "sum", "max", "min", "tuple", "list", "int", "all", "any", "range", "zip", "enumerate", "reversed", "isinstance", "str", "bool"]
def findBi (x : Str) (n : Nat) : List (Str × Nat × Hd × Bi) → Option (Hd × Bi)
  | [] => none
  | (y, k, h, b) :: r => if y = x ∧ k = n then some (h, b) else findBi x n r
theorem findBi_mem {x : Str} {n : Nat} {h : Hd} {b : Bi} : ∀ {l : List (Str × Nat × Hd × Bi)}, findBi x n l = some (h, b) → (x, n, h, b) ∈ l
  | (y, k, h', b') :: r, e => by
    rw [findBi] at e
    split at e
    · rename_i q; cases e; rw [← q.1, ← q.2]; exact List.mem_cons_self
    · exact List.mem_cons_of_mem _ (findBi_mem e)
def tyOfName (x : Str) : Option Ty :=
  if x = "list" then some .tlist else if x = "tuple" then some .ttuple else if x = "str" then some .tstr else if x = "bool" then some .tbool else if x = "int" then some .tint else none

/-! ### expressions -/
def bopOf : Operator → Option Bop
  | .Add => some .add | .Sub => some .sub | .Mult => some .mul | .FloorDiv => some .fdiv | .Mod => some .mod | .Pow => some .pow | _ => none
def copOf' : CmpOp → Option Cop
  | .Eq => some .eq | .NotEq => some .ne | .Lt => some .lt | .LtE => some .le | .Gt => some .gt | .GtE => some .ge | .Is => some .isN | .IsNot => some .notN | .In => some .inn | .NotIn => some .nin
theorem copOf'_spec {o : CmpOp} {c : Cop} (h : copOf' o = some c) : copOf c = o := by
  cases o <;> simp [copOf'] at h <;> subst h <;> rfl
/-- what is not walked, looked at or stored in a way of its own -/
def plainE : Expr → Bool
  | .Starred .. => false
  | .Set .. => false
  | .Slice .. => false
  | _ => true
def ownOf (N : List Str) (vs : List Nat) : List (Str × Nat) := vs.map fun i => (N.getD i Str.empty, i)
/-- own names that a block may store -/
def stoOf (N : List Str) (scope : Scope) (vs : List Nat) : Bool := vs.all fun i => match scope.names.lookup (N.getD i Str.empty) with | some .local => true | some .cell => true | _ => false
mutual
def cTg (c : Cfg) (sto : List Str) : Nat → Expr → Option Tg
  | 0, _ => none
  | n + 1, e => match e with
    | .Name x _ => guardO (decide (x ∈ sto)) ((ixOf x c.N).map .nm)
    | .Tuple ts _ _ => (cTgs c sto n ts).map .tup
    | _ => none
def cTgs (c : Cfg) (sto : List Str) : Nat → List Expr → Option (List Tg)
  | 0, _ => none
  | _ + 1, [] => some []
  | n + 1, e :: es => (cTg c sto n e).bind fun t => (cTgs c sto n es).map (t :: ·)
end
def negOne : Expr → Bool
  | .UnaryOp .USub (.Constant (.int 1) _ _) _ => true
  | _ => false
mutual
def cE (c : Cfg) : Nat → Scope → Expr → Option E
  | 0, _, _ => none
  | n + 1, sc, e => match e with
    | .Constant k _ _ => (match k with
      | .int i => some (.c (.int i))
      | .bool b => some (.c (.bl b))
      | .none => some (.c .non)
      | .str s => guardO (decide (s.cps.size ≤ 1000)) (some (.c (.str s.cps.toList)))
      | _ => none)
    | .Name x _ => guardO (okN x) (if isLoc sc x then (ixOf x c.N).map .v else guardO (isGl sc x) ((c.cns.lookup x).map fun p => .g p.1 p.2))
    | .BinOp a op b _ => (bopOf op).bind fun o => (cE c n sc a).bind fun ia => (cE c n sc b).map fun ib => .bin o ia ib
    | .UnaryOp op a _ => (match op with
      | .USub => (cE c n sc a).map .neg
      | .Not => (cE c n sc a).map .nt
      | _ => none)
    | .Compare a ops bs _ => cCmp c n sc a ops bs
    | .BoolOp op vs _ => cB c n sc op vs
    | .IfExp t a b _ => (cT c n sc t).bind fun it => (cE c n sc a).bind fun ia => (cE c n sc b).map fun ib => .ite it ia ib
    | .Tuple es _ _ => (cEs c n sc es).bind fun ies => guardO (decide (ies.length ≤ 1000)) (some (.tup ies))
    | .List es _ => (cEs c n sc es).bind fun ies => guardO (decide (ies.length ≤ 1000)) (some (.lst ies))
    | .Subscript a s _ => (match s with
      | .Slice lo hi st _ => (match st with
        | none => (cE c n sc a).bind fun ia => (cO c n sc lo).bind fun il => (cO c n sc hi).map fun ih => .sl ia il ih
        | some m => (match lo, hi with
          | none, none => guardO (negOne m) ((cE c n sc a).map .rev)
          | _, _ => none))
      | s => guardO (plainE s) ((cE c n sc a).bind fun ia => (cE c n sc s).map fun i => .ix ia i))
    | .Call f es kws cpos => (match f, kws with
      | .Name x _, [] => guardO (okN x && isGl sc x) (match c.fns.lookup x with
        | some (k, ar) => (cEs c n sc es).bind fun ies => guardO (decide (ies.length = ar)) (some (.call k ies))
        | none => if x = "_law_draw" then (match es with
            | [.Name s _, .Name t _, e] => guardO (okN s && isLoc sc s && (okN t && isLoc sc t) && plainE e) ((ixOf s c.N).bind fun i => (ixOf t c.N).bind fun j => (cE c n sc e).map fun ie => .draw i j ie)
            | _ => none)
          else if x = "isinstance" then (match es with
            | [a, .Name t _] => guardO (okN t && isGl sc t && plainE a) ((tyOfName t).bind fun ty => (cE c n sc a).map fun ia => .isi ia [ty])
            | [a, .Tuple [.Name t _, .Name u _] _ _] => guardO (okN t && isGl sc t && (okN u && isGl sc u) && plainE a) ((tyOfName t).bind fun ty => (tyOfName u).bind fun tu => (cE c n sc a).map fun ia => .isi ia [ty, tu])
            | _ => none)
          else if x = "gcd" then guardO (c.gcd && decide (es.length = 2)) ((cEs c n sc es).map fun ies => .bi .gcd ies)
          else (findBi x es.length biT).bind fun hb => guardO (decide (es ≠ [])) ((cEs c n sc es).map fun ies => .bi hb.2 ies))
      | .Attribute o nm apos, [] => (match o, es with
        | .Name x xp, [a] => guardO (decide (nm = "index") && (apos.endLine == cpos.line) && plainE a) ((cE c n sc (.Name x xp)).bind fun io => (cE c n sc a).map fun ia => .bi .index [io, ia])
        | _, _ => none)
      | _, _ => none)
    | .ListComp elt gens scope _ => (match gens with
      | [⟨tg, it, ifs, 0⟩] => (cTg c c.N n tg).bind fun t0 => (cTg c ((tgS t0).map fun i => c.N.getD i Str.empty) n tg).bind fun t => (cS c n sc tg it).bind fun s =>
          guardO (blkC c.N sc scope (ownOf c.N (tgS t)) && stoOf c.N scope (tgS t0) && plainE it) ((cC c n (relS scope sc) ifs).bind fun cs => (cE c n (relS scope sc) elt).map fun e => .comp t s.1 s.2 cs e)
      | _ => none)
    | _ => none
/-- comparisons -/
def cCmp (c : Cfg) : Nat → Scope → Expr → List CmpOp → List Expr → Option E
  | 0, _, _, _, _ => none
  | n + 1, sc, a, ops, bs => match ops, bs with
    | [o], [b] => guardO (plainE b) ((copOf' o).bind fun o => (cE c n sc a).bind fun ia => (cE c n sc b).map fun ib => .cmp o ia ib)
    | [o, p], [b, d] => guardO (plainE d) ((copOf' o).bind fun o => (copOf' p).bind fun p => (cE c n sc a).bind fun ia => (cE c n sc b).bind fun ib => (cE c n sc d).map fun id => .chain o p ia ib id)
    | _, _ => none
termination_by structural n => n
/-- and, or: the values but the last are truth values -/
def cB (c : Cfg) : Nat → Scope → BoolOp → List Expr → Option E
  | 0, _, _, _ => none
  | n + 1, sc, op, vs => match vs with
    | [] => none
    | [a] => cE c n sc a
    | a :: b :: r => (cE c n sc a).bind fun ia => (cB c n sc op (b :: r)).map fun ib => match op with | .And => .and2 ia ib | .Or => .or2 ia ib
/-- tests -/
def cT (c : Cfg) : Nat → Scope → Expr → Option E
  | 0, _, _ => none
  | n + 1, sc, e => match e with
    | .BoolOp op vs _ => cBT c n sc op vs
    | .UnaryOp op a _ => (match op with
      | .Not => (cT c n sc a).map .nt
      | _ => none)
    | .Compare a ops bs _ => cCmp c n sc a ops bs
    | .IfExp .. => none
    | e => (cE c n sc e).map .tr
def cBT (c : Cfg) : Nat → Scope → BoolOp → List Expr → Option E
  | 0, _, _, _ => none
  | n + 1, sc, op, vs => match vs with
    | [] => none
    | [a] => cT c n sc a
    | a :: b :: r => (cT c n sc a).bind fun ia => (cBT c n sc op (b :: r)).map fun ib => match op with | .And => .and2 ia ib | .Or => .or2 ia ib
def cEs (c : Cfg) : Nat → Scope → List Expr → Option (List E)
  | 0, _, _ => none
  | _ + 1, _, [] => some []
  | n + 1, sc, e :: es => guardO (plainE e) ((cE c n sc e).bind fun ie => (cEs c n sc es).map (ie :: ·))
def cO (c : Cfg) : Nat → Scope → Option Expr → Option (List E)
  | 0, _, _ => none
  | _ + 1, _, none => some []
  | n + 1, sc, some e => (cE c n sc e).map fun ie => [ie]
/-- a clause's tests -/
def cC (c : Cfg) : Nat → Scope → List Expr → Option (List E)
  | 0, _, _ => none
  | n + 1, sc, ifs => match ifs with
    | [] => some []
    | [e] => (cT c n sc e).map fun ie => [ie]
    | _ => none
/-- what is walked -/
def cS (c : Cfg) : Nat → Scope → Expr → Expr → Option (Sk × List E)
  | 0, _, _, _ => none
  | n + 1, sc, tg, it =>
    let other : Option (Sk × List E) := guardO (plainE it) ((cE c n sc it).map fun ie => (.seq, [ie]))
    match it with
    | .Call f es kws _ => (match f, kws with
      | .Name x _, [] =>
        if x = "range" then guardO (okN x && isGl sc x && decide (es.length = 1 ∨ es.length = 2)) ((cEs c n sc es).map fun ies => (.range, ies))
        else if x = "zip" then (match tg with | .Tuple .. => guardO (okN x && isGl sc x && decide (es.length = 2)) ((cEs c n sc es).map fun ies => (.zip, ies)) | _ => none)
        else if x = "enumerate" then (match tg with | .Tuple .. => guardO (okN x && isGl sc x && decide (es.length = 1)) ((cEs c n sc es).map fun ies => (.enum, ies)) | _ => none)
        else if x = "reversed" then guardO (okN x && isGl sc x && decide (es.length = 1)) ((cEs c n sc es).map fun ies => (.rev, ies))
        else other
      | _, _ => other)
    | _ => other
end
end FF

set_option Elab.async false
set_option linter.all false
set_option maxRecDepth 100000
set_option maxHeartbeats 8000000
/-! FF13: the text's expressions yield what their images yield. -/
namespace FF
open PySem PySem.Spec PyProof.Rows L2

/-- what stands behind the top -/
structure Facts (c : Cfg) (Γ : Sem) (lev : Nat) (P : Program) (w : World) (K : Fg) (mg : Str → Option Value) (base : Heap) : Prop where
  fn : ∀ x k n, c.fns.lookup x = some (k, n) → ∃ f fd ps, FnOk P w K mg base CX0 lev f fd ps (spF K n (Γ k)) ∧ mg x = some (.ref f) ∧ PySem.W.keepIn K (.ref f) = true ∧ Binds K fd ps []
  cn : ∀ x k d, c.cns.lookup x = some (k, d) → ∃ u v, mg x = some u ∧ RelV v u ∧ ∀ B H, Rep K B H d v
  bn : ∀ x, x ∈ biNames → mg x = none
  gcd : c.gcd = true → mg "gcd" = some (.builtin "math.gcd")
  dr : ∃ f fd ps, FnOk P w K mg base CX0 lev f fd ps (spDraw K) ∧ mg "_law_draw" = some (.ref f) ∧ PySem.W.keepIn K (.ref f) = true ∧ Binds K fd ps []
/-- a context of a def's body, or of a block in it -/
structure Good (c : Cfg) (Γ : Sem) (lev : Nat) (sc : Scope) (X : Cx) : Prop where
  hN : X.N = c.N
  nd : c.N.Nodup
  scp : X.env.scope = sc
  kind : sc.kind = .function
  calm : X.calm = true
  xe : X.xe = fun _ _ => False
  room : Room lev X.A
  F : Facts c Γ lev X.prog X.w X.K X.mg X.base
def Sto (sto : List Str) (X : Cx) : Prop := ∀ x, x ∈ sto → Loc X.env.scope x ∧ (X.fn x = true ∨ X.env.scope.names.lookup x = some .local)

theorem star_cons {e : Expr} {es : List Expr} {env : PySem.Env} (h : plainE e = true) : starEach (e :: es) env = (false, eval e env) :: starEach es env := by cases e <;> first | rfl | cases h
theorem star_any {env : PySem.Env} {pos : Pos} : ∀ {es : List Expr}, (es.all plainE) = true → (backTo pos (starEach es env)).any (·.1) = false
  | [], _ => rfl
  | e :: es, h => by
    have h' : plainE e = true ∧ (es.all plainE) = true := by simpa using h
    rw [star_cons h'.1]
    have ih := star_any (env := env) (pos := pos) (es := es) h'.2
    unfold backTo at ih ⊢
    rw [List.map_cons, List.any_cons, ih]
    rfl
theorem nomarkE {op : CmpOp} {b : Expr} (h : plainE b = true) : behindInMarks op b = false := by cases b <;> first | rfl | cases h
theorem plainIx_of {b : Expr} (h : plainE b = true) : PlainIx b := by intro o i; cases b <;> first | rfl | cases h
theorem folded_of {e : Expr} (h : plainE e = true) {env : PySem.Env} : ∀ x, foldedSetIterable e env x = pure x := by intro x; cases e <;> first | rfl | cases h
section
variable {c : Cfg} {Γ : Sem} {lev : Nat} {sc : Scope} {X : Cx}
theorem Good.units (g : Good c Γ lev sc X) : X.A.units + 65 < cLine := by have := g.room.un; omega
theorem Good.gl (g : Good c Γ lev sc X) {x : Str} (h : isGl sc x = true) : Gl X x := by
  unfold Gl Env.kindOf
  rw [g.scp]; exact isGl_spec h
theorem Good.var (g : Good c Γ lev sc X) {x : Str} {pos : Pos} {i : Nat} (h1 : okN x = true) (h2 : isLoc sc x = true) (h3 : ixOf x c.N = some i) : PE X (.Name x pos) (tVar i) := by
  obtain ⟨a, b, _⟩ := okN_spec h1
  exact pe_var (by rw [g.hN]; exact ixOf_get h3) (by rw [g.scp]; exact isLoc_spec h2) a b

/-! ### targets -/
theorem asg_cons {e : Expr} {es : List Expr} {env : PySem.Env} (h : plainE e = true) : assignEach (e :: es) env = (false, assign e env) :: assignEach es env := by cases e <;> first | rfl | cases h
mutual
theorem cTg_sound {sto : List Str} (hN : X.N = c.N) (nd : c.N.Nodup) (hc : X.calm = true) (hs : Sto sto X) : ∀ (n : Nat) (e : Expr) (t : Tg), cTg c sto n e = some t → plainE e = true ∧ PG X e (tTg X.K t)
  | 0, _, _, h => by cases h
  | n + 1, e, t, h => by
    cases e with
    | Name x pos =>
      simp only [cTg] at h
      obtain ⟨h1, h2⟩ := guardO_some h
      obtain ⟨i, h3, rfl⟩ := Option.map_eq_some_iff.mp h2
      obtain ⟨l, f⟩ := hs x (of_decide_eq_true h1)
      exact ⟨rfl, st_name (pg_name (by rw [hN]; exact nd) (by rw [hN]; exact ixOf_get h3) l f)⟩
    | Tuple ts k pos =>
      simp only [cTg] at h
      obtain ⟨us, h1, rfl⟩ := Option.map_eq_some_iff.mp h
      obtain ⟨a, b, d, _⟩ := cTgs_sound hN nd hc hs n ts us h1
      exact ⟨rfl, st_tup hc a b d⟩
    | _ => simp [cTg] at h
theorem cTgs_sound {sto : List Str} (hN : X.N = c.N) (nd : c.N.Nodup) (hc : X.calm = true) (hs : Sto sto X) : ∀ (n : Nat) (es : List Expr) (ts : List Tg), cTgs c sto n es = some ts → PGs X es (tTgs X.K ts) ∧ (assignEach es X.env).length = ts.length ∧ (assignEach es X.env).findIdx? (·.1) = none ∧ True
  | 0, _, _, h => by cases h
  | n + 1, [], ts, h => by rw [cTgs] at h; cases h; exact ⟨st_nil, rfl, rfl, trivial⟩
  | n + 1, e :: es, ts, h => by
    rw [cTgs] at h
    obtain ⟨t, h1, h2⟩ := Option.bind_eq_some_iff.mp h
    obtain ⟨us, h3, rfl⟩ := Option.map_eq_some_iff.mp h2
    obtain ⟨p, a⟩ := cTg_sound hN nd hc hs n e t h1
    obtain ⟨b, d, f, _⟩ := cTgs_sound hN nd hc hs n es us h3
    refine ⟨st_cons a b ?_, ?_, ?_, trivial⟩
    · rw [asg_cons p]; rfl
    · rw [asg_cons p, List.length_cons, List.length_cons, d]
    · rw [asg_cons p, List.findIdx?_cons, f]; rfl
end

/-! ### built-ins -/
theorem biT_ok (hc : X.calm = true) : ∀ (x : Str) (n : Nat) (h : Hd) (b : Bi), (x, n, h, b) ∈ biT → x ∈ biNames ∧ match h with
    | .bi id => CallR X (.builtin id) (rBi X.K b) ∧ bootBuiltins x = some (.builtin id)
    | .ty t => CallR X (.type t) (rBi X.K b) ∧ bootBuiltins x = some (.type t) := by
  intro x n h b hm
  unfold biT at hm
  simp only [List.mem_cons, Prod.mk.injEq, List.not_mem_nil, or_false] at hm
  rcases hm with ⟨rfl, rfl, rfl, rfl⟩ | ⟨rfl, rfl, rfl, rfl⟩ | ⟨rfl, rfl, rfl, rfl⟩ | ⟨rfl, rfl, rfl, rfl⟩ | ⟨rfl, rfl, rfl, rfl⟩ | ⟨rfl, rfl, rfl, rfl⟩ | ⟨rfl, rfl, rfl, rfl⟩ | ⟨rfl, rfl, rfl, rfl⟩ | ⟨rfl, rfl, rfl, rfl⟩ | ⟨rfl, rfl, rfl, rfl⟩ | ⟨rfl, rfl, rfl, rfl⟩ | ⟨rfl, rfl, rfl, rfl⟩
  · exact ⟨by simp [biNames], bi_len, by decide +kernel⟩
  · exact ⟨by simp [biNames], bi_abs, by decide +kernel⟩
  · exact ⟨by simp [biNames], bi_sum hc, by decide +kernel⟩
  · exact ⟨by simp [biNames], bi_max hc, by decide +kernel⟩
  · exact ⟨by simp [biNames], bi_min hc, by decide +kernel⟩
  · exact ⟨by simp [biNames], bi_max2 hc, by decide +kernel⟩
  · exact ⟨by simp [biNames], bi_min2 hc, by decide +kernel⟩
  · exact ⟨by simp [biNames], bi_tuple, by decide +kernel⟩
  · exact ⟨by simp [biNames], bi_list, by decide +kernel⟩
  · exact ⟨by simp [biNames], bi_int, by decide +kernel⟩
  · exact ⟨by simp [biNames], bi_all hc, by decide +kernel⟩
  · exact ⟨by simp [biNames], bi_any hc, by decide +kernel⟩
theorem tyOfName_ok {x : Str} {t : Ty} (h : tyOfName x = some t) : x ∈ biNames ∧ bootBuiltins x = some (.type (tyName t)) := by
  unfold tyOfName at h
  split at h
  · rename_i e; cases h; subst e; exact ⟨by simp [biNames], by decide +kernel⟩
  · split at h
    · rename_i e; cases h; subst e; exact ⟨by simp [biNames], by decide +kernel⟩
    · split at h
      · rename_i e; cases h; subst e; exact ⟨by simp [biNames], by decide +kernel⟩
      · split at h
        · rename_i e; cases h; subst e; exact ⟨by simp [biNames], by decide +kernel⟩
        · split at h
          · rename_i e; cases h; subst e; exact ⟨by simp [biNames], by decide +kernel⟩
          · cases h
/-- the context of a comprehension's block -/
theorem Good.blk (g : Good c Γ lev sc X) {scope : Scope} (hk : scope.kind = .function) (s : Shared) (H : Hp) (C : Addr) (cl : List (Str × Addr)) (fp : List Addr) : Good c Γ lev (relS scope sc) (X.blk s H scope (compEnvC scope cl C X.env) fp) :=
  ⟨g.hN, g.nd, by rw [← g.scp]; rfl, hk, g.calm, rfl, g.room, g.F⟩
theorem getD_ix {N : List Str} {i : Nat} {x : Str} (h : N[i]? = some x) : N.getD i Str.empty = x := by
  rw [List.getD_eq_getElem?_getD, h]; rfl
end
end FF

set_option Elab.async false
set_option linter.all false
set_option maxRecDepth 100000
set_option maxHeartbeats 8000000
/-! FF14: soundness of the image of expressions. -/
namespace FF
open PySem PySem.Spec PyProof.Rows L2

structure Snd (c : Cfg) (Γ : Sem) (lev n : Nat) : Prop where
  e : ∀ (sc : Scope) (X : Cx), Good c Γ lev sc X → ∀ e ie, cE c n sc e = some ie → (∀ m, PE X e (tEv X.K Γ ie m)) ∧ ∀ i, ie = .v i → PE X e (tVar i)
  b : ∀ (sc : Scope) (X : Cx), Good c Γ lev sc X → ∀ op vs ie, cB c n sc op vs = some ie → ∀ pos, (∀ m, PE X (.BoolOp op vs pos) (tEv X.K Γ ie m)) ∧ ∀ i, ie = .v i → PE X (.BoolOp op vs pos) (tVar i)
  t : ∀ (sc : Scope) (X : Cx), Good c Γ lev sc X → ∀ e ie, cT c n sc e = some ie → PT X e (tEvT X.K Γ ie)
  bt : ∀ (sc : Scope) (X : Cx), Good c Γ lev sc X → ∀ op vs ie, cBT c n sc op vs = some ie → ∀ pos, PW X (.BoolOp op vs pos) (tEvT X.K Γ ie)
  es : ∀ (sc : Scope) (X : Cx), Good c Γ lev sc X → ∀ es ies, cEs c n sc es = some ies → es.all plainE = true ∧ ies.length = es.length ∧ (∀ m, PA X es (tEvs X.K Γ ies m)) ∧ PA X es (tEvA X.K Γ ies) ∧
    (∀ all, (∀ ie, ie ∈ ies → ie ∈ all) → PA X es (tEvS X.K Γ all ies)) ∧ PA X es (tEvR X.K Γ ies) ∧ ∀ a ia, es = [a] → ies = [ia] → PE X a (tHold X.K Γ ia)
  o : ∀ (sc : Scope) (X : Cx), Good c Γ lev sc X → ∀ o ies, cO c n sc o = some ies → PO X o (tPrt X.K Γ ies)
  cmp : ∀ (sc : Scope) (X : Cx), Good c Γ lev sc X → ∀ a ops bs ie, cCmp c n sc a ops bs = some ie → ∀ pos, (∀ m, PE X (.Compare a ops bs pos) (tEv X.K Γ ie m)) ∧ (∀ i, ie ≠ .v i) ∧ PT X (.Compare a ops bs pos) (tEvT X.K Γ ie)
  cc : ∀ (sc : Scope) (X : Cx), Good c Γ lev sc X → ∀ ifs ies, cC c n sc ifs = some ies → PTs X ifs (tEvC X.K Γ ies)
  s : ∀ (sc : Scope) (X : Cx), Good c Γ lev sc X → ∀ tg it r, cS c n sc tg it = some r → PI X tg it (tSrc X.K Γ r.1 r.2)
theorem snd_zero {c : Cfg} {Γ : Sem} {lev : Nat} : Snd c Γ lev 0 := by
  constructor
  · intro sc X g e ie h; simp [cE] at h
  · intro sc X g op vs ie h; simp [cB] at h
  · intro sc X g e ie h; simp [cT] at h
  · intro sc X g op vs ie h; simp [cBT] at h
  · intro sc X g es ies h; simp [cEs] at h
  · intro sc X g o ies h; simp [cO] at h
  · intro sc X g a ops bs ie h; simp [cCmp] at h
  · intro sc X g ifs ies h; simp [cC] at h
  · intro sc X g tg it r h; simp [cS] at h
section
variable {c : Cfg} {Γ : Sem} {lev n : Nat} {sc : Scope} {X : Cx}
theorem novar {ie : E} {X : Cx} {e : Expr} (h : ∀ i, ie ≠ .v i) : ∀ i, ie = .v i → PE X e (tVar i) := fun i q => (h i q).elim
theorem hold_of {a : Expr} {ia : E} (h : (∀ m, PE X a (tEv X.K Γ ia m)) ∧ ∀ i, ia = .v i → PE X a (tVar i)) : PE X a (tHold X.K Γ ia) := by
  cases hv : isV ia with
  | false => exact sh_of hv (h.1 false)
  | true =>
    cases ia with
    | v i => exact sh_var (h.2 i rfl)
    | _ => cases hv
theorem snd_es (S : Snd c Γ lev n) (g : Good c Γ lev sc X) : ∀ es ies, cEs c (n + 1) sc es = some ies → es.all plainE = true ∧ ies.length = es.length ∧ (∀ m, PA X es (tEvs X.K Γ ies m)) ∧ PA X es (tEvA X.K Γ ies) ∧
    (∀ all, (∀ ie, ie ∈ ies → ie ∈ all) → PA X es (tEvS X.K Γ all ies)) ∧ PA X es (tEvR X.K Γ ies) ∧ ∀ a ia, es = [a] → ies = [ia] → PE X a (tHold X.K Γ ia) := by
  intro es ies h
  cases es with
  | nil =>
    simp only [cEs] at h
    cases h
    exact ⟨rfl, rfl, fun m => se_nil, sa_nil, fun all _ => ss_nil, sr_nil, fun a ia z => by cases z⟩
  | cons a es =>
    simp only [cEs] at h
    obtain ⟨p, h⟩ := guardO_some h
    obtain ⟨ia, h1, h⟩ := Option.bind_eq_some_iff.mp h
    obtain ⟨ies, h2, rfl⟩ := Option.map_eq_some_iff.mp h
    have ha := S.e sc X g a ia h1
    obtain ⟨q1, q2, q3, q4, q5, q6, _⟩ := S.es sc X g es ies h2
    have st := star_cons (es := es) (env := X.env) p
    refine ⟨by rw [List.all_cons, p, q1]; rfl, by rw [List.length_cons, List.length_cons, q2], fun m => se_cons (ha.1 m) (q3 m) st, ?_, fun all hm => ?_, sr_cons (ha.1 false) q6 st, fun b ib e1 e2 => ?_⟩
    · cases hv : isV ia with
      | false => exact sa_cons hv (ha.1 false) q4 st
      | true =>
        cases ia with
        | v i => exact sa_var (ha.2 i rfl) q4 st
        | _ => cases hv
    · have q5 := q5 all fun ie m => hm ie (List.mem_cons_of_mem _ m)
      cases hv : isV ia with
      | false => exact ss_cons hv (ha.1 false) q5 st
      | true =>
        cases ia with
        | v i => exact ss_var (hm _ List.mem_cons_self) (ha.2 i rfl) q5 st
        | _ => cases hv
    · cases e1
      cases e2
      exact hold_of ha
theorem snd_b (S : Snd c Γ lev n) (g : Good c Γ lev sc X) : ∀ op vs ie, cB c (n + 1) sc op vs = some ie → ∀ pos, (∀ m, PE X (.BoolOp op vs pos) (tEv X.K Γ ie m)) ∧ ∀ i, ie = .v i → PE X (.BoolOp op vs pos) (tVar i) := by
  intro op vs ie h pos
  match vs with
  | [] => simp [cB] at h
  | [a] =>
    simp only [cB] at h
    have ha := S.e sc X g a ie h
    exact ⟨fun m => pe_one (ha.1 m), fun i e => pe_one (ha.2 i e)⟩
  | a :: b :: r =>
    simp only [cB] at h
    obtain ⟨ia, h1, h⟩ := Option.bind_eq_some_iff.mp h
    obtain ⟨ib, h2, rfl⟩ := Option.map_eq_some_iff.mp h
    have ha := S.e sc X g a ia h1
    have hb := S.b sc X g op (b :: r) ib h2 pos
    cases op with
    | And => exact ⟨fun m => se_vand (ha.1 true) (hb.1 m), novar fun i z => by cases z⟩
    | Or => exact ⟨fun m => se_vor (ha.1 true) (hb.1 m), novar fun i z => by cases z⟩
theorem snd_bt (S : Snd c Γ lev n) (g : Good c Γ lev sc X) : ∀ op vs ie, cBT c (n + 1) sc op vs = some ie → ∀ pos, PW X (.BoolOp op vs pos) (tEvT X.K Γ ie) := by
  intro op vs ie h pos
  match vs with
  | [] => simp [cBT] at h
  | [a] =>
    simp only [cBT] at h
    have ha := S.t sc X g a ie h
    cases op with
    | And => exact pw_and1 ha
    | Or => exact pw_or1 ha
  | a :: b :: r =>
    simp only [cBT] at h
    obtain ⟨ia, h1, h⟩ := Option.bind_eq_some_iff.mp h
    obtain ⟨ib, h2, rfl⟩ := Option.map_eq_some_iff.mp h
    have ha := S.t sc X g a ia h1
    have hb := S.bt sc X g op (b :: r) ib h2 pos
    cases op with
    | And => exact se_tand ha hb
    | Or => exact se_tor ha hb
/-- a comparison: as a value, as a test -/
theorem snd_cmp (S : Snd c Γ lev n) (g : Good c Γ lev sc X) (a : Expr) (ops : List CmpOp) (bs : List Expr) (ie : E) (h : cCmp c (n + 1) sc a ops bs = some ie) (pos : Pos) : (∀ m, PE X (.Compare a ops bs pos) (tEv X.K Γ ie m)) ∧ (∀ i, ie ≠ .v i) ∧ PT X (.Compare a ops bs pos) (tEvT X.K Γ ie) := by
  rw [cCmp.eq_def] at h
  dsimp only at h
  split at h
  · rename_i o b
    obtain ⟨p, h⟩ := guardO_some h
    obtain ⟨o', ho, h⟩ := Option.bind_eq_some_iff.mp h
    obtain ⟨ia, h1, h⟩ := Option.bind_eq_some_iff.mp h
    obtain ⟨ib, h2, rfl⟩ := Option.map_eq_some_iff.mp h
    have ha := S.e sc X g a ia h1
    have hb := S.e sc X g b ib h2
    have eo := copOf'_spec ho
    subst eo
    exact ⟨fun m => se_cmp g.units (ha.1 true) (hb.1 true) (nomarkE p), (fun i z => by cases z), se_tcmp g.units (ha.1 true) (hb.1 true) (nomarkE p)⟩
  · rename_i o q b d
    obtain ⟨p, h⟩ := guardO_some h
    obtain ⟨o', ho, h⟩ := Option.bind_eq_some_iff.mp h
    obtain ⟨q', hq, h⟩ := Option.bind_eq_some_iff.mp h
    obtain ⟨ia, h1, h⟩ := Option.bind_eq_some_iff.mp h
    obtain ⟨ib, h2, h⟩ := Option.bind_eq_some_iff.mp h
    obtain ⟨id, h3, rfl⟩ := Option.map_eq_some_iff.mp h
    have ha := S.e sc X g a ia h1
    have hb := S.e sc X g b ib h2
    have hd := S.e sc X g d id h3
    have eo := copOf'_spec ho
    have eq := copOf'_spec hq
    subst eo eq
    exact ⟨fun m => se_chain g.units (ha.1 true) (hb.1 true) (hd.1 true) (nomarkE p), (fun i z => by cases z), se_tchain g.units (ha.1 true) (hb.1 true) (hd.1 true) (nomarkE p)⟩
  · cases h
theorem snd_t (S : Snd c Γ lev n) (g : Good c Γ lev sc X) : ∀ e ie, cT c (n + 1) sc e = some ie → PT X e (tEvT X.K Γ ie) := by
  intro e ie h
  have plain : ∀ {e : Expr}, (cE c n sc e).map E.tr = some ie → (∀ whole, isTrue e X.env whole = (do let v ← whole; standAt e.pos; holding [v] (truthy v))) → PT X e (tEvT X.K Γ ie) := fun {e} h he => by
    obtain ⟨ia, h1, rfl⟩ := Option.map_eq_some_iff.mp h
    exact se_tv he ((S.e sc X g e ia h1).1 true)
  cases e with
  | BoolOp op vs pos =>
    simp only [cT] at h
    exact (S.bt sc X g op vs ie h pos).pt
  | UnaryOp op a pos =>
    rw [cT.eq_def] at h
    dsimp only at h
    cases op with
    | Not =>
      obtain ⟨ia, h1, rfl⟩ := Option.map_eq_some_iff.mp h
      exact se_tnot (S.t sc X g a ia h1)
    | _ => cases h
  | Compare a ops bs pos =>
    simp only [cT] at h
    exact (S.cmp sc X g a ops bs ie h pos).2.2
  | IfExp a b d pos => simp [cT] at h
  | _ =>
    simp only [cT] at h
    exact plain h fun _ => rfl
theorem snd_o (S : Snd c Γ lev n) (g : Good c Γ lev sc X) : ∀ o ies, cO c (n + 1) sc o = some ies → PO X o (tPrt X.K Γ ies) := by
  intro o ies h
  cases o with
  | none => simp only [cO] at h; cases h; exact se_none
  | some e =>
    simp only [cO] at h
    obtain ⟨ia, h1, rfl⟩ := Option.map_eq_some_iff.mp h
    exact se_some ((S.e sc X g e ia h1).1 true)
theorem snd_cc (S : Snd c Γ lev n) (g : Good c Γ lev sc X) : ∀ ifs ies, cC c (n + 1) sc ifs = some ies → PTs X ifs (tEvC X.K Γ ies) := by
  intro ifs ies h
  match ifs with
  | [] => simp only [cC] at h; cases h; exact sc_nil
  | [e] =>
    simp only [cC] at h
    obtain ⟨ia, h1, rfl⟩ := Option.map_eq_some_iff.mp h
    exact sc_one (S.t sc X g e ia h1)
  | _ :: _ :: _ => simp [cC] at h
theorem mem_self {α : Type} (l : List α) : ∀ x, x ∈ l → x ∈ l := fun _ h => h
theorem bnm {x : Str} (g : Good c Γ lev sc X) (h : x ∈ biNames) : X.mg x = none := g.F.bn x h
theorem snd_s (S : Snd c Γ lev n) (g : Good c Γ lev sc X) : ∀ tg it r, cS c (n + 1) sc tg it = some r → PI X tg it (tSrc X.K Γ r.1 r.2) := by
  intro tg it r h
  have other : guardO (plainE it) ((cE c n sc it).map fun ie => ((Sk.seq, [ie]) : Sk × List E)) = some r → PI X tg it (tSrc X.K Γ r.1 r.2) := fun h => by
    obtain ⟨p, h⟩ := guardO_some h
    obtain ⟨ia, h1, rfl⟩ := Option.map_eq_some_iff.mp h
    exact sp_seq (hold_of (S.e sc X g it ia h1))
  have one : ∀ {es : List Expr} {ies : List E}, cEs c n sc es = some ies → es.length = 1 → ∃ a ia, es = [a] ∧ ies = [ia] ∧ PE X a (tHold X.K Γ ia) ∧ PA X [a] (tEvS X.K Γ [ia] [ia]) ∧ starEach [a] X.env = [(false, eval a X.env)] := fun {es ies} h l => by
    obtain ⟨q1, q2, q3, q4, q5, q6, q7⟩ := S.es sc X g es ies h
    match es, l with
    | [a], _ =>
      match ies, q2 with
      | [ia], _ =>
        have p : plainE a = true := by simpa using q1
        exact ⟨a, ia, rfl, rfl, q7 a ia rfl rfl, q5 _ (mem_self _), star_cons p⟩
  have two : ∀ {es : List Expr} {ies : List E}, cEs c n sc es = some ies → es.length = 2 → ∃ a b ia ib, es = [a, b] ∧ ies = [ia, ib] ∧ PA X [a, b] (tEvS X.K Γ [ia, ib] [ia, ib]) ∧ starEach [a, b] X.env = [(false, eval a X.env), (false, eval b X.env)] ∧ starEach [b] X.env = [(false, eval b X.env)] ∧ plainE b = true := fun {es ies} h l => by
    obtain ⟨q1, q2, q3, q4, q5, q6, q7⟩ := S.es sc X g es ies h
    match es, l with
    | [a, b], _ =>
      match ies, q2 with
      | [ia, ib], _ =>
        have p : plainE a = true ∧ plainE b = true := by simpa using q1
        have s2 : starEach [b] X.env = [(false, eval b X.env)] := star_cons p.2
        exact ⟨a, b, ia, ib, rfl, rfl, q5 _ (mem_self _), by rw [star_cons p.1, s2], s2, p.2⟩
  cases it with
  | Call f es kws pos =>
    rw [cS.eq_def] at h
    dsimp only at h
    split at h
    · rename_i x px
      split at h
      · rename_i ex
        subst ex
        obtain ⟨p, h⟩ := guardO_some h
        rw [Bool.and_eq_true, Bool.and_eq_true] at p
        obtain ⟨ies, h1, rfl⟩ := Option.map_eq_some_iff.mp h
        rcases of_decide_eq_true p.2 with l | l
        · obtain ⟨a, ia, rfl, rfl, _, q, s⟩ := one h1 l
          exact sp_range1 (g.gl p.1.2) (bnm g (by simp [biNames])) q s
        · obtain ⟨a, b, ia, ib, rfl, rfl, q, s, s2, _⟩ := two h1 l
          exact sp_range2 (g.gl p.1.2) (bnm g (by simp [biNames])) q s s2
      · split at h
        · rename_i ex
          subst ex
          split at h
          · obtain ⟨p, h⟩ := guardO_some h
            rw [Bool.and_eq_true, Bool.and_eq_true] at p
            obtain ⟨ies, h1, rfl⟩ := Option.map_eq_some_iff.mp h
            obtain ⟨a, b, ia, ib, rfl, rfl, q, s, s2, pb⟩ := two h1 (of_decide_eq_true p.2)
            exact sp_zip (g.gl p.1.2) (bnm g (by simp [biNames])) q (by rw [s, s2]) (star_any (by simpa using pb))
          · cases h
        · split at h
          · rename_i ex
            subst ex
            split at h
            · obtain ⟨p, h⟩ := guardO_some h
              rw [Bool.and_eq_true, Bool.and_eq_true] at p
              obtain ⟨ies, h1, rfl⟩ := Option.map_eq_some_iff.mp h
              obtain ⟨a, ia, rfl, rfl, _, q, s⟩ := one h1 (of_decide_eq_true p.2)
              exact sp_enum (g.gl p.1.2) (bnm g (by simp [biNames])) q s
            · cases h
          · split at h
            · rename_i ex
              subst ex
              obtain ⟨p, h⟩ := guardO_some h
              rw [Bool.and_eq_true, Bool.and_eq_true] at p
              obtain ⟨ies, h1, rfl⟩ := Option.map_eq_some_iff.mp h
              obtain ⟨a, ia, rfl, rfl, q, _, s⟩ := one h1 (of_decide_eq_true p.2)
              exact sp_rev (g.gl p.1.2) (bnm g (by simp [biNames])) q s
            · exact other h
    · exact other h
  | _ => simp only [cS] at h; exact other h
end
end FF

set_option Elab.async false
set_option linter.all false
set_option maxRecDepth 100000
set_option maxHeartbeats 8000000
/-! FF15: soundness of the image of expressions, the cases. -/
namespace FF
open PySem PySem.Spec PyProof.Rows L2
section
variable {c : Cfg} {Γ : Sem} {lev n : Nat} {sc : Scope} {X : Cx}
abbrev EOk (X : Cx) (Γ : Sem) (e : Expr) (ie : E) : Prop := (∀ m, PE X e (tEv X.K Γ ie m)) ∧ ∀ i, ie = .v i → PE X e (tVar i)
theorem ownOf_map {N : List Str} {vs : List Nat} : (ownOf N vs).map (·.2) = vs := by
  unfold ownOf
  rw [List.map_map]
  exact List.map_id _
/-- the call of a name -/
theorem snd_call (S : Snd c Γ lev n) (g : Good c Γ lev sc X) {x : Str} {p pos : Pos} {es : List Expr} {ie : E} (h : cE c (n + 1) sc (.Call (.Name x p) es [] pos) = some ie) : EOk X Γ (.Call (.Name x p) es [] pos) ie := by
  rw [cE.eq_def] at h
  dsimp only at h
  replace h := guardO_some h
  obtain ⟨ok, h⟩ := h
  rw [Bool.and_eq_true] at ok
  obtain ⟨db, _, nn⟩ := okN_spec ok.1
  have gl := g.gl ok.2
  split at h
  · rename_i k ar hf
    obtain ⟨ies, h1, h⟩ := Option.bind_eq_some_iff.mp h
    obtain ⟨hl, h⟩ := guardO_some h
    cases h
    have hl := of_decide_eq_true hl
    obtain ⟨f, fd, ps, F, hm, hk, hb⟩ := g.F.fn x k ar hf
    obtain ⟨q1, q2, q3, q4, q5, q6, _⟩ := S.es sc X g es ies h1
    refine ⟨fun m => ?_, novar fun i z => by cases z⟩
    cases es with
    | nil =>
      cases ies with
      | nil => cases hl; exact se_call0 F g.room gl hm hk hb db
      | cons _ _ => cases q2
    | cons a es =>
      have p1 : plainE a = true ∧ es.all plainE = true := by simpa using q1
      exact se_call F g.room gl hm hk hb q4 hl db (star_cons p1.1) (star_any p1.2)
  · rename_i hf
    split at h
    · rename_i ex
      subst ex
      split at h
      · rename_i s1 ps1 t1 pt1 e
        obtain ⟨gd, h⟩ := guardO_some h
        rw [Bool.and_eq_true, Bool.and_eq_true, Bool.and_eq_true, Bool.and_eq_true] at gd
        obtain ⟨i, hi, h⟩ := Option.bind_eq_some_iff.mp h
        obtain ⟨j, hj, h⟩ := Option.bind_eq_some_iff.mp h
        obtain ⟨ia, h1, rfl⟩ := Option.map_eq_some_iff.mp h
        obtain ⟨f, fd, ps, F, hm, hk, hb⟩ := g.F.dr
        have he := S.e sc X g e ia h1
        exact ⟨fun m => se_draw F g.room gl hm hk hb (g.var gd.1.1.1 gd.1.1.2 hi) (g.var gd.1.2.1 gd.1.2.2 hj) (he.1 true) db rfl rfl (star_cons gd.2) (star_any (es := [_, _]) (by rw [List.all_cons, List.all_cons, List.all_nil, gd.2]; rfl)), novar fun i z => by cases z⟩
      · cases h
    · split at h
      · rename_i ex
        subst ex
        have hm : X.mg "isinstance" = none := bnm g (by simp [biNames])
        have hv : bootBuiltins "isinstance" = some (.builtin "isinstance") := boot_isinstance
        split at h
        · rename_i a t pt
          obtain ⟨gd, h⟩ := guardO_some h
          rw [Bool.and_eq_true, Bool.and_eq_true] at gd
          obtain ⟨ty, ht, h⟩ := Option.bind_eq_some_iff.mp h
          obtain ⟨ia, h1, rfl⟩ := Option.map_eq_some_iff.mp h
          have ha := S.e sc X g a ia h1
          obtain ⟨t1, t2⟩ := tyOfName_ok ht
          obtain ⟨db2, _, nn2⟩ := okN_spec gd.1.1
          exact ⟨fun m => se_isi1 gl hm hv (ha.1 true) (g.gl gd.1.2) (bnm g t1) t2 nn db nn2 db2 (star_cons gd.2), novar fun i z => by cases z⟩
        · rename_i a t pt u pu k ptp
          obtain ⟨gd, h⟩ := guardO_some h
          rw [Bool.and_eq_true, Bool.and_eq_true, Bool.and_eq_true, Bool.and_eq_true] at gd
          obtain ⟨ty, ht, h⟩ := Option.bind_eq_some_iff.mp h
          obtain ⟨tu, hu, h⟩ := Option.bind_eq_some_iff.mp h
          obtain ⟨ia, h1, rfl⟩ := Option.map_eq_some_iff.mp h
          have ha := S.e sc X g a ia h1
          obtain ⟨t1, t2⟩ := tyOfName_ok ht
          obtain ⟨u1, u2⟩ := tyOfName_ok hu
          obtain ⟨db2, _, nn2⟩ := okN_spec gd.1.1.1
          obtain ⟨db3, _, nn3⟩ := okN_spec gd.1.2.1
          exact ⟨fun m => se_isi2 gl hm hv (ha.1 true) (g.gl gd.1.1.2) (bnm g t1) t2 (g.gl gd.1.2.2) (bnm g u1) u2 nn db nn2 db2 nn3 db3 (star_cons gd.2), novar fun i z => by cases z⟩
        · cases h
      · split at h
        · rename_i ex
          subst ex
          obtain ⟨gd, h⟩ := guardO_some h
          rw [Bool.and_eq_true] at gd
          obtain ⟨ies, h1, rfl⟩ := Option.map_eq_some_iff.mp h
          obtain ⟨q1, q2, q3, q4, q5, q6, _⟩ := S.es sc X g es ies h1
          refine ⟨fun m => ?_, novar fun i z => by cases z⟩
          cases es with
          | nil => simp at gd
          | cons a es =>
            have p1 : plainE a = true ∧ es.all plainE = true := by simpa using q1
            exact se_bfun bi_gcd gl (g.F.gcd gd.1) (q3 true) db (star_cons p1.1) (star_any p1.2)
        · obtain ⟨⟨hd, b⟩, hb, h⟩ := Option.bind_eq_some_iff.mp h
          obtain ⟨ne, h⟩ := guardO_some h
          obtain ⟨ies, h1, rfl⟩ := Option.map_eq_some_iff.mp h
          obtain ⟨q1, q2, q3, q4, q5, q6, _⟩ := S.es sc X g es ies h1
          obtain ⟨m1, m2⟩ := biT_ok g.calm x es.length hd b (findBi_mem hb)
          refine ⟨fun m => ?_, novar fun i z => by cases z⟩
          cases es with
          | nil => simp at ne
          | cons a es =>
            have p1 : plainE a = true ∧ es.all plainE = true := by simpa using q1
            cases hd with
            | bi id => exact se_bi m2.1 gl (bnm g m1) m2.2 (q3 true) nn db (star_cons p1.1) (star_any p1.2)
            | ty t => exact se_bty m2.1 gl (bnm g m1) m2.2 (q3 true) nn db (star_cons p1.1) (star_any p1.2)
theorem pe_index {o a : Expr} {apos cpos : Pos} {to : TE} {t : TA} (hu : X.A.units + 65 < cLine) (ho : PE X o to) (ha : PA X [a] t) (hn : ∃ x p, o = .Name x p) (hp : plainE a = true) (hl : (apos.endLine == cpos.line) = true) : PE X (.Call (.Attribute o "index" apos) [a] [] cpos) (tBM X.K "list" (fun v vs H Q => rBi X.K .index (v :: vs) H Q) to t) := by
  obtain ⟨x, p, rfl⟩ := hn
  have st := star_cons (es := []) (env := X.env) hp
  exact pe_bm PySem.F.plainAttrs_list PySem.F.slot_list_index PySem.F.type_list_index (mt_idx hu) ho ha rfl (by rw [st]; rfl) hl st rfl
theorem se_idx {m : Bool} {o a : Expr} {io ia : E} {apos cpos : Pos} (hpe : PE X (.Call (.Attribute o "index" apos) [a] [] cpos) (tBM X.K "list" (fun v vs H Q => rBi X.K .index (v :: vs) H Q) (tEv X.K Γ io true) (tCons (tEv X.K Γ ia true) tNil))) : PE X (.Call (.Attribute o "index" apos) [a] [] cpos) (tEv X.K Γ (.bi .index [io, ia]) m) :=
  PE.imp hpe fun σ H Q ⟨B0, st, fp, ρ, R, h⟩ => by
    rw [ev, evs, evs, evs] at h
    have h1 := T.all_bind.mp (T.all_bind.mp h)
    refine ⟨B0, st, fp, ρ, R, T.all_mono (fun x hx v H1 c1 S1 r1 => ?_) h1⟩
    have R1 := R.mono c1 S1
    have h2 := T.all_bind.mp (T.all_bind.mp hx)
    have hB : ∀ p, st = some p → badOf B0 st fp p := fun _ => bad_st
    refine ⟨?_, B0, st, fp, ρ, R1, T.all_mono (fun y hy w H2 c2 S2 r2 => ?_) h2⟩
    · obtain ⟨y, hy⟩ := leaf_ex h2
      obtain ⟨r, e, q⟩ := T.all_ofO.mp hy
      cases hx1 : x.1 with
      | lst ws =>
        have lk := r1.look hB
        rw [hx1] at lk
        obtain ⟨p, vs, rfl, _, hp, _, _⟩ := lk
        exact .inl ⟨rfl, vs, SqL.of hp⟩
      | _ => rw [hx1] at e; simp [biD] at e
    · have R2 := R1.mono c2 S2
      obtain ⟨r, e, q⟩ := T.all_ofO.mp hy
      exact ⟨_, st, m, [x.1, y.1], r, R2.gd, ⟨_, _, rfl, (r1.look hB).ch hB c2, _, _, rfl, r2.look hB, rfl⟩, e, Fin.back hB q (c1.trans c2)⟩
/-- the call of a list's index -/
theorem snd_idx (S : Snd c Γ lev n) (g : Good c Γ lev sc X) {o : Expr} {nm : Str} {apos pos : Pos} {es : List Expr} {ie : E} (h : cE c (n + 1) sc (.Call (.Attribute o nm apos) es [] pos) = some ie) : EOk X Γ (.Call (.Attribute o nm apos) es [] pos) ie := by
  rw [cE.eq_def] at h
  dsimp only at h
  split at h
  · rename_i x xp a
    replace h := guardO_some h
    obtain ⟨gd, h⟩ := h
    rw [Bool.and_eq_true, Bool.and_eq_true] at gd
    obtain ⟨⟨g1, g2⟩, g3⟩ := gd
    have g1 := of_decide_eq_true g1
    subst g1
    obtain ⟨io, h1, h⟩ := Option.bind_eq_some_iff.mp h
    obtain ⟨ia, h2, rfl⟩ := Option.map_eq_some_iff.mp h
    have ho := (S.e sc X g _ io h1).1 true
    have ha := (S.e sc X g a ia h2).1 true
    refine ⟨fun m => se_idx (pe_index g.units ho ?_ ⟨x, xp, rfl⟩ g3 g2), novar fun i z => by cases z⟩
    exact pa_cons ha pa_nil (star_cons g3)
  · cases h
/-- what a comprehension leans on -/
structure CompOk (X : Cx) (Γ : Sem) (elt tg iter : Expr) (ifs : List Expr) (scope : Scope) (t : Tg) (sk : Sk) (ses cs : List E) (e : E) : Prop where
  pi : PI X tg iter (tSrc X.K Γ sk ses)
  ok : BlkOk X.N X.env.scope scope (ownOf X.N (tgS t))
  hg : ∀ (s : Shared) (H : Hp) (C : Addr) (cl : List (Str × Addr)) (fp : List Addr), PG (X.blk s H scope (compEnvC scope cl C X.env) fp) tg (tTg X.K t)
  ht : ∀ (s : Shared) (H : Hp) (C : Addr) (cl : List (Str × Addr)) (fp : List Addr), PTs (X.blk s H scope (compEnvC scope cl C X.env) fp) ifs (tEvC X.K Γ cs)
  he : ∀ (s : Shared) (H : Hp) (C : Addr) (cl : List (Str × Addr)) (fp : List Addr), PE (X.blk s H scope (compEnvC scope cl C X.env) fp) elt (tEv X.K Γ e false)
  hs : ∀ x, foldedSetIterable iter X.env x = pure x
/-- the targets of a block are its own names -/
theorem stoOf_sto {N : List Str} {scope sc : Scope} {vs : List Nat} {X : Cx} {s : Shared} {H : Hp} {C : Addr} {cl : List (Str × Addr)} {fp : List Addr} (e : X.env.scope = sc) (h : stoOf N scope vs = true) : Sto (vs.map fun i => N.getD i Str.empty) (X.blk s H scope (compEnvC scope cl C X.env) fp) := by
  intro x hx
  obtain ⟨i, hi, rfl⟩ := List.mem_map.mp hx
  have h2 := List.all_eq_true.mp h i hi
  have kp : ∀ k, k ≠ NameKind.free → scope.names.lookup (N.getD i Str.empty) = some k → (relS scope X.env.scope).names.lookup (N.getD i Str.empty) = some k := fun k hk hl => lookup_relS_keep hk hl
  have es : (X.blk s H scope (compEnvC scope cl C X.env) fp).env.scope = relS scope X.env.scope := rfl
  split at h2
  · rename_i hl
    have := kp _ (by decide) hl
    exact ⟨.inl (by rw [es]; exact this), .inr (by rw [es]; exact this)⟩
  · rename_i hl
    have := kp _ (by decide) hl
    refine ⟨.inr (by rw [es]; exact this), .inl ?_⟩
    show (scope.names.lookup (N.getD i Str.empty) == some NameKind.cell) = true
    rw [hl]; rfl
  · cases h2
/-- a comprehension's parts -/
theorem snd_compok (S : Snd c Γ lev n) (g : Good c Γ lev sc X) {elt tg iter : Expr} {ifs : List Expr} {scope : Scope} {pos : Pos} {ie : E} (h : cE c (n + 1) sc (.ListComp elt [⟨tg, iter, ifs, 0⟩] scope pos) = some ie) :
    ∃ t sk ses cs e, ie = .comp t sk ses cs e ∧ CompOk X Γ elt tg iter ifs scope t sk ses cs e := by
  rw [cE.eq_def] at h
  dsimp only at h
  obtain ⟨t0, h0, h⟩ := Option.bind_eq_some_iff.mp h
  obtain ⟨t, h1, h⟩ := Option.bind_eq_some_iff.mp h
  obtain ⟨r, h2, h⟩ := Option.bind_eq_some_iff.mp h
  replace h := guardO_some h
  obtain ⟨gd, h⟩ := h
  rw [Bool.and_eq_true, Bool.and_eq_true] at gd
  obtain ⟨cs, h3, h⟩ := Option.bind_eq_some_iff.mp h
  obtain ⟨e, h4, rfl⟩ := Option.map_eq_some_iff.mp h
  have bk : BlkOk c.N sc scope (ownOf c.N (tgS t)) := blkOk_by gd.1.1
  refine ⟨t, r.1, r.2, cs, e, rfl, ⟨S.s sc X g tg iter r h2, by rw [g.hN, g.scp]; exact bk, fun s H C cl fp => ?_, fun s H C cl fp => S.cc _ _ (g.blk bk.kind s H C cl fp) ifs cs h3, fun s H C cl fp => (S.e _ _ (g.blk bk.kind s H C cl fp) elt e h4).1 false, folded_of gd.2⟩⟩
  exact (cTg_sound (X := X.blk s H scope (compEnvC scope cl C X.env) fp) g.hN g.nd g.calm (stoOf_sto g.scp gd.1.2) n tg t h1).2
theorem snd_e (S : Snd c Γ lev n) (g : Good c Γ lev sc X) : ∀ e ie, cE c (n + 1) sc e = some ie → EOk X Γ e ie := by
  intro e ie h
  cases e with
  | Constant k j pos =>
    rw [cE.eq_def] at h
    dsimp only at h
    cases k with
    | int i => cases h; exact ⟨fun m => se_lit pe_int fun B H => rfl, novar fun i z => by cases z⟩
    | bool b => cases h; exact ⟨fun m => se_lit pe_bl fun B H => rfl, novar fun i z => by cases z⟩
    | none => cases h; exact ⟨fun m => se_lit pe_non fun B H => rfl, novar fun i z => by cases z⟩
    | str x =>
      replace h := guardO_some h
      obtain ⟨gd, h⟩ := h
      cases h
      refine ⟨fun m => se_lit (v := .str x) pe_str fun B H => ⟨?_, ?_⟩, novar fun i z => by cases z⟩
      · show V.str x = V.str ⟨x.cps.toList.toArray⟩
        rw [Array.toArray_toList]
      · rw [Array.length_toList]; exact small_line (of_decide_eq_true gd)
    | _ => cases h
  | Name x pos =>
    rw [cE.eq_def] at h
    dsimp only at h
    replace h := guardO_some h
    obtain ⟨ok, h⟩ := h
    obtain ⟨db, _, nn⟩ := okN_spec ok
    split at h
    · rename_i hl
      obtain ⟨i, h1, rfl⟩ := Option.map_eq_some_iff.mp h
      have hv := g.var (pos := pos) ok hl h1
      exact ⟨fun m => se_var hv, fun j z => by cases z; exact hv⟩
    · replace h := guardO_some h
      obtain ⟨gl, h⟩ := h
      obtain ⟨⟨k, d⟩, h1, rfl⟩ := Option.map_eq_some_iff.mp h
      obtain ⟨u, v, hm, r, rep⟩ := g.F.cn x k d h1
      exact ⟨fun m => se_glob (pe_glob (g.gl gl) hm r db) rep, novar fun i z => by cases z⟩
  | BinOp a op b pos =>
    rw [cE.eq_def] at h
    dsimp only at h
    obtain ⟨o, ho, h⟩ := Option.bind_eq_some_iff.mp h
    obtain ⟨ia, h1, h⟩ := Option.bind_eq_some_iff.mp h
    obtain ⟨ib, h2, rfl⟩ := Option.map_eq_some_iff.mp h
    have ha := (S.e sc X g a ia h1).1 true
    have hb := (S.e sc X g b ib h2).1 true
    refine ⟨fun m => ?_, novar fun i z => by cases z⟩
    cases op <;> simp [bopOf] at ho <;> subst ho
    · exact se_bin bin_add ha hb
    · exact se_bin bin_sub ha hb
    · exact se_bin bin_mul ha hb
    · exact se_bin bin_mod ha hb
    · exact se_bin bin_pow ha hb
    · exact se_bin bin_fdiv ha hb
  | UnaryOp op a pos =>
    rw [cE.eq_def] at h
    dsimp only at h
    cases op with
    | USub =>
      obtain ⟨ia, h1, rfl⟩ := Option.map_eq_some_iff.mp h
      exact ⟨fun m => se_neg ((S.e sc X g a ia h1).1 true), novar fun i z => by cases z⟩
    | Not =>
      obtain ⟨ia, h1, rfl⟩ := Option.map_eq_some_iff.mp h
      exact ⟨fun m => se_vnot ((S.e sc X g a ia h1).1 true), novar fun i z => by cases z⟩
    | _ => cases h
  | Compare a ops bs pos =>
    rw [cE.eq_def] at h
    dsimp only at h
    have q := S.cmp sc X g a ops bs ie h pos
    exact ⟨q.1, novar q.2.1⟩
  | BoolOp op vs pos =>
    rw [cE.eq_def] at h
    dsimp only at h
    exact S.b sc X g op vs ie h pos
  | IfExp t a b pos =>
    rw [cE.eq_def] at h
    dsimp only at h
    obtain ⟨it, h0, h⟩ := Option.bind_eq_some_iff.mp h
    obtain ⟨ia, h1, h⟩ := Option.bind_eq_some_iff.mp h
    obtain ⟨ib, h2, rfl⟩ := Option.map_eq_some_iff.mp h
    exact ⟨fun m => se_ite (S.t sc X g t it h0) ((S.e sc X g a ia h1).1 m) ((S.e sc X g b ib h2).1 m), novar fun i z => by cases z⟩
  | Tuple es k pos =>
    rw [cE.eq_def] at h
    dsimp only at h
    obtain ⟨ies, h1, h⟩ := Option.bind_eq_some_iff.mp h
    replace h := guardO_some h
    obtain ⟨gd, h⟩ := h
    cases h
    obtain ⟨q1, q2, q3, _⟩ := S.es sc X g es ies h1
    exact ⟨fun m => se_tup (q3 false) (of_decide_eq_true gd), novar fun i z => by cases z⟩
  | List es pos =>
    rw [cE.eq_def] at h
    dsimp only at h
    obtain ⟨ies, h1, h⟩ := Option.bind_eq_some_iff.mp h
    replace h := guardO_some h
    obtain ⟨gd, h⟩ := h
    cases h
    obtain ⟨q1, q2, q3, _⟩ := S.es sc X g es ies h1
    exact ⟨fun m => se_lst (q3 false) (of_decide_eq_true gd), novar fun i z => by cases z⟩
  | Subscript a s pos =>
    rw [cE.eq_def] at h
    dsimp only at h
    split at h
    · rename_i lo hi st p2
      split at h
      · obtain ⟨ia, h1, h⟩ := Option.bind_eq_some_iff.mp h
        obtain ⟨il, h2, h⟩ := Option.bind_eq_some_iff.mp h
        obtain ⟨ih, h3, rfl⟩ := Option.map_eq_some_iff.mp h
        exact ⟨fun m => se_sl ((S.e sc X g a ia h1).1 true) (S.o sc X g lo il h2) (S.o sc X g hi ih h3), novar fun i z => by cases z⟩
      · rename_i mm
        split at h
        · replace h := guardO_some h
          obtain ⟨gd, h⟩ := h
          obtain ⟨ia, h1, rfl⟩ := Option.map_eq_some_iff.mp h
          unfold negOne at gd
          split at gd
          · exact ⟨fun m => se_rev ((S.e sc X g a ia h1).1 true), novar fun i z => by cases z⟩
          · cases gd
        · cases h
    · replace h := guardO_some h
      obtain ⟨gd, h⟩ := h
      obtain ⟨ia, h1, h⟩ := Option.bind_eq_some_iff.mp h
      obtain ⟨ib, h2, rfl⟩ := Option.map_eq_some_iff.mp h
      exact ⟨fun m => se_ix ((S.e sc X g a ia h1).1 true) ((S.e sc X g _ ib h2).1 true) (plainIx_of gd), novar fun i z => by cases z⟩
  | Call f es kws pos =>
    cases f with
    | Name x p =>
      cases kws with
      | nil => exact snd_call S g h
      | cons k ks => rw [cE.eq_def] at h; cases h
    | Attribute o nm apos =>
      cases kws with
      | nil => exact snd_idx S g h
      | cons k ks => rw [cE.eq_def] at h; cases h
    | _ => rw [cE.eq_def] at h; cases h
  | ListComp elt gens scope pos =>
    have hg : ∃ tg it ifs, gens = [⟨tg, it, ifs, 0⟩] := by
      rw [cE.eq_def] at h
      dsimp only at h
      split at h
      · exact ⟨_, _, _, rfl⟩
      · cases h
    obtain ⟨tg, it, ifs, rfl⟩ := hg
    obtain ⟨t, sk, ses, cs, e, rfl, k⟩ := snd_compok S g h
    refine ⟨fun m => PE.imp (pe_lc g.calm (by rw [g.hN]; exact g.nd) k.pi k.ok k.hg k.ht k.he k.hs) fun σ H Q q => ?_, novar fun i z => by cases z⟩
    have := se_comp (m := m) (pos := pos) g.calm (by rw [g.hN]; exact g.nd) k.pi k.ok ownOf_map k.hg k.ht k.he k.hs σ H Q q
    rw [ownOf_map]
    exact this
  | _ => rw [cE.eq_def] at h; cases h
theorem snd_all : ∀ n, Snd c Γ lev n
  | 0 => snd_zero
  | n + 1 =>
    have S := snd_all n
    ⟨fun sc X g => snd_e S g, fun sc X g => snd_b S g, fun sc X g => snd_t S g, fun sc X g => snd_bt S g, fun sc X g => snd_es S g, fun sc X g => snd_o S g, fun sc X g => snd_cmp S g, fun sc X g => snd_cc S g, fun sc X g => snd_s S g⟩
end
end FF

set_option Elab.async false
set_option linter.all false
set_option maxRecDepth 100000
set_option maxHeartbeats 8000000
/-! FF16: the image of statements. -/
namespace FF
open PySem PySem.Spec PyProof.Rows L2

mutual
/-- the slots whose value is taken as a value -/
def esc : Bool → E → List Nat
  | m, .v i => if m then [] else [i]
  | _, .bin _ a b => esc true a ++ esc true b
  | _, .neg a => esc true a
  | _, .cmp _ a b => esc true a ++ esc true b
  | _, .chain _ _ a b c => esc true a ++ esc true b ++ esc true c
  | _, .nt a => esc true a
  | m, .and2 a b => esc true a ++ esc m b
  | m, .or2 a b => esc true a ++ esc m b
  | _, .tr a => esc true a
  | m, .ite c a b => esc true c ++ esc m a ++ esc m b
  | _, .tup es => escs false es
  | _, .lst es => escs false es
  | _, .ix a i => esc true a ++ esc true i
  | _, .sl a lo hi => esc true a ++ escs true lo ++ escs true hi
  | _, .rev a => esc true a
  | _, .call _ es => escs false es
  | _, .bi _ es => escs true es
  | _, .isi a _ => esc true a
  | _, .comp _ _ ses cs e => escS ses ++ escs true cs ++ esc false e
  | _, .draw _ _ e => esc true e
  | _, _ => []
def escs : Bool → List E → List Nat
  | _, [] => []
  | m, e :: es => esc m e ++ escs m es
def escS : List E → List Nat
  | [] => []
  | e :: es => (if isV e then [] else esc false e) ++ escS es
end
def isSt (sc : Scope) (x : Str) : Bool := match sc.names.lookup x with | some .local => true | some .cell => true | _ => false
def stNames (c : Cfg) (sc : Scope) : List Str := c.N.filter (isSt sc)
def isComp : Expr → Bool
  | .ListComp .. => true
  | .SetComp .. => true
  | .DictComp .. => true
  | _ => false
/-- may x = [..] be said so -/
def compAsg (sc : Scope) (x : Str) (px : Pos) : Expr → Bool
  | .ListComp _ _ scope lpos => match sc.names.lookup x with
    | some .local => (px.line == lpos.line) && !(scope.names.any fun (n, k) => n == x && (k == .local || k == .cell))
    | some .cell => true
    | _ => false
  | e => !isComp e
def isStar : Expr → Bool
  | .Starred .. => true
  | _ => false
/-- how a, b = x, y stores -/
def swp (sc : Scope) (ts vs : List Expr) : Option (Option (List Str)) :=
  if !(ts.length == 2 || ts.length == 3) || vs.length != ts.length then some none
  else if (vs.any fun | .Starred .. => true | _ => false) then some none
  else
    let line := (ts.head?.map (·.pos.line)).getD 0
    let names := ts.filterMap fun
      | .Name id pos => if sc.names.lookup id == some .local && pos.line == line then some id else none
      | _ => none
    if names.length != ts.length || names.eraseDups.length != names.length then some none
    else if vs.all (foldedForSure 8) then some none
    else if vs.all (constantsAlone 8) then none
    else some (some names)
theorem swp_spec {sc : Scope} {ts vs : List Expr} {r : Option (List Str)} {kt k2 : Nat} {pt p2 : Pos} {env : PySem.Env} (e : env.scope = sc) (hk : sc.kind = .function) (h : swp sc ts vs = some r) : swappedStores [.Tuple ts kt pt] (.Tuple vs k2 p2) env = pure r := by
  have hb : env.blockKind = .function := by unfold Env.blockKind; rw [e, hk]; rfl
  have kd : ∀ id, env.kindOf id = sc.names.lookup id := fun id => by unfold Env.kindOf; rw [e]
  unfold swappedStores
  unfold swp at h
  simp only [hb, kd]
  split at h
  · rename_i q
    cases h
    exact if_pos (by rw [q]; rfl)
  · rename_i q
    refine (if_neg (by rw [Bool.not_eq_true] at q; rw [q]; decide)).trans ?_
    split at h
    · rename_i q2
      cases h
      exact if_pos q2
    · rename_i q2
      refine (if_neg q2).trans ?_
      dsimp only at h
      split at h
      · rename_i q3
        cases h
        exact if_pos q3
      · rename_i q3
        refine (if_neg q3).trans ?_
        split at h
        · rename_i q4
          cases h
          exact if_pos q4
        · rename_i q4
          refine (if_neg q4).trans ?_
          split at h
          · cases h
          · rename_i q5
            cases h
            exact if_neg q5

structure GoodS (c : Cfg) (Γ : Sem) (lev : Nat) (sc : Scope) (X : Cx) : Prop where
  g : Good c Γ lev sc X
  fn : ∀ x, X.fn x = true

/-- the slots of a row of names -/
def cNs (c : Cfg) (sc : Scope) : List Expr → Option (List (Nat × Bool))
  | [] => some []
  | .Name x _ :: es => guardO (isSt sc x) ((ixOf x c.N).bind fun i => (cNs c sc es).map ((i, decide (x ∈ c.boxes)) :: ·))
  | _ => none
def frzs (c : Cfg) (vs : List Nat) (r : List S) : List S := ((vs.filter fun i => decide (c.N.getD i Str.empty ∈ c.boxes)).map .frz) ++ r
/-- is it said with two names or three, stored in the other order? -/
def swpOk (sc : Scope) (ts vs : List Expr) (is : List (Nat × Bool)) : Bool := match swp sc ts vs with
  | none => false
  | some none => true
  | some (some xs) => match ts, is with
    | [.Name x _, .Name y _], [i, j] => decide (xs = [x, y]) && (sc.names.lookup x == some .local) && (sc.names.lookup y == some .local) && decide (i.1 ≠ j.1)
    | [.Name x _, .Name y _, .Name z _], [i, j, k] => decide (xs = [x, y, z]) && (sc.names.lookup x == some .local) && (sc.names.lookup y == some .local) && (sc.names.lookup z == some .local) && decide (i.1 ≠ j.1 ∧ i.1 ≠ k.1 ∧ j.1 ≠ k.1)
    | _, _ => false
/-- x.append(a), x.append(y.pop(k)) -/
def cApp (c : Cfg) (n : Nat) (sc : Scope) (i : Nat) (a : Expr) : Option (List Nat × S) :=
  match a with
  | .Call (.Attribute (.Name y _) bt bpos) [k] [] dpos => guardO (okN y && isLoc sc y && plainE k && decide (bt = ("pop" : Str)) && (bpos.endLine == dpos.line)) ((ixOf y c.N).bind fun j => (cE c n sc k).map fun ik => (esc true ik, .apppop i j [ik]))
  | a => (cE c n sc a).map fun ia => (esc false ia, .app i ia)
mutual
def cSt (c : Cfg) (fuel : Nat) : Nat → Scope → Stmt → Option (List Nat × S)
  | 0, _, _ => none
  | n + 1, sc, s => match s with
    | .Assign ts e _ => (match ts with
      | [.Name x px] => guardO (isSt sc x && compAsg sc x px e) ((ixOf x c.N).bind fun i => (cE c n sc e).map fun ie => (esc false ie, .box i (decide (x ∈ c.boxes)) ie))
      | [.Tuple us kt pt] => (match e with
        | .Tuple vs _ _ => (match cNs c sc us with
          | some is => (cEs c n sc vs).bind fun ies => guardO (decide (ies.length = is.length ∧ ies.length ≤ 1000) && swpOk sc us vs is) (some (escs false ies, .par is ies))
          | none => guardO (swp sc us vs == some none) ((cTg c (stNames c sc) n (.Tuple us kt pt)).bind fun t => (cE c n sc e).map fun ie => (esc false ie, .asg t ie)))
        | e => (cTg c (stNames c sc) n (.Tuple us kt pt)).bind fun t => (cE c n sc e).map fun ie => (esc false ie, .asg t ie))
      | [.Subscript (.Name x _) k _] => guardO (okN x && isLoc sc x && plainE k) ((ixOf x c.N).bind fun i => (cE c n sc e).bind fun ie => (cE c n sc k).map fun ik => (esc false ie ++ esc true ik, .setix i ik ie))
      | _ => none)
    | .Expr e _ => (match e with
      | .Call (.Attribute (.Name x _) at' apos) [a] [] cpos => guardO (okN x && isLoc sc x && plainE a && decide (at' = ("append" : Str)) && (apos.endLine == cpos.line)) ((ixOf x c.N).bind fun i =>
        cApp c n sc i a)
      | _ => none)
    | .If e a b _ => (cT c n sc e).bind fun ie => (cSts c fuel n sc a).bind fun ia => (cSts c fuel n sc b).map fun ib => (esc true ie, .ifs ie ia ib)
    | .While e a b _ => (match b with
      | [] => (cT c n sc e).bind fun ie => (cSts c fuel n sc a).map fun ia => (esc true ie, .whl fuel ie ia)
      | _ => none)
    | .For tg it a b _ => (match b with
      | [] => guardO (plainE it) ((cTg c (stNames c sc) n tg).bind fun t => (cS c n sc tg it).bind fun s => (cSts c fuel n sc a).map fun ia => (escS s.2, .forr t s.1 s.2 ia))
      | _ => none)
    | .Return e _ => (match e with
      | some e => (cE c n sc e).map fun ie => (if isV ie then [] else esc false ie, .ret ie)
      | none => some ([], .retN))
    | .Pass _ => some ([], .pass)
    | .Break _ => some ([], .brk)
    | .Continue _ => some ([], .cont)
    | _ => none
def cSts (c : Cfg) (fuel : Nat) : Nat → Scope → List Stmt → Option (List S)
  | 0, _, _ => none
  | n + 1, sc, ss => match ss with
    | [] => some []
    | s :: ss => (cSt c fuel n sc s).bind fun p => (cSts c fuel n sc ss).map fun r => frzs c p.1 (p.2 :: r)
end

section
variable {c : Cfg} {Γ : Sem} {lev : Nat} {sc : Scope} {X : Cx}
theorem sw_plain {e : Expr} (h : isComp e = false) {t : Option Expr} {l : Nat} {env : PySem.Env} : swapsWith e t l env = pure false := by cases e <;> first | rfl | cases h
theorem sw_tup {e : Expr} {us : List Expr} {kt : Nat} {pt : Pos} {l : Nat} {env : PySem.Env} : swapsWithSole [.Tuple us kt pt] e l env = pure false := by
  rw [swapsWithSole]
  cases e <;> rfl
theorem sw_sub {e o k : Expr} {pt : Pos} {l : Nat} {env : PySem.Env} : swapsWithSole [.Subscript o k pt] e l env = pure false := by
  rw [swapsWithSole]
  cases e <;> rfl
theorem sws_plain {ts : List Expr} {e : Expr} {env : PySem.Env} (h : ∀ vs k p, e ≠ .Tuple vs k p) : swappedStores ts e env = pure none := by
  unfold swappedStores
  split
  · rename_i e1
    split at e1
    · exact (h _ _ _ rfl).elim
    · exact (h _ _ _ rfl).elim
    · cases e1
  · rfl
theorem sws_sub {o k e : Expr} {pt : Pos} {env : PySem.Env} : swappedStores [.Subscript o k pt] e env = pure none := by cases e <;> rfl
theorem GoodS.loc (g : GoodS c Γ lev sc X) {x : Str} (h : isSt sc x = true) : Loc X.env.scope x := by
  rw [g.g.scp]
  unfold isSt at h
  split at h
  · rename_i e; exact .inl e
  · rename_i e; exact .inr e
  · cases h
theorem GoodS.sto (g : GoodS c Γ lev sc X) : Sto (stNames c sc) X := fun x h => ⟨g.loc (List.mem_filter.mp h).2, .inl (g.fn x)⟩
theorem cNs_ok (g : GoodS c Γ lev sc X) : ∀ {es : List Expr} {is : List (Nat × Bool)}, cNs c sc es = some is → PGs X es (gN (is.map (·.1))) ∧ (assignEach es X.env).length = is.length ∧ (assignEach es X.env).findIdx? (·.1) = none ∧ es.length = is.length
  | [], is, h => by cases h; exact ⟨pgs_nil, rfl, rfl, rfl⟩
  | e :: es, is, h => by
    cases e with
    | Name x px =>
      rw [cNs] at h
      obtain ⟨h1, h⟩ := guardO_some h
      obtain ⟨i, h2, h⟩ := Option.bind_eq_some_iff.mp h
      obtain ⟨js, h3, rfl⟩ := Option.map_eq_some_iff.mp h
      obtain ⟨a, b, d, f⟩ := cNs_ok g h3
      have q := asg_cons (e := .Name x px) (es := es) (env := X.env) rfl
      refine ⟨pgs_cons (pg_name (by rw [g.g.hN]; exact g.g.nd) (by rw [g.g.hN]; exact ixOf_get h2) (g.loc h1) (.inl (g.fn x))) a (by rw [q]; rfl), ?_, ?_, by rw [List.length_cons, List.length_cons, f]⟩
      · rw [q, List.length_cons, List.length_cons, b]
      · rw [q, List.findIdx?_cons, d]; rfl
    | _ => simp [cNs] at h
theorem frzs_ok : ∀ {vs : List Nat} {ss : List Stmt} {r : List S}, PSs X ss (tSs X.K Γ r) → PSs X ss (tSs X.K Γ (frzs c vs r))
  | vs, ss, r, h => by
    unfold frzs
    generalize vs.filter _ = ws
    induction ws with
    | nil => exact h
    | cons w ws ih => exact xs_ghost ih
end
end FF

set_option Elab.async false
set_option linter.all false
set_option maxRecDepth 100000
set_option maxHeartbeats 8000000
/-! FF17: soundness of the image of statements. -/
namespace FF
open PySem PySem.Spec PyProof.Rows L2
section
variable {c : Cfg} {Γ : Sem} {lev : Nat} {sc : Scope} {X : Cx} {fuel : Nat}
theorem nev (g : GoodS c Γ lev sc X) : PassesOwn (model X.prog X.w) X.A X.env X.xe := by rw [g.g.xe]; exact .never
/-- x = e -/
theorem snd_asg1 (g : GoodS c Γ lev sc X) {n : Nat} {x : Str} {px pos : Pos} {e : Expr} {i : Nat} {b : Bool} {ie : E} (h1 : isSt sc x = true) (h2 : compAsg sc x px e = true) (h3 : ixOf x c.N = some i) (h4 : cE c n sc e = some ie) :
    PS X (.Assign [.Name x px] e pos) (tS X.K Γ (.box i b ie)) := by
  have hb : X.env.blockKind = .function := by unfold Env.blockKind; rw [g.g.scp, g.g.kind]; rfl
  have kd : X.env.kindOf x = sc.names.lookup x := by unfold Env.kindOf; rw [g.g.scp]
  have hi : X.N[i]? = some x := by rw [g.g.hN]; exact ixOf_get h3
  have nd : X.N.Nodup := by rw [g.g.hN]; exact g.g.nd
  have he := (snd_all (Γ := Γ) (lev := lev) n).e sc X g.g e ie h4
  by_cases hl : ∃ elt gens scope lpos, e = .ListComp elt gens scope lpos
  · obtain ⟨elt, gens, scope, lpos, rfl⟩ := hl
    have sw : swapsWith (.ListComp elt gens scope lpos) (some (.Name x px)) pos.line X.env = pure (X.env.blockKind == .function && X.env.kindOf x == some .local && px.line == lpos.line && !(scope.names.any fun (n, k) => n == x && (k == .local || k == .cell))) := rfl
    rw [hb, kd] at sw
    unfold compAsg at h2
    dsimp only at h2
    split at h2
    · rename_i hlx
      rw [hlx] at sw
      rw [Bool.and_eq_true] at h2
      have sw : swapsWith (.ListComp elt gens scope lpos) (some (.Name x px)) pos.line X.env = pure true := by
        rw [sw, h2.1, h2.2]; rfl
      cases n with
      | zero => simp [cE] at h4
      | succ n =>
        have hg : ∃ tg it ifs, gens = [⟨tg, it, ifs, 0⟩] := by
          rw [cE.eq_def] at h4
          dsimp only at h4
          split at h4
          · exact ⟨_, _, _, rfl⟩
          · cases h4
        obtain ⟨tg, it, ifs, rfl⟩ := hg
        obtain ⟨t, sk, ses, cs, e, rfl, k⟩ := snd_compok (snd_all n) g.g h4
        refine PS.imp (ps_setLc g.g.calm nd hi (by rw [g.g.scp]; exact hlx) sw k.pi k.ok k.hg k.ht k.he k.hs) (box_leaf fun σ H Q q => ?_)
        rw [ownOf_map]
        exact se_comp (m := false) (pos := lpos) g.g.calm nd k.pi k.ok ownOf_map k.hg k.ht k.he k.hs σ H Q q
    · rename_i hlx
      rw [hlx] at sw
      exact x_box nd hi (g.loc h1) (.inl (g.fn x)) (he.1 false) sw
    · cases h2
  · have hc : isComp e = false := by
      cases e <;> first | rfl | exact (hl ⟨_, _, _, _, rfl⟩).elim | (simp [compAsg, isComp] at h2)
    exact x_box nd hi (g.loc h1) (.inl (g.fn x)) (he.1 false) (sw_plain hc)
theorem snd_par (g : GoodS c Γ lev sc X) {n : Nat} {us vs : List Expr} {kt k2 : Nat} {pt p2 pos : Pos} {is : List (Nat × Bool)} {ies : List E} (h1 : cNs c sc us = some is) (h2 : cEs c n sc vs = some ies) (h3 : ies.length = is.length) (h4 : ies.length ≤ 1000) (h5 : swpOk sc us vs is = true) :
    PS X (.Assign [.Tuple us kt pt] (.Tuple vs k2 p2) pos) (tS X.K Γ (.par is ies)) := by
  have nd : X.N.Nodup := by rw [g.g.hN]; exact g.g.nd
  obtain ⟨q1, q2, q3, q4, q5, q6, _⟩ := (snd_all (Γ := Γ) (lev := lev) n).es sc X g.g vs ies h2
  obtain ⟨a, b, d, f⟩ := cNs_ok g h1
  unfold swpOk at h5
  split at h5
  · cases h5
  · rename_i e
    exact x_parN g.g.calm q6 a h3 h4 b d sw_tup (swp_spec g.g.scp g.g.kind e) rfl
  · rename_i xs e
    have sw := swp_spec (kt := kt) (k2 := k2) (pt := pt) (p2 := p2) g.g.scp g.g.kind e
    split at h5
    · rename_i x px y py i j
      simp only [Bool.and_eq_true, decide_eq_true_eq, beq_iff_eq] at h5
      obtain ⟨⟨⟨rfl, hx⟩, hy⟩, hij⟩ := h5
      simp only [cNs] at h1
      obtain ⟨_, h1⟩ := guardO_some h1
      obtain ⟨i', e1, h1⟩ := Option.bind_eq_some_iff.mp h1
      obtain ⟨r, h1, e2⟩ := Option.map_eq_some_iff.mp h1
      obtain ⟨_, h1⟩ := guardO_some h1
      obtain ⟨j', e3, h1⟩ := Option.bind_eq_some_iff.mp h1
      cases h1
      cases e2
      match vs, f, q6, q2, sw with
      | [a, b], _, q6, q2, sw =>
        exact x_par2 g.g.calm nd (by rw [g.g.hN]; exact ixOf_get e1) (by rw [g.g.hN]; exact ixOf_get e3) hij (by rw [g.g.scp]; exact hx) (by rw [g.g.scp]; exact hy) q6 (by rw [h3]; rfl) sw sw_tup
      | [], _, _, q2, _ => rw [h3] at q2; cases q2
      | [_], _, _, q2, _ => rw [h3] at q2; cases q2
      | _ :: _ :: _ :: _, _, _, q2, _ => rw [h3] at q2; simp at q2
    · rename_i x px y py z pz i j l
      simp only [Bool.and_eq_true, decide_eq_true_eq, beq_iff_eq] at h5
      obtain ⟨⟨⟨⟨rfl, hx⟩, hy⟩, hz⟩, hij, hil, hjl⟩ := h5
      simp only [cNs] at h1
      obtain ⟨_, h1⟩ := guardO_some h1
      obtain ⟨i', e1, h1⟩ := Option.bind_eq_some_iff.mp h1
      obtain ⟨r, h1, e2⟩ := Option.map_eq_some_iff.mp h1
      obtain ⟨_, h1⟩ := guardO_some h1
      obtain ⟨j', e3, h1⟩ := Option.bind_eq_some_iff.mp h1
      obtain ⟨r2, h1, e4⟩ := Option.map_eq_some_iff.mp h1
      obtain ⟨_, h1⟩ := guardO_some h1
      obtain ⟨l', e5, h1⟩ := Option.bind_eq_some_iff.mp h1
      cases h1
      cases e4
      cases e2
      match vs, f, q6, q2, sw with
      | [a, b, d], _, q6, q2, sw =>
        exact x_par3 g.g.calm nd (by rw [g.g.hN]; exact ixOf_get e1) (by rw [g.g.hN]; exact ixOf_get e3) (by rw [g.g.hN]; exact ixOf_get e5) hij hil hjl (by rw [g.g.scp]; exact hx) (by rw [g.g.scp]; exact hy) (by rw [g.g.scp]; exact hz) q6 (by rw [h3]; rfl) sw sw_tup
      | [], _, _, q2, _ => rw [h3] at q2; cases q2
      | [_], _, _, q2, _ => rw [h3] at q2; cases q2
      | [_, _], _, _, q2, _ => rw [h3] at q2; simp at q2
      | _ :: _ :: _ :: _ :: _, _, _, q2, _ => rw [h3] at q2; simp at q2
    · cases h5
theorem pe_append {o a : Expr} {apos cpos : Pos} {to : TE} {t : TA} (ho : PE X o to) (ha : PA X [a] t) (hn : ∃ x p, o = .Name x p) (hp : plainE a = true) (hl : (apos.endLine == cpos.line) = true) : PE X (.Call (.Attribute o "append" apos) [a] [] cpos) (tBM X.K "list" rAppend to t) := by
  obtain ⟨x, p, rfl⟩ := hn
  have st := star_cons (es := []) (env := X.env) hp
  exact pe_bm PySem.F.plainAttrs_list PySem.F.slot_list_append PySem.F.type_list_append mt_append ho ha rfl (by rw [st]; rfl) hl st rfl
theorem pe_popAt {o a : Expr} {apos cpos : Pos} {to : TE} {t : TA} (ho : PE X o to) (ha : PA X [a] t) (hn : ∃ x p, o = .Name x p) (hp : plainE a = true) (hl : (apos.endLine == cpos.line) = true) : PE X (.Call (.Attribute o "pop" apos) [a] [] cpos) (tBM X.K "list" rPopAt to t) := by
  obtain ⟨x, p, rfl⟩ := hn
  have st := star_cons (es := []) (env := X.env) hp
  exact pe_bm PySem.F.plainAttrs_list PySem.F.slot_list_pop PySem.F.type_list_pop mt_popAt ho ha rfl (by rw [st]; rfl) hl st rfl

structure SndS (c : Cfg) (Γ : Sem) (lev fuel n : Nat) : Prop where
  s : ∀ (sc : Scope) (X : Cx), GoodS c Γ lev sc X → ∀ s vs is, cSt c fuel n sc s = some (vs, is) → PS X s (tS X.K Γ is)
  b : ∀ (sc : Scope) (X : Cx), GoodS c Γ lev sc X → ∀ ss iss, cSts c fuel n sc ss = some iss → PSs X ss (tSs X.K Γ iss)
theorem snd_sts {n : Nat} (S : SndS c Γ lev fuel n) (g : GoodS c Γ lev sc X) : ∀ ss iss, cSts c fuel (n + 1) sc ss = some iss → PSs X ss (tSs X.K Γ iss) := by
  intro ss iss h
  rw [cSts.eq_def] at h
  dsimp only at h
  split at h
  · cases h; exact xs_nil
  · obtain ⟨⟨vs, is⟩, h1, h⟩ := Option.bind_eq_some_iff.mp h
    obtain ⟨r, h2, rfl⟩ := Option.map_eq_some_iff.mp h
    exact frzs_ok (xs_cons (S.s sc X g _ vs is h1) (S.b sc X g _ r h2))
theorem snd_app (g : GoodS c Γ lev sc X) {n : Nat} {x : Str} {px apos cpos pos : Pos} {a : Expr} {i : Nat} {vs : List Nat} {is : S} (g1 : okN x = true) (g2 : isLoc sc x = true) (g3 : plainE a = true) (g5 : (apos.endLine == cpos.line) = true) (h1 : ixOf x c.N = some i) (h : cApp c n sc i a = some (vs, is)) :
    PS X (.Expr (.Call (.Attribute (.Name x px) "append" apos) [a] [] cpos) pos) (tS X.K Γ is) := by
  have SE := snd_all (c := c) (Γ := Γ) (lev := lev) n
  have hv := g.g.var (pos := px) g1 g2 h1
  unfold cApp at h
  split at h
  · rename_i y py bt bpos k dpos
    replace h := guardO_some h
    obtain ⟨gd, h⟩ := h
    simp only [Bool.and_eq_true, decide_eq_true_eq] at gd
    obtain ⟨⟨⟨⟨k1, k2⟩, k3⟩, e4⟩, k5⟩ := gd
    subst e4
    obtain ⟨j, h3, h⟩ := Option.bind_eq_some_iff.mp h
    obtain ⟨ik, h4, h⟩ := Option.map_eq_some_iff.mp h
    cases h
    have hk := (SE.e sc X g.g k ik h4).1 true
    have st := star_cons (es := []) (env := X.env) k3
    have st2 := star_cons (es := []) (env := X.env) g3
    exact x_apppop (ps_expr (pe_append hv (pa_cons (pe_popAt (g.g.var (pos := py) k1 k2 h3) (pa_cons hk pa_nil st) ⟨y, py, rfl⟩ k3 k5) pa_nil st2) ⟨x, px, rfl⟩ g3 g5) rfl)
  · obtain ⟨ia, h2, h⟩ := Option.map_eq_some_iff.mp h
    cases h
    have ha := (SE.e sc X g.g a ia h2).1 false
    have st := star_cons (es := []) (env := X.env) g3
    exact x_app hv ha st (fun pe => ps_expr pe rfl) (pe_append hv (pa_cons ha pa_nil st) ⟨x, px, rfl⟩ g3 g5)
theorem snd_st {n : Nat} (S : SndS c Γ lev fuel n) (g : GoodS c Γ lev sc X) : ∀ s vs is, cSt c fuel (n + 1) sc s = some (vs, is) → PS X s (tS X.K Γ is) := by
  intro s vs is h
  have SE := snd_all (c := c) (Γ := Γ) (lev := lev) n
  cases s with
  | Assign ts e pos =>
    rw [cSt.eq_def] at h
    dsimp only at h
    split at h
    · rename_i x px
      replace h := guardO_some h
      obtain ⟨gd, h⟩ := h
      rw [Bool.and_eq_true] at gd
      obtain ⟨i, h1, h⟩ := Option.bind_eq_some_iff.mp h
      obtain ⟨ie, h2, h⟩ := Option.map_eq_some_iff.mp h
      cases h
      exact snd_asg1 g gd.1 gd.2 h1 h2
    · rename_i us kt pt
      split at h
      · rename_i ws k2 p2
        split at h
        · rename_i js h1
          obtain ⟨ies, h2, h⟩ := Option.bind_eq_some_iff.mp h
          replace h := guardO_some h
          obtain ⟨gd, h⟩ := h
          cases h
          rw [Bool.and_eq_true] at gd
          have gl := of_decide_eq_true gd.1
          exact snd_par g h1 h2 gl.1 gl.2 gd.2
        · replace h := guardO_some h
          obtain ⟨gd, h⟩ := h
          obtain ⟨t, h1, h⟩ := Option.bind_eq_some_iff.mp h
          obtain ⟨ie, h2, h⟩ := Option.map_eq_some_iff.mp h
          cases h
          exact x_asg ((SE.e sc X g.g _ ie h2).1 false) (cTg_sound g.g.hN g.g.nd g.g.calm g.sto n _ t h1).2 sw_tup (swp_spec g.g.scp g.g.kind (eq_of_beq gd)) rfl
      · rename_i hne
        obtain ⟨t, h1, h⟩ := Option.bind_eq_some_iff.mp h
        obtain ⟨ie, h2, h⟩ := Option.map_eq_some_iff.mp h
        cases h
        exact x_asg ((SE.e sc X g.g e ie h2).1 false) (cTg_sound g.g.hN g.g.nd g.g.calm g.sto n _ t h1).2 sw_tup (sws_plain fun vs k p z => hne _ _ _ z) rfl
    · rename_i x px k p2
      replace h := guardO_some h
      obtain ⟨gd, h⟩ := h
      rw [Bool.and_eq_true, Bool.and_eq_true] at gd
      obtain ⟨i, h1, h⟩ := Option.bind_eq_some_iff.mp h
      obtain ⟨ie, h2, h⟩ := Option.bind_eq_some_iff.mp h
      obtain ⟨ik, h3, h⟩ := Option.map_eq_some_iff.mp h
      cases h
      exact x_setix ((SE.e sc X g.g e ie h2).1 false) (g.g.var gd.1.1 gd.1.2 h1) ((SE.e sc X g.g k ik h3).1 true) (fun v => by cases k <;> first | rfl | cases gd.2) sw_sub sws_sub rfl
    · cases h
  | Expr e pos =>
    rw [cSt.eq_def] at h
    dsimp only at h
    split at h
    · rename_i x px at' apos a cpos
      replace h := guardO_some h
      obtain ⟨gd, h⟩ := h
      simp only [Bool.and_eq_true, decide_eq_true_eq] at gd
      obtain ⟨⟨⟨⟨g1, g2⟩, g3⟩, e4⟩, g5⟩ := gd
      subst e4
      replace h := Option.bind_eq_some_iff.mp h
      obtain ⟨i, h1, h⟩ := h
      exact snd_app g g1 g2 g3 g5 h1 h
    · cases h
  | If e a b pos =>
    rw [cSt.eq_def] at h
    dsimp only at h
    obtain ⟨ie, h1, h⟩ := Option.bind_eq_some_iff.mp h
    obtain ⟨ia, h2, h⟩ := Option.bind_eq_some_iff.mp h
    obtain ⟨ib, h3, h⟩ := Option.map_eq_some_iff.mp h
    cases h
    exact x_if (SE.t sc X g.g e ie h1) (S.b sc X g a ia h2) (S.b sc X g b ib h3)
  | While e a b pos =>
    rw [cSt.eq_def] at h
    dsimp only at h
    split at h
    · obtain ⟨ie, h1, h⟩ := Option.bind_eq_some_iff.mp h
      obtain ⟨ia, h2, h⟩ := Option.map_eq_some_iff.mp h
      cases h
      exact x_while (nev g) (SE.t sc X g.g e ie h1) (S.b sc X g a ia h2)
    · cases h
  | For tg it a b pos =>
    rw [cSt.eq_def] at h
    dsimp only at h
    split at h
    · replace h := guardO_some h
      obtain ⟨gd, h⟩ := h
      obtain ⟨t, h1, h⟩ := Option.bind_eq_some_iff.mp h
      obtain ⟨⟨sk, ses⟩, h2, h⟩ := Option.bind_eq_some_iff.mp h
      obtain ⟨ia, h3, h⟩ := Option.map_eq_some_iff.mp h
      cases h
      exact x_for (nev g) g.g.calm (SE.s sc X g.g tg it _ h2) (cTg_sound g.g.hN g.g.nd g.g.calm g.sto n _ t h1).2 (S.b sc X g a ia h3) (folded_of gd)
    · cases h
  | Return e pos =>
    rw [cSt.eq_def] at h
    dsimp only at h
    split at h
    · rename_i e
      obtain ⟨ie, h1, h⟩ := Option.map_eq_some_iff.mp h
      cases h
      have he := SE.e sc X g.g e ie h1
      cases hv : isV ie with
      | false => exact x_ret hv (he.1 false)
      | true =>
        cases ie with
        | v i => exact x_retv (he.2 i rfl)
        | _ => cases hv
    · cases h; exact x_retN
  | Pass pos => rw [cSt.eq_def] at h; cases h; exact x_pass
  | Break pos => rw [cSt.eq_def] at h; cases h; exact x_break
  | Continue pos => rw [cSt.eq_def] at h; cases h; exact x_cont
  | _ => rw [cSt.eq_def] at h; cases h
theorem sndS_all : ∀ n, SndS c Γ lev fuel n
  | 0 => ⟨fun sc X g s vs is h => (by rw [cSt.eq_def] at h; cases h), fun sc X g ss iss h => (by rw [cSts.eq_def] at h; cases h)⟩
  | n + 1 => ⟨fun sc X g => snd_st (sndS_all n) g, fun sc X g => snd_sts (sndS_all n) g⟩
end
end FF

set_option Elab.async false
set_option linter.all false
set_option maxRecDepth 100000
set_option maxHeartbeats 8000000
/-! FF18: a def of the text keeps the promise of its image. -/
namespace FF
open PySem PySem.Spec PyProof.Rows L2
section
theorem args_slots {K : Fg} {B : Addr → Prop} {st : Option Addr} {H : Hp} {B0 : Addr → Prop} (hB : ∀ p, badOf B0 st (fun _ => none) p → B p) : ∀ {as : List Arg} {vs : List V}, Args K B st H as vs → ∀ i s, (bindA as)[i]? = some s → SlotOk K (badOf B0 st fun _ => none) st (fun _ => none) H i (vs.map some)[i]? s
  | [], _, _, i, s, e => by simp [bindA] at e
  | a :: as, vs, h, 0, s, e => by
    cases a with
    | d x =>
      obtain ⟨v, r, rfl, h1, _⟩ := h
      simp [bindA] at e
      subst e
      exact ⟨v, rfl, Rep.less (fun p _ z => hB p z) _ _ h1⟩
    | st =>
      obtain ⟨p, r, rfl, h1, _⟩ := h
      simp [bindA] at e
      subst e
      exact ⟨p, h1, rfl⟩
    | scr =>
      obtain ⟨v, r, rfl, h1, _⟩ := h
      simp [bindA] at e
      subst e
      exact ⟨v, rfl, h1⟩
  | a :: as, vs, h, i + 1, s, e => by
    have k : ∀ {v : V} {r : List V}, vs = v :: r → Args K B st H as r → (bindA as)[i]? = some s → SlotOk K (badOf B0 st fun _ => none) st (fun _ => none) H (i + 1) (vs.map some)[i + 1]? s := fun e1 h1 e2 => by
      have := args_slots hB h1 i s e2
      rw [e1, List.map_cons, List.getElem?_cons_succ]
      cases s <;> exact this
    cases a with
    | d x => obtain ⟨v, r, e1, _, h1⟩ := h; exact k e1 h1 (by simpa [bindA] using e)
    | st => obtain ⟨p, r, e1, _, h1⟩ := h; exact k e1 h1 (by simpa [bindA] using e)
    | scr => obtain ⟨v, r, e1, _, h1⟩ := h; exact k e1 h1 (by simpa [bindA] using e)
theorem bindA_len : ∀ {as : List Arg}, (bindA as).length = as.length
  | [] => rfl
  | .d _ :: as => congrArg (· + 1) bindA_len
  | .st :: as => congrArg (· + 1) bindA_len
  | .scr :: as => congrArg (· + 1) bindA_len
/-- at the entry -/
theorem rel_start {K : Fg} {B : Addr → Prop} {st : Option Addr} {H : Hp} (G : Gd B st H) {as : List Arg} {vs : List V} (h : Args K B st H as vs) {N : List Str} {x : Nat} (hx : N.length = as.length + x) :
    Rel K (fun p => B p ∧ st ≠ some p) st (fun _ => none) (bindA as ++ List.replicate x .no) (L2.start N vs) H := by
  have hl := h.length
  have hB : ∀ p, badOf (fun p => B p ∧ st ≠ some p) st (fun _ => none) p → B p := fun p z => by
    rcases z with z | z | ⟨i, z⟩
    · exact z.1
    · exact G.stb p z
    · cases z
  refine ⟨?_, fun i s e => ?_, fun i p z => (by cases z), fun i p z => (by cases z), fun i j p z => (by cases z), fun p z => G.dom p z.1, fun p z k => k.2 z, G.sok⟩
  · unfold L2.start
    rw [List.length_append, List.length_append, List.length_replicate, List.length_replicate, List.length_map, bindA_len, hl, hx]
    omega
  · by_cases hi : i < as.length
    · rw [List.getElem?_append_left (by rw [bindA_len]; exact hi)] at e
      have := args_slots hB h i s e
      unfold L2.start
      rw [List.getElem?_append_left (by rw [List.length_map, hl]; exact hi)]
      exact this
    · rw [List.getElem?_append_right (by rw [bindA_len]; omega), List.getElem?_replicate] at e
      split at e
      · cases e; trivial
      · cases e
theorem run_ok {K : Fg} {B : Addr → Prop} {st : Option Addr} {H : Hp} (G : Gd B st H) {as : List Arg} {vs : List V} (h : Args K B st H as vs) {N : List Str} {x : Nat} (hx : N.length = as.length + x) {Γ : Sem} {b : List S} {Q : VK} (q : (run Γ b x as).all fun r => Fin K B st false r H Q) :
    tSs K Γ b { nx := fun _ H' => Q .non H', rt := Q } (L2.start N vs) H := by
  refine ⟨_, st, _, _, rel_start G h hx, ?_⟩
  unfold run at q
  refine T.all_mono (fun r hr => ?_) (T.all_bind.mp q)
  have mu : ∀ p, Mu st (fun _ => none) (bindA as ++ List.replicate x .no) p → Cs st p := fun p z => by
    rcases z with z | ⟨i, d, z, _⟩
    · exact z
    · cases z
  have hB : ∀ p, B p → (B p ∧ st ≠ some p) ∨ st = some p := fun p z => by
    by_cases k : st = some p
    · exact .inr k
    · exact .inl ⟨z, k⟩
  obtain ⟨f, ρ'⟩ := r
  cases f with
  | nx =>
    have hr : Fin K B st false (.non, false) H Q := hr
    intro fp' σ' H' R a l
    exact hr .non H' (a.ch.mono mu) R.sok (.of G.stb rfl)
  | bk => exact hr.elim
  | ct => exact hr.elim
  | rt r =>
    have hr : Fin K B st false r H Q := hr
    intro v H' c th S ro
    refine hr v H' (c.mono mu) S ?_
    unfold RetOk at ro
    unfold Res
    split at ro
    · rename_i e
      rw [if_pos e]
      obtain ⟨xs, p, us, e1, e2, hn, nb, ns, hp, hl, re⟩ := ro
      have hn : H p = none := by
        rcases hn with z | ⟨i, z⟩
        · exact z
        · cases z
      refine ⟨xs, p, us, e1, e2, hn, fun z => ?_, hp, hl, Reps.less (fun q _ z => ?_) _ _ re⟩
      · obtain ⟨o, w⟩ := G.dom p z; rw [hn] at w; cases w
      · rcases z with z | z
        · exact .inl (hB q z)
        · exact .inr z
    · rename_i e
      rw [if_neg e, if_neg Bool.false_ne_true]
      exact Rep.less (fun q _ z => hB q z) _ _ ro
/-- THE RULE: a def of the text, its image b -/
theorem fn_ok {P : Program} {w : World} {K : Fg} {mg : Str → Option Value} {base : Heap} {x qual : Str} {st : Stmt} {f : Addr} {fd : FuncData} {ps : List Str} {k n ex fuel : Nat} {c : Cfg} {Γ : Sem} {b : List S}
    (F : Fun K x qual st f fd) (S : FnScope c.N ps (defScope st)) (X : Facts c Γ k P w K mg base) (hb : cSts c fuel n (defScope st) (defBody st) = some b) (hx : c.N.length = ps.length + ex) :
    FnOk P w K mg base CX0 (k + 1) f fd ps (spF K ps.length (run Γ b ex)) := by
  refine Fun.ok F S (fun vs H Q E h => h.1) fun cdv A outer s H vs Q E room h => ?_
  obtain ⟨hl, B, st', as, G, ha, q⟩ := h
  have g : GoodS c Γ k (defScope st) (cxOf CX0 P w K mg base c.N qual (defScope st) f cdv A outer s H E).nox := ⟨⟨rfl, S.nd, rfl, S.kind, rfl, rfl, room, X⟩, fun _ => rfl⟩
  exact ⟨_, (sndS_all n).b _ _ g _ b hb, run_ok G ha (by rw [hx, ← hl, ha.length]) q⟩
end
end FF

set_option Elab.async false
set_option linter.all false
set_option maxRecDepth 100000
set_option maxHeartbeats 8000000
/-! FF19: helps for the def that draws. -/
namespace FF
open PySem PySem.Spec PyProof.Rows L2
theorem op_mulK {X : Cx} : OpR X (binaryOp .Mult) (rI IntMulOk fun i j => .int (i * j)) := opI fun _ _ _ _ _ _ _ hc q => mul_int q hc
theorem op_fdivK {X : Cx} : OpR X (binaryOp .FloorDiv) (rI (fun _ j => j ≠ 0 ∧ j.natAbs.log2 < 9000) fun i j => .int (i.fdiv j)) := opI fun _ _ _ _ _ _ _ hc q => floordiv_int hc.1 q (.inl (PyProof.noPylong_of_log2 hc.2))
/-- the def that fills: some int, the heap as it was -/
def spRefill (K : Fg) : Sp := fun vs H Q _ => ∃ (w : V) (k : Int), vs = [w, .int k] ∧ Scr K H w ∧ ∀ r : Int, Q (.int r) H
theorem Scr.seq {K : Fg} {H : Hp} {w : V} (h : Scr K H w) : ∃ (a : Addr) (ns : List Int), w = .ref a ∧ SqL K H a (ns.map V.int) := by
  obtain ⟨a, ns, e, l, h | h⟩ := h
  · obtain ⟨o, h⟩ := h
    exact ⟨a, ns, e, .inl (.inr ⟨o, h⟩)⟩
  · exact ⟨a, ns, e, h H⟩
theorem atI_mod {ns : List Int} (k : Int) (h : ns ≠ []) : ∃ i, atI (ns.map V.int) (k.fmod ((ns.map V.int).length : Int)) = some (.int i) := by
  have hl : 0 < ns.length := List.length_pos_iff.mpr h
  rw [List.length_map]
  have h1 : 0 ≤ k.fmod (ns.length : Int) := by rw [Int.fmod_eq_emod_of_nonneg _ (by omega)]; exact Int.emod_nonneg _ (by omega)
  have h2 : k.fmod (ns.length : Int) < ns.length := by rw [Int.fmod_eq_emod_of_nonneg _ (by omega)]; exact Int.emod_lt_of_pos _ (by omega)
  obtain ⟨j, hj⟩ := Int.eq_ofNat_of_zero_le h1
  rw [hj] at h2 ⊢
  have hj2 : j < ns.length := by omega
  exact ⟨ns[j], atI_nat (by rw [List.getElem?_map, List.getElem?_eq_getElem hj2]; rfl)⟩
theorem mulK_r {i j : Int} (h : j.natAbs < 2 ^ 64) : IntMulOk i j := .of_right (bits_le h)
theorem mulK_l {i j : Int} (h : i.natAbs < 2 ^ 64) : IntMulOk i j := .of_left (bits_le h)
end FF

set_option Elab.async false
set_option linter.all false
set_option maxRecDepth 100000
set_option maxHeartbeats 8000000
/-! FF20: equality of images, by a Bool. -/
namespace FF
mutual
def eqDB : D → D → Bool
  | .non , .non  => true
  | .bl a0, .bl b0 => decide (a0 = b0)
  | .int a0, .int b0 => decide (a0 = b0)
  | .str a0, .str b0 => decide (a0 = b0)
  | .lst a0, .lst b0 => eqDsB a0 b0
  | .tup a0, .tup b0 => eqDsB a0 b0
  | .dic a0 a1, .dic b0 b1 => eqDsB a0 b0 && eqDsB a1 b1
  | _, _ => false
def eqDsB : List D → List D → Bool
  | [], [] => true
  | a :: r, b :: s => eqDB a b && eqDsB r s
  | _, _ => false
end
mutual
theorem eqDB_eq : ∀ a b : D, eqDB a b = true → a = b
  | .non , b, h => by
    cases b with
    | non => rfl
    | _ => simp [eqDB] at h
  | .bl a0, b, h => by
    cases b with
    | bl b0 =>
      simp only [eqDB, Bool.and_eq_true, decide_eq_true_eq] at h
      have h0 := h
      rw [h0]
    | _ => simp [eqDB] at h
  | .int a0, b, h => by
    cases b with
    | int b0 =>
      simp only [eqDB, Bool.and_eq_true, decide_eq_true_eq] at h
      have h0 := h
      rw [h0]
    | _ => simp [eqDB] at h
  | .str a0, b, h => by
    cases b with
    | str b0 =>
      simp only [eqDB, Bool.and_eq_true, decide_eq_true_eq] at h
      have h0 := h
      rw [h0]
    | _ => simp [eqDB] at h
  | .lst a0, b, h => by
    cases b with
    | lst b0 =>
      simp only [eqDB, Bool.and_eq_true, decide_eq_true_eq] at h
      have h0 := h
      rw [eqDsB_eq _ _ h0]
    | _ => simp [eqDB] at h
  | .tup a0, b, h => by
    cases b with
    | tup b0 =>
      simp only [eqDB, Bool.and_eq_true, decide_eq_true_eq] at h
      have h0 := h
      rw [eqDsB_eq _ _ h0]
    | _ => simp [eqDB] at h
  | .dic a0 a1, b, h => by
    cases b with
    | dic b0 b1 =>
      simp only [eqDB, Bool.and_eq_true, decide_eq_true_eq] at h
      obtain ⟨h0, h1⟩ := h
      rw [eqDsB_eq _ _ h0, eqDsB_eq _ _ h1]
    | _ => simp [eqDB] at h
theorem eqDsB_eq : ∀ a b : List D, eqDsB a b = true → a = b
  | [], [], _ => rfl
  | a :: r, b :: s, h => by
    simp only [eqDsB, Bool.and_eq_true] at h
    rw [eqDB_eq _ _ h.1, eqDsB_eq _ _ h.2]
  | [], _ :: _, h => by simp [eqDsB] at h
  | _ :: _, [], h => by simp [eqDsB] at h
end
mutual
def eqTgB : Tg → Tg → Bool
  | .nm a0, .nm b0 => decide (a0 = b0)
  | .tup a0, .tup b0 => eqTgsB a0 b0
  | _, _ => false
def eqTgsB : List Tg → List Tg → Bool
  | [], [] => true
  | a :: r, b :: s => eqTgB a b && eqTgsB r s
  | _, _ => false
end
mutual
theorem eqTgB_eq : ∀ a b : Tg, eqTgB a b = true → a = b
  | .nm a0, b, h => by
    cases b with
    | nm b0 =>
      simp only [eqTgB, Bool.and_eq_true, decide_eq_true_eq] at h
      have h0 := h
      rw [h0]
    | _ => simp [eqTgB] at h
  | .tup a0, b, h => by
    cases b with
    | tup b0 =>
      simp only [eqTgB, Bool.and_eq_true, decide_eq_true_eq] at h
      have h0 := h
      rw [eqTgsB_eq _ _ h0]
    | _ => simp [eqTgB] at h
theorem eqTgsB_eq : ∀ a b : List Tg, eqTgsB a b = true → a = b
  | [], [], _ => rfl
  | a :: r, b :: s, h => by
    simp only [eqTgsB, Bool.and_eq_true] at h
    rw [eqTgB_eq _ _ h.1, eqTgsB_eq _ _ h.2]
  | [], _ :: _, h => by simp [eqTgsB] at h
  | _ :: _, [], h => by simp [eqTgsB] at h
end
mutual
def eqEB : E → E → Bool
  | .c a0, .c b0 => eqDB a0 b0
  | .g a0 a1, .g b0 b1 => decide (a0 = b0) && eqDB a1 b1
  | .v a0, .v b0 => decide (a0 = b0)
  | .bin a0 a1 a2, .bin b0 b1 b2 => decide (a0 = b0) && eqEB a1 b1 && eqEB a2 b2
  | .neg a0, .neg b0 => eqEB a0 b0
  | .cmp a0 a1 a2, .cmp b0 b1 b2 => decide (a0 = b0) && eqEB a1 b1 && eqEB a2 b2
  | .chain a0 a1 a2 a3 a4, .chain b0 b1 b2 b3 b4 => decide (a0 = b0) && decide (a1 = b1) && eqEB a2 b2 && eqEB a3 b3 && eqEB a4 b4
  | .nt a0, .nt b0 => eqEB a0 b0
  | .and2 a0 a1, .and2 b0 b1 => eqEB a0 b0 && eqEB a1 b1
  | .or2 a0 a1, .or2 b0 b1 => eqEB a0 b0 && eqEB a1 b1
  | .tr a0, .tr b0 => eqEB a0 b0
  | .ite a0 a1 a2, .ite b0 b1 b2 => eqEB a0 b0 && eqEB a1 b1 && eqEB a2 b2
  | .tup a0, .tup b0 => eqEsB a0 b0
  | .lst a0, .lst b0 => eqEsB a0 b0
  | .ix a0 a1, .ix b0 b1 => eqEB a0 b0 && eqEB a1 b1
  | .sl a0 a1 a2, .sl b0 b1 b2 => eqEB a0 b0 && eqEsB a1 b1 && eqEsB a2 b2
  | .rev a0, .rev b0 => eqEB a0 b0
  | .call a0 a1, .call b0 b1 => decide (a0 = b0) && eqEsB a1 b1
  | .bi a0 a1, .bi b0 b1 => decide (a0 = b0) && eqEsB a1 b1
  | .isi a0 a1, .isi b0 b1 => eqEB a0 b0 && decide (a1 = b1)
  | .comp a0 a1 a2 a3 a4, .comp b0 b1 b2 b3 b4 => eqTgB a0 b0 && decide (a1 = b1) && eqEsB a2 b2 && eqEsB a3 b3 && eqEB a4 b4
  | .comp2 a0 a1 a2 a3 a4 a5 a6 a7 a8, .comp2 b0 b1 b2 b3 b4 b5 b6 b7 b8 => eqTgB a0 b0 && decide (a1 = b1) && eqEsB a2 b2 && eqEsB a3 b3 && eqTgB a4 b4 && decide (a5 = b5) && eqEsB a6 b6 && eqEsB a7 b7 && eqEB a8 b8
  | .draw a0 a1 a2, .draw b0 b1 b2 => decide (a0 = b0) && decide (a1 = b1) && eqEB a2 b2
  | .dget a0 a1 a2, .dget b0 b1 b2 => eqEB a0 b0 && eqEB a1 b1 && eqEsB a2 b2
  | .index a0 a1, .index b0 b1 => eqEB a0 b0 && eqEB a1 b1
  | .join a0 a1, .join b0 b1 => eqEB a0 b0 && eqEB a1 b1
  | .dict a0 a1, .dict b0 b1 => eqEsB a0 b0 && eqEsB a1 b1
  | _, _ => false
def eqEsB : List E → List E → Bool
  | [], [] => true
  | a :: r, b :: s => eqEB a b && eqEsB r s
  | _, _ => false
end
mutual
theorem eqEB_eq : ∀ a b : E, eqEB a b = true → a = b
  | .c a0, b, h => by
    cases b with
    | c b0 =>
      simp only [eqEB, Bool.and_eq_true, decide_eq_true_eq] at h
      have h0 := h
      rw [eqDB_eq _ _ h0]
    | _ => simp [eqEB] at h
  | .g a0 a1, b, h => by
    cases b with
    | g b0 b1 =>
      simp only [eqEB, Bool.and_eq_true, decide_eq_true_eq] at h
      obtain ⟨h0, h1⟩ := h
      rw [h0, eqDB_eq _ _ h1]
    | _ => simp [eqEB] at h
  | .v a0, b, h => by
    cases b with
    | v b0 =>
      simp only [eqEB, Bool.and_eq_true, decide_eq_true_eq] at h
      have h0 := h
      rw [h0]
    | _ => simp [eqEB] at h
  | .bin a0 a1 a2, b, h => by
    cases b with
    | bin b0 b1 b2 =>
      simp only [eqEB, Bool.and_eq_true, decide_eq_true_eq] at h
      obtain ⟨⟨h0, h1⟩, h2⟩ := h
      rw [h0, eqEB_eq _ _ h1, eqEB_eq _ _ h2]
    | _ => simp [eqEB] at h
  | .neg a0, b, h => by
    cases b with
    | neg b0 =>
      simp only [eqEB, Bool.and_eq_true, decide_eq_true_eq] at h
      have h0 := h
      rw [eqEB_eq _ _ h0]
    | _ => simp [eqEB] at h
  | .cmp a0 a1 a2, b, h => by
    cases b with
    | cmp b0 b1 b2 =>
      simp only [eqEB, Bool.and_eq_true, decide_eq_true_eq] at h
      obtain ⟨⟨h0, h1⟩, h2⟩ := h
      rw [h0, eqEB_eq _ _ h1, eqEB_eq _ _ h2]
    | _ => simp [eqEB] at h
  | .chain a0 a1 a2 a3 a4, b, h => by
    cases b with
    | chain b0 b1 b2 b3 b4 =>
      simp only [eqEB, Bool.and_eq_true, decide_eq_true_eq] at h
      obtain ⟨⟨⟨⟨h0, h1⟩, h2⟩, h3⟩, h4⟩ := h
      rw [h0, h1, eqEB_eq _ _ h2, eqEB_eq _ _ h3, eqEB_eq _ _ h4]
    | _ => simp [eqEB] at h
  | .nt a0, b, h => by
    cases b with
    | nt b0 =>
      simp only [eqEB, Bool.and_eq_true, decide_eq_true_eq] at h
      have h0 := h
      rw [eqEB_eq _ _ h0]
    | _ => simp [eqEB] at h
  | .and2 a0 a1, b, h => by
    cases b with
    | and2 b0 b1 =>
      simp only [eqEB, Bool.and_eq_true, decide_eq_true_eq] at h
      obtain ⟨h0, h1⟩ := h
      rw [eqEB_eq _ _ h0, eqEB_eq _ _ h1]
    | _ => simp [eqEB] at h
  | .or2 a0 a1, b, h => by
    cases b with
    | or2 b0 b1 =>
      simp only [eqEB, Bool.and_eq_true, decide_eq_true_eq] at h
      obtain ⟨h0, h1⟩ := h
      rw [eqEB_eq _ _ h0, eqEB_eq _ _ h1]
    | _ => simp [eqEB] at h
  | .tr a0, b, h => by
    cases b with
    | tr b0 =>
      simp only [eqEB, Bool.and_eq_true, decide_eq_true_eq] at h
      have h0 := h
      rw [eqEB_eq _ _ h0]
    | _ => simp [eqEB] at h
  | .ite a0 a1 a2, b, h => by
    cases b with
    | ite b0 b1 b2 =>
      simp only [eqEB, Bool.and_eq_true, decide_eq_true_eq] at h
      obtain ⟨⟨h0, h1⟩, h2⟩ := h
      rw [eqEB_eq _ _ h0, eqEB_eq _ _ h1, eqEB_eq _ _ h2]
    | _ => simp [eqEB] at h
  | .tup a0, b, h => by
    cases b with
    | tup b0 =>
      simp only [eqEB, Bool.and_eq_true, decide_eq_true_eq] at h
      have h0 := h
      rw [eqEsB_eq _ _ h0]
    | _ => simp [eqEB] at h
  | .lst a0, b, h => by
    cases b with
    | lst b0 =>
      simp only [eqEB, Bool.and_eq_true, decide_eq_true_eq] at h
      have h0 := h
      rw [eqEsB_eq _ _ h0]
    | _ => simp [eqEB] at h
  | .ix a0 a1, b, h => by
    cases b with
    | ix b0 b1 =>
      simp only [eqEB, Bool.and_eq_true, decide_eq_true_eq] at h
      obtain ⟨h0, h1⟩ := h
      rw [eqEB_eq _ _ h0, eqEB_eq _ _ h1]
    | _ => simp [eqEB] at h
  | .sl a0 a1 a2, b, h => by
    cases b with
    | sl b0 b1 b2 =>
      simp only [eqEB, Bool.and_eq_true, decide_eq_true_eq] at h
      obtain ⟨⟨h0, h1⟩, h2⟩ := h
      rw [eqEB_eq _ _ h0, eqEsB_eq _ _ h1, eqEsB_eq _ _ h2]
    | _ => simp [eqEB] at h
  | .rev a0, b, h => by
    cases b with
    | rev b0 =>
      simp only [eqEB, Bool.and_eq_true, decide_eq_true_eq] at h
      have h0 := h
      rw [eqEB_eq _ _ h0]
    | _ => simp [eqEB] at h
  | .call a0 a1, b, h => by
    cases b with
    | call b0 b1 =>
      simp only [eqEB, Bool.and_eq_true, decide_eq_true_eq] at h
      obtain ⟨h0, h1⟩ := h
      rw [h0, eqEsB_eq _ _ h1]
    | _ => simp [eqEB] at h
  | .bi a0 a1, b, h => by
    cases b with
    | bi b0 b1 =>
      simp only [eqEB, Bool.and_eq_true, decide_eq_true_eq] at h
      obtain ⟨h0, h1⟩ := h
      rw [h0, eqEsB_eq _ _ h1]
    | _ => simp [eqEB] at h
  | .isi a0 a1, b, h => by
    cases b with
    | isi b0 b1 =>
      simp only [eqEB, Bool.and_eq_true, decide_eq_true_eq] at h
      obtain ⟨h0, h1⟩ := h
      rw [eqEB_eq _ _ h0, h1]
    | _ => simp [eqEB] at h
  | .comp a0 a1 a2 a3 a4, b, h => by
    cases b with
    | comp b0 b1 b2 b3 b4 =>
      simp only [eqEB, Bool.and_eq_true, decide_eq_true_eq] at h
      obtain ⟨⟨⟨⟨h0, h1⟩, h2⟩, h3⟩, h4⟩ := h
      rw [eqTgB_eq _ _ h0, h1, eqEsB_eq _ _ h2, eqEsB_eq _ _ h3, eqEB_eq _ _ h4]
    | _ => simp [eqEB] at h
  | .comp2 a0 a1 a2 a3 a4 a5 a6 a7 a8, b, h => by
    cases b with
    | comp2 b0 b1 b2 b3 b4 b5 b6 b7 b8 =>
      simp only [eqEB, Bool.and_eq_true, decide_eq_true_eq] at h
      obtain ⟨⟨⟨⟨⟨⟨⟨⟨h0, h1⟩, h2⟩, h3⟩, h4⟩, h5⟩, h6⟩, h7⟩, h8⟩ := h
      rw [eqTgB_eq _ _ h0, h1, eqEsB_eq _ _ h2, eqEsB_eq _ _ h3, eqTgB_eq _ _ h4, h5, eqEsB_eq _ _ h6, eqEsB_eq _ _ h7, eqEB_eq _ _ h8]
    | _ => simp [eqEB] at h
  | .draw a0 a1 a2, b, h => by
    cases b with
    | draw b0 b1 b2 =>
      simp only [eqEB, Bool.and_eq_true, decide_eq_true_eq] at h
      obtain ⟨⟨h0, h1⟩, h2⟩ := h
      rw [h0, h1, eqEB_eq _ _ h2]
    | _ => simp [eqEB] at h
  | .dget a0 a1 a2, b, h => by
    cases b with
    | dget b0 b1 b2 =>
      simp only [eqEB, Bool.and_eq_true, decide_eq_true_eq] at h
      obtain ⟨⟨h0, h1⟩, h2⟩ := h
      rw [eqEB_eq _ _ h0, eqEB_eq _ _ h1, eqEsB_eq _ _ h2]
    | _ => simp [eqEB] at h
  | .index a0 a1, b, h => by
    cases b with
    | index b0 b1 =>
      simp only [eqEB, Bool.and_eq_true, decide_eq_true_eq] at h
      obtain ⟨h0, h1⟩ := h
      rw [eqEB_eq _ _ h0, eqEB_eq _ _ h1]
    | _ => simp [eqEB] at h
  | .join a0 a1, b, h => by
    cases b with
    | join b0 b1 =>
      simp only [eqEB, Bool.and_eq_true, decide_eq_true_eq] at h
      obtain ⟨h0, h1⟩ := h
      rw [eqEB_eq _ _ h0, eqEB_eq _ _ h1]
    | _ => simp [eqEB] at h
  | .dict a0 a1, b, h => by
    cases b with
    | dict b0 b1 =>
      simp only [eqEB, Bool.and_eq_true, decide_eq_true_eq] at h
      obtain ⟨h0, h1⟩ := h
      rw [eqEsB_eq _ _ h0, eqEsB_eq _ _ h1]
    | _ => simp [eqEB] at h
theorem eqEsB_eq : ∀ a b : List E, eqEsB a b = true → a = b
  | [], [], _ => rfl
  | a :: r, b :: s, h => by
    simp only [eqEsB, Bool.and_eq_true] at h
    rw [eqEB_eq _ _ h.1, eqEsB_eq _ _ h.2]
  | [], _ :: _, h => by simp [eqEsB] at h
  | _ :: _, [], h => by simp [eqEsB] at h
end
mutual
def eqSB : S → S → Bool
  | .asg a0 a1, .asg b0 b1 => eqTgB a0 b0 && eqEB a1 b1
  | .box a0 a1 a2, .box b0 b1 b2 => decide (a0 = b0) && decide (a1 = b1) && eqEB a2 b2
  | .par a0 a1, .par b0 b1 => decide (a0 = b0) && eqEsB a1 b1
  | .setix a0 a1 a2, .setix b0 b1 b2 => decide (a0 = b0) && eqEB a1 b1 && eqEB a2 b2
  | .app a0 a1, .app b0 b1 => decide (a0 = b0) && eqEB a1 b1
  | .popto a0 a1 a2, .popto b0 b1 b2 => eqTgB a0 b0 && decide (a1 = b1) && eqEsB a2 b2
  | .apppop a0 a1 a2, .apppop b0 b1 b2 => decide (a0 = b0) && decide (a1 = b1) && eqEsB a2 b2
  | .ifs a0 a1 a2, .ifs b0 b1 b2 => eqEB a0 b0 && eqSsB a1 b1 && eqSsB a2 b2
  | .whl a0 a1 a2, .whl b0 b1 b2 => decide (a0 = b0) && eqEB a1 b1 && eqSsB a2 b2
  | .forr a0 a1 a2 a3, .forr b0 b1 b2 b3 => eqTgB a0 b0 && decide (a1 = b1) && eqEsB a2 b2 && eqSsB a3 b3
  | .ret a0, .ret b0 => eqEB a0 b0
  | .retN , .retN  => true
  | .brk , .brk  => true
  | .cont , .cont  => true
  | .pass , .pass  => true
  | .drop a0, .drop b0 => eqEB a0 b0
  | .frz a0, .frz b0 => decide (a0 = b0)
  | _, _ => false
def eqSsB : List S → List S → Bool
  | [], [] => true
  | a :: r, b :: s => eqSB a b && eqSsB r s
  | _, _ => false
end
mutual
theorem eqSB_eq : ∀ a b : S, eqSB a b = true → a = b
  | .asg a0 a1, b, h => by
    cases b with
    | asg b0 b1 =>
      simp only [eqSB, Bool.and_eq_true, decide_eq_true_eq] at h
      obtain ⟨h0, h1⟩ := h
      rw [eqTgB_eq _ _ h0, eqEB_eq _ _ h1]
    | _ => simp [eqSB] at h
  | .box a0 a1 a2, b, h => by
    cases b with
    | box b0 b1 b2 =>
      simp only [eqSB, Bool.and_eq_true, decide_eq_true_eq] at h
      obtain ⟨⟨h0, h1⟩, h2⟩ := h
      rw [h0, h1, eqEB_eq _ _ h2]
    | _ => simp [eqSB] at h
  | .par a0 a1, b, h => by
    cases b with
    | par b0 b1 =>
      simp only [eqSB, Bool.and_eq_true, decide_eq_true_eq] at h
      obtain ⟨h0, h1⟩ := h
      rw [h0, eqEsB_eq _ _ h1]
    | _ => simp [eqSB] at h
  | .setix a0 a1 a2, b, h => by
    cases b with
    | setix b0 b1 b2 =>
      simp only [eqSB, Bool.and_eq_true, decide_eq_true_eq] at h
      obtain ⟨⟨h0, h1⟩, h2⟩ := h
      rw [h0, eqEB_eq _ _ h1, eqEB_eq _ _ h2]
    | _ => simp [eqSB] at h
  | .app a0 a1, b, h => by
    cases b with
    | app b0 b1 =>
      simp only [eqSB, Bool.and_eq_true, decide_eq_true_eq] at h
      obtain ⟨h0, h1⟩ := h
      rw [h0, eqEB_eq _ _ h1]
    | _ => simp [eqSB] at h
  | .popto a0 a1 a2, b, h => by
    cases b with
    | popto b0 b1 b2 =>
      simp only [eqSB, Bool.and_eq_true, decide_eq_true_eq] at h
      obtain ⟨⟨h0, h1⟩, h2⟩ := h
      rw [eqTgB_eq _ _ h0, h1, eqEsB_eq _ _ h2]
    | _ => simp [eqSB] at h
  | .apppop a0 a1 a2, b, h => by
    cases b with
    | apppop b0 b1 b2 =>
      simp only [eqSB, Bool.and_eq_true, decide_eq_true_eq] at h
      obtain ⟨⟨h0, h1⟩, h2⟩ := h
      rw [h0, h1, eqEsB_eq _ _ h2]
    | _ => simp [eqSB] at h
  | .ifs a0 a1 a2, b, h => by
    cases b with
    | ifs b0 b1 b2 =>
      simp only [eqSB, Bool.and_eq_true, decide_eq_true_eq] at h
      obtain ⟨⟨h0, h1⟩, h2⟩ := h
      rw [eqEB_eq _ _ h0, eqSsB_eq _ _ h1, eqSsB_eq _ _ h2]
    | _ => simp [eqSB] at h
  | .whl a0 a1 a2, b, h => by
    cases b with
    | whl b0 b1 b2 =>
      simp only [eqSB, Bool.and_eq_true, decide_eq_true_eq] at h
      obtain ⟨⟨h0, h1⟩, h2⟩ := h
      rw [h0, eqEB_eq _ _ h1, eqSsB_eq _ _ h2]
    | _ => simp [eqSB] at h
  | .forr a0 a1 a2 a3, b, h => by
    cases b with
    | forr b0 b1 b2 b3 =>
      simp only [eqSB, Bool.and_eq_true, decide_eq_true_eq] at h
      obtain ⟨⟨⟨h0, h1⟩, h2⟩, h3⟩ := h
      rw [eqTgB_eq _ _ h0, h1, eqEsB_eq _ _ h2, eqSsB_eq _ _ h3]
    | _ => simp [eqSB] at h
  | .ret a0, b, h => by
    cases b with
    | ret b0 =>
      simp only [eqSB, Bool.and_eq_true, decide_eq_true_eq] at h
      have h0 := h
      rw [eqEB_eq _ _ h0]
    | _ => simp [eqSB] at h
  | .retN , b, h => by
    cases b with
    | retN => rfl
    | _ => simp [eqSB] at h
  | .brk , b, h => by
    cases b with
    | brk => rfl
    | _ => simp [eqSB] at h
  | .cont , b, h => by
    cases b with
    | cont => rfl
    | _ => simp [eqSB] at h
  | .pass , b, h => by
    cases b with
    | pass => rfl
    | _ => simp [eqSB] at h
  | .drop a0, b, h => by
    cases b with
    | drop b0 =>
      simp only [eqSB, Bool.and_eq_true, decide_eq_true_eq] at h
      have h0 := h
      rw [eqEB_eq _ _ h0]
    | _ => simp [eqSB] at h
  | .frz a0, b, h => by
    cases b with
    | frz b0 =>
      simp only [eqSB, Bool.and_eq_true, decide_eq_true_eq] at h
      have h0 := h
      rw [h0]
    | _ => simp [eqSB] at h
theorem eqSsB_eq : ∀ a b : List S, eqSsB a b = true → a = b
  | [], [], _ => rfl
  | a :: r, b :: s, h => by
    simp only [eqSsB, Bool.and_eq_true] at h
    rw [eqSB_eq _ _ h.1, eqSsB_eq _ _ h.2]
  | [], _ :: _, h => by simp [eqSsB] at h
  | _ :: _, [], h => by simp [eqSsB] at h
end
def eqO (o : Option (List S)) (b : List S) : Bool := match o with
  | some a => eqSsB a b
  | none => false
theorem eqO_eq {o : Option (List S)} {b : List S} (h : eqO o b = true) : o = some b := by
  cases o with
  | none => cases h
  | some a => rw [eqSsB_eq a b h]
end FF

set_option Elab.async false
set_option linter.all false
set_option maxRecDepth 100000
set_option maxHeartbeats 8000000
/-! FF21: what stands behind the top, the law's def. -/
namespace FF
open PySem PySem.Spec PyProof.Rows L2
/-- a def of the text stands behind the top -/
def Stand (K : Fg) (mg : Str → Option Value) (x : Str) (st : Stmt) (ps : List Str) : Prop := ∃ f fd, Fun K x x st f fd ∧ mg x = some (.ref f) ∧ Binds K fd ps []
def Have (P : Program) (w : World) (K : Fg) (mg : Str → Option Value) (base : Heap) (lev : Nat) (x : Str) (n : Nat) (g : List Arg → T Rs) : Prop :=
  ∃ f fd ps, FnOk P w K mg base CX0 lev f fd ps (spF K n g) ∧ mg x = some (.ref f) ∧ PySem.W.keepIn K (.ref f) = true ∧ Binds K fd ps []
def HaveDr (P : Program) (w : World) (K : Fg) (mg : Str → Option Value) (base : Heap) (lev : Nat) : Prop :=
  ∃ f fd ps, FnOk P w K mg base CX0 lev f fd ps (spDraw K) ∧ mg "_law_draw" = some (.ref f) ∧ PySem.W.keepIn K (.ref f) = true ∧ Binds K fd ps []
section
variable {P : Program} {w : World} {K : Fg} {mg : Str → Option Value} {base : Heap} {lev : Nat}
theorem Have.mono {x : Str} {n : Nat} {g : List Arg → T Rs} {l2 : Nat} (h : Have P w K mg base lev x n g) (le : lev ≤ l2) : Have P w K mg base l2 x n g := by
  obtain ⟨f, fd, ps, a, b⟩ := h
  exact ⟨f, fd, ps, a.mono le, b⟩
theorem HaveDr.mono {l2 : Nat} (h : HaveDr P w K mg base lev) (le : lev ≤ l2) : HaveDr P w K mg base l2 := by
  obtain ⟨f, fd, ps, a, b⟩ := h
  exact ⟨f, fd, ps, a.mono le, b⟩
theorem stand_mk {h : Heap} {x : Str} {st : Stmt} {ps : List Str} (X : K.In h) (G : h.Ns mainGlobals mg) {f : Addr} {od an : Option Addr} {sl : Array (Option Value)} {oc kV dc pm cd ct : Value}
    (hb : ∀ (kV doc pm : Value) (an : Option Addr) (cdv ct : Value) (us : List Value), us.length = ps.length → bindArgs (PySem.W.fnOf x x (defArgs st) (defBody st) (defScope st) .none kV doc pm an cdv ct) ⟨us, []⟩ = pure (ps.zip us))
    (a : PySem.W.nsIn K mainGlobals x = some (some (.ref f))) (l : K.lookup f = some ⟨oc, od, .func (PySem.W.fnOf x x (defArgs st) (defBody st) (defScope st) .none kV dc pm an cd ct), sl⟩) (c : PySem.W.codeIn K cd x = true) (k : PySem.W.keepIn K (.ref f) = true) : Stand K mg x st ps :=
  ⟨f, _, fun_mk l c k, PySem.W.mg_of X G a, (fun_mk l c k).binds hb⟩
theorem have_err {x : Str} {st : Stmt} {ps : List Str} (F : Stand K mg x st ps) : Have P w K mg base 0 x ps.length (fun _ => .err) := by
  obtain ⟨f, fd, F, hm, hb⟩ := F
  refine ⟨f, fd, ps, ⟨fun vs H Q E h => h.1, fun A outer s H args us vs Q E hr e b v h => ?_⟩, hm, F.kp, hb⟩
  obtain ⟨_, _, _, _, _, _, z⟩ := h
  exact z.elim
theorem have_fn {x : Str} {st : Stmt} {ps : List Str} {n ex fuel : Nat} {c : Cfg} {Γ : Sem} {b : List S} (F : Stand K mg x st ps) (S : FnScope c.N ps (defScope st)) (hb : cSts c fuel n (defScope st) (defBody st) = some b) (hx : c.N.length = ps.length + ex) (X : Facts c Γ lev P w K mg base) :
    Have P w K mg base (lev + 1) x ps.length (run Γ b ex) := by
  obtain ⟨f, fd, F, hm, hbd⟩ := F
  exact ⟨f, fd, ps, fn_ok F S X hb hx, hm, F.kp, hbd⟩
/-- each name of the list is had -/
def Haves (P : Program) (w : World) (K : Fg) (mg : Str → Option Value) (base : Heap) (lev : Nat) (Γ : Sem) : List (Str × Nat × Nat) → Prop
  | [] => True
  | (x, k, n) :: r => Have P w K mg base lev x n (Γ k) ∧ Haves P w K mg base lev Γ r
theorem Haves.get {Γ : Sem} {x : Str} {k n : Nat} : ∀ {l : List (Str × Nat × Nat)}, Haves P w K mg base lev Γ l → l.lookup x = some (k, n) → Have P w K mg base lev x n (Γ k)
  | (y, j, m) :: r, h, e => by
    rw [List.lookup_cons] at e
    split at e
    · rename_i q
      cases e
      rw [eq_of_beq q]; exact h.1
    · exact Haves.get h.2 e
def Cons (K : Fg) (mg : Str → Option Value) : List (Str × Nat × D) → Prop
  | [] => True
  | (x, _, d) :: r => (∃ u v, mg x = some u ∧ RelV v u ∧ ∀ B H, Rep K B H d v) ∧ Cons K mg r
theorem Cons.get {x : Str} {k : Nat} {d : D} : ∀ {l : List (Str × Nat × D)}, Cons K mg l → l.lookup x = some (k, d) → ∃ u v, mg x = some u ∧ RelV v u ∧ ∀ B H, Rep K B H d v
  | (y, j, m) :: r, h, e => by
    rw [List.lookup_cons] at e
    split at e
    · rename_i q
      cases e
      rw [eq_of_beq q]; exact h.1
    · exact Cons.get h.2 e
def NoneAll (mg : Str → Option Value) : List Str → Prop
  | [] => True
  | x :: r => mg x = none ∧ NoneAll mg r
theorem NoneAll.get {x : Str} : ∀ {l : List Str}, NoneAll mg l → x ∈ l → mg x = none
  | y :: r, h, e => by
    rcases List.mem_cons.mp e with rfl | e
    · exact h.1
    · exact NoneAll.get h.2 e
theorem facts_mk {c : Cfg} {Γ : Sem} (hf : Haves P w K mg base lev Γ c.fns) (hc : Cons K mg c.cns) (hb : NoneAll mg biNames) (hg : c.gcd = true → mg "gcd" = some (.builtin "math.gcd")) (hd : HaveDr P w K mg base lev) : Facts c Γ lev P w K mg base :=
  ⟨fun x k n h => hf.get h, fun x k d h => hc.get h, fun x h => hb.get h, hg, hd⟩
/-- the law's promise -/
def spL (K : Fg) : Sp := fun vs H Q _ => ∃ w, vs = [w] ∧ Scr K H w ∧ ∀ H', Q (.bl true) H'
def IsT (r : Xs) : Prop := r.1 = .rt (.bl true, false)
def lawT (Γ : Sem) (b : List S) (n : Nat) : T Xs := execs Γ b (.scr :: .st :: List.replicate n .no)
theorem scr_of {H : Hp} {a : Addr} {ns : List Int} (hl : ns.length ≤ 63) (hO : Only H) (h : SqL K H a (ns.map V.int)) : Scr K H (.ref a) := by
  refine ⟨a, ns, rfl, hl, ?_⟩
  rcases h with (h | ⟨o, h⟩) | h
  · rcases hO a with z | ⟨o, xs, z⟩ <;> rw [h] at z <;> cases z
  · exact .inl ⟨o, h⟩
  · exact .inr fun _ => .inr h
theorem law_ok {w' : World} {x qual : Str} {st : Stmt} {f : Addr} {fd : FuncData} {k n ex fuel : Nat} {c : Cfg} {Γ : Sem} {b : List S} {rest : List Stmt} {px p1 p2 p3 pos : Pos} {k1 k2 : Nat} {N' : List Str}
    (F : Fun K x qual st f fd) (S : FnScope c.N ["script"] (defScope st)) (X : Facts c Γ k P w' K mg base) (hN : c.N = ("script" : Str) :: ("state" : Str) :: N') (hx : N'.length = ex) (hs : Loc (defScope st) ("state" : Str))
    (hB : defBody st = .Assign [.Name "state" px] (.List [.Constant (.int 0) k1 p1, .Constant (.int 0) k2 p2] p3) pos :: rest) (hb : cSts c fuel n (defScope st) rest = some b) (law : (lawT Γ b ex).all IsT) :
    FnOk P w' K mg base CX0 (k + 1) f fd ["script"] (spL K) := by
  refine Fun.ok F S (fun vs H Q E h => by obtain ⟨w, rfl, _⟩ := h; rfl) fun cdv A outer s H vs Q E room h => ?_
  obtain ⟨w, rfl, hw, q⟩ := h
  have g : GoodS c Γ k (defScope st) (cxOf CX0 P w' K mg base c.N qual (defScope st) f cdv A outer s H E).nox := ⟨⟨rfl, S.nd, rfl, S.kind, rfl, rfl, room, X⟩, fun _ => rfl⟩
  rw [hB]
  refine ⟨_, pss_cons (ps_set (i := 1) (e := .List [.Constant (.int 0) k1 p1, .Constant (.int 0) k2 p2] p3) S.nd (by show c.N[1]? = _; rw [hN]; rfl) hs (pe_lst (pa_cons pe_int (pa_cons pe_int pa_nil))) rfl (.inl rfl)) ((sndS_all n).b _ _ g _ b hb), ?_⟩
  refine ⟨by rw [sizeLine_eq]; decide, fun p hp => ?_⟩
  have hst : L2.start c.N [w] = some w :: none :: List.replicate ex none := by
    unfold L2.start
    rw [hN, List.length_cons, List.length_cons, hx]
    show some w :: List.replicate (ex + 1 + 1 - 1) none = _
    rw [Nat.add_sub_cancel, List.replicate_succ]
  rw [hst]
  have hsc := hw.ch (Ch.new (C := fun _ => False) (o := .lst [.int 0, .int 0]) hp)
  refine ⟨fun _ => False, some p, fun _ => none, .scr :: .st :: List.replicate ex .no, ⟨?_, fun i s e => ?_, fun i p z => (by cases z), fun i p z => (by cases z), fun i j p z => (by cases z), fun p z => z.elim, fun p _ z => z, fun q z => ?_⟩, T.all_mono (fun r hr => ?_) law⟩
  · show (List.replicate ex Slot.no).length + 1 + 1 = (List.replicate ex none).length + 1 + 1
    rw [List.length_replicate, List.length_replicate]
  · match i, e with
    | 0, e => cases e; exact ⟨w, rfl, hsc⟩
    | 1, e => cases e; exact ⟨p, rfl, rfl⟩
    | i + 2, e =>
      have e : (List.replicate ex Slot.no)[i]? = some s := e
      rw [List.getElem?_replicate] at e
      split at e
      · cases e; trivial
      · cases e
  · cases z
    exact ⟨0, 0, upd_same⟩
  · obtain ⟨f, ρ'⟩ := r
    have hr : f = .rt (.bl true, false) := hr
    subst hr
    intro v H' c1 t1 S1 ro
    have ro : v = .bl true := ro
    rw [ro]
    exact q H'
end
end FF

set_option Elab.async false
set_option linter.all false
set_option maxRecDepth 100000
set_option maxHeartbeats 8000000
/-! FF22: the def that compares exactly. -/
namespace FF
open PySem PySem.Spec PyProof.Rows L2
def i_exact (j : Nat) : List S :=
  [(.ifs (.tr (.isi (.v 0) [.tlist, .ttuple])) [(.ifs (.or2 (.cmp .ne (.isi (.v 0) [.tlist]) (.isi (.v 1) [.tlist])) (.cmp .ne (.isi (.v 0) [.ttuple]) (.isi (.v 1) [.ttuple]))) [(.ret (.c (.bl false)))] []),
    (.ret (.and2 (.cmp .eq (.bi .len [(.v 0)]) (.bi .len [(.v 1)])) (.bi .all [(.comp (.nm 2) .range [(.bi .len [(.v 0)])] [] (.call j [(.ix (.v 0) (.v 2)), (.ix (.v 1) (.v 2))]))])))] []),
    (.ifs (.or2 (.cmp .isN (.v 0) (.c .non)) (.cmp .isN (.v 1) (.c .non))) [(.ret (.and2 (.cmp .isN (.v 0) (.c .non)) (.cmp .isN (.v 1) (.c .non))))] []),
    (.box 3 false (.and2 (.cmp .eq (.isi (.v 0) [.tstr]) (.isi (.v 1) [.tstr])) (.cmp .eq (.isi (.v 0) [.tbool]) (.isi (.v 1) [.tbool])))),
    (.ret (.and2 (.v 3) (.and2 (.cmp .eq (.isi (.v 0) [.tint]) (.isi (.v 1) [.tint])) (.cmp .eq (.v 0) (.v 1)))))]
def r_exact (j : Nat) : Nat → List Arg → T Rs
  | 0 => fun _ => .err
  | n + 1 => run (fun k => if k = j then r_exact j n else fun _ => .err) (i_exact j) 2
section
variable {P : Program} {w : World} {K : Fg} {mg : Str → Option Value} {base : Heap} {lev : Nat}
theorem ok_exact (j : Nat) {st : Stmt} {c : Cfg} {n fuel : Nat} (F : Stand K mg "_law_exact" st ["first", "second"]) (Sc : FnScope c.N ["first", "second"] (defScope st)) (hb : cSts c fuel n (defScope st) (defBody st) = some (i_exact j)) (hN : c.N.length = 4) (hf : c.fns = [(("_law_exact" : Str), j, 2)]) (hc : c.cns = [] ∧ c.gcd = false)
    (nn : NoneAll mg biNames) (hd : HaveDr P w K mg base 2) : ∀ m, Have P w K mg base (2 + m) "_law_exact" 2 (r_exact j m)
  | 0 => (have_err F).mono (by omega)
  | m + 1 => by
    have ih := ok_exact j F Sc hb hN hf hc nn hd m
    refine have_fn F Sc hb hN (facts_mk (by rw [hf]; exact ⟨by dsimp only; rw [if_pos rfl]; exact ih, trivial⟩) (by rw [hc.1]; trivial) nn (fun h => by rw [hc.2] at h; cases h) (hd.mono (Nat.le_add_right 2 m)))
end
mutual
/-- alike -/
def sq : D → D → Bool
  | .non, .non => true
  | .bl a, .bl b => a == b
  | .int i, .int j => i == j
  | .str s, .str t => s == t
  | .lst xs, .lst ys => sqs xs ys
  | .tup xs, .tup ys => sqs xs ys
  | _, _ => false
def sqs : List D → List D → Bool
  | [], [] => true
  | x :: xs, y :: ys => sq x y && sqs xs ys
  | _, _ => false
end
mutual
/-- of depth below n, small -/
def sz : Nat → D → Bool
  | n + 1, .lst xs => decide (xs.length ≤ 1000000) && szs n xs
  | n + 1, .tup xs => decide (xs.length ≤ 1000000) && szs n xs
  | _ + 1, .str s => s.all (· < 1114112)
  | _ + 1, .non => true
  | _ + 1, .bl _ => true
  | _ + 1, .int _ => true
  | _, _ => false
def szs : Nat → List D → Bool
  | _, [] => true
  | n, x :: xs => sz n x && szs n xs
end
theorem sqs_len : ∀ {xs ys : List D}, sqs xs ys = true → ys.length = xs.length
  | [], [], _ => rfl
  | _ :: _, _ :: _, h => by
    simp only [sqs, Bool.and_eq_true] at h
    rw [List.length_cons, List.length_cons, sqs_len h.2]
  | [], _ :: _, h => by simp [sqs] at h
  | _ :: _, [], h => by simp [sqs] at h
theorem sqs_get : ∀ {xs ys : List D} {i : Nat}, sqs xs ys = true → i < xs.length → ∃ x y, xs[i]? = some x ∧ ys[i]? = some y ∧ sq x y = true
  | [], _, i, _, h => by simp at h
  | x :: xs, [], i, h, _ => by simp [sqs] at h
  | x :: xs, y :: ys, 0, h, _ => by
    simp only [sqs, Bool.and_eq_true] at h
    exact ⟨x, y, rfl, rfl, h.1⟩
  | x :: xs, y :: ys, i + 1, h, hi => by
    simp only [sqs, Bool.and_eq_true] at h
    obtain ⟨a, b, h1, h2, h3⟩ := sqs_get (i := i) h.2 (by simpa using hi)
    exact ⟨a, b, by simpa using h1, by simpa using h2, h3⟩
theorem szs_get {n : Nat} : ∀ {xs : List D} {i : Nat} {x : D}, szs n xs = true → xs[i]? = some x → sz n x = true
  | [], i, x, _, h => by simp at h
  | y :: xs, 0, x, h, e => by
    simp only [szs, Bool.and_eq_true] at h
    simp at e; subst e; exact h.1
  | y :: xs, i + 1, x, h, e => by
    simp only [szs, Bool.and_eq_true] at h
    exact szs_get (i := i) h.2 (by simpa using e)
theorem compL_const {f : D → T (Option D)} {y : D} : ∀ {xs : List D}, (∀ x, x ∈ xs → f x = .ret (some y)) → compL f xs = .ret (List.replicate xs.length y)
  | [], _ => rfl
  | x :: xs, h => by
    rw [compL, h x List.mem_cons_self, compL_const fun z m => h z (List.mem_cons_of_mem _ m)]
    rfl
theorem mem_rangeL : ∀ {n : Nat} {lo : Int} {x : D}, x ∈ rangeL n lo → ∃ k : Nat, k < n ∧ x = .int (lo + k)
  | 0, _, _, h => by cases h
  | n + 1, lo, x, h => by
    rw [rangeL] at h
    rcases List.mem_cons.mp h with rfl | h
    · exact ⟨0, by omega, by simp⟩
    · obtain ⟨k, hk, rfl⟩ := mem_rangeL h
      exact ⟨k + 1, by omega, by congr 1; omega⟩
theorem len_rangeL : ∀ {n : Nat} {lo : Int}, (rangeL n lo).length = n
  | 0, _ => rfl
  | n + 1, lo => by rw [rangeL, List.length_cons, len_rangeL]
theorem bls_true : ∀ n, blsOf (List.replicate n (.bl true)) = some (List.replicate n true)
  | 0 => rfl
  | n + 1 => by rw [List.replicate_succ, blsOf, bls_true n]; rfl
theorem all_true (n : Nat) : (List.replicate n true).all id = true := by simp [List.all_replicate]
theorem rng_ok {n : Nat} (h : n ≤ 1000000) : rng2 0 (n : Int) = some (rangeL n 0) := by
  have e : ((n : Int) - 0).toNat = n := by omega
  unfold rng2
  rw [e, if_pos]
  refine ⟨by omega, by omega, by omega, by omega, ?_⟩
  unfold line
  omega
theorem exact_turn (j m : Nat) {xs ys : List D} {k : Nat} {u v s0 s1 : D} (hs : (s0 = .lst xs ∧ s1 = .lst ys) ∨ (s0 = .tup xs ∧ s1 = .tup ys)) (h1 : xs[k]? = some u) (h2 : ys[k]? = some v) (hc : r_exact j m [.d u, .d v] = .ret (.bl true, false)) :
    ((T.ofO (asgT (.nm 2) (.int (0 + (k : Int))) (wipeE [.pl s0, .pl s1, .no, .no] (tgS (.nm 2))))).bind fun ρ' => (evC (fun k => if k = j then r_exact j m else fun _ => .err) [] ρ').bind fun b =>
        cond b ((ev (fun k => if k = j then r_exact j m else fun _ => .err) (.call j [(.ix (.v 0) (.v 2)), (.ix (.v 1) (.v 2))]) false ρ').bind fun y => .ret (some y.1)) (.ret none)) = T.ret (some (.bl true)) := by
  have e1 : ixAt xs (0 + (k : Int)) = some u := by
    unfold ixAt
    rw [if_pos (by omega), show (0 + (k : Int)).toNat = k by omega]; exact h1
  have e2 : ixAt ys (0 + (k : Int)) = some v := by
    unfold ixAt
    rw [if_pos (by omega), show (0 + (k : Int)).toNat = k by omega]; exact h2
  have g0 : (fun k => if k = j then r_exact j m else fun _ => T.err) j = r_exact j m := if_pos rfl
  have step : ∀ (ρ : Env) , ρ = [.pl s0, .pl s1, .pl (.int (0 + (k : Int))), .no] → ev (fun k => if k = j then r_exact j m else fun _ => .err) (.call j [(.ix (.v 0) (.v 2)), (.ix (.v 1) (.v 2))]) false ρ = .ret (.bl true, false) := fun ρ e => by
    subst e
    rcases hs with ⟨rfl, rfl⟩ | ⟨rfl, rfl⟩
    · show (((T.ofO ((ixAt xs (0 + (k : Int))).map fun d => (d, false))).bind fun x => (((T.ofO ((ixAt ys (0 + (k : Int))).map fun d => (d, false))).bind fun y => T.ret [Arg.d y.1]).bind fun r => T.ret (Arg.d x.1 :: r)))).bind _ = _
      rw [e1, e2]
      show (fun k => if k = j then r_exact j m else fun _ => T.err) j [.d u, .d v] = _
      rw [g0, hc]
    · show (((T.ofO ((ixAt xs (0 + (k : Int))).map fun d => (d, false))).bind fun x => (((T.ofO ((ixAt ys (0 + (k : Int))).map fun d => (d, false))).bind fun y => T.ret [Arg.d y.1]).bind fun r => T.ret (Arg.d x.1 :: r)))).bind _ = _
      rw [e1, e2]
      show (fun k => if k = j then r_exact j m else fun _ => T.err) j [.d u, .d v] = _
      rw [g0, hc]
  show (ev _ (.call j [(.ix (.v 0) (.v 2)), (.ix (.v 1) (.v 2))]) false [.pl s0, .pl s1, .pl (.int (0 + (k : Int))), .no]).bind _ = _
  rw [step _ rfl]
  rfl
theorem compL_map {f : D → T (Option D)} {g : D → D} : ∀ {xs : List D}, (∀ x, x ∈ xs → f x = .ret (some (g x))) → compL f xs = .ret (xs.map g)
  | [], _ => rfl
  | x :: xs, h => by
    rw [compL, h x List.mem_cons_self, compL_map fun z m => h z (List.mem_cons_of_mem _ m)]
    rfl
theorem ev_comp {Γ : Sem} {t : Tg} {sk : Sk} {ses cs : List E} {e : E} {m : Bool} {ρ : Env} {xs its : List D} {g : D → D} (h1 : evS Γ ses ρ = .ret xs) (h2 : srcD sk xs = some its)
    (h3 : ∀ x, x ∈ its → ((T.ofO (asgT t x (wipeE ρ (tgS t)))).bind fun ρ' => (evC Γ cs ρ').bind fun b => cond b ((ev Γ e false ρ').bind fun y => .ret (some y.1)) (.ret none)) = .ret (some (g x))) : ev Γ (.comp t sk ses cs e) m ρ = .ret (.lst (its.map g), true) := by
  rw [ev, h1]
  show (T.ofO (srcD sk xs)).bind _ = _
  rw [h2]
  show (compL _ its).bind _ = _
  rw [compL_map h3]
  rfl
theorem map_const {y : D} : ∀ {xs : List D}, xs.map (fun _ => y) = List.replicate xs.length y
  | [] => rfl
  | _ :: xs => by rw [List.map_cons, map_const]; rfl
theorem exact_seq (j m : Nat) {a b : D} {xs ys : List D} (same : (a = .lst xs ∧ b = .lst ys) ∨ (a = .tup xs ∧ b = .tup ys)) (hs : sqs xs ys = true) (hl : xs.length ≤ 1000000)
    (ih : ∀ (x y : D) (i : Nat), xs[i]? = some x → ys[i]? = some y → sq x y = true → r_exact j m [.d x, .d y] = .ret (.bl true, false)) : r_exact j (m + 1) [.d a, .d b] = .ret (.bl true, false) := by
  have hlen := sqs_len hs
  have hr : rng2 0 (xs.length : Int) = some (rangeL xs.length 0) := rng_ok hl
  have hd : decide ((xs.length : Int) = (xs.length : Int)) = true := decide_eq_true rfl
  have comp : ev (fun k => if k = j then r_exact j m else fun _ => .err) (.comp (.nm 2) .range [(.bi .len [(.v 0)])] [] (.call j [(.ix (.v 0) (.v 2)), (.ix (.v 1) (.v 2))])) true [.pl a, .pl b, .no, .no] = .ret (.lst (List.replicate xs.length (.bl true)), true) := by
    have := ev_comp (Γ := fun k => if k = j then r_exact j m else fun _ => .err) (t := .nm 2) (sk := .range) (ses := [(.bi .len [(.v 0)])]) (cs := []) (e := .call j [(.ix (.v 0) (.v 2)), (.ix (.v 1) (.v 2))]) (m := true) (ρ := [.pl a, .pl b, .no, .no]) (xs := [.int xs.length]) (its := rangeL xs.length 0) (g := fun _ => .bl true)
      (by rcases same with ⟨rfl, rfl⟩ | ⟨rfl, rfl⟩ <;> rfl) (by rw [srcD]; exact hr) (fun x hx => by
        obtain ⟨k, hk, rfl⟩ := mem_rangeL hx
        obtain ⟨u, v, h1, h2, h3⟩ := sqs_get hs hk
        exact exact_turn j m same h1 h2 (ih u v k h1 h2 h3))
    rw [this, map_const, len_rangeL]
  have last : ev (fun k => if k = j then r_exact j m else fun _ => .err) (.bi .all [(.comp (.nm 2) .range [(.bi .len [(.v 0)])] [] (.call j [(.ix (.v 0) (.v 2)), (.ix (.v 1) (.v 2))]))]) false [.pl a, .pl b, .no, .no] = .ret (.bl true, false) := by
    rw [ev, evs, comp]
    show T.ofO ((blsOf (List.replicate xs.length (.bl true))).map fun bs => (D.bl (bs.all id), false)) = _
    rw [bls_true]
    show T.ret (D.bl ((List.replicate xs.length true).all id), false) = _
    rw [all_true]
  have whole : ev (fun k => if k = j then r_exact j m else fun _ => .err) (.and2 (.cmp .eq (.bi .len [(.v 0)]) (.bi .len [(.v 1)])) (.bi .all [(.comp (.nm 2) .range [(.bi .len [(.v 0)])] [] (.call j [(.ix (.v 0) (.v 2)), (.ix (.v 1) (.v 2))]))])) false [.pl a, .pl b, .no, .no] = .ret (.bl true, false) := by
    rw [ev]
    have f1 : blT (ev (fun k => if k = j then r_exact j m else fun _ => .err) (.cmp .eq (.bi .len [(.v 0)]) (.bi .len [(.v 1)])) true [.pl a, .pl b, .no, .no]) = .ret true := by
      have : T.ret (decide ((xs.length : Int) = (ys.length : Int))) = (T.ret true : T Bool) := by rw [hlen, hd]
      rcases same with ⟨rfl, rfl⟩ | ⟨rfl, rfl⟩ <;> exact this
    rw [f1]
    exact last
  have c1 : blT (ev (fun k => if k = j then r_exact j m else fun _ => .err) (.tr (.isi (.v 0) [.tlist, .ttuple])) true [.pl a, .pl b, .no, .no]) = .ret true := by rcases same with ⟨rfl, rfl⟩ | ⟨rfl, rfl⟩ <;> rfl
  have c2 : blT (ev (fun k => if k = j then r_exact j m else fun _ => .err) (.or2 (.cmp .ne (.isi (.v 0) [.tlist]) (.isi (.v 1) [.tlist])) (.cmp .ne (.isi (.v 0) [.ttuple]) (.isi (.v 1) [.ttuple]))) true [.pl a, .pl b, .no, .no]) = .ret false := by rcases same with ⟨rfl, rfl⟩ | ⟨rfl, rfl⟩ <;> rfl
  rw [r_exact, run, i_exact]
  have e0 : bindA [.d a, .d b] ++ List.replicate 2 Slot.no = [.pl a, .pl b, .no, .no] := rfl
  rw [e0, execs, exec, c1]
  simp only [T.bind, cond_true]
  rw [execs, exec, c2]
  simp only [T.bind, cond_false]
  rw [execs]
  simp only [T.bind]
  rw [execs, exec, evRet]
  · rw [whole]
    rfl
  · intro i z; cases z
theorem exact_ok (j : Nat) : ∀ (m : Nat) (a b : D), sq a b = true → sz m a = true → r_exact j m [.d a, .d b] = .ret (.bl true, false)
  | 0, a, _, _, h => by cases a <;> simp [sz] at h
  | m + 1, a, b, hs, h => by
    have seq : ∀ xs ys : List D, szs m xs = true → ∀ (x y : D) (i : Nat), xs[i]? = some x → ys[i]? = some y → sq x y = true → r_exact j m [.d x, .d y] = .ret (.bl true, false) := fun xs ys hz x y i hx hy h3 =>
      exact_ok j m x y h3 (szs_get hz hx)
    cases a with
    | lst xs =>
      cases b with
      | lst ys =>
        simp only [sz, Bool.and_eq_true, decide_eq_true_eq] at h
        exact exact_seq j m (.inl ⟨rfl, rfl⟩) (by simpa [sq] using hs) h.1 (seq xs ys h.2)
      | _ => simp [sq] at hs
    | tup xs =>
      cases b with
      | tup ys =>
        simp only [sz, Bool.and_eq_true, decide_eq_true_eq] at h
        exact exact_seq j m (.inr ⟨rfl, rfl⟩) (by simpa [sq] using hs) h.1 (seq xs ys h.2)
      | _ => simp [sq] at hs
    | non =>
      cases b with
      | non => simp [r_exact, run, i_exact, bindA, List.replicate, execs, exec, evRet, ev, evs, rd, T.ofO, T.bind, blT, tyD, allTy, cmpD, truth, isNon]
      | _ => simp [sq] at hs
    | bl p =>
      cases b with
      | bl q =>
        have : p = q := by simpa [sq] using hs
        subst this
        simp [r_exact, run, i_exact, bindA, List.replicate, execs, exec, evRet, ev, evs, rd, T.ofO, T.bind, blT, tyD, allTy, cmpD, truth, isNon, setS, boxS, eqT, flat, eqD]
      | _ => simp [sq] at hs
    | int p =>
      cases b with
      | int q =>
        have : p = q := by simpa [sq] using hs
        subst this
        simp [r_exact, run, i_exact, bindA, List.replicate, execs, exec, evRet, ev, evs, rd, T.ofO, T.bind, blT, tyD, allTy, cmpD, truth, isNon, setS, boxS, eqT, flat, eqD]
      | _ => simp [sq] at hs
    | str s =>
      cases b with
      | str t =>
        have : s = t := by simpa [sq] using hs
        subst this
        simp only [sz] at h
        simp [r_exact, run, i_exact, bindA, List.replicate, execs, exec, evRet, ev, evs, rd, T.ofO, T.bind, blT, tyD, allTy, cmpD, truth, isNon, setS, boxS, eqT, flat, eqD, h]
      | _ => simp [sq] at hs
    | dic _ _ => simp [sz] at h
mutual
theorem sq_refl : ∀ {m : Nat} (a : D), sz m a = true → sq a a = true
  | _, .non, _ => rfl
  | _, .bl _, _ => by simp [sq]
  | _, .int _, _ => by simp [sq]
  | _, .str _, _ => by simp [sq]
  | m + 1, .lst xs, h => by
    simp only [sz, Bool.and_eq_true] at h
    simp only [sq]; exact sqs_refl xs h.2
  | m + 1, .tup xs, h => by
    simp only [sz, Bool.and_eq_true] at h
    simp only [sq]; exact sqs_refl xs h.2
  | 0, .lst _, h => by simp [sz] at h
  | 0, .tup _, h => by simp [sz] at h
  | 0, .dic _ _, h => by simp [sz] at h
  | _ + 1, .dic _ _, h => by simp [sz] at h
theorem sqs_refl : ∀ {m : Nat} (xs : List D), szs m xs = true → sqs xs xs = true
  | _, [], _ => rfl
  | m, x :: xs, h => by
    simp only [szs, Bool.and_eq_true] at h
    simp only [sqs, sq_refl x h.1, sqs_refl xs h.2, Bool.and_self]
end
theorem exact_self (j m : Nat) (a : D) (h : sz m a = true) : r_exact j m [.d a, .d a] = .ret (.bl true, false) := exact_ok j m a a (sq_refl a h) h
end FF

set_option Elab.async false
set_option linter.all false
set_option maxRecDepth 100000
set_option maxHeartbeats 8000000
/-! FF23: steps of evaluation. -/
namespace FF
theorem b_ret {α β : Type} {a : α} {f : α → T β} : (T.ret a).bind f = f a := rfl
theorem o_some {α : Type} {a : α} : T.ofO (some a) = T.ret a := rfl
theorem k_add {i j : Int} : binD .add (.int i) (.int j) = some (.int (i + j), false) := rfl
theorem k_sub {i j : Int} : binD .sub (.int i) (.int j) = some (.int (i - j), false) := rfl
/-- of at most n bits -/
class Sm (n : outParam Nat) (i : Int) : Prop where
  lt : i.natAbs < 2 ^ n
theorem nb_le {i : Int} {n : Nat} (h : i.natAbs < 2 ^ n) (h0 : 0 < n) : nb i ≤ n := by
  unfold nb
  by_cases q : i.natAbs = 0
  · rw [q]; exact h0
  · exact Nat.succ_le_of_lt ((Nat.log2_lt q).mpr h)
theorem k_mul {i j : Int} {m n : Nat} [a : Sm m i] [b : Sm n j] (h : m + n ≤ 100000000) : binD .mul (.int i) (.int j) = some (.int (i * j), false) := by
  simp only [binD]
  have h1 : nb i ≤ m + 1 := nb_le (Nat.lt_of_lt_of_le a.lt (Nat.pow_le_pow_right (by decide) (Nat.le_succ m))) (Nat.succ_pos m)
  have h2 : nb j ≤ n + 1 := nb_le (Nat.lt_of_lt_of_le b.lt (Nat.pow_le_pow_right (by decide) (Nat.le_succ n))) (Nat.succ_pos n)
  rw [if_pos (.inr (.inr (by unfold wide; omega)))]
theorem k_ixl {xs : List D} {i : Int} : ixD (.lst xs) (.int i) = ixAt xs i := rfl
theorem k_ixt {xs : List D} {i : Int} : ixD (.tup xs) (.int i) = ixAt xs i := rfl
theorem map_some {α β : Type} {f : α → β} {a : α} : Option.map f (some a) = some (f a) := rfl
theorem obind_some {α β : Type} {f : α → Option β} {a : α} : Option.bind (some a) f = f a := rfl
theorem ix_0 {α : Type} {a : α} {r : List α} : ixAt (a :: r) 0 = some a := rfl
theorem ix_1 {α : Type} {a b : α} {r : List α} : ixAt (a :: b :: r) 1 = some b := rfl
theorem ix_2 {α : Type} {a b c : α} {r : List α} : ixAt (a :: b :: c :: r) 2 = some c := rfl
theorem ix_3 {α : Type} {a b c d : α} {r : List α} : ixAt (a :: b :: c :: d :: r) 3 = some d := rfl

section
variable {Γ : Sem} {m : Bool} {s : Slot} {ρ : Env}
theorem rd_0 {d : D} : rd m (.pl d :: ρ) 0 = some d := rfl
theorem rd_b {d : D} : rd true (.bx d :: ρ) 0 = some d := rfl
theorem rd_l {d : D} : rd true (.lk d :: ρ) 0 = some d := rfl
theorem rd_s {i : Nat} : rd m (s :: ρ) (i + 1) = rd m ρ i := rfl
theorem own_0 {d : D} : ownAt (.bx d :: ρ) 0 = some d := rfl
theorem own_p {d : D} : ownAt (.pl d :: ρ) 0 = none := rfl
theorem own_s {i : Nat} : ownAt (s :: ρ) (i + 1) = ownAt ρ i := rfl
theorem e_c {d : D} : ev Γ (.c d) m (s :: ρ) = .ret (d, false) := by rw [ev]
theorem e_g {k : Nat} {d : D} : ev Γ (.g k d) m (s :: ρ) = .ret (d, false) := by rw [ev]
theorem e_v {i : Nat} : ev Γ (.v i) m (s :: ρ) = T.ofO ((rd m (s :: ρ) i).map fun d => (d, false)) := by rw [ev]
theorem e_bin {o : Bop} {a b : E} : ev Γ (.bin o a b) m (s :: ρ) = (ev Γ a true (s :: ρ)).bind fun x => (ev Γ b true (s :: ρ)).bind fun y => T.ofO (binD o x.1 y.1) := by rw [ev]
def negD : D → Option Rs
  | .int i => some (.int (-i), false)
  | _ => none
theorem neg_i {i : Int} : negD (.int i) = some (.int (-i), false) := rfl
theorem e_neg {a : E} : ev Γ (.neg a) m (s :: ρ) = (ev Γ a true (s :: ρ)).bind fun x => T.ofO (negD x.1) := by
  rw [ev]
  congr 1
  funext x
  obtain ⟨d, f⟩ := x
  cases d <;> rfl
theorem e_cmp {o : Cop} {a b : E} : ev Γ (.cmp o a b) m (s :: ρ) = (ev Γ a true (s :: ρ)).bind fun x => (ev Γ b true (s :: ρ)).bind fun y => T.ofO ((cmpD o x.1 y.1).map fun r => (.bl r, false)) := by rw [ev]
theorem e_chain {o p : Cop} {a b c : E} : ev Γ (.chain o p a b c) m (s :: ρ) = (ev Γ a true (s :: ρ)).bind fun x => (ev Γ b true (s :: ρ)).bind fun y => (T.ofO (cmpD o x.1 y.1)).bind fun r =>
      cond r ((ev Γ c true (s :: ρ)).bind fun z => T.ofO ((cmpD p y.1 z.1).map fun r => (.bl r, false))) (.ret (.bl false, false)) := by rw [ev]
theorem e_nt {a : E} : ev Γ (.nt a) m (s :: ρ) = (blT (ev Γ a true (s :: ρ))).bind fun b => .ret (.bl (!b), false) := by rw [ev]
theorem e_and {a b : E} : ev Γ (.and2 a b) m (s :: ρ) = (blT (ev Γ a true (s :: ρ))).bind fun x => cond x (ev Γ b m (s :: ρ)) (.ret (.bl false, false)) := by rw [ev]
theorem e_or {a b : E} : ev Γ (.or2 a b) m (s :: ρ) = (blT (ev Γ a true (s :: ρ))).bind fun x => cond x (.ret (.bl true, false)) (ev Γ b m (s :: ρ)) := by rw [ev]
theorem e_tr {a : E} : ev Γ (.tr a) m (s :: ρ) = (ev Γ a true (s :: ρ)).bind fun x => T.ofO ((truth x.1).map fun b => (.bl b, false)) := by rw [ev]
theorem e_ite {c a b : E} : ev Γ (.ite c a b) m (s :: ρ) = (blT (ev Γ c true (s :: ρ))).bind fun x => cond x (ev Γ a m (s :: ρ)) (ev Γ b m (s :: ρ)) := by rw [ev]
theorem e_tup {es : List E} : ev Γ (.tup es) m (s :: ρ) = (evs Γ es false (s :: ρ)).bind fun xs => .ret (.tup xs, false) := by rw [ev]
theorem e_lst {es : List E} : ev Γ (.lst es) m (s :: ρ) = (evs Γ es false (s :: ρ)).bind fun xs => .ret (.lst xs, true) := by rw [ev]
theorem e_ix {a i : E} : ev Γ (.ix a i) m (s :: ρ) = (ev Γ a true (s :: ρ)).bind fun x => (ev Γ i true (s :: ρ)).bind fun y => T.ofO ((ixD x.1 y.1).map fun d => (d, false)) := by rw [ev]
theorem e_sl {a : E} {lo hi : List E} : ev Γ (.sl a lo hi) m (s :: ρ) = (ev Γ a true (s :: ρ)).bind fun x => ((evs Γ lo true (s :: ρ)).bind fun l => T.ofO (oneI l)).bind fun i => ((evs Γ hi true (s :: ρ)).bind fun h => T.ofO (oneI h)).bind fun j => T.ofO (slD x.1 i j) := by rw [ev]
theorem e_rev {a : E} : ev Γ (.rev a) m (s :: ρ) = (ev Γ a true (s :: ρ)).bind fun x => T.ofO (revD x.1) := by rw [ev]
theorem e_call {k : Nat} {es : List E} : ev Γ (.call k es) m (s :: ρ) = (evA Γ es (s :: ρ)).bind fun xs => Γ k xs := by rw [ev]
theorem e_bi {b : Bi} {es : List E} : ev Γ (.bi b es) m (s :: ρ) = (evs Γ es true (s :: ρ)).bind fun xs => T.ofO (biD b xs) := by rw [ev]
theorem e_isi {a : E} {ts : List Ty} : ev Γ (.isi a ts) m (s :: ρ) = (ev Γ a true (s :: ρ)).bind fun x => .ret (.bl (allTy x.1 ts), false) := by rw [ev]
theorem e_draw {i j : Nat} {e : E} : ev Γ (.draw i j e) m (s :: ρ) = (ev Γ e true (s :: ρ)).bind fun x => drawT (s :: ρ) i j x.1 := by rw [ev]
/-- a comprehension's turn -/
def turnC (Γ : Sem) (t : Tg) (cs : List E) (e : E) (ρ : Env) (x : D) : T (Option D) := (T.ofO (asgT t x (wipeE ρ (tgS t)))).bind fun ρ' => (evC Γ cs ρ').bind fun b => cond b ((ev Γ e false ρ').bind fun y => .ret (some y.1)) (.ret none)
theorem e_comp {t : Tg} {sk : Sk} {ses cs : List E} {e : E} : ev Γ (.comp t sk ses cs e) m (s :: ρ) = (evS Γ ses (s :: ρ)).bind fun xs => (T.ofO (srcD sk xs)).bind fun its => (compL (turnC Γ t cs e (s :: ρ)) its).bind fun r => .ret (.lst r, true) := by rw [ev]; rfl
theorem turn_cons {t : Tg} {cs : List E} {e : E} {x : D} {its : List D} : compL (turnC Γ t cs e (s :: ρ)) (x :: its) = ((T.ofO (asgT t x (wipeE (s :: ρ) (tgS t)))).bind fun ρ' => (evC Γ cs ρ').bind fun b => cond b ((ev Γ e false ρ').bind fun y => .ret (some y.1)) (.ret none)).bind fun o =>
    (compL (turnC Γ t cs e (s :: ρ)) its).bind fun r => .ret (match o with | some y => y :: r | none => r) := rfl
theorem turn_nil {t : Tg} {cs : List E} {e : E} : compL (turnC Γ t cs e (s :: ρ)) [] = .ret [] := rfl
theorem es_nil : evs Γ [] m (s :: ρ) = .ret [] := by rw [evs]
theorem es_cons {e : E} {es : List E} : evs Γ (e :: es) m (s :: ρ) = (ev Γ e m (s :: ρ)).bind fun x => (evs Γ es m (s :: ρ)).bind fun xs => .ret (x.1 :: xs) := by rw [evs]
theorem eS_nil : evS Γ [] (s :: ρ) = .ret [] := by rw [evS]
theorem eS_cons {e : E} {es : List E} : evS Γ (e :: es) (s :: ρ) = (ev Γ e (isV e) (s :: ρ)).bind fun x => (evS Γ es (s :: ρ)).bind fun xs => .ret (x.1 :: xs) := by rw [evS]
theorem eC_nil : evC Γ [] (s :: ρ) = .ret true := by rw [evC]
theorem eC_cons {e : E} {es : List E} : evC Γ (e :: es) (s :: ρ) = (blT (ev Γ e true (s :: ρ))).bind fun b => cond b (evC Γ es (s :: ρ)) (.ret false) := by rw [evC]
theorem eA_nil : evA Γ [] (s :: ρ) = .ret [] := by rw [evA]
/-- an argument -/
def argT (Γ : Sem) (e : E) (ρ : Env) : T FF.Arg := match e with
  | .v i => match ρ[i]? with
    | some .st => .ret .st
    | some .scr => .ret .scr
    | _ => (ev Γ (.v i) false ρ).bind fun x => .ret (.d x.1)
  | e => (ev Γ e false ρ).bind fun x => .ret (.d x.1)
theorem bind_assoc {α β γ : Type} {f : α → T β} {g : β → T γ} : ∀ {t : T α}, (t.bind f).bind g = t.bind fun x => (f x).bind g
  | .ret _ => rfl
  | .err => rfl
  | .drw n k => by
    show T.drw n _ = T.drw n _
    congr 1
    funext d
    exact bind_assoc
theorem eA_cons {e : E} {es : List E} : evA Γ (e :: es) (s :: ρ) = (argT Γ e (s :: ρ)).bind fun a => (evA Γ es (s :: ρ)).bind fun xs => .ret (a :: xs) := by
  cases hv : isV e with
  | false => rw [evA_eq hv]; unfold argT; cases e <;> first | (cases hv; done) | (dsimp only; rw [bind_assoc]; rfl)
  | true =>
    cases e with
    | v i =>
      rw [evA]; unfold argT; dsimp only
      generalize (s :: ρ)[i]? = q
      cases q with
      | none => dsimp only; rw [bind_assoc]; rfl
      | some w => cases w <;> first | rfl | (dsimp only; rw [bind_assoc]; rfl)
    | _ => cases hv
theorem arg_st {i : Nat} : argT Γ (.v i) ρ = (match ρ[i]? with | some .st => .ret .st | some .scr => .ret .scr | _ => T.ofO ((rd false ρ i).map fun d => .d d)) := by
  unfold argT
  dsimp only
  split
  · rfl
  · rfl
  · rw [ev]
    cases rd false ρ i <;> rfl
theorem bl_ret {b : Bool} {f : Bool} : blT (.ret (.bl b, f)) = .ret b := rfl
/-! statements -/
theorem x_nil : execs Γ [] (s :: ρ) = .ret (.nx, s :: ρ) := by rw [execs]
def thenT (t : T Xs) (f : Env → T Xs) : T Xs := t.bind fun r => match r.1 with
    | .nx => f r.2
    | _ => .ret r
theorem then_nx {ρ : Env} {f : Env → T Xs} : thenT (.ret (.nx, ρ)) f = f ρ := rfl
theorem then_rt {ρ : Env} {f : Env → T Xs} {r : Rs} : thenT (.ret (.rt r, ρ)) f = .ret (.rt r, ρ) := rfl
theorem then_ct {ρ : Env} {f : Env → T Xs} : thenT (.ret (.ct, ρ)) f = .ret (.ct, ρ) := rfl
theorem then_bk {ρ : Env} {f : Env → T Xs} : thenT (.ret (.bk, ρ)) f = .ret (.bk, ρ) := rfl
theorem x_cns {a : S} {as : List S} : execs Γ (a :: as) (s :: ρ) = thenT (exec Γ a (s :: ρ)) fun ρ => execs Γ as ρ := by rw [execs]; rfl
theorem x_bx {i : Nat} {b : Bool} {e : E} : exec Γ (.box i b e) (s :: ρ) = (ev Γ e false (s :: ρ)).bind fun x => setS (s :: ρ) i (boxS (s :: ρ) i b x) := by rw [exec]
theorem x_asgn {t : Tg} {e : E} : exec Γ (.asg t e) (s :: ρ) = (ev Γ e false (s :: ρ)).bind fun x => (T.ofO (asgT t x.1 (s :: ρ))).bind fun ρ' => .ret (.nx, ρ') := by rw [exec]
theorem x_par {is : List (Nat × Bool)} {es : List E} : exec Γ (.par is es) (s :: ρ) = (evR Γ es (s :: ρ)).bind fun xs => parS is xs (s :: ρ) := by rw [exec]
theorem eR_nil : evR Γ [] (s :: ρ) = .ret [] := by rw [evR]
theorem eR_cons {e : E} {es : List E} : evR Γ (e :: es) (s :: ρ) = (ev Γ e false (s :: ρ)).bind fun x => (evR Γ es (s :: ρ)).bind fun xs => .ret (x :: xs) := by rw [evR]
theorem par_nil {ρ : Env} : parS [] [] ρ = .ret (.nx, ρ) := rfl
theorem par_cons {p : Nat × Bool} {ps : List (Nat × Bool)} {r : Rs} {rs : List Rs} {ρ : Env} : parS (p :: ps) (r :: rs) ρ = if p.1 < ρ.length then parS ps rs (ρ.set p.1 (boxS ρ p.1 p.2 r)) else .err := rfl
theorem x_ixs {i : Nat} {k e : E} : exec Γ (.setix i k e) (s :: ρ) = (ev Γ e false (s :: ρ)).bind fun x => (ev Γ k true (s :: ρ)).bind fun y => (T.ofO ((ownAt (s :: ρ) i).bind fun d => setD d y.1 x.1)).bind fun d => setS (s :: ρ) i (.bx d) := by rw [exec]
theorem x_ap {i : Nat} {e : E} : exec Γ (.app i e) (s :: ρ) = (ev Γ e false (s :: ρ)).bind fun x => (T.ofO ((ownAt (s :: ρ) i).bind fun d => appD d x.1)).bind fun d => setS (s :: ρ) i (.bx d) := by rw [exec]
theorem x_ifs {c : E} {a b : List S} : exec Γ (.ifs c a b) (s :: ρ) = (blT (ev Γ c true (s :: ρ))).bind fun k => cond k (execs Γ a (s :: ρ)) (execs Γ b (s :: ρ)) := by rw [exec]
theorem x_rt {e : E} : exec Γ (.ret e) (s :: ρ) = (evRet Γ e (s :: ρ)).bind fun x => .ret (.rt x, s :: ρ) := by rw [exec]
/-- a walk's turn -/
def turnF (Γ : Sem) (t : Tg) (b : List S) (x : D) (ρ : Env) : T Xs := (T.ofO (asgT t x ρ)).bind fun ρ' => execs Γ b ρ'
theorem x_fr {t : Tg} {sk : Sk} {ses : List E} {b : List S} : exec Γ (.forr t sk ses b) (s :: ρ) = (evS Γ ses (s :: ρ)).bind fun xs => (T.ofO (srcD sk xs)).bind fun its => (forL (turnF Γ t b) its (lockS ses (s :: ρ))).bind fun r => .ret (r.1, unlockS (s :: ρ) ses r.2) := by rw [exec]; rfl
def loopT (t : T Xs) (f : Env → T Xs) : T Xs := t.bind fun r => match r.1 with
    | .nx => f r.2
    | .ct => f r.2
    | .bk => .ret (.nx, r.2)
    | .rt y => .ret (.rt y, r.2)
theorem loop_nx {ρ : Env} {f : Env → T Xs} : loopT (.ret (.nx, ρ)) f = f ρ := rfl
theorem loop_ct {ρ : Env} {f : Env → T Xs} : loopT (.ret (.ct, ρ)) f = f ρ := rfl
theorem loop_bk {ρ : Env} {f : Env → T Xs} : loopT (.ret (.bk, ρ)) f = .ret (.nx, ρ) := rfl
theorem loop_rt {ρ : Env} {f : Env → T Xs} {r : Rs} : loopT (.ret (.rt r, ρ)) f = .ret (.rt r, ρ) := rfl
theorem for_nil {t : Tg} {b : List S} : forL (turnF Γ t b) [] (s :: ρ) = .ret (.nx, s :: ρ) := rfl
theorem for_cons {t : Tg} {b : List S} {x : D} {xs : List D} : forL (turnF Γ t b) (x :: xs) (s :: ρ) = loopT ((T.ofO (asgT t x (s :: ρ))).bind fun ρ' => execs Γ b ρ') fun ρ => forL (turnF Γ t b) xs ρ := rfl
end
end FF

set_option Elab.async false
set_option linter.all false
set_option maxRecDepth 100000
set_option maxHeartbeats 8000000
/-! FF24: more steps of evaluation; sizes; fractions. -/
namespace FF
section
variable {Γ : Sem} {ρ : FF.Env}
theorem arg_c {d : D} : argT Γ (.c d) ρ = (ev Γ (.c d) false ρ).bind fun x => .ret (.d x.1) := rfl
theorem arg_g {k : Nat} {d : D} : argT Γ (.g k d) ρ = (ev Γ (.g k d) false ρ).bind fun x => .ret (.d x.1) := rfl
theorem arg_bin {p : Bop} {a b : E} : argT Γ (.bin p a b) ρ = (ev Γ (.bin p a b) false ρ).bind fun x => .ret (.d x.1) := rfl
theorem arg_neg {a : E} : argT Γ (.neg a) ρ = (ev Γ (.neg a) false ρ).bind fun x => .ret (.d x.1) := rfl
theorem arg_cmp {p : Cop} {a b : E} : argT Γ (.cmp p a b) ρ = (ev Γ (.cmp p a b) false ρ).bind fun x => .ret (.d x.1) := rfl
theorem arg_chain {p q : Cop} {a b c : E} : argT Γ (.chain p q a b c) ρ = (ev Γ (.chain p q a b c) false ρ).bind fun x => .ret (.d x.1) := rfl
theorem arg_nt {a : E} : argT Γ (.nt a) ρ = (ev Γ (.nt a) false ρ).bind fun x => .ret (.d x.1) := rfl
theorem arg_and2 {a b : E} : argT Γ (.and2 a b) ρ = (ev Γ (.and2 a b) false ρ).bind fun x => .ret (.d x.1) := rfl
theorem arg_or2 {a b : E} : argT Γ (.or2 a b) ρ = (ev Γ (.or2 a b) false ρ).bind fun x => .ret (.d x.1) := rfl
theorem arg_tr {a : E} : argT Γ (.tr a) ρ = (ev Γ (.tr a) false ρ).bind fun x => .ret (.d x.1) := rfl
theorem arg_ite {c a b : E} : argT Γ (.ite c a b) ρ = (ev Γ (.ite c a b) false ρ).bind fun x => .ret (.d x.1) := rfl
theorem arg_tup {es : List E} : argT Γ (.tup es) ρ = (ev Γ (.tup es) false ρ).bind fun x => .ret (.d x.1) := rfl
theorem arg_lst {es : List E} : argT Γ (.lst es) ρ = (ev Γ (.lst es) false ρ).bind fun x => .ret (.d x.1) := rfl
theorem arg_ix {a i : E} : argT Γ (.ix a i) ρ = (ev Γ (.ix a i) false ρ).bind fun x => .ret (.d x.1) := rfl
theorem arg_sl {a : E} {lo hi : List E} : argT Γ (.sl a lo hi) ρ = (ev Γ (.sl a lo hi) false ρ).bind fun x => .ret (.d x.1) := rfl
theorem arg_rev {a : E} : argT Γ (.rev a) ρ = (ev Γ (.rev a) false ρ).bind fun x => .ret (.d x.1) := rfl
theorem arg_call {k : Nat} {es : List E} : argT Γ (.call k es) ρ = (ev Γ (.call k es) false ρ).bind fun x => .ret (.d x.1) := rfl
theorem arg_bi {b : Bi} {es : List E} : argT Γ (.bi b es) ρ = (ev Γ (.bi b es) false ρ).bind fun x => .ret (.d x.1) := rfl
theorem arg_isi {a : E} {ts : List Ty} : argT Γ (.isi a ts) ρ = (ev Γ (.isi a ts) false ρ).bind fun x => .ret (.d x.1) := rfl
theorem arg_comp {t : Tg} {sk : Sk} {ses cs : List E} {e : E} : argT Γ (.comp t sk ses cs e) ρ = (ev Γ (.comp t sk ses cs e) false ρ).bind fun x => .ret (.d x.1) := rfl
theorem arg_comp2 {t t2 : Tg} {sk sk2 : Sk} {ses cs ses2 cs2 : List E} {e : E} : argT Γ (.comp2 t sk ses cs t2 sk2 ses2 cs2 e) ρ = (ev Γ (.comp2 t sk ses cs t2 sk2 ses2 cs2 e) false ρ).bind fun x => .ret (.d x.1) := rfl
theorem arg_draw {i j : Nat} {e : E} : argT Γ (.draw i j e) ρ = (ev Γ (.draw i j e) false ρ).bind fun x => .ret (.d x.1) := rfl
end
theorem arg_v0 {Γ : Sem} {ρ : FF.Env} {i : Nat} {d : D} (h : ρ[i]? = some (.pl d)) : argT Γ (.v i) ρ = .ret (.d d) := by
  rw [arg_st, h]
  show T.ofO ((rd false ρ i).map fun d => Arg.d d) = _
  unfold rd; rw [h]; rfl
/-! ### draws -/
theorem bind_drw {α β : Type} {n : Nat} {k : Nat → T α} {f : α → T β} : (T.drw n k).bind f = .drw n fun d => (k d).bind f := rfl
theorem blT_drw {n : Nat} {k : Nat → T Rs} : blT (T.drw n k) = .drw n fun d => blT (k d) := rfl
theorem then_drw {n : Nat} {k : Nat → T Xs} {f : FF.Env → T Xs} : thenT (T.drw n k) f = .drw n fun d => thenT (k d) f := rfl
theorem loop_drw {n : Nat} {k : Nat → T Xs} {f : FF.Env → T Xs} : loopT (T.drw n k) f = .drw n fun d => loopT (k d) f := rfl
theorem all_drw {α : Type} {n : Nat} {k : Nat → T α} {P : α → Prop} : (T.drw n k).all P ↔ 0 < n ∧ ∀ d, d < n → (k d).all P := Iff.rfl
theorem all_ret {α : Type} {a : α} {P : α → Prop} : (T.ret a).all P ↔ P a := Iff.rfl
/-! ### comparisons -/
theorem c_lt {i j : Int} : cmpD .lt (.int i) (.int j) = some (decide (i < j)) := rfl
theorem c_le {i j : Int} : cmpD .le (.int i) (.int j) = some (decide (i ≤ j)) := rfl
theorem c_gt {i j : Int} : cmpD .gt (.int i) (.int j) = some (decide (j < i)) := rfl
theorem c_ge {i j : Int} : cmpD .ge (.int i) (.int j) = some (decide (j ≤ i)) := rfl
theorem c_eq {a b : D} : cmpD .eq a b = eqT a b := rfl
theorem c_ne {a b : D} : cmpD .ne a b = (eqT a b).map (!·) := rfl
theorem c_isN {a : D} : cmpD .isN a .non = some (isNon a) := by cases a <;> rfl
theorem c_notN {a : D} : cmpD .notN a .non = some (!isNon a) := by cases a <;> rfl
mutual
/-- plain: no bool, no dict, not deep -/
def pln : Nat → D → Bool
  | _, .non => true
  | _, .int _ => true
  | _, .str s => s.all (· < 1114112)
  | n + 1, .lst xs => plns n xs
  | n + 1, .tup xs => plns n xs
  | _, _ => false
def plns : Nat → List D → Bool
  | _, [] => true
  | n, x :: xs => pln n x && plns n xs
end
mutual
theorem pln_flat : ∀ (n : Nat) (a : D), pln n a = true → flat n a = true
  | n, .non, _ => by cases n <;> simp [flat]
  | n, .int _, _ => by cases n <;> simp [flat]
  | n, .str s, h => by cases n <;> simpa [flat, pln] using h
  | n + 1, .lst xs, h => by simp only [flat]; exact plns_flat n xs (by simpa [pln] using h)
  | n + 1, .tup xs, h => by simp only [flat]; exact plns_flat n xs (by simpa [pln] using h)
  | 0, .lst _, h => by simp [pln] at h
  | 0, .tup _, h => by simp [pln] at h
  | n, .bl _, h => by cases n <;> simp [pln] at h
  | n, .dic _ _, h => by cases n <;> simp [pln] at h
theorem plns_flat : ∀ (n : Nat) (xs : List D), plns n xs = true → flats n xs = true
  | _, [], _ => by simp [flats]
  | n, x :: xs, h => by
    simp only [plns, Bool.and_eq_true] at h
    simp only [flats, pln_flat n x h.1, plns_flat n xs h.2, Bool.and_self]
end
open Classical in
mutual
theorem eqD_pln : ∀ (n : Nat) (a b : D), pln n a = true → pln n b = true → eqD a b = some (decide (a = b))
  | n, .non, b, _, g => by cases b <;> cases n <;> simp [pln] at g <;> simp [eqD]
  | n, .int i, b, _, g => by cases b <;> cases n <;> simp [pln] at g <;> simp [eqD]
  | n, .str s, b, _, g => by cases b <;> cases n <;> simp [pln] at g <;> simp [eqD]
  | n + 1, .lst xs, b, h, g => by
    cases b with
    | lst ys =>
      simp only [pln] at h g
      simp only [eqD, eqDs_pln n xs ys h g, D.lst.injEq]
    | _ => simp [pln] at g <;> simp [eqD]
  | n + 1, .tup xs, b, h, g => by
    cases b with
    | tup ys =>
      simp only [pln] at h g
      simp only [eqD, eqDs_pln n xs ys h g, D.tup.injEq]
    | _ => simp [pln] at g <;> simp [eqD]
  | 0, .lst _, _, h, _ => by simp [pln] at h
  | 0, .tup _, _, h, _ => by simp [pln] at h
  | n, .bl _, _, h, _ => by cases n <;> simp [pln] at h
  | n, .dic _ _, _, h, _ => by cases n <;> simp [pln] at h
theorem eqDs_pln : ∀ (n : Nat) (xs ys : List D), plns n xs = true → plns n ys = true → eqDs xs ys = some (decide (xs = ys))
  | _, [], [], _, _ => by simp [eqDs]
  | _, [], _ :: _, _, _ => by simp [eqDs]
  | _, _ :: _, [], _, _ => by simp [eqDs]
  | n, x :: xs, y :: ys, h, g => by
    simp only [plns, Bool.and_eq_true] at h g
    simp only [eqDs, eqD_pln n x y h.1 g.1, eqDs_pln n xs ys h.2 g.2, Option.bind_some, Option.map_some, List.cons.injEq]
    congr 1
    by_cases h1 : x = y <;> by_cases h2 : xs = ys <;> simp [h1, h2]
end
open Classical in
theorem eqT_pln {a b : D} (h : pln 50 a = true) (g : pln 50 b = true) : eqT a b = some (decide (a = b)) := by
  unfold eqT
  rw [pln_flat 50 a h, pln_flat 50 b g]
  exact eqD_pln 50 a b h g
/-! ### division -/
theorem k_fdivp {i j : Int} {n : Nat} [b : Sm n j] (h : n ≤ 8000) (hj : 0 < j) : binD .fdiv (.int i) (.int j) = some (.int (i / j), false) := by
  simp only [binD]
  have h2 : nb j ≤ n + 1 := nb_le (Nat.lt_of_lt_of_le b.lt (Nat.pow_le_pow_right (by decide) (Nat.le_succ n))) (Nat.succ_pos n)
  rw [if_pos ⟨by omega, by omega⟩, Int.fdiv_eq_ediv_of_nonneg _ (by omega)]
theorem k_fdiv {i j : Int} {n : Nat} [b : Sm n j] (h : n ≤ 8000) (hj : j ≠ 0) : binD .fdiv (.int i) (.int j) = some (.int (i.fdiv j), false) := by
  simp only [binD]
  have h2 : nb j ≤ n + 1 := nb_le (Nat.lt_of_lt_of_le b.lt (Nat.pow_le_pow_right (by decide) (Nat.le_succ n))) (Nat.succ_pos n)
  rw [if_pos ⟨hj, by omega⟩]
theorem k_modp {i j : Int} (hj : 0 < j) : binD .mod (.int i) (.int j) = some (.int (i % j), false) := by
  simp only [binD]
  rw [if_pos (by omega), Int.fmod_eq_emod_of_nonneg _ (by omega)]
/-- a list's length -/
class Ln {α : Type} (k : outParam Nat) (xs : List α) : Prop where
  h : xs.length = k
instance {α : Type} : Ln 0 ([] : List α) := ⟨rfl⟩
instance {α : Type} {x : α} {xs : List α} {k : Nat} [a : Ln k xs] : Ln (k + 1) (x :: xs) := ⟨by rw [List.length_cons, a.h]⟩
instance {α : Type} {xs ys : List α} {k l : Nat} [a : Ln k xs] [b : Ln l ys] : Ln (k + l) (xs ++ ys) := ⟨by rw [List.length_append, a.h, b.h]⟩
theorem k_addl {xs ys : List D} {m n : Nat} [a : Ln m xs] [b : Ln n ys] (h : m + n ≤ 16777216) : binD .add (.lst xs) (.lst ys) = some (.lst (xs ++ ys), true) := by
  simp only [binD]; rw [if_pos (by unfold line; rw [a.h, b.h]; exact h)]
theorem k_addt {xs ys : List D} {m n : Nat} [a : Ln m xs] [b : Ln n ys] (h : m + n ≤ 16777216) : binD .add (.tup xs) (.tup ys) = some (.tup (xs ++ ys), false) := by
  simp only [binD]; rw [if_pos (by unfold line; rw [a.h, b.h]; exact h)]
theorem k_ap {xs : List D} {x : D} {m : Nat} [a : Ln m xs] (h : m < 16777216) : appD (.lst xs) x = some (.lst (xs ++ [x])) := by
  simp only [appD]; rw [if_pos (by unfold line; rw [a.h]; exact h)]
/-! ### built-ins, walks, slices, by rules without conditions -/
theorem b_lenl {xs : List D} : biD .len [.lst xs] = some (.int xs.length, false) := rfl
theorem b_lent {xs : List D} : biD .len [.tup xs] = some (.int xs.length, false) := rfl
theorem b_lens {xs : List Nat} : biD .len [.str xs] = some (.int xs.length, false) := rfl
theorem b_abs {i : Int} : biD .abs [.int i] = some (.int (i.natAbs : Int), false) := by
  show some (D.int (if i < 0 then -i else i), false) = _
  congr 3; split <;> omega
theorem b_sum {xs : List D} : biD .sum [.lst xs] = (intsOf xs).map fun p => (.int p.sum, false) := rfl
theorem b_max {xs : List D} : biD .max [.lst xs] = (intsOf xs).bind fun p => match p with | [] => none | x :: r => some (.int (maxI x r), false) := rfl
theorem b_min {xs : List D} : biD .min [.lst xs] = (intsOf xs).bind fun p => match p with | [] => none | x :: r => some (.int (minI x r), false) := rfl
theorem b_max2 {i j : Int} : biD .max2 [.int i, .int j] = some (.int (max i j), false) := by
  show some (D.int (if j > i then j else i), false) = _
  congr 3; split <;> omega
theorem b_min2 {i j : Int} : biD .min2 [.int i, .int j] = some (.int (min i j), false) := by
  show some (D.int (if j < i then j else i), false) = _
  congr 3; split <;> omega
theorem b_tupl {xs : List D} : biD .tuple [.lst xs] = some (.tup xs, false) := rfl
theorem b_tupt {xs : List D} : biD .tuple [.tup xs] = some (.tup xs, false) := rfl
theorem b_lstl {xs : List D} : biD .list [.lst xs] = some (.lst xs, true) := rfl
theorem b_lstt {xs : List D} : biD .list [.tup xs] = some (.lst xs, true) := rfl
theorem b_inti {i : Int} : biD .int [.int i] = some (.int i, false) := rfl
theorem b_intb {b : Bool} : biD .int [.bl b] = some (.int (if b then 1 else 0), false) := rfl
theorem b_all {xs : List D} : biD .all [.lst xs] = (blsOf xs).map fun bs => (.bl (bs.all id), false) := rfl
theorem b_any {xs : List D} : biD .any [.lst xs] = (blsOf xs).map fun bs => (.bl (bs.any id), false) := rfl
theorem b_gcd {i j : Int} : biD .gcd [.int i, .int j] = some (.int (Nat.gcd i.natAbs j.natAbs : Nat), false) := rfl
theorem is_nil : intsOf [] = some [] := rfl
theorem is_cons {i : Int} {r : List D} : intsOf (.int i :: r) = (intsOf r).map (i :: ·) := rfl
theorem bs_nil : blsOf [] = some [] := rfl
theorem bs_cons {b : Bool} {r : List D} : blsOf (.bl b :: r) = (blsOf r).map (b :: ·) := rfl
theorem s_seql {xs : List D} : srcD .seq [.lst xs] = some xs := rfl
theorem s_seqt {xs : List D} : srcD .seq [.tup xs] = some xs := rfl
theorem s_seqs {xs : List Nat} : srcD .seq [.str xs] = some (xs.map fun c => .str [c]) := rfl
theorem s_r1 {j : Int} : srcD .range [.int j] = rng2 0 j := rfl
theorem s_r2 {i j : Int} : srcD .range [.int i, .int j] = rng2 i j := rfl
theorem s_zip {xs ys : List D} : srcD .zip [.lst xs, .lst ys] = some (zipL xs ys) := rfl
theorem s_zipt {xs ys : List D} : srcD .zip [.tup xs, .tup ys] = some (zipL xs ys) := rfl
theorem s_enum {xs : List D} : srcD .enum [.lst xs] = some (enumL 0 xs) := rfl
theorem s_enumt {xs : List D} : srcD .enum [.tup xs] = some (enumL 0 xs) := rfl
theorem s_rev {xs : List D} : srcD .rev [.lst xs] = some xs.reverse := rfl
theorem s_revt {xs : List D} : srcD .rev [.tup xs] = some xs.reverse := rfl
theorem s_rr {j : Int} : srcD .revrange [.int j] = (rng2 0 j).map List.reverse := rfl
theorem z_cons {x y : D} {xs ys : List D} : zipL (x :: xs) (y :: ys) = .tup [x, y] :: zipL xs ys := rfl
theorem z_nil {ys : List D} : zipL [] ys = [] := by cases ys <;> rfl
theorem z_nil2 {xs : List D} : zipL xs [] = [] := by cases xs <;> rfl
theorem n_cons {n : Nat} {x : D} {xs : List D} : enumL n (x :: xs) = .tup [.int n, x] :: enumL (n + 1) xs := rfl
theorem n_nil {n : Nat} : enumL n [] = [] := rfl
theorem sl_l {xs : List D} {lo hi : Option Int} : slD (.lst xs) lo hi = some (.lst (cut xs lo hi), true) := rfl
theorem sl_t {xs : List D} {lo hi : Option Int} : slD (.tup xs) lo hi = some (.tup (cut xs lo hi), false) := rfl
theorem one_0 : oneI [] = some none := rfl
theorem one_1 {i : Int} : oneI [.int i] = some (some i) := rfl
theorem cut_from {α : Type} {xs : List α} {n : Nat} : cut xs (some (no_index (OfNat.ofNat n : Int))) none = xs.drop n := by
  unfold cut sIx
  have e : ¬ ((OfNat.ofNat n : Int) < 0) := by show ¬ ((n : Int) < 0); omega
  have e2 : (OfNat.ofNat n : Int).toNat = n := by show ((n : Int)).toNat = n; omega
  simp only [e, if_false, e2]
  rcases Nat.le_total n xs.length with h | h
  · rw [Nat.min_eq_left h, List.take_of_length_le]; simp
  · rw [Nat.min_eq_right h, List.drop_of_length_le (Nat.le_refl _), List.drop_of_length_le h]; simp
theorem cut_to {α : Type} {xs : List α} {n : Nat} : cut xs none (some (no_index (OfNat.ofNat n : Int))) = xs.take n := by
  unfold cut sIx
  have e : ¬ ((OfNat.ofNat n : Int) < 0) := by show ¬ ((n : Int) < 0); omega
  have e2 : (OfNat.ofNat n : Int).toNat = n := by show ((n : Int)).toNat = n; omega
  simp only [e, if_false, e2, List.drop_zero, Nat.sub_zero]
  rcases Nat.le_total n xs.length with h | h
  · rw [Nat.min_eq_left h]
  · rw [Nat.min_eq_right h, List.take_of_length_le (Nat.le_refl _), List.take_of_length_le h]
theorem rv_l {xs : List D} : revD (.lst xs) = some (.lst xs.reverse, true) := rfl
theorem tr_n : truth .non = some false := rfl
theorem tr_b {b : Bool} : truth (.bl b) = some b := rfl
theorem tr_i {i : Int} : truth (.int i) = some (i != 0) := rfl
theorem tr_l {xs : List D} : truth (.lst xs) = some (!xs.isEmpty) := rfl
theorem tr_t {xs : List D} : truth (.tup xs) = some (!xs.isEmpty) := rfl
section
variable {Γ : Sem} {s : Slot} {ρ : FF.Env}
theorem rt_v {i : Nat} : evRet Γ (.v i) (s :: ρ) = match ownAt (s :: ρ) i with | some d => T.ret (d, true) | none => ev Γ (.v i) false (s :: ρ) := rfl
theorem rt_c {d : D} : evRet Γ (.c d) ρ = ev Γ (.c d) false ρ := rfl
theorem rt_g {k : Nat} {d : D} : evRet Γ (.g k d) ρ = ev Γ (.g k d) false ρ := rfl
theorem rt_bin {p : Bop} {a b : E} : evRet Γ (.bin p a b) ρ = ev Γ (.bin p a b) false ρ := rfl
theorem rt_neg {a : E} : evRet Γ (.neg a) ρ = ev Γ (.neg a) false ρ := rfl
theorem rt_cmp {p : Cop} {a b : E} : evRet Γ (.cmp p a b) ρ = ev Γ (.cmp p a b) false ρ := rfl
theorem rt_chain {p q : Cop} {a b c : E} : evRet Γ (.chain p q a b c) ρ = ev Γ (.chain p q a b c) false ρ := rfl
theorem rt_nt {a : E} : evRet Γ (.nt a) ρ = ev Γ (.nt a) false ρ := rfl
theorem rt_and2 {a b : E} : evRet Γ (.and2 a b) ρ = ev Γ (.and2 a b) false ρ := rfl
theorem rt_or2 {a b : E} : evRet Γ (.or2 a b) ρ = ev Γ (.or2 a b) false ρ := rfl
theorem rt_tr {a : E} : evRet Γ (.tr a) ρ = ev Γ (.tr a) false ρ := rfl
theorem rt_ite {c a b : E} : evRet Γ (.ite c a b) ρ = ev Γ (.ite c a b) false ρ := rfl
theorem rt_tup {es : List E} : evRet Γ (.tup es) ρ = ev Γ (.tup es) false ρ := rfl
theorem rt_lst {es : List E} : evRet Γ (.lst es) ρ = ev Γ (.lst es) false ρ := rfl
theorem rt_ix {a i : E} : evRet Γ (.ix a i) ρ = ev Γ (.ix a i) false ρ := rfl
theorem rt_sl {a : E} {lo hi : List E} : evRet Γ (.sl a lo hi) ρ = ev Γ (.sl a lo hi) false ρ := rfl
theorem rt_rev {a : E} : evRet Γ (.rev a) ρ = ev Γ (.rev a) false ρ := rfl
theorem rt_call {k : Nat} {es : List E} : evRet Γ (.call k es) ρ = ev Γ (.call k es) false ρ := rfl
theorem rt_bi {b : Bi} {es : List E} : evRet Γ (.bi b es) ρ = ev Γ (.bi b es) false ρ := rfl
theorem rt_isi {a : E} {ts : List Ty} : evRet Γ (.isi a ts) ρ = ev Γ (.isi a ts) false ρ := rfl
theorem rt_comp {t : Tg} {sk : Sk} {ses cs : List E} {e : E} : evRet Γ (.comp t sk ses cs e) ρ = ev Γ (.comp t sk ses cs e) false ρ := rfl
theorem rt_comp2 {t t2 : Tg} {sk sk2 : Sk} {ses cs ses2 cs2 : List E} {e : E} : evRet Γ (.comp2 t sk ses cs t2 sk2 ses2 cs2 e) ρ = ev Γ (.comp2 t sk ses cs t2 sk2 ses2 cs2 e) false ρ := rfl
theorem rt_draw {i j : Nat} {e : E} : evRet Γ (.draw i j e) ρ = ev Γ (.draw i j e) false ρ := rfl
theorem own_n : ownAt (.no :: ρ) 0 = none := rfl
theorem a_nm {i : Nat} {x : D} : asgT (.nm i) x ρ = if i < ρ.length then some (ρ.set i (.pl x)) else none := by rw [asgT]
theorem a_tt {ts : List Tg} {xs : List D} : asgT (.tup ts) (.tup xs) ρ = asgTs ts xs ρ := by rw [asgT]
theorem a_tl {ts : List Tg} {xs : List D} : asgT (.tup ts) (.lst xs) ρ = asgTs ts xs ρ := by rw [asgT]
theorem as_n : asgTs [] [] ρ = some ρ := by rw [asgTs]
theorem as_c {t : Tg} {ts : List Tg} {x : D} {xs : List D} : asgTs (t :: ts) (x :: xs) ρ = (asgT t x ρ).bind (asgTs ts xs) := by rw [asgTs]
theorem lk_nil : lockS [] ρ = ρ := rfl
theorem lk_v {i : Nat} {r : List E} : lockS (.v i :: r) ρ = lockS r (match ρ[i]? with | some (.bx d) => ρ.set i (.lk d) | _ => ρ) := rfl
theorem lk_c {d : D} {r : List E} : lockS ((.c d) :: r) ρ = lockS r ρ := rfl
theorem lk_g {k : Nat} {d : D} {r : List E} : lockS ((.g k d) :: r) ρ = lockS r ρ := rfl
theorem lk_bin {p : Bop} {a b : E} {r : List E} : lockS ((.bin p a b) :: r) ρ = lockS r ρ := rfl
theorem lk_neg {a : E} {r : List E} : lockS ((.neg a) :: r) ρ = lockS r ρ := rfl
theorem lk_cmp {p : Cop} {a b : E} {r : List E} : lockS ((.cmp p a b) :: r) ρ = lockS r ρ := rfl
theorem lk_chain {p q : Cop} {a b c : E} {r : List E} : lockS ((.chain p q a b c) :: r) ρ = lockS r ρ := rfl
theorem lk_nt {a : E} {r : List E} : lockS ((.nt a) :: r) ρ = lockS r ρ := rfl
theorem lk_and2 {a b : E} {r : List E} : lockS ((.and2 a b) :: r) ρ = lockS r ρ := rfl
theorem lk_or2 {a b : E} {r : List E} : lockS ((.or2 a b) :: r) ρ = lockS r ρ := rfl
theorem lk_tr {a : E} {r : List E} : lockS ((.tr a) :: r) ρ = lockS r ρ := rfl
theorem lk_ite {c a b : E} {r : List E} : lockS ((.ite c a b) :: r) ρ = lockS r ρ := rfl
theorem lk_tup {es : List E} {r : List E} : lockS ((.tup es) :: r) ρ = lockS r ρ := rfl
theorem lk_lst {es : List E} {r : List E} : lockS ((.lst es) :: r) ρ = lockS r ρ := rfl
theorem lk_ix {a i : E} {r : List E} : lockS ((.ix a i) :: r) ρ = lockS r ρ := rfl
theorem lk_sl {a : E} {lo hi : List E} {r : List E} : lockS ((.sl a lo hi) :: r) ρ = lockS r ρ := rfl
theorem lk_rev {a : E} {r : List E} : lockS ((.rev a) :: r) ρ = lockS r ρ := rfl
theorem lk_call {k : Nat} {es : List E} {r : List E} : lockS ((.call k es) :: r) ρ = lockS r ρ := rfl
theorem lk_bi {b : Bi} {es : List E} {r : List E} : lockS ((.bi b es) :: r) ρ = lockS r ρ := rfl
theorem lk_isi {a : E} {ts : List Ty} {r : List E} : lockS ((.isi a ts) :: r) ρ = lockS r ρ := rfl
theorem lk_comp {t : Tg} {sk : Sk} {ses cs : List E} {e : E} {r : List E} : lockS ((.comp t sk ses cs e) :: r) ρ = lockS r ρ := rfl
theorem lk_comp2 {t t2 : Tg} {sk sk2 : Sk} {ses cs ses2 cs2 : List E} {e : E} {r : List E} : lockS ((.comp2 t sk ses cs t2 sk2 ses2 cs2 e) :: r) ρ = lockS r ρ := rfl
theorem lk_draw {i j : Nat} {e : E} {r : List E} : lockS ((.draw i j e) :: r) ρ = lockS r ρ := rfl
theorem ul_nil {ρ₀ : FF.Env} : unlockS ρ₀ [] ρ = ρ := rfl
theorem ul_v {ρ₀ : FF.Env} {i : Nat} {r : List E} : unlockS ρ₀ (.v i :: r) ρ = unlockS ρ₀ r (match ρ₀[i]?, ρ[i]? with | some (.bx _), some (.lk d) => ρ.set i (.bx d) | _, _ => ρ) := rfl
theorem ul_c {d : D} {ρ₀ : FF.Env} {r : List E} : unlockS ρ₀ ((.c d) :: r) ρ = unlockS ρ₀ r ρ := rfl
theorem ul_g {k : Nat} {d : D} {ρ₀ : FF.Env} {r : List E} : unlockS ρ₀ ((.g k d) :: r) ρ = unlockS ρ₀ r ρ := rfl
theorem ul_bin {p : Bop} {a b : E} {ρ₀ : FF.Env} {r : List E} : unlockS ρ₀ ((.bin p a b) :: r) ρ = unlockS ρ₀ r ρ := rfl
theorem ul_neg {a : E} {ρ₀ : FF.Env} {r : List E} : unlockS ρ₀ ((.neg a) :: r) ρ = unlockS ρ₀ r ρ := rfl
theorem ul_cmp {p : Cop} {a b : E} {ρ₀ : FF.Env} {r : List E} : unlockS ρ₀ ((.cmp p a b) :: r) ρ = unlockS ρ₀ r ρ := rfl
theorem ul_chain {p q : Cop} {a b c : E} {ρ₀ : FF.Env} {r : List E} : unlockS ρ₀ ((.chain p q a b c) :: r) ρ = unlockS ρ₀ r ρ := rfl
theorem ul_nt {a : E} {ρ₀ : FF.Env} {r : List E} : unlockS ρ₀ ((.nt a) :: r) ρ = unlockS ρ₀ r ρ := rfl
theorem ul_and2 {a b : E} {ρ₀ : FF.Env} {r : List E} : unlockS ρ₀ ((.and2 a b) :: r) ρ = unlockS ρ₀ r ρ := rfl
theorem ul_or2 {a b : E} {ρ₀ : FF.Env} {r : List E} : unlockS ρ₀ ((.or2 a b) :: r) ρ = unlockS ρ₀ r ρ := rfl
theorem ul_tr {a : E} {ρ₀ : FF.Env} {r : List E} : unlockS ρ₀ ((.tr a) :: r) ρ = unlockS ρ₀ r ρ := rfl
theorem ul_ite {c a b : E} {ρ₀ : FF.Env} {r : List E} : unlockS ρ₀ ((.ite c a b) :: r) ρ = unlockS ρ₀ r ρ := rfl
theorem ul_tup {es : List E} {ρ₀ : FF.Env} {r : List E} : unlockS ρ₀ ((.tup es) :: r) ρ = unlockS ρ₀ r ρ := rfl
theorem ul_lst {es : List E} {ρ₀ : FF.Env} {r : List E} : unlockS ρ₀ ((.lst es) :: r) ρ = unlockS ρ₀ r ρ := rfl
theorem ul_ix {a i : E} {ρ₀ : FF.Env} {r : List E} : unlockS ρ₀ ((.ix a i) :: r) ρ = unlockS ρ₀ r ρ := rfl
theorem ul_sl {a : E} {lo hi : List E} {ρ₀ : FF.Env} {r : List E} : unlockS ρ₀ ((.sl a lo hi) :: r) ρ = unlockS ρ₀ r ρ := rfl
theorem ul_rev {a : E} {ρ₀ : FF.Env} {r : List E} : unlockS ρ₀ ((.rev a) :: r) ρ = unlockS ρ₀ r ρ := rfl
theorem ul_call {k : Nat} {es : List E} {ρ₀ : FF.Env} {r : List E} : unlockS ρ₀ ((.call k es) :: r) ρ = unlockS ρ₀ r ρ := rfl
theorem ul_bi {b : Bi} {es : List E} {ρ₀ : FF.Env} {r : List E} : unlockS ρ₀ ((.bi b es) :: r) ρ = unlockS ρ₀ r ρ := rfl
theorem ul_isi {a : E} {ts : List Ty} {ρ₀ : FF.Env} {r : List E} : unlockS ρ₀ ((.isi a ts) :: r) ρ = unlockS ρ₀ r ρ := rfl
theorem ul_comp {t : Tg} {sk : Sk} {ses cs : List E} {e : E} {ρ₀ : FF.Env} {r : List E} : unlockS ρ₀ ((.comp t sk ses cs e) :: r) ρ = unlockS ρ₀ r ρ := rfl
theorem ul_comp2 {t t2 : Tg} {sk sk2 : Sk} {ses cs ses2 cs2 : List E} {e : E} {ρ₀ : FF.Env} {r : List E} : unlockS ρ₀ ((.comp2 t sk ses cs t2 sk2 ses2 cs2 e) :: r) ρ = unlockS ρ₀ r ρ := rfl
theorem ul_draw {i j : Nat} {e : E} {ρ₀ : FF.Env} {r : List E} : unlockS ρ₀ ((.draw i j e) :: r) ρ = unlockS ρ₀ r ρ := rfl
theorem x_rtN : exec Γ .retN (s :: ρ) = .ret (.rt (.non, false), s :: ρ) := by rw [exec]
theorem x_brk : exec Γ .brk (s :: ρ) = .ret (.bk, s :: ρ) := by rw [exec]
theorem x_cnt : exec Γ .cont (s :: ρ) = .ret (.ct, s :: ρ) := by rw [exec]
theorem x_pas : exec Γ .pass (s :: ρ) = .ret (.nx, s :: ρ) := by rw [exec]
theorem x_frz {i : Nat} : exec Γ (.frz i) (s :: ρ) = match (s :: ρ)[i]? with | some (.bx d) => .ret (.nx, (s :: ρ).set i (.pl d)) | _ => .ret (.nx, s :: ρ) := by rw [exec] <;> rfl
theorem x_drp {e : E} : exec Γ (.drop e) (s :: ρ) = (ev Γ e true (s :: ρ)).bind fun _ => .ret (.nx, s :: ρ) := by rw [exec]
end
theorem st_l {xs : List D} {i : Int} {x : D} (h : 0 ≤ i) (g : i < xs.length) : setD (.lst xs) (.int i) x = some (.lst (xs.set i.toNat x)) := by
  simp only [setD]; rw [if_pos h, if_pos g]
theorem set_0 {α : Type} {a x : α} {r : List α} : (a :: r).set 0 x = x :: r := rfl
theorem set_s {α : Type} {a x : α} {r : List α} {n : Nat} : (a :: r).set (n + 1) x = a :: r.set n x := rfl
/-! ### sizes -/
theorem Sm.mono {m n : Nat} {i : Int} (h : i.natAbs < 2 ^ m) (l : m ≤ n) : Sm n i := ⟨Nat.lt_of_lt_of_le h (Nat.pow_le_pow_right (by decide) l)⟩
instance {i j : Int} {m n : Nat} [a : Sm m i] [b : Sm n j] : Sm (max m n + 1) (i + j) := ⟨bd_add a.lt b.lt⟩
instance {i j : Int} {m n : Nat} [a : Sm m i] [b : Sm n j] : Sm (max m n + 1) (i - j) := ⟨bd_sub a.lt b.lt⟩
instance {i j : Int} {m n : Nat} [a : Sm m i] [b : Sm n j] : Sm (m + n) (i * j) := ⟨bd_mul a.lt b.lt⟩
instance {i : Int} {m : Nat} [a : Sm m i] : Sm m (-i) := ⟨by rw [Int.natAbs_neg]; exact a.lt⟩
instance (priority := low) smLit {n : Nat} : Sm (OfNat.ofNat n) (no_index (OfNat.ofNat n : Int)) := ⟨by show n < 2 ^ n; exact Nat.lt_two_pow_self⟩
instance {i j : Int} {c : Prop} [Decidable c] {m n : Nat} [a : Sm m i] [b : Sm n j] : Sm (max m n) (if c then i else j) := ⟨by
  have := @pow_max m n
  have := a.lt; have := b.lt
  split <;> omega⟩
theorem sm_nat {d n k : Nat} (h : d < n) (hk : n ≤ 2 ^ k) : Sm k (d : Int) := ⟨by omega⟩
theorem sm_mod {i j : Int} {n : Nat} (hj : 0 < j) (b : Sm n j) : Sm n (i % j) := ⟨by
  have h1 := Int.emod_nonneg i (show j ≠ 0 by omega)
  have h2 := Int.emod_lt_of_pos i hj
  have := b.lt
  omega⟩
/-! ### fractions -/
def F (q : Rat) : D := .tup [.int q.num, .int q.den]
theorem F_inj {p q : Rat} : F p = F q ↔ p = q := by
  constructor
  · intro h
    simp only [F, D.tup.injEq, List.cons.injEq, D.int.injEq, and_true] at h
    exact Rat.ext h.1 (by omega)
  · intro h; rw [h]
/-- plain, of depth below n -/
class Pl (n : outParam Nat) (a : D) : Prop where
  h : pln n a = true
class Pls (n : outParam Nat) (xs : List D) : Prop where
  h : plns n xs = true
mutual
theorem pln_mono : ∀ {m n : Nat} (a : D), pln m a = true → m ≤ n → pln n a = true
  | m, n, .non, _, _ => by cases n <;> simp [pln]
  | m, n, .int _, _, _ => by cases n <;> simp [pln]
  | m, n, .str s, h, _ => by cases m <;> cases n <;> simpa [pln] using h
  | m + 1, n + 1, .lst xs, h, l => by simp only [pln] at h ⊢; exact plns_mono xs h (by omega)
  | m + 1, n + 1, .tup xs, h, l => by simp only [pln] at h ⊢; exact plns_mono xs h (by omega)
  | 0, _, .lst _, h, _ => by simp [pln] at h
  | 0, _, .tup _, h, _ => by simp [pln] at h
  | m + 1, 0, .lst _, h, l => by omega
  | m + 1, 0, .tup _, h, l => by omega
  | m, n, .bl _, h, _ => by cases m <;> simp [pln] at h
  | m, n, .dic _ _, h, _ => by cases m <;> simp [pln] at h
theorem plns_mono : ∀ {m n : Nat} (xs : List D), plns m xs = true → m ≤ n → plns n xs = true
  | m, n, [], _, _ => by simp [plns]
  | m, n, x :: xs, h, l => by
    simp only [plns, Bool.and_eq_true] at h ⊢
    exact ⟨pln_mono x h.1 l, plns_mono xs h.2 l⟩
end
instance : Pl 0 .non := ⟨by simp [pln]⟩
instance {i : Int} : Pl 0 (.int i) := ⟨by simp [pln]⟩
instance : Pls 0 [] := ⟨by simp [plns]⟩
instance {x : D} {xs : List D} {m n : Nat} [a : Pl m x] [b : Pls n xs] : Pls (max m n) (x :: xs) := ⟨by
  simp only [plns, pln_mono x a.h (Nat.le_max_left _ _), plns_mono xs b.h (Nat.le_max_right _ _), Bool.and_self]⟩
instance {xs : List D} {n : Nat} [a : Pls n xs] : Pl (n + 1) (.tup xs) := ⟨by simp only [pln]; exact a.h⟩
instance {xs : List D} {n : Nat} [a : Pls n xs] : Pl (n + 1) (.lst xs) := ⟨by simp only [pln]; exact a.h⟩
instance {q : Rat} : Pl 1 (F q) := ⟨by simp [F, pln, plns]⟩
theorem pl_str {s : List Nat} (h : s.all (· < 1114112) = true) : Pl 0 (.str s) := ⟨by simpa [pln] using h⟩
open Classical in
theorem q_eq {a b : D} {m n : Nat} [x : Pl m a] [y : Pl n b] (h : m ≤ 50) (g : n ≤ 50) : eqT a b = some (decide (a = b)) := eqT_pln (pln_mono a x.h h) (pln_mono b y.h g)
class SmQ (n : outParam Nat) (q : Rat) : Prop where
  num : q.num.natAbs < 2 ^ n
  den : q.den < 2 ^ n
instance {q : Rat} {n : Nat} [a : SmQ n q] : Sm n q.num := ⟨a.num⟩
instance {q : Rat} {n : Nat} [a : SmQ n q] : Sm n (q.den : Int) := ⟨by rw [Int.natAbs_natCast]; exact a.den⟩
theorem den_pos {q : Rat} : 0 < (q.den : Int) := by have := q.den_pos; omega
theorem natAbs_div_le (a b : Int) : (a / b).natAbs ≤ a.natAbs := Int.natAbs_ediv_le_natAbs a b
theorem smq_divInt {i j : Int} {m n : Nat} (a : Sm m i) (b : Sm n j) : SmQ (max m n + 1) (Rat.divInt i j) := by
  have := @pow_max m n
  have ha := a.lt; have hb := b.lt
  constructor
  · rw [Rat.num_divInt, Nat.pow_succ]
    have h1 := natAbs_div_le (j.sign * i) (j.gcd i)
    have h2 : (j.sign * i).natAbs ≤ i.natAbs := by
      rw [Int.natAbs_mul]
      rcases Int.lt_trichotomy j 0 with h | h | h
      · rw [Int.sign_eq_neg_one_of_neg h]; simp
      · subst h; simp
      · rw [Int.sign_eq_one_of_pos h]; simp
    have := nat2_pos (max m n)
    omega
  · rw [Rat.den_divInt, Nat.pow_succ]
    have := nat2_pos (max m n)
    split
    · omega
    · have h1 : j.natAbs / j.gcd i ≤ j.natAbs := Nat.div_le_self _ _
      omega
instance {i j : Int} {m n : Nat} [a : Sm m i] [b : Sm n j] : SmQ (max m n + 1) (Rat.divInt i j) := smq_divInt a b
theorem mkRat_smq {i : Int} {d m n : Nat} (a : i.natAbs < 2 ^ m) (b : d < 2 ^ n) : SmQ (max m n + 1) (mkRat i d) := by
  rw [← Rat.divInt_ofNat]
  exact smq_divInt ⟨a⟩ ⟨by rw [Int.natAbs_natCast]; exact b⟩
theorem SmQ.mono {m n : Nat} {q : Rat} (h : SmQ m q) (l : m ≤ n) : SmQ n q := ⟨Nat.lt_of_lt_of_le h.num (Nat.pow_le_pow_right (by decide) l), Nat.lt_of_lt_of_le h.den (Nat.pow_le_pow_right (by decide) l)⟩
theorem mul_lt_pow {a b m n : Nat} (h : a < 2 ^ m) (g : b < 2 ^ n) : a * b < 2 ^ (m + n) := by
  rw [Nat.pow_add]; exact Nat.mul_lt_mul'' h g
theorem smden {q : Rat} {n : Nat} (a : SmQ n q) : ((q.den : Int)).natAbs < 2 ^ n := by rw [Int.natAbs_natCast]; exact a.den
instance {p q : Rat} {m n : Nat} [a : SmQ m p] [b : SmQ n q] : SmQ (m + n + 2) (p + q) := by
  rw [Rat.add_def']
  refine (mkRat_smq (m := m + n + 1) (n := m + n) ?_ (mul_lt_pow a.den b.den)).mono (by omega)
  have h1 := bd_mul a.num (smden b)
  have h2 := bd_mul b.num (smden a)
  have h3 := bd_add h1 h2
  exact Nat.lt_of_lt_of_le h3 (Nat.pow_le_pow_right (by decide) (by omega))
instance {p q : Rat} {m n : Nat} [a : SmQ m p] [b : SmQ n q] : SmQ (m + n + 2) (p - q) := by
  rw [Rat.sub_def']
  refine (mkRat_smq (m := m + n + 1) (n := m + n) ?_ (mul_lt_pow a.den b.den)).mono (by omega)
  have h1 := bd_mul a.num (smden b)
  have h2 := bd_mul b.num (smden a)
  have h3 := bd_sub h1 h2
  exact Nat.lt_of_lt_of_le h3 (Nat.pow_le_pow_right (by decide) (by omega))
instance {p q : Rat} {m n : Nat} [a : SmQ m p] [b : SmQ n q] : SmQ (m + n + 1) (p * q) := by
  rw [Rat.mul_def']
  exact (mkRat_smq (m := m + n) (n := m + n) (bd_mul a.num b.num) (mul_lt_pow a.den b.den)).mono (by omega)
instance {p : Rat} {m : Nat} [a : SmQ m p] : SmQ m (-p) := ⟨by rw [Rat.neg_num, Int.natAbs_neg]; exact a.num, by rw [Rat.neg_den]; exact a.den⟩
instance {p : Rat} {m : Nat} [a : SmQ m p] : SmQ (m + 1) p⁻¹ := by
  rw [Rat.inv_def]
  exact (smq_divInt (m := m) (n := m) ⟨smden a⟩ ⟨a.num⟩).mono (by omega)
instance {p q : Rat} {m n : Nat} [a : SmQ m p] [b : SmQ n q] : SmQ (m + n + 2) (p / q) := by
  rw [Rat.div_def]
  have : SmQ (m + (n + 1) + 1) (p * q⁻¹) := inferInstance
  exact this.mono (by omega)
instance {i : Int} {m : Nat} [a : Sm m i] : SmQ (m + 1) (i : Rat) := ⟨by
  rw [Rat.num_intCast, Nat.pow_succ]; have := a.lt; omega, by rw [Rat.den_intCast]; have := nat2_pos m; rw [Nat.pow_succ]; omega⟩
instance (priority := low) smqLit {n : Nat} : SmQ (OfNat.ofNat n + 1) (no_index (OfNat.ofNat n : Rat)) := ⟨by
  rw [Rat.num_ofNat, Nat.pow_succ]; have : n < 2 ^ n := Nat.lt_two_pow_self
  show n < 2 ^ n * 2; omega, by
  rw [Rat.den_ofNat, Nat.pow_succ]; have := nat2_pos n; show 1 < 2 ^ n * 2; omega⟩
end FF

set_option Elab.async false
set_option linter.all false
set_option maxRecDepth 100000
set_option maxHeartbeats 8000000
/-! FF25: whiles; lowest terms. -/
namespace FF
section
variable {Γ : Sem} {s : Slot} {ρ : Env}
/-- a while's test and turn -/
def tstW (Γ : Sem) (c : E) (ρ : Env) : T Bool := blT (ev Γ c true ρ)
def trnW (Γ : Sem) (b : List S) (ρ : Env) : T Xs := execs Γ b ρ
theorem x_wh {f : Nat} {c : E} {b : List S} : exec Γ (.whl f c b) (s :: ρ) = whlL (tstW Γ c) (trnW Γ b) f (s :: ρ) := by rw [exec]; rfl
theorem whl_go {c : Env → T Bool} {b : Env → T Xs} {n : Nat} {ρ ρ' : Env} (h : c ρ = .ret true) (g : b ρ = .ret (.nx, ρ')) : whlL c b (n + 1) ρ = whlL c b n ρ' := by
  rw [whlL, h]
  simp only [T.bind, cond_true, g]
theorem whl_end {c : Env → T Bool} {b : Env → T Xs} {n : Nat} {ρ : Env} (h : c ρ = .ret false) : whlL c b (n + 1) ρ = .ret (.nx, ρ) := by
  rw [whlL, h]; rfl
end
def im_gcdT : E := (.cmp .gt (.v 3) (.c (.int 0)))
def im_gcdB : List S := [(.box 4 false (.bin .mod (.bi .int [(.v 2)]) (.v 3))), (.box 2 false (.v 3)), (.box 3 false (.v 4))]
theorem gcd_turn {Γ : Sem} {a b s4 s5 : Slot} {one other : Int} (h : 0 < other) : trnW Γ im_gcdB [a, b, .pl (.int one), .pl (.int other), s4, s5] = .ret (.nx, [a, b, .pl (.int other), .pl (.int (one % other)), .pl (.int (one % other)), s5]) := by
  simp (maxSteps := 10000000) (disch := omega) [trnW, im_gcdB, k_modp, h, b_ret, o_some, map_some, obind_some, k_add, k_sub, k_mul, k_ixl, k_ixt, ix_0, ix_1, ix_2, ix_3, rd_0, rd_b, rd_l, rd_s, own_0, own_p, own_s, own_n, e_c, e_g, e_v, e_bin, neg_i, e_neg, e_cmp, e_chain, e_nt, e_and, e_or, e_tr, e_ite, e_tup, e_lst, e_ix, e_sl, e_rev, e_call, e_bi, e_isi, e_draw, e_comp, turn_cons, turn_nil, es_nil, es_cons, eS_nil, eS_cons, eC_nil, eC_cons, eA_nil, eA_cons, arg_st, bl_ret, x_nil, then_nx, then_rt, then_ct, then_bk, x_cns, x_bx, x_asgn, x_par, eR_nil, eR_cons, par_nil, par_cons, x_ixs, x_ap, x_ifs, x_rt, x_fr, loop_nx, loop_ct, loop_bk, loop_rt, for_nil, for_cons, bindA, List.replicate, List.cons_append, List.nil_append, a_nm, a_tt, a_tl, as_n, as_c, List.set_cons_zero, List.set_cons_succ, List.length_cons, List.length_nil, setS, boxS, cond_true, cond_false, Bool.and_true, Bool.and_false, Bool.true_and, Bool.false_and, if_true, lk_nil, lk_v, lk_c, lk_g, lk_bin, lk_neg, lk_cmp, lk_chain, lk_nt, lk_and2, lk_or2, lk_tr, lk_ite, lk_tup, lk_lst, lk_ix, lk_sl, lk_rev, lk_call, lk_bi, lk_isi, lk_comp, lk_comp2, lk_draw, ul_nil, ul_v, ul_c, ul_g, ul_bin, ul_neg, ul_cmp, ul_chain, ul_nt, ul_and2, ul_or2, ul_tr, ul_ite, ul_tup, ul_lst, ul_ix, ul_sl, ul_rev, ul_call, ul_bi, ul_isi, ul_comp, ul_comp2, ul_draw, isV, tgS, tgSs, wipeE, rt_v, rt_c, rt_g, rt_bin, rt_neg, rt_cmp, rt_chain, rt_nt, rt_and2, rt_or2, rt_tr, rt_ite, rt_tup, rt_lst, rt_ix, rt_sl, rt_rev, rt_call, rt_bi, rt_isi, rt_comp, rt_comp2, rt_draw, b_lenl, b_lent, b_lens, b_abs, b_sum, b_max, b_min, b_max2, b_min2, b_tupl, b_tupt, b_lstl, b_lstt, b_inti, b_intb, b_all, b_any, b_gcd, is_nil, is_cons, bs_nil, bs_cons, s_seql, s_seqt, s_seqs, s_r1, s_r2, s_zip, s_zipt, s_enum, s_enumt, s_rev, s_revt, s_rr, z_cons, z_nil, z_nil2, n_cons, n_nil, sl_l, sl_t, one_0, one_1, cut_from, cut_to, rv_l, tr_n, tr_b, tr_i, tr_l, tr_t, x_rtN, x_brk, x_cnt, x_pas, x_frz, x_drp, List.getElem?_cons_zero, List.getElem?_cons_succ, arg_c, arg_g, arg_bin, arg_neg, arg_cmp, arg_chain, arg_nt, arg_and2, arg_or2, arg_tr, arg_ite, arg_tup, arg_lst, arg_ix, arg_sl, arg_rev, arg_call, arg_bi, arg_isi, arg_comp, arg_draw, bind_drw, blT_drw, then_drw, loop_drw, all_drw, all_ret, c_lt, c_le, c_gt, c_ge, c_eq, c_ne, c_isN, c_notN, isNon, q_eq, F_inj, k_addl, k_addt, k_ap, rng2, line, rangeL, List.sum_cons, List.sum_nil, tyD, allTy, run]
theorem gcd_test {Γ : Sem} {a b s4 s5 : Slot} {one other : Int} : tstW Γ im_gcdT [a, b, .pl (.int one), .pl (.int other), s4, s5] = .ret (decide (0 < other)) := by
  simp (maxSteps := 10000000) (disch := omega) [tstW, im_gcdT, b_ret, o_some, map_some, obind_some, k_add, k_sub, k_mul, k_ixl, k_ixt, ix_0, ix_1, ix_2, ix_3, rd_0, rd_b, rd_l, rd_s, own_0, own_p, own_s, own_n, e_c, e_g, e_v, e_bin, neg_i, e_neg, e_cmp, e_chain, e_nt, e_and, e_or, e_tr, e_ite, e_tup, e_lst, e_ix, e_sl, e_rev, e_call, e_bi, e_isi, e_draw, e_comp, turn_cons, turn_nil, es_nil, es_cons, eS_nil, eS_cons, eC_nil, eC_cons, eA_nil, eA_cons, arg_st, bl_ret, x_nil, then_nx, then_rt, then_ct, then_bk, x_cns, x_bx, x_asgn, x_par, eR_nil, eR_cons, par_nil, par_cons, x_ixs, x_ap, x_ifs, x_rt, x_fr, loop_nx, loop_ct, loop_bk, loop_rt, for_nil, for_cons, bindA, List.replicate, List.cons_append, List.nil_append, a_nm, a_tt, a_tl, as_n, as_c, List.set_cons_zero, List.set_cons_succ, List.length_cons, List.length_nil, setS, boxS, cond_true, cond_false, Bool.and_true, Bool.and_false, Bool.true_and, Bool.false_and, if_true, lk_nil, lk_v, lk_c, lk_g, lk_bin, lk_neg, lk_cmp, lk_chain, lk_nt, lk_and2, lk_or2, lk_tr, lk_ite, lk_tup, lk_lst, lk_ix, lk_sl, lk_rev, lk_call, lk_bi, lk_isi, lk_comp, lk_comp2, lk_draw, ul_nil, ul_v, ul_c, ul_g, ul_bin, ul_neg, ul_cmp, ul_chain, ul_nt, ul_and2, ul_or2, ul_tr, ul_ite, ul_tup, ul_lst, ul_ix, ul_sl, ul_rev, ul_call, ul_bi, ul_isi, ul_comp, ul_comp2, ul_draw, isV, tgS, tgSs, wipeE, rt_v, rt_c, rt_g, rt_bin, rt_neg, rt_cmp, rt_chain, rt_nt, rt_and2, rt_or2, rt_tr, rt_ite, rt_tup, rt_lst, rt_ix, rt_sl, rt_rev, rt_call, rt_bi, rt_isi, rt_comp, rt_comp2, rt_draw, b_lenl, b_lent, b_lens, b_abs, b_sum, b_max, b_min, b_max2, b_min2, b_tupl, b_tupt, b_lstl, b_lstt, b_inti, b_intb, b_all, b_any, b_gcd, is_nil, is_cons, bs_nil, bs_cons, s_seql, s_seqt, s_seqs, s_r1, s_r2, s_zip, s_zipt, s_enum, s_enumt, s_rev, s_revt, s_rr, z_cons, z_nil, z_nil2, n_cons, n_nil, sl_l, sl_t, one_0, one_1, cut_from, cut_to, rv_l, tr_n, tr_b, tr_i, tr_l, tr_t, x_rtN, x_brk, x_cnt, x_pas, x_frz, x_drp, List.getElem?_cons_zero, List.getElem?_cons_succ, arg_c, arg_g, arg_bin, arg_neg, arg_cmp, arg_chain, arg_nt, arg_and2, arg_or2, arg_tr, arg_ite, arg_tup, arg_lst, arg_ix, arg_sl, arg_rev, arg_call, arg_bi, arg_isi, arg_comp, arg_draw, bind_drw, blT_drw, then_drw, loop_drw, all_drw, all_ret, c_lt, c_le, c_gt, c_ge, c_eq, c_ne, c_isN, c_notN, isNon, q_eq, F_inj, k_addl, k_addt, k_ap, rng2, line, rangeL, List.sum_cons, List.sum_nil, tyD, allTy, run]
theorem gcd_loop {Γ : Sem} {a b s5 : Slot} : ∀ (k n one other : Nat) (s4 : Slot), other < 2 ^ k → 2 * k + 1 ≤ n → ∃ s4', whlL (tstW Γ im_gcdT) (trnW Γ im_gcdB) n [a, b, .pl (.int (one : Int)), .pl (.int (other : Int)), s4, s5] = .ret (.nx, [a, b, .pl (.int (Nat.gcd one other : Nat)), .pl (.int 0), s4', s5])
  | 0, n + 1, one, other, s4, h, hn => by
    have e : other = 0 := by omega
    subst e
    exact ⟨s4, by rw [whl_end gcd_test, Nat.gcd_zero_right]; rfl⟩
  | k + 1, n + 2, one, other, s4, h, hn => by
    by_cases h0 : other = 0
    · subst h0
      exact ⟨s4, by rw [whl_end gcd_test, Nat.gcd_zero_right]; rfl⟩
    · have e1 : ((one : Int) % (other : Int)) = ((one % other : Nat) : Int) := by omega
      have t1 : decide (0 < (other : Int)) = true := decide_eq_true (by omega)
      by_cases h1 : one % other = 0
      · refine ⟨.pl (.int ((one % other : Nat) : Int)), ?_⟩
        rw [whl_go (gcd_test.trans (by rw [t1])) (gcd_turn (by omega)), e1, h1, whl_end gcd_test, Nat.gcd_comm, Nat.gcd_rec, h1, Nat.gcd_zero_left]; rfl
      · have hlt : one % other < other := Nat.mod_lt _ (by omega)
        have t2 : decide (0 < ((one % other : Nat) : Int)) = true := decide_eq_true (by omega)
        have e2 : ((other : Int) % ((one % other : Nat) : Int)) = ((other % (one % other) : Nat) : Int) := by omega
        have hs : other % (one % other) < 2 ^ k := by
          have g1 := Nat.mod_lt other (show 0 < one % other by omega)
          have g2 := Nat.div_add_mod other (one % other)
          have g3 : 1 ≤ other / (one % other) := Nat.div_pos (by omega) (by omega)
          have g4 : (one % other) ≤ (one % other) * (other / (one % other)) := Nat.le_mul_of_pos_right _ (by omega)
          rw [Nat.pow_succ] at h
          omega
        obtain ⟨s4', e⟩ := gcd_loop k n (one % other) (other % (one % other)) (.pl (.int ((other % (one % other) : Nat) : Int))) hs (by omega)
        refine ⟨s4', ?_⟩
        rw [whl_go (gcd_test.trans (by rw [t1])) (gcd_turn (by omega)), e1, whl_go (gcd_test.trans (by rw [t2])) (gcd_turn (by omega)), e2, e, Nat.gcd_comm one other, Nat.gcd_rec other one, Nat.gcd_rec (one % other) other, Nat.gcd_comm]
def im_law_lowest : List S := [(.par [(2, false), (3, false)] [(.bi .abs [(.v 0)]), (.bi .abs [(.v 1)])]), (.whl 1000000 im_gcdT im_gcdB), (.box 5 false (.ite (.cmp .lt (.v 1) (.c (.int 0))) (.neg (.c (.int 1))) (.c (.int 1)))), (.ret (.tup [(.bin .fdiv (.bin .mul (.v 5) (.v 0)) (.v 2)), (.bin .fdiv (.bin .mul (.v 5) (.v 1)) (.v 2))]))]
theorem abs_nat (a : Int) : (if a < 0 then -a else a) = (a.natAbs : Int) := by split <;> omega
theorem law_lowest {Γ : Sem} {a b : Int} {m n : Nat} [ha : Sm m a] [hb : Sm n b] (h : b ≠ 0) (hm : m ≤ 8000) (hn : n ≤ 8000) : run Γ im_law_lowest 4 [.d (.int a), .d (.int b)] = .ret (F (Rat.divInt a b), false) := by
  obtain ⟨s4, e⟩ := gcd_loop (Γ := Γ) (a := .pl (.int a)) (b := .pl (.int b)) (s5 := .no) n 1000000 a.natAbs b.natAbs .no hb.lt (by omega)
  have g0 : 0 < Nat.gcd a.natAbs b.natAbs := Nat.gcd_pos_of_pos_right _ (by omega)
  have g1 : Nat.gcd a.natAbs b.natAbs ≤ b.natAbs := Nat.gcd_le_right _ (by omega)
  have sg : Sm n ((Nat.gcd a.natAbs b.natAbs : Nat) : Int) := ⟨by have := hb.lt; omega⟩
  have hF : F (Rat.divInt a b) = .tup [.int ((if b < 0 then -1 else 1) * a / (Nat.gcd a.natAbs b.natAbs : Nat)), .int ((if b < 0 then -1 else 1) * b / (Nat.gcd a.natAbs b.natAbs : Nat))] := by
    unfold F
    rw [Rat.num_divInt, Rat.den_divInt, if_neg h, Int.gcd, Nat.gcd_comm]
    congr 2
    · congr 2
      rcases Int.lt_or_gt_of_ne h with q | q
      · rw [if_pos q, Int.sign_eq_neg_one_of_neg q]
      · rw [if_neg (by omega), Int.sign_eq_one_of_pos q]
    · congr 2
      rw [Int.natCast_ediv]
      congr 1
      split <;> omega
  rw [hF]
  have tp : (0 : Int) < ((Nat.gcd a.natAbs b.natAbs : Nat) : Int) := by omega
  generalize ((Nat.gcd a.natAbs b.natAbs : Nat) : Int) = g at *
  by_cases q : b < 0
  · simp (maxSteps := 10000000) (disch := omega) [im_law_lowest, x_wh, e, k_fdivp, tp, q, b_ret, o_some, map_some, obind_some, k_add, k_sub, k_mul, k_ixl, k_ixt, ix_0, ix_1, ix_2, ix_3, rd_0, rd_b, rd_l, rd_s, own_0, own_p, own_s, own_n, e_c, e_g, e_v, e_bin, neg_i, e_neg, e_cmp, e_chain, e_nt, e_and, e_or, e_tr, e_ite, e_tup, e_lst, e_ix, e_sl, e_rev, e_call, e_bi, e_isi, e_draw, e_comp, turn_cons, turn_nil, es_nil, es_cons, eS_nil, eS_cons, eC_nil, eC_cons, eA_nil, eA_cons, arg_st, bl_ret, x_nil, then_nx, then_rt, then_ct, then_bk, x_cns, x_bx, x_asgn, x_par, eR_nil, eR_cons, par_nil, par_cons, x_ixs, x_ap, x_ifs, x_rt, x_fr, loop_nx, loop_ct, loop_bk, loop_rt, for_nil, for_cons, bindA, List.replicate, List.cons_append, List.nil_append, a_nm, a_tt, a_tl, as_n, as_c, List.set_cons_zero, List.set_cons_succ, List.length_cons, List.length_nil, setS, boxS, cond_true, cond_false, Bool.and_true, Bool.and_false, Bool.true_and, Bool.false_and, if_true, lk_nil, lk_v, lk_c, lk_g, lk_bin, lk_neg, lk_cmp, lk_chain, lk_nt, lk_and2, lk_or2, lk_tr, lk_ite, lk_tup, lk_lst, lk_ix, lk_sl, lk_rev, lk_call, lk_bi, lk_isi, lk_comp, lk_comp2, lk_draw, ul_nil, ul_v, ul_c, ul_g, ul_bin, ul_neg, ul_cmp, ul_chain, ul_nt, ul_and2, ul_or2, ul_tr, ul_ite, ul_tup, ul_lst, ul_ix, ul_sl, ul_rev, ul_call, ul_bi, ul_isi, ul_comp, ul_comp2, ul_draw, isV, tgS, tgSs, wipeE, rt_v, rt_c, rt_g, rt_bin, rt_neg, rt_cmp, rt_chain, rt_nt, rt_and2, rt_or2, rt_tr, rt_ite, rt_tup, rt_lst, rt_ix, rt_sl, rt_rev, rt_call, rt_bi, rt_isi, rt_comp, rt_comp2, rt_draw, b_lenl, b_lent, b_lens, b_abs, b_sum, b_max, b_min, b_max2, b_min2, b_tupl, b_tupt, b_lstl, b_lstt, b_inti, b_intb, b_all, b_any, b_gcd, is_nil, is_cons, bs_nil, bs_cons, s_seql, s_seqt, s_seqs, s_r1, s_r2, s_zip, s_zipt, s_enum, s_enumt, s_rev, s_revt, s_rr, z_cons, z_nil, z_nil2, n_cons, n_nil, sl_l, sl_t, one_0, one_1, cut_from, cut_to, rv_l, tr_n, tr_b, tr_i, tr_l, tr_t, x_rtN, x_brk, x_cnt, x_pas, x_frz, x_drp, List.getElem?_cons_zero, List.getElem?_cons_succ, arg_c, arg_g, arg_bin, arg_neg, arg_cmp, arg_chain, arg_nt, arg_and2, arg_or2, arg_tr, arg_ite, arg_tup, arg_lst, arg_ix, arg_sl, arg_rev, arg_call, arg_bi, arg_isi, arg_comp, arg_draw, bind_drw, blT_drw, then_drw, loop_drw, all_drw, all_ret, c_lt, c_le, c_gt, c_ge, c_eq, c_ne, c_isN, c_notN, isNon, q_eq, F_inj, k_addl, k_addt, k_ap, rng2, line, rangeL, List.sum_cons, List.sum_nil, tyD, allTy, run]
  · simp (maxSteps := 10000000) (disch := omega) [im_law_lowest, x_wh, e, k_fdivp, tp, q, b_ret, o_some, map_some, obind_some, k_add, k_sub, k_mul, k_ixl, k_ixt, ix_0, ix_1, ix_2, ix_3, rd_0, rd_b, rd_l, rd_s, own_0, own_p, own_s, own_n, e_c, e_g, e_v, e_bin, neg_i, e_neg, e_cmp, e_chain, e_nt, e_and, e_or, e_tr, e_ite, e_tup, e_lst, e_ix, e_sl, e_rev, e_call, e_bi, e_isi, e_draw, e_comp, turn_cons, turn_nil, es_nil, es_cons, eS_nil, eS_cons, eC_nil, eC_cons, eA_nil, eA_cons, arg_st, bl_ret, x_nil, then_nx, then_rt, then_ct, then_bk, x_cns, x_bx, x_asgn, x_par, eR_nil, eR_cons, par_nil, par_cons, x_ixs, x_ap, x_ifs, x_rt, x_fr, loop_nx, loop_ct, loop_bk, loop_rt, for_nil, for_cons, bindA, List.replicate, List.cons_append, List.nil_append, a_nm, a_tt, a_tl, as_n, as_c, List.set_cons_zero, List.set_cons_succ, List.length_cons, List.length_nil, setS, boxS, cond_true, cond_false, Bool.and_true, Bool.and_false, Bool.true_and, Bool.false_and, if_true, lk_nil, lk_v, lk_c, lk_g, lk_bin, lk_neg, lk_cmp, lk_chain, lk_nt, lk_and2, lk_or2, lk_tr, lk_ite, lk_tup, lk_lst, lk_ix, lk_sl, lk_rev, lk_call, lk_bi, lk_isi, lk_comp, lk_comp2, lk_draw, ul_nil, ul_v, ul_c, ul_g, ul_bin, ul_neg, ul_cmp, ul_chain, ul_nt, ul_and2, ul_or2, ul_tr, ul_ite, ul_tup, ul_lst, ul_ix, ul_sl, ul_rev, ul_call, ul_bi, ul_isi, ul_comp, ul_comp2, ul_draw, isV, tgS, tgSs, wipeE, rt_v, rt_c, rt_g, rt_bin, rt_neg, rt_cmp, rt_chain, rt_nt, rt_and2, rt_or2, rt_tr, rt_ite, rt_tup, rt_lst, rt_ix, rt_sl, rt_rev, rt_call, rt_bi, rt_isi, rt_comp, rt_comp2, rt_draw, b_lenl, b_lent, b_lens, b_abs, b_sum, b_max, b_min, b_max2, b_min2, b_tupl, b_tupt, b_lstl, b_lstt, b_inti, b_intb, b_all, b_any, b_gcd, is_nil, is_cons, bs_nil, bs_cons, s_seql, s_seqt, s_seqs, s_r1, s_r2, s_zip, s_zipt, s_enum, s_enumt, s_rev, s_revt, s_rr, z_cons, z_nil, z_nil2, n_cons, n_nil, sl_l, sl_t, one_0, one_1, cut_from, cut_to, rv_l, tr_n, tr_b, tr_i, tr_l, tr_t, x_rtN, x_brk, x_cnt, x_pas, x_frz, x_drp, List.getElem?_cons_zero, List.getElem?_cons_succ, arg_c, arg_g, arg_bin, arg_neg, arg_cmp, arg_chain, arg_nt, arg_and2, arg_or2, arg_tr, arg_ite, arg_tup, arg_lst, arg_ix, arg_sl, arg_rev, arg_call, arg_bi, arg_isi, arg_comp, arg_draw, bind_drw, blT_drw, then_drw, loop_drw, all_drw, all_ret, c_lt, c_le, c_gt, c_ge, c_eq, c_ne, c_isN, c_notN, isNon, q_eq, F_inj, k_addl, k_addt, k_ap, rng2, line, rangeL, List.sum_cons, List.sum_nil, tyD, allTy, run]
def im_lowest : List S := [(.box 2 false (.ite (.cmp .gt (.v 1) (.c (.int 0))) (.bi .gcd [(.v 0), (.v 1)]) (.neg (.bi .gcd [(.v 0), (.v 1)])))), (.ret (.tup [(.bin .fdiv (.v 0) (.v 2)), (.bin .fdiv (.v 1) (.v 2))]))]
theorem lowest {Γ : Sem} {a b : Int} {n : Nat} [hb : Sm n b] (h : b ≠ 0) (hn : n ≤ 8000) : run Γ im_lowest 1 [.d (.int a), .d (.int b)] = .ret (F (Rat.divInt a b), false) := by
  have g0 : 0 < Nat.gcd a.natAbs b.natAbs := Nat.gcd_pos_of_pos_right _ (by omega)
  have g1 : Nat.gcd a.natAbs b.natAbs ≤ b.natAbs := Nat.gcd_le_right _ (by omega)
  have sg : Sm n ((Nat.gcd a.natAbs b.natAbs : Nat) : Int) := ⟨by have := hb.lt; omega⟩
  have tp : (0 : Int) < ((Nat.gcd a.natAbs b.natAbs : Nat) : Int) := by omega
  have d1 : ((Nat.gcd a.natAbs b.natAbs : Nat) : Int) ∣ a := Int.ofNat_dvd_left.mpr (Nat.gcd_dvd_left _ _)
  have d2 : ((Nat.gcd a.natAbs b.natAbs : Nat) : Int) ∣ b := Int.ofNat_dvd_left.mpr (Nat.gcd_dvd_right _ _)
  have hF : F (Rat.divInt a b) = .tup [.int (b.sign * a / (Nat.gcd a.natAbs b.natAbs : Nat)), .int (b.natAbs / (Nat.gcd a.natAbs b.natAbs : Nat))] := by
    unfold F
    rw [Rat.num_divInt, Rat.den_divInt, if_neg h, Int.gcd, Nat.gcd_comm, Int.natCast_ediv]
  rw [hF]
  generalize hg : ((Nat.gcd a.natAbs b.natAbs : Nat) : Int) = g at *
  rcases Int.lt_or_gt_of_ne h with q | q
  · have q' : ¬ 0 < b := by omega
    have e1 : a.fdiv (-g) = b.sign * a / g := by
      obtain ⟨c, rfl⟩ := d1
      rw [Int.sign_eq_neg_one_of_neg q, Int.fdiv_eq_ediv_of_dvd (by rw [Int.neg_dvd]; exact Int.dvd_mul_right _ _), Int.ediv_neg, Int.mul_ediv_cancel_left _ (by omega), Int.neg_one_mul, ← Int.mul_neg, Int.mul_ediv_cancel_left _ (by omega)]
    have e2 : b.fdiv (-g) = b.natAbs / g := by
      rw [show ((b.natAbs : Nat) : Int) = -b by omega]
      obtain ⟨c, rfl⟩ := d2
      rw [Int.fdiv_eq_ediv_of_dvd (by rw [Int.neg_dvd]; exact Int.dvd_mul_right _ _), Int.ediv_neg, Int.mul_ediv_cancel_left _ (by omega), ← Int.mul_neg, Int.mul_ediv_cancel_left _ (by omega)]
    have n0 : -g ≠ 0 := by omega
    rw [← e1, ← e2]
    simp (maxSteps := 10000000) (disch := omega) [im_lowest, hg, q', k_fdiv, n0, b_ret, o_some, map_some, obind_some, k_add, k_sub, k_mul, k_ixl, k_ixt, ix_0, ix_1, ix_2, ix_3, rd_0, rd_b, rd_l, rd_s, own_0, own_p, own_s, own_n, e_c, e_g, e_v, e_bin, neg_i, e_neg, e_cmp, e_chain, e_nt, e_and, e_or, e_tr, e_ite, e_tup, e_lst, e_ix, e_sl, e_rev, e_call, e_bi, e_isi, e_draw, e_comp, turn_cons, turn_nil, es_nil, es_cons, eS_nil, eS_cons, eC_nil, eC_cons, eA_nil, eA_cons, arg_st, bl_ret, x_nil, then_nx, then_rt, then_ct, then_bk, x_cns, x_bx, x_asgn, x_par, eR_nil, eR_cons, par_nil, par_cons, x_ixs, x_ap, x_ifs, x_rt, x_fr, loop_nx, loop_ct, loop_bk, loop_rt, for_nil, for_cons, bindA, List.replicate, List.cons_append, List.nil_append, a_nm, a_tt, a_tl, as_n, as_c, List.set_cons_zero, List.set_cons_succ, List.length_cons, List.length_nil, setS, boxS, cond_true, cond_false, Bool.and_true, Bool.and_false, Bool.true_and, Bool.false_and, if_true, lk_nil, lk_v, lk_c, lk_g, lk_bin, lk_neg, lk_cmp, lk_chain, lk_nt, lk_and2, lk_or2, lk_tr, lk_ite, lk_tup, lk_lst, lk_ix, lk_sl, lk_rev, lk_call, lk_bi, lk_isi, lk_comp, lk_comp2, lk_draw, ul_nil, ul_v, ul_c, ul_g, ul_bin, ul_neg, ul_cmp, ul_chain, ul_nt, ul_and2, ul_or2, ul_tr, ul_ite, ul_tup, ul_lst, ul_ix, ul_sl, ul_rev, ul_call, ul_bi, ul_isi, ul_comp, ul_comp2, ul_draw, isV, tgS, tgSs, wipeE, rt_v, rt_c, rt_g, rt_bin, rt_neg, rt_cmp, rt_chain, rt_nt, rt_and2, rt_or2, rt_tr, rt_ite, rt_tup, rt_lst, rt_ix, rt_sl, rt_rev, rt_call, rt_bi, rt_isi, rt_comp, rt_comp2, rt_draw, b_lenl, b_lent, b_lens, b_abs, b_sum, b_max, b_min, b_max2, b_min2, b_tupl, b_tupt, b_lstl, b_lstt, b_inti, b_intb, b_all, b_any, b_gcd, is_nil, is_cons, bs_nil, bs_cons, s_seql, s_seqt, s_seqs, s_r1, s_r2, s_zip, s_zipt, s_enum, s_enumt, s_rev, s_revt, s_rr, z_cons, z_nil, z_nil2, n_cons, n_nil, sl_l, sl_t, one_0, one_1, cut_from, cut_to, rv_l, tr_n, tr_b, tr_i, tr_l, tr_t, x_rtN, x_brk, x_cnt, x_pas, x_frz, x_drp, List.getElem?_cons_zero, List.getElem?_cons_succ, arg_c, arg_g, arg_bin, arg_neg, arg_cmp, arg_chain, arg_nt, arg_and2, arg_or2, arg_tr, arg_ite, arg_tup, arg_lst, arg_ix, arg_sl, arg_rev, arg_call, arg_bi, arg_isi, arg_comp, arg_draw, bind_drw, blT_drw, then_drw, loop_drw, all_drw, all_ret, c_lt, c_le, c_gt, c_ge, c_eq, c_ne, c_isN, c_notN, isNon, q_eq, F_inj, k_addl, k_addt, k_ap, rng2, line, rangeL, List.sum_cons, List.sum_nil, tyD, allTy, run]
  · rw [Int.sign_eq_one_of_pos q, Int.one_mul, show ((b.natAbs : Nat) : Int) = b by omega]
    simp (maxSteps := 10000000) (disch := omega) [im_lowest, hg, q, k_fdivp, tp, b_ret, o_some, map_some, obind_some, k_add, k_sub, k_mul, k_ixl, k_ixt, ix_0, ix_1, ix_2, ix_3, rd_0, rd_b, rd_l, rd_s, own_0, own_p, own_s, own_n, e_c, e_g, e_v, e_bin, neg_i, e_neg, e_cmp, e_chain, e_nt, e_and, e_or, e_tr, e_ite, e_tup, e_lst, e_ix, e_sl, e_rev, e_call, e_bi, e_isi, e_draw, e_comp, turn_cons, turn_nil, es_nil, es_cons, eS_nil, eS_cons, eC_nil, eC_cons, eA_nil, eA_cons, arg_st, bl_ret, x_nil, then_nx, then_rt, then_ct, then_bk, x_cns, x_bx, x_asgn, x_par, eR_nil, eR_cons, par_nil, par_cons, x_ixs, x_ap, x_ifs, x_rt, x_fr, loop_nx, loop_ct, loop_bk, loop_rt, for_nil, for_cons, bindA, List.replicate, List.cons_append, List.nil_append, a_nm, a_tt, a_tl, as_n, as_c, List.set_cons_zero, List.set_cons_succ, List.length_cons, List.length_nil, setS, boxS, cond_true, cond_false, Bool.and_true, Bool.and_false, Bool.true_and, Bool.false_and, if_true, lk_nil, lk_v, lk_c, lk_g, lk_bin, lk_neg, lk_cmp, lk_chain, lk_nt, lk_and2, lk_or2, lk_tr, lk_ite, lk_tup, lk_lst, lk_ix, lk_sl, lk_rev, lk_call, lk_bi, lk_isi, lk_comp, lk_comp2, lk_draw, ul_nil, ul_v, ul_c, ul_g, ul_bin, ul_neg, ul_cmp, ul_chain, ul_nt, ul_and2, ul_or2, ul_tr, ul_ite, ul_tup, ul_lst, ul_ix, ul_sl, ul_rev, ul_call, ul_bi, ul_isi, ul_comp, ul_comp2, ul_draw, isV, tgS, tgSs, wipeE, rt_v, rt_c, rt_g, rt_bin, rt_neg, rt_cmp, rt_chain, rt_nt, rt_and2, rt_or2, rt_tr, rt_ite, rt_tup, rt_lst, rt_ix, rt_sl, rt_rev, rt_call, rt_bi, rt_isi, rt_comp, rt_comp2, rt_draw, b_lenl, b_lent, b_lens, b_abs, b_sum, b_max, b_min, b_max2, b_min2, b_tupl, b_tupt, b_lstl, b_lstt, b_inti, b_intb, b_all, b_any, b_gcd, is_nil, is_cons, bs_nil, bs_cons, s_seql, s_seqt, s_seqs, s_r1, s_r2, s_zip, s_zipt, s_enum, s_enumt, s_rev, s_revt, s_rr, z_cons, z_nil, z_nil2, n_cons, n_nil, sl_l, sl_t, one_0, one_1, cut_from, cut_to, rv_l, tr_n, tr_b, tr_i, tr_l, tr_t, x_rtN, x_brk, x_cnt, x_pas, x_frz, x_drp, List.getElem?_cons_zero, List.getElem?_cons_succ, arg_c, arg_g, arg_bin, arg_neg, arg_cmp, arg_chain, arg_nt, arg_and2, arg_or2, arg_tr, arg_ite, arg_tup, arg_lst, arg_ix, arg_sl, arg_rev, arg_call, arg_bi, arg_isi, arg_comp, arg_draw, bind_drw, blT_drw, then_drw, loop_drw, all_drw, all_ret, c_lt, c_le, c_gt, c_ge, c_eq, c_ne, c_isN, c_notN, isNon, q_eq, F_inj, k_addl, k_addt, k_ap, rng2, line, rangeL, List.sum_cons, List.sum_nil, tyD, allTy, run]
end FF

set_option Elab.async false
set_option linter.all false
set_option maxRecDepth 100000
set_option maxHeartbeats 8000000
/-! FF26: exact comparison as a test; the law's steps. -/
namespace FF
mutual
/-- of depth below n, lists of at most l -/
def szl : Nat → Nat → D → Bool
  | n + 1, l, .lst xs => decide (xs.length ≤ l) && szls n l xs
  | n + 1, l, .tup xs => decide (xs.length ≤ l) && szls n l xs
  | _, _, .str s => s.all (· < 1114112)
  | _, _, .non => true
  | _, _, .bl _ => true
  | _, _, .int _ => true
  | _, _, _ => false
def szls : Nat → Nat → List D → Bool
  | _, _, [] => true
  | n, l, x :: xs => szl n l x && szls n l xs
end
mutual
theorem szl_mono : ∀ {m n k l : Nat} (a : D), szl m k a = true → m ≤ n → k ≤ l → szl n l a = true
  | m, n, _, _, .non, _, _, _ => by cases n <;> simp [szl]
  | m, n, _, _, .bl _, _, _, _ => by cases n <;> simp [szl]
  | m, n, _, _, .int _, _, _, _ => by cases n <;> simp [szl]
  | m, n, _, _, .str s, h, _, _ => by cases m <;> cases n <;> simpa [szl] using h
  | m + 1, n + 1, k, l, .lst xs, h, g, e => by
    simp only [szl, Bool.and_eq_true, decide_eq_true_eq] at h ⊢; exact ⟨by omega, szls_mono xs h.2 (by omega) e⟩
  | m + 1, n + 1, k, l, .tup xs, h, g, e => by
    simp only [szl, Bool.and_eq_true, decide_eq_true_eq] at h ⊢; exact ⟨by omega, szls_mono xs h.2 (by omega) e⟩
  | 0, _, _, _, .lst _, h, _, _ => by simp [szl] at h
  | 0, _, _, _, .tup _, h, _, _ => by simp [szl] at h
  | m + 1, 0, _, _, .lst _, h, l, _ => by omega
  | m + 1, 0, _, _, .tup _, h, l, _ => by omega
  | m, n, _, _, .dic _ _, h, _, _ => by cases m <;> simp [szl] at h
theorem szls_mono : ∀ {m n k l : Nat} (xs : List D), szls m k xs = true → m ≤ n → k ≤ l → szls n l xs = true
  | m, n, _, _, [], _, _, _ => by simp [szls]
  | m, n, _, _, x :: xs, h, l, e => by
    simp only [szls, Bool.and_eq_true] at h ⊢
    exact ⟨szl_mono x h.1 l e, szls_mono xs h.2 l e⟩
end
mutual
theorem szl_sz : ∀ {n : Nat} (a : D), szl n 1000000 a = true → sz (n + 1) a = true
  | n, .non, _ => by simp [sz]
  | n, .bl _, _ => by simp [sz]
  | n, .int _, _ => by simp [sz]
  | n, .str s, h => by cases n <;> simpa [szl, sz] using h
  | n + 1, .lst xs, h => by
    simp only [szl, sz, Bool.and_eq_true] at h ⊢; exact ⟨h.1, szls_szs xs h.2⟩
  | n + 1, .tup xs, h => by
    simp only [szl, sz, Bool.and_eq_true] at h ⊢; exact ⟨h.1, szls_szs xs h.2⟩
  | 0, .lst _, h => by simp [szl] at h
  | 0, .tup _, h => by simp [szl] at h
  | n, .dic _ _, h => by cases n <;> simp [szl] at h
theorem szls_szs : ∀ {n : Nat} (xs : List D), szls n 1000000 xs = true → szs (n + 1) xs = true
  | n, [], _ => by simp [szs]
  | n, x :: xs, h => by
    simp only [szls, szs, Bool.and_eq_true] at h ⊢
    exact ⟨szl_sz x h.1, szls_szs xs h.2⟩
end
class Sz (n l : outParam Nat) (a : D) : Prop where
  h : szl n l a = true
class Szs (n l k : outParam Nat) (xs : List D) : Prop where
  h : szls n l xs = true
  len : xs.length = k
instance : Sz 0 0 .non := ⟨by simp [szl]⟩
instance {b : Bool} : Sz 0 0 (.bl b) := ⟨by simp [szl]⟩
instance {i : Int} : Sz 0 0 (.int i) := ⟨by simp [szl]⟩
instance : Szs 0 0 0 [] := ⟨by simp [szls], rfl⟩
instance {x : D} {xs : List D} {m n k l e : Nat} [a : Sz m k x] [b : Szs n l e xs] : Szs (max m n) (max k l) (e + 1) (x :: xs) := ⟨by
  simp only [szls, szl_mono x a.h (Nat.le_max_left _ _) (Nat.le_max_left _ _), szls_mono xs b.h (Nat.le_max_right _ _) (Nat.le_max_right _ _), Bool.and_self], by
  simp [b.len]⟩
instance {xs : List D} {n l e : Nat} [a : Szs n l e xs] : Sz (n + 1) (max l e) (.tup xs) := ⟨by
  simp only [szl, Bool.and_eq_true, decide_eq_true_eq, a.len]; exact ⟨Nat.le_max_right _ _, szls_mono xs a.h (Nat.le_refl _) (Nat.le_max_left _ _)⟩⟩
instance {xs : List D} {n l e : Nat} [a : Szs n l e xs] : Sz (n + 1) (max l e) (.lst xs) := ⟨by
  simp only [szl, Bool.and_eq_true, decide_eq_true_eq, a.len]; exact ⟨Nat.le_max_right _ _, szls_mono xs a.h (Nat.le_refl _) (Nat.le_max_left _ _)⟩⟩
instance {q : Rat} : Sz 1 2 (F q) := ⟨by simp [F, szl, szls]⟩
instance {c : Prop} [Decidable c] {x y : D} {m n k l : Nat} [a : Sz m k x] [b : Sz n l y] : Sz (max m n) (max k l) (if c then x else y) := ⟨by
  split
  · exact szl_mono x a.h (Nat.le_max_left _ _) (Nat.le_max_left _ _)
  · exact szl_mono y b.h (Nat.le_max_right _ _) (Nat.le_max_right _ _)⟩
/-- what exact comparison says of unlike data -/
def rx (j : Nat) (a b : D) : T Rs := r_exact j 10 [.d a, .d b]
open Classical in
theorem ex_ite {j : Nat} {a b : D} {n l : Nat} [x : Sz n l a] (h : n ≤ 9) (g : l ≤ 1000000) : r_exact j 10 [.d a, .d b] = if a = b then .ret (.bl true, false) else rx j a b := by
  split
  · rename_i e
    subst e
    exact exact_self j 10 a (szl_sz a (szl_mono a x.h h g))
  · rfl
theorem Sm.up {m n : Nat} {i : Int} (a : Sm m i) (l : m ≤ n) : Sm n i := .mono a.lt l
theorem F0 {q : Rat} : ixD (F q) (.int 0) = some (.int q.num) := rfl
theorem F1 {q : Rat} : ixD (F q) (.int 1) = some (.int q.den) := rfl
theorem dv_add {p q : Rat} : Rat.divInt (p.num * q.den + q.num * p.den) (p.den * q.den) = p + q := by
  rw [Rat.add_def', ← Rat.divInt_ofNat, Int.natCast_mul]
theorem dv_mul {p q : Rat} : Rat.divInt (p.num * q.num) (p.den * q.den) = p * q := by
  rw [Rat.mul_def', ← Rat.divInt_ofNat, Int.natCast_mul]
theorem F_neg {q : Rat} : (D.tup [.int (-q.num), .int q.den]) = F (-q) := rfl
theorem F_num {q : Rat} : (D.tup [.int q.num, .int q.den]) = F q := rfl
theorem F_one : (D.tup [.int 1, .int 1]) = F 1 := rfl
theorem F_zero : (D.tup [.int 0, .int 1]) = F 0 := rfl
theorem dd_ne {p q : Rat} : (p.den : Int) * q.den ≠ 0 := by
  have := Int.mul_pos (@den_pos p) (@den_pos q)
  omega
theorem den_ne {p : Rat} : (p.den : Int) ≠ 0 := by have := @den_pos p; omega
theorem ix_4 {α : Type} {a0 a1 a2 a3 a4 : α} {r : List α} : ixAt (a0 :: a1 :: a2 :: a3 :: a4 :: r) 4 = some a4 := rfl
theorem ix_5 {α : Type} {a0 a1 a2 a3 a4 a5 : α} {r : List α} : ixAt (a0 :: a1 :: a2 :: a3 :: a4 :: a5 :: r) 5 = some a5 := rfl
theorem ix_6 {α : Type} {a0 a1 a2 a3 a4 a5 a6 : α} {r : List α} : ixAt (a0 :: a1 :: a2 :: a3 :: a4 :: a5 :: a6 :: r) 6 = some a6 := rfl
theorem ix_7 {α : Type} {a0 a1 a2 a3 a4 a5 a6 a7 : α} {r : List α} : ixAt (a0 :: a1 :: a2 :: a3 :: a4 :: a5 :: a6 :: a7 :: r) 7 = some a7 := rfl
theorem ix_8 {α : Type} {a0 a1 a2 a3 a4 a5 a6 a7 a8 : α} {r : List α} : ixAt (a0 :: a1 :: a2 :: a3 :: a4 :: a5 :: a6 :: a7 :: a8 :: r) 8 = some a8 := rfl
theorem ix_9 {α : Type} {a0 a1 a2 a3 a4 a5 a6 a7 a8 a9 : α} {r : List α} : ixAt (a0 :: a1 :: a2 :: a3 :: a4 :: a5 :: a6 :: a7 :: a8 :: a9 :: r) 9 = some a9 := rfl
theorem ix_10 {α : Type} {a0 a1 a2 a3 a4 a5 a6 a7 a8 a9 a10 : α} {r : List α} : ixAt (a0 :: a1 :: a2 :: a3 :: a4 :: a5 :: a6 :: a7 :: a8 :: a9 :: a10 :: r) 10 = some a10 := rfl
theorem ix_11 {α : Type} {a0 a1 a2 a3 a4 a5 a6 a7 a8 a9 a10 a11 : α} {r : List α} : ixAt (a0 :: a1 :: a2 :: a3 :: a4 :: a5 :: a6 :: a7 :: a8 :: a9 :: a10 :: a11 :: r) 11 = some a11 := rfl
theorem ix_12 {α : Type} {a0 a1 a2 a3 a4 a5 a6 a7 a8 a9 a10 a11 a12 : α} {r : List α} : ixAt (a0 :: a1 :: a2 :: a3 :: a4 :: a5 :: a6 :: a7 :: a8 :: a9 :: a10 :: a11 :: a12 :: r) 12 = some a12 := rfl
theorem st_0 {a0 x : D} {r : List D} : setD (.lst (a0 :: r)) (.int 0) x = some (.lst (x :: r)) := by
  simp only [setD]; rw [if_pos (by decide), if_pos (by simp only [List.length_cons]; omega)]; rfl
theorem st_1 {a0 a1 x : D} {r : List D} : setD (.lst (a0 :: a1 :: r)) (.int 1) x = some (.lst (a0 :: x :: r)) := by
  simp only [setD]; rw [if_pos (by decide), if_pos (by simp only [List.length_cons]; omega)]; rfl
theorem st_2 {a0 a1 a2 x : D} {r : List D} : setD (.lst (a0 :: a1 :: a2 :: r)) (.int 2) x = some (.lst (a0 :: a1 :: x :: r)) := by
  simp only [setD]; rw [if_pos (by decide), if_pos (by simp only [List.length_cons]; omega)]; rfl
theorem st_3 {a0 a1 a2 a3 x : D} {r : List D} : setD (.lst (a0 :: a1 :: a2 :: a3 :: r)) (.int 3) x = some (.lst (a0 :: a1 :: a2 :: x :: r)) := by
  simp only [setD]; rw [if_pos (by decide), if_pos (by simp only [List.length_cons]; omega)]; rfl
theorem st_4 {a0 a1 a2 a3 a4 x : D} {r : List D} : setD (.lst (a0 :: a1 :: a2 :: a3 :: a4 :: r)) (.int 4) x = some (.lst (a0 :: a1 :: a2 :: a3 :: x :: r)) := by
  simp only [setD]; rw [if_pos (by decide), if_pos (by simp only [List.length_cons]; omega)]; rfl
theorem st_5 {a0 a1 a2 a3 a4 a5 x : D} {r : List D} : setD (.lst (a0 :: a1 :: a2 :: a3 :: a4 :: a5 :: r)) (.int 5) x = some (.lst (a0 :: a1 :: a2 :: a3 :: a4 :: x :: r)) := by
  simp only [setD]; rw [if_pos (by decide), if_pos (by simp only [List.length_cons]; omega)]; rfl
theorem st_6 {a0 a1 a2 a3 a4 a5 a6 x : D} {r : List D} : setD (.lst (a0 :: a1 :: a2 :: a3 :: a4 :: a5 :: a6 :: r)) (.int 6) x = some (.lst (a0 :: a1 :: a2 :: a3 :: a4 :: a5 :: x :: r)) := by
  simp only [setD]; rw [if_pos (by decide), if_pos (by simp only [List.length_cons]; omega)]; rfl
theorem st_7 {a0 a1 a2 a3 a4 a5 a6 a7 x : D} {r : List D} : setD (.lst (a0 :: a1 :: a2 :: a3 :: a4 :: a5 :: a6 :: a7 :: r)) (.int 7) x = some (.lst (a0 :: a1 :: a2 :: a3 :: a4 :: a5 :: a6 :: x :: r)) := by
  simp only [setD]; rw [if_pos (by decide), if_pos (by simp only [List.length_cons]; omega)]; rfl
theorem st_8 {a0 a1 a2 a3 a4 a5 a6 a7 a8 x : D} {r : List D} : setD (.lst (a0 :: a1 :: a2 :: a3 :: a4 :: a5 :: a6 :: a7 :: a8 :: r)) (.int 8) x = some (.lst (a0 :: a1 :: a2 :: a3 :: a4 :: a5 :: a6 :: a7 :: x :: r)) := by
  simp only [setD]; rw [if_pos (by decide), if_pos (by simp only [List.length_cons]; omega)]; rfl
theorem st_9 {a0 a1 a2 a3 a4 a5 a6 a7 a8 a9 x : D} {r : List D} : setD (.lst (a0 :: a1 :: a2 :: a3 :: a4 :: a5 :: a6 :: a7 :: a8 :: a9 :: r)) (.int 9) x = some (.lst (a0 :: a1 :: a2 :: a3 :: a4 :: a5 :: a6 :: a7 :: a8 :: x :: r)) := by
  simp only [setD]; rw [if_pos (by decide), if_pos (by simp only [List.length_cons]; omega)]; rfl
theorem st_10 {a0 a1 a2 a3 a4 a5 a6 a7 a8 a9 a10 x : D} {r : List D} : setD (.lst (a0 :: a1 :: a2 :: a3 :: a4 :: a5 :: a6 :: a7 :: a8 :: a9 :: a10 :: r)) (.int 10) x = some (.lst (a0 :: a1 :: a2 :: a3 :: a4 :: a5 :: a6 :: a7 :: a8 :: a9 :: x :: r)) := by
  simp only [setD]; rw [if_pos (by decide), if_pos (by simp only [List.length_cons]; omega)]; rfl
theorem st_11 {a0 a1 a2 a3 a4 a5 a6 a7 a8 a9 a10 a11 x : D} {r : List D} : setD (.lst (a0 :: a1 :: a2 :: a3 :: a4 :: a5 :: a6 :: a7 :: a8 :: a9 :: a10 :: a11 :: r)) (.int 11) x = some (.lst (a0 :: a1 :: a2 :: a3 :: a4 :: a5 :: a6 :: a7 :: a8 :: a9 :: a10 :: x :: r)) := by
  simp only [setD]; rw [if_pos (by decide), if_pos (by simp only [List.length_cons]; omega)]; rfl
theorem st_12 {a0 a1 a2 a3 a4 a5 a6 a7 a8 a9 a10 a11 a12 x : D} {r : List D} : setD (.lst (a0 :: a1 :: a2 :: a3 :: a4 :: a5 :: a6 :: a7 :: a8 :: a9 :: a10 :: a11 :: a12 :: r)) (.int 12) x = some (.lst (a0 :: a1 :: a2 :: a3 :: a4 :: a5 :: a6 :: a7 :: a8 :: a9 :: a10 :: a11 :: x :: r)) := by
  simp only [setD]; rw [if_pos (by decide), if_pos (by simp only [List.length_cons]; omega)]; rfl
theorem cond_dec {α : Type} {p : Prop} [Decidable p] {x y : α} : cond (decide p) x y = if p then x else y := by by_cases h : p <;> simp [h]
theorem cond_not {α : Type} {b : Bool} {x y : α} : cond (!b) x y = cond b y x := by cases b <;> rfl
theorem cond_and {α : Type} {a b : Bool} {x y : α} : cond (a && b) x y = cond a (cond b x y) y := by cases a <;> rfl
theorem cond_or {α : Type} {a b : Bool} {x y : α} : cond (a || b) x y = cond a x (cond b x y) := by cases a <;> rfl
theorem if_bind {α β : Type} {c : Prop} [Decidable c] {a b : T α} {f : α → T β} : (if c then a else b).bind f = if c then a.bind f else b.bind f := by split <;> rfl
theorem dr10 {ρ : FF.Env} {s : Int} (h : 0 < s) (g : s < 1073741824) : drawT (.scr :: .st :: ρ) 1 0 (.int s) = .drw s.toNat fun d => .ret (.int d, false) := by
  unfold drawT
  simp only [List.getElem?_cons_zero, List.getElem?_cons_succ]
  rw [if_pos ⟨h, g⟩]
theorem dr01 {ρ : FF.Env} {s : Int} (h : 0 < s) (g : s < 1073741824) : drawT (.st :: .scr :: ρ) 0 1 (.int s) = .drw s.toNat fun d => .ret (.int d, false) := by
  unfold drawT
  simp only [List.getElem?_cons_zero, List.getElem?_cons_succ]
  rw [if_pos ⟨h, g⟩]
/-- a statement and what follows, closed to unfolding -/
@[irreducible] def Wt (t : T Xs) (k : FF.Env → Prop) (Q : Xs → Prop) : Prop := t.all fun r => match r.1 with | .nx => k r.2 | _ => Q r
@[irreducible] def Wp (Γ : Sem) (ss : List S) (ρ : FF.Env) (Q : Xs → Prop) : Prop := (execs Γ ss ρ).all Q
section
variable {Γ : Sem} {s : Slot} {ρ : FF.Env} {Q : Xs → Prop} {k : FF.Env → Prop}
theorem wp_mk {ss : List S} (h : Wp Γ ss ρ Q) : (execs Γ ss ρ).all Q := by unfold Wp at h; exact h
theorem wp_of {ss : List S} (h : (execs Γ ss ρ).all Q) : Wp Γ ss ρ Q := by unfold Wp; exact h
theorem wp_nil : Wp Γ [] (s :: ρ) Q ↔ Q (.nx, s :: ρ) := by unfold Wp; rw [x_nil]; rfl
theorem wp_cons {a : S} {as : List S} : Wp Γ (a :: as) (s :: ρ) Q ↔ Wt (exec Γ a (s :: ρ)) (fun ρ => Wp Γ as ρ Q) Q := by
  unfold Wp Wt
  rw [x_cns]
  refine T.all_bind.trans (iff_of_eq ?_)
  congr 1
  funext r
  obtain ⟨f, ρ'⟩ := r
  cases f <;> rfl
theorem wt_nx : Wt (.ret (.nx, ρ)) k Q ↔ k ρ := by unfold Wt; rfl
theorem wt_rt {r : Rs} : Wt (.ret (.rt r, ρ)) k Q ↔ Q (.rt r, ρ) := by unfold Wt; rfl
theorem wt_ct : Wt (.ret (.ct, ρ)) k Q ↔ Q (.ct, ρ) := by unfold Wt; rfl
theorem wt_bk : Wt (.ret (.bk, ρ)) k Q ↔ Q (.bk, ρ) := by unfold Wt; rfl
theorem wt_drw {n : Nat} {f : Nat → T Xs} : Wt (.drw n f) k Q ↔ 0 < n ∧ ∀ d : Nat, d < n → Wt (f d) k Q := by unfold Wt; rfl
theorem wt_if {c : Prop} [Decidable c] {a b : T Xs} : Wt (if c then a else b) k Q ↔ if c then Wt a k Q else Wt b k Q := by split <;> rfl
theorem wt_imp {t : T Xs} {Q' : Xs → Prop} (h : t.all fun r => match r.1 with | .nx => k r.2 | _ => Q r) : Wt t k Q := by unfold Wt; exact h
theorem wp_all {ss : List S} {Q' : Xs → Prop} (h : Wp Γ ss ρ Q) (i : ∀ r, Q r → Q' r) : Wp Γ ss ρ Q' := by
  unfold Wp at h ⊢; exact T.all_mono i h
/-- a walk by an invariant: of the items left and the slots -/
theorem for_inv {t : Tg} {b : List S} (I : List D → FF.Env → Prop) (hs : ∀ its ρ, I its ρ → ∃ s r, ρ = s :: r) (h : ∀ x its ρ ρ', I (x :: its) ρ → asgT t x ρ = some ρ' → Wp Γ b ρ' (fun r => match r.1 with | .nx => I its r.2 | .ct => I its r.2 | .bk => k r.2 | .rt y => Q (.rt y, r.2)))
    (ha : ∀ x its ρ, I (x :: its) ρ → ∃ ρ', asgT t x ρ = some ρ') (hk : ∀ ρ, I [] ρ → k ρ) : ∀ (its : List D) (ρ : FF.Env), I its ρ → Wt (forL (turnF Γ t b) its ρ) k Q
  | [], ρ, i => by unfold Wt; exact hk ρ i
  | x :: its, ρ, i => by
    obtain ⟨ρ', e⟩ := ha x its ρ i
    have h1 := h x its ρ ρ' i e
    unfold Wp at h1
    unfold Wt
    have e2 : forL (turnF Γ t b) (x :: its) ρ = loopT (execs Γ b ρ') fun ρ => forL (turnF Γ t b) its ρ := by
      show (turnF Γ t b x ρ).bind _ = _
      unfold turnF; rw [e]; rfl
    rw [e2]
    refine T.all_bind.mpr (T.all_mono (fun r hr => ?_) h1)
    obtain ⟨f, ρ2⟩ := r
    cases f with
    | nx => have := for_inv I hs h ha hk its ρ2 hr; unfold Wt at this; exact this
    | ct => have := for_inv I hs h ha hk its ρ2 hr; unfold Wt at this; exact this
    | bk => exact hr
    | rt y => exact hr
end
section
variable {Γ : Sem} {s : Slot} {ρ : FF.Env} {Q : Xs → Prop} {k : FF.Env → Prop}
theorem wt_for {t : Tg} {sk : Sk} {ses : List E} {b : List S} {xs its : List D} (h1 : evS Γ ses (s :: ρ) = .ret xs) (h2 : srcD sk xs = some its)
    (h : Wt (forL (turnF Γ t b) its (lockS ses (s :: ρ))) (fun ρ' => k (unlockS (s :: ρ) ses ρ')) (fun r => Q (r.1, unlockS (s :: ρ) ses r.2))) : Wt (exec Γ (.forr t sk ses b) (s :: ρ)) k Q := by
  unfold Wt at h ⊢
  rw [x_fr, h1]
  show ((T.ofO (srcD sk xs)).bind _).all _
  rw [h2]
  show ((forL (turnF Γ t b) its (lockS ses (s :: ρ))).bind _).all _
  refine T.all_bind.mpr (T.all_mono (fun r hr => ?_) h)
  obtain ⟨f, ρ'⟩ := r
  cases f <;> exact hr
theorem wt_forL {t : Tg} {b : List S} {its : List D} {ρ₀ : FF.Env} {ses : List E} (h : Wt (forL (turnF Γ t b) its ρ) (fun ρ' => k (unlockS ρ₀ ses ρ')) (fun r => Q (r.1, unlockS ρ₀ ses r.2))) : Wt ((forL (turnF Γ t b) its ρ).bind fun r => .ret (r.1, unlockS ρ₀ ses r.2)) k Q := by
  unfold Wt at h ⊢
  refine T.all_bind.mpr (T.all_mono (fun r hr => ?_) h)
  obtain ⟨f, ρ'⟩ := r
  cases f <;> exact hr
theorem wt_forI {t : Tg} {b : List S} {its : List D} (h : Wt (forL (turnF Γ t b) its ρ) k Q) : Wt ((forL (turnF Γ t b) its ρ).bind fun r => .ret (r.1, r.2)) k Q := by
  unfold Wt at h ⊢
  refine T.all_bind.mpr (T.all_mono (fun r hr => ?_) h)
  obtain ⟨f, ρ'⟩ := r
  cases f <;> exact hr
theorem compL_filter {f : D → T (Option D)} {g : D → Option D} : ∀ {xs : List D}, (∀ x, x ∈ xs → f x = .ret (g x)) → compL f xs = .ret (xs.filterMap g)
  | [], _ => rfl
  | x :: xs, h => by
    rw [compL, h x List.mem_cons_self, compL_filter fun z m => h z (List.mem_cons_of_mem _ m), List.filterMap_cons]
    show T.ret _ = _
    cases g x <;> rfl
/-- what is asked of a walk's turn -/
def turnQ (I : FF.Env → Prop) (k : FF.Env → Prop) (Q : Xs → Prop) (r : Xs) : Prop := match r.1 with | .nx => I r.2 | .ct => I r.2 | .bk => k r.2 | .rt y => Q (.rt y, r.2)
theorem unl_nv {e : E} {ρ₀ : FF.Env} (he : isV e = false) : unlockS ρ₀ [e] ρ = ρ := by cases e <;> first | rfl | cases he
theorem lck_nv {e : E} (he : isV e = false) : lockS [e] ρ = ρ := by cases e <;> first | rfl | cases he
theorem wt_rangeE {i n : Nat} {e : E} {b : List S} (I : Nat → FF.Env → Prop) (hv : isV e = false) (h1 : evS Γ [e] (s :: ρ) = .ret [.int (n : Int)]) (hn : n ≤ 100000) (hl : ∀ j ρ, I j ρ → i < ρ.length) (h0 : I 0 (s :: ρ))
    (step : ∀ j ρ, j < n → I j ρ → Wp Γ b (ρ.set i (.pl (.int (j : Int)))) (turnQ (I (j + 1)) k Q)) (he : ∀ ρ, I n ρ → k ρ) : Wt (exec Γ (.forr (.nm i) .range [e] b) (s :: ρ)) k Q := by
  refine wt_for (xs := [.int (n : Int)]) (its := rangeL n 0) h1 (by rw [s_r1]; exact rng_ok (by omega)) ?_
  rw [lck_nv hv]
  simp only [unl_nv hv]
  show Wt (forL (turnF Γ (.nm i) b) (rangeL n 0) (s :: ρ)) k (fun r => Q (r.1, r.2))
  refine for_inv (fun its ρ => ∃ j, j ≤ n ∧ its = rangeL (n - j) (j : Int) ∧ I j ρ) ?_ ?_ ?_ ?_ _ _ ⟨0, by omega, by simp, h0⟩
  · rintro its ρ ⟨j, _, _, h⟩
    have := hl j ρ h
    cases ρ with
    | nil => simp at this
    | cons a r => exact ⟨a, r, rfl⟩
  · rintro x its ρ ρ' ⟨j, hj, e, h⟩ ea
    have hjn : j < n := by
      rcases Nat.lt_or_ge j n with z | z
      · exact z
      · rw [show n - j = 0 by omega] at e; cases e
    rw [show n - j = (n - (j + 1)) + 1 by omega, rangeL] at e
    injection e with e1 e2
    subst e1
    rw [a_nm, if_pos (hl j ρ h)] at ea
    cases ea
    refine wp_all (step j ρ hjn h) fun r hr => ?_
    obtain ⟨f, ρ'⟩ := r
    have p : ∀ ρ', I (j + 1) ρ' → ∃ j_1, j_1 ≤ n ∧ its = rangeL (n - j_1) (j_1 : Int) ∧ I j_1 ρ' := fun ρ' h' => ⟨j + 1, by omega, by rw [e2]; simp, h'⟩
    cases f with
    | nx => exact p _ hr
    | ct => exact p _ hr
    | bk => exact hr
    | rt y => exact hr
  · rintro x its ρ ⟨j, hj, e, h⟩
    exact ⟨_, by rw [a_nm, if_pos (hl j ρ h)]⟩
  · rintro ρ ⟨j, hj, e, h⟩
    have : n - j = 0 := by
      rcases Nat.eq_zero_or_pos (n - j) with z | z
      · exact z
      · rw [show n - j = (n - j - 1) + 1 by omega, rangeL] at e; cases e
    have : j = n := by omega
    subst this
    exact he ρ h
theorem wt_range {i n : Nat} {b : List S} (I : Nat → FF.Env → Prop) (hn : n ≤ 100000) (hl : ∀ j ρ, I j ρ → i < ρ.length) (h0 : I 0 (s :: ρ))
    (step : ∀ j ρ, j < n → I j ρ → Wp Γ b (ρ.set i (.pl (.int (j : Int)))) (turnQ (I (j + 1)) k Q)) (he : ∀ ρ, I n ρ → k ρ) : Wt (exec Γ (.forr (.nm i) .range [.c (.int (n : Int))] b) (s :: ρ)) k Q :=
  wt_rangeE I rfl (by rw [eS_cons, eS_nil, e_c]; rfl) hn hl h0 step he
end
/-- a draw: of an int -/
theorem draw_all {α : Type} {n : Nat} {k : Nat → T α} {P : α → Prop} (h0 : 0 < n) (h : ∀ d : Nat, d < n → (k d).all P) : (T.drw n k).all P := ⟨h0, h⟩
theorem go {Γ : Sem} {a : S} {as : List S} {s : Slot} {ρ ρ' : FF.Env} {Q : Xs → Prop} (h : exec Γ a (s :: ρ) = .ret (.nx, ρ')) (k : (execs Γ as ρ').all Q) : (execs Γ (a :: as) (s :: ρ)).all Q := by
  rw [x_cns, h]; exact k
theorem goA {Γ : Sem} {a : S} {as : List S} {s : Slot} {ρ : FF.Env} {Q : Xs → Prop} (h : (exec Γ a (s :: ρ)).all fun r => r.1 = .nx ∧ (execs Γ as r.2).all Q) : (execs Γ (a :: as) (s :: ρ)).all Q := by
  rw [x_cns]
  refine T.all_bind.mpr (T.all_mono (fun r hr => ?_) h)
  obtain ⟨f, ρ'⟩ := r
  obtain ⟨e, k⟩ := hr
  have e : f = .nx := e
  subst e
  exact k
end FF

set_option Elab.async false
set_option linter.all false
set_option maxRecDepth 100000
set_option maxHeartbeats 8000000
/-! FF27: walks in a def; more sizes. -/
namespace FF
section
variable {Γ : Sem} {ρ : FF.Env}
theorem for_exL {f : D → FF.Env → T Xs} (I : List D → FF.Env → Prop) (step : ∀ x its ρ, I (x :: its) ρ → ∃ ρ', f x ρ = .ret (.nx, ρ') ∧ I its ρ') : ∀ (its : List D) (ρ : FF.Env), I its ρ → ∃ ρ', forL f its ρ = .ret (.nx, ρ') ∧ I [] ρ'
  | [], ρ, h => ⟨ρ, rfl, h⟩
  | x :: its, ρ, h => by
    obtain ⟨ρ1, e1, h1⟩ := step x its ρ h
    obtain ⟨ρ2, e2, h2⟩ := for_exL I step its ρ1 h1
    exact ⟨ρ2, by rw [forL, e1]; exact e2, h2⟩
theorem for_ex {f : D → FF.Env → T Xs} (I : Nat → FF.Env → Prop) {n : Nat} (h0 : I 0 ρ) (step : ∀ (j : Nat) ρ, j < n → I j ρ → ∃ ρ', f (.int (j : Int)) ρ = .ret (.nx, ρ') ∧ I (j + 1) ρ') : ∃ ρ', forL f (rangeL n 0) ρ = .ret (.nx, ρ') ∧ I n ρ' := by
  have := for_exL (f := f) (fun its ρ => ∃ j, j ≤ n ∧ its = rangeL (n - j) (j : Int) ∧ I j ρ) (fun x its ρ h => by
    obtain ⟨j, hj, e, h⟩ := h
    have hjn : j < n := by
      rcases Nat.lt_or_ge j n with z | z
      · exact z
      · rw [show n - j = 0 by omega] at e; cases e
    rw [show n - j = (n - (j + 1)) + 1 by omega, rangeL] at e
    injection e with e1 e2
    subst e1
    obtain ⟨ρ', a, b⟩ := step j ρ hjn h
    exact ⟨ρ', a, j + 1, by omega, by rw [e2]; simp, b⟩) (rangeL n 0) ρ ⟨0, by omega, by simp, h0⟩
  obtain ⟨ρ', a, j, hj, e, h⟩ := this
  have : n - j = 0 := by
    rcases Nat.eq_zero_or_pos (n - j) with z | z
    · exact z
    · rw [show n - j = (n - j - 1) + 1 by omega, rangeL] at e; cases e
  have : j = n := by omega
  subst this
  exact ⟨ρ', a, h⟩
end
instance {i j : Int} {m : Nat} [a : Sm m i] : Sm m (i / j) := ⟨Nat.lt_of_le_of_lt (Int.natAbs_ediv_le_natAbs i j) a.lt⟩
instance {i : Int} {n : Nat} [a : Sm n i] : Sm n ((i.natAbs : Nat) : Int) := ⟨by rw [Int.natAbs_natCast]; exact a.lt⟩
theorem sm_le {i B : Int} {n : Nat} (h1 : -B ≤ i) (h2 : i ≤ B) (hB : B < 2 ^ n) : Sm n i := ⟨by
  have : ((2 ^ n : Nat) : Int) = 2 ^ n := by push_cast; rfl
  omega⟩
open Classical in
theorem any_pln : ∀ (n : Nat) (y : D) (xs : List D), pln n y = true → plns n xs = true → anyEq y xs = some (decide (y ∈ xs))
  | _, _, [], _, _ => by simp [anyEq]
  | n, y, x :: xs, h, g => by
    simp only [plns, Bool.and_eq_true] at g
    rw [anyEq, any_pln n y xs h g.2, eqD_pln n x y g.1 h]
    simp only [Option.bind_some, Option.map_some, List.mem_cons, Option.some.injEq]
    by_cases h1 : x = y
    · subst h1; simp
    · have h2 : ¬ y = x := fun z => h1 z.symm
      by_cases h3 : y ∈ xs <;> simp [h1, h2, h3]
open Classical in
theorem inSeq_pl {y : D} {xs : List D} {m n : Nat} [a : Pl m y] [b : Pls n xs] (h : m ≤ 50) (g : n ≤ 50) : inSeq y xs = some (decide (y ∈ xs)) := by
  have h1 := pln_mono y a.h h
  have h2 := plns_mono xs b.h g
  unfold inSeq
  rw [pln_flat 50 y h1, plns_flat 50 xs h2]
  exact any_pln 50 y xs h1 h2
open Classical in
theorem in_t {y : D} {xs : List D} {m n : Nat} [Pl m y] [Pls n xs] (h : m ≤ 50) (g : n ≤ 50) : cmpD .inn y (.tup xs) = some (decide (y ∈ xs)) := inSeq_pl h g
open Classical in
theorem nin_t {y : D} {xs : List D} {m n : Nat} [Pl m y] [Pls n xs] (h : m ≤ 50) (g : n ≤ 50) : cmpD .nin y (.tup xs) = some (!decide (y ∈ xs)) := by
  show (inSeq y xs).map _ = _
  rw [inSeq_pl h g]; rfl
open Classical in
theorem in_l {y : D} {xs : List D} {m n : Nat} [Pl m y] [Pls n xs] (h : m ≤ 50) (g : n ≤ 50) : cmpD .inn y (.lst xs) = some (decide (y ∈ xs)) := inSeq_pl h g
open Classical in
theorem nin_l {y : D} {xs : List D} {m n : Nat} [Pl m y] [Pls n xs] (h : m ≤ 50) (g : n ≤ 50) : cmpD .nin y (.lst xs) = some (!decide (y ∈ xs)) := by
  show (inSeq y xs).map _ = _
  rw [inSeq_pl h g]; rfl
/-- a closed call's value, by the kernel -/
def chk (t : T Rs) (d : D) (b : Bool) : Bool := match t with
  | .ret (x, f) => eqDB x d && (f == b)
  | _ => false
theorem chk_eq {t : T Rs} {d : D} {b : Bool} (h : chk t d b = true) : t = .ret (d, b) := by
  unfold chk at h
  split at h
  · rename_i x f
    rw [Bool.and_eq_true] at h
    rw [eqDB_eq _ _ h.1, eq_of_beq h.2]
  · cases h
theorem rng_int {n : Int} (h0 : 0 ≤ n) (h : n ≤ 1000000) : rng2 0 n = some (rangeL n.toNat 0) := by
  obtain ⟨m, rfl⟩ := Int.eq_ofNat_of_zero_le h0
  rw [Int.toNat_natCast]
  exact rng_ok (by omega)
end FF

set_option Elab.async false
set_option linter.all false
set_option maxRecDepth 100000
set_option maxHeartbeats 8000000
/-! FF28: gcd loops of any form; classes of None; the index of a list. -/
namespace FF
theorem gcd_gen {tst : FF.Env → T Bool} {trn : FF.Env → T Xs} (st : Int → Int → Slot → FF.Env) (h1 : ∀ a b s, tst (st a b s) = .ret (decide (0 < b))) (h2 : ∀ a b s, 0 < b → ∃ s', trn (st a b s) = .ret (.nx, st b (a % b) s')) : ∀ (k n one other : Nat) (s : Slot), other < 2 ^ k → 2 * k + 1 ≤ n → ∃ s', whlL tst trn n (st (one : Int) (other : Int) s) = .ret (.nx, st (Nat.gcd one other : Nat) 0 s')
  | 0, n + 1, one, other, s, h, hn => by
    have e : other = 0 := by omega
    subst e
    exact ⟨s, by rw [whl_end (by rw [h1]; rfl), Nat.gcd_zero_right]; rfl⟩
  | k + 1, n + 2, one, other, s, h, hn => by
    by_cases h0 : other = 0
    · subst h0
      exact ⟨s, by rw [whl_end (by rw [h1]; rfl), Nat.gcd_zero_right]; rfl⟩
    · have e1 : ((one : Int) % (other : Int)) = ((one % other : Nat) : Int) := by omega
      have t1 : decide (0 < (other : Int)) = true := decide_eq_true (by omega)
      obtain ⟨s1, g1⟩ := h2 one other s (by omega)
      rw [e1] at g1
      by_cases hz : one % other = 0
      · refine ⟨s1, ?_⟩
        rw [whl_go ((h1 _ _ _).trans (by rw [t1])) g1, hz, whl_end (by rw [h1]; rfl), Nat.gcd_comm, Nat.gcd_rec, hz, Nat.gcd_zero_left]; rfl
      · have hlt : one % other < other := Nat.mod_lt _ (by omega)
        have t2 : decide (0 < ((one % other : Nat) : Int)) = true := decide_eq_true (by omega)
        have e2 : ((other : Int) % ((one % other : Nat) : Int)) = ((other % (one % other) : Nat) : Int) := by omega
        have hs : other % (one % other) < 2 ^ k := by
          have g1 := Nat.mod_lt other (show 0 < one % other by omega)
          have g2 := Nat.div_add_mod other (one % other)
          have g3 : 1 ≤ other / (one % other) := Nat.div_pos (by omega) (by omega)
          have g4 : (one % other) ≤ (one % other) * (other / (one % other)) := Nat.le_mul_of_pos_right _ (by omega)
          rw [Nat.pow_succ] at h
          omega
        obtain ⟨s2, g2⟩ := h2 other (one % other : Nat) s1 (by omega)
        rw [e2] at g2
        obtain ⟨s', e⟩ := gcd_gen st h1 h2 k n (one % other) (other % (one % other)) s2 hs (by omega)
        refine ⟨s', ?_⟩
        rw [whl_go ((h1 _ _ _).trans (by rw [t1])) g1, whl_go ((h1 _ _ _).trans (by rw [t2])) g2, e, Nat.gcd_comm one other, Nat.gcd_rec other one, Nat.gcd_rec (one % other) other, Nat.gcd_comm]
def gI (i j : Int) : Int := (Int.gcd i j : Nat)
theorem gI_nn {i j : Int} : 0 ≤ gI i j := by unfold gI; omega
instance {i j : Int} {m n : Nat} [a : Sm m i] [b : Sm n j] : Sm (max m n) (gI i j) := by
  unfold gI
  by_cases h : j = 0
  · subst h
    rw [Int.gcd_zero_right]
    exact (inferInstance : Sm m ((i.natAbs : Nat) : Int)).up (Nat.le_max_left _ _)
  · have : Sm n ((Int.gcd i j : Nat) : Int) := ⟨by
      rw [Int.natAbs_natCast]
      exact Nat.lt_of_le_of_lt (Nat.le_of_dvd (by omega) (Int.gcd_dvd_natAbs_right i j)) b.lt⟩
    exact this.up (Nat.le_max_right _ _)
theorem isn_n : isNon .non = true := rfl
theorem isn_F {q : Rat} : isNon (F q) = false := rfl
theorem isn_i {i : Int} : isNon (.int i) = false := rfl
theorem wt_all {α : Type} {t : T α} {P : α → Prop} {k : α → T Xs} {K : FF.Env → Prop} {Q : Xs → Prop} (ht : t.all P) (h : ∀ r, P r → Wt (k r) K Q) : Wt (t.bind k) K Q := by
  unfold Wt at *
  exact T.all_bind.mpr (T.all_mono (fun r hr => h r hr) ht)
end FF

set_option Elab.async false
set_option linter.all false
set_option maxRecDepth 100000
set_option maxHeartbeats 8000000
namespace K91
open PySem PySem.Spec PyProof.Rows L2 FF
def topS (i : Nat) : Stmt := PySem.Challenge.pw_fourfolds_k91_whole_maps_of_spots.main.body.getD i (.Pass ⟨0, 0, 0, 0⟩)
abbrev t_refill : Stmt := topS 16
abbrev t_draw : Stmt := topS 17
abbrev t__law_two_plus : Stmt := topS 23
def c__law_two_plus : Cfg := { N := ["a", "b", "by"], fns := [], cns := [], boxes := [], gcd := false }
abbrev t__law_two_times : Stmt := topS 20
def c__law_two_times : Cfg := { N := ["a", "b"], fns := [], cns := [], boxes := [], gcd := false }
abbrev t__law_table_times : Stmt := topS 21
def c__law_table_times : Cfg := { N := ["one", "other", "out", "row", "line", "j", "parts", "i", "part"], fns := [("_law_two_times", 1, 2)], cns := [], boxes := ["line", "out"], gcd := false }
abbrev t_two_times : Stmt := topS 2
def c_two_times : Cfg := { N := ["one", "other"], fns := [], cns := [], boxes := [], gcd := false }
abbrev t_two_plain : Stmt := topS 4
def c_two_plain : Cfg := { N := ["above", "below", "over", "whole", "size", "one", "number", "other"], fns := [("two_times", 3, 2)], cns := [], boxes := [], gcd := false }
abbrev t_gap : Stmt := topS 11
def c_gap : Cfg := { N := ["first", "second", "a", "b", "c", "d"], fns := [], cns := [], boxes := [], gcd := false }
abbrev t_four_quotient : Stmt := topS 12
def c_four_quotient : Cfg := { N := ["one", "two", "three", "four", "above"], fns := [("two_times", 3, 2), ("two_plain", 4, 2), ("gap", 5, 2)], cns := [], boxes := [], gcd := false }
abbrev t_are_on_round : Stmt := topS 13
def c_are_on_round : Cfg := { N := ["one", "two", "three", "four"], fns := [("four_quotient", 6, 4)], cns := [], boxes := [], gcd := false }
abbrev t__law_two_table : Stmt := topS 25
def c__law_two_table : Cfg := { N := ["state", "script", "numbers", "j", "size"], fns := [("_law_two_plus", 0, 3), ("_law_two_times", 1, 2)], cns := [], boxes := [], gcd := false }
abbrev t__law_spot : Stmt := topS 22
def c__law_spot : Cfg := { N := ["above", "below", "whole", "size", "divisor", "one", "rest", "old"], fns := [("_law_two_times", 1, 2)], cns := [], boxes := [], gcd := false }
abbrev t__law_drawn : Stmt := topS 26
def c__law_drawn : Cfg := { N := ["state", "script"], fns := [("_law_spot", 9, 2)], cns := [], boxes := [], gcd := false }
abbrev t__law_led_spot : Stmt := topS 24
def c__law_led_spot : Cfg := { N := ["table", "spot", "first", "second"], fns := [("_law_two_plus", 0, 3), ("_law_spot", 9, 2), ("_law_two_times", 1, 2)], cns := [], boxes := [], gcd := false }
abbrev t__law_lowest : Stmt := topS 19
def c__law_lowest : Cfg := { N := ["above", "below", "one", "other", "rest", "sign"], fns := [], cns := [], boxes := [], gcd := false }
abbrev t__law_kind_of : Stmt := topS 28
def c__law_kind_of : Cfg := { N := ["table", "a", "b", "c", "d", "total", "size", "quotient", "real"], fns := [("_law_two_plus", 0, 3), ("_law_spot", 9, 2), ("_law_lowest", 12, 2), ("_law_two_times", 1, 2)], cns := [], boxes := [], gcd := false }
abbrev t__law_exact : Stmt := topS 18
def c__law_exact : Cfg := { N := ["first", "second", "k", "alike"], fns := [("_law_exact", 14, 2)], cns := [], boxes := [], gcd := false }
abbrev t_scaled : Stmt := topS 3
def c_scaled : Cfg := { N := ["one", "by"], fns := [], cns := [], boxes := [], gcd := false }
abbrev t_back_table : Stmt := topS 7
def c_back_table : Cfg := { N := ["table", "a", "b", "c", "d"], fns := [("scaled", 15, 2)], cns := [], boxes := [], gcd := false }
abbrev t__law_apart : Stmt := topS 27
def c__law_apart : Cfg := { N := ["one", "other"], fns := [("_law_two_plus", 0, 3)], cns := [], boxes := [], gcd := false }
abbrev t_map_by : Stmt := topS 14
def c_map_by : Cfg := { N := ["one", "two", "three", "first", "second"], fns := [("gap", 5, 2), ("scaled", 15, 2), ("two_times", 3, 2)], cns := [], boxes := [], gcd := false }
abbrev t_two_add : Stmt := topS 1
def c_two_add : Cfg := { N := ["one", "other"], fns := [], cns := [], boxes := [], gcd := false }
abbrev t_determinant : Stmt := topS 8
def c_determinant : Cfg := { N := ["table", "a", "b", "c", "d"], fns := [("two_add", 19, 2), ("two_times", 3, 2), ("scaled", 15, 2)], cns := [], boxes := [], gcd := false }
abbrev t_trace : Stmt := topS 9
def c_trace : Cfg := { N := ["table"], fns := [("two_add", 19, 2)], cns := [], boxes := [], gcd := false }
abbrev t_kind_of_map : Stmt := topS 10
def c_kind_of_map : Cfg := { N := ["table", "a", "b", "c", "d", "whole", "size", "over", "quotient", "norm"], fns := [("two_times", 3, 2), ("determinant", 20, 1), ("trace", 21, 1)], cns := [], boxes := [], gcd := false }
abbrev t_led_by : Stmt := topS 5
def c_led_by : Cfg := { N := ["table", "spot", "a", "b", "c", "d", "above", "below", "first"], fns := [("two_add", 19, 2), ("two_plain", 4, 2), ("two_times", 3, 2), ("scaled", 15, 2)], cns := [], boxes := [], gcd := false }
abbrev t_table_times : Stmt := topS 6
def c_table_times : Cfg := { N := ["one", "other", "a", "b", "c", "d", "e", "f", "g", "h"], fns := [("two_add", 19, 2), ("two_times", 3, 2)], cns := [], boxes := [], gcd := false }
abbrev t_law : Stmt := topS 29
def c_law : Cfg := { N := ["script", "state", "k", "one", "other", "spots", "j", "spot", "a", "b", "size", "due", "mixed", "by", "above", "below", "unlike", "p", "q", "r", "s", "quotient", "led", "each", "table", "square"], fns := [("_law_two_plus", 0, 3), ("_law_table_times", 2, 2), ("are_on_round", 7, 4), ("_law_two_table", 8, 2), ("_law_drawn", 10, 2), ("_law_two_times", 1, 2), ("_law_led_spot", 11, 2), ("_law_kind_of", 13, 1), ("_law_exact", 14, 2), ("back_table", 16, 1), ("_law_spot", 9, 2), ("_law_apart", 17, 2), ("map_by", 18, 3), ("kind_of_map", 22, 1), ("led_by", 23, 2), ("table_times", 24, 2), ("determinant", 20, 1), ("trace", 21, 1), ("two_times", 3, 2), ("two_add", 19, 2), ("scaled", 15, 2), ("two_plain", 4, 2), ("gap", 5, 2), ("four_quotient", 6, 4)], cns := [], boxes := [], gcd := false }
theorem s__law_two_plus : FnScope c__law_two_plus.N ["a", "b", "by"] (defScope t__law_two_plus) := ⟨rfl, rfl, rfl, by decide +kernel, rfl, by decide +kernel, by decide +kernel⟩
def i__law_two_plus : List S := [(.ret (.tup [(.bin .add (.ix (.v 0) (.c (.int 0))) (.bin .mul (.v 2) (.ix (.v 1) (.c (.int 0))))), (.bin .add (.ix (.v 0) (.c (.int 1))) (.bin .mul (.v 2) (.ix (.v 1) (.c (.int 1)))))]))]
theorem b__law_two_plus : cSts c__law_two_plus 1000000 80 (defScope t__law_two_plus) (defBody t__law_two_plus) = some i__law_two_plus := eqO_eq (by decide +kernel)
theorem d__law_two_plus : ∀ (kV doc pm : Value) (an : Option Addr) (cdv ct : Value) (us : List Value), us.length = ["a", "b", "by"].length → bindArgs (PySem.W.fnOf "_law_two_plus" "_law_two_plus" (defArgs t__law_two_plus) (defBody t__law_two_plus) (defScope t__law_two_plus) .none kV doc pm an cdv ct) ⟨us, []⟩ = pure (((["a", "b", "by"] : List Str)).zip us) := fun _ _ _ _ _ _ us hl => match us, hl with | [_, _, _], _ => rfl
def g__law_two_plus : Sem := fun k => match k with | _ => fun _ => .err
def r__law_two_plus : List FF.Arg → T Rs := run g__law_two_plus i__law_two_plus 0
theorem s__law_two_times : FnScope c__law_two_times.N ["a", "b"] (defScope t__law_two_times) := ⟨rfl, rfl, rfl, by decide +kernel, rfl, by decide +kernel, by decide +kernel⟩
def i__law_two_times : List S := [(.ret (.tup [(.bin .sub (.bin .mul (.ix (.v 0) (.c (.int 0))) (.ix (.v 1) (.c (.int 0)))) (.bin .mul (.ix (.v 0) (.c (.int 1))) (.ix (.v 1) (.c (.int 1))))), (.bin .add (.bin .mul (.ix (.v 0) (.c (.int 0))) (.ix (.v 1) (.c (.int 1)))) (.bin .mul (.ix (.v 0) (.c (.int 1))) (.ix (.v 1) (.c (.int 0)))))]))]
theorem b__law_two_times : cSts c__law_two_times 1000000 80 (defScope t__law_two_times) (defBody t__law_two_times) = some i__law_two_times := eqO_eq (by decide +kernel)
theorem d__law_two_times : ∀ (kV doc pm : Value) (an : Option Addr) (cdv ct : Value) (us : List Value), us.length = ["a", "b"].length → bindArgs (PySem.W.fnOf "_law_two_times" "_law_two_times" (defArgs t__law_two_times) (defBody t__law_two_times) (defScope t__law_two_times) .none kV doc pm an cdv ct) ⟨us, []⟩ = pure (((["a", "b"] : List Str)).zip us) := fun _ _ _ _ _ _ us hl => match us, hl with | [_, _], _ => rfl
def g__law_two_times : Sem := fun k => match k with | _ => fun _ => .err
def r__law_two_times : List FF.Arg → T Rs := run g__law_two_times i__law_two_times 0
theorem s__law_table_times : FnScope c__law_table_times.N ["one", "other"] (defScope t__law_table_times) := ⟨rfl, rfl, rfl, by decide +kernel, rfl, by decide +kernel, by decide +kernel⟩
def i__law_table_times : List S := [(.box 2 true (.lst [])), (.forr (.nm 3) .seq [(.v 0)] [(.box 4 true (.lst [])), (.forr (.nm 5) .range [(.bi .len [(.ix (.v 1) (.c (.int 0)))])] [(.box 6 false (.comp (.nm 7) .range [(.bi .len [(.v 1)])] [] (.call 1 [(.ix (.v 3) (.v 7)), (.ix (.ix (.v 1) (.v 7)) (.v 5))]))), (.app 4 (.tup [(.bi .sum [(.comp (.nm 8) .seq [(.v 6)] [] (.ix (.v 8) (.c (.int 0))))]), (.bi .sum [(.comp (.nm 8) .seq [(.v 6)] [] (.ix (.v 8) (.c (.int 1))))])]))]), (.app 2 (.bi .tuple [(.v 4)]))]), (.ret (.bi .tuple [(.v 2)]))]
theorem b__law_table_times : cSts c__law_table_times 1000000 80 (defScope t__law_table_times) (defBody t__law_table_times) = some i__law_table_times := eqO_eq (by decide +kernel)
theorem d__law_table_times : ∀ (kV doc pm : Value) (an : Option Addr) (cdv ct : Value) (us : List Value), us.length = ["one", "other"].length → bindArgs (PySem.W.fnOf "_law_table_times" "_law_table_times" (defArgs t__law_table_times) (defBody t__law_table_times) (defScope t__law_table_times) .none kV doc pm an cdv ct) ⟨us, []⟩ = pure (((["one", "other"] : List Str)).zip us) := fun _ _ _ _ _ _ us hl => match us, hl with | [_, _], _ => rfl
def g__law_table_times : Sem := fun k => match k with | 1 => r__law_two_times | _ => fun _ => .err
def r__law_table_times : List FF.Arg → T Rs := run g__law_table_times i__law_table_times 7
theorem s_two_times : FnScope c_two_times.N ["one", "other"] (defScope t_two_times) := ⟨rfl, rfl, rfl, by decide +kernel, rfl, by decide +kernel, by decide +kernel⟩
def i_two_times : List S := [(.ret (.tup [(.bin .sub (.bin .mul (.ix (.v 0) (.c (.int 0))) (.ix (.v 1) (.c (.int 0)))) (.bin .mul (.ix (.v 0) (.c (.int 1))) (.ix (.v 1) (.c (.int 1))))), (.bin .add (.bin .mul (.ix (.v 0) (.c (.int 0))) (.ix (.v 1) (.c (.int 1)))) (.bin .mul (.ix (.v 0) (.c (.int 1))) (.ix (.v 1) (.c (.int 0)))))]))]
theorem b_two_times : cSts c_two_times 1000000 80 (defScope t_two_times) (defBody t_two_times) = some i_two_times := eqO_eq (by decide +kernel)
theorem d_two_times : ∀ (kV doc pm : Value) (an : Option Addr) (cdv ct : Value) (us : List Value), us.length = ["one", "other"].length → bindArgs (PySem.W.fnOf "two_times" "two_times" (defArgs t_two_times) (defBody t_two_times) (defScope t_two_times) .none kV doc pm an cdv ct) ⟨us, []⟩ = pure (((["one", "other"] : List Str)).zip us) := fun _ _ _ _ _ _ us hl => match us, hl with | [_, _], _ => rfl
def g_two_times : Sem := fun k => match k with | _ => fun _ => .err
def r_two_times : List FF.Arg → T Rs := run g_two_times i_two_times 0
theorem s_two_plain : FnScope c_two_plain.N ["above", "below"] (defScope t_two_plain) := ⟨rfl, rfl, rfl, by decide +kernel, rfl, by decide +kernel, by decide +kernel⟩
def i_two_plain : List S := [(.ifs (.cmp .eq (.v 1) (.tup [(.c (.int 0)), (.c (.int 0))])) [(.ret (.tup [(.tup [(.c (.int 1)), (.c (.int 0))]), (.c (.int 0))]))] []), (.box 2 false (.tup [(.ix (.v 1) (.c (.int 0))), (.neg (.ix (.v 1) (.c (.int 1))))])), (.par [(3, false), (4, false)] [(.call 3 [(.v 0), (.v 2)]), (.ix (.call 3 [(.v 1), (.v 2)]) (.c (.int 0)))]), (.box 5 false (.v 4)), (.forr (.nm 6) .seq [(.v 3)] [(.box 7 false (.bi .abs [(.v 6)])), (.whl 1000000 (.cmp .gt (.v 7) (.c (.int 0))) [(.par [(5, false), (7, false)] [(.v 7), (.bin .mod (.v 5) (.v 7))])])]), (.ret (.tup [(.tup [(.bin .fdiv (.ix (.v 3) (.c (.int 0))) (.v 5)), (.bin .fdiv (.ix (.v 3) (.c (.int 1))) (.v 5))]), (.bin .fdiv (.v 4) (.v 5))]))]
theorem b_two_plain : cSts c_two_plain 1000000 80 (defScope t_two_plain) (defBody t_two_plain) = some i_two_plain := eqO_eq (by decide +kernel)
theorem d_two_plain : ∀ (kV doc pm : Value) (an : Option Addr) (cdv ct : Value) (us : List Value), us.length = ["above", "below"].length → bindArgs (PySem.W.fnOf "two_plain" "two_plain" (defArgs t_two_plain) (defBody t_two_plain) (defScope t_two_plain) .none kV doc pm an cdv ct) ⟨us, []⟩ = pure (((["above", "below"] : List Str)).zip us) := fun _ _ _ _ _ _ us hl => match us, hl with | [_, _], _ => rfl
def g_two_plain : Sem := fun k => match k with | 3 => r_two_times | _ => fun _ => .err
def r_two_plain : List FF.Arg → T Rs := run g_two_plain i_two_plain 6
theorem s_gap : FnScope c_gap.N ["first", "second"] (defScope t_gap) := ⟨rfl, rfl, rfl, by decide +kernel, rfl, by decide +kernel, by decide +kernel⟩
def i_gap : List S := [(.asg (.tup [(.tup [(.nm 2), (.nm 3)]), (.tup [(.nm 4), (.nm 5)])]) (.tup [(.v 0), (.v 1)])), (.ret (.tup [(.bin .sub (.bin .mul (.ix (.v 2) (.c (.int 0))) (.v 5)) (.bin .mul (.ix (.v 4) (.c (.int 0))) (.v 3))), (.bin .sub (.bin .mul (.ix (.v 2) (.c (.int 1))) (.v 5)) (.bin .mul (.ix (.v 4) (.c (.int 1))) (.v 3)))]))]
theorem b_gap : cSts c_gap 1000000 80 (defScope t_gap) (defBody t_gap) = some i_gap := eqO_eq (by decide +kernel)
theorem d_gap : ∀ (kV doc pm : Value) (an : Option Addr) (cdv ct : Value) (us : List Value), us.length = ["first", "second"].length → bindArgs (PySem.W.fnOf "gap" "gap" (defArgs t_gap) (defBody t_gap) (defScope t_gap) .none kV doc pm an cdv ct) ⟨us, []⟩ = pure (((["first", "second"] : List Str)).zip us) := fun _ _ _ _ _ _ us hl => match us, hl with | [_, _], _ => rfl
def g_gap : Sem := fun k => match k with | _ => fun _ => .err
def r_gap : List FF.Arg → T Rs := run g_gap i_gap 4
theorem s_four_quotient : FnScope c_four_quotient.N ["one", "two", "three", "four"] (defScope t_four_quotient) := ⟨rfl, rfl, rfl, by decide +kernel, rfl, by decide +kernel, by decide +kernel⟩
def i_four_quotient : List S := [(.box 4 false (.call 3 [(.call 5 [(.v 0), (.v 2)]), (.call 5 [(.v 1), (.v 3)])])), (.ret (.call 4 [(.v 4), (.call 3 [(.call 5 [(.v 0), (.v 3)]), (.call 5 [(.v 1), (.v 2)])])]))]
theorem b_four_quotient : cSts c_four_quotient 1000000 80 (defScope t_four_quotient) (defBody t_four_quotient) = some i_four_quotient := eqO_eq (by decide +kernel)
theorem d_four_quotient : ∀ (kV doc pm : Value) (an : Option Addr) (cdv ct : Value) (us : List Value), us.length = ["one", "two", "three", "four"].length → bindArgs (PySem.W.fnOf "four_quotient" "four_quotient" (defArgs t_four_quotient) (defBody t_four_quotient) (defScope t_four_quotient) .none kV doc pm an cdv ct) ⟨us, []⟩ = pure (((["one", "two", "three", "four"] : List Str)).zip us) := fun _ _ _ _ _ _ us hl => match us, hl with | [_, _, _, _], _ => rfl
def g_four_quotient : Sem := fun k => match k with | 3 => r_two_times | 4 => r_two_plain | 5 => r_gap | _ => fun _ => .err
def r_four_quotient : List FF.Arg → T Rs := run g_four_quotient i_four_quotient 1
theorem s_are_on_round : FnScope c_are_on_round.N ["one", "two", "three", "four"] (defScope t_are_on_round) := ⟨rfl, rfl, rfl, by decide +kernel, rfl, by decide +kernel, by decide +kernel⟩
def i_are_on_round : List S := [(.ret (.cmp .eq (.ix (.ix (.call 6 [(.v 0), (.v 1), (.v 2), (.v 3)]) (.c (.int 0))) (.c (.int 1))) (.c (.int 0))))]
theorem b_are_on_round : cSts c_are_on_round 1000000 80 (defScope t_are_on_round) (defBody t_are_on_round) = some i_are_on_round := eqO_eq (by decide +kernel)
theorem d_are_on_round : ∀ (kV doc pm : Value) (an : Option Addr) (cdv ct : Value) (us : List Value), us.length = ["one", "two", "three", "four"].length → bindArgs (PySem.W.fnOf "are_on_round" "are_on_round" (defArgs t_are_on_round) (defBody t_are_on_round) (defScope t_are_on_round) .none kV doc pm an cdv ct) ⟨us, []⟩ = pure (((["one", "two", "three", "four"] : List Str)).zip us) := fun _ _ _ _ _ _ us hl => match us, hl with | [_, _, _, _], _ => rfl
def g_are_on_round : Sem := fun k => match k with | 6 => r_four_quotient | _ => fun _ => .err
def r_are_on_round : List FF.Arg → T Rs := run g_are_on_round i_are_on_round 0
theorem s__law_two_table : FnScope c__law_two_table.N ["state", "script"] (defScope t__law_two_table) := ⟨rfl, rfl, rfl, by decide +kernel, rfl, by decide +kernel, by decide +kernel⟩
def i__law_two_table : List S := [(.box 2 false (.comp (.nm 3) .range [(.c (.int 4))] [] (.tup [(.bin .sub (.draw 0 1 (.c (.int 7))) (.c (.int 3))), (.bin .sub (.draw 0 1 (.c (.int 5))) (.c (.int 2)))]))), (.box 4 false (.call 0 [(.call 1 [(.ix (.v 2) (.c (.int 0))), (.ix (.v 2) (.c (.int 3)))]), (.call 1 [(.ix (.v 2) (.c (.int 1))), (.ix (.v 2) (.c (.int 2)))]), (.neg (.c (.int 1)))])), (.ret (.ite (.cmp .ne (.v 4) (.tup [(.c (.int 0)), (.c (.int 0))])) (.tup [(.tup [(.ix (.v 2) (.c (.int 0))), (.ix (.v 2) (.c (.int 1)))]), (.tup [(.ix (.v 2) (.c (.int 2))), (.ix (.v 2) (.c (.int 3)))])]) (.tup [(.tup [(.tup [(.c (.int 1)), (.c (.int 0))]), (.tup [(.c (.int 0)), (.c (.int 1))])]), (.tup [(.tup [(.c (.int 0)), (.c (.int 0))]), (.tup [(.c (.int 1)), (.c (.int 0))])])])))]
theorem b__law_two_table : cSts c__law_two_table 1000000 80 (defScope t__law_two_table) (defBody t__law_two_table) = some i__law_two_table := eqO_eq (by decide +kernel)
theorem d__law_two_table : ∀ (kV doc pm : Value) (an : Option Addr) (cdv ct : Value) (us : List Value), us.length = ["state", "script"].length → bindArgs (PySem.W.fnOf "_law_two_table" "_law_two_table" (defArgs t__law_two_table) (defBody t__law_two_table) (defScope t__law_two_table) .none kV doc pm an cdv ct) ⟨us, []⟩ = pure (((["state", "script"] : List Str)).zip us) := fun _ _ _ _ _ _ us hl => match us, hl with | [_, _], _ => rfl
def g__law_two_table : Sem := fun k => match k with | 0 => r__law_two_plus | 1 => r__law_two_times | _ => fun _ => .err
def r__law_two_table : List FF.Arg → T Rs := run g__law_two_table i__law_two_table 3
theorem s__law_spot : FnScope c__law_spot.N ["above", "below"] (defScope t__law_spot) := ⟨rfl, rfl, rfl, by decide +kernel, rfl, by decide +kernel, by decide +kernel⟩
def i__law_spot : List S := [(.ifs (.cmp .eq (.v 1) (.tup [(.c (.int 0)), (.c (.int 0))])) [(.ret (.tup [(.tup [(.c (.int 1)), (.c (.int 0))]), (.c (.int 0))]))] []), (.box 2 false (.call 1 [(.v 0), (.tup [(.ix (.v 1) (.c (.int 0))), (.neg (.ix (.v 1) (.c (.int 1))))])])), (.par [(3, false), (4, false)] [(.bin .add (.bin .mul (.ix (.v 1) (.c (.int 0))) (.ix (.v 1) (.c (.int 0)))) (.bin .mul (.ix (.v 1) (.c (.int 1))) (.ix (.v 1) (.c (.int 1))))), (.c (.int 0))]), (.forr (.nm 5) .seq [(.tup [(.ix (.v 2) (.c (.int 0))), (.ix (.v 2) (.c (.int 1))), (.v 3)])] [(.box 6 false (.bi .abs [(.v 5)])), (.whl 1000000 (.cmp .gt (.v 6) (.c (.int 0))) [(.box 7 false (.v 4)), (.box 4 false (.v 6)), (.box 6 false (.bin .mod (.bi .int [(.v 7)]) (.v 6)))])]), (.ret (.tup [(.tup [(.bin .fdiv (.ix (.v 2) (.c (.int 0))) (.v 4)), (.bin .fdiv (.ix (.v 2) (.c (.int 1))) (.v 4))]), (.bin .fdiv (.v 3) (.v 4))]))]
theorem b__law_spot : cSts c__law_spot 1000000 80 (defScope t__law_spot) (defBody t__law_spot) = some i__law_spot := eqO_eq (by decide +kernel)
theorem d__law_spot : ∀ (kV doc pm : Value) (an : Option Addr) (cdv ct : Value) (us : List Value), us.length = ["above", "below"].length → bindArgs (PySem.W.fnOf "_law_spot" "_law_spot" (defArgs t__law_spot) (defBody t__law_spot) (defScope t__law_spot) .none kV doc pm an cdv ct) ⟨us, []⟩ = pure (((["above", "below"] : List Str)).zip us) := fun _ _ _ _ _ _ us hl => match us, hl with | [_, _], _ => rfl
def g__law_spot : Sem := fun k => match k with | 1 => r__law_two_times | _ => fun _ => .err
def r__law_spot : List FF.Arg → T Rs := run g__law_spot i__law_spot 6
theorem s__law_drawn : FnScope c__law_drawn.N ["state", "script"] (defScope t__law_drawn) := ⟨rfl, rfl, rfl, by decide +kernel, rfl, by decide +kernel, by decide +kernel⟩
def i__law_drawn : List S := [(.ifs (.cmp .eq (.draw 0 1 (.c (.int 7))) (.c (.int 0))) [(.ret (.tup [(.tup [(.c (.int 1)), (.c (.int 0))]), (.c (.int 0))]))] []), (.ret (.call 9 [(.tup [(.bin .sub (.draw 0 1 (.c (.int 9))) (.c (.int 4))), (.bin .sub (.draw 0 1 (.c (.int 9))) (.c (.int 4)))]), (.tup [(.bin .add (.c (.int 1)) (.draw 0 1 (.c (.int 3)))), (.c (.int 0))])]))]
theorem b__law_drawn : cSts c__law_drawn 1000000 80 (defScope t__law_drawn) (defBody t__law_drawn) = some i__law_drawn := eqO_eq (by decide +kernel)
theorem d__law_drawn : ∀ (kV doc pm : Value) (an : Option Addr) (cdv ct : Value) (us : List Value), us.length = ["state", "script"].length → bindArgs (PySem.W.fnOf "_law_drawn" "_law_drawn" (defArgs t__law_drawn) (defBody t__law_drawn) (defScope t__law_drawn) .none kV doc pm an cdv ct) ⟨us, []⟩ = pure (((["state", "script"] : List Str)).zip us) := fun _ _ _ _ _ _ us hl => match us, hl with | [_, _], _ => rfl
def g__law_drawn : Sem := fun k => match k with | 9 => r__law_spot | _ => fun _ => .err
def r__law_drawn : List FF.Arg → T Rs := run g__law_drawn i__law_drawn 0
theorem s__law_led_spot : FnScope c__law_led_spot.N ["table", "spot"] (defScope t__law_led_spot) := ⟨rfl, rfl, rfl, by decide +kernel, rfl, by decide +kernel, by decide +kernel⟩
def i__law_led_spot : List S := [(.box 2 false (.call 0 [(.call 1 [(.ix (.ix (.v 0) (.c (.int 0))) (.c (.int 0))), (.ix (.v 1) (.c (.int 0)))]), (.ix (.ix (.v 0) (.c (.int 0))) (.c (.int 1))), (.ix (.v 1) (.c (.int 1)))])), (.box 3 false (.call 0 [(.call 1 [(.ix (.ix (.v 0) (.c (.int 1))) (.c (.int 0))), (.ix (.v 1) (.c (.int 0)))]), (.ix (.ix (.v 0) (.c (.int 1))) (.c (.int 1))), (.ix (.v 1) (.c (.int 1)))])), (.ret (.call 9 [(.v 2), (.v 3)]))]
theorem b__law_led_spot : cSts c__law_led_spot 1000000 80 (defScope t__law_led_spot) (defBody t__law_led_spot) = some i__law_led_spot := eqO_eq (by decide +kernel)
theorem d__law_led_spot : ∀ (kV doc pm : Value) (an : Option Addr) (cdv ct : Value) (us : List Value), us.length = ["table", "spot"].length → bindArgs (PySem.W.fnOf "_law_led_spot" "_law_led_spot" (defArgs t__law_led_spot) (defBody t__law_led_spot) (defScope t__law_led_spot) .none kV doc pm an cdv ct) ⟨us, []⟩ = pure (((["table", "spot"] : List Str)).zip us) := fun _ _ _ _ _ _ us hl => match us, hl with | [_, _], _ => rfl
def g__law_led_spot : Sem := fun k => match k with | 0 => r__law_two_plus | 9 => r__law_spot | 1 => r__law_two_times | _ => fun _ => .err
def r__law_led_spot : List FF.Arg → T Rs := run g__law_led_spot i__law_led_spot 2
theorem s__law_lowest : FnScope c__law_lowest.N ["above", "below"] (defScope t__law_lowest) := ⟨rfl, rfl, rfl, by decide +kernel, rfl, by decide +kernel, by decide +kernel⟩
def i__law_lowest : List S := [(.par [(2, false), (3, false)] [(.bi .abs [(.v 0)]), (.bi .abs [(.v 1)])]), (.whl 1000000 (.cmp .gt (.v 3) (.c (.int 0))) [(.box 4 false (.bin .mod (.bi .int [(.v 2)]) (.v 3))), (.box 2 false (.v 3)), (.box 3 false (.v 4))]), (.box 5 false (.ite (.cmp .lt (.v 1) (.c (.int 0))) (.neg (.c (.int 1))) (.c (.int 1)))), (.ret (.tup [(.bin .fdiv (.bin .mul (.v 5) (.v 0)) (.v 2)), (.bin .fdiv (.bin .mul (.v 5) (.v 1)) (.v 2))]))]
theorem b__law_lowest : cSts c__law_lowest 1000000 80 (defScope t__law_lowest) (defBody t__law_lowest) = some i__law_lowest := eqO_eq (by decide +kernel)
theorem d__law_lowest : ∀ (kV doc pm : Value) (an : Option Addr) (cdv ct : Value) (us : List Value), us.length = ["above", "below"].length → bindArgs (PySem.W.fnOf "_law_lowest" "_law_lowest" (defArgs t__law_lowest) (defBody t__law_lowest) (defScope t__law_lowest) .none kV doc pm an cdv ct) ⟨us, []⟩ = pure (((["above", "below"] : List Str)).zip us) := fun _ _ _ _ _ _ us hl => match us, hl with | [_, _], _ => rfl
def g__law_lowest : Sem := fun k => match k with | _ => fun _ => .err
def r__law_lowest : List FF.Arg → T Rs := run g__law_lowest i__law_lowest 4
theorem s__law_kind_of : FnScope c__law_kind_of.N ["table"] (defScope t__law_kind_of) := ⟨rfl, rfl, rfl, by decide +kernel, rfl, by decide +kernel, by decide +kernel⟩
def i__law_kind_of : List S := [(.asg (.tup [(.tup [(.nm 1), (.nm 2)]), (.tup [(.nm 3), (.nm 4)])]) (.v 0)), (.ifs (.and2 (.cmp .eq (.v 2) (.tup [(.c (.int 0)), (.c (.int 0))])) (.and2 (.cmp .eq (.v 3) (.tup [(.c (.int 0)), (.c (.int 0))])) (.cmp .eq (.v 1) (.v 4)))) [(.ret (.c (.str [115, 116, 105, 108, 108])))] []), (.box 5 false (.call 0 [(.v 1), (.v 4), (.c (.int 1))])), (.box 6 false (.call 0 [(.call 1 [(.v 1), (.v 4)]), (.call 1 [(.v 2), (.v 3)]), (.neg (.c (.int 1)))])), (.box 7 false (.call 9 [(.call 1 [(.v 5), (.v 5)]), (.v 6)])), (.box 8 false (.call 12 [(.ix (.ix (.v 7) (.c (.int 0))) (.c (.int 0))), (.ix (.v 7) (.c (.int 1)))])), (.ifs (.cmp .eq (.v 7) (.tup [(.tup [(.c (.int 4)), (.c (.int 0))]), (.c (.int 1))])) [(.ret (.c (.str [115, 104, 105, 102, 116])))] []), (.ifs (.or2 (.cmp .ne (.ix (.ix (.v 7) (.c (.int 0))) (.c (.int 1))) (.c (.int 0))) (.cmp .lt (.ix (.v 8) (.c (.int 0))) (.c (.int 0)))) [(.ret (.c (.str [115, 112, 105, 114, 97, 108])))] []), (.ret (.ite (.cmp .lt (.ix (.v 8) (.c (.int 0))) (.bin .mul (.c (.int 4)) (.ix (.v 8) (.c (.int 1))))) (.c (.str [114, 111, 117, 110, 100])) (.c (.str [115, 116, 114, 101, 116, 99, 104]))))]
theorem b__law_kind_of : cSts c__law_kind_of 1000000 80 (defScope t__law_kind_of) (defBody t__law_kind_of) = some i__law_kind_of := eqO_eq (by decide +kernel)
theorem d__law_kind_of : ∀ (kV doc pm : Value) (an : Option Addr) (cdv ct : Value) (us : List Value), us.length = ["table"].length → bindArgs (PySem.W.fnOf "_law_kind_of" "_law_kind_of" (defArgs t__law_kind_of) (defBody t__law_kind_of) (defScope t__law_kind_of) .none kV doc pm an cdv ct) ⟨us, []⟩ = pure (((["table"] : List Str)).zip us) := fun _ _ _ _ _ _ us hl => match us, hl with | [_], _ => rfl
def g__law_kind_of : Sem := fun k => match k with | 0 => r__law_two_plus | 9 => r__law_spot | 12 => r__law_lowest | 1 => r__law_two_times | _ => fun _ => .err
def r__law_kind_of : List FF.Arg → T Rs := run g__law_kind_of i__law_kind_of 8
theorem s__law_exact : FnScope c__law_exact.N ["first", "second"] (defScope t__law_exact) := ⟨rfl, rfl, rfl, by decide +kernel, rfl, by decide +kernel, by decide +kernel⟩
theorem b__law_exact : cSts c__law_exact 1000000 80 (defScope t__law_exact) (defBody t__law_exact) = some (i_exact 14) := eqO_eq (by decide +kernel)
theorem d__law_exact : ∀ (kV doc pm : Value) (an : Option Addr) (cdv ct : Value) (us : List Value), us.length = ["first", "second"].length → bindArgs (PySem.W.fnOf "_law_exact" "_law_exact" (defArgs t__law_exact) (defBody t__law_exact) (defScope t__law_exact) .none kV doc pm an cdv ct) ⟨us, []⟩ = pure (((["first", "second"] : List Str)).zip us) := fun _ _ _ _ _ _ us hl => match us, hl with | [_, _], _ => rfl
abbrev r__law_exact : List FF.Arg → T Rs := r_exact 14 10
theorem s_scaled : FnScope c_scaled.N ["one", "by"] (defScope t_scaled) := ⟨rfl, rfl, rfl, by decide +kernel, rfl, by decide +kernel, by decide +kernel⟩
def i_scaled : List S := [(.ret (.tup [(.bin .mul (.ix (.v 0) (.c (.int 0))) (.v 1)), (.bin .mul (.ix (.v 0) (.c (.int 1))) (.v 1))]))]
theorem b_scaled : cSts c_scaled 1000000 80 (defScope t_scaled) (defBody t_scaled) = some i_scaled := eqO_eq (by decide +kernel)
theorem d_scaled : ∀ (kV doc pm : Value) (an : Option Addr) (cdv ct : Value) (us : List Value), us.length = ["one", "by"].length → bindArgs (PySem.W.fnOf "scaled" "scaled" (defArgs t_scaled) (defBody t_scaled) (defScope t_scaled) .none kV doc pm an cdv ct) ⟨us, []⟩ = pure (((["one", "by"] : List Str)).zip us) := fun _ _ _ _ _ _ us hl => match us, hl with | [_, _], _ => rfl
def g_scaled : Sem := fun k => match k with | _ => fun _ => .err
def r_scaled : List FF.Arg → T Rs := run g_scaled i_scaled 0
theorem s_back_table : FnScope c_back_table.N ["table"] (defScope t_back_table) := ⟨rfl, rfl, rfl, by decide +kernel, rfl, by decide +kernel, by decide +kernel⟩
def i_back_table : List S := [(.asg (.tup [(.tup [(.nm 1), (.nm 2)]), (.tup [(.nm 3), (.nm 4)])]) (.v 0)), (.ret (.tup [(.tup [(.v 4), (.call 15 [(.v 2), (.neg (.c (.int 1)))])]), (.tup [(.call 15 [(.v 3), (.neg (.c (.int 1)))]), (.v 1)])]))]
theorem b_back_table : cSts c_back_table 1000000 80 (defScope t_back_table) (defBody t_back_table) = some i_back_table := eqO_eq (by decide +kernel)
theorem d_back_table : ∀ (kV doc pm : Value) (an : Option Addr) (cdv ct : Value) (us : List Value), us.length = ["table"].length → bindArgs (PySem.W.fnOf "back_table" "back_table" (defArgs t_back_table) (defBody t_back_table) (defScope t_back_table) .none kV doc pm an cdv ct) ⟨us, []⟩ = pure (((["table"] : List Str)).zip us) := fun _ _ _ _ _ _ us hl => match us, hl with | [_], _ => rfl
def g_back_table : Sem := fun k => match k with | 15 => r_scaled | _ => fun _ => .err
def r_back_table : List FF.Arg → T Rs := run g_back_table i_back_table 4
theorem s__law_apart : FnScope c__law_apart.N ["one", "other"] (defScope t__law_apart) := ⟨rfl, rfl, rfl, by decide +kernel, rfl, by decide +kernel, by decide +kernel⟩
def i__law_apart : List S := [(.ret (.call 0 [(.tup [(.bin .mul (.ix (.ix (.v 0) (.c (.int 0))) (.c (.int 0))) (.ix (.v 1) (.c (.int 1)))), (.bin .mul (.ix (.ix (.v 0) (.c (.int 0))) (.c (.int 1))) (.ix (.v 1) (.c (.int 1))))]), (.tup [(.bin .mul (.ix (.ix (.v 1) (.c (.int 0))) (.c (.int 0))) (.ix (.v 0) (.c (.int 1)))), (.bin .mul (.ix (.ix (.v 1) (.c (.int 0))) (.c (.int 1))) (.ix (.v 0) (.c (.int 1))))]), (.neg (.c (.int 1)))]))]
theorem b__law_apart : cSts c__law_apart 1000000 80 (defScope t__law_apart) (defBody t__law_apart) = some i__law_apart := eqO_eq (by decide +kernel)
theorem d__law_apart : ∀ (kV doc pm : Value) (an : Option Addr) (cdv ct : Value) (us : List Value), us.length = ["one", "other"].length → bindArgs (PySem.W.fnOf "_law_apart" "_law_apart" (defArgs t__law_apart) (defBody t__law_apart) (defScope t__law_apart) .none kV doc pm an cdv ct) ⟨us, []⟩ = pure (((["one", "other"] : List Str)).zip us) := fun _ _ _ _ _ _ us hl => match us, hl with | [_, _], _ => rfl
def g__law_apart : Sem := fun k => match k with | 0 => r__law_two_plus | _ => fun _ => .err
def r__law_apart : List FF.Arg → T Rs := run g__law_apart i__law_apart 0
theorem s_map_by : FnScope c_map_by.N ["one", "two", "three"] (defScope t_map_by) := ⟨rfl, rfl, rfl, by decide +kernel, rfl, by decide +kernel, by decide +kernel⟩
def i_map_by : List S := [(.par [(3, false), (4, false)] [(.call 5 [(.v 1), (.v 2)]), (.call 5 [(.v 1), (.v 0)])]), (.ret (.tup [(.tup [(.call 15 [(.v 3), (.ix (.v 0) (.c (.int 1)))]), (.call 15 [(.call 3 [(.v 3), (.ix (.v 0) (.c (.int 0)))]), (.neg (.c (.int 1)))])]), (.tup [(.call 15 [(.v 4), (.ix (.v 2) (.c (.int 1)))]), (.call 15 [(.call 3 [(.v 4), (.ix (.v 2) (.c (.int 0)))]), (.neg (.c (.int 1)))])])]))]
theorem b_map_by : cSts c_map_by 1000000 80 (defScope t_map_by) (defBody t_map_by) = some i_map_by := eqO_eq (by decide +kernel)
theorem d_map_by : ∀ (kV doc pm : Value) (an : Option Addr) (cdv ct : Value) (us : List Value), us.length = ["one", "two", "three"].length → bindArgs (PySem.W.fnOf "map_by" "map_by" (defArgs t_map_by) (defBody t_map_by) (defScope t_map_by) .none kV doc pm an cdv ct) ⟨us, []⟩ = pure (((["one", "two", "three"] : List Str)).zip us) := fun _ _ _ _ _ _ us hl => match us, hl with | [_, _, _], _ => rfl
def g_map_by : Sem := fun k => match k with | 5 => r_gap | 15 => r_scaled | 3 => r_two_times | _ => fun _ => .err
def r_map_by : List FF.Arg → T Rs := run g_map_by i_map_by 2
theorem s_two_add : FnScope c_two_add.N ["one", "other"] (defScope t_two_add) := ⟨rfl, rfl, rfl, by decide +kernel, rfl, by decide +kernel, by decide +kernel⟩
def i_two_add : List S := [(.ret (.tup [(.bin .add (.ix (.v 0) (.c (.int 0))) (.ix (.v 1) (.c (.int 0)))), (.bin .add (.ix (.v 0) (.c (.int 1))) (.ix (.v 1) (.c (.int 1))))]))]
theorem b_two_add : cSts c_two_add 1000000 80 (defScope t_two_add) (defBody t_two_add) = some i_two_add := eqO_eq (by decide +kernel)
theorem d_two_add : ∀ (kV doc pm : Value) (an : Option Addr) (cdv ct : Value) (us : List Value), us.length = ["one", "other"].length → bindArgs (PySem.W.fnOf "two_add" "two_add" (defArgs t_two_add) (defBody t_two_add) (defScope t_two_add) .none kV doc pm an cdv ct) ⟨us, []⟩ = pure (((["one", "other"] : List Str)).zip us) := fun _ _ _ _ _ _ us hl => match us, hl with | [_, _], _ => rfl
def g_two_add : Sem := fun k => match k with | _ => fun _ => .err
def r_two_add : List FF.Arg → T Rs := run g_two_add i_two_add 0
theorem s_determinant : FnScope c_determinant.N ["table"] (defScope t_determinant) := ⟨rfl, rfl, rfl, by decide +kernel, rfl, by decide +kernel, by decide +kernel⟩
def i_determinant : List S := [(.asg (.tup [(.tup [(.nm 1), (.nm 2)]), (.tup [(.nm 3), (.nm 4)])]) (.v 0)), (.ret (.call 19 [(.call 3 [(.v 1), (.v 4)]), (.call 15 [(.call 3 [(.v 2), (.v 3)]), (.neg (.c (.int 1)))])]))]
theorem b_determinant : cSts c_determinant 1000000 80 (defScope t_determinant) (defBody t_determinant) = some i_determinant := eqO_eq (by decide +kernel)
theorem d_determinant : ∀ (kV doc pm : Value) (an : Option Addr) (cdv ct : Value) (us : List Value), us.length = ["table"].length → bindArgs (PySem.W.fnOf "determinant" "determinant" (defArgs t_determinant) (defBody t_determinant) (defScope t_determinant) .none kV doc pm an cdv ct) ⟨us, []⟩ = pure (((["table"] : List Str)).zip us) := fun _ _ _ _ _ _ us hl => match us, hl with | [_], _ => rfl
def g_determinant : Sem := fun k => match k with | 19 => r_two_add | 3 => r_two_times | 15 => r_scaled | _ => fun _ => .err
def r_determinant : List FF.Arg → T Rs := run g_determinant i_determinant 4
theorem s_trace : FnScope c_trace.N ["table"] (defScope t_trace) := ⟨rfl, rfl, rfl, by decide +kernel, rfl, by decide +kernel, by decide +kernel⟩
def i_trace : List S := [(.ret (.call 19 [(.ix (.ix (.v 0) (.c (.int 0))) (.c (.int 0))), (.ix (.ix (.v 0) (.c (.int 1))) (.c (.int 1)))]))]
theorem b_trace : cSts c_trace 1000000 80 (defScope t_trace) (defBody t_trace) = some i_trace := eqO_eq (by decide +kernel)
theorem d_trace : ∀ (kV doc pm : Value) (an : Option Addr) (cdv ct : Value) (us : List Value), us.length = ["table"].length → bindArgs (PySem.W.fnOf "trace" "trace" (defArgs t_trace) (defBody t_trace) (defScope t_trace) .none kV doc pm an cdv ct) ⟨us, []⟩ = pure (((["table"] : List Str)).zip us) := fun _ _ _ _ _ _ us hl => match us, hl with | [_], _ => rfl
def g_trace : Sem := fun k => match k with | 19 => r_two_add | _ => fun _ => .err
def r_trace : List FF.Arg → T Rs := run g_trace i_trace 0
theorem s_kind_of_map : FnScope c_kind_of_map.N ["table"] (defScope t_kind_of_map) := ⟨rfl, rfl, rfl, by decide +kernel, rfl, by decide +kernel, by decide +kernel⟩
def i_kind_of_map : List S := [(.asg (.tup [(.tup [(.nm 1), (.nm 2)]), (.tup [(.nm 3), (.nm 4)])]) (.v 0)), (.ifs (.and2 (.cmp .eq (.v 2) (.tup [(.c (.int 0)), (.c (.int 0))])) (.and2 (.cmp .eq (.v 3) (.tup [(.c (.int 0)), (.c (.int 0))])) (.cmp .eq (.v 1) (.v 4)))) [(.ret (.c (.str [115, 116, 105, 108, 108])))] []), (.par [(5, false), (6, false)] [(.call 3 [(.call 21 [(.v 0)]), (.call 21 [(.v 0)])]), (.call 20 [(.v 0)])]), (.box 7 false (.tup [(.ix (.v 6) (.c (.int 0))), (.neg (.ix (.v 6) (.c (.int 1))))])), (.par [(8, false), (9, false)] [(.call 3 [(.v 5), (.v 7)]), (.ix (.call 3 [(.v 6), (.v 7)]) (.c (.int 0)))]), (.ifs (.cmp .eq (.v 8) (.tup [(.bin .mul (.c (.int 4)) (.v 9)), (.c (.int 0))])) [(.ret (.c (.str [115, 104, 105, 102, 116])))] []), (.ifs (.or2 (.cmp .ne (.ix (.v 8) (.c (.int 1))) (.c (.int 0))) (.cmp .lt (.ix (.v 8) (.c (.int 0))) (.c (.int 0)))) [(.ret (.c (.str [115, 112, 105, 114, 97, 108])))] []), (.ret (.ite (.cmp .lt (.ix (.v 8) (.c (.int 0))) (.bin .mul (.c (.int 4)) (.v 9))) (.c (.str [114, 111, 117, 110, 100])) (.c (.str [115, 116, 114, 101, 116, 99, 104]))))]
theorem b_kind_of_map : cSts c_kind_of_map 1000000 80 (defScope t_kind_of_map) (defBody t_kind_of_map) = some i_kind_of_map := eqO_eq (by decide +kernel)
theorem d_kind_of_map : ∀ (kV doc pm : Value) (an : Option Addr) (cdv ct : Value) (us : List Value), us.length = ["table"].length → bindArgs (PySem.W.fnOf "kind_of_map" "kind_of_map" (defArgs t_kind_of_map) (defBody t_kind_of_map) (defScope t_kind_of_map) .none kV doc pm an cdv ct) ⟨us, []⟩ = pure (((["table"] : List Str)).zip us) := fun _ _ _ _ _ _ us hl => match us, hl with | [_], _ => rfl
def g_kind_of_map : Sem := fun k => match k with | 3 => r_two_times | 20 => r_determinant | 21 => r_trace | _ => fun _ => .err
def r_kind_of_map : List FF.Arg → T Rs := run g_kind_of_map i_kind_of_map 9
theorem s_led_by : FnScope c_led_by.N ["table", "spot"] (defScope t_led_by) := ⟨rfl, rfl, rfl, by decide +kernel, rfl, by decide +kernel, by decide +kernel⟩
def i_led_by : List S := [(.asg (.tup [(.tup [(.nm 2), (.nm 3)]), (.tup [(.nm 4), (.nm 5)])]) (.v 0)), (.asg (.tup [(.nm 6), (.nm 7)]) (.v 1)), (.box 8 false (.call 19 [(.call 3 [(.v 2), (.v 6)]), (.call 15 [(.v 3), (.v 7)])])), (.ret (.call 4 [(.v 8), (.call 19 [(.call 3 [(.v 4), (.v 6)]), (.call 15 [(.v 5), (.v 7)])])]))]
theorem b_led_by : cSts c_led_by 1000000 80 (defScope t_led_by) (defBody t_led_by) = some i_led_by := eqO_eq (by decide +kernel)
theorem d_led_by : ∀ (kV doc pm : Value) (an : Option Addr) (cdv ct : Value) (us : List Value), us.length = ["table", "spot"].length → bindArgs (PySem.W.fnOf "led_by" "led_by" (defArgs t_led_by) (defBody t_led_by) (defScope t_led_by) .none kV doc pm an cdv ct) ⟨us, []⟩ = pure (((["table", "spot"] : List Str)).zip us) := fun _ _ _ _ _ _ us hl => match us, hl with | [_, _], _ => rfl
def g_led_by : Sem := fun k => match k with | 19 => r_two_add | 4 => r_two_plain | 3 => r_two_times | 15 => r_scaled | _ => fun _ => .err
def r_led_by : List FF.Arg → T Rs := run g_led_by i_led_by 7
theorem s_table_times : FnScope c_table_times.N ["one", "other"] (defScope t_table_times) := ⟨rfl, rfl, rfl, by decide +kernel, rfl, by decide +kernel, by decide +kernel⟩
def i_table_times : List S := [(.asg (.tup [(.tup [(.nm 2), (.nm 3)]), (.tup [(.nm 4), (.nm 5)])]) (.v 0)), (.asg (.tup [(.tup [(.nm 6), (.nm 7)]), (.tup [(.nm 8), (.nm 9)])]) (.v 1)), (.ret (.tup [(.tup [(.call 19 [(.call 3 [(.v 2), (.v 6)]), (.call 3 [(.v 3), (.v 8)])]), (.call 19 [(.call 3 [(.v 2), (.v 7)]), (.call 3 [(.v 3), (.v 9)])])]), (.tup [(.call 19 [(.call 3 [(.v 4), (.v 6)]), (.call 3 [(.v 5), (.v 8)])]), (.call 19 [(.call 3 [(.v 4), (.v 7)]), (.call 3 [(.v 5), (.v 9)])])])]))]
theorem b_table_times : cSts c_table_times 1000000 80 (defScope t_table_times) (defBody t_table_times) = some i_table_times := eqO_eq (by decide +kernel)
theorem d_table_times : ∀ (kV doc pm : Value) (an : Option Addr) (cdv ct : Value) (us : List Value), us.length = ["one", "other"].length → bindArgs (PySem.W.fnOf "table_times" "table_times" (defArgs t_table_times) (defBody t_table_times) (defScope t_table_times) .none kV doc pm an cdv ct) ⟨us, []⟩ = pure (((["one", "other"] : List Str)).zip us) := fun _ _ _ _ _ _ us hl => match us, hl with | [_, _], _ => rfl
def g_table_times : Sem := fun k => match k with | 19 => r_two_add | 3 => r_two_times | _ => fun _ => .err
def r_table_times : List FF.Arg → T Rs := run g_table_times i_table_times 8
theorem s_law : FnScope c_law.N ["script"] (defScope t_law) := ⟨rfl, rfl, rfl, by decide +kernel, rfl, by decide +kernel, by decide +kernel⟩
def i_law : List S := [(.forr (.nm 2) .range [(.c (.int 4))] [(.par [(3, false), (4, false)] [(.call 8 [(.v 1), (.v 0)]), (.call 8 [(.v 1), (.v 0)])]), (.box 5 false (.comp (.nm 6) .range [(.c (.int 4))] [] (.call 10 [(.v 1), (.v 0)]))), (.box 7 false (.ix (.v 5) (.c (.int 0)))), (.par [(8, false), (9, false)] [(.ix (.ix (.v 3) (.c (.int 0))) (.c (.int 0))), (.ix (.ix (.v 3) (.c (.int 0))) (.c (.int 1)))]), (.box 10 false (.call 0 [(.call 1 [(.ix (.ix (.v 3) (.c (.int 0))) (.c (.int 0))), (.ix (.ix (.v 3) (.c (.int 1))) (.c (.int 1)))]), (.call 1 [(.ix (.ix (.v 3) (.c (.int 0))) (.c (.int 1))), (.ix (.ix (.v 3) (.c (.int 1))) (.c (.int 0)))]), (.neg (.c (.int 1)))])), (.box 11 false (.lst [(.call 11 [(.v 3), (.v 7)]), (.call 2 [(.v 3), (.v 4)]), (.v 10), (.call 0 [(.ix (.ix (.v 3) (.c (.int 0))) (.c (.int 0))), (.ix (.ix (.v 3) (.c (.int 1))) (.c (.int 1))), (.c (.int 1))]), (.call 13 [(.v 3)])])), (.ifs (.nt (.tr (.call 14 [(.v 11), (.lst [(.call 23 [(.v 3), (.v 7)]), (.call 24 [(.v 3), (.v 4)]), (.call 20 [(.v 3)]), (.call 21 [(.v 3)]), (.call 22 [(.v 3)])])]))) [(.ret (.c (.bl false)))] []), (.ifs (.or2 (.cmp .ne (.call 23 [(.call 24 [(.v 3), (.v 4)]), (.v 7)]) (.call 11 [(.v 3), (.call 11 [(.v 4), (.v 7)])])) (.cmp .ne (.call 23 [(.call 16 [(.v 3)]), (.call 23 [(.v 3), (.v 7)])]) (.v 7))) [(.ret (.c (.bl false)))] []), (.box 12 false (.call 2 [(.call 2 [(.v 4), (.v 3)]), (.call 16 [(.v 4)])])), (.ifs (.or2 (.and2 (.cmp .ne (.call 22 [(.v 12)]) (.call 22 [(.v 3)])) (.cmp .ne (.call 22 [(.v 3)]) (.c (.str [115, 116, 105, 108, 108])))) (.and2 (.cmp .eq (.call 22 [(.v 3)]) (.c (.str [115, 116, 105, 108, 108]))) (.cmp .ne (.call 23 [(.v 12), (.v 7)]) (.v 7)))) [(.ret (.c (.bl false)))] []), (.box 13 false (.bin .sub (.draw 1 0 (.c (.int 9))) (.c (.int 4)))), (.par [(14, false), (15, false)] [(.tup [(.bin .sub (.draw 1 0 (.c (.int 19))) (.c (.int 9))), (.bin .sub (.draw 1 0 (.c (.int 19))) (.c (.int 9)))]), (.tup [(.bin .sub (.draw 1 0 (.c (.int 9))) (.c (.int 4))), (.bin .add (.c (.int 1)) (.draw 1 0 (.c (.int 4))))])]), (.box 11 false (.lst [(.call 1 [(.v 8), (.v 9)]), (.call 0 [(.v 8), (.v 9), (.c (.int 1))]), (.tup [(.bin .mul (.v 13) (.ix (.v 8) (.c (.int 0)))), (.bin .mul (.v 13) (.ix (.v 8) (.c (.int 1))))]), (.call 9 [(.v 14), (.v 15)]), (.call 17 [(.ix (.v 5) (.c (.int 0))), (.ix (.v 5) (.c (.int 1)))])])), (.ifs (.nt (.tr (.call 14 [(.v 11), (.lst [(.call 3 [(.v 8), (.v 9)]), (.call 19 [(.v 8), (.v 9)]), (.call 15 [(.v 8), (.v 13)]), (.call 4 [(.v 14), (.v 15)]), (.call 5 [(.ix (.v 5) (.c (.int 0))), (.ix (.v 5) (.c (.int 1)))])])]))) [(.ret (.c (.bl false)))] []), (.box 16 false (.comp (.nm 6) .range [(.c (.int 4))] [(.cmp .eq (.bi .index [(.v 5), (.ix (.v 5) (.v 6))]) (.v 6))] (.ix (.v 5) (.v 6)))), (.ifs (.cmp .eq (.bi .len [(.v 16)]) (.c (.int 4))) [(.asg (.tup [(.nm 17), (.nm 18), (.nm 19), (.nm 20)]) (.v 16)), (.box 21 false (.call 9 [(.call 1 [(.call 17 [(.v 17), (.v 19)]), (.call 17 [(.v 18), (.v 20)])]), (.call 1 [(.call 17 [(.v 17), (.v 20)]), (.call 17 [(.v 18), (.v 19)])])])), (.box 22 false (.comp (.nm 23) .seq [(.v 16)] [] (.call 23 [(.v 3), (.v 23)]))), (.ifs (.nt (.tr (.call 14 [(.lst [(.v 21), (.v 21), (.cmp .eq (.ix (.ix (.v 21) (.c (.int 0))) (.c (.int 1))) (.c (.int 0)))]), (.lst [(.call 6 [(.v 17), (.v 18), (.v 19), (.v 20)]), (.call 6 [(.ix (.v 22) (.c (.int 0))), (.ix (.v 22) (.c (.int 1))), (.ix (.v 22) (.c (.int 2))), (.ix (.v 22) (.c (.int 3)))]), (.call 7 [(.v 17), (.v 18), (.v 19), (.v 20)])])]))) [(.ret (.c (.bl false)))] [])] []), (.ifs (.cmp .gt (.bi .len [(.v 16)]) (.c (.int 2))) [(.box 24 false (.call 18 [(.ix (.v 16) (.c (.int 0))), (.ix (.v 16) (.c (.int 1))), (.ix (.v 16) (.c (.int 2)))])), (.ifs (.cmp .ne (.comp (.nm 23) .seq [(.sl (.v 16) [] [(.c (.int 3))])] [] (.call 11 [(.v 24), (.v 23)])) (.lst [(.tup [(.tup [(.c (.int 0)), (.c (.int 0))]), (.c (.int 1))]), (.tup [(.tup [(.c (.int 1)), (.c (.int 0))]), (.c (.int 1))]), (.tup [(.tup [(.c (.int 1)), (.c (.int 0))]), (.c (.int 0))])])) [(.ret (.c (.bl false)))] [])] [])]), (.box 25 false (.lst [(.tup [(.tup [(.c (.int 1)), (.c (.int 0))]), (.c (.int 1))]), (.tup [(.tup [(.c (.int 0)), (.c (.int 1))]), (.c (.int 1))]), (.tup [(.tup [(.neg (.c (.int 1))), (.c (.int 0))]), (.c (.int 1))]), (.tup [(.tup [(.c (.int 0)), (.neg (.c (.int 1)))]), (.c (.int 1))])])), (.ret (.and2 (.call 7 [(.ix (.v 25) (.c (.int 0))), (.ix (.v 25) (.c (.int 1))), (.ix (.v 25) (.c (.int 2))), (.ix (.v 25) (.c (.int 3)))]) (.and2 (.nt (.call 7 [(.tup [(.tup [(.c (.int 0)), (.c (.int 0))]), (.c (.int 1))]), (.ix (.v 25) (.c (.int 0))), (.ix (.v 25) (.c (.int 1))), (.ix (.v 25) (.c (.int 3)))])) (.cmp .eq (.call 22 [(.tup [(.tup [(.tup [(.c (.int 0)), (.c (.int 0))]), (.tup [(.neg (.c (.int 1))), (.c (.int 0))])]), (.tup [(.tup [(.c (.int 1)), (.c (.int 0))]), (.tup [(.c (.int 0)), (.c (.int 0))])])])]) (.c (.str [114, 111, 117, 110, 100]))))))]
theorem b_law : cSts c_law 1000000 80 (defScope t_law) ((defBody t_law).drop 1) = some i_law := eqO_eq (by decide +kernel)
def g_law : Sem := fun k => match k with | 0 => r__law_two_plus | 2 => r__law_table_times | 7 => r_are_on_round | 8 => r__law_two_table | 10 => r__law_drawn | 1 => r__law_two_times | 11 => r__law_led_spot | 13 => r__law_kind_of | 14 => r__law_exact | 16 => r_back_table | 9 => r__law_spot | 17 => r__law_apart | 18 => r_map_by | 22 => r_kind_of_map | 23 => r_led_by | 24 => r_table_times | 20 => r_determinant | 21 => r_trace | 3 => r_two_times | 19 => r_two_add | 15 => r_scaled | 4 => r_two_plain | 5 => r_gap | 6 => r_four_quotient | _ => fun _ => .err
theorem d_refill : ∀ (kV doc pm : Value) (an : Option Addr) (cdv ct : Value) (us : List Value), us.length = ["script", "k"].length → bindArgs (PySem.W.fnOf "_law_refill" "_law_refill" (defArgs t_refill) (defBody t_refill) (defScope t_refill) .none kV doc pm an cdv ct) ⟨us, []⟩ = pure (((["script", "k"] : List Str)).zip us) := fun _ _ _ _ _ _ us hl => match us, hl with | [_, _], _ => rfl
theorem d_draw : ∀ (kV doc pm : Value) (an : Option Addr) (cdv ct : Value) (us : List Value), us.length = ["state", "script", "size"].length → bindArgs (PySem.W.fnOf "_law_draw" "_law_draw" (defArgs t_draw) (defBody t_draw) (defScope t_draw) .none kV doc pm an cdv ct) ⟨us, []⟩ = pure (((["state", "script", "size"] : List Str)).zip us) := fun _ _ _ _ _ _ us hl => match us, hl with | [_, _, _], _ => rfl
section
variable {P : Program} {w : World} {K : Fg} {mg : Str → Option Value} {base : Heap}
theorem s_refill : FnScope ["script", "k", "cell"] ["script", "k"] (defScope t_refill) := ⟨rfl, rfl, rfl, by decide +kernel, rfl, by decide +kernel, by decide +kernel⟩
theorem s_draw : FnScope ["state", "script", "size", "digit"] ["state", "script", "size"] (defScope t_draw) := ⟨rfl, rfl, rfl, by decide +kernel, rfl, by decide +kernel, by decide +kernel⟩
def HaveRe (P : Program) (w : World) (K : Fg) (mg : Str → Option Value) (base : Heap) (lev : Nat) : Prop :=
  ∃ f fd ps, FnOk P w K mg base CX0 lev f fd ps (spRefill K) ∧ mg "_law_refill" = some (.ref f) ∧ PySem.W.keepIn K (.ref f) = true ∧ Binds K fd ps []
theorem ok_refill (F : Stand K mg "_law_refill" t_refill ["script", "k"]) (nn : NoneAll mg biNames) : HaveRe P w K mg base 1 := by
  obtain ⟨f, fd, F, hm, hb⟩ := F
  refine ⟨f, fd, _, F.ok s_refill (fun vs H Q E h => by obtain ⟨w, k, rfl, _⟩ := h; rfl) (fun cdv A outer s H vs Q E hr h => ?_), hm, F.kp, hb⟩
  obtain ⟨sw, k, rfl, hS, q⟩ := h
  have ml : mg "len" = none := nn.get (by simp [biNames])
  have mi : mg "int" = none := nn.get (by simp [biNames])
  refine ⟨_, pss_cons (ps_set (i := 2) s_refill.nd rfl (.inl rfl) pe_int)
    (pss_cons (ps_if (pt_truth (pv 0) (fun _ => rfl)) (pss_one (ps_set (i := 2) s_refill.nd rfl (.inl rfl) (pe_ix ix_list (pv 0) (pe_op op_modN (pv 1) (pe_callB call_len_seq (by rfl) ml PySem.boot_len (pa_cons (pv 0) pa_nil))) (fun _ _ => rfl)))) pss_nil)
    (pss_cons (ps_if (pt_cmpR op_lt (pv 2) pe_int (nomark _)) (pss_one (ps_set (i := 2) s_refill.nd rfl (.inl rfl) (pe_op op_sub pe_int (pe_op op_mulK pe_int (pv 2))))) pss_nil)
    (pss_cons (ps_if (pw_and (pt_cmpR op_ge (pv 2) (pe_op op_pow pe_int pe_int) (nomark _)) (pw_and1 (pt_cmpR op_lt (pv 1) (pe_callB call_len_seq (by rfl) ml PySem.boot_len (pa_cons (pv 0) pa_nil)) (nomark _)))).pt (pss_one (ps_ret (pv 2))) pss_nil)
    (pss_one (ps_ret (pe_op op_modN (pe_callTy call_int1 (by rfl) mi (by decide +kernel) (pa_cons (pe_op op_add (pe_op op_mulK (pe_callTy call_int1 (by rfl) mi (by decide +kernel) (pa_cons (pe_op op_add (pe_op op_add (pe_op op_mulK (pv 2) pe_int) (pe_op op_mulK (pv 1) pe_int)) pe_int) pa_nil)) pe_int) pe_int) pa_nil)) pe_int)))))), ?_⟩
  obtain ⟨a, ns, rfl, hq⟩ := hS.seq
  refine ⟨.ref a, rfl, _, .inl ⟨_, hq, rfl⟩, ite2 (fun e => ?_) (fun e => ?_)⟩
  · have ne : ns ≠ [] := fun z => by subst z; cases e
    obtain ⟨i, hi⟩ := atI_mod k ne
    have hl : ((ns.map V.int).length : Int) ≠ 0 := fun z => ne (List.length_eq_zero_iff.mp (by rw [List.length_map] at z; omega))
    refine ⟨.ref a, rfl, .int k, rfl, .ref a, rfl, a, _, rfl, .inl hq, k, _, rfl, rfl, hl, a, _, _, .int i, rfl, rfl, hq, hi, ?_⟩
    refine ⟨_, rfl, _, _, rfl, rfl, _, rfl, ite2 (fun e => ⟨_, rfl, 2, _, rfl, rfl, mulK_l (by decide), 1, _, rfl, rfl, ?_⟩) (fun e => ?_)⟩ <;>
    · refine ⟨_, rfl, 10, 18, rfl, rfl, ⟨by decide, by decide, by decide⟩, _, _, rfl, rfl, _, rfl, ite2 (fun e => ⟨_, rfl, .ref a, rfl, a, _, rfl, .inl hq, _, _, rfl, rfl, _, rfl, ite2 (fun e => ⟨_, rfl, q _⟩) (fun e => ?_)⟩) (fun e => iteF ?_)⟩ <;>
      exact ⟨_, rfl, _, 48271, rfl, rfl, mulK_r (by decide), _, rfl, _, 69621, rfl, rfl, mulK_r (by decide), _, _, rfl, rfl, _, _, rfl, rfl, .inl ⟨_, rfl, _, 40692, rfl, rfl, mulK_r (by decide), _, _, rfl, rfl, .inl ⟨_, rfl, _, 2147483399, rfl, rfl, (show (2147483399 : Int) ≠ 0 by decide), q _⟩⟩⟩
  · refine ⟨_, rfl, _, _, rfl, rfl, _, rfl, ite2 (fun e => ⟨_, rfl, 2, _, rfl, rfl, mulK_l (by decide), 1, _, rfl, rfl, ?_⟩) (fun e => ?_)⟩ <;>
    · refine ⟨_, rfl, 10, 18, rfl, rfl, ⟨by decide, by decide, by decide⟩, _, _, rfl, rfl, _, rfl, ite2 (fun e => ⟨_, rfl, .ref a, rfl, a, _, rfl, .inl hq, _, _, rfl, rfl, _, rfl, ite2 (fun e => ⟨_, rfl, q _⟩) (fun e => ?_)⟩) (fun e => iteF ?_)⟩ <;>
      exact ⟨_, rfl, _, 48271, rfl, rfl, mulK_r (by decide), _, rfl, _, 69621, rfl, rfl, mulK_r (by decide), _, _, rfl, rfl, _, _, rfl, rfl, .inl ⟨_, rfl, _, 40692, rfl, rfl, mulK_r (by decide), _, _, rfl, rfl, .inl ⟨_, rfl, _, 2147483399, rfl, rfl, (show (2147483399 : Int) ≠ 0 by decide), q _⟩⟩⟩
theorem ok_draw (R : HaveRe P w K mg base 1) (F : Stand K mg "_law_draw" t_draw ["state", "script", "size"]) (nn : NoneAll mg biNames) : HaveDr P w K mg base 2 := by
  obtain ⟨f, fd, F, hm, hb⟩ := F
  obtain ⟨fr, fdr, psr, FR, hmr, hkr, hbr⟩ := R
  refine ⟨f, fd, _, F.ok s_draw (fun vs H Q E h => by obtain ⟨p, s, k, v, w, rfl, _⟩ := h; rfl) (fun cdv A outer s H vs Q E hr h => ?_), hm, F.kp, hb⟩
  obtain ⟨p, sz, k, v, sw, rfl, hS, hp, h0, h1, q⟩ := h
  have mi : mg "int" = none := nn.get (by simp [biNames])
  refine ⟨_, pss_cons (ps_if (pt_cmpR op_eq (pe_ix ix_list (pv 0) pe_int (fun _ _ => rfl)) pe_int (nomark _))
      (pss_cons (ps_asg (pe_call FR hr (by rfl) hmr hkr hbr .nil pass0 (pa_cons (pv 1) (pa_cons (pe_ix ix_list (pv 0) pe_int (fun _ _ => rfl)) pa_nil))) (pg_sub (pv 0) pe_int set_list (fun _ => rfl)))
      (pss_one (ps_asg (pe_op op_add (pe_ix ix_list (pv 0) pe_int (fun _ _ => rfl)) pe_int) (pg_sub (pv 0) pe_int set_list (fun _ => rfl))))) pss_nil)
    (pss_cons (ps_set (i := 3) s_draw.nd rfl (.inl rfl) (pe_op op_modN (pe_callTy call_int1 (by rfl) mi (by decide +kernel) (pa_cons (pe_ix ix_list (pv 0) pe_int (fun _ _ => rfl)) pa_nil)) (pv 2)))
    (pss_cons (ps_asg (pe_op op_fdivK (pe_ix ix_list (pv 0) pe_int (fun _ _ => rfl)) (pv 2)) (pg_sub (pv 0) pe_int set_list (fun _ => rfl)))
    (pss_one (ps_ret (pv 3))))), ?_⟩
  have sq : ∀ {H : Hp} {a b : Int}, H p = some (.lst [.int a, .int b]) → SqL K H p [.int a, .int b] := fun h => .inl (.inl h)
  have hs0 : sz ≠ 0 := by omega
  have hlog : sz.natAbs.log2 < 9000 := by
    have h2 : sz.natAbs < 2 ^ 30 := by omega
    have := (Nat.log2_lt (show sz.natAbs ≠ 0 by omega)).mpr h2
    omega
  have m0 : ∀ r : Int, 0 ≤ r.fmod sz ∧ r.fmod sz < sz := fun r => by
    rw [Int.fmod_eq_emod_of_nonneg _ (by omega)]
    exact ⟨Int.emod_nonneg _ hs0, Int.emod_lt_of_pos _ h0⟩
  refine ⟨.ref p, rfl, p, _, 1, .int v, rfl, rfl, sq hp, rfl, rfl, _, rfl, ite2 (fun e => ?_) (fun e => ?_)⟩
  · refine ⟨sw, rfl, .ref p, rfl, p, _, 0, .int k, rfl, rfl, sq hp, rfl, sw, k, rfl, hS, fun r => ?_⟩
    refine ⟨.ref p, rfl, p, _, 1, 1, rfl, rfl, hp, rfl, ?_⟩
    refine ⟨.ref p, rfl, p, _, 0, .int k, rfl, rfl, sq (b := r) upd_same, rfl, k, 1, rfl, rfl, .ref p, rfl, p, _, 0, 0, rfl, rfl, upd_same, rfl, ?_⟩
    refine ⟨.ref p, rfl, p, _, 1, .int r, rfl, rfl, sq (a := k + 1) upd_same, rfl, .inl ⟨r, rfl, .int sz, rfl, r, sz, rfl, rfl, hs0, ?_⟩⟩
    refine ⟨.ref p, rfl, p, _, 1, .int r, rfl, rfl, sq (a := k + 1) upd_same, rfl, .int sz, rfl, r, sz, rfl, rfl, ⟨hs0, hlog⟩, .ref p, rfl, p, _, 1, 1, rfl, rfl, upd_same, rfl, ?_⟩
    refine ⟨_, rfl, ?_⟩
    have := q (r.fmod sz) (k + 1) (r.fdiv sz) (m0 r).1 (m0 r).2
    rw [upd_upd, upd_upd]
    exact this
  · refine ⟨.ref p, rfl, p, _, 1, .int v, rfl, rfl, sq hp, rfl, .inl ⟨v, rfl, .int sz, rfl, v, sz, rfl, rfl, hs0, ?_⟩⟩
    refine ⟨.ref p, rfl, p, _, 1, .int v, rfl, rfl, sq hp, rfl, .int sz, rfl, v, sz, rfl, rfl, ⟨hs0, hlog⟩, .ref p, rfl, p, _, 1, 1, rfl, rfl, hp, rfl, ?_⟩
    exact ⟨_, rfl, q (v.fmod sz) k (v.fdiv sz) (m0 v).1 (m0 v).2⟩
end
section
variable {P : Program} {w : World} {K : Fg} {mg : Str → Option Value} {base : Heap}
structure Behind (K : Fg) (mg : Str → Option Value) : Prop where
  h_law_refill : Stand K mg "_law_refill" t_refill ["script", "k"]
  h_law_draw : Stand K mg "_law_draw" t_draw ["state", "script", "size"]
  h_law_two_plus : Stand K mg "_law_two_plus" t__law_two_plus ["a", "b", "by"]
  h_law_two_times : Stand K mg "_law_two_times" t__law_two_times ["a", "b"]
  h_law_table_times : Stand K mg "_law_table_times" t__law_table_times ["one", "other"]
  htwo_times : Stand K mg "two_times" t_two_times ["one", "other"]
  htwo_plain : Stand K mg "two_plain" t_two_plain ["above", "below"]
  hgap : Stand K mg "gap" t_gap ["first", "second"]
  hfour_quotient : Stand K mg "four_quotient" t_four_quotient ["one", "two", "three", "four"]
  hare_on_round : Stand K mg "are_on_round" t_are_on_round ["one", "two", "three", "four"]
  h_law_two_table : Stand K mg "_law_two_table" t__law_two_table ["state", "script"]
  h_law_spot : Stand K mg "_law_spot" t__law_spot ["above", "below"]
  h_law_drawn : Stand K mg "_law_drawn" t__law_drawn ["state", "script"]
  h_law_led_spot : Stand K mg "_law_led_spot" t__law_led_spot ["table", "spot"]
  h_law_lowest : Stand K mg "_law_lowest" t__law_lowest ["above", "below"]
  h_law_kind_of : Stand K mg "_law_kind_of" t__law_kind_of ["table"]
  h_law_exact : Stand K mg "_law_exact" t__law_exact ["first", "second"]
  hscaled : Stand K mg "scaled" t_scaled ["one", "by"]
  hback_table : Stand K mg "back_table" t_back_table ["table"]
  h_law_apart : Stand K mg "_law_apart" t__law_apart ["one", "other"]
  hmap_by : Stand K mg "map_by" t_map_by ["one", "two", "three"]
  htwo_add : Stand K mg "two_add" t_two_add ["one", "other"]
  hdeterminant : Stand K mg "determinant" t_determinant ["table"]
  htrace : Stand K mg "trace" t_trace ["table"]
  hkind_of_map : Stand K mg "kind_of_map" t_kind_of_map ["table"]
  hled_by : Stand K mg "led_by" t_led_by ["table", "spot"]
  htable_times : Stand K mg "table_times" t_table_times ["one", "other"]
  nn : NoneAll mg biNames
theorem h_dr (S : Behind K mg) : HaveDr P w K mg base 2 := ok_draw (ok_refill S.h_law_refill S.nn) S.h_law_draw S.nn
theorem h__law_two_plus (S : Behind K mg) : Have P w K mg base 3 "_law_two_plus" 3 r__law_two_plus := have_fn S.h_law_two_plus s__law_two_plus b__law_two_plus rfl (facts_mk (Γ := g__law_two_plus) trivial trivial S.nn (fun h => by cases h) ((h_dr S).mono (by decide)))
theorem h__law_two_times (S : Behind K mg) : Have P w K mg base 3 "_law_two_times" 2 r__law_two_times := have_fn S.h_law_two_times s__law_two_times b__law_two_times rfl (facts_mk (Γ := g__law_two_times) trivial trivial S.nn (fun h => by cases h) ((h_dr S).mono (by decide)))
theorem h__law_table_times (S : Behind K mg) : Have P w K mg base 4 "_law_table_times" 2 r__law_table_times := have_fn S.h_law_table_times s__law_table_times b__law_table_times rfl (facts_mk (Γ := g__law_table_times) ⟨(h__law_two_times S).mono (by decide), trivial⟩ trivial S.nn (fun h => by cases h) ((h_dr S).mono (by decide)))
theorem h_two_times (S : Behind K mg) : Have P w K mg base 3 "two_times" 2 r_two_times := have_fn S.htwo_times s_two_times b_two_times rfl (facts_mk (Γ := g_two_times) trivial trivial S.nn (fun h => by cases h) ((h_dr S).mono (by decide)))
theorem h_two_plain (S : Behind K mg) : Have P w K mg base 4 "two_plain" 2 r_two_plain := have_fn S.htwo_plain s_two_plain b_two_plain rfl (facts_mk (Γ := g_two_plain) ⟨(h_two_times S).mono (by decide), trivial⟩ trivial S.nn (fun h => by cases h) ((h_dr S).mono (by decide)))
theorem h_gap (S : Behind K mg) : Have P w K mg base 3 "gap" 2 r_gap := have_fn S.hgap s_gap b_gap rfl (facts_mk (Γ := g_gap) trivial trivial S.nn (fun h => by cases h) ((h_dr S).mono (by decide)))
theorem h_four_quotient (S : Behind K mg) : Have P w K mg base 5 "four_quotient" 4 r_four_quotient := have_fn S.hfour_quotient s_four_quotient b_four_quotient rfl (facts_mk (Γ := g_four_quotient) ⟨(h_two_times S).mono (by decide), (h_two_plain S).mono (by decide), (h_gap S).mono (by decide), trivial⟩ trivial S.nn (fun h => by cases h) ((h_dr S).mono (by decide)))
theorem h_are_on_round (S : Behind K mg) : Have P w K mg base 6 "are_on_round" 4 r_are_on_round := have_fn S.hare_on_round s_are_on_round b_are_on_round rfl (facts_mk (Γ := g_are_on_round) ⟨(h_four_quotient S).mono (by decide), trivial⟩ trivial S.nn (fun h => by cases h) ((h_dr S).mono (by decide)))
theorem h__law_two_table (S : Behind K mg) : Have P w K mg base 4 "_law_two_table" 2 r__law_two_table := have_fn S.h_law_two_table s__law_two_table b__law_two_table rfl (facts_mk (Γ := g__law_two_table) ⟨(h__law_two_plus S).mono (by decide), (h__law_two_times S).mono (by decide), trivial⟩ trivial S.nn (fun h => by cases h) ((h_dr S).mono (by decide)))
theorem h__law_spot (S : Behind K mg) : Have P w K mg base 4 "_law_spot" 2 r__law_spot := have_fn S.h_law_spot s__law_spot b__law_spot rfl (facts_mk (Γ := g__law_spot) ⟨(h__law_two_times S).mono (by decide), trivial⟩ trivial S.nn (fun h => by cases h) ((h_dr S).mono (by decide)))
theorem h__law_drawn (S : Behind K mg) : Have P w K mg base 5 "_law_drawn" 2 r__law_drawn := have_fn S.h_law_drawn s__law_drawn b__law_drawn rfl (facts_mk (Γ := g__law_drawn) ⟨(h__law_spot S).mono (by decide), trivial⟩ trivial S.nn (fun h => by cases h) ((h_dr S).mono (by decide)))
theorem h__law_led_spot (S : Behind K mg) : Have P w K mg base 5 "_law_led_spot" 2 r__law_led_spot := have_fn S.h_law_led_spot s__law_led_spot b__law_led_spot rfl (facts_mk (Γ := g__law_led_spot) ⟨(h__law_two_plus S).mono (by decide), (h__law_spot S).mono (by decide), (h__law_two_times S).mono (by decide), trivial⟩ trivial S.nn (fun h => by cases h) ((h_dr S).mono (by decide)))
theorem h__law_lowest (S : Behind K mg) : Have P w K mg base 3 "_law_lowest" 2 r__law_lowest := have_fn S.h_law_lowest s__law_lowest b__law_lowest rfl (facts_mk (Γ := g__law_lowest) trivial trivial S.nn (fun h => by cases h) ((h_dr S).mono (by decide)))
theorem h__law_kind_of (S : Behind K mg) : Have P w K mg base 5 "_law_kind_of" 1 r__law_kind_of := have_fn S.h_law_kind_of s__law_kind_of b__law_kind_of rfl (facts_mk (Γ := g__law_kind_of) ⟨(h__law_two_plus S).mono (by decide), (h__law_spot S).mono (by decide), (h__law_lowest S).mono (by decide), (h__law_two_times S).mono (by decide), trivial⟩ trivial S.nn (fun h => by cases h) ((h_dr S).mono (by decide)))
theorem h__law_exact (S : Behind K mg) : Have P w K mg base 12 "_law_exact" 2 r__law_exact := ok_exact 14 S.h_law_exact s__law_exact b__law_exact rfl rfl ⟨rfl, rfl⟩ S.nn (h_dr S) 10
theorem h_scaled (S : Behind K mg) : Have P w K mg base 3 "scaled" 2 r_scaled := have_fn S.hscaled s_scaled b_scaled rfl (facts_mk (Γ := g_scaled) trivial trivial S.nn (fun h => by cases h) ((h_dr S).mono (by decide)))
theorem h_back_table (S : Behind K mg) : Have P w K mg base 4 "back_table" 1 r_back_table := have_fn S.hback_table s_back_table b_back_table rfl (facts_mk (Γ := g_back_table) ⟨(h_scaled S).mono (by decide), trivial⟩ trivial S.nn (fun h => by cases h) ((h_dr S).mono (by decide)))
theorem h__law_apart (S : Behind K mg) : Have P w K mg base 4 "_law_apart" 2 r__law_apart := have_fn S.h_law_apart s__law_apart b__law_apart rfl (facts_mk (Γ := g__law_apart) ⟨(h__law_two_plus S).mono (by decide), trivial⟩ trivial S.nn (fun h => by cases h) ((h_dr S).mono (by decide)))
theorem h_map_by (S : Behind K mg) : Have P w K mg base 4 "map_by" 3 r_map_by := have_fn S.hmap_by s_map_by b_map_by rfl (facts_mk (Γ := g_map_by) ⟨(h_gap S).mono (by decide), (h_scaled S).mono (by decide), (h_two_times S).mono (by decide), trivial⟩ trivial S.nn (fun h => by cases h) ((h_dr S).mono (by decide)))
theorem h_two_add (S : Behind K mg) : Have P w K mg base 3 "two_add" 2 r_two_add := have_fn S.htwo_add s_two_add b_two_add rfl (facts_mk (Γ := g_two_add) trivial trivial S.nn (fun h => by cases h) ((h_dr S).mono (by decide)))
theorem h_determinant (S : Behind K mg) : Have P w K mg base 4 "determinant" 1 r_determinant := have_fn S.hdeterminant s_determinant b_determinant rfl (facts_mk (Γ := g_determinant) ⟨(h_two_add S).mono (by decide), (h_two_times S).mono (by decide), (h_scaled S).mono (by decide), trivial⟩ trivial S.nn (fun h => by cases h) ((h_dr S).mono (by decide)))
theorem h_trace (S : Behind K mg) : Have P w K mg base 4 "trace" 1 r_trace := have_fn S.htrace s_trace b_trace rfl (facts_mk (Γ := g_trace) ⟨(h_two_add S).mono (by decide), trivial⟩ trivial S.nn (fun h => by cases h) ((h_dr S).mono (by decide)))
theorem h_kind_of_map (S : Behind K mg) : Have P w K mg base 5 "kind_of_map" 1 r_kind_of_map := have_fn S.hkind_of_map s_kind_of_map b_kind_of_map rfl (facts_mk (Γ := g_kind_of_map) ⟨(h_two_times S).mono (by decide), (h_determinant S).mono (by decide), (h_trace S).mono (by decide), trivial⟩ trivial S.nn (fun h => by cases h) ((h_dr S).mono (by decide)))
theorem h_led_by (S : Behind K mg) : Have P w K mg base 5 "led_by" 2 r_led_by := have_fn S.hled_by s_led_by b_led_by rfl (facts_mk (Γ := g_led_by) ⟨(h_two_add S).mono (by decide), (h_two_plain S).mono (by decide), (h_two_times S).mono (by decide), (h_scaled S).mono (by decide), trivial⟩ trivial S.nn (fun h => by cases h) ((h_dr S).mono (by decide)))
theorem h_table_times (S : Behind K mg) : Have P w K mg base 4 "table_times" 2 r_table_times := have_fn S.htable_times s_table_times b_table_times rfl (facts_mk (Γ := g_table_times) ⟨(h_two_add S).mono (by decide), (h_two_times S).mono (by decide), trivial⟩ trivial S.nn (fun h => by cases h) ((h_dr S).mono (by decide)))
theorem h_law (S : Behind K mg) {f : Addr} {fd : FuncData} (F : Fun K "law" "law" t_law f fd) (law : (lawT g_law i_law 24).all IsT) : FnOk P w K mg base CX0 13 f fd ["script"] (spL K) := law_ok (N' := ["k", "one", "other", "spots", "j", "spot", "a", "b", "size", "due", "mixed", "by", "above", "below", "unlike", "p", "q", "r", "s", "quotient", "led", "each", "table", "square"]) F s_law (facts_mk (Γ := g_law) ⟨(h__law_two_plus S).mono (by decide), (h__law_table_times S).mono (by decide), (h_are_on_round S).mono (by decide), (h__law_two_table S).mono (by decide), (h__law_drawn S).mono (by decide), (h__law_two_times S).mono (by decide), (h__law_led_spot S).mono (by decide), (h__law_kind_of S).mono (by decide), (h__law_exact S).mono (by decide), (h_back_table S).mono (by decide), (h__law_spot S).mono (by decide), (h__law_apart S).mono (by decide), (h_map_by S).mono (by decide), (h_kind_of_map S).mono (by decide), (h_led_by S).mono (by decide), (h_table_times S).mono (by decide), (h_determinant S).mono (by decide), (h_trace S).mono (by decide), (h_two_times S).mono (by decide), (h_two_add S).mono (by decide), (h_scaled S).mono (by decide), (h_two_plain S).mono (by decide), (h_gap S).mono (by decide), (h_four_quotient S).mono (by decide), trivial⟩ trivial S.nn (fun h => by cases h) ((h_dr S).mono (by decide))) rfl rfl (by first | exact .inl rfl | exact .inr rfl) rfl b_law law
end
end K91

set_option Elab.async false
set_option linter.all false
set_option maxRecDepth 100000
set_option maxHeartbeats 8000000
/-! K91M: plain maths of spots. -/
namespace K91
open FF
structure G2 where
  x : Int
  y : Int
namespace G2
theorem ext' {a b : G2} (h1 : a.x = b.x) (h2 : a.y = b.y) : a = b := by cases a; cases b; simp only at *; subst h1 h2; rfl
def zero : G2 := ⟨0, 0⟩
def one : G2 := ⟨1, 0⟩
def mul (a b : G2) : G2 := ⟨a.x * b.x - a.y * b.y, a.x * b.y + a.y * b.x⟩
def add (a b : G2) : G2 := ⟨a.x + b.x, a.y + b.y⟩
def sub (a b : G2) : G2 := ⟨a.x - b.x, a.y - b.y⟩
def sm (k : Int) (a : G2) : G2 := ⟨k * a.x, k * a.y⟩
def conj (a : G2) : G2 := ⟨a.x, -a.y⟩
def nm (a : G2) : Int := a.x * a.x + a.y * a.y
def num (k : Int) : G2 := ⟨k, 0⟩
theorem mul_comm (a b : G2) : a.mul b = b.mul a := by apply ext' <;> simp only [mul] <;> grind
theorem mul_assoc (a b c : G2) : (a.mul b).mul c = a.mul (b.mul c) := by apply ext' <;> simp only [mul] <;> grind
theorem mul_conj (a : G2) : a.mul a.conj = num a.nm := by apply ext' <;> simp only [mul, conj, num, nm] <;> grind
theorem nm_mul (a b : G2) : (a.mul b).nm = a.nm * b.nm := by simp only [mul, nm]; grind
theorem sq_nn (i : Int) : 0 ≤ i * i := by
  rcases Int.le_total 0 i with h | h
  · exact Int.mul_nonneg h h
  · exact Int.mul_nonneg_of_nonpos_of_nonpos h h
theorem nm_nn (a : G2) : 0 ≤ a.nm := by
  have := sq_nn a.x; have := sq_nn a.y; unfold nm; omega
theorem sq_z {i : Int} (h : i * i ≤ 0) : i = 0 := by
  have h1 := sq_nn i
  have : i * i = 0 := by omega
  rcases Int.mul_eq_zero.mp this with e | e <;> exact e
theorem nm_z {a : G2} (h : a.nm = 0) : a = zero := by
  have h1 := sq_nn a.x; have h2 := sq_nn a.y; unfold nm at h
  exact ext' (sq_z (by omega)) (sq_z (by omega))
theorem nm_pos {a : G2} (h : a ≠ zero) : 0 < a.nm := by
  have := nm_nn a
  have : a.nm ≠ 0 := fun e => h (nm_z e)
  omega
theorem nm_zero : zero.nm = 0 := rfl
theorem mul_z {a b : G2} (h : a.mul b = zero) : a = zero ∨ b = zero := by
  have : a.nm * b.nm = 0 := by rw [← nm_mul, h]; rfl
  rcases Int.mul_eq_zero.mp this with e | e
  · exact .inl (nm_z e)
  · exact .inr (nm_z e)
theorem mul_ne {a b : G2} (h : a ≠ zero) (g : b ≠ zero) : a.mul b ≠ zero := fun e => (mul_z e).elim h g
theorem zero_mul (a : G2) : zero.mul a = zero := by apply ext' <;> simp [mul, zero]
theorem mul_zero (a : G2) : a.mul zero = zero := by apply ext' <;> simp [mul, zero]
theorem mul_cancel {a b c : G2} (h : c ≠ zero) (e : a.mul c = b.mul c) : a = b := by
  have h1 : (a.sub b).mul c = zero := by
    apply ext'
    · have := congrArg G2.x e; simp only [mul, sub, zero] at *; grind
    · have := congrArg G2.y e; simp only [mul, sub, zero] at *; grind
  rcases mul_z h1 with q | q
  · apply ext'
    · have := congrArg G2.x q; simp only [sub, zero] at this; omega
    · have := congrArg G2.y q; simp only [sub, zero] at this; omega
  · exact absurd q h
end G2
/-- the divisor of three numbers -/
def g3 (a b s : Int) : Nat := Int.gcd (Int.gcd a b) s
theorem g3_dvd (a b s : Int) : (g3 a b s : Int) ∣ a ∧ (g3 a b s : Int) ∣ b ∧ (g3 a b s : Int) ∣ s := by
  have k1 := Int.gcd_dvd_left (Int.gcd a b) s
  exact ⟨Int.dvd_trans k1 (Int.gcd_dvd_left a b), Int.dvd_trans k1 (Int.gcd_dvd_right a b), Int.gcd_dvd_right _ _⟩
theorem g3_mul (k a b s : Int) : g3 (a * k) (b * k) (s * k) = g3 a b s * k.natAbs := by
  unfold g3 Int.gcd
  simp only [Int.natAbs_mul, Int.natAbs_natCast, Nat.gcd_mul_right]
theorem g3_pos {a b s : Int} (h : 0 < s) : 0 < g3 a b s := by
  unfold g3
  exact Int.gcd_pos_of_ne_zero_right _ (by omega)
/-- a spot: above and below -/
abbrev Sp := G2 × Int
def sp (u v : G2) : Sp := if v.x = 0 ∧ v.y = 0 then (.one, 0) else
  let w := u.mul v.conj
  let g := (g3 w.x w.y v.nm : Int)
  (⟨w.x / g, w.y / g⟩, v.nm / g)
theorem sp_far {u v : G2} (h : v = .zero) : sp u v = (.one, 0) := by subst h; rfl
theorem sp_near {u v : G2} (h : v ≠ .zero) : sp u v = (⟨(u.mul v.conj).x / (g3 (u.mul v.conj).x (u.mul v.conj).y v.nm : Int), (u.mul v.conj).y / (g3 (u.mul v.conj).x (u.mul v.conj).y v.nm : Int)⟩, v.nm / (g3 (u.mul v.conj).x (u.mul v.conj).y v.nm : Int)) := by
  unfold sp
  rw [if_neg fun e => h (G2.ext' e.1 e.2)]
/-- plain triples that are in proportion are alike -/
theorem prim {a b s a' b' s' : Int} (h : 0 < s) (h' : 0 < s') (e1 : a * s' = a' * s) (e2 : b * s' = b' * s) : a / g3 a b s = a' / g3 a' b' s' ∧ b / g3 a b s = b' / g3 a' b' s' ∧ s / g3 a b s = s' / g3 a' b' s' := by
  obtain ⟨d1, d2, d3⟩ := g3_dvd a b s
  obtain ⟨d1', d2', d3'⟩ := g3_dvd a' b' s'
  have p := g3_pos (a := a) (b := b) h
  have p' := g3_pos (a := a') (b := b') h'
  have q : (g3 a b s : Int) * s' = g3 a' b' s' * s := by
    have k1 := g3_mul s' a b s
    have k2 := g3_mul s a' b' s'
    rw [e1, e2, Int.mul_comm s s'] at k1
    rw [k1] at k2
    have k3 : ((g3 a b s * s'.natAbs : Nat) : Int) = ((g3 a' b' s' * s.natAbs : Nat) : Int) := by rw [k2]
    rw [Int.natCast_mul, Int.natCast_mul] at k3
    rwa [show ((s'.natAbs : Nat) : Int) = s' by omega, show ((s.natAbs : Nat) : Int) = s by omega] at k3
  generalize (g3 a b s : Nat) = g at *
  generalize (g3 a' b' s' : Nat) = g' at *
  obtain ⟨A, rfl⟩ := d1
  obtain ⟨B, rfl⟩ := d2
  obtain ⟨S, rfl⟩ := d3
  obtain ⟨A', rfl⟩ := d1'
  obtain ⟨B', rfl⟩ := d2'
  obtain ⟨S', rfl⟩ := d3'
  have n : (g : Int) ≠ 0 := by omega
  have n' : (g' : Int) ≠ 0 := by omega
  have nn : (g : Int) * g' ≠ 0 := Int.mul_ne_zero n n'
  have hS : S' = S := Int.eq_of_mul_eq_mul_left nn (by grind)
  subst hS
  have sn : S' ≠ 0 := by rintro rfl; simp at h
  have nS : (g : Int) * g' * S' ≠ 0 := Int.mul_ne_zero nn sn
  have hA : A = A' := Int.eq_of_mul_eq_mul_left nS (by grind)
  have hB : B = B' := Int.eq_of_mul_eq_mul_left nS (by grind)
  subst hA hB
  refine ⟨?_, ?_, ?_⟩
  · rw [Int.mul_ediv_cancel_left _ n, Int.mul_ediv_cancel_left _ n']
  · rw [Int.mul_ediv_cancel_left _ n, Int.mul_ediv_cancel_left _ n']
  · rw [Int.mul_ediv_cancel_left _ n, Int.mul_ediv_cancel_left _ n']
/-- a pair that is not nought -/
def Nz (u v : G2) : Prop := ¬ (u = .zero ∧ v = .zero)
theorem sp_eq {u v u' v' : G2} (h : Nz u v) (h' : Nz u' v') (e : u.mul v' = u'.mul v) : sp u v = sp u' v' := by
  by_cases hv : v = .zero
  · have hu : u ≠ .zero := fun z => h ⟨z, hv⟩
    rw [hv, G2.mul_zero] at e
    have hv' : v' = .zero := (G2.mul_z e).resolve_left hu
    rw [sp_far hv, sp_far hv']
  · have hv' : v' ≠ .zero := by
      intro z
      rw [z, G2.mul_zero] at e
      have : u' = .zero := (G2.mul_z e.symm).resolve_right hv
      exact h' ⟨this, z⟩
    rw [sp_near hv, sp_near hv']
    have p := G2.nm_pos hv
    have p' := G2.nm_pos hv'
    have ex := congrArg G2.x e
    have ey := congrArg G2.y e
    have e1 : (u.mul v.conj).x * v'.nm = (u'.mul v'.conj).x * v.nm := by
      simp only [G2.mul, G2.conj, G2.nm] at *; grind
    have e2 : (u.mul v.conj).y * v'.nm = (u'.mul v'.conj).y * v.nm := by
      simp only [G2.mul, G2.conj, G2.nm] at *; grind
    obtain ⟨q1, q2, q3⟩ := prim p p' e1 e2
    rw [q1, q2, q3]
/-- a spot stands for its pair: with factors that are not nought -/
theorem sp_rel {u v : G2} (h : Nz u v) : ∃ c d : G2, c ≠ .zero ∧ d ≠ .zero ∧ c.mul (sp u v).1 = d.mul u ∧ c.mul (.num (sp u v).2) = d.mul v := by
  by_cases hv : v = .zero
  · have hu : u ≠ .zero := fun z => h ⟨z, hv⟩
    rw [sp_far hv]
    refine ⟨u, .one, hu, (fun e => by cases e), ?_, ?_⟩
    · exact G2.mul_comm _ _
    · subst hv; apply G2.ext' <;> simp [G2.mul, G2.num, G2.zero, G2.one]
  · rw [sp_near hv]
    have p := G2.nm_pos hv
    obtain ⟨d1, d2, d3⟩ := g3_dvd (u.mul v.conj).x (u.mul v.conj).y v.nm
    have gp := g3_pos (a := (u.mul v.conj).x) (b := (u.mul v.conj).y) p
    refine ⟨.num (g3 (u.mul v.conj).x (u.mul v.conj).y v.nm : Int), v.conj, ?_, ?_, ?_, ?_⟩
    · intro e
      have := congrArg G2.x e
      simp only [G2.num, G2.zero] at this
      omega
    · intro e
      apply hv
      have h1 := congrArg G2.x e
      have h2 := congrArg G2.y e
      simp only [G2.conj, G2.zero] at h1 h2
      exact G2.ext' h1 (by simp only [G2.zero]; omega)
    · have k1 := Int.mul_ediv_cancel' d1
      have k2 := Int.mul_ediv_cancel' d2
      rw [G2.mul_comm v.conj u]
      apply G2.ext'
      · simp only [G2.mul, G2.num] at *; grind
      · simp only [G2.mul, G2.num] at *; grind
    · have k3 := Int.mul_ediv_cancel' d3
      apply G2.ext'
      · simp only [G2.mul, G2.num, G2.nm, G2.conj] at *; grind
      · simp only [G2.mul, G2.num, G2.nm, G2.conj] at *; grind
end K91

set_option Elab.async false
set_option linter.all false
set_option maxRecDepth 100000
set_option maxHeartbeats 8000000
namespace K91
open FF
def GD (g : G2) : D := .tup [.int g.x, .int g.y]
def SD (s : Sp) : D := .tup [GD s.1, .int s.2]
structure M2 where
  a : G2
  b : G2
  c : G2
  d : G2
def MD (m : M2) : D := .tup [.tup [GD m.a, GD m.b], .tup [GD m.c, GD m.d]]
theorem G0 {g : G2} : ixD (GD g) (.int 0) = some (.int g.x) := rfl
theorem G1 {g : G2} : ixD (GD g) (.int 1) = some (.int g.y) := rfl
instance {g : G2} : Pl 5 (GD g) := ⟨pln_mono _ (inferInstance : Pl _ (D.tup [.int g.x, .int g.y])).h (by omega)⟩
instance {s : Sp} : Pl 10 (SD s) := ⟨pln_mono _ (inferInstance : Pl _ (D.tup [GD s.1, .int s.2])).h (by omega)⟩
instance {m : M2} : Pl 20 (MD m) := ⟨pln_mono _ (inferInstance : Pl _ (D.tup [.tup [GD m.a, GD m.b], .tup [GD m.c, GD m.d]])).h (by omega)⟩
class SmG (n : outParam Nat) (g : G2) : Prop where
  x : Sm n g.x
  y : Sm n g.y
instance {g : G2} {n : Nat} [h : SmG n g] : Sm n g.x := h.x
instance {g : G2} {n : Nat} [h : SmG n g] : Sm n g.y := h.y
theorem SmG.up {g : G2} {p q : Nat} (h : SmG p g) (l : p ≤ q) : SmG q g := ⟨h.x.up l, h.y.up l⟩
instance {g h : G2} {p q : Nat} [a : SmG p g] [b : SmG q h] : SmG (p + q + 1) (g.mul h) := by
  have h1 : Sm _ (g.mul h).x := (inferInstance : Sm _ (g.x * h.x - g.y * h.y))
  have h2 : Sm _ (g.mul h).y := (inferInstance : Sm _ (g.x * h.y + g.y * h.x))
  exact ⟨h1.up (by omega), h2.up (by omega)⟩
instance {g h : G2} {p q : Nat} [a : SmG p g] [b : SmG q h] : SmG (p + q + 1) (g.add h) := by
  have h1 : Sm _ (g.add h).x := (inferInstance : Sm _ (g.x + h.x))
  have h2 : Sm _ (g.add h).y := (inferInstance : Sm _ (g.y + h.y))
  exact ⟨h1.up (by omega), h2.up (by omega)⟩
instance {g : G2} {k : Int} {p q : Nat} [a : Sm p k] [b : SmG q g] : SmG (p + q) (g.sm k) := by
  have h1 : Sm _ (g.sm k).x := (inferInstance : Sm _ (k * g.x))
  have h2 : Sm _ (g.sm k).y := (inferInstance : Sm _ (k * g.y))
  exact ⟨h1.up (by omega), h2.up (by omega)⟩
instance {g : G2} {p : Nat} [a : SmG p g] : SmG p g.conj := ⟨a.x, (inferInstance : Sm p (-g.y))⟩
theorem p_plus {a b : G2} {k : Int} {p q r : Nat} [SmG p a] [SmG q b] [Sm r k] (h : p + q + r ≤ 4000) : r__law_two_plus [.d (GD a), .d (GD b), .d (.int k)] = .ret (GD (a.add (b.sm k)), false) := by
  simp (maxSteps := 10000000) (implicitDefEqProofs := false) (disch := omega) [r__law_two_plus, i__law_two_plus, GD, G2.add, G2.sm, isn_n, isn_F, isn_i, G0, G1, b_ret, o_some, map_some, obind_some, k_add, k_sub, k_mul, k_ixl, k_ixt, ix_0, ix_1, ix_2, ix_3, ix_4, ix_5, ix_6, ix_7, ix_8, ix_9, ix_10, ix_11, ix_12, st_0, st_1, st_2, st_3, st_4, st_5, st_6, st_7, st_8, st_9, st_10, st_11, st_12, rd_0, rd_b, rd_l, rd_s, own_0, own_p, own_s, own_n, e_c, e_g, e_v, e_bin, neg_i, e_neg, e_cmp, e_chain, e_nt, e_and, e_or, e_tr, e_ite, e_tup, e_lst, e_ix, e_sl, e_rev, e_call, e_bi, e_isi, e_draw, e_comp, turn_cons, turn_nil, es_nil, es_cons, eS_nil, eS_cons, eC_nil, eC_cons, eA_nil, eA_cons, arg_st, bl_ret, x_nil, then_nx, then_rt, then_ct, then_bk, x_cns, x_bx, x_asgn, x_par, eR_nil, eR_cons, par_nil, par_cons, x_ixs, x_ap, x_ifs, x_rt, x_fr, loop_nx, loop_ct, loop_bk, loop_rt, for_nil, for_cons, bindA, List.replicate, List.cons_append, List.nil_append, a_nm, a_tt, a_tl, as_n, as_c, List.set_cons_zero, List.set_cons_succ, List.length_cons, List.length_nil, setS, boxS, cond_true, cond_false, Bool.and_true, Bool.and_false, Bool.true_and, Bool.false_and, if_true, lk_nil, lk_v, lk_c, lk_g, lk_bin, lk_neg, lk_cmp, lk_chain, lk_nt, lk_and2, lk_or2, lk_tr, lk_ite, lk_tup, lk_lst, lk_ix, lk_sl, lk_rev, lk_call, lk_bi, lk_isi, lk_comp, lk_comp2, lk_draw, ul_nil, ul_v, ul_c, ul_g, ul_bin, ul_neg, ul_cmp, ul_chain, ul_nt, ul_and2, ul_or2, ul_tr, ul_ite, ul_tup, ul_lst, ul_ix, ul_sl, ul_rev, ul_call, ul_bi, ul_isi, ul_comp, ul_comp2, ul_draw, isV, tgS, tgSs, wipeE, rt_v, rt_c, rt_g, rt_bin, rt_neg, rt_cmp, rt_chain, rt_nt, rt_and2, rt_or2, rt_tr, rt_ite, rt_tup, rt_lst, rt_ix, rt_sl, rt_rev, rt_call, rt_bi, rt_isi, rt_comp, rt_comp2, rt_draw, b_lenl, b_lent, b_lens, b_abs, b_sum, b_max, b_min, b_max2, b_min2, b_tupl, b_tupt, b_lstl, b_lstt, b_inti, b_intb, b_all, b_any, b_gcd, is_nil, is_cons, bs_nil, bs_cons, s_seql, s_seqt, s_seqs, s_r1, s_r2, s_zip, s_zipt, s_enum, s_enumt, s_rev, s_revt, s_rr, z_cons, z_nil, z_nil2, n_cons, n_nil, sl_l, sl_t, one_0, one_1, cut_from, cut_to, rv_l, tr_n, tr_b, tr_i, tr_l, tr_t, x_rtN, x_brk, x_cnt, x_pas, x_frz, x_drp, List.getElem?_cons_zero, List.getElem?_cons_succ, arg_c, arg_g, arg_bin, arg_neg, arg_cmp, arg_chain, arg_nt, arg_and2, arg_or2, arg_tr, arg_ite, arg_tup, arg_lst, arg_ix, arg_sl, arg_rev, arg_call, arg_bi, arg_isi, arg_comp, arg_draw, bind_drw, blT_drw, then_drw, loop_drw, all_drw, all_ret, c_lt, c_le, c_gt, c_ge, c_eq, c_ne, c_isN, c_notN, cond_dec, cond_not, cond_and, cond_or, dr10, dr01, ex_ite, wt_nx, wt_rt, wt_ct, wt_bk, wt_drw, q_eq, F_inj, k_addl, k_addt, k_ap, rng2, line, rangeL, List.sum_cons, List.sum_nil, tyD, allTy, run]
theorem p_times {a b : G2} {p q : Nat} [SmG p a] [SmG q b] (h : p + q ≤ 4000) : r__law_two_times [.d (GD a), .d (GD b)] = .ret (GD (a.mul b), false) := by
  simp (maxSteps := 10000000) (implicitDefEqProofs := false) (disch := omega) [r__law_two_times, i__law_two_times, GD, G2.mul, isn_n, isn_F, isn_i, G0, G1, b_ret, o_some, map_some, obind_some, k_add, k_sub, k_mul, k_ixl, k_ixt, ix_0, ix_1, ix_2, ix_3, ix_4, ix_5, ix_6, ix_7, ix_8, ix_9, ix_10, ix_11, ix_12, st_0, st_1, st_2, st_3, st_4, st_5, st_6, st_7, st_8, st_9, st_10, st_11, st_12, rd_0, rd_b, rd_l, rd_s, own_0, own_p, own_s, own_n, e_c, e_g, e_v, e_bin, neg_i, e_neg, e_cmp, e_chain, e_nt, e_and, e_or, e_tr, e_ite, e_tup, e_lst, e_ix, e_sl, e_rev, e_call, e_bi, e_isi, e_draw, e_comp, turn_cons, turn_nil, es_nil, es_cons, eS_nil, eS_cons, eC_nil, eC_cons, eA_nil, eA_cons, arg_st, bl_ret, x_nil, then_nx, then_rt, then_ct, then_bk, x_cns, x_bx, x_asgn, x_par, eR_nil, eR_cons, par_nil, par_cons, x_ixs, x_ap, x_ifs, x_rt, x_fr, loop_nx, loop_ct, loop_bk, loop_rt, for_nil, for_cons, bindA, List.replicate, List.cons_append, List.nil_append, a_nm, a_tt, a_tl, as_n, as_c, List.set_cons_zero, List.set_cons_succ, List.length_cons, List.length_nil, setS, boxS, cond_true, cond_false, Bool.and_true, Bool.and_false, Bool.true_and, Bool.false_and, if_true, lk_nil, lk_v, lk_c, lk_g, lk_bin, lk_neg, lk_cmp, lk_chain, lk_nt, lk_and2, lk_or2, lk_tr, lk_ite, lk_tup, lk_lst, lk_ix, lk_sl, lk_rev, lk_call, lk_bi, lk_isi, lk_comp, lk_comp2, lk_draw, ul_nil, ul_v, ul_c, ul_g, ul_bin, ul_neg, ul_cmp, ul_chain, ul_nt, ul_and2, ul_or2, ul_tr, ul_ite, ul_tup, ul_lst, ul_ix, ul_sl, ul_rev, ul_call, ul_bi, ul_isi, ul_comp, ul_comp2, ul_draw, isV, tgS, tgSs, wipeE, rt_v, rt_c, rt_g, rt_bin, rt_neg, rt_cmp, rt_chain, rt_nt, rt_and2, rt_or2, rt_tr, rt_ite, rt_tup, rt_lst, rt_ix, rt_sl, rt_rev, rt_call, rt_bi, rt_isi, rt_comp, rt_comp2, rt_draw, b_lenl, b_lent, b_lens, b_abs, b_sum, b_max, b_min, b_max2, b_min2, b_tupl, b_tupt, b_lstl, b_lstt, b_inti, b_intb, b_all, b_any, b_gcd, is_nil, is_cons, bs_nil, bs_cons, s_seql, s_seqt, s_seqs, s_r1, s_r2, s_zip, s_zipt, s_enum, s_enumt, s_rev, s_revt, s_rr, z_cons, z_nil, z_nil2, n_cons, n_nil, sl_l, sl_t, one_0, one_1, cut_from, cut_to, rv_l, tr_n, tr_b, tr_i, tr_l, tr_t, x_rtN, x_brk, x_cnt, x_pas, x_frz, x_drp, List.getElem?_cons_zero, List.getElem?_cons_succ, arg_c, arg_g, arg_bin, arg_neg, arg_cmp, arg_chain, arg_nt, arg_and2, arg_or2, arg_tr, arg_ite, arg_tup, arg_lst, arg_ix, arg_sl, arg_rev, arg_call, arg_bi, arg_isi, arg_comp, arg_draw, bind_drw, blT_drw, then_drw, loop_drw, all_drw, all_ret, c_lt, c_le, c_gt, c_ge, c_eq, c_ne, c_isN, c_notN, cond_dec, cond_not, cond_and, cond_or, dr10, dr01, ex_ite, wt_nx, wt_rt, wt_ct, wt_bk, wt_drw, q_eq, F_inj, k_addl, k_addt, k_ap, rng2, line, rangeL, List.sum_cons, List.sum_nil, tyD, allTy, run]
theorem p_two_times {a b : G2} {p q : Nat} [SmG p a] [SmG q b] (h : p + q ≤ 4000) : r_two_times [.d (GD a), .d (GD b)] = .ret (GD (a.mul b), false) := by
  simp (maxSteps := 10000000) (implicitDefEqProofs := false) (disch := omega) [r_two_times, i_two_times, GD, G2.mul, isn_n, isn_F, isn_i, G0, G1, b_ret, o_some, map_some, obind_some, k_add, k_sub, k_mul, k_ixl, k_ixt, ix_0, ix_1, ix_2, ix_3, ix_4, ix_5, ix_6, ix_7, ix_8, ix_9, ix_10, ix_11, ix_12, st_0, st_1, st_2, st_3, st_4, st_5, st_6, st_7, st_8, st_9, st_10, st_11, st_12, rd_0, rd_b, rd_l, rd_s, own_0, own_p, own_s, own_n, e_c, e_g, e_v, e_bin, neg_i, e_neg, e_cmp, e_chain, e_nt, e_and, e_or, e_tr, e_ite, e_tup, e_lst, e_ix, e_sl, e_rev, e_call, e_bi, e_isi, e_draw, e_comp, turn_cons, turn_nil, es_nil, es_cons, eS_nil, eS_cons, eC_nil, eC_cons, eA_nil, eA_cons, arg_st, bl_ret, x_nil, then_nx, then_rt, then_ct, then_bk, x_cns, x_bx, x_asgn, x_par, eR_nil, eR_cons, par_nil, par_cons, x_ixs, x_ap, x_ifs, x_rt, x_fr, loop_nx, loop_ct, loop_bk, loop_rt, for_nil, for_cons, bindA, List.replicate, List.cons_append, List.nil_append, a_nm, a_tt, a_tl, as_n, as_c, List.set_cons_zero, List.set_cons_succ, List.length_cons, List.length_nil, setS, boxS, cond_true, cond_false, Bool.and_true, Bool.and_false, Bool.true_and, Bool.false_and, if_true, lk_nil, lk_v, lk_c, lk_g, lk_bin, lk_neg, lk_cmp, lk_chain, lk_nt, lk_and2, lk_or2, lk_tr, lk_ite, lk_tup, lk_lst, lk_ix, lk_sl, lk_rev, lk_call, lk_bi, lk_isi, lk_comp, lk_comp2, lk_draw, ul_nil, ul_v, ul_c, ul_g, ul_bin, ul_neg, ul_cmp, ul_chain, ul_nt, ul_and2, ul_or2, ul_tr, ul_ite, ul_tup, ul_lst, ul_ix, ul_sl, ul_rev, ul_call, ul_bi, ul_isi, ul_comp, ul_comp2, ul_draw, isV, tgS, tgSs, wipeE, rt_v, rt_c, rt_g, rt_bin, rt_neg, rt_cmp, rt_chain, rt_nt, rt_and2, rt_or2, rt_tr, rt_ite, rt_tup, rt_lst, rt_ix, rt_sl, rt_rev, rt_call, rt_bi, rt_isi, rt_comp, rt_comp2, rt_draw, b_lenl, b_lent, b_lens, b_abs, b_sum, b_max, b_min, b_max2, b_min2, b_tupl, b_tupt, b_lstl, b_lstt, b_inti, b_intb, b_all, b_any, b_gcd, is_nil, is_cons, bs_nil, bs_cons, s_seql, s_seqt, s_seqs, s_r1, s_r2, s_zip, s_zipt, s_enum, s_enumt, s_rev, s_revt, s_rr, z_cons, z_nil, z_nil2, n_cons, n_nil, sl_l, sl_t, one_0, one_1, cut_from, cut_to, rv_l, tr_n, tr_b, tr_i, tr_l, tr_t, x_rtN, x_brk, x_cnt, x_pas, x_frz, x_drp, List.getElem?_cons_zero, List.getElem?_cons_succ, arg_c, arg_g, arg_bin, arg_neg, arg_cmp, arg_chain, arg_nt, arg_and2, arg_or2, arg_tr, arg_ite, arg_tup, arg_lst, arg_ix, arg_sl, arg_rev, arg_call, arg_bi, arg_isi, arg_comp, arg_draw, bind_drw, blT_drw, then_drw, loop_drw, all_drw, all_ret, c_lt, c_le, c_gt, c_ge, c_eq, c_ne, c_isN, c_notN, cond_dec, cond_not, cond_and, cond_or, dr10, dr01, ex_ite, wt_nx, wt_rt, wt_ct, wt_bk, wt_drw, q_eq, F_inj, k_addl, k_addt, k_ap, rng2, line, rangeL, List.sum_cons, List.sum_nil, tyD, allTy, run]
theorem p_two_add {a b : G2} {p q : Nat} [SmG p a] [SmG q b] (h : p + q ≤ 4000) : r_two_add [.d (GD a), .d (GD b)] = .ret (GD (a.add b), false) := by
  simp (maxSteps := 10000000) (implicitDefEqProofs := false) (disch := omega) [r_two_add, i_two_add, GD, G2.add, isn_n, isn_F, isn_i, G0, G1, b_ret, o_some, map_some, obind_some, k_add, k_sub, k_mul, k_ixl, k_ixt, ix_0, ix_1, ix_2, ix_3, ix_4, ix_5, ix_6, ix_7, ix_8, ix_9, ix_10, ix_11, ix_12, st_0, st_1, st_2, st_3, st_4, st_5, st_6, st_7, st_8, st_9, st_10, st_11, st_12, rd_0, rd_b, rd_l, rd_s, own_0, own_p, own_s, own_n, e_c, e_g, e_v, e_bin, neg_i, e_neg, e_cmp, e_chain, e_nt, e_and, e_or, e_tr, e_ite, e_tup, e_lst, e_ix, e_sl, e_rev, e_call, e_bi, e_isi, e_draw, e_comp, turn_cons, turn_nil, es_nil, es_cons, eS_nil, eS_cons, eC_nil, eC_cons, eA_nil, eA_cons, arg_st, bl_ret, x_nil, then_nx, then_rt, then_ct, then_bk, x_cns, x_bx, x_asgn, x_par, eR_nil, eR_cons, par_nil, par_cons, x_ixs, x_ap, x_ifs, x_rt, x_fr, loop_nx, loop_ct, loop_bk, loop_rt, for_nil, for_cons, bindA, List.replicate, List.cons_append, List.nil_append, a_nm, a_tt, a_tl, as_n, as_c, List.set_cons_zero, List.set_cons_succ, List.length_cons, List.length_nil, setS, boxS, cond_true, cond_false, Bool.and_true, Bool.and_false, Bool.true_and, Bool.false_and, if_true, lk_nil, lk_v, lk_c, lk_g, lk_bin, lk_neg, lk_cmp, lk_chain, lk_nt, lk_and2, lk_or2, lk_tr, lk_ite, lk_tup, lk_lst, lk_ix, lk_sl, lk_rev, lk_call, lk_bi, lk_isi, lk_comp, lk_comp2, lk_draw, ul_nil, ul_v, ul_c, ul_g, ul_bin, ul_neg, ul_cmp, ul_chain, ul_nt, ul_and2, ul_or2, ul_tr, ul_ite, ul_tup, ul_lst, ul_ix, ul_sl, ul_rev, ul_call, ul_bi, ul_isi, ul_comp, ul_comp2, ul_draw, isV, tgS, tgSs, wipeE, rt_v, rt_c, rt_g, rt_bin, rt_neg, rt_cmp, rt_chain, rt_nt, rt_and2, rt_or2, rt_tr, rt_ite, rt_tup, rt_lst, rt_ix, rt_sl, rt_rev, rt_call, rt_bi, rt_isi, rt_comp, rt_comp2, rt_draw, b_lenl, b_lent, b_lens, b_abs, b_sum, b_max, b_min, b_max2, b_min2, b_tupl, b_tupt, b_lstl, b_lstt, b_inti, b_intb, b_all, b_any, b_gcd, is_nil, is_cons, bs_nil, bs_cons, s_seql, s_seqt, s_seqs, s_r1, s_r2, s_zip, s_zipt, s_enum, s_enumt, s_rev, s_revt, s_rr, z_cons, z_nil, z_nil2, n_cons, n_nil, sl_l, sl_t, one_0, one_1, cut_from, cut_to, rv_l, tr_n, tr_b, tr_i, tr_l, tr_t, x_rtN, x_brk, x_cnt, x_pas, x_frz, x_drp, List.getElem?_cons_zero, List.getElem?_cons_succ, arg_c, arg_g, arg_bin, arg_neg, arg_cmp, arg_chain, arg_nt, arg_and2, arg_or2, arg_tr, arg_ite, arg_tup, arg_lst, arg_ix, arg_sl, arg_rev, arg_call, arg_bi, arg_isi, arg_comp, arg_draw, bind_drw, blT_drw, then_drw, loop_drw, all_drw, all_ret, c_lt, c_le, c_gt, c_ge, c_eq, c_ne, c_isN, c_notN, cond_dec, cond_not, cond_and, cond_or, dr10, dr01, ex_ite, wt_nx, wt_rt, wt_ct, wt_bk, wt_drw, q_eq, F_inj, k_addl, k_addt, k_ap, rng2, line, rangeL, List.sum_cons, List.sum_nil, tyD, allTy, run]
theorem p_scaled {a : G2} {k : Int} {p q : Nat} [SmG p a] [Sm q k] (h : p + q ≤ 4000) : r_scaled [.d (GD a), .d (.int k)] = .ret (GD (a.sm k), false) := by
  simp (maxSteps := 10000000) (implicitDefEqProofs := false) (disch := omega) [r_scaled, i_scaled, GD, G2.sm, Int.mul_comm, isn_n, isn_F, isn_i, G0, G1, b_ret, o_some, map_some, obind_some, k_add, k_sub, k_mul, k_ixl, k_ixt, ix_0, ix_1, ix_2, ix_3, ix_4, ix_5, ix_6, ix_7, ix_8, ix_9, ix_10, ix_11, ix_12, st_0, st_1, st_2, st_3, st_4, st_5, st_6, st_7, st_8, st_9, st_10, st_11, st_12, rd_0, rd_b, rd_l, rd_s, own_0, own_p, own_s, own_n, e_c, e_g, e_v, e_bin, neg_i, e_neg, e_cmp, e_chain, e_nt, e_and, e_or, e_tr, e_ite, e_tup, e_lst, e_ix, e_sl, e_rev, e_call, e_bi, e_isi, e_draw, e_comp, turn_cons, turn_nil, es_nil, es_cons, eS_nil, eS_cons, eC_nil, eC_cons, eA_nil, eA_cons, arg_st, bl_ret, x_nil, then_nx, then_rt, then_ct, then_bk, x_cns, x_bx, x_asgn, x_par, eR_nil, eR_cons, par_nil, par_cons, x_ixs, x_ap, x_ifs, x_rt, x_fr, loop_nx, loop_ct, loop_bk, loop_rt, for_nil, for_cons, bindA, List.replicate, List.cons_append, List.nil_append, a_nm, a_tt, a_tl, as_n, as_c, List.set_cons_zero, List.set_cons_succ, List.length_cons, List.length_nil, setS, boxS, cond_true, cond_false, Bool.and_true, Bool.and_false, Bool.true_and, Bool.false_and, if_true, lk_nil, lk_v, lk_c, lk_g, lk_bin, lk_neg, lk_cmp, lk_chain, lk_nt, lk_and2, lk_or2, lk_tr, lk_ite, lk_tup, lk_lst, lk_ix, lk_sl, lk_rev, lk_call, lk_bi, lk_isi, lk_comp, lk_comp2, lk_draw, ul_nil, ul_v, ul_c, ul_g, ul_bin, ul_neg, ul_cmp, ul_chain, ul_nt, ul_and2, ul_or2, ul_tr, ul_ite, ul_tup, ul_lst, ul_ix, ul_sl, ul_rev, ul_call, ul_bi, ul_isi, ul_comp, ul_comp2, ul_draw, isV, tgS, tgSs, wipeE, rt_v, rt_c, rt_g, rt_bin, rt_neg, rt_cmp, rt_chain, rt_nt, rt_and2, rt_or2, rt_tr, rt_ite, rt_tup, rt_lst, rt_ix, rt_sl, rt_rev, rt_call, rt_bi, rt_isi, rt_comp, rt_comp2, rt_draw, b_lenl, b_lent, b_lens, b_abs, b_sum, b_max, b_min, b_max2, b_min2, b_tupl, b_tupt, b_lstl, b_lstt, b_inti, b_intb, b_all, b_any, b_gcd, is_nil, is_cons, bs_nil, bs_cons, s_seql, s_seqt, s_seqs, s_r1, s_r2, s_zip, s_zipt, s_enum, s_enumt, s_rev, s_revt, s_rr, z_cons, z_nil, z_nil2, n_cons, n_nil, sl_l, sl_t, one_0, one_1, cut_from, cut_to, rv_l, tr_n, tr_b, tr_i, tr_l, tr_t, x_rtN, x_brk, x_cnt, x_pas, x_frz, x_drp, List.getElem?_cons_zero, List.getElem?_cons_succ, arg_c, arg_g, arg_bin, arg_neg, arg_cmp, arg_chain, arg_nt, arg_and2, arg_or2, arg_tr, arg_ite, arg_tup, arg_lst, arg_ix, arg_sl, arg_rev, arg_call, arg_bi, arg_isi, arg_comp, arg_draw, bind_drw, blT_drw, then_drw, loop_drw, all_drw, all_ret, c_lt, c_le, c_gt, c_ge, c_eq, c_ne, c_isN, c_notN, cond_dec, cond_not, cond_and, cond_or, dr10, dr01, ex_ite, wt_nx, wt_rt, wt_ct, wt_bk, wt_drw, q_eq, F_inj, k_addl, k_addt, k_ap, rng2, line, rangeL, List.sum_cons, List.sum_nil, tyD, allTy, run]
theorem gcdP {Γ : Sem} {s0 s1 s2 s3 s4 s6 : Slot} {g x : Int} {n : Nat} [i : Sm n x] (h : n ≤ 8000) (hg : 0 ≤ g) : whlL (tstW Γ (.cmp .gt (.v 7) (.c (.int 0)))) (trnW Γ [(.par [(5, false), (7, false)] [(.v 7), (.bin .mod (.v 5) (.v 7))])]) 1000000 [s0, s1, s2, s3, s4, .pl (.int g), s6, .pl (.int (x.natAbs : Int))] = .ret (.nx, [s0, s1, s2, s3, s4, .pl (.int (gI g x)), s6, .pl (.int 0)]) := by
  obtain ⟨s', e⟩ := gcd_gen (tst := tstW Γ (.cmp .gt (.v 7) (.c (.int 0)))) (trn := trnW Γ [(.par [(5, false), (7, false)] [(.v 7), (.bin .mod (.v 5) (.v 7))])]) (fun a b _ => [s0, s1, s2, s3, s4, .pl (.int a), s6, .pl (.int b)]) (by
    intro a b s
    simp (maxSteps := 10000000) (implicitDefEqProofs := false) (disch := omega) [tstW, isn_n, isn_F, isn_i, G0, G1, b_ret, o_some, map_some, obind_some, k_add, k_sub, k_mul, k_ixl, k_ixt, ix_0, ix_1, ix_2, ix_3, ix_4, ix_5, ix_6, ix_7, ix_8, ix_9, ix_10, ix_11, ix_12, st_0, st_1, st_2, st_3, st_4, st_5, st_6, st_7, st_8, st_9, st_10, st_11, st_12, rd_0, rd_b, rd_l, rd_s, own_0, own_p, own_s, own_n, e_c, e_g, e_v, e_bin, neg_i, e_neg, e_cmp, e_chain, e_nt, e_and, e_or, e_tr, e_ite, e_tup, e_lst, e_ix, e_sl, e_rev, e_call, e_bi, e_isi, e_draw, e_comp, turn_cons, turn_nil, es_nil, es_cons, eS_nil, eS_cons, eC_nil, eC_cons, eA_nil, eA_cons, arg_st, bl_ret, x_nil, then_nx, then_rt, then_ct, then_bk, x_cns, x_bx, x_asgn, x_par, eR_nil, eR_cons, par_nil, par_cons, x_ixs, x_ap, x_ifs, x_rt, x_fr, loop_nx, loop_ct, loop_bk, loop_rt, for_nil, for_cons, bindA, List.replicate, List.cons_append, List.nil_append, a_nm, a_tt, a_tl, as_n, as_c, List.set_cons_zero, List.set_cons_succ, List.length_cons, List.length_nil, setS, boxS, cond_true, cond_false, Bool.and_true, Bool.and_false, Bool.true_and, Bool.false_and, if_true, lk_nil, lk_v, lk_c, lk_g, lk_bin, lk_neg, lk_cmp, lk_chain, lk_nt, lk_and2, lk_or2, lk_tr, lk_ite, lk_tup, lk_lst, lk_ix, lk_sl, lk_rev, lk_call, lk_bi, lk_isi, lk_comp, lk_comp2, lk_draw, ul_nil, ul_v, ul_c, ul_g, ul_bin, ul_neg, ul_cmp, ul_chain, ul_nt, ul_and2, ul_or2, ul_tr, ul_ite, ul_tup, ul_lst, ul_ix, ul_sl, ul_rev, ul_call, ul_bi, ul_isi, ul_comp, ul_comp2, ul_draw, isV, tgS, tgSs, wipeE, rt_v, rt_c, rt_g, rt_bin, rt_neg, rt_cmp, rt_chain, rt_nt, rt_and2, rt_or2, rt_tr, rt_ite, rt_tup, rt_lst, rt_ix, rt_sl, rt_rev, rt_call, rt_bi, rt_isi, rt_comp, rt_comp2, rt_draw, b_lenl, b_lent, b_lens, b_abs, b_sum, b_max, b_min, b_max2, b_min2, b_tupl, b_tupt, b_lstl, b_lstt, b_inti, b_intb, b_all, b_any, b_gcd, is_nil, is_cons, bs_nil, bs_cons, s_seql, s_seqt, s_seqs, s_r1, s_r2, s_zip, s_zipt, s_enum, s_enumt, s_rev, s_revt, s_rr, z_cons, z_nil, z_nil2, n_cons, n_nil, sl_l, sl_t, one_0, one_1, cut_from, cut_to, rv_l, tr_n, tr_b, tr_i, tr_l, tr_t, x_rtN, x_brk, x_cnt, x_pas, x_frz, x_drp, List.getElem?_cons_zero, List.getElem?_cons_succ, arg_c, arg_g, arg_bin, arg_neg, arg_cmp, arg_chain, arg_nt, arg_and2, arg_or2, arg_tr, arg_ite, arg_tup, arg_lst, arg_ix, arg_sl, arg_rev, arg_call, arg_bi, arg_isi, arg_comp, arg_draw, bind_drw, blT_drw, then_drw, loop_drw, all_drw, all_ret, c_lt, c_le, c_gt, c_ge, c_eq, c_ne, c_isN, c_notN, cond_dec, cond_not, cond_and, cond_or, dr10, dr01, ex_ite, wt_nx, wt_rt, wt_ct, wt_bk, wt_drw, q_eq, F_inj, k_addl, k_addt, k_ap, rng2, line, rangeL, List.sum_cons, List.sum_nil, tyD, allTy, run]) (by
    intro a b s hb
    refine ⟨.no, ?_⟩
    simp (maxSteps := 10000000) (implicitDefEqProofs := false) (disch := omega) [trnW, k_modp, hb, isn_n, isn_F, isn_i, G0, G1, b_ret, o_some, map_some, obind_some, k_add, k_sub, k_mul, k_ixl, k_ixt, ix_0, ix_1, ix_2, ix_3, ix_4, ix_5, ix_6, ix_7, ix_8, ix_9, ix_10, ix_11, ix_12, st_0, st_1, st_2, st_3, st_4, st_5, st_6, st_7, st_8, st_9, st_10, st_11, st_12, rd_0, rd_b, rd_l, rd_s, own_0, own_p, own_s, own_n, e_c, e_g, e_v, e_bin, neg_i, e_neg, e_cmp, e_chain, e_nt, e_and, e_or, e_tr, e_ite, e_tup, e_lst, e_ix, e_sl, e_rev, e_call, e_bi, e_isi, e_draw, e_comp, turn_cons, turn_nil, es_nil, es_cons, eS_nil, eS_cons, eC_nil, eC_cons, eA_nil, eA_cons, arg_st, bl_ret, x_nil, then_nx, then_rt, then_ct, then_bk, x_cns, x_bx, x_asgn, x_par, eR_nil, eR_cons, par_nil, par_cons, x_ixs, x_ap, x_ifs, x_rt, x_fr, loop_nx, loop_ct, loop_bk, loop_rt, for_nil, for_cons, bindA, List.replicate, List.cons_append, List.nil_append, a_nm, a_tt, a_tl, as_n, as_c, List.set_cons_zero, List.set_cons_succ, List.length_cons, List.length_nil, setS, boxS, cond_true, cond_false, Bool.and_true, Bool.and_false, Bool.true_and, Bool.false_and, if_true, lk_nil, lk_v, lk_c, lk_g, lk_bin, lk_neg, lk_cmp, lk_chain, lk_nt, lk_and2, lk_or2, lk_tr, lk_ite, lk_tup, lk_lst, lk_ix, lk_sl, lk_rev, lk_call, lk_bi, lk_isi, lk_comp, lk_comp2, lk_draw, ul_nil, ul_v, ul_c, ul_g, ul_bin, ul_neg, ul_cmp, ul_chain, ul_nt, ul_and2, ul_or2, ul_tr, ul_ite, ul_tup, ul_lst, ul_ix, ul_sl, ul_rev, ul_call, ul_bi, ul_isi, ul_comp, ul_comp2, ul_draw, isV, tgS, tgSs, wipeE, rt_v, rt_c, rt_g, rt_bin, rt_neg, rt_cmp, rt_chain, rt_nt, rt_and2, rt_or2, rt_tr, rt_ite, rt_tup, rt_lst, rt_ix, rt_sl, rt_rev, rt_call, rt_bi, rt_isi, rt_comp, rt_comp2, rt_draw, b_lenl, b_lent, b_lens, b_abs, b_sum, b_max, b_min, b_max2, b_min2, b_tupl, b_tupt, b_lstl, b_lstt, b_inti, b_intb, b_all, b_any, b_gcd, is_nil, is_cons, bs_nil, bs_cons, s_seql, s_seqt, s_seqs, s_r1, s_r2, s_zip, s_zipt, s_enum, s_enumt, s_rev, s_revt, s_rr, z_cons, z_nil, z_nil2, n_cons, n_nil, sl_l, sl_t, one_0, one_1, cut_from, cut_to, rv_l, tr_n, tr_b, tr_i, tr_l, tr_t, x_rtN, x_brk, x_cnt, x_pas, x_frz, x_drp, List.getElem?_cons_zero, List.getElem?_cons_succ, arg_c, arg_g, arg_bin, arg_neg, arg_cmp, arg_chain, arg_nt, arg_and2, arg_or2, arg_tr, arg_ite, arg_tup, arg_lst, arg_ix, arg_sl, arg_rev, arg_call, arg_bi, arg_isi, arg_comp, arg_draw, bind_drw, blT_drw, then_drw, loop_drw, all_drw, all_ret, c_lt, c_le, c_gt, c_ge, c_eq, c_ne, c_isN, c_notN, cond_dec, cond_not, cond_and, cond_or, dr10, dr01, ex_ite, wt_nx, wt_rt, wt_ct, wt_bk, wt_drw, q_eq, F_inj, k_addl, k_addt, k_ap, rng2, line, rangeL, List.sum_cons, List.sum_nil, tyD, allTy, run]) n 1000000 g.natAbs x.natAbs .no i.lt (by omega)
  rw [show ((g.natAbs : Nat) : Int) = g by omega] at e
  exact e
theorem gcdPg {Γ : Sem} {s0 s1 s2 s3 s4 s6 : Slot} {i j x : Int} {n : Nat} [Sm n x] (h : n ≤ 8000) : whlL (tstW Γ (.cmp .gt (.v 7) (.c (.int 0)))) (trnW Γ [(.par [(5, false), (7, false)] [(.v 7), (.bin .mod (.v 5) (.v 7))])]) 1000000 [s0, s1, s2, s3, s4, .pl (.int (gI i j)), s6, .pl (.int (x.natAbs : Int))] = .ret (.nx, [s0, s1, s2, s3, s4, .pl (.int (gI (gI i j) x)), s6, .pl (.int 0)]) := gcdP h gI_nn
theorem gd_eq {g : G2} {a b : Int} : (GD g = .tup [.int a, .int b]) = (g.x = a ∧ g.y = b) := by
  unfold GD; simp
theorem GD_neg {g : G2} : (D.tup [.int g.x, .int (-g.y)]) = GD g.conj := rfl
theorem gI_g3 {a b s : Int} : gI (gI s a) b = (g3 a b s : Nat) := by
  unfold gI g3
  congr 1
  rw [Int.gcd_comm, Int.gcd_comm s a, ← Int.gcd_assoc, Int.gcd_comm b a]
theorem GD_m {a b : Int} : GD ⟨a, b⟩ = .tup [.int a, .int b] := rfl
theorem sq_G {g : G2} : srcD .seq [GD g] = some [.int g.x, .int g.y] := rfl
theorem p_two_plain {u v : G2} {p q : Nat} [hp : SmG p u] [hq : SmG q v] (h : p + q ≤ 2500) (hv : q ≤ 2000) : r_two_plain [.d (GD u), .d (GD v)] = .ret (SD (sp u v), false) := by
  by_cases h0 : v.x = 0 ∧ v.y = 0
  · have e : sp u v = (.one, 0) := by unfold sp; rw [if_pos h0]
    rw [e]
    simp (maxSteps := 10000000) (implicitDefEqProofs := false) (disch := omega) [r_two_plain, i_two_plain, g_two_plain, gd_eq, h0, SD, GD, G2.one, isn_n, isn_F, isn_i, G0, G1, b_ret, o_some, map_some, obind_some, k_add, k_sub, k_mul, k_ixl, k_ixt, ix_0, ix_1, ix_2, ix_3, ix_4, ix_5, ix_6, ix_7, ix_8, ix_9, ix_10, ix_11, ix_12, st_0, st_1, st_2, st_3, st_4, st_5, st_6, st_7, st_8, st_9, st_10, st_11, st_12, rd_0, rd_b, rd_l, rd_s, own_0, own_p, own_s, own_n, e_c, e_g, e_v, e_bin, neg_i, e_neg, e_cmp, e_chain, e_nt, e_and, e_or, e_tr, e_ite, e_tup, e_lst, e_ix, e_sl, e_rev, e_call, e_bi, e_isi, e_draw, e_comp, turn_cons, turn_nil, es_nil, es_cons, eS_nil, eS_cons, eC_nil, eC_cons, eA_nil, eA_cons, arg_st, bl_ret, x_nil, then_nx, then_rt, then_ct, then_bk, x_cns, x_bx, x_asgn, x_par, eR_nil, eR_cons, par_nil, par_cons, x_ixs, x_ap, x_ifs, x_rt, x_fr, loop_nx, loop_ct, loop_bk, loop_rt, for_nil, for_cons, bindA, List.replicate, List.cons_append, List.nil_append, a_nm, a_tt, a_tl, as_n, as_c, List.set_cons_zero, List.set_cons_succ, List.length_cons, List.length_nil, setS, boxS, cond_true, cond_false, Bool.and_true, Bool.and_false, Bool.true_and, Bool.false_and, if_true, lk_nil, lk_v, lk_c, lk_g, lk_bin, lk_neg, lk_cmp, lk_chain, lk_nt, lk_and2, lk_or2, lk_tr, lk_ite, lk_tup, lk_lst, lk_ix, lk_sl, lk_rev, lk_call, lk_bi, lk_isi, lk_comp, lk_comp2, lk_draw, ul_nil, ul_v, ul_c, ul_g, ul_bin, ul_neg, ul_cmp, ul_chain, ul_nt, ul_and2, ul_or2, ul_tr, ul_ite, ul_tup, ul_lst, ul_ix, ul_sl, ul_rev, ul_call, ul_bi, ul_isi, ul_comp, ul_comp2, ul_draw, isV, tgS, tgSs, wipeE, rt_v, rt_c, rt_g, rt_bin, rt_neg, rt_cmp, rt_chain, rt_nt, rt_and2, rt_or2, rt_tr, rt_ite, rt_tup, rt_lst, rt_ix, rt_sl, rt_rev, rt_call, rt_bi, rt_isi, rt_comp, rt_comp2, rt_draw, b_lenl, b_lent, b_lens, b_abs, b_sum, b_max, b_min, b_max2, b_min2, b_tupl, b_tupt, b_lstl, b_lstt, b_inti, b_intb, b_all, b_any, b_gcd, is_nil, is_cons, bs_nil, bs_cons, s_seql, s_seqt, s_seqs, s_r1, s_r2, s_zip, s_zipt, s_enum, s_enumt, s_rev, s_revt, s_rr, z_cons, z_nil, z_nil2, n_cons, n_nil, sl_l, sl_t, one_0, one_1, cut_from, cut_to, rv_l, tr_n, tr_b, tr_i, tr_l, tr_t, x_rtN, x_brk, x_cnt, x_pas, x_frz, x_drp, List.getElem?_cons_zero, List.getElem?_cons_succ, arg_c, arg_g, arg_bin, arg_neg, arg_cmp, arg_chain, arg_nt, arg_and2, arg_or2, arg_tr, arg_ite, arg_tup, arg_lst, arg_ix, arg_sl, arg_rev, arg_call, arg_bi, arg_isi, arg_comp, arg_draw, bind_drw, blT_drw, then_drw, loop_drw, all_drw, all_ret, c_lt, c_le, c_gt, c_ge, c_eq, c_ne, c_isN, c_notN, cond_dec, cond_not, cond_and, cond_or, dr10, dr01, ex_ite, wt_nx, wt_rt, wt_ct, wt_bk, wt_drw, q_eq, F_inj, k_addl, k_addt, k_ap, rng2, line, rangeL, List.sum_cons, List.sum_nil, tyD, allTy, run]
  · have hv0 : v ≠ .zero := fun e => h0 (by subst e; exact ⟨rfl, rfl⟩)
    have hn := G2.nm_pos hv0
    have hn0 : 0 ≤ v.nm := by omega
    have e1 : (v.mul v.conj).x = v.nm := by rw [G2.mul_conj]; rfl
    have in' : Sm (q + q + 1) v.nm := (inferInstance : Sm _ (v.x * v.x + v.y * v.y)).up (by omega)
    have gp := g3_pos (a := (u.mul v.conj).x) (b := (u.mul v.conj).y) hn
    rw [sp_near hv0]
    have eg := gI_g3 (a := (u.mul v.conj).x) (b := (u.mul v.conj).y) (s := v.nm)
    have iw : SmG (p + q + 1) (u.mul v.conj) := inferInstance
    have et := p_two_times (a := u) (b := v.conj) (by omega)
    have et2 := p_two_times (a := v) (b := v.conj) (by omega)
    generalize u.mul v.conj = w at *
    have ig : Sm (max (max (q + q + 1) (p + q + 1)) (p + q + 1)) (gI (gI v.nm w.x) w.y) := inferInstance
    rw [eg] at ig
    have gp0 : 0 < ((g3 w.x w.y v.nm : Nat) : Int) := by omega
    generalize ((g3 w.x w.y v.nm : Nat) : Int) = G at *
    simp (maxSteps := 10000000) (implicitDefEqProofs := false) (disch := omega) [r_two_plain, i_two_plain, g_two_plain, gd_eq, h0, GD_neg, et, et2, e1, sq_G, x_wh, gcdP, gcdPg, eg, k_fdivp, gp0, SD, GD_m, isn_n, isn_F, isn_i, G0, G1, b_ret, o_some, map_some, obind_some, k_add, k_sub, k_mul, k_ixl, k_ixt, ix_0, ix_1, ix_2, ix_3, ix_4, ix_5, ix_6, ix_7, ix_8, ix_9, ix_10, ix_11, ix_12, st_0, st_1, st_2, st_3, st_4, st_5, st_6, st_7, st_8, st_9, st_10, st_11, st_12, rd_0, rd_b, rd_l, rd_s, own_0, own_p, own_s, own_n, e_c, e_g, e_v, e_bin, neg_i, e_neg, e_cmp, e_chain, e_nt, e_and, e_or, e_tr, e_ite, e_tup, e_lst, e_ix, e_sl, e_rev, e_call, e_bi, e_isi, e_draw, e_comp, turn_cons, turn_nil, es_nil, es_cons, eS_nil, eS_cons, eC_nil, eC_cons, eA_nil, eA_cons, arg_st, bl_ret, x_nil, then_nx, then_rt, then_ct, then_bk, x_cns, x_bx, x_asgn, x_par, eR_nil, eR_cons, par_nil, par_cons, x_ixs, x_ap, x_ifs, x_rt, x_fr, loop_nx, loop_ct, loop_bk, loop_rt, for_nil, for_cons, bindA, List.replicate, List.cons_append, List.nil_append, a_nm, a_tt, a_tl, as_n, as_c, List.set_cons_zero, List.set_cons_succ, List.length_cons, List.length_nil, setS, boxS, cond_true, cond_false, Bool.and_true, Bool.and_false, Bool.true_and, Bool.false_and, if_true, lk_nil, lk_v, lk_c, lk_g, lk_bin, lk_neg, lk_cmp, lk_chain, lk_nt, lk_and2, lk_or2, lk_tr, lk_ite, lk_tup, lk_lst, lk_ix, lk_sl, lk_rev, lk_call, lk_bi, lk_isi, lk_comp, lk_comp2, lk_draw, ul_nil, ul_v, ul_c, ul_g, ul_bin, ul_neg, ul_cmp, ul_chain, ul_nt, ul_and2, ul_or2, ul_tr, ul_ite, ul_tup, ul_lst, ul_ix, ul_sl, ul_rev, ul_call, ul_bi, ul_isi, ul_comp, ul_comp2, ul_draw, isV, tgS, tgSs, wipeE, rt_v, rt_c, rt_g, rt_bin, rt_neg, rt_cmp, rt_chain, rt_nt, rt_and2, rt_or2, rt_tr, rt_ite, rt_tup, rt_lst, rt_ix, rt_sl, rt_rev, rt_call, rt_bi, rt_isi, rt_comp, rt_comp2, rt_draw, b_lenl, b_lent, b_lens, b_abs, b_sum, b_max, b_min, b_max2, b_min2, b_tupl, b_tupt, b_lstl, b_lstt, b_inti, b_intb, b_all, b_any, b_gcd, is_nil, is_cons, bs_nil, bs_cons, s_seql, s_seqt, s_seqs, s_r1, s_r2, s_zip, s_zipt, s_enum, s_enumt, s_rev, s_revt, s_rr, z_cons, z_nil, z_nil2, n_cons, n_nil, sl_l, sl_t, one_0, one_1, cut_from, cut_to, rv_l, tr_n, tr_b, tr_i, tr_l, tr_t, x_rtN, x_brk, x_cnt, x_pas, x_frz, x_drp, List.getElem?_cons_zero, List.getElem?_cons_succ, arg_c, arg_g, arg_bin, arg_neg, arg_cmp, arg_chain, arg_nt, arg_and2, arg_or2, arg_tr, arg_ite, arg_tup, arg_lst, arg_ix, arg_sl, arg_rev, arg_call, arg_bi, arg_isi, arg_comp, arg_draw, bind_drw, blT_drw, then_drw, loop_drw, all_drw, all_ret, c_lt, c_le, c_gt, c_ge, c_eq, c_ne, c_isN, c_notN, cond_dec, cond_not, cond_and, cond_or, dr10, dr01, ex_ite, wt_nx, wt_rt, wt_ct, wt_bk, wt_drw, q_eq, F_inj, k_addl, k_addt, k_ap, rng2, line, rangeL, List.sum_cons, List.sum_nil, tyD, allTy, run]
theorem turnS {s0 s1 s2 s3 z5 s6 s7 : Slot} {g x : Int} {n : Nat} [i : Sm n x] (h : n ≤ 8000) (hg : 0 ≤ g) : ∃ s7', turnF g__law_spot (.nm 5) [(.box 6 false (.bi .abs [(.v 5)])), (.whl 1000000 (.cmp .gt (.v 6) (.c (.int 0))) [(.box 7 false (.v 4)), (.box 4 false (.v 6)), (.box 6 false (.bin .mod (.bi .int [(.v 7)]) (.v 6)))])] (.int x) [s0, s1, s2, s3, .pl (.int g), z5, s6, s7] = .ret (.nx, [s0, s1, s2, s3, .pl (.int (gI g x)), .pl (.int x), .pl (.int 0), s7']) := by
  obtain ⟨s7', e⟩ := gcd_gen (tst := tstW g__law_spot (.cmp .gt (.v 6) (.c (.int 0)))) (trn := trnW g__law_spot [(.box 7 false (.v 4)), (.box 4 false (.v 6)), (.box 6 false (.bin .mod (.bi .int [(.v 7)]) (.v 6)))]) (fun a b s => [s0, s1, s2, s3, .pl (.int a), .pl (.int x), .pl (.int b), s]) (by
    intro a b s
    simp (maxSteps := 10000000) (implicitDefEqProofs := false) (disch := omega) [tstW, isn_n, isn_F, isn_i, G0, G1, b_ret, o_some, map_some, obind_some, k_add, k_sub, k_mul, k_ixl, k_ixt, ix_0, ix_1, ix_2, ix_3, ix_4, ix_5, ix_6, ix_7, ix_8, ix_9, ix_10, ix_11, ix_12, st_0, st_1, st_2, st_3, st_4, st_5, st_6, st_7, st_8, st_9, st_10, st_11, st_12, rd_0, rd_b, rd_l, rd_s, own_0, own_p, own_s, own_n, e_c, e_g, e_v, e_bin, neg_i, e_neg, e_cmp, e_chain, e_nt, e_and, e_or, e_tr, e_ite, e_tup, e_lst, e_ix, e_sl, e_rev, e_call, e_bi, e_isi, e_draw, e_comp, turn_cons, turn_nil, es_nil, es_cons, eS_nil, eS_cons, eC_nil, eC_cons, eA_nil, eA_cons, arg_st, bl_ret, x_nil, then_nx, then_rt, then_ct, then_bk, x_cns, x_bx, x_asgn, x_par, eR_nil, eR_cons, par_nil, par_cons, x_ixs, x_ap, x_ifs, x_rt, x_fr, loop_nx, loop_ct, loop_bk, loop_rt, for_nil, for_cons, bindA, List.replicate, List.cons_append, List.nil_append, a_nm, a_tt, a_tl, as_n, as_c, List.set_cons_zero, List.set_cons_succ, List.length_cons, List.length_nil, setS, boxS, cond_true, cond_false, Bool.and_true, Bool.and_false, Bool.true_and, Bool.false_and, if_true, lk_nil, lk_v, lk_c, lk_g, lk_bin, lk_neg, lk_cmp, lk_chain, lk_nt, lk_and2, lk_or2, lk_tr, lk_ite, lk_tup, lk_lst, lk_ix, lk_sl, lk_rev, lk_call, lk_bi, lk_isi, lk_comp, lk_comp2, lk_draw, ul_nil, ul_v, ul_c, ul_g, ul_bin, ul_neg, ul_cmp, ul_chain, ul_nt, ul_and2, ul_or2, ul_tr, ul_ite, ul_tup, ul_lst, ul_ix, ul_sl, ul_rev, ul_call, ul_bi, ul_isi, ul_comp, ul_comp2, ul_draw, isV, tgS, tgSs, wipeE, rt_v, rt_c, rt_g, rt_bin, rt_neg, rt_cmp, rt_chain, rt_nt, rt_and2, rt_or2, rt_tr, rt_ite, rt_tup, rt_lst, rt_ix, rt_sl, rt_rev, rt_call, rt_bi, rt_isi, rt_comp, rt_comp2, rt_draw, b_lenl, b_lent, b_lens, b_abs, b_sum, b_max, b_min, b_max2, b_min2, b_tupl, b_tupt, b_lstl, b_lstt, b_inti, b_intb, b_all, b_any, b_gcd, is_nil, is_cons, bs_nil, bs_cons, s_seql, s_seqt, s_seqs, s_r1, s_r2, s_zip, s_zipt, s_enum, s_enumt, s_rev, s_revt, s_rr, z_cons, z_nil, z_nil2, n_cons, n_nil, sl_l, sl_t, one_0, one_1, cut_from, cut_to, rv_l, tr_n, tr_b, tr_i, tr_l, tr_t, x_rtN, x_brk, x_cnt, x_pas, x_frz, x_drp, List.getElem?_cons_zero, List.getElem?_cons_succ, arg_c, arg_g, arg_bin, arg_neg, arg_cmp, arg_chain, arg_nt, arg_and2, arg_or2, arg_tr, arg_ite, arg_tup, arg_lst, arg_ix, arg_sl, arg_rev, arg_call, arg_bi, arg_isi, arg_comp, arg_draw, bind_drw, blT_drw, then_drw, loop_drw, all_drw, all_ret, c_lt, c_le, c_gt, c_ge, c_eq, c_ne, c_isN, c_notN, cond_dec, cond_not, cond_and, cond_or, dr10, dr01, ex_ite, wt_nx, wt_rt, wt_ct, wt_bk, wt_drw, q_eq, F_inj, k_addl, k_addt, k_ap, rng2, line, rangeL, List.sum_cons, List.sum_nil, tyD, allTy, run]) (by
    intro a b s hb
    refine ⟨.pl (.int a), ?_⟩
    simp (maxSteps := 10000000) (implicitDefEqProofs := false) (disch := omega) [trnW, k_modp, hb, isn_n, isn_F, isn_i, G0, G1, b_ret, o_some, map_some, obind_some, k_add, k_sub, k_mul, k_ixl, k_ixt, ix_0, ix_1, ix_2, ix_3, ix_4, ix_5, ix_6, ix_7, ix_8, ix_9, ix_10, ix_11, ix_12, st_0, st_1, st_2, st_3, st_4, st_5, st_6, st_7, st_8, st_9, st_10, st_11, st_12, rd_0, rd_b, rd_l, rd_s, own_0, own_p, own_s, own_n, e_c, e_g, e_v, e_bin, neg_i, e_neg, e_cmp, e_chain, e_nt, e_and, e_or, e_tr, e_ite, e_tup, e_lst, e_ix, e_sl, e_rev, e_call, e_bi, e_isi, e_draw, e_comp, turn_cons, turn_nil, es_nil, es_cons, eS_nil, eS_cons, eC_nil, eC_cons, eA_nil, eA_cons, arg_st, bl_ret, x_nil, then_nx, then_rt, then_ct, then_bk, x_cns, x_bx, x_asgn, x_par, eR_nil, eR_cons, par_nil, par_cons, x_ixs, x_ap, x_ifs, x_rt, x_fr, loop_nx, loop_ct, loop_bk, loop_rt, for_nil, for_cons, bindA, List.replicate, List.cons_append, List.nil_append, a_nm, a_tt, a_tl, as_n, as_c, List.set_cons_zero, List.set_cons_succ, List.length_cons, List.length_nil, setS, boxS, cond_true, cond_false, Bool.and_true, Bool.and_false, Bool.true_and, Bool.false_and, if_true, lk_nil, lk_v, lk_c, lk_g, lk_bin, lk_neg, lk_cmp, lk_chain, lk_nt, lk_and2, lk_or2, lk_tr, lk_ite, lk_tup, lk_lst, lk_ix, lk_sl, lk_rev, lk_call, lk_bi, lk_isi, lk_comp, lk_comp2, lk_draw, ul_nil, ul_v, ul_c, ul_g, ul_bin, ul_neg, ul_cmp, ul_chain, ul_nt, ul_and2, ul_or2, ul_tr, ul_ite, ul_tup, ul_lst, ul_ix, ul_sl, ul_rev, ul_call, ul_bi, ul_isi, ul_comp, ul_comp2, ul_draw, isV, tgS, tgSs, wipeE, rt_v, rt_c, rt_g, rt_bin, rt_neg, rt_cmp, rt_chain, rt_nt, rt_and2, rt_or2, rt_tr, rt_ite, rt_tup, rt_lst, rt_ix, rt_sl, rt_rev, rt_call, rt_bi, rt_isi, rt_comp, rt_comp2, rt_draw, b_lenl, b_lent, b_lens, b_abs, b_sum, b_max, b_min, b_max2, b_min2, b_tupl, b_tupt, b_lstl, b_lstt, b_inti, b_intb, b_all, b_any, b_gcd, is_nil, is_cons, bs_nil, bs_cons, s_seql, s_seqt, s_seqs, s_r1, s_r2, s_zip, s_zipt, s_enum, s_enumt, s_rev, s_revt, s_rr, z_cons, z_nil, z_nil2, n_cons, n_nil, sl_l, sl_t, one_0, one_1, cut_from, cut_to, rv_l, tr_n, tr_b, tr_i, tr_l, tr_t, x_rtN, x_brk, x_cnt, x_pas, x_frz, x_drp, List.getElem?_cons_zero, List.getElem?_cons_succ, arg_c, arg_g, arg_bin, arg_neg, arg_cmp, arg_chain, arg_nt, arg_and2, arg_or2, arg_tr, arg_ite, arg_tup, arg_lst, arg_ix, arg_sl, arg_rev, arg_call, arg_bi, arg_isi, arg_comp, arg_draw, bind_drw, blT_drw, then_drw, loop_drw, all_drw, all_ret, c_lt, c_le, c_gt, c_ge, c_eq, c_ne, c_isN, c_notN, cond_dec, cond_not, cond_and, cond_or, dr10, dr01, ex_ite, wt_nx, wt_rt, wt_ct, wt_bk, wt_drw, q_eq, F_inj, k_addl, k_addt, k_ap, rng2, line, rangeL, List.sum_cons, List.sum_nil, tyD, allTy, run]) n 1000000 g.natAbs x.natAbs s7 i.lt (by omega)
  rw [show ((g.natAbs : Nat) : Int) = g by omega] at e
  refine ⟨s7', ?_⟩
  have e : whlL (tstW g__law_spot (.cmp .gt (.v 6) (.c (.int 0)))) (trnW g__law_spot [(.box 7 false (.v 4)), (.box 4 false (.v 6)), (.box 6 false (.bin .mod (.bi .int [(.v 7)]) (.v 6)))]) 1000000 [s0, s1, s2, s3, .pl (.int g), .pl (.int x), .pl (.int (x.natAbs : Int)), s7] = .ret (.nx, [s0, s1, s2, s3, .pl (.int (gI g x)), .pl (.int x), .pl (.int 0), s7']) := e
  simp (maxSteps := 10000000) (implicitDefEqProofs := false) (disch := omega) [turnF, x_wh, e, isn_n, isn_F, isn_i, G0, G1, b_ret, o_some, map_some, obind_some, k_add, k_sub, k_mul, k_ixl, k_ixt, ix_0, ix_1, ix_2, ix_3, ix_4, ix_5, ix_6, ix_7, ix_8, ix_9, ix_10, ix_11, ix_12, st_0, st_1, st_2, st_3, st_4, st_5, st_6, st_7, st_8, st_9, st_10, st_11, st_12, rd_0, rd_b, rd_l, rd_s, own_0, own_p, own_s, own_n, e_c, e_g, e_v, e_bin, neg_i, e_neg, e_cmp, e_chain, e_nt, e_and, e_or, e_tr, e_ite, e_tup, e_lst, e_ix, e_sl, e_rev, e_call, e_bi, e_isi, e_draw, e_comp, turn_cons, turn_nil, es_nil, es_cons, eS_nil, eS_cons, eC_nil, eC_cons, eA_nil, eA_cons, arg_st, bl_ret, x_nil, then_nx, then_rt, then_ct, then_bk, x_cns, x_bx, x_asgn, x_par, eR_nil, eR_cons, par_nil, par_cons, x_ixs, x_ap, x_ifs, x_rt, x_fr, loop_nx, loop_ct, loop_bk, loop_rt, for_nil, for_cons, bindA, List.replicate, List.cons_append, List.nil_append, a_nm, a_tt, a_tl, as_n, as_c, List.set_cons_zero, List.set_cons_succ, List.length_cons, List.length_nil, setS, boxS, cond_true, cond_false, Bool.and_true, Bool.and_false, Bool.true_and, Bool.false_and, if_true, lk_nil, lk_v, lk_c, lk_g, lk_bin, lk_neg, lk_cmp, lk_chain, lk_nt, lk_and2, lk_or2, lk_tr, lk_ite, lk_tup, lk_lst, lk_ix, lk_sl, lk_rev, lk_call, lk_bi, lk_isi, lk_comp, lk_comp2, lk_draw, ul_nil, ul_v, ul_c, ul_g, ul_bin, ul_neg, ul_cmp, ul_chain, ul_nt, ul_and2, ul_or2, ul_tr, ul_ite, ul_tup, ul_lst, ul_ix, ul_sl, ul_rev, ul_call, ul_bi, ul_isi, ul_comp, ul_comp2, ul_draw, isV, tgS, tgSs, wipeE, rt_v, rt_c, rt_g, rt_bin, rt_neg, rt_cmp, rt_chain, rt_nt, rt_and2, rt_or2, rt_tr, rt_ite, rt_tup, rt_lst, rt_ix, rt_sl, rt_rev, rt_call, rt_bi, rt_isi, rt_comp, rt_comp2, rt_draw, b_lenl, b_lent, b_lens, b_abs, b_sum, b_max, b_min, b_max2, b_min2, b_tupl, b_tupt, b_lstl, b_lstt, b_inti, b_intb, b_all, b_any, b_gcd, is_nil, is_cons, bs_nil, bs_cons, s_seql, s_seqt, s_seqs, s_r1, s_r2, s_zip, s_zipt, s_enum, s_enumt, s_rev, s_revt, s_rr, z_cons, z_nil, z_nil2, n_cons, n_nil, sl_l, sl_t, one_0, one_1, cut_from, cut_to, rv_l, tr_n, tr_b, tr_i, tr_l, tr_t, x_rtN, x_brk, x_cnt, x_pas, x_frz, x_drp, List.getElem?_cons_zero, List.getElem?_cons_succ, arg_c, arg_g, arg_bin, arg_neg, arg_cmp, arg_chain, arg_nt, arg_and2, arg_or2, arg_tr, arg_ite, arg_tup, arg_lst, arg_ix, arg_sl, arg_rev, arg_call, arg_bi, arg_isi, arg_comp, arg_draw, bind_drw, blT_drw, then_drw, loop_drw, all_drw, all_ret, c_lt, c_le, c_gt, c_ge, c_eq, c_ne, c_isN, c_notN, cond_dec, cond_not, cond_and, cond_or, dr10, dr01, ex_ite, wt_nx, wt_rt, wt_ct, wt_bk, wt_drw, q_eq, F_inj, k_addl, k_addt, k_ap, rng2, line, rangeL, List.sum_cons, List.sum_nil, tyD, allTy, run]
theorem loopS {s0 s1 s2 s3 s5 s6 s7 : Slot} {a b c : Int} {n : Nat} (ia : Sm n a) (ib : Sm n b) (ic : Sm n c) (h : n ≤ 8000) : ∃ s7', forL (turnF g__law_spot (.nm 5) [(.box 6 false (.bi .abs [(.v 5)])), (.whl 1000000 (.cmp .gt (.v 6) (.c (.int 0))) [(.box 7 false (.v 4)), (.box 4 false (.v 6)), (.box 6 false (.bin .mod (.bi .int [(.v 7)]) (.v 6)))])]) [.int a, .int b, .int c] [s0, s1, s2, s3, .pl (.int 0), s5, s6, s7] = .ret (.nx, [s0, s1, s2, s3, .pl (.int (g3 a b c : Nat)), .pl (.int c), .pl (.int 0), s7']) := by
  obtain ⟨x1, q1⟩ := turnS (s0 := s0) (s1 := s1) (s2 := s2) (s3 := s3) (z5 := s5) (s6 := s6) (s7 := s7) (g := 0) (x := a) h (by omega)
  obtain ⟨x2, q2⟩ := turnS (s0 := s0) (s1 := s1) (s2 := s2) (s3 := s3) (z5 := .pl (.int a)) (s6 := .pl (.int 0)) (s7 := x1) (g := gI 0 a) (x := b) h gI_nn
  obtain ⟨x3, q3⟩ := turnS (s0 := s0) (s1 := s1) (s2 := s2) (s3 := s3) (z5 := .pl (.int b)) (s6 := .pl (.int 0)) (s7 := x2) (g := gI (gI 0 a) b) (x := c) h gI_nn
  have e : gI (gI (gI 0 a) b) c = (g3 a b c : Nat) := by
    unfold gI g3
    congr 2
    rw [Int.gcd_zero_left, Int.gcd, Int.natAbs_natCast]; rfl
  rw [e] at q3
  refine ⟨x3, ?_⟩
  rw [forL, q1]
  show forL _ _ _ = _
  rw [forL, q2]
  show forL _ _ _ = _
  rw [forL, q3]
  rfl
theorem p_spot {u v : G2} {p q : Nat} [hp : SmG p u] [hq : SmG q v] (h : p + q ≤ 1000) (hv : q ≤ 500) : r__law_spot [.d (GD u), .d (GD v)] = .ret (SD (sp u v), false) := by
  by_cases h0 : v.x = 0 ∧ v.y = 0
  · have e : sp u v = (.one, 0) := by unfold sp; rw [if_pos h0]
    rw [e]
    simp (maxSteps := 10000000) (implicitDefEqProofs := false) (disch := omega) [r__law_spot, i__law_spot, g__law_spot, gd_eq, h0, SD, GD, G2.one, isn_n, isn_F, isn_i, G0, G1, b_ret, o_some, map_some, obind_some, k_add, k_sub, k_mul, k_ixl, k_ixt, ix_0, ix_1, ix_2, ix_3, ix_4, ix_5, ix_6, ix_7, ix_8, ix_9, ix_10, ix_11, ix_12, st_0, st_1, st_2, st_3, st_4, st_5, st_6, st_7, st_8, st_9, st_10, st_11, st_12, rd_0, rd_b, rd_l, rd_s, own_0, own_p, own_s, own_n, e_c, e_g, e_v, e_bin, neg_i, e_neg, e_cmp, e_chain, e_nt, e_and, e_or, e_tr, e_ite, e_tup, e_lst, e_ix, e_sl, e_rev, e_call, e_bi, e_isi, e_draw, e_comp, turn_cons, turn_nil, es_nil, es_cons, eS_nil, eS_cons, eC_nil, eC_cons, eA_nil, eA_cons, arg_st, bl_ret, x_nil, then_nx, then_rt, then_ct, then_bk, x_cns, x_bx, x_asgn, x_par, eR_nil, eR_cons, par_nil, par_cons, x_ixs, x_ap, x_ifs, x_rt, x_fr, loop_nx, loop_ct, loop_bk, loop_rt, for_nil, for_cons, bindA, List.replicate, List.cons_append, List.nil_append, a_nm, a_tt, a_tl, as_n, as_c, List.set_cons_zero, List.set_cons_succ, List.length_cons, List.length_nil, setS, boxS, cond_true, cond_false, Bool.and_true, Bool.and_false, Bool.true_and, Bool.false_and, if_true, lk_nil, lk_v, lk_c, lk_g, lk_bin, lk_neg, lk_cmp, lk_chain, lk_nt, lk_and2, lk_or2, lk_tr, lk_ite, lk_tup, lk_lst, lk_ix, lk_sl, lk_rev, lk_call, lk_bi, lk_isi, lk_comp, lk_comp2, lk_draw, ul_nil, ul_v, ul_c, ul_g, ul_bin, ul_neg, ul_cmp, ul_chain, ul_nt, ul_and2, ul_or2, ul_tr, ul_ite, ul_tup, ul_lst, ul_ix, ul_sl, ul_rev, ul_call, ul_bi, ul_isi, ul_comp, ul_comp2, ul_draw, isV, tgS, tgSs, wipeE, rt_v, rt_c, rt_g, rt_bin, rt_neg, rt_cmp, rt_chain, rt_nt, rt_and2, rt_or2, rt_tr, rt_ite, rt_tup, rt_lst, rt_ix, rt_sl, rt_rev, rt_call, rt_bi, rt_isi, rt_comp, rt_comp2, rt_draw, b_lenl, b_lent, b_lens, b_abs, b_sum, b_max, b_min, b_max2, b_min2, b_tupl, b_tupt, b_lstl, b_lstt, b_inti, b_intb, b_all, b_any, b_gcd, is_nil, is_cons, bs_nil, bs_cons, s_seql, s_seqt, s_seqs, s_r1, s_r2, s_zip, s_zipt, s_enum, s_enumt, s_rev, s_revt, s_rr, z_cons, z_nil, z_nil2, n_cons, n_nil, sl_l, sl_t, one_0, one_1, cut_from, cut_to, rv_l, tr_n, tr_b, tr_i, tr_l, tr_t, x_rtN, x_brk, x_cnt, x_pas, x_frz, x_drp, List.getElem?_cons_zero, List.getElem?_cons_succ, arg_c, arg_g, arg_bin, arg_neg, arg_cmp, arg_chain, arg_nt, arg_and2, arg_or2, arg_tr, arg_ite, arg_tup, arg_lst, arg_ix, arg_sl, arg_rev, arg_call, arg_bi, arg_isi, arg_comp, arg_draw, bind_drw, blT_drw, then_drw, loop_drw, all_drw, all_ret, c_lt, c_le, c_gt, c_ge, c_eq, c_ne, c_isN, c_notN, cond_dec, cond_not, cond_and, cond_or, dr10, dr01, ex_ite, wt_nx, wt_rt, wt_ct, wt_bk, wt_drw, q_eq, F_inj, k_addl, k_addt, k_ap, rng2, line, rangeL, List.sum_cons, List.sum_nil, tyD, allTy, run]
  · have hv0 : v ≠ .zero := fun e => h0 (by subst e; exact ⟨rfl, rfl⟩)
    have hn := G2.nm_pos hv0
    have in' : Sm (q + q + 1) v.nm := (inferInstance : Sm _ (v.x * v.x + v.y * v.y)).up (by omega)
    have gp := g3_pos (a := (u.mul v.conj).x) (b := (u.mul v.conj).y) hn
    have gl : ((g3 (u.mul v.conj).x (u.mul v.conj).y v.nm : Nat) : Int) ≤ v.nm := Int.le_of_dvd hn (g3_dvd _ _ _).2.2
    rw [sp_near hv0]
    have e2 : v.x * v.x + v.y * v.y = v.nm := rfl
    have iw : SmG (p + q + 1) (u.mul v.conj) := inferInstance
    have et := p_times (a := u) (b := v.conj) (by omega)
    generalize u.mul v.conj = w at *
    obtain ⟨s7', F⟩ := loopS (s0 := .pl (GD u)) (s1 := .pl (GD v)) (s2 := .pl (GD w)) (s3 := .pl (.int v.nm)) (s5 := .no) (s6 := .no) (s7 := .no) (n := p + q + q + 1) (iw.x.up (by omega)) (iw.y.up (by omega)) (in'.up (by omega)) (by omega)
    have ig : Sm (q + q + 1) ((g3 w.x w.y v.nm : Nat) : Int) := ⟨by have := in'.lt; omega⟩
    have gp0 : 0 < ((g3 w.x w.y v.nm : Nat) : Int) := by omega
    generalize ((g3 w.x w.y v.nm : Nat) : Int) = G at *
    simp (maxSteps := 10000000) (implicitDefEqProofs := false) (disch := omega) [r__law_spot, i__law_spot, g__law_spot, gd_eq, h0, GD_neg, et, e2, F, k_fdivp, gp0, SD, GD_m, isn_n, isn_F, isn_i, G0, G1, b_ret, o_some, map_some, obind_some, k_add, k_sub, k_mul, k_ixl, k_ixt, ix_0, ix_1, ix_2, ix_3, ix_4, ix_5, ix_6, ix_7, ix_8, ix_9, ix_10, ix_11, ix_12, st_0, st_1, st_2, st_3, st_4, st_5, st_6, st_7, st_8, st_9, st_10, st_11, st_12, rd_0, rd_b, rd_l, rd_s, own_0, own_p, own_s, own_n, e_c, e_g, e_v, e_bin, neg_i, e_neg, e_cmp, e_chain, e_nt, e_and, e_or, e_tr, e_ite, e_tup, e_lst, e_ix, e_sl, e_rev, e_call, e_bi, e_isi, e_draw, e_comp, turn_cons, turn_nil, es_nil, es_cons, eS_nil, eS_cons, eC_nil, eC_cons, eA_nil, eA_cons, arg_st, bl_ret, x_nil, then_nx, then_rt, then_ct, then_bk, x_cns, x_bx, x_asgn, x_par, eR_nil, eR_cons, par_nil, par_cons, x_ixs, x_ap, x_ifs, x_rt, x_fr, loop_nx, loop_ct, loop_bk, loop_rt, bindA, List.replicate, List.cons_append, List.nil_append, a_nm, a_tt, a_tl, as_n, as_c, List.set_cons_zero, List.set_cons_succ, List.length_cons, List.length_nil, setS, boxS, cond_true, cond_false, Bool.and_true, Bool.and_false, Bool.true_and, Bool.false_and, if_true, lk_nil, lk_v, lk_c, lk_g, lk_bin, lk_neg, lk_cmp, lk_chain, lk_nt, lk_and2, lk_or2, lk_tr, lk_ite, lk_tup, lk_lst, lk_ix, lk_sl, lk_rev, lk_call, lk_bi, lk_isi, lk_comp, lk_comp2, lk_draw, ul_nil, ul_v, ul_c, ul_g, ul_bin, ul_neg, ul_cmp, ul_chain, ul_nt, ul_and2, ul_or2, ul_tr, ul_ite, ul_tup, ul_lst, ul_ix, ul_sl, ul_rev, ul_call, ul_bi, ul_isi, ul_comp, ul_comp2, ul_draw, isV, tgS, tgSs, wipeE, rt_v, rt_c, rt_g, rt_bin, rt_neg, rt_cmp, rt_chain, rt_nt, rt_and2, rt_or2, rt_tr, rt_ite, rt_tup, rt_lst, rt_ix, rt_sl, rt_rev, rt_call, rt_bi, rt_isi, rt_comp, rt_comp2, rt_draw, b_lenl, b_lent, b_lens, b_abs, b_sum, b_max, b_min, b_max2, b_min2, b_tupl, b_tupt, b_lstl, b_lstt, b_inti, b_intb, b_all, b_any, b_gcd, is_nil, is_cons, bs_nil, bs_cons, s_seql, s_seqt, s_seqs, s_r1, s_r2, s_zip, s_zipt, s_enum, s_enumt, s_rev, s_revt, s_rr, z_cons, z_nil, z_nil2, n_cons, n_nil, sl_l, sl_t, one_0, one_1, cut_from, cut_to, rv_l, tr_n, tr_b, tr_i, tr_l, tr_t, x_rtN, x_brk, x_cnt, x_pas, x_frz, x_drp, List.getElem?_cons_zero, List.getElem?_cons_succ, arg_c, arg_g, arg_bin, arg_neg, arg_cmp, arg_chain, arg_nt, arg_and2, arg_or2, arg_tr, arg_ite, arg_tup, arg_lst, arg_ix, arg_sl, arg_rev, arg_call, arg_bi, arg_isi, arg_comp, arg_draw, bind_drw, blT_drw, then_drw, loop_drw, all_drw, all_ret, c_lt, c_le, c_gt, c_ge, c_eq, c_ne, c_isN, c_notN, cond_dec, cond_not, cond_and, cond_or, dr10, dr01, ex_ite, wt_nx, wt_rt, wt_ct, wt_bk, wt_drw, q_eq, F_inj, k_addl, k_addt, k_ap, rng2, line, rangeL, List.sum_cons, List.sum_nil, tyD, allTy, run]
def led (m : M2) (s : Sp) : Sp := sp ((m.a.mul s.1).add (m.b.sm s.2)) ((m.c.mul s.1).add (m.d.sm s.2))
theorem S0 {s : Sp} : ixD (SD s) (.int 0) = some (GD s.1) := rfl
theorem S1 {s : Sp} : ixD (SD s) (.int 1) = some (.int s.2) := rfl
theorem M0 {m : M2} : ixD (MD m) (.int 0) = some (.tup [GD m.a, GD m.b]) := rfl
theorem M1 {m : M2} : ixD (MD m) (.int 1) = some (.tup [GD m.c, GD m.d]) := rfl
class SmS (n : outParam Nat) (s : Sp) : Prop where
  g : SmG n s.1
  i : Sm n s.2
instance {s : Sp} {n : Nat} [h : SmS n s] : SmG n s.1 := h.g
instance {s : Sp} {n : Nat} [h : SmS n s] : Sm n s.2 := h.i
class SmT (n : outParam Nat) (m : M2) : Prop where
  a : SmG n m.a
  b : SmG n m.b
  c : SmG n m.c
  d : SmG n m.d
instance {m : M2} {n : Nat} [h : SmT n m] : SmG n m.a := h.a
instance {m : M2} {n : Nat} [h : SmT n m] : SmG n m.b := h.b
instance {m : M2} {n : Nat} [h : SmT n m] : SmG n m.c := h.c
instance {m : M2} {n : Nat} [h : SmT n m] : SmG n m.d := h.d
instance {u v : G2} {p q : Nat} [hp : SmG p u] [hq : SmG q v] : SmS (p + q + q + 2) (sp u v) := by
  by_cases hv : v = .zero
  · rw [sp_far hv]
    exact ⟨⟨(⟨by decide⟩ : Sm 2 1).up (by omega), (⟨by decide⟩ : Sm 2 0).up (by omega)⟩, (⟨by decide⟩ : Sm 2 0).up (by omega)⟩
  · rw [sp_near hv]
    have iw : SmG (p + q + 1) (u.mul v.conj) := inferInstance
    have in' : Sm (q + q + 1) v.nm := (inferInstance : Sm _ (v.x * v.x + v.y * v.y)).up (by omega)
    generalize u.mul v.conj = w at *
    exact ⟨⟨(inferInstance : Sm _ (w.x / _)).up (by omega), (inferInstance : Sm _ (w.y / _)).up (by omega)⟩, (inferInstance : Sm _ (v.nm / _)).up (by omega)⟩
theorem p_led {m : M2} {s : Sp} {p q : Nat} [SmT p m] [SmS q s] (h : p + q ≤ 200) : r_led_by [.d (MD m), .d (SD s)] = .ret (SD (led m s), false) := by
  simp (maxSteps := 10000000) (implicitDefEqProofs := false) (disch := omega) [r_led_by, i_led_by, g_led_by, MD, SD, p_two_times, p_two_add, p_scaled, p_two_plain, led, isn_n, isn_F, isn_i, G0, G1, b_ret, o_some, map_some, obind_some, k_add, k_sub, k_mul, k_ixl, k_ixt, ix_0, ix_1, ix_2, ix_3, ix_4, ix_5, ix_6, ix_7, ix_8, ix_9, ix_10, ix_11, ix_12, st_0, st_1, st_2, st_3, st_4, st_5, st_6, st_7, st_8, st_9, st_10, st_11, st_12, rd_0, rd_b, rd_l, rd_s, own_0, own_p, own_s, own_n, e_c, e_g, e_v, e_bin, neg_i, e_neg, e_cmp, e_chain, e_nt, e_and, e_or, e_tr, e_ite, e_tup, e_lst, e_ix, e_sl, e_rev, e_call, e_bi, e_isi, e_draw, e_comp, turn_cons, turn_nil, es_nil, es_cons, eS_nil, eS_cons, eC_nil, eC_cons, eA_nil, eA_cons, arg_st, bl_ret, x_nil, then_nx, then_rt, then_ct, then_bk, x_cns, x_bx, x_asgn, x_par, eR_nil, eR_cons, par_nil, par_cons, x_ixs, x_ap, x_ifs, x_rt, x_fr, loop_nx, loop_ct, loop_bk, loop_rt, for_nil, for_cons, bindA, List.replicate, List.cons_append, List.nil_append, a_nm, a_tt, a_tl, as_n, as_c, List.set_cons_zero, List.set_cons_succ, List.length_cons, List.length_nil, setS, boxS, cond_true, cond_false, Bool.and_true, Bool.and_false, Bool.true_and, Bool.false_and, if_true, lk_nil, lk_v, lk_c, lk_g, lk_bin, lk_neg, lk_cmp, lk_chain, lk_nt, lk_and2, lk_or2, lk_tr, lk_ite, lk_tup, lk_lst, lk_ix, lk_sl, lk_rev, lk_call, lk_bi, lk_isi, lk_comp, lk_comp2, lk_draw, ul_nil, ul_v, ul_c, ul_g, ul_bin, ul_neg, ul_cmp, ul_chain, ul_nt, ul_and2, ul_or2, ul_tr, ul_ite, ul_tup, ul_lst, ul_ix, ul_sl, ul_rev, ul_call, ul_bi, ul_isi, ul_comp, ul_comp2, ul_draw, isV, tgS, tgSs, wipeE, rt_v, rt_c, rt_g, rt_bin, rt_neg, rt_cmp, rt_chain, rt_nt, rt_and2, rt_or2, rt_tr, rt_ite, rt_tup, rt_lst, rt_ix, rt_sl, rt_rev, rt_call, rt_bi, rt_isi, rt_comp, rt_comp2, rt_draw, b_lenl, b_lent, b_lens, b_abs, b_sum, b_max, b_min, b_max2, b_min2, b_tupl, b_tupt, b_lstl, b_lstt, b_inti, b_intb, b_all, b_any, b_gcd, is_nil, is_cons, bs_nil, bs_cons, s_seql, s_seqt, s_seqs, s_r1, s_r2, s_zip, s_zipt, s_enum, s_enumt, s_rev, s_revt, s_rr, z_cons, z_nil, z_nil2, n_cons, n_nil, sl_l, sl_t, one_0, one_1, cut_from, cut_to, rv_l, tr_n, tr_b, tr_i, tr_l, tr_t, x_rtN, x_brk, x_cnt, x_pas, x_frz, x_drp, List.getElem?_cons_zero, List.getElem?_cons_succ, arg_c, arg_g, arg_bin, arg_neg, arg_cmp, arg_chain, arg_nt, arg_and2, arg_or2, arg_tr, arg_ite, arg_tup, arg_lst, arg_ix, arg_sl, arg_rev, arg_call, arg_bi, arg_isi, arg_comp, arg_draw, bind_drw, blT_drw, then_drw, loop_drw, all_drw, all_ret, c_lt, c_le, c_gt, c_ge, c_eq, c_ne, c_isN, c_notN, cond_dec, cond_not, cond_and, cond_or, dr10, dr01, ex_ite, wt_nx, wt_rt, wt_ct, wt_bk, wt_drw, q_eq, F_inj, k_addl, k_addt, k_ap, rng2, line, rangeL, List.sum_cons, List.sum_nil, tyD, allTy, run]
theorem p__law_led {m : M2} {s : Sp} {p q : Nat} [SmT p m] [SmS q s] (h : p + q ≤ 200) : r__law_led_spot [.d (MD m), .d (SD s)] = .ret (SD (led m s), false) := by
  simp (maxSteps := 10000000) (implicitDefEqProofs := false) (disch := omega) [r__law_led_spot, i__law_led_spot, g__law_led_spot, M0, M1, S0, S1, p_times, p_plus, p_spot, led, isn_n, isn_F, isn_i, G0, G1, b_ret, o_some, map_some, obind_some, k_add, k_sub, k_mul, k_ixl, k_ixt, ix_0, ix_1, ix_2, ix_3, ix_4, ix_5, ix_6, ix_7, ix_8, ix_9, ix_10, ix_11, ix_12, st_0, st_1, st_2, st_3, st_4, st_5, st_6, st_7, st_8, st_9, st_10, st_11, st_12, rd_0, rd_b, rd_l, rd_s, own_0, own_p, own_s, own_n, e_c, e_g, e_v, e_bin, neg_i, e_neg, e_cmp, e_chain, e_nt, e_and, e_or, e_tr, e_ite, e_tup, e_lst, e_ix, e_sl, e_rev, e_call, e_bi, e_isi, e_draw, e_comp, turn_cons, turn_nil, es_nil, es_cons, eS_nil, eS_cons, eC_nil, eC_cons, eA_nil, eA_cons, arg_st, bl_ret, x_nil, then_nx, then_rt, then_ct, then_bk, x_cns, x_bx, x_asgn, x_par, eR_nil, eR_cons, par_nil, par_cons, x_ixs, x_ap, x_ifs, x_rt, x_fr, loop_nx, loop_ct, loop_bk, loop_rt, for_nil, for_cons, bindA, List.replicate, List.cons_append, List.nil_append, a_nm, a_tt, a_tl, as_n, as_c, List.set_cons_zero, List.set_cons_succ, List.length_cons, List.length_nil, setS, boxS, cond_true, cond_false, Bool.and_true, Bool.and_false, Bool.true_and, Bool.false_and, if_true, lk_nil, lk_v, lk_c, lk_g, lk_bin, lk_neg, lk_cmp, lk_chain, lk_nt, lk_and2, lk_or2, lk_tr, lk_ite, lk_tup, lk_lst, lk_ix, lk_sl, lk_rev, lk_call, lk_bi, lk_isi, lk_comp, lk_comp2, lk_draw, ul_nil, ul_v, ul_c, ul_g, ul_bin, ul_neg, ul_cmp, ul_chain, ul_nt, ul_and2, ul_or2, ul_tr, ul_ite, ul_tup, ul_lst, ul_ix, ul_sl, ul_rev, ul_call, ul_bi, ul_isi, ul_comp, ul_comp2, ul_draw, isV, tgS, tgSs, wipeE, rt_v, rt_c, rt_g, rt_bin, rt_neg, rt_cmp, rt_chain, rt_nt, rt_and2, rt_or2, rt_tr, rt_ite, rt_tup, rt_lst, rt_ix, rt_sl, rt_rev, rt_call, rt_bi, rt_isi, rt_comp, rt_comp2, rt_draw, b_lenl, b_lent, b_lens, b_abs, b_sum, b_max, b_min, b_max2, b_min2, b_tupl, b_tupt, b_lstl, b_lstt, b_inti, b_intb, b_all, b_any, b_gcd, is_nil, is_cons, bs_nil, bs_cons, s_seql, s_seqt, s_seqs, s_r1, s_r2, s_zip, s_zipt, s_enum, s_enumt, s_rev, s_revt, s_rr, z_cons, z_nil, z_nil2, n_cons, n_nil, sl_l, sl_t, one_0, one_1, cut_from, cut_to, rv_l, tr_n, tr_b, tr_i, tr_l, tr_t, x_rtN, x_brk, x_cnt, x_pas, x_frz, x_drp, List.getElem?_cons_zero, List.getElem?_cons_succ, arg_c, arg_g, arg_bin, arg_neg, arg_cmp, arg_chain, arg_nt, arg_and2, arg_or2, arg_tr, arg_ite, arg_tup, arg_lst, arg_ix, arg_sl, arg_rev, arg_call, arg_bi, arg_isi, arg_comp, arg_draw, bind_drw, blT_drw, then_drw, loop_drw, all_drw, all_ret, c_lt, c_le, c_gt, c_ge, c_eq, c_ne, c_isN, c_notN, cond_dec, cond_not, cond_and, cond_or, dr10, dr01, ex_ite, wt_nx, wt_rt, wt_ct, wt_bk, wt_drw, q_eq, F_inj, k_addl, k_addt, k_ap, rng2, line, rangeL, List.sum_cons, List.sum_nil, tyD, allTy, run]
def M2.mul (m n : M2) : M2 := ⟨(m.a.mul n.a).add (m.b.mul n.c), (m.a.mul n.b).add (m.b.mul n.d), (m.c.mul n.a).add (m.d.mul n.c), (m.c.mul n.b).add (m.d.mul n.d)⟩
def M2.back (m : M2) : M2 := ⟨m.d, m.b.sm (-1), m.c.sm (-1), m.a⟩
def M2.det (m : M2) : G2 := (m.a.mul m.d).add ((m.b.mul m.c).sm (-1))
def M2.tr (m : M2) : G2 := m.a.add m.d
def gap (s t : Sp) : G2 := (s.1.sm t.2).add ((t.1.sm s.2).sm (-1))
instance {m n : M2} {p q : Nat} [a : SmT p m] [b : SmT q n] : SmT (p + q + p + q + 3) (m.mul n) := by
  have h1 : SmG _ (m.mul n).a := (inferInstance : SmG _ ((m.a.mul n.a).add (m.b.mul n.c)))
  have h2 : SmG _ (m.mul n).b := (inferInstance : SmG _ ((m.a.mul n.b).add (m.b.mul n.d)))
  have h3 : SmG _ (m.mul n).c := (inferInstance : SmG _ ((m.c.mul n.a).add (m.d.mul n.c)))
  have h4 : SmG _ (m.mul n).d := (inferInstance : SmG _ ((m.c.mul n.b).add (m.d.mul n.d)))
  exact ⟨h1.up (by omega), h2.up (by omega), h3.up (by omega), h4.up (by omega)⟩
instance sm_m1 : Sm 1 (-1) := ⟨by decide⟩
theorem p_table {m n : M2} {p q : Nat} [SmT p m] [SmT q n] (h : p + q ≤ 400) : r_table_times [.d (MD m), .d (MD n)] = .ret (MD (m.mul n), false) := by
  simp (maxSteps := 10000000) (implicitDefEqProofs := false) (disch := omega) [r_table_times, i_table_times, g_table_times, MD, p_two_times, p_two_add, M2.mul, isn_n, isn_F, isn_i, G0, G1, b_ret, o_some, map_some, obind_some, k_add, k_sub, k_mul, k_ixl, k_ixt, ix_0, ix_1, ix_2, ix_3, ix_4, ix_5, ix_6, ix_7, ix_8, ix_9, ix_10, ix_11, ix_12, st_0, st_1, st_2, st_3, st_4, st_5, st_6, st_7, st_8, st_9, st_10, st_11, st_12, rd_0, rd_b, rd_l, rd_s, own_0, own_p, own_s, own_n, e_c, e_g, e_v, e_bin, neg_i, e_neg, e_cmp, e_chain, e_nt, e_and, e_or, e_tr, e_ite, e_tup, e_lst, e_ix, e_sl, e_rev, e_call, e_bi, e_isi, e_draw, e_comp, turn_cons, turn_nil, es_nil, es_cons, eS_nil, eS_cons, eC_nil, eC_cons, eA_nil, eA_cons, arg_st, bl_ret, x_nil, then_nx, then_rt, then_ct, then_bk, x_cns, x_bx, x_asgn, x_par, eR_nil, eR_cons, par_nil, par_cons, x_ixs, x_ap, x_ifs, x_rt, x_fr, loop_nx, loop_ct, loop_bk, loop_rt, for_nil, for_cons, bindA, List.replicate, List.cons_append, List.nil_append, a_nm, a_tt, a_tl, as_n, as_c, List.set_cons_zero, List.set_cons_succ, List.length_cons, List.length_nil, setS, boxS, cond_true, cond_false, Bool.and_true, Bool.and_false, Bool.true_and, Bool.false_and, if_true, lk_nil, lk_v, lk_c, lk_g, lk_bin, lk_neg, lk_cmp, lk_chain, lk_nt, lk_and2, lk_or2, lk_tr, lk_ite, lk_tup, lk_lst, lk_ix, lk_sl, lk_rev, lk_call, lk_bi, lk_isi, lk_comp, lk_comp2, lk_draw, ul_nil, ul_v, ul_c, ul_g, ul_bin, ul_neg, ul_cmp, ul_chain, ul_nt, ul_and2, ul_or2, ul_tr, ul_ite, ul_tup, ul_lst, ul_ix, ul_sl, ul_rev, ul_call, ul_bi, ul_isi, ul_comp, ul_comp2, ul_draw, isV, tgS, tgSs, wipeE, rt_v, rt_c, rt_g, rt_bin, rt_neg, rt_cmp, rt_chain, rt_nt, rt_and2, rt_or2, rt_tr, rt_ite, rt_tup, rt_lst, rt_ix, rt_sl, rt_rev, rt_call, rt_bi, rt_isi, rt_comp, rt_comp2, rt_draw, b_lenl, b_lent, b_lens, b_abs, b_sum, b_max, b_min, b_max2, b_min2, b_tupl, b_tupt, b_lstl, b_lstt, b_inti, b_intb, b_all, b_any, b_gcd, is_nil, is_cons, bs_nil, bs_cons, s_seql, s_seqt, s_seqs, s_r1, s_r2, s_zip, s_zipt, s_enum, s_enumt, s_rev, s_revt, s_rr, z_cons, z_nil, z_nil2, n_cons, n_nil, sl_l, sl_t, one_0, one_1, cut_from, cut_to, rv_l, tr_n, tr_b, tr_i, tr_l, tr_t, x_rtN, x_brk, x_cnt, x_pas, x_frz, x_drp, List.getElem?_cons_zero, List.getElem?_cons_succ, arg_c, arg_g, arg_bin, arg_neg, arg_cmp, arg_chain, arg_nt, arg_and2, arg_or2, arg_tr, arg_ite, arg_tup, arg_lst, arg_ix, arg_sl, arg_rev, arg_call, arg_bi, arg_isi, arg_comp, arg_draw, bind_drw, blT_drw, then_drw, loop_drw, all_drw, all_ret, c_lt, c_le, c_gt, c_ge, c_eq, c_ne, c_isN, c_notN, cond_dec, cond_not, cond_and, cond_or, dr10, dr01, ex_ite, wt_nx, wt_rt, wt_ct, wt_bk, wt_drw, q_eq, F_inj, k_addl, k_addt, k_ap, rng2, line, rangeL, List.sum_cons, List.sum_nil, tyD, allTy, run]
theorem p_det {m : M2} {p : Nat} [SmT p m] (h : p ≤ 400) : r_determinant [.d (MD m)] = .ret (GD m.det, false) := by
  simp (maxSteps := 10000000) (implicitDefEqProofs := false) (disch := omega) [r_determinant, i_determinant, g_determinant, MD, p_two_times, p_two_add, p_scaled, M2.det, isn_n, isn_F, isn_i, G0, G1, b_ret, o_some, map_some, obind_some, k_add, k_sub, k_mul, k_ixl, k_ixt, ix_0, ix_1, ix_2, ix_3, ix_4, ix_5, ix_6, ix_7, ix_8, ix_9, ix_10, ix_11, ix_12, st_0, st_1, st_2, st_3, st_4, st_5, st_6, st_7, st_8, st_9, st_10, st_11, st_12, rd_0, rd_b, rd_l, rd_s, own_0, own_p, own_s, own_n, e_c, e_g, e_v, e_bin, neg_i, e_neg, e_cmp, e_chain, e_nt, e_and, e_or, e_tr, e_ite, e_tup, e_lst, e_ix, e_sl, e_rev, e_call, e_bi, e_isi, e_draw, e_comp, turn_cons, turn_nil, es_nil, es_cons, eS_nil, eS_cons, eC_nil, eC_cons, eA_nil, eA_cons, arg_st, bl_ret, x_nil, then_nx, then_rt, then_ct, then_bk, x_cns, x_bx, x_asgn, x_par, eR_nil, eR_cons, par_nil, par_cons, x_ixs, x_ap, x_ifs, x_rt, x_fr, loop_nx, loop_ct, loop_bk, loop_rt, for_nil, for_cons, bindA, List.replicate, List.cons_append, List.nil_append, a_nm, a_tt, a_tl, as_n, as_c, List.set_cons_zero, List.set_cons_succ, List.length_cons, List.length_nil, setS, boxS, cond_true, cond_false, Bool.and_true, Bool.and_false, Bool.true_and, Bool.false_and, if_true, lk_nil, lk_v, lk_c, lk_g, lk_bin, lk_neg, lk_cmp, lk_chain, lk_nt, lk_and2, lk_or2, lk_tr, lk_ite, lk_tup, lk_lst, lk_ix, lk_sl, lk_rev, lk_call, lk_bi, lk_isi, lk_comp, lk_comp2, lk_draw, ul_nil, ul_v, ul_c, ul_g, ul_bin, ul_neg, ul_cmp, ul_chain, ul_nt, ul_and2, ul_or2, ul_tr, ul_ite, ul_tup, ul_lst, ul_ix, ul_sl, ul_rev, ul_call, ul_bi, ul_isi, ul_comp, ul_comp2, ul_draw, isV, tgS, tgSs, wipeE, rt_v, rt_c, rt_g, rt_bin, rt_neg, rt_cmp, rt_chain, rt_nt, rt_and2, rt_or2, rt_tr, rt_ite, rt_tup, rt_lst, rt_ix, rt_sl, rt_rev, rt_call, rt_bi, rt_isi, rt_comp, rt_comp2, rt_draw, b_lenl, b_lent, b_lens, b_abs, b_sum, b_max, b_min, b_max2, b_min2, b_tupl, b_tupt, b_lstl, b_lstt, b_inti, b_intb, b_all, b_any, b_gcd, is_nil, is_cons, bs_nil, bs_cons, s_seql, s_seqt, s_seqs, s_r1, s_r2, s_zip, s_zipt, s_enum, s_enumt, s_rev, s_revt, s_rr, z_cons, z_nil, z_nil2, n_cons, n_nil, sl_l, sl_t, one_0, one_1, cut_from, cut_to, rv_l, tr_n, tr_b, tr_i, tr_l, tr_t, x_rtN, x_brk, x_cnt, x_pas, x_frz, x_drp, List.getElem?_cons_zero, List.getElem?_cons_succ, arg_c, arg_g, arg_bin, arg_neg, arg_cmp, arg_chain, arg_nt, arg_and2, arg_or2, arg_tr, arg_ite, arg_tup, arg_lst, arg_ix, arg_sl, arg_rev, arg_call, arg_bi, arg_isi, arg_comp, arg_draw, bind_drw, blT_drw, then_drw, loop_drw, all_drw, all_ret, c_lt, c_le, c_gt, c_ge, c_eq, c_ne, c_isN, c_notN, cond_dec, cond_not, cond_and, cond_or, dr10, dr01, ex_ite, wt_nx, wt_rt, wt_ct, wt_bk, wt_drw, q_eq, F_inj, k_addl, k_addt, k_ap, rng2, line, rangeL, List.sum_cons, List.sum_nil, tyD, allTy, run]
theorem p_tr {m : M2} {p : Nat} [SmT p m] (h : p ≤ 400) : r_trace [.d (MD m)] = .ret (GD m.tr, false) := by
  simp (maxSteps := 10000000) (implicitDefEqProofs := false) (disch := omega) [r_trace, i_trace, g_trace, M0, M1, p_two_add, M2.tr, isn_n, isn_F, isn_i, G0, G1, b_ret, o_some, map_some, obind_some, k_add, k_sub, k_mul, k_ixl, k_ixt, ix_0, ix_1, ix_2, ix_3, ix_4, ix_5, ix_6, ix_7, ix_8, ix_9, ix_10, ix_11, ix_12, st_0, st_1, st_2, st_3, st_4, st_5, st_6, st_7, st_8, st_9, st_10, st_11, st_12, rd_0, rd_b, rd_l, rd_s, own_0, own_p, own_s, own_n, e_c, e_g, e_v, e_bin, neg_i, e_neg, e_cmp, e_chain, e_nt, e_and, e_or, e_tr, e_ite, e_tup, e_lst, e_ix, e_sl, e_rev, e_call, e_bi, e_isi, e_draw, e_comp, turn_cons, turn_nil, es_nil, es_cons, eS_nil, eS_cons, eC_nil, eC_cons, eA_nil, eA_cons, arg_st, bl_ret, x_nil, then_nx, then_rt, then_ct, then_bk, x_cns, x_bx, x_asgn, x_par, eR_nil, eR_cons, par_nil, par_cons, x_ixs, x_ap, x_ifs, x_rt, x_fr, loop_nx, loop_ct, loop_bk, loop_rt, for_nil, for_cons, bindA, List.replicate, List.cons_append, List.nil_append, a_nm, a_tt, a_tl, as_n, as_c, List.set_cons_zero, List.set_cons_succ, List.length_cons, List.length_nil, setS, boxS, cond_true, cond_false, Bool.and_true, Bool.and_false, Bool.true_and, Bool.false_and, if_true, lk_nil, lk_v, lk_c, lk_g, lk_bin, lk_neg, lk_cmp, lk_chain, lk_nt, lk_and2, lk_or2, lk_tr, lk_ite, lk_tup, lk_lst, lk_ix, lk_sl, lk_rev, lk_call, lk_bi, lk_isi, lk_comp, lk_comp2, lk_draw, ul_nil, ul_v, ul_c, ul_g, ul_bin, ul_neg, ul_cmp, ul_chain, ul_nt, ul_and2, ul_or2, ul_tr, ul_ite, ul_tup, ul_lst, ul_ix, ul_sl, ul_rev, ul_call, ul_bi, ul_isi, ul_comp, ul_comp2, ul_draw, isV, tgS, tgSs, wipeE, rt_v, rt_c, rt_g, rt_bin, rt_neg, rt_cmp, rt_chain, rt_nt, rt_and2, rt_or2, rt_tr, rt_ite, rt_tup, rt_lst, rt_ix, rt_sl, rt_rev, rt_call, rt_bi, rt_isi, rt_comp, rt_comp2, rt_draw, b_lenl, b_lent, b_lens, b_abs, b_sum, b_max, b_min, b_max2, b_min2, b_tupl, b_tupt, b_lstl, b_lstt, b_inti, b_intb, b_all, b_any, b_gcd, is_nil, is_cons, bs_nil, bs_cons, s_seql, s_seqt, s_seqs, s_r1, s_r2, s_zip, s_zipt, s_enum, s_enumt, s_rev, s_revt, s_rr, z_cons, z_nil, z_nil2, n_cons, n_nil, sl_l, sl_t, one_0, one_1, cut_from, cut_to, rv_l, tr_n, tr_b, tr_i, tr_l, tr_t, x_rtN, x_brk, x_cnt, x_pas, x_frz, x_drp, List.getElem?_cons_zero, List.getElem?_cons_succ, arg_c, arg_g, arg_bin, arg_neg, arg_cmp, arg_chain, arg_nt, arg_and2, arg_or2, arg_tr, arg_ite, arg_tup, arg_lst, arg_ix, arg_sl, arg_rev, arg_call, arg_bi, arg_isi, arg_comp, arg_draw, bind_drw, blT_drw, then_drw, loop_drw, all_drw, all_ret, c_lt, c_le, c_gt, c_ge, c_eq, c_ne, c_isN, c_notN, cond_dec, cond_not, cond_and, cond_or, dr10, dr01, ex_ite, wt_nx, wt_rt, wt_ct, wt_bk, wt_drw, q_eq, F_inj, k_addl, k_addt, k_ap, rng2, line, rangeL, List.sum_cons, List.sum_nil, tyD, allTy, run]
theorem p_back {m : M2} {p : Nat} [SmT p m] (h : p ≤ 400) : r_back_table [.d (MD m)] = .ret (MD m.back, false) := by
  simp (maxSteps := 10000000) (implicitDefEqProofs := false) (disch := omega) [r_back_table, i_back_table, g_back_table, MD, p_scaled, M2.back, isn_n, isn_F, isn_i, G0, G1, b_ret, o_some, map_some, obind_some, k_add, k_sub, k_mul, k_ixl, k_ixt, ix_0, ix_1, ix_2, ix_3, ix_4, ix_5, ix_6, ix_7, ix_8, ix_9, ix_10, ix_11, ix_12, st_0, st_1, st_2, st_3, st_4, st_5, st_6, st_7, st_8, st_9, st_10, st_11, st_12, rd_0, rd_b, rd_l, rd_s, own_0, own_p, own_s, own_n, e_c, e_g, e_v, e_bin, neg_i, e_neg, e_cmp, e_chain, e_nt, e_and, e_or, e_tr, e_ite, e_tup, e_lst, e_ix, e_sl, e_rev, e_call, e_bi, e_isi, e_draw, e_comp, turn_cons, turn_nil, es_nil, es_cons, eS_nil, eS_cons, eC_nil, eC_cons, eA_nil, eA_cons, arg_st, bl_ret, x_nil, then_nx, then_rt, then_ct, then_bk, x_cns, x_bx, x_asgn, x_par, eR_nil, eR_cons, par_nil, par_cons, x_ixs, x_ap, x_ifs, x_rt, x_fr, loop_nx, loop_ct, loop_bk, loop_rt, for_nil, for_cons, bindA, List.replicate, List.cons_append, List.nil_append, a_nm, a_tt, a_tl, as_n, as_c, List.set_cons_zero, List.set_cons_succ, List.length_cons, List.length_nil, setS, boxS, cond_true, cond_false, Bool.and_true, Bool.and_false, Bool.true_and, Bool.false_and, if_true, lk_nil, lk_v, lk_c, lk_g, lk_bin, lk_neg, lk_cmp, lk_chain, lk_nt, lk_and2, lk_or2, lk_tr, lk_ite, lk_tup, lk_lst, lk_ix, lk_sl, lk_rev, lk_call, lk_bi, lk_isi, lk_comp, lk_comp2, lk_draw, ul_nil, ul_v, ul_c, ul_g, ul_bin, ul_neg, ul_cmp, ul_chain, ul_nt, ul_and2, ul_or2, ul_tr, ul_ite, ul_tup, ul_lst, ul_ix, ul_sl, ul_rev, ul_call, ul_bi, ul_isi, ul_comp, ul_comp2, ul_draw, isV, tgS, tgSs, wipeE, rt_v, rt_c, rt_g, rt_bin, rt_neg, rt_cmp, rt_chain, rt_nt, rt_and2, rt_or2, rt_tr, rt_ite, rt_tup, rt_lst, rt_ix, rt_sl, rt_rev, rt_call, rt_bi, rt_isi, rt_comp, rt_comp2, rt_draw, b_lenl, b_lent, b_lens, b_abs, b_sum, b_max, b_min, b_max2, b_min2, b_tupl, b_tupt, b_lstl, b_lstt, b_inti, b_intb, b_all, b_any, b_gcd, is_nil, is_cons, bs_nil, bs_cons, s_seql, s_seqt, s_seqs, s_r1, s_r2, s_zip, s_zipt, s_enum, s_enumt, s_rev, s_revt, s_rr, z_cons, z_nil, z_nil2, n_cons, n_nil, sl_l, sl_t, one_0, one_1, cut_from, cut_to, rv_l, tr_n, tr_b, tr_i, tr_l, tr_t, x_rtN, x_brk, x_cnt, x_pas, x_frz, x_drp, List.getElem?_cons_zero, List.getElem?_cons_succ, arg_c, arg_g, arg_bin, arg_neg, arg_cmp, arg_chain, arg_nt, arg_and2, arg_or2, arg_tr, arg_ite, arg_tup, arg_lst, arg_ix, arg_sl, arg_rev, arg_call, arg_bi, arg_isi, arg_comp, arg_draw, bind_drw, blT_drw, then_drw, loop_drw, all_drw, all_ret, c_lt, c_le, c_gt, c_ge, c_eq, c_ne, c_isN, c_notN, cond_dec, cond_not, cond_and, cond_or, dr10, dr01, ex_ite, wt_nx, wt_rt, wt_ct, wt_bk, wt_drw, q_eq, F_inj, k_addl, k_addt, k_ap, rng2, line, rangeL, List.sum_cons, List.sum_nil, tyD, allTy, run]
theorem GD_gap {s t : Sp} : (D.tup [.int (s.1.x * t.2 - t.1.x * s.2), .int (s.1.y * t.2 - t.1.y * s.2)]) = GD (gap s t) := by
  unfold GD gap G2.add G2.sm
  congr 3
  · congr 1; grind
  · congr 2; grind
theorem p_gap {s t : Sp} {p q : Nat} [SmS p s] [SmS q t] (h : p + q ≤ 400) : r_gap [.d (SD s), .d (SD t)] = .ret (GD (gap s t), false) := by
  simp (maxSteps := 10000000) (implicitDefEqProofs := false) (disch := omega) [r_gap, i_gap, SD, GD_gap, isn_n, isn_F, isn_i, G0, G1, b_ret, o_some, map_some, obind_some, k_add, k_sub, k_mul, k_ixl, k_ixt, ix_0, ix_1, ix_2, ix_3, ix_4, ix_5, ix_6, ix_7, ix_8, ix_9, ix_10, ix_11, ix_12, st_0, st_1, st_2, st_3, st_4, st_5, st_6, st_7, st_8, st_9, st_10, st_11, st_12, rd_0, rd_b, rd_l, rd_s, own_0, own_p, own_s, own_n, e_c, e_g, e_v, e_bin, neg_i, e_neg, e_cmp, e_chain, e_nt, e_and, e_or, e_tr, e_ite, e_tup, e_lst, e_ix, e_sl, e_rev, e_call, e_bi, e_isi, e_draw, e_comp, turn_cons, turn_nil, es_nil, es_cons, eS_nil, eS_cons, eC_nil, eC_cons, eA_nil, eA_cons, arg_st, bl_ret, x_nil, then_nx, then_rt, then_ct, then_bk, x_cns, x_bx, x_asgn, x_par, eR_nil, eR_cons, par_nil, par_cons, x_ixs, x_ap, x_ifs, x_rt, x_fr, loop_nx, loop_ct, loop_bk, loop_rt, for_nil, for_cons, bindA, List.replicate, List.cons_append, List.nil_append, a_nm, a_tt, a_tl, as_n, as_c, List.set_cons_zero, List.set_cons_succ, List.length_cons, List.length_nil, setS, boxS, cond_true, cond_false, Bool.and_true, Bool.and_false, Bool.true_and, Bool.false_and, if_true, lk_nil, lk_v, lk_c, lk_g, lk_bin, lk_neg, lk_cmp, lk_chain, lk_nt, lk_and2, lk_or2, lk_tr, lk_ite, lk_tup, lk_lst, lk_ix, lk_sl, lk_rev, lk_call, lk_bi, lk_isi, lk_comp, lk_comp2, lk_draw, ul_nil, ul_v, ul_c, ul_g, ul_bin, ul_neg, ul_cmp, ul_chain, ul_nt, ul_and2, ul_or2, ul_tr, ul_ite, ul_tup, ul_lst, ul_ix, ul_sl, ul_rev, ul_call, ul_bi, ul_isi, ul_comp, ul_comp2, ul_draw, isV, tgS, tgSs, wipeE, rt_v, rt_c, rt_g, rt_bin, rt_neg, rt_cmp, rt_chain, rt_nt, rt_and2, rt_or2, rt_tr, rt_ite, rt_tup, rt_lst, rt_ix, rt_sl, rt_rev, rt_call, rt_bi, rt_isi, rt_comp, rt_comp2, rt_draw, b_lenl, b_lent, b_lens, b_abs, b_sum, b_max, b_min, b_max2, b_min2, b_tupl, b_tupt, b_lstl, b_lstt, b_inti, b_intb, b_all, b_any, b_gcd, is_nil, is_cons, bs_nil, bs_cons, s_seql, s_seqt, s_seqs, s_r1, s_r2, s_zip, s_zipt, s_enum, s_enumt, s_rev, s_revt, s_rr, z_cons, z_nil, z_nil2, n_cons, n_nil, sl_l, sl_t, one_0, one_1, cut_from, cut_to, rv_l, tr_n, tr_b, tr_i, tr_l, tr_t, x_rtN, x_brk, x_cnt, x_pas, x_frz, x_drp, List.getElem?_cons_zero, List.getElem?_cons_succ, arg_c, arg_g, arg_bin, arg_neg, arg_cmp, arg_chain, arg_nt, arg_and2, arg_or2, arg_tr, arg_ite, arg_tup, arg_lst, arg_ix, arg_sl, arg_rev, arg_call, arg_bi, arg_isi, arg_comp, arg_draw, bind_drw, blT_drw, then_drw, loop_drw, all_drw, all_ret, c_lt, c_le, c_gt, c_ge, c_eq, c_ne, c_isN, c_notN, cond_dec, cond_not, cond_and, cond_or, dr10, dr01, ex_ite, wt_nx, wt_rt, wt_ct, wt_bk, wt_drw, q_eq, F_inj, k_addl, k_addt, k_ap, rng2, line, rangeL, List.sum_cons, List.sum_nil, tyD, allTy, run]
theorem GD_sm {g : G2} {k : Int} : (D.tup [.int (g.x * k), .int (g.y * k)]) = GD (g.sm k) := by
  unfold GD G2.sm; rw [Int.mul_comm g.x, Int.mul_comm g.y]
theorem p_apart {s t : Sp} {p q : Nat} [SmS p s] [SmS q t] (h : p + q ≤ 400) : r__law_apart [.d (SD s), .d (SD t)] = .ret (GD (gap s t), false) := by
  simp (maxSteps := 10000000) (implicitDefEqProofs := false) (disch := omega) [r__law_apart, i__law_apart, g__law_apart, S0, S1, GD_sm, p_plus, gap, isn_n, isn_F, isn_i, G0, G1, b_ret, o_some, map_some, obind_some, k_add, k_sub, k_mul, k_ixl, k_ixt, ix_0, ix_1, ix_2, ix_3, ix_4, ix_5, ix_6, ix_7, ix_8, ix_9, ix_10, ix_11, ix_12, st_0, st_1, st_2, st_3, st_4, st_5, st_6, st_7, st_8, st_9, st_10, st_11, st_12, rd_0, rd_b, rd_l, rd_s, own_0, own_p, own_s, own_n, e_c, e_g, e_v, e_bin, neg_i, e_neg, e_cmp, e_chain, e_nt, e_and, e_or, e_tr, e_ite, e_tup, e_lst, e_ix, e_sl, e_rev, e_call, e_bi, e_isi, e_draw, e_comp, turn_cons, turn_nil, es_nil, es_cons, eS_nil, eS_cons, eC_nil, eC_cons, eA_nil, eA_cons, arg_st, bl_ret, x_nil, then_nx, then_rt, then_ct, then_bk, x_cns, x_bx, x_asgn, x_par, eR_nil, eR_cons, par_nil, par_cons, x_ixs, x_ap, x_ifs, x_rt, x_fr, loop_nx, loop_ct, loop_bk, loop_rt, for_nil, for_cons, bindA, List.replicate, List.cons_append, List.nil_append, a_nm, a_tt, a_tl, as_n, as_c, List.set_cons_zero, List.set_cons_succ, List.length_cons, List.length_nil, setS, boxS, cond_true, cond_false, Bool.and_true, Bool.and_false, Bool.true_and, Bool.false_and, if_true, lk_nil, lk_v, lk_c, lk_g, lk_bin, lk_neg, lk_cmp, lk_chain, lk_nt, lk_and2, lk_or2, lk_tr, lk_ite, lk_tup, lk_lst, lk_ix, lk_sl, lk_rev, lk_call, lk_bi, lk_isi, lk_comp, lk_comp2, lk_draw, ul_nil, ul_v, ul_c, ul_g, ul_bin, ul_neg, ul_cmp, ul_chain, ul_nt, ul_and2, ul_or2, ul_tr, ul_ite, ul_tup, ul_lst, ul_ix, ul_sl, ul_rev, ul_call, ul_bi, ul_isi, ul_comp, ul_comp2, ul_draw, isV, tgS, tgSs, wipeE, rt_v, rt_c, rt_g, rt_bin, rt_neg, rt_cmp, rt_chain, rt_nt, rt_and2, rt_or2, rt_tr, rt_ite, rt_tup, rt_lst, rt_ix, rt_sl, rt_rev, rt_call, rt_bi, rt_isi, rt_comp, rt_comp2, rt_draw, b_lenl, b_lent, b_lens, b_abs, b_sum, b_max, b_min, b_max2, b_min2, b_tupl, b_tupt, b_lstl, b_lstt, b_inti, b_intb, b_all, b_any, b_gcd, is_nil, is_cons, bs_nil, bs_cons, s_seql, s_seqt, s_seqs, s_r1, s_r2, s_zip, s_zipt, s_enum, s_enumt, s_rev, s_revt, s_rr, z_cons, z_nil, z_nil2, n_cons, n_nil, sl_l, sl_t, one_0, one_1, cut_from, cut_to, rv_l, tr_n, tr_b, tr_i, tr_l, tr_t, x_rtN, x_brk, x_cnt, x_pas, x_frz, x_drp, List.getElem?_cons_zero, List.getElem?_cons_succ, arg_c, arg_g, arg_bin, arg_neg, arg_cmp, arg_chain, arg_nt, arg_and2, arg_or2, arg_tr, arg_ite, arg_tup, arg_lst, arg_ix, arg_sl, arg_rev, arg_call, arg_bi, arg_isi, arg_comp, arg_draw, bind_drw, blT_drw, then_drw, loop_drw, all_drw, all_ret, c_lt, c_le, c_gt, c_ge, c_eq, c_ne, c_isN, c_notN, cond_dec, cond_not, cond_and, cond_or, dr10, dr01, ex_ite, wt_nx, wt_rt, wt_ct, wt_bk, wt_drw, q_eq, F_inj, k_addl, k_addt, k_ap, rng2, line, rangeL, List.sum_cons, List.sum_nil, tyD, allTy, run]
end K91

set_option Elab.async false
set_option linter.all false
set_option maxRecDepth 100000
set_option maxHeartbeats 8000000
namespace K91
open FF
theorem p__law_table {m n : M2} {p q : Nat} [SmT p m] [SmT q n] (h : p + q ≤ 400) : r__law_table_times [.d (MD m), .d (MD n)] = .ret (MD (m.mul n), false) := by
  simp (maxSteps := 10000000) (implicitDefEqProofs := false) (disch := omega) [r__law_table_times, i__law_table_times, g__law_table_times, MD, p_times, M2.mul, intsOf, GD_m, G2.add, isn_n, isn_F, isn_i, G0, G1, S0, S1, M0, M1, b_ret, o_some, map_some, obind_some, k_add, k_sub, k_mul, k_ixl, k_ixt, ix_0, ix_1, ix_2, ix_3, ix_4, ix_5, ix_6, ix_7, ix_8, ix_9, ix_10, ix_11, ix_12, st_0, st_1, st_2, st_3, st_4, st_5, st_6, st_7, st_8, st_9, st_10, st_11, st_12, rd_0, rd_b, rd_l, rd_s, own_0, own_p, own_s, own_n, e_c, e_g, e_v, e_bin, neg_i, e_neg, e_cmp, e_chain, e_nt, e_and, e_or, e_tr, e_ite, e_tup, e_lst, e_ix, e_sl, e_rev, e_call, e_bi, e_isi, e_draw, e_comp, turn_cons, turn_nil, es_nil, es_cons, eS_nil, eS_cons, eC_nil, eC_cons, eA_nil, eA_cons, arg_st, bl_ret, x_nil, then_nx, then_rt, then_ct, then_bk, x_cns, x_bx, x_asgn, x_par, eR_nil, eR_cons, par_nil, par_cons, x_ixs, x_ap, x_ifs, x_rt, x_fr, loop_nx, loop_ct, loop_bk, loop_rt, for_nil, for_cons, bindA, List.replicate, List.cons_append, List.nil_append, a_nm, a_tt, a_tl, as_n, as_c, List.set_cons_zero, List.set_cons_succ, List.length_cons, List.length_nil, setS, boxS, cond_true, cond_false, Bool.and_true, Bool.and_false, Bool.true_and, Bool.false_and, if_true, lk_nil, lk_v, lk_c, lk_g, lk_bin, lk_neg, lk_cmp, lk_chain, lk_nt, lk_and2, lk_or2, lk_tr, lk_ite, lk_tup, lk_lst, lk_ix, lk_sl, lk_rev, lk_call, lk_bi, lk_isi, lk_comp, lk_comp2, lk_draw, ul_nil, ul_v, ul_c, ul_g, ul_bin, ul_neg, ul_cmp, ul_chain, ul_nt, ul_and2, ul_or2, ul_tr, ul_ite, ul_tup, ul_lst, ul_ix, ul_sl, ul_rev, ul_call, ul_bi, ul_isi, ul_comp, ul_comp2, ul_draw, isV, tgS, tgSs, wipeE, rt_v, rt_c, rt_g, rt_bin, rt_neg, rt_cmp, rt_chain, rt_nt, rt_and2, rt_or2, rt_tr, rt_ite, rt_tup, rt_lst, rt_ix, rt_sl, rt_rev, rt_call, rt_bi, rt_isi, rt_comp, rt_comp2, rt_draw, b_lenl, b_lent, b_lens, b_abs, b_sum, b_max, b_min, b_max2, b_min2, b_tupl, b_tupt, b_lstl, b_lstt, b_inti, b_intb, b_all, b_any, b_gcd, is_nil, is_cons, bs_nil, bs_cons, s_seql, s_seqt, s_seqs, s_r1, s_r2, s_zip, s_zipt, s_enum, s_enumt, s_rev, s_revt, s_rr, z_cons, z_nil, z_nil2, n_cons, n_nil, sl_l, sl_t, one_0, one_1, cut_from, cut_to, rv_l, tr_n, tr_b, tr_i, tr_l, tr_t, x_rtN, x_brk, x_cnt, x_pas, x_frz, x_drp, List.getElem?_cons_zero, List.getElem?_cons_succ, arg_c, arg_g, arg_bin, arg_neg, arg_cmp, arg_chain, arg_nt, arg_and2, arg_or2, arg_tr, arg_ite, arg_tup, arg_lst, arg_ix, arg_sl, arg_rev, arg_call, arg_bi, arg_isi, arg_comp, arg_draw, bind_drw, blT_drw, then_drw, loop_drw, all_drw, all_ret, c_lt, c_le, c_gt, c_ge, c_eq, c_ne, c_isN, c_notN, cond_dec, cond_not, cond_and, cond_or, dr10, dr01, ex_ite, wt_nx, wt_rt, wt_ct, wt_bk, wt_drw, q_eq, F_inj, k_addl, k_addt, k_ap, rng2, line, rangeL, List.sum_cons, List.sum_nil, tyD, allTy, run]
def cr (p q r s : Sp) : Sp := sp ((gap p r).mul (gap q s)) ((gap p s).mul (gap q r))
instance {s t : Sp} {p q : Nat} [a : SmS p s] [b : SmS q t] : SmG (p + q + p + q + 2) (gap s t) := by
  have h1 : SmG _ (gap s t) := (inferInstance : SmG _ ((s.1.sm t.2).add ((t.1.sm s.2).sm (-1))))
  exact h1.up (by omega)
theorem p_four {s1 s2 s3 s4 : Sp} {p : Nat} [SmS p s1] [SmS p s2] [SmS p s3] [SmS p s4] (h : p ≤ 152) : r_four_quotient [.d (SD s1), .d (SD s2), .d (SD s3), .d (SD s4)] = .ret (SD (cr s1 s2 s3 s4), false) := by
  simp (maxSteps := 10000000) (implicitDefEqProofs := false) (disch := omega) [r_four_quotient, i_four_quotient, g_four_quotient, p_gap, p_two_times, p_two_plain, cr, isn_n, isn_F, isn_i, G0, G1, S0, S1, M0, M1, b_ret, o_some, map_some, obind_some, k_add, k_sub, k_mul, k_ixl, k_ixt, ix_0, ix_1, ix_2, ix_3, ix_4, ix_5, ix_6, ix_7, ix_8, ix_9, ix_10, ix_11, ix_12, st_0, st_1, st_2, st_3, st_4, st_5, st_6, st_7, st_8, st_9, st_10, st_11, st_12, rd_0, rd_b, rd_l, rd_s, own_0, own_p, own_s, own_n, e_c, e_g, e_v, e_bin, neg_i, e_neg, e_cmp, e_chain, e_nt, e_and, e_or, e_tr, e_ite, e_tup, e_lst, e_ix, e_sl, e_rev, e_call, e_bi, e_isi, e_draw, e_comp, turn_cons, turn_nil, es_nil, es_cons, eS_nil, eS_cons, eC_nil, eC_cons, eA_nil, eA_cons, arg_st, bl_ret, x_nil, then_nx, then_rt, then_ct, then_bk, x_cns, x_bx, x_asgn, x_par, eR_nil, eR_cons, par_nil, par_cons, x_ixs, x_ap, x_ifs, x_rt, x_fr, loop_nx, loop_ct, loop_bk, loop_rt, for_nil, for_cons, bindA, List.replicate, List.cons_append, List.nil_append, a_nm, a_tt, a_tl, as_n, as_c, List.set_cons_zero, List.set_cons_succ, List.length_cons, List.length_nil, setS, boxS, cond_true, cond_false, Bool.and_true, Bool.and_false, Bool.true_and, Bool.false_and, if_true, lk_nil, lk_v, lk_c, lk_g, lk_bin, lk_neg, lk_cmp, lk_chain, lk_nt, lk_and2, lk_or2, lk_tr, lk_ite, lk_tup, lk_lst, lk_ix, lk_sl, lk_rev, lk_call, lk_bi, lk_isi, lk_comp, lk_comp2, lk_draw, ul_nil, ul_v, ul_c, ul_g, ul_bin, ul_neg, ul_cmp, ul_chain, ul_nt, ul_and2, ul_or2, ul_tr, ul_ite, ul_tup, ul_lst, ul_ix, ul_sl, ul_rev, ul_call, ul_bi, ul_isi, ul_comp, ul_comp2, ul_draw, isV, tgS, tgSs, wipeE, rt_v, rt_c, rt_g, rt_bin, rt_neg, rt_cmp, rt_chain, rt_nt, rt_and2, rt_or2, rt_tr, rt_ite, rt_tup, rt_lst, rt_ix, rt_sl, rt_rev, rt_call, rt_bi, rt_isi, rt_comp, rt_comp2, rt_draw, b_lenl, b_lent, b_lens, b_abs, b_sum, b_max, b_min, b_max2, b_min2, b_tupl, b_tupt, b_lstl, b_lstt, b_inti, b_intb, b_all, b_any, b_gcd, is_nil, is_cons, bs_nil, bs_cons, s_seql, s_seqt, s_seqs, s_r1, s_r2, s_zip, s_zipt, s_enum, s_enumt, s_rev, s_revt, s_rr, z_cons, z_nil, z_nil2, n_cons, n_nil, sl_l, sl_t, one_0, one_1, cut_from, cut_to, rv_l, tr_n, tr_b, tr_i, tr_l, tr_t, x_rtN, x_brk, x_cnt, x_pas, x_frz, x_drp, List.getElem?_cons_zero, List.getElem?_cons_succ, arg_c, arg_g, arg_bin, arg_neg, arg_cmp, arg_chain, arg_nt, arg_and2, arg_or2, arg_tr, arg_ite, arg_tup, arg_lst, arg_ix, arg_sl, arg_rev, arg_call, arg_bi, arg_isi, arg_comp, arg_draw, bind_drw, blT_drw, then_drw, loop_drw, all_drw, all_ret, c_lt, c_le, c_gt, c_ge, c_eq, c_ne, c_isN, c_notN, cond_dec, cond_not, cond_and, cond_or, dr10, dr01, ex_ite, wt_nx, wt_rt, wt_ct, wt_bk, wt_drw, q_eq, F_inj, k_addl, k_addt, k_ap, rng2, line, rangeL, List.sum_cons, List.sum_nil, tyD, allTy, run]
theorem p_round {s1 s2 s3 s4 : Sp} {p : Nat} [SmS p s1] [SmS p s2] [SmS p s3] [SmS p s4] (h : p ≤ 152) : r_are_on_round [.d (SD s1), .d (SD s2), .d (SD s3), .d (SD s4)] = .ret (.bl (decide ((cr s1 s2 s3 s4).1.y = 0)), false) := by
  simp (maxSteps := 10000000) (implicitDefEqProofs := false) (disch := omega) [r_are_on_round, i_are_on_round, g_are_on_round, p_four, isn_n, isn_F, isn_i, G0, G1, S0, S1, M0, M1, b_ret, o_some, map_some, obind_some, k_add, k_sub, k_mul, k_ixl, k_ixt, ix_0, ix_1, ix_2, ix_3, ix_4, ix_5, ix_6, ix_7, ix_8, ix_9, ix_10, ix_11, ix_12, st_0, st_1, st_2, st_3, st_4, st_5, st_6, st_7, st_8, st_9, st_10, st_11, st_12, rd_0, rd_b, rd_l, rd_s, own_0, own_p, own_s, own_n, e_c, e_g, e_v, e_bin, neg_i, e_neg, e_cmp, e_chain, e_nt, e_and, e_or, e_tr, e_ite, e_tup, e_lst, e_ix, e_sl, e_rev, e_call, e_bi, e_isi, e_draw, e_comp, turn_cons, turn_nil, es_nil, es_cons, eS_nil, eS_cons, eC_nil, eC_cons, eA_nil, eA_cons, arg_st, bl_ret, x_nil, then_nx, then_rt, then_ct, then_bk, x_cns, x_bx, x_asgn, x_par, eR_nil, eR_cons, par_nil, par_cons, x_ixs, x_ap, x_ifs, x_rt, x_fr, loop_nx, loop_ct, loop_bk, loop_rt, for_nil, for_cons, bindA, List.replicate, List.cons_append, List.nil_append, a_nm, a_tt, a_tl, as_n, as_c, List.set_cons_zero, List.set_cons_succ, List.length_cons, List.length_nil, setS, boxS, cond_true, cond_false, Bool.and_true, Bool.and_false, Bool.true_and, Bool.false_and, if_true, lk_nil, lk_v, lk_c, lk_g, lk_bin, lk_neg, lk_cmp, lk_chain, lk_nt, lk_and2, lk_or2, lk_tr, lk_ite, lk_tup, lk_lst, lk_ix, lk_sl, lk_rev, lk_call, lk_bi, lk_isi, lk_comp, lk_comp2, lk_draw, ul_nil, ul_v, ul_c, ul_g, ul_bin, ul_neg, ul_cmp, ul_chain, ul_nt, ul_and2, ul_or2, ul_tr, ul_ite, ul_tup, ul_lst, ul_ix, ul_sl, ul_rev, ul_call, ul_bi, ul_isi, ul_comp, ul_comp2, ul_draw, isV, tgS, tgSs, wipeE, rt_v, rt_c, rt_g, rt_bin, rt_neg, rt_cmp, rt_chain, rt_nt, rt_and2, rt_or2, rt_tr, rt_ite, rt_tup, rt_lst, rt_ix, rt_sl, rt_rev, rt_call, rt_bi, rt_isi, rt_comp, rt_comp2, rt_draw, b_lenl, b_lent, b_lens, b_abs, b_sum, b_max, b_min, b_max2, b_min2, b_tupl, b_tupt, b_lstl, b_lstt, b_inti, b_intb, b_all, b_any, b_gcd, is_nil, is_cons, bs_nil, bs_cons, s_seql, s_seqt, s_seqs, s_r1, s_r2, s_zip, s_zipt, s_enum, s_enumt, s_rev, s_revt, s_rr, z_cons, z_nil, z_nil2, n_cons, n_nil, sl_l, sl_t, one_0, one_1, cut_from, cut_to, rv_l, tr_n, tr_b, tr_i, tr_l, tr_t, x_rtN, x_brk, x_cnt, x_pas, x_frz, x_drp, List.getElem?_cons_zero, List.getElem?_cons_succ, arg_c, arg_g, arg_bin, arg_neg, arg_cmp, arg_chain, arg_nt, arg_and2, arg_or2, arg_tr, arg_ite, arg_tup, arg_lst, arg_ix, arg_sl, arg_rev, arg_call, arg_bi, arg_isi, arg_comp, arg_draw, bind_drw, blT_drw, then_drw, loop_drw, all_drw, all_ret, c_lt, c_le, c_gt, c_ge, c_eq, c_ne, c_isN, c_notN, cond_dec, cond_not, cond_and, cond_or, dr10, dr01, ex_ite, wt_nx, wt_rt, wt_ct, wt_bk, wt_drw, q_eq, F_inj, k_addl, k_addt, k_ap, rng2, line, rangeL, List.sum_cons, List.sum_nil, tyD, allTy, run]
def mapBy (p q r : Sp) : M2 := ⟨(gap q r).sm p.2, ((gap q r).mul p.1).sm (-1), (gap q p).sm r.2, ((gap q p).mul r.1).sm (-1)⟩
theorem p_map {s1 s2 s3 : Sp} {p : Nat} [SmS p s1] [SmS p s2] [SmS p s3] (h : p ≤ 40) : r_map_by [.d (SD s1), .d (SD s2), .d (SD s3)] = .ret (MD (mapBy s1 s2 s3), false) := by
  simp (maxSteps := 10000000) (implicitDefEqProofs := false) (disch := omega) [r_map_by, i_map_by, g_map_by, p_gap, p_two_times, p_scaled, mapBy, MD, isn_n, isn_F, isn_i, G0, G1, S0, S1, M0, M1, b_ret, o_some, map_some, obind_some, k_add, k_sub, k_mul, k_ixl, k_ixt, ix_0, ix_1, ix_2, ix_3, ix_4, ix_5, ix_6, ix_7, ix_8, ix_9, ix_10, ix_11, ix_12, st_0, st_1, st_2, st_3, st_4, st_5, st_6, st_7, st_8, st_9, st_10, st_11, st_12, rd_0, rd_b, rd_l, rd_s, own_0, own_p, own_s, own_n, e_c, e_g, e_v, e_bin, neg_i, e_neg, e_cmp, e_chain, e_nt, e_and, e_or, e_tr, e_ite, e_tup, e_lst, e_ix, e_sl, e_rev, e_call, e_bi, e_isi, e_draw, e_comp, turn_cons, turn_nil, es_nil, es_cons, eS_nil, eS_cons, eC_nil, eC_cons, eA_nil, eA_cons, arg_st, bl_ret, x_nil, then_nx, then_rt, then_ct, then_bk, x_cns, x_bx, x_asgn, x_par, eR_nil, eR_cons, par_nil, par_cons, x_ixs, x_ap, x_ifs, x_rt, x_fr, loop_nx, loop_ct, loop_bk, loop_rt, for_nil, for_cons, bindA, List.replicate, List.cons_append, List.nil_append, a_nm, a_tt, a_tl, as_n, as_c, List.set_cons_zero, List.set_cons_succ, List.length_cons, List.length_nil, setS, boxS, cond_true, cond_false, Bool.and_true, Bool.and_false, Bool.true_and, Bool.false_and, if_true, lk_nil, lk_v, lk_c, lk_g, lk_bin, lk_neg, lk_cmp, lk_chain, lk_nt, lk_and2, lk_or2, lk_tr, lk_ite, lk_tup, lk_lst, lk_ix, lk_sl, lk_rev, lk_call, lk_bi, lk_isi, lk_comp, lk_comp2, lk_draw, ul_nil, ul_v, ul_c, ul_g, ul_bin, ul_neg, ul_cmp, ul_chain, ul_nt, ul_and2, ul_or2, ul_tr, ul_ite, ul_tup, ul_lst, ul_ix, ul_sl, ul_rev, ul_call, ul_bi, ul_isi, ul_comp, ul_comp2, ul_draw, isV, tgS, tgSs, wipeE, rt_v, rt_c, rt_g, rt_bin, rt_neg, rt_cmp, rt_chain, rt_nt, rt_and2, rt_or2, rt_tr, rt_ite, rt_tup, rt_lst, rt_ix, rt_sl, rt_rev, rt_call, rt_bi, rt_isi, rt_comp, rt_comp2, rt_draw, b_lenl, b_lent, b_lens, b_abs, b_sum, b_max, b_min, b_max2, b_min2, b_tupl, b_tupt, b_lstl, b_lstt, b_inti, b_intb, b_all, b_any, b_gcd, is_nil, is_cons, bs_nil, bs_cons, s_seql, s_seqt, s_seqs, s_r1, s_r2, s_zip, s_zipt, s_enum, s_enumt, s_rev, s_revt, s_rr, z_cons, z_nil, z_nil2, n_cons, n_nil, sl_l, sl_t, one_0, one_1, cut_from, cut_to, rv_l, tr_n, tr_b, tr_i, tr_l, tr_t, x_rtN, x_brk, x_cnt, x_pas, x_frz, x_drp, List.getElem?_cons_zero, List.getElem?_cons_succ, arg_c, arg_g, arg_bin, arg_neg, arg_cmp, arg_chain, arg_nt, arg_and2, arg_or2, arg_tr, arg_ite, arg_tup, arg_lst, arg_ix, arg_sl, arg_rev, arg_call, arg_bi, arg_isi, arg_comp, arg_draw, bind_drw, blT_drw, then_drw, loop_drw, all_drw, all_ret, c_lt, c_le, c_gt, c_ge, c_eq, c_ne, c_isN, c_notN, cond_dec, cond_not, cond_and, cond_or, dr10, dr01, ex_ite, wt_nx, wt_rt, wt_ct, wt_bk, wt_drw, q_eq, F_inj, k_addl, k_addt, k_ap, rng2, line, rangeL, List.sum_cons, List.sum_nil, tyD, allTy, run]
/-- kinds -/
def still (m : M2) : Prop := (m.b.x = 0 ∧ m.b.y = 0) ∧ (m.c.x = 0 ∧ m.c.y = 0) ∧ m.a = m.d
open Classical in
/-- a kind by the quotient's numbers -/
noncomputable def kd (m : M2) : D :=
  if still m then .str [115, 116, 105, 108, 108] else
  let q := (m.tr.mul m.tr).mul m.det.conj
  if q.x = 4 * m.det.nm ∧ q.y = 0 then .str [115, 104, 105, 102, 116] else
  if q.y ≠ 0 ∨ q.x < 0 then .str [115, 112, 105, 114, 97, 108] else
  if q.x < 4 * m.det.nm then .str [114, 111, 117, 110, 100] else .str [115, 116, 114, 101, 116, 99, 104]
theorem GD_inj {a b : G2} : (GD a = GD b) = (a = b) := by
  apply propext
  constructor
  · intro h
    unfold GD at h
    simp at h
    exact G2.ext' h.1 h.2
  · rintro rfl; rfl
instance {m : M2} {p : Nat} [a : SmT p m] : SmG (p + p + p + p + 4) m.det := by
  have h1 : SmG _ m.det := (inferInstance : SmG _ ((m.a.mul m.d).add ((m.b.mul m.c).sm (-1))))
  exact h1.up (by omega)
theorem not_still {m : M2} : still m ↔ (m.b.x = 0 ∧ m.b.y = 0) ∧ (m.c.x = 0 ∧ m.c.y = 0) ∧ m.a = m.d := Iff.rfl
theorem p_kind {m : M2} {p : Nat} [SmT p m] (h : p ≤ 60) : r_kind_of_map [.d (MD m)] = .ret (kd m, false) := by
  have e1 := p_det (m := m) (by omega)
  have e2 := p_tr (m := m) (by omega)
  have e4 : (m.det.mul m.det.conj).x = m.det.nm := by rw [G2.mul_conj]; rfl
  have it : SmG (p + p + 1) m.tr := (inferInstance : SmG _ (m.a.add m.d))
  have id' : SmG (p + p + p + p + 4) m.det := inferInstance
  have in' : Sm (10 * p + 20) m.det.nm := (inferInstance : Sm _ (m.det.x * m.det.x + m.det.y * m.det.y)).up (by omega)
  have ew := p_two_times (a := m.tr.mul m.tr) (b := m.det.conj) (by omega)
  have et := p_two_times (a := m.tr) (b := m.tr) (by omega)
  have ed := p_two_times (a := m.det) (b := m.det.conj) (by omega)
  have iq : SmG (p + p + 1 + (p + p + 1) + 1 + (p + p + p + p + 4) + 1) ((m.tr.mul m.tr).mul m.det.conj) := inferInstance
  unfold kd
  simp only [MD] at e1 e2
  by_cases hb : m.b.x = 0 ∧ m.b.y = 0
  · by_cases hc : m.c.x = 0 ∧ m.c.y = 0
    · by_cases ha : m.a = m.d
      · rw [if_pos ⟨hb, hc, ha⟩]
        simp (maxSteps := 10000000) (implicitDefEqProofs := false) (disch := omega) [r_kind_of_map, i_kind_of_map, g_kind_of_map, MD, gd_eq, GD_inj, hb, hc, ha, isn_n, isn_F, isn_i, G0, G1, S0, S1, M0, M1, b_ret, o_some, map_some, obind_some, k_add, k_sub, k_mul, k_ixl, k_ixt, ix_0, ix_1, ix_2, ix_3, ix_4, ix_5, ix_6, ix_7, ix_8, ix_9, ix_10, ix_11, ix_12, st_0, st_1, st_2, st_3, st_4, st_5, st_6, st_7, st_8, st_9, st_10, st_11, st_12, rd_0, rd_b, rd_l, rd_s, own_0, own_p, own_s, own_n, e_c, e_g, e_v, e_bin, neg_i, e_neg, e_cmp, e_chain, e_nt, e_and, e_or, e_tr, e_ite, e_tup, e_lst, e_ix, e_sl, e_rev, e_call, e_bi, e_isi, e_draw, e_comp, turn_cons, turn_nil, es_nil, es_cons, eS_nil, eS_cons, eC_nil, eC_cons, eA_nil, eA_cons, arg_st, bl_ret, x_nil, then_nx, then_rt, then_ct, then_bk, x_cns, x_bx, x_asgn, x_par, eR_nil, eR_cons, par_nil, par_cons, x_ixs, x_ap, x_ifs, x_rt, x_fr, loop_nx, loop_ct, loop_bk, loop_rt, for_nil, for_cons, bindA, List.replicate, List.cons_append, List.nil_append, a_nm, a_tt, a_tl, as_n, as_c, List.set_cons_zero, List.set_cons_succ, List.length_cons, List.length_nil, setS, boxS, cond_true, cond_false, Bool.and_true, Bool.and_false, Bool.true_and, Bool.false_and, if_true, lk_nil, lk_v, lk_c, lk_g, lk_bin, lk_neg, lk_cmp, lk_chain, lk_nt, lk_and2, lk_or2, lk_tr, lk_ite, lk_tup, lk_lst, lk_ix, lk_sl, lk_rev, lk_call, lk_bi, lk_isi, lk_comp, lk_comp2, lk_draw, ul_nil, ul_v, ul_c, ul_g, ul_bin, ul_neg, ul_cmp, ul_chain, ul_nt, ul_and2, ul_or2, ul_tr, ul_ite, ul_tup, ul_lst, ul_ix, ul_sl, ul_rev, ul_call, ul_bi, ul_isi, ul_comp, ul_comp2, ul_draw, isV, tgS, tgSs, wipeE, rt_v, rt_c, rt_g, rt_bin, rt_neg, rt_cmp, rt_chain, rt_nt, rt_and2, rt_or2, rt_tr, rt_ite, rt_tup, rt_lst, rt_ix, rt_sl, rt_rev, rt_call, rt_bi, rt_isi, rt_comp, rt_comp2, rt_draw, b_lenl, b_lent, b_lens, b_abs, b_sum, b_max, b_min, b_max2, b_min2, b_tupl, b_tupt, b_lstl, b_lstt, b_inti, b_intb, b_all, b_any, b_gcd, is_nil, is_cons, bs_nil, bs_cons, s_seql, s_seqt, s_seqs, s_r1, s_r2, s_zip, s_zipt, s_enum, s_enumt, s_rev, s_revt, s_rr, z_cons, z_nil, z_nil2, n_cons, n_nil, sl_l, sl_t, one_0, one_1, cut_from, cut_to, rv_l, tr_n, tr_b, tr_i, tr_l, tr_t, x_rtN, x_brk, x_cnt, x_pas, x_frz, x_drp, List.getElem?_cons_zero, List.getElem?_cons_succ, arg_c, arg_g, arg_bin, arg_neg, arg_cmp, arg_chain, arg_nt, arg_and2, arg_or2, arg_tr, arg_ite, arg_tup, arg_lst, arg_ix, arg_sl, arg_rev, arg_call, arg_bi, arg_isi, arg_comp, arg_draw, bind_drw, blT_drw, then_drw, loop_drw, all_drw, all_ret, c_lt, c_le, c_gt, c_ge, c_eq, c_ne, c_isN, c_notN, cond_dec, cond_not, cond_and, cond_or, dr10, dr01, ex_ite, wt_nx, wt_rt, wt_ct, wt_bk, wt_drw, q_eq, F_inj, k_addl, k_addt, k_ap, rng2, line, rangeL, List.sum_cons, List.sum_nil, tyD, allTy, run]
      · rw [if_neg fun z => ha z.2.2]
        generalize m.tr.mul m.tr = t at *
        generalize t.mul m.det.conj = w at *
        by_cases y0 : w.y = 0
        · by_cases kx : w.x = 4 * m.det.nm
          · simp (maxSteps := 10000000) (implicitDefEqProofs := false) (disch := omega) [r_kind_of_map, i_kind_of_map, g_kind_of_map, MD, gd_eq, GD_inj, GD_neg, e1, e2, e4, et, ew, ed, hb, hc, ha, y0, kx, isn_n, isn_F, isn_i, G0, G1, S0, S1, M0, M1, b_ret, o_some, map_some, obind_some, k_add, k_sub, k_mul, k_ixl, k_ixt, ix_0, ix_1, ix_2, ix_3, ix_4, ix_5, ix_6, ix_7, ix_8, ix_9, ix_10, ix_11, ix_12, st_0, st_1, st_2, st_3, st_4, st_5, st_6, st_7, st_8, st_9, st_10, st_11, st_12, rd_0, rd_b, rd_l, rd_s, own_0, own_p, own_s, own_n, e_c, e_g, e_v, e_bin, neg_i, e_neg, e_cmp, e_chain, e_nt, e_and, e_or, e_tr, e_ite, e_tup, e_lst, e_ix, e_sl, e_rev, e_call, e_bi, e_isi, e_draw, e_comp, turn_cons, turn_nil, es_nil, es_cons, eS_nil, eS_cons, eC_nil, eC_cons, eA_nil, eA_cons, arg_st, bl_ret, x_nil, then_nx, then_rt, then_ct, then_bk, x_cns, x_bx, x_asgn, x_par, eR_nil, eR_cons, par_nil, par_cons, x_ixs, x_ap, x_ifs, x_rt, x_fr, loop_nx, loop_ct, loop_bk, loop_rt, for_nil, for_cons, bindA, List.replicate, List.cons_append, List.nil_append, a_nm, a_tt, a_tl, as_n, as_c, List.set_cons_zero, List.set_cons_succ, List.length_cons, List.length_nil, setS, boxS, cond_true, cond_false, Bool.and_true, Bool.and_false, Bool.true_and, Bool.false_and, if_true, lk_nil, lk_v, lk_c, lk_g, lk_bin, lk_neg, lk_cmp, lk_chain, lk_nt, lk_and2, lk_or2, lk_tr, lk_ite, lk_tup, lk_lst, lk_ix, lk_sl, lk_rev, lk_call, lk_bi, lk_isi, lk_comp, lk_comp2, lk_draw, ul_nil, ul_v, ul_c, ul_g, ul_bin, ul_neg, ul_cmp, ul_chain, ul_nt, ul_and2, ul_or2, ul_tr, ul_ite, ul_tup, ul_lst, ul_ix, ul_sl, ul_rev, ul_call, ul_bi, ul_isi, ul_comp, ul_comp2, ul_draw, isV, tgS, tgSs, wipeE, rt_v, rt_c, rt_g, rt_bin, rt_neg, rt_cmp, rt_chain, rt_nt, rt_and2, rt_or2, rt_tr, rt_ite, rt_tup, rt_lst, rt_ix, rt_sl, rt_rev, rt_call, rt_bi, rt_isi, rt_comp, rt_comp2, rt_draw, b_lenl, b_lent, b_lens, b_abs, b_sum, b_max, b_min, b_max2, b_min2, b_tupl, b_tupt, b_lstl, b_lstt, b_inti, b_intb, b_all, b_any, b_gcd, is_nil, is_cons, bs_nil, bs_cons, s_seql, s_seqt, s_seqs, s_r1, s_r2, s_zip, s_zipt, s_enum, s_enumt, s_rev, s_revt, s_rr, z_cons, z_nil, z_nil2, n_cons, n_nil, sl_l, sl_t, one_0, one_1, cut_from, cut_to, rv_l, tr_n, tr_b, tr_i, tr_l, tr_t, x_rtN, x_brk, x_cnt, x_pas, x_frz, x_drp, List.getElem?_cons_zero, List.getElem?_cons_succ, arg_c, arg_g, arg_bin, arg_neg, arg_cmp, arg_chain, arg_nt, arg_and2, arg_or2, arg_tr, arg_ite, arg_tup, arg_lst, arg_ix, arg_sl, arg_rev, arg_call, arg_bi, arg_isi, arg_comp, arg_draw, bind_drw, blT_drw, then_drw, loop_drw, all_drw, all_ret, c_lt, c_le, c_gt, c_ge, c_eq, c_ne, c_isN, c_notN, cond_dec, cond_not, cond_and, cond_or, dr10, dr01, ex_ite, wt_nx, wt_rt, wt_ct, wt_bk, wt_drw, q_eq, F_inj, k_addl, k_addt, k_ap, rng2, line, rangeL, List.sum_cons, List.sum_nil, tyD, allTy, run]
          · by_cases x0 : w.x < 0
            · simp (maxSteps := 10000000) (implicitDefEqProofs := false) (disch := omega) [r_kind_of_map, i_kind_of_map, g_kind_of_map, MD, gd_eq, GD_inj, GD_neg, e1, e2, e4, et, ew, ed, hb, hc, ha, y0, kx, x0, isn_n, isn_F, isn_i, G0, G1, S0, S1, M0, M1, b_ret, o_some, map_some, obind_some, k_add, k_sub, k_mul, k_ixl, k_ixt, ix_0, ix_1, ix_2, ix_3, ix_4, ix_5, ix_6, ix_7, ix_8, ix_9, ix_10, ix_11, ix_12, st_0, st_1, st_2, st_3, st_4, st_5, st_6, st_7, st_8, st_9, st_10, st_11, st_12, rd_0, rd_b, rd_l, rd_s, own_0, own_p, own_s, own_n, e_c, e_g, e_v, e_bin, neg_i, e_neg, e_cmp, e_chain, e_nt, e_and, e_or, e_tr, e_ite, e_tup, e_lst, e_ix, e_sl, e_rev, e_call, e_bi, e_isi, e_draw, e_comp, turn_cons, turn_nil, es_nil, es_cons, eS_nil, eS_cons, eC_nil, eC_cons, eA_nil, eA_cons, arg_st, bl_ret, x_nil, then_nx, then_rt, then_ct, then_bk, x_cns, x_bx, x_asgn, x_par, eR_nil, eR_cons, par_nil, par_cons, x_ixs, x_ap, x_ifs, x_rt, x_fr, loop_nx, loop_ct, loop_bk, loop_rt, for_nil, for_cons, bindA, List.replicate, List.cons_append, List.nil_append, a_nm, a_tt, a_tl, as_n, as_c, List.set_cons_zero, List.set_cons_succ, List.length_cons, List.length_nil, setS, boxS, cond_true, cond_false, Bool.and_true, Bool.and_false, Bool.true_and, Bool.false_and, if_true, lk_nil, lk_v, lk_c, lk_g, lk_bin, lk_neg, lk_cmp, lk_chain, lk_nt, lk_and2, lk_or2, lk_tr, lk_ite, lk_tup, lk_lst, lk_ix, lk_sl, lk_rev, lk_call, lk_bi, lk_isi, lk_comp, lk_comp2, lk_draw, ul_nil, ul_v, ul_c, ul_g, ul_bin, ul_neg, ul_cmp, ul_chain, ul_nt, ul_and2, ul_or2, ul_tr, ul_ite, ul_tup, ul_lst, ul_ix, ul_sl, ul_rev, ul_call, ul_bi, ul_isi, ul_comp, ul_comp2, ul_draw, isV, tgS, tgSs, wipeE, rt_v, rt_c, rt_g, rt_bin, rt_neg, rt_cmp, rt_chain, rt_nt, rt_and2, rt_or2, rt_tr, rt_ite, rt_tup, rt_lst, rt_ix, rt_sl, rt_rev, rt_call, rt_bi, rt_isi, rt_comp, rt_comp2, rt_draw, b_lenl, b_lent, b_lens, b_abs, b_sum, b_max, b_min, b_max2, b_min2, b_tupl, b_tupt, b_lstl, b_lstt, b_inti, b_intb, b_all, b_any, b_gcd, is_nil, is_cons, bs_nil, bs_cons, s_seql, s_seqt, s_seqs, s_r1, s_r2, s_zip, s_zipt, s_enum, s_enumt, s_rev, s_revt, s_rr, z_cons, z_nil, z_nil2, n_cons, n_nil, sl_l, sl_t, one_0, one_1, cut_from, cut_to, rv_l, tr_n, tr_b, tr_i, tr_l, tr_t, x_rtN, x_brk, x_cnt, x_pas, x_frz, x_drp, List.getElem?_cons_zero, List.getElem?_cons_succ, arg_c, arg_g, arg_bin, arg_neg, arg_cmp, arg_chain, arg_nt, arg_and2, arg_or2, arg_tr, arg_ite, arg_tup, arg_lst, arg_ix, arg_sl, arg_rev, arg_call, arg_bi, arg_isi, arg_comp, arg_draw, bind_drw, blT_drw, then_drw, loop_drw, all_drw, all_ret, c_lt, c_le, c_gt, c_ge, c_eq, c_ne, c_isN, c_notN, cond_dec, cond_not, cond_and, cond_or, dr10, dr01, ex_ite, wt_nx, wt_rt, wt_ct, wt_bk, wt_drw, q_eq, F_inj, k_addl, k_addt, k_ap, rng2, line, rangeL, List.sum_cons, List.sum_nil, tyD, allTy, run]
            · by_cases k4 : w.x < 4 * m.det.nm
              · simp (maxSteps := 10000000) (implicitDefEqProofs := false) (disch := omega) [r_kind_of_map, i_kind_of_map, g_kind_of_map, MD, gd_eq, GD_inj, GD_neg, e1, e2, e4, et, ew, ed, hb, hc, ha, y0, kx, x0, k4, isn_n, isn_F, isn_i, G0, G1, S0, S1, M0, M1, b_ret, o_some, map_some, obind_some, k_add, k_sub, k_mul, k_ixl, k_ixt, ix_0, ix_1, ix_2, ix_3, ix_4, ix_5, ix_6, ix_7, ix_8, ix_9, ix_10, ix_11, ix_12, st_0, st_1, st_2, st_3, st_4, st_5, st_6, st_7, st_8, st_9, st_10, st_11, st_12, rd_0, rd_b, rd_l, rd_s, own_0, own_p, own_s, own_n, e_c, e_g, e_v, e_bin, neg_i, e_neg, e_cmp, e_chain, e_nt, e_and, e_or, e_tr, e_ite, e_tup, e_lst, e_ix, e_sl, e_rev, e_call, e_bi, e_isi, e_draw, e_comp, turn_cons, turn_nil, es_nil, es_cons, eS_nil, eS_cons, eC_nil, eC_cons, eA_nil, eA_cons, arg_st, bl_ret, x_nil, then_nx, then_rt, then_ct, then_bk, x_cns, x_bx, x_asgn, x_par, eR_nil, eR_cons, par_nil, par_cons, x_ixs, x_ap, x_ifs, x_rt, x_fr, loop_nx, loop_ct, loop_bk, loop_rt, for_nil, for_cons, bindA, List.replicate, List.cons_append, List.nil_append, a_nm, a_tt, a_tl, as_n, as_c, List.set_cons_zero, List.set_cons_succ, List.length_cons, List.length_nil, setS, boxS, cond_true, cond_false, Bool.and_true, Bool.and_false, Bool.true_and, Bool.false_and, if_true, lk_nil, lk_v, lk_c, lk_g, lk_bin, lk_neg, lk_cmp, lk_chain, lk_nt, lk_and2, lk_or2, lk_tr, lk_ite, lk_tup, lk_lst, lk_ix, lk_sl, lk_rev, lk_call, lk_bi, lk_isi, lk_comp, lk_comp2, lk_draw, ul_nil, ul_v, ul_c, ul_g, ul_bin, ul_neg, ul_cmp, ul_chain, ul_nt, ul_and2, ul_or2, ul_tr, ul_ite, ul_tup, ul_lst, ul_ix, ul_sl, ul_rev, ul_call, ul_bi, ul_isi, ul_comp, ul_comp2, ul_draw, isV, tgS, tgSs, wipeE, rt_v, rt_c, rt_g, rt_bin, rt_neg, rt_cmp, rt_chain, rt_nt, rt_and2, rt_or2, rt_tr, rt_ite, rt_tup, rt_lst, rt_ix, rt_sl, rt_rev, rt_call, rt_bi, rt_isi, rt_comp, rt_comp2, rt_draw, b_lenl, b_lent, b_lens, b_abs, b_sum, b_max, b_min, b_max2, b_min2, b_tupl, b_tupt, b_lstl, b_lstt, b_inti, b_intb, b_all, b_any, b_gcd, is_nil, is_cons, bs_nil, bs_cons, s_seql, s_seqt, s_seqs, s_r1, s_r2, s_zip, s_zipt, s_enum, s_enumt, s_rev, s_revt, s_rr, z_cons, z_nil, z_nil2, n_cons, n_nil, sl_l, sl_t, one_0, one_1, cut_from, cut_to, rv_l, tr_n, tr_b, tr_i, tr_l, tr_t, x_rtN, x_brk, x_cnt, x_pas, x_frz, x_drp, List.getElem?_cons_zero, List.getElem?_cons_succ, arg_c, arg_g, arg_bin, arg_neg, arg_cmp, arg_chain, arg_nt, arg_and2, arg_or2, arg_tr, arg_ite, arg_tup, arg_lst, arg_ix, arg_sl, arg_rev, arg_call, arg_bi, arg_isi, arg_comp, arg_draw, bind_drw, blT_drw, then_drw, loop_drw, all_drw, all_ret, c_lt, c_le, c_gt, c_ge, c_eq, c_ne, c_isN, c_notN, cond_dec, cond_not, cond_and, cond_or, dr10, dr01, ex_ite, wt_nx, wt_rt, wt_ct, wt_bk, wt_drw, q_eq, F_inj, k_addl, k_addt, k_ap, rng2, line, rangeL, List.sum_cons, List.sum_nil, tyD, allTy, run]
              · simp (maxSteps := 10000000) (implicitDefEqProofs := false) (disch := omega) [r_kind_of_map, i_kind_of_map, g_kind_of_map, MD, gd_eq, GD_inj, GD_neg, e1, e2, e4, et, ew, ed, hb, hc, ha, y0, kx, x0, k4, isn_n, isn_F, isn_i, G0, G1, S0, S1, M0, M1, b_ret, o_some, map_some, obind_some, k_add, k_sub, k_mul, k_ixl, k_ixt, ix_0, ix_1, ix_2, ix_3, ix_4, ix_5, ix_6, ix_7, ix_8, ix_9, ix_10, ix_11, ix_12, st_0, st_1, st_2, st_3, st_4, st_5, st_6, st_7, st_8, st_9, st_10, st_11, st_12, rd_0, rd_b, rd_l, rd_s, own_0, own_p, own_s, own_n, e_c, e_g, e_v, e_bin, neg_i, e_neg, e_cmp, e_chain, e_nt, e_and, e_or, e_tr, e_ite, e_tup, e_lst, e_ix, e_sl, e_rev, e_call, e_bi, e_isi, e_draw, e_comp, turn_cons, turn_nil, es_nil, es_cons, eS_nil, eS_cons, eC_nil, eC_cons, eA_nil, eA_cons, arg_st, bl_ret, x_nil, then_nx, then_rt, then_ct, then_bk, x_cns, x_bx, x_asgn, x_par, eR_nil, eR_cons, par_nil, par_cons, x_ixs, x_ap, x_ifs, x_rt, x_fr, loop_nx, loop_ct, loop_bk, loop_rt, for_nil, for_cons, bindA, List.replicate, List.cons_append, List.nil_append, a_nm, a_tt, a_tl, as_n, as_c, List.set_cons_zero, List.set_cons_succ, List.length_cons, List.length_nil, setS, boxS, cond_true, cond_false, Bool.and_true, Bool.and_false, Bool.true_and, Bool.false_and, if_true, lk_nil, lk_v, lk_c, lk_g, lk_bin, lk_neg, lk_cmp, lk_chain, lk_nt, lk_and2, lk_or2, lk_tr, lk_ite, lk_tup, lk_lst, lk_ix, lk_sl, lk_rev, lk_call, lk_bi, lk_isi, lk_comp, lk_comp2, lk_draw, ul_nil, ul_v, ul_c, ul_g, ul_bin, ul_neg, ul_cmp, ul_chain, ul_nt, ul_and2, ul_or2, ul_tr, ul_ite, ul_tup, ul_lst, ul_ix, ul_sl, ul_rev, ul_call, ul_bi, ul_isi, ul_comp, ul_comp2, ul_draw, isV, tgS, tgSs, wipeE, rt_v, rt_c, rt_g, rt_bin, rt_neg, rt_cmp, rt_chain, rt_nt, rt_and2, rt_or2, rt_tr, rt_ite, rt_tup, rt_lst, rt_ix, rt_sl, rt_rev, rt_call, rt_bi, rt_isi, rt_comp, rt_comp2, rt_draw, b_lenl, b_lent, b_lens, b_abs, b_sum, b_max, b_min, b_max2, b_min2, b_tupl, b_tupt, b_lstl, b_lstt, b_inti, b_intb, b_all, b_any, b_gcd, is_nil, is_cons, bs_nil, bs_cons, s_seql, s_seqt, s_seqs, s_r1, s_r2, s_zip, s_zipt, s_enum, s_enumt, s_rev, s_revt, s_rr, z_cons, z_nil, z_nil2, n_cons, n_nil, sl_l, sl_t, one_0, one_1, cut_from, cut_to, rv_l, tr_n, tr_b, tr_i, tr_l, tr_t, x_rtN, x_brk, x_cnt, x_pas, x_frz, x_drp, List.getElem?_cons_zero, List.getElem?_cons_succ, arg_c, arg_g, arg_bin, arg_neg, arg_cmp, arg_chain, arg_nt, arg_and2, arg_or2, arg_tr, arg_ite, arg_tup, arg_lst, arg_ix, arg_sl, arg_rev, arg_call, arg_bi, arg_isi, arg_comp, arg_draw, bind_drw, blT_drw, then_drw, loop_drw, all_drw, all_ret, c_lt, c_le, c_gt, c_ge, c_eq, c_ne, c_isN, c_notN, cond_dec, cond_not, cond_and, cond_or, dr10, dr01, ex_ite, wt_nx, wt_rt, wt_ct, wt_bk, wt_drw, q_eq, F_inj, k_addl, k_addt, k_ap, rng2, line, rangeL, List.sum_cons, List.sum_nil, tyD, allTy, run]
        · simp (maxSteps := 10000000) (implicitDefEqProofs := false) (disch := omega) [r_kind_of_map, i_kind_of_map, g_kind_of_map, MD, gd_eq, GD_inj, GD_neg, e1, e2, e4, et, ew, ed, hb, hc, ha, y0, isn_n, isn_F, isn_i, G0, G1, S0, S1, M0, M1, b_ret, o_some, map_some, obind_some, k_add, k_sub, k_mul, k_ixl, k_ixt, ix_0, ix_1, ix_2, ix_3, ix_4, ix_5, ix_6, ix_7, ix_8, ix_9, ix_10, ix_11, ix_12, st_0, st_1, st_2, st_3, st_4, st_5, st_6, st_7, st_8, st_9, st_10, st_11, st_12, rd_0, rd_b, rd_l, rd_s, own_0, own_p, own_s, own_n, e_c, e_g, e_v, e_bin, neg_i, e_neg, e_cmp, e_chain, e_nt, e_and, e_or, e_tr, e_ite, e_tup, e_lst, e_ix, e_sl, e_rev, e_call, e_bi, e_isi, e_draw, e_comp, turn_cons, turn_nil, es_nil, es_cons, eS_nil, eS_cons, eC_nil, eC_cons, eA_nil, eA_cons, arg_st, bl_ret, x_nil, then_nx, then_rt, then_ct, then_bk, x_cns, x_bx, x_asgn, x_par, eR_nil, eR_cons, par_nil, par_cons, x_ixs, x_ap, x_ifs, x_rt, x_fr, loop_nx, loop_ct, loop_bk, loop_rt, for_nil, for_cons, bindA, List.replicate, List.cons_append, List.nil_append, a_nm, a_tt, a_tl, as_n, as_c, List.set_cons_zero, List.set_cons_succ, List.length_cons, List.length_nil, setS, boxS, cond_true, cond_false, Bool.and_true, Bool.and_false, Bool.true_and, Bool.false_and, if_true, lk_nil, lk_v, lk_c, lk_g, lk_bin, lk_neg, lk_cmp, lk_chain, lk_nt, lk_and2, lk_or2, lk_tr, lk_ite, lk_tup, lk_lst, lk_ix, lk_sl, lk_rev, lk_call, lk_bi, lk_isi, lk_comp, lk_comp2, lk_draw, ul_nil, ul_v, ul_c, ul_g, ul_bin, ul_neg, ul_cmp, ul_chain, ul_nt, ul_and2, ul_or2, ul_tr, ul_ite, ul_tup, ul_lst, ul_ix, ul_sl, ul_rev, ul_call, ul_bi, ul_isi, ul_comp, ul_comp2, ul_draw, isV, tgS, tgSs, wipeE, rt_v, rt_c, rt_g, rt_bin, rt_neg, rt_cmp, rt_chain, rt_nt, rt_and2, rt_or2, rt_tr, rt_ite, rt_tup, rt_lst, rt_ix, rt_sl, rt_rev, rt_call, rt_bi, rt_isi, rt_comp, rt_comp2, rt_draw, b_lenl, b_lent, b_lens, b_abs, b_sum, b_max, b_min, b_max2, b_min2, b_tupl, b_tupt, b_lstl, b_lstt, b_inti, b_intb, b_all, b_any, b_gcd, is_nil, is_cons, bs_nil, bs_cons, s_seql, s_seqt, s_seqs, s_r1, s_r2, s_zip, s_zipt, s_enum, s_enumt, s_rev, s_revt, s_rr, z_cons, z_nil, z_nil2, n_cons, n_nil, sl_l, sl_t, one_0, one_1, cut_from, cut_to, rv_l, tr_n, tr_b, tr_i, tr_l, tr_t, x_rtN, x_brk, x_cnt, x_pas, x_frz, x_drp, List.getElem?_cons_zero, List.getElem?_cons_succ, arg_c, arg_g, arg_bin, arg_neg, arg_cmp, arg_chain, arg_nt, arg_and2, arg_or2, arg_tr, arg_ite, arg_tup, arg_lst, arg_ix, arg_sl, arg_rev, arg_call, arg_bi, arg_isi, arg_comp, arg_draw, bind_drw, blT_drw, then_drw, loop_drw, all_drw, all_ret, c_lt, c_le, c_gt, c_ge, c_eq, c_ne, c_isN, c_notN, cond_dec, cond_not, cond_and, cond_or, dr10, dr01, ex_ite, wt_nx, wt_rt, wt_ct, wt_bk, wt_drw, q_eq, F_inj, k_addl, k_addt, k_ap, rng2, line, rangeL, List.sum_cons, List.sum_nil, tyD, allTy, run]
    · rw [if_neg fun z => hc z.2.1]
      generalize m.tr.mul m.tr = t at *
      generalize t.mul m.det.conj = w at *
      by_cases y0 : w.y = 0
      · by_cases kx : w.x = 4 * m.det.nm
        · simp (maxSteps := 10000000) (implicitDefEqProofs := false) (disch := omega) [r_kind_of_map, i_kind_of_map, g_kind_of_map, MD, gd_eq, GD_inj, GD_neg, e1, e2, e4, et, ew, ed, hb, hc, y0, kx, isn_n, isn_F, isn_i, G0, G1, S0, S1, M0, M1, b_ret, o_some, map_some, obind_some, k_add, k_sub, k_mul, k_ixl, k_ixt, ix_0, ix_1, ix_2, ix_3, ix_4, ix_5, ix_6, ix_7, ix_8, ix_9, ix_10, ix_11, ix_12, st_0, st_1, st_2, st_3, st_4, st_5, st_6, st_7, st_8, st_9, st_10, st_11, st_12, rd_0, rd_b, rd_l, rd_s, own_0, own_p, own_s, own_n, e_c, e_g, e_v, e_bin, neg_i, e_neg, e_cmp, e_chain, e_nt, e_and, e_or, e_tr, e_ite, e_tup, e_lst, e_ix, e_sl, e_rev, e_call, e_bi, e_isi, e_draw, e_comp, turn_cons, turn_nil, es_nil, es_cons, eS_nil, eS_cons, eC_nil, eC_cons, eA_nil, eA_cons, arg_st, bl_ret, x_nil, then_nx, then_rt, then_ct, then_bk, x_cns, x_bx, x_asgn, x_par, eR_nil, eR_cons, par_nil, par_cons, x_ixs, x_ap, x_ifs, x_rt, x_fr, loop_nx, loop_ct, loop_bk, loop_rt, for_nil, for_cons, bindA, List.replicate, List.cons_append, List.nil_append, a_nm, a_tt, a_tl, as_n, as_c, List.set_cons_zero, List.set_cons_succ, List.length_cons, List.length_nil, setS, boxS, cond_true, cond_false, Bool.and_true, Bool.and_false, Bool.true_and, Bool.false_and, if_true, lk_nil, lk_v, lk_c, lk_g, lk_bin, lk_neg, lk_cmp, lk_chain, lk_nt, lk_and2, lk_or2, lk_tr, lk_ite, lk_tup, lk_lst, lk_ix, lk_sl, lk_rev, lk_call, lk_bi, lk_isi, lk_comp, lk_comp2, lk_draw, ul_nil, ul_v, ul_c, ul_g, ul_bin, ul_neg, ul_cmp, ul_chain, ul_nt, ul_and2, ul_or2, ul_tr, ul_ite, ul_tup, ul_lst, ul_ix, ul_sl, ul_rev, ul_call, ul_bi, ul_isi, ul_comp, ul_comp2, ul_draw, isV, tgS, tgSs, wipeE, rt_v, rt_c, rt_g, rt_bin, rt_neg, rt_cmp, rt_chain, rt_nt, rt_and2, rt_or2, rt_tr, rt_ite, rt_tup, rt_lst, rt_ix, rt_sl, rt_rev, rt_call, rt_bi, rt_isi, rt_comp, rt_comp2, rt_draw, b_lenl, b_lent, b_lens, b_abs, b_sum, b_max, b_min, b_max2, b_min2, b_tupl, b_tupt, b_lstl, b_lstt, b_inti, b_intb, b_all, b_any, b_gcd, is_nil, is_cons, bs_nil, bs_cons, s_seql, s_seqt, s_seqs, s_r1, s_r2, s_zip, s_zipt, s_enum, s_enumt, s_rev, s_revt, s_rr, z_cons, z_nil, z_nil2, n_cons, n_nil, sl_l, sl_t, one_0, one_1, cut_from, cut_to, rv_l, tr_n, tr_b, tr_i, tr_l, tr_t, x_rtN, x_brk, x_cnt, x_pas, x_frz, x_drp, List.getElem?_cons_zero, List.getElem?_cons_succ, arg_c, arg_g, arg_bin, arg_neg, arg_cmp, arg_chain, arg_nt, arg_and2, arg_or2, arg_tr, arg_ite, arg_tup, arg_lst, arg_ix, arg_sl, arg_rev, arg_call, arg_bi, arg_isi, arg_comp, arg_draw, bind_drw, blT_drw, then_drw, loop_drw, all_drw, all_ret, c_lt, c_le, c_gt, c_ge, c_eq, c_ne, c_isN, c_notN, cond_dec, cond_not, cond_and, cond_or, dr10, dr01, ex_ite, wt_nx, wt_rt, wt_ct, wt_bk, wt_drw, q_eq, F_inj, k_addl, k_addt, k_ap, rng2, line, rangeL, List.sum_cons, List.sum_nil, tyD, allTy, run]
        · by_cases x0 : w.x < 0
          · simp (maxSteps := 10000000) (implicitDefEqProofs := false) (disch := omega) [r_kind_of_map, i_kind_of_map, g_kind_of_map, MD, gd_eq, GD_inj, GD_neg, e1, e2, e4, et, ew, ed, hb, hc, y0, kx, x0, isn_n, isn_F, isn_i, G0, G1, S0, S1, M0, M1, b_ret, o_some, map_some, obind_some, k_add, k_sub, k_mul, k_ixl, k_ixt, ix_0, ix_1, ix_2, ix_3, ix_4, ix_5, ix_6, ix_7, ix_8, ix_9, ix_10, ix_11, ix_12, st_0, st_1, st_2, st_3, st_4, st_5, st_6, st_7, st_8, st_9, st_10, st_11, st_12, rd_0, rd_b, rd_l, rd_s, own_0, own_p, own_s, own_n, e_c, e_g, e_v, e_bin, neg_i, e_neg, e_cmp, e_chain, e_nt, e_and, e_or, e_tr, e_ite, e_tup, e_lst, e_ix, e_sl, e_rev, e_call, e_bi, e_isi, e_draw, e_comp, turn_cons, turn_nil, es_nil, es_cons, eS_nil, eS_cons, eC_nil, eC_cons, eA_nil, eA_cons, arg_st, bl_ret, x_nil, then_nx, then_rt, then_ct, then_bk, x_cns, x_bx, x_asgn, x_par, eR_nil, eR_cons, par_nil, par_cons, x_ixs, x_ap, x_ifs, x_rt, x_fr, loop_nx, loop_ct, loop_bk, loop_rt, for_nil, for_cons, bindA, List.replicate, List.cons_append, List.nil_append, a_nm, a_tt, a_tl, as_n, as_c, List.set_cons_zero, List.set_cons_succ, List.length_cons, List.length_nil, setS, boxS, cond_true, cond_false, Bool.and_true, Bool.and_false, Bool.true_and, Bool.false_and, if_true, lk_nil, lk_v, lk_c, lk_g, lk_bin, lk_neg, lk_cmp, lk_chain, lk_nt, lk_and2, lk_or2, lk_tr, lk_ite, lk_tup, lk_lst, lk_ix, lk_sl, lk_rev, lk_call, lk_bi, lk_isi, lk_comp, lk_comp2, lk_draw, ul_nil, ul_v, ul_c, ul_g, ul_bin, ul_neg, ul_cmp, ul_chain, ul_nt, ul_and2, ul_or2, ul_tr, ul_ite, ul_tup, ul_lst, ul_ix, ul_sl, ul_rev, ul_call, ul_bi, ul_isi, ul_comp, ul_comp2, ul_draw, isV, tgS, tgSs, wipeE, rt_v, rt_c, rt_g, rt_bin, rt_neg, rt_cmp, rt_chain, rt_nt, rt_and2, rt_or2, rt_tr, rt_ite, rt_tup, rt_lst, rt_ix, rt_sl, rt_rev, rt_call, rt_bi, rt_isi, rt_comp, rt_comp2, rt_draw, b_lenl, b_lent, b_lens, b_abs, b_sum, b_max, b_min, b_max2, b_min2, b_tupl, b_tupt, b_lstl, b_lstt, b_inti, b_intb, b_all, b_any, b_gcd, is_nil, is_cons, bs_nil, bs_cons, s_seql, s_seqt, s_seqs, s_r1, s_r2, s_zip, s_zipt, s_enum, s_enumt, s_rev, s_revt, s_rr, z_cons, z_nil, z_nil2, n_cons, n_nil, sl_l, sl_t, one_0, one_1, cut_from, cut_to, rv_l, tr_n, tr_b, tr_i, tr_l, tr_t, x_rtN, x_brk, x_cnt, x_pas, x_frz, x_drp, List.getElem?_cons_zero, List.getElem?_cons_succ, arg_c, arg_g, arg_bin, arg_neg, arg_cmp, arg_chain, arg_nt, arg_and2, arg_or2, arg_tr, arg_ite, arg_tup, arg_lst, arg_ix, arg_sl, arg_rev, arg_call, arg_bi, arg_isi, arg_comp, arg_draw, bind_drw, blT_drw, then_drw, loop_drw, all_drw, all_ret, c_lt, c_le, c_gt, c_ge, c_eq, c_ne, c_isN, c_notN, cond_dec, cond_not, cond_and, cond_or, dr10, dr01, ex_ite, wt_nx, wt_rt, wt_ct, wt_bk, wt_drw, q_eq, F_inj, k_addl, k_addt, k_ap, rng2, line, rangeL, List.sum_cons, List.sum_nil, tyD, allTy, run]
          · by_cases k4 : w.x < 4 * m.det.nm
            · simp (maxSteps := 10000000) (implicitDefEqProofs := false) (disch := omega) [r_kind_of_map, i_kind_of_map, g_kind_of_map, MD, gd_eq, GD_inj, GD_neg, e1, e2, e4, et, ew, ed, hb, hc, y0, kx, x0, k4, isn_n, isn_F, isn_i, G0, G1, S0, S1, M0, M1, b_ret, o_some, map_some, obind_some, k_add, k_sub, k_mul, k_ixl, k_ixt, ix_0, ix_1, ix_2, ix_3, ix_4, ix_5, ix_6, ix_7, ix_8, ix_9, ix_10, ix_11, ix_12, st_0, st_1, st_2, st_3, st_4, st_5, st_6, st_7, st_8, st_9, st_10, st_11, st_12, rd_0, rd_b, rd_l, rd_s, own_0, own_p, own_s, own_n, e_c, e_g, e_v, e_bin, neg_i, e_neg, e_cmp, e_chain, e_nt, e_and, e_or, e_tr, e_ite, e_tup, e_lst, e_ix, e_sl, e_rev, e_call, e_bi, e_isi, e_draw, e_comp, turn_cons, turn_nil, es_nil, es_cons, eS_nil, eS_cons, eC_nil, eC_cons, eA_nil, eA_cons, arg_st, bl_ret, x_nil, then_nx, then_rt, then_ct, then_bk, x_cns, x_bx, x_asgn, x_par, eR_nil, eR_cons, par_nil, par_cons, x_ixs, x_ap, x_ifs, x_rt, x_fr, loop_nx, loop_ct, loop_bk, loop_rt, for_nil, for_cons, bindA, List.replicate, List.cons_append, List.nil_append, a_nm, a_tt, a_tl, as_n, as_c, List.set_cons_zero, List.set_cons_succ, List.length_cons, List.length_nil, setS, boxS, cond_true, cond_false, Bool.and_true, Bool.and_false, Bool.true_and, Bool.false_and, if_true, lk_nil, lk_v, lk_c, lk_g, lk_bin, lk_neg, lk_cmp, lk_chain, lk_nt, lk_and2, lk_or2, lk_tr, lk_ite, lk_tup, lk_lst, lk_ix, lk_sl, lk_rev, lk_call, lk_bi, lk_isi, lk_comp, lk_comp2, lk_draw, ul_nil, ul_v, ul_c, ul_g, ul_bin, ul_neg, ul_cmp, ul_chain, ul_nt, ul_and2, ul_or2, ul_tr, ul_ite, ul_tup, ul_lst, ul_ix, ul_sl, ul_rev, ul_call, ul_bi, ul_isi, ul_comp, ul_comp2, ul_draw, isV, tgS, tgSs, wipeE, rt_v, rt_c, rt_g, rt_bin, rt_neg, rt_cmp, rt_chain, rt_nt, rt_and2, rt_or2, rt_tr, rt_ite, rt_tup, rt_lst, rt_ix, rt_sl, rt_rev, rt_call, rt_bi, rt_isi, rt_comp, rt_comp2, rt_draw, b_lenl, b_lent, b_lens, b_abs, b_sum, b_max, b_min, b_max2, b_min2, b_tupl, b_tupt, b_lstl, b_lstt, b_inti, b_intb, b_all, b_any, b_gcd, is_nil, is_cons, bs_nil, bs_cons, s_seql, s_seqt, s_seqs, s_r1, s_r2, s_zip, s_zipt, s_enum, s_enumt, s_rev, s_revt, s_rr, z_cons, z_nil, z_nil2, n_cons, n_nil, sl_l, sl_t, one_0, one_1, cut_from, cut_to, rv_l, tr_n, tr_b, tr_i, tr_l, tr_t, x_rtN, x_brk, x_cnt, x_pas, x_frz, x_drp, List.getElem?_cons_zero, List.getElem?_cons_succ, arg_c, arg_g, arg_bin, arg_neg, arg_cmp, arg_chain, arg_nt, arg_and2, arg_or2, arg_tr, arg_ite, arg_tup, arg_lst, arg_ix, arg_sl, arg_rev, arg_call, arg_bi, arg_isi, arg_comp, arg_draw, bind_drw, blT_drw, then_drw, loop_drw, all_drw, all_ret, c_lt, c_le, c_gt, c_ge, c_eq, c_ne, c_isN, c_notN, cond_dec, cond_not, cond_and, cond_or, dr10, dr01, ex_ite, wt_nx, wt_rt, wt_ct, wt_bk, wt_drw, q_eq, F_inj, k_addl, k_addt, k_ap, rng2, line, rangeL, List.sum_cons, List.sum_nil, tyD, allTy, run]
            · simp (maxSteps := 10000000) (implicitDefEqProofs := false) (disch := omega) [r_kind_of_map, i_kind_of_map, g_kind_of_map, MD, gd_eq, GD_inj, GD_neg, e1, e2, e4, et, ew, ed, hb, hc, y0, kx, x0, k4, isn_n, isn_F, isn_i, G0, G1, S0, S1, M0, M1, b_ret, o_some, map_some, obind_some, k_add, k_sub, k_mul, k_ixl, k_ixt, ix_0, ix_1, ix_2, ix_3, ix_4, ix_5, ix_6, ix_7, ix_8, ix_9, ix_10, ix_11, ix_12, st_0, st_1, st_2, st_3, st_4, st_5, st_6, st_7, st_8, st_9, st_10, st_11, st_12, rd_0, rd_b, rd_l, rd_s, own_0, own_p, own_s, own_n, e_c, e_g, e_v, e_bin, neg_i, e_neg, e_cmp, e_chain, e_nt, e_and, e_or, e_tr, e_ite, e_tup, e_lst, e_ix, e_sl, e_rev, e_call, e_bi, e_isi, e_draw, e_comp, turn_cons, turn_nil, es_nil, es_cons, eS_nil, eS_cons, eC_nil, eC_cons, eA_nil, eA_cons, arg_st, bl_ret, x_nil, then_nx, then_rt, then_ct, then_bk, x_cns, x_bx, x_asgn, x_par, eR_nil, eR_cons, par_nil, par_cons, x_ixs, x_ap, x_ifs, x_rt, x_fr, loop_nx, loop_ct, loop_bk, loop_rt, for_nil, for_cons, bindA, List.replicate, List.cons_append, List.nil_append, a_nm, a_tt, a_tl, as_n, as_c, List.set_cons_zero, List.set_cons_succ, List.length_cons, List.length_nil, setS, boxS, cond_true, cond_false, Bool.and_true, Bool.and_false, Bool.true_and, Bool.false_and, if_true, lk_nil, lk_v, lk_c, lk_g, lk_bin, lk_neg, lk_cmp, lk_chain, lk_nt, lk_and2, lk_or2, lk_tr, lk_ite, lk_tup, lk_lst, lk_ix, lk_sl, lk_rev, lk_call, lk_bi, lk_isi, lk_comp, lk_comp2, lk_draw, ul_nil, ul_v, ul_c, ul_g, ul_bin, ul_neg, ul_cmp, ul_chain, ul_nt, ul_and2, ul_or2, ul_tr, ul_ite, ul_tup, ul_lst, ul_ix, ul_sl, ul_rev, ul_call, ul_bi, ul_isi, ul_comp, ul_comp2, ul_draw, isV, tgS, tgSs, wipeE, rt_v, rt_c, rt_g, rt_bin, rt_neg, rt_cmp, rt_chain, rt_nt, rt_and2, rt_or2, rt_tr, rt_ite, rt_tup, rt_lst, rt_ix, rt_sl, rt_rev, rt_call, rt_bi, rt_isi, rt_comp, rt_comp2, rt_draw, b_lenl, b_lent, b_lens, b_abs, b_sum, b_max, b_min, b_max2, b_min2, b_tupl, b_tupt, b_lstl, b_lstt, b_inti, b_intb, b_all, b_any, b_gcd, is_nil, is_cons, bs_nil, bs_cons, s_seql, s_seqt, s_seqs, s_r1, s_r2, s_zip, s_zipt, s_enum, s_enumt, s_rev, s_revt, s_rr, z_cons, z_nil, z_nil2, n_cons, n_nil, sl_l, sl_t, one_0, one_1, cut_from, cut_to, rv_l, tr_n, tr_b, tr_i, tr_l, tr_t, x_rtN, x_brk, x_cnt, x_pas, x_frz, x_drp, List.getElem?_cons_zero, List.getElem?_cons_succ, arg_c, arg_g, arg_bin, arg_neg, arg_cmp, arg_chain, arg_nt, arg_and2, arg_or2, arg_tr, arg_ite, arg_tup, arg_lst, arg_ix, arg_sl, arg_rev, arg_call, arg_bi, arg_isi, arg_comp, arg_draw, bind_drw, blT_drw, then_drw, loop_drw, all_drw, all_ret, c_lt, c_le, c_gt, c_ge, c_eq, c_ne, c_isN, c_notN, cond_dec, cond_not, cond_and, cond_or, dr10, dr01, ex_ite, wt_nx, wt_rt, wt_ct, wt_bk, wt_drw, q_eq, F_inj, k_addl, k_addt, k_ap, rng2, line, rangeL, List.sum_cons, List.sum_nil, tyD, allTy, run]
      · simp (maxSteps := 10000000) (implicitDefEqProofs := false) (disch := omega) [r_kind_of_map, i_kind_of_map, g_kind_of_map, MD, gd_eq, GD_inj, GD_neg, e1, e2, e4, et, ew, ed, hb, hc, y0, isn_n, isn_F, isn_i, G0, G1, S0, S1, M0, M1, b_ret, o_some, map_some, obind_some, k_add, k_sub, k_mul, k_ixl, k_ixt, ix_0, ix_1, ix_2, ix_3, ix_4, ix_5, ix_6, ix_7, ix_8, ix_9, ix_10, ix_11, ix_12, st_0, st_1, st_2, st_3, st_4, st_5, st_6, st_7, st_8, st_9, st_10, st_11, st_12, rd_0, rd_b, rd_l, rd_s, own_0, own_p, own_s, own_n, e_c, e_g, e_v, e_bin, neg_i, e_neg, e_cmp, e_chain, e_nt, e_and, e_or, e_tr, e_ite, e_tup, e_lst, e_ix, e_sl, e_rev, e_call, e_bi, e_isi, e_draw, e_comp, turn_cons, turn_nil, es_nil, es_cons, eS_nil, eS_cons, eC_nil, eC_cons, eA_nil, eA_cons, arg_st, bl_ret, x_nil, then_nx, then_rt, then_ct, then_bk, x_cns, x_bx, x_asgn, x_par, eR_nil, eR_cons, par_nil, par_cons, x_ixs, x_ap, x_ifs, x_rt, x_fr, loop_nx, loop_ct, loop_bk, loop_rt, for_nil, for_cons, bindA, List.replicate, List.cons_append, List.nil_append, a_nm, a_tt, a_tl, as_n, as_c, List.set_cons_zero, List.set_cons_succ, List.length_cons, List.length_nil, setS, boxS, cond_true, cond_false, Bool.and_true, Bool.and_false, Bool.true_and, Bool.false_and, if_true, lk_nil, lk_v, lk_c, lk_g, lk_bin, lk_neg, lk_cmp, lk_chain, lk_nt, lk_and2, lk_or2, lk_tr, lk_ite, lk_tup, lk_lst, lk_ix, lk_sl, lk_rev, lk_call, lk_bi, lk_isi, lk_comp, lk_comp2, lk_draw, ul_nil, ul_v, ul_c, ul_g, ul_bin, ul_neg, ul_cmp, ul_chain, ul_nt, ul_and2, ul_or2, ul_tr, ul_ite, ul_tup, ul_lst, ul_ix, ul_sl, ul_rev, ul_call, ul_bi, ul_isi, ul_comp, ul_comp2, ul_draw, isV, tgS, tgSs, wipeE, rt_v, rt_c, rt_g, rt_bin, rt_neg, rt_cmp, rt_chain, rt_nt, rt_and2, rt_or2, rt_tr, rt_ite, rt_tup, rt_lst, rt_ix, rt_sl, rt_rev, rt_call, rt_bi, rt_isi, rt_comp, rt_comp2, rt_draw, b_lenl, b_lent, b_lens, b_abs, b_sum, b_max, b_min, b_max2, b_min2, b_tupl, b_tupt, b_lstl, b_lstt, b_inti, b_intb, b_all, b_any, b_gcd, is_nil, is_cons, bs_nil, bs_cons, s_seql, s_seqt, s_seqs, s_r1, s_r2, s_zip, s_zipt, s_enum, s_enumt, s_rev, s_revt, s_rr, z_cons, z_nil, z_nil2, n_cons, n_nil, sl_l, sl_t, one_0, one_1, cut_from, cut_to, rv_l, tr_n, tr_b, tr_i, tr_l, tr_t, x_rtN, x_brk, x_cnt, x_pas, x_frz, x_drp, List.getElem?_cons_zero, List.getElem?_cons_succ, arg_c, arg_g, arg_bin, arg_neg, arg_cmp, arg_chain, arg_nt, arg_and2, arg_or2, arg_tr, arg_ite, arg_tup, arg_lst, arg_ix, arg_sl, arg_rev, arg_call, arg_bi, arg_isi, arg_comp, arg_draw, bind_drw, blT_drw, then_drw, loop_drw, all_drw, all_ret, c_lt, c_le, c_gt, c_ge, c_eq, c_ne, c_isN, c_notN, cond_dec, cond_not, cond_and, cond_or, dr10, dr01, ex_ite, wt_nx, wt_rt, wt_ct, wt_bk, wt_drw, q_eq, F_inj, k_addl, k_addt, k_ap, rng2, line, rangeL, List.sum_cons, List.sum_nil, tyD, allTy, run]
  · rw [if_neg fun z => hb z.1]
    generalize m.tr.mul m.tr = t at *
    generalize t.mul m.det.conj = w at *
    by_cases y0 : w.y = 0
    · by_cases kx : w.x = 4 * m.det.nm
      · simp (maxSteps := 10000000) (implicitDefEqProofs := false) (disch := omega) [r_kind_of_map, i_kind_of_map, g_kind_of_map, MD, gd_eq, GD_inj, GD_neg, e1, e2, e4, et, ew, ed, hb, y0, kx, isn_n, isn_F, isn_i, G0, G1, S0, S1, M0, M1, b_ret, o_some, map_some, obind_some, k_add, k_sub, k_mul, k_ixl, k_ixt, ix_0, ix_1, ix_2, ix_3, ix_4, ix_5, ix_6, ix_7, ix_8, ix_9, ix_10, ix_11, ix_12, st_0, st_1, st_2, st_3, st_4, st_5, st_6, st_7, st_8, st_9, st_10, st_11, st_12, rd_0, rd_b, rd_l, rd_s, own_0, own_p, own_s, own_n, e_c, e_g, e_v, e_bin, neg_i, e_neg, e_cmp, e_chain, e_nt, e_and, e_or, e_tr, e_ite, e_tup, e_lst, e_ix, e_sl, e_rev, e_call, e_bi, e_isi, e_draw, e_comp, turn_cons, turn_nil, es_nil, es_cons, eS_nil, eS_cons, eC_nil, eC_cons, eA_nil, eA_cons, arg_st, bl_ret, x_nil, then_nx, then_rt, then_ct, then_bk, x_cns, x_bx, x_asgn, x_par, eR_nil, eR_cons, par_nil, par_cons, x_ixs, x_ap, x_ifs, x_rt, x_fr, loop_nx, loop_ct, loop_bk, loop_rt, for_nil, for_cons, bindA, List.replicate, List.cons_append, List.nil_append, a_nm, a_tt, a_tl, as_n, as_c, List.set_cons_zero, List.set_cons_succ, List.length_cons, List.length_nil, setS, boxS, cond_true, cond_false, Bool.and_true, Bool.and_false, Bool.true_and, Bool.false_and, if_true, lk_nil, lk_v, lk_c, lk_g, lk_bin, lk_neg, lk_cmp, lk_chain, lk_nt, lk_and2, lk_or2, lk_tr, lk_ite, lk_tup, lk_lst, lk_ix, lk_sl, lk_rev, lk_call, lk_bi, lk_isi, lk_comp, lk_comp2, lk_draw, ul_nil, ul_v, ul_c, ul_g, ul_bin, ul_neg, ul_cmp, ul_chain, ul_nt, ul_and2, ul_or2, ul_tr, ul_ite, ul_tup, ul_lst, ul_ix, ul_sl, ul_rev, ul_call, ul_bi, ul_isi, ul_comp, ul_comp2, ul_draw, isV, tgS, tgSs, wipeE, rt_v, rt_c, rt_g, rt_bin, rt_neg, rt_cmp, rt_chain, rt_nt, rt_and2, rt_or2, rt_tr, rt_ite, rt_tup, rt_lst, rt_ix, rt_sl, rt_rev, rt_call, rt_bi, rt_isi, rt_comp, rt_comp2, rt_draw, b_lenl, b_lent, b_lens, b_abs, b_sum, b_max, b_min, b_max2, b_min2, b_tupl, b_tupt, b_lstl, b_lstt, b_inti, b_intb, b_all, b_any, b_gcd, is_nil, is_cons, bs_nil, bs_cons, s_seql, s_seqt, s_seqs, s_r1, s_r2, s_zip, s_zipt, s_enum, s_enumt, s_rev, s_revt, s_rr, z_cons, z_nil, z_nil2, n_cons, n_nil, sl_l, sl_t, one_0, one_1, cut_from, cut_to, rv_l, tr_n, tr_b, tr_i, tr_l, tr_t, x_rtN, x_brk, x_cnt, x_pas, x_frz, x_drp, List.getElem?_cons_zero, List.getElem?_cons_succ, arg_c, arg_g, arg_bin, arg_neg, arg_cmp, arg_chain, arg_nt, arg_and2, arg_or2, arg_tr, arg_ite, arg_tup, arg_lst, arg_ix, arg_sl, arg_rev, arg_call, arg_bi, arg_isi, arg_comp, arg_draw, bind_drw, blT_drw, then_drw, loop_drw, all_drw, all_ret, c_lt, c_le, c_gt, c_ge, c_eq, c_ne, c_isN, c_notN, cond_dec, cond_not, cond_and, cond_or, dr10, dr01, ex_ite, wt_nx, wt_rt, wt_ct, wt_bk, wt_drw, q_eq, F_inj, k_addl, k_addt, k_ap, rng2, line, rangeL, List.sum_cons, List.sum_nil, tyD, allTy, run]
      · by_cases x0 : w.x < 0
        · simp (maxSteps := 10000000) (implicitDefEqProofs := false) (disch := omega) [r_kind_of_map, i_kind_of_map, g_kind_of_map, MD, gd_eq, GD_inj, GD_neg, e1, e2, e4, et, ew, ed, hb, y0, kx, x0, isn_n, isn_F, isn_i, G0, G1, S0, S1, M0, M1, b_ret, o_some, map_some, obind_some, k_add, k_sub, k_mul, k_ixl, k_ixt, ix_0, ix_1, ix_2, ix_3, ix_4, ix_5, ix_6, ix_7, ix_8, ix_9, ix_10, ix_11, ix_12, st_0, st_1, st_2, st_3, st_4, st_5, st_6, st_7, st_8, st_9, st_10, st_11, st_12, rd_0, rd_b, rd_l, rd_s, own_0, own_p, own_s, own_n, e_c, e_g, e_v, e_bin, neg_i, e_neg, e_cmp, e_chain, e_nt, e_and, e_or, e_tr, e_ite, e_tup, e_lst, e_ix, e_sl, e_rev, e_call, e_bi, e_isi, e_draw, e_comp, turn_cons, turn_nil, es_nil, es_cons, eS_nil, eS_cons, eC_nil, eC_cons, eA_nil, eA_cons, arg_st, bl_ret, x_nil, then_nx, then_rt, then_ct, then_bk, x_cns, x_bx, x_asgn, x_par, eR_nil, eR_cons, par_nil, par_cons, x_ixs, x_ap, x_ifs, x_rt, x_fr, loop_nx, loop_ct, loop_bk, loop_rt, for_nil, for_cons, bindA, List.replicate, List.cons_append, List.nil_append, a_nm, a_tt, a_tl, as_n, as_c, List.set_cons_zero, List.set_cons_succ, List.length_cons, List.length_nil, setS, boxS, cond_true, cond_false, Bool.and_true, Bool.and_false, Bool.true_and, Bool.false_and, if_true, lk_nil, lk_v, lk_c, lk_g, lk_bin, lk_neg, lk_cmp, lk_chain, lk_nt, lk_and2, lk_or2, lk_tr, lk_ite, lk_tup, lk_lst, lk_ix, lk_sl, lk_rev, lk_call, lk_bi, lk_isi, lk_comp, lk_comp2, lk_draw, ul_nil, ul_v, ul_c, ul_g, ul_bin, ul_neg, ul_cmp, ul_chain, ul_nt, ul_and2, ul_or2, ul_tr, ul_ite, ul_tup, ul_lst, ul_ix, ul_sl, ul_rev, ul_call, ul_bi, ul_isi, ul_comp, ul_comp2, ul_draw, isV, tgS, tgSs, wipeE, rt_v, rt_c, rt_g, rt_bin, rt_neg, rt_cmp, rt_chain, rt_nt, rt_and2, rt_or2, rt_tr, rt_ite, rt_tup, rt_lst, rt_ix, rt_sl, rt_rev, rt_call, rt_bi, rt_isi, rt_comp, rt_comp2, rt_draw, b_lenl, b_lent, b_lens, b_abs, b_sum, b_max, b_min, b_max2, b_min2, b_tupl, b_tupt, b_lstl, b_lstt, b_inti, b_intb, b_all, b_any, b_gcd, is_nil, is_cons, bs_nil, bs_cons, s_seql, s_seqt, s_seqs, s_r1, s_r2, s_zip, s_zipt, s_enum, s_enumt, s_rev, s_revt, s_rr, z_cons, z_nil, z_nil2, n_cons, n_nil, sl_l, sl_t, one_0, one_1, cut_from, cut_to, rv_l, tr_n, tr_b, tr_i, tr_l, tr_t, x_rtN, x_brk, x_cnt, x_pas, x_frz, x_drp, List.getElem?_cons_zero, List.getElem?_cons_succ, arg_c, arg_g, arg_bin, arg_neg, arg_cmp, arg_chain, arg_nt, arg_and2, arg_or2, arg_tr, arg_ite, arg_tup, arg_lst, arg_ix, arg_sl, arg_rev, arg_call, arg_bi, arg_isi, arg_comp, arg_draw, bind_drw, blT_drw, then_drw, loop_drw, all_drw, all_ret, c_lt, c_le, c_gt, c_ge, c_eq, c_ne, c_isN, c_notN, cond_dec, cond_not, cond_and, cond_or, dr10, dr01, ex_ite, wt_nx, wt_rt, wt_ct, wt_bk, wt_drw, q_eq, F_inj, k_addl, k_addt, k_ap, rng2, line, rangeL, List.sum_cons, List.sum_nil, tyD, allTy, run]
        · by_cases k4 : w.x < 4 * m.det.nm
          · simp (maxSteps := 10000000) (implicitDefEqProofs := false) (disch := omega) [r_kind_of_map, i_kind_of_map, g_kind_of_map, MD, gd_eq, GD_inj, GD_neg, e1, e2, e4, et, ew, ed, hb, y0, kx, x0, k4, isn_n, isn_F, isn_i, G0, G1, S0, S1, M0, M1, b_ret, o_some, map_some, obind_some, k_add, k_sub, k_mul, k_ixl, k_ixt, ix_0, ix_1, ix_2, ix_3, ix_4, ix_5, ix_6, ix_7, ix_8, ix_9, ix_10, ix_11, ix_12, st_0, st_1, st_2, st_3, st_4, st_5, st_6, st_7, st_8, st_9, st_10, st_11, st_12, rd_0, rd_b, rd_l, rd_s, own_0, own_p, own_s, own_n, e_c, e_g, e_v, e_bin, neg_i, e_neg, e_cmp, e_chain, e_nt, e_and, e_or, e_tr, e_ite, e_tup, e_lst, e_ix, e_sl, e_rev, e_call, e_bi, e_isi, e_draw, e_comp, turn_cons, turn_nil, es_nil, es_cons, eS_nil, eS_cons, eC_nil, eC_cons, eA_nil, eA_cons, arg_st, bl_ret, x_nil, then_nx, then_rt, then_ct, then_bk, x_cns, x_bx, x_asgn, x_par, eR_nil, eR_cons, par_nil, par_cons, x_ixs, x_ap, x_ifs, x_rt, x_fr, loop_nx, loop_ct, loop_bk, loop_rt, for_nil, for_cons, bindA, List.replicate, List.cons_append, List.nil_append, a_nm, a_tt, a_tl, as_n, as_c, List.set_cons_zero, List.set_cons_succ, List.length_cons, List.length_nil, setS, boxS, cond_true, cond_false, Bool.and_true, Bool.and_false, Bool.true_and, Bool.false_and, if_true, lk_nil, lk_v, lk_c, lk_g, lk_bin, lk_neg, lk_cmp, lk_chain, lk_nt, lk_and2, lk_or2, lk_tr, lk_ite, lk_tup, lk_lst, lk_ix, lk_sl, lk_rev, lk_call, lk_bi, lk_isi, lk_comp, lk_comp2, lk_draw, ul_nil, ul_v, ul_c, ul_g, ul_bin, ul_neg, ul_cmp, ul_chain, ul_nt, ul_and2, ul_or2, ul_tr, ul_ite, ul_tup, ul_lst, ul_ix, ul_sl, ul_rev, ul_call, ul_bi, ul_isi, ul_comp, ul_comp2, ul_draw, isV, tgS, tgSs, wipeE, rt_v, rt_c, rt_g, rt_bin, rt_neg, rt_cmp, rt_chain, rt_nt, rt_and2, rt_or2, rt_tr, rt_ite, rt_tup, rt_lst, rt_ix, rt_sl, rt_rev, rt_call, rt_bi, rt_isi, rt_comp, rt_comp2, rt_draw, b_lenl, b_lent, b_lens, b_abs, b_sum, b_max, b_min, b_max2, b_min2, b_tupl, b_tupt, b_lstl, b_lstt, b_inti, b_intb, b_all, b_any, b_gcd, is_nil, is_cons, bs_nil, bs_cons, s_seql, s_seqt, s_seqs, s_r1, s_r2, s_zip, s_zipt, s_enum, s_enumt, s_rev, s_revt, s_rr, z_cons, z_nil, z_nil2, n_cons, n_nil, sl_l, sl_t, one_0, one_1, cut_from, cut_to, rv_l, tr_n, tr_b, tr_i, tr_l, tr_t, x_rtN, x_brk, x_cnt, x_pas, x_frz, x_drp, List.getElem?_cons_zero, List.getElem?_cons_succ, arg_c, arg_g, arg_bin, arg_neg, arg_cmp, arg_chain, arg_nt, arg_and2, arg_or2, arg_tr, arg_ite, arg_tup, arg_lst, arg_ix, arg_sl, arg_rev, arg_call, arg_bi, arg_isi, arg_comp, arg_draw, bind_drw, blT_drw, then_drw, loop_drw, all_drw, all_ret, c_lt, c_le, c_gt, c_ge, c_eq, c_ne, c_isN, c_notN, cond_dec, cond_not, cond_and, cond_or, dr10, dr01, ex_ite, wt_nx, wt_rt, wt_ct, wt_bk, wt_drw, q_eq, F_inj, k_addl, k_addt, k_ap, rng2, line, rangeL, List.sum_cons, List.sum_nil, tyD, allTy, run]
          · simp (maxSteps := 10000000) (implicitDefEqProofs := false) (disch := omega) [r_kind_of_map, i_kind_of_map, g_kind_of_map, MD, gd_eq, GD_inj, GD_neg, e1, e2, e4, et, ew, ed, hb, y0, kx, x0, k4, isn_n, isn_F, isn_i, G0, G1, S0, S1, M0, M1, b_ret, o_some, map_some, obind_some, k_add, k_sub, k_mul, k_ixl, k_ixt, ix_0, ix_1, ix_2, ix_3, ix_4, ix_5, ix_6, ix_7, ix_8, ix_9, ix_10, ix_11, ix_12, st_0, st_1, st_2, st_3, st_4, st_5, st_6, st_7, st_8, st_9, st_10, st_11, st_12, rd_0, rd_b, rd_l, rd_s, own_0, own_p, own_s, own_n, e_c, e_g, e_v, e_bin, neg_i, e_neg, e_cmp, e_chain, e_nt, e_and, e_or, e_tr, e_ite, e_tup, e_lst, e_ix, e_sl, e_rev, e_call, e_bi, e_isi, e_draw, e_comp, turn_cons, turn_nil, es_nil, es_cons, eS_nil, eS_cons, eC_nil, eC_cons, eA_nil, eA_cons, arg_st, bl_ret, x_nil, then_nx, then_rt, then_ct, then_bk, x_cns, x_bx, x_asgn, x_par, eR_nil, eR_cons, par_nil, par_cons, x_ixs, x_ap, x_ifs, x_rt, x_fr, loop_nx, loop_ct, loop_bk, loop_rt, for_nil, for_cons, bindA, List.replicate, List.cons_append, List.nil_append, a_nm, a_tt, a_tl, as_n, as_c, List.set_cons_zero, List.set_cons_succ, List.length_cons, List.length_nil, setS, boxS, cond_true, cond_false, Bool.and_true, Bool.and_false, Bool.true_and, Bool.false_and, if_true, lk_nil, lk_v, lk_c, lk_g, lk_bin, lk_neg, lk_cmp, lk_chain, lk_nt, lk_and2, lk_or2, lk_tr, lk_ite, lk_tup, lk_lst, lk_ix, lk_sl, lk_rev, lk_call, lk_bi, lk_isi, lk_comp, lk_comp2, lk_draw, ul_nil, ul_v, ul_c, ul_g, ul_bin, ul_neg, ul_cmp, ul_chain, ul_nt, ul_and2, ul_or2, ul_tr, ul_ite, ul_tup, ul_lst, ul_ix, ul_sl, ul_rev, ul_call, ul_bi, ul_isi, ul_comp, ul_comp2, ul_draw, isV, tgS, tgSs, wipeE, rt_v, rt_c, rt_g, rt_bin, rt_neg, rt_cmp, rt_chain, rt_nt, rt_and2, rt_or2, rt_tr, rt_ite, rt_tup, rt_lst, rt_ix, rt_sl, rt_rev, rt_call, rt_bi, rt_isi, rt_comp, rt_comp2, rt_draw, b_lenl, b_lent, b_lens, b_abs, b_sum, b_max, b_min, b_max2, b_min2, b_tupl, b_tupt, b_lstl, b_lstt, b_inti, b_intb, b_all, b_any, b_gcd, is_nil, is_cons, bs_nil, bs_cons, s_seql, s_seqt, s_seqs, s_r1, s_r2, s_zip, s_zipt, s_enum, s_enumt, s_rev, s_revt, s_rr, z_cons, z_nil, z_nil2, n_cons, n_nil, sl_l, sl_t, one_0, one_1, cut_from, cut_to, rv_l, tr_n, tr_b, tr_i, tr_l, tr_t, x_rtN, x_brk, x_cnt, x_pas, x_frz, x_drp, List.getElem?_cons_zero, List.getElem?_cons_succ, arg_c, arg_g, arg_bin, arg_neg, arg_cmp, arg_chain, arg_nt, arg_and2, arg_or2, arg_tr, arg_ite, arg_tup, arg_lst, arg_ix, arg_sl, arg_rev, arg_call, arg_bi, arg_isi, arg_comp, arg_draw, bind_drw, blT_drw, then_drw, loop_drw, all_drw, all_ret, c_lt, c_le, c_gt, c_ge, c_eq, c_ne, c_isN, c_notN, cond_dec, cond_not, cond_and, cond_or, dr10, dr01, ex_ite, wt_nx, wt_rt, wt_ct, wt_bk, wt_drw, q_eq, F_inj, k_addl, k_addt, k_ap, rng2, line, rangeL, List.sum_cons, List.sum_nil, tyD, allTy, run]
    · simp (maxSteps := 10000000) (implicitDefEqProofs := false) (disch := omega) [r_kind_of_map, i_kind_of_map, g_kind_of_map, MD, gd_eq, GD_inj, GD_neg, e1, e2, e4, et, ew, ed, hb, y0, isn_n, isn_F, isn_i, G0, G1, S0, S1, M0, M1, b_ret, o_some, map_some, obind_some, k_add, k_sub, k_mul, k_ixl, k_ixt, ix_0, ix_1, ix_2, ix_3, ix_4, ix_5, ix_6, ix_7, ix_8, ix_9, ix_10, ix_11, ix_12, st_0, st_1, st_2, st_3, st_4, st_5, st_6, st_7, st_8, st_9, st_10, st_11, st_12, rd_0, rd_b, rd_l, rd_s, own_0, own_p, own_s, own_n, e_c, e_g, e_v, e_bin, neg_i, e_neg, e_cmp, e_chain, e_nt, e_and, e_or, e_tr, e_ite, e_tup, e_lst, e_ix, e_sl, e_rev, e_call, e_bi, e_isi, e_draw, e_comp, turn_cons, turn_nil, es_nil, es_cons, eS_nil, eS_cons, eC_nil, eC_cons, eA_nil, eA_cons, arg_st, bl_ret, x_nil, then_nx, then_rt, then_ct, then_bk, x_cns, x_bx, x_asgn, x_par, eR_nil, eR_cons, par_nil, par_cons, x_ixs, x_ap, x_ifs, x_rt, x_fr, loop_nx, loop_ct, loop_bk, loop_rt, for_nil, for_cons, bindA, List.replicate, List.cons_append, List.nil_append, a_nm, a_tt, a_tl, as_n, as_c, List.set_cons_zero, List.set_cons_succ, List.length_cons, List.length_nil, setS, boxS, cond_true, cond_false, Bool.and_true, Bool.and_false, Bool.true_and, Bool.false_and, if_true, lk_nil, lk_v, lk_c, lk_g, lk_bin, lk_neg, lk_cmp, lk_chain, lk_nt, lk_and2, lk_or2, lk_tr, lk_ite, lk_tup, lk_lst, lk_ix, lk_sl, lk_rev, lk_call, lk_bi, lk_isi, lk_comp, lk_comp2, lk_draw, ul_nil, ul_v, ul_c, ul_g, ul_bin, ul_neg, ul_cmp, ul_chain, ul_nt, ul_and2, ul_or2, ul_tr, ul_ite, ul_tup, ul_lst, ul_ix, ul_sl, ul_rev, ul_call, ul_bi, ul_isi, ul_comp, ul_comp2, ul_draw, isV, tgS, tgSs, wipeE, rt_v, rt_c, rt_g, rt_bin, rt_neg, rt_cmp, rt_chain, rt_nt, rt_and2, rt_or2, rt_tr, rt_ite, rt_tup, rt_lst, rt_ix, rt_sl, rt_rev, rt_call, rt_bi, rt_isi, rt_comp, rt_comp2, rt_draw, b_lenl, b_lent, b_lens, b_abs, b_sum, b_max, b_min, b_max2, b_min2, b_tupl, b_tupt, b_lstl, b_lstt, b_inti, b_intb, b_all, b_any, b_gcd, is_nil, is_cons, bs_nil, bs_cons, s_seql, s_seqt, s_seqs, s_r1, s_r2, s_zip, s_zipt, s_enum, s_enumt, s_rev, s_revt, s_rr, z_cons, z_nil, z_nil2, n_cons, n_nil, sl_l, sl_t, one_0, one_1, cut_from, cut_to, rv_l, tr_n, tr_b, tr_i, tr_l, tr_t, x_rtN, x_brk, x_cnt, x_pas, x_frz, x_drp, List.getElem?_cons_zero, List.getElem?_cons_succ, arg_c, arg_g, arg_bin, arg_neg, arg_cmp, arg_chain, arg_nt, arg_and2, arg_or2, arg_tr, arg_ite, arg_tup, arg_lst, arg_ix, arg_sl, arg_rev, arg_call, arg_bi, arg_isi, arg_comp, arg_draw, bind_drw, blT_drw, then_drw, loop_drw, all_drw, all_ret, c_lt, c_le, c_gt, c_ge, c_eq, c_ne, c_isN, c_notN, cond_dec, cond_not, cond_and, cond_or, dr10, dr01, ex_ite, wt_nx, wt_rt, wt_ct, wt_bk, wt_drw, q_eq, F_inj, k_addl, k_addt, k_ap, rng2, line, rangeL, List.sum_cons, List.sum_nil, tyD, allTy, run]
end K91

set_option Elab.async false
set_option linter.all false
set_option maxRecDepth 100000
set_option maxHeartbeats 8000000
namespace K91
open FF
theorem sm_one {b : G2} : b.sm 1 = b := by apply G2.ext' <;> simp [G2.sm]
theorem sd_eq {s : Sp} {a b c : Int} : (SD s = .tup [.tup [.int a, .int b], .int c]) = (s.1.x = a ∧ s.1.y = b ∧ s.2 = c) := by
  unfold SD GD; simp [and_assoc]
theorem sp_facts {u v : G2} (hv : v ≠ .zero) : ∃ g : Int, 0 < g ∧ (u.mul v.conj).x = g * (sp u v).1.x ∧ (u.mul v.conj).y = g * (sp u v).1.y ∧ v.nm = g * (sp u v).2 ∧ 0 < (sp u v).2 := by
  rw [sp_near hv]
  have p := G2.nm_pos hv
  obtain ⟨d1, d2, d3⟩ := g3_dvd (u.mul v.conj).x (u.mul v.conj).y v.nm
  have gp := g3_pos (a := (u.mul v.conj).x) (b := (u.mul v.conj).y) p
  refine ⟨(g3 (u.mul v.conj).x (u.mul v.conj).y v.nm : Int), by omega, (Int.mul_ediv_cancel' d1).symm, (Int.mul_ediv_cancel' d2).symm, (Int.mul_ediv_cancel' d3).symm, ?_⟩
  exact Int.ediv_pos_of_pos_of_dvd p (by omega) d3
theorem sp_one {u v : G2} (hv : v ≠ .zero) (hy : (sp u v).1.y = 0) (hx : (sp u v).1.x = 4 * (sp u v).2) : (sp u v).2 = 1 := by
  have p := G2.nm_pos hv
  have gp := g3_pos (a := (u.mul v.conj).x) (b := (u.mul v.conj).y) p
  obtain ⟨d1, d2, d3⟩ := g3_dvd (u.mul v.conj).x (u.mul v.conj).y v.nm
  rw [sp_near hv] at hy hx ⊢
  dsimp only at hy hx ⊢
  have k1 := Int.mul_ediv_cancel' d1
  have k2 := Int.mul_ediv_cancel' d2
  have k3 := Int.mul_ediv_cancel' d3
  rw [hy] at k2
  have hw : (u.mul v.conj).x = 4 * v.nm := by rw [← k1, hx]; grind
  have hy2 : (u.mul v.conj).y = 0 := by omega
  have hg : (g3 (u.mul v.conj).x (u.mul v.conj).y v.nm : Int) = v.nm := by
    rw [hw, hy2]
    unfold g3
    rw [Int.gcd_zero_right, Int.gcd, Int.natAbs_natCast, Int.natAbs_mul, Nat.gcd_eq_right (Nat.dvd_mul_left _ _)]
    omega
  rw [hg]
  exact Int.ediv_self (by omega)
theorem div_facts {a b : Int} (hb : 0 < b) : ((Rat.divInt a b).num < 0 ↔ a < 0) ∧ ((Rat.divInt a b).num < 4 * ((Rat.divInt a b).den : Int) ↔ a < 4 * b) := by
  have e : (Rat.divInt a b).num * b = a * (Rat.divInt a b).den := by
    have := Rat.num_divInt_den (Rat.divInt a b)
    rw [Rat.divInt_eq_divInt_iff (by have := @den_pos (Rat.divInt a b); omega) (by omega)] at this
    exact this
  have hd := @den_pos (Rat.divInt a b)
  generalize (Rat.divInt a b).num = n at *
  generalize ((Rat.divInt a b).den : Int) = d at *
  constructor
  · constructor
    · intro h
      have h1 := Int.mul_neg_of_neg_of_pos h hb
      rw [e] at h1
      rcases Int.lt_or_le a 0 with z | z
      · exact z
      · have := Int.mul_nonneg z (show 0 ≤ d by omega); omega
    · intro h
      have h1 := Int.mul_neg_of_neg_of_pos h hd
      rw [← e] at h1
      rcases Int.lt_or_le n 0 with z | z
      · exact z
      · have := Int.mul_nonneg z (show 0 ≤ b by omega); omega
  · have e2 : (n - 4 * d) * b = (a - 4 * b) * d := by grind
    constructor
    · intro h
      have h1 := Int.mul_neg_of_neg_of_pos (show n - 4 * d < 0 by omega) hb
      rw [e2] at h1
      rcases Int.lt_or_le (a - 4 * b) 0 with z | z
      · omega
      · have := Int.mul_nonneg z (show 0 ≤ d by omega); omega
    · intro h
      have h1 := Int.mul_neg_of_neg_of_pos (show a - 4 * b < 0 by omega) hd
      rw [← e2] at h1
      rcases Int.lt_or_le (n - 4 * d) 0 with z | z
      · omega
      · have := Int.mul_nonneg z (show 0 ≤ b by omega); omega
theorem p_lowest {a b : Int} {m n : Nat} [Sm m a] [Sm n b] (h : b ≠ 0) (hm : m ≤ 8000) (hn : n ≤ 8000) : r__law_lowest [.d (.int a), .d (.int b)] = .ret (F (Rat.divInt a b), false) := law_lowest h hm hn
theorem pos_iff {g a : Int} (h : 0 < g) : (g * a < 0 ↔ a < 0) ∧ (g * a = 0 ↔ a = 0) := by
  constructor
  · constructor
    · intro z
      rcases Int.lt_or_le a 0 with y | y
      · exact y
      · have := Int.mul_nonneg (show 0 ≤ g by omega) y; omega
    · intro z; exact Int.mul_neg_of_pos_of_neg h z
  · rw [Int.mul_eq_zero]; omega
theorem p__law_kind {m : M2} {p : Nat} [SmT p m] (h : p ≤ 60) (hd : m.det ≠ .zero) : r__law_kind_of [.d (MD m)] = .ret (kd m, false) := by
  have it : SmG (p + p + 1) (m.a.add m.d) := inferInstance
  have id' : SmG (p + p + p + p + 4) m.det := inferInstance
  have e1 : r__law_two_plus [.d (GD (m.a.mul m.d)), .d (GD (m.b.mul m.c)), .d (.int (-1))] = .ret (GD m.det, false) := p_plus (by omega)
  have i1 : Sm 1 1 := ⟨by decide⟩
  have e2 : r__law_two_plus [.d (GD m.a), .d (GD m.d), .d (.int 1)] = .ret (GD m.tr, false) := by
    have := p_plus (a := m.a) (b := m.d) (k := 1) (by omega)
    rw [sm_one] at this
    exact this
  have it : SmG (p + p + 1) m.tr := it
  have et : r__law_two_times [.d (GD m.tr), .d (GD m.tr)] = .ret (GD (m.tr.mul m.tr), false) := p_times (by omega)
  have ew := p_spot (u := m.tr.mul m.tr) (v := m.det) (by omega) (by omega)
  have is : SmS (p + p + 1 + (p + p + 1) + 1 + (p + p + p + p + 4) + (p + p + p + p + 4) + 2) (sp (m.tr.mul m.tr) m.det) := inferInstance
  obtain ⟨g, g0, w1, w2, w3, w4⟩ := sp_facts (u := m.tr.mul m.tr) hd
  have el := p_lowest (a := (sp (m.tr.mul m.tr) m.det).1.x) (b := (sp (m.tr.mul m.tr) m.det).2) (by omega) (by omega) (by omega)
  obtain ⟨r3, r4⟩ := div_facts (a := (sp (m.tr.mul m.tr) m.det).1.x) w4
  have q1 := sp_one (u := m.tr.mul m.tr) hd
  have q2 : (sp (m.tr.mul m.tr) m.det).1.y = 0 ↔ ((m.tr.mul m.tr).mul m.det.conj).y = 0 := by rw [w2]; exact (pos_iff g0).2.symm
  have q3 : (sp (m.tr.mul m.tr) m.det).1.x < 0 ↔ ((m.tr.mul m.tr).mul m.det.conj).x < 0 := by rw [w1]; exact (pos_iff g0).1.symm
  have q4 : (sp (m.tr.mul m.tr) m.det).1.x < 4 * (sp (m.tr.mul m.tr) m.det).2 ↔ ((m.tr.mul m.tr).mul m.det.conj).x < 4 * m.det.nm := by
    rw [w1, w3]
    have := (pos_iff (a := (sp (m.tr.mul m.tr) m.det).1.x - 4 * (sp (m.tr.mul m.tr) m.det).2) g0).1
    rw [Int.mul_sub, show g * (4 * (sp (m.tr.mul m.tr) m.det).2) = 4 * (g * (sp (m.tr.mul m.tr) m.det).2) by grind] at this
    omega
  have q5 : (sp (m.tr.mul m.tr) m.det).1.x = 4 * (sp (m.tr.mul m.tr) m.det).2 ↔ ((m.tr.mul m.tr).mul m.det.conj).x = 4 * m.det.nm := by
    rw [w1, w3]
    have := (pos_iff (a := (sp (m.tr.mul m.tr) m.det).1.x - 4 * (sp (m.tr.mul m.tr) m.det).2) g0).2
    rw [Int.mul_sub, show g * (4 * (sp (m.tr.mul m.tr) m.det).2) = 4 * (g * (sp (m.tr.mul m.tr) m.det).2) by grind] at this
    omega
  have q6 : ¬ (sp (m.tr.mul m.tr) m.det).1.x = 4 * (sp (m.tr.mul m.tr) m.det).2 → ¬ ((sp (m.tr.mul m.tr) m.det).1.x = 4 ∧ (sp (m.tr.mul m.tr) m.det).1.y = 0 ∧ (sp (m.tr.mul m.tr) m.det).2 = 1) := by
    rintro z ⟨z1, z2, z3⟩; omega
  unfold kd
  generalize m.tr.mul m.tr = t at *
  by_cases hb : m.b.x = 0 ∧ m.b.y = 0
  · by_cases hc : m.c.x = 0 ∧ m.c.y = 0
    · by_cases ha : m.a = m.d
      · rw [if_pos ⟨hb, hc, ha⟩]
        simp (maxSteps := 10000000) (implicitDefEqProofs := false) (disch := omega) [r__law_kind_of, i__law_kind_of, g__law_kind_of, MD, gd_eq, GD_inj, hb, hc, ha, isn_n, isn_F, isn_i, G0, G1, S0, S1, M0, M1, b_ret, o_some, map_some, obind_some, k_add, k_sub, k_mul, k_ixl, k_ixt, ix_0, ix_1, ix_2, ix_3, ix_4, ix_5, ix_6, ix_7, ix_8, ix_9, ix_10, ix_11, ix_12, st_0, st_1, st_2, st_3, st_4, st_5, st_6, st_7, st_8, st_9, st_10, st_11, st_12, rd_0, rd_b, rd_l, rd_s, own_0, own_p, own_s, own_n, e_c, e_g, e_v, e_bin, neg_i, e_neg, e_cmp, e_chain, e_nt, e_and, e_or, e_tr, e_ite, e_tup, e_lst, e_ix, e_sl, e_rev, e_call, e_bi, e_isi, e_draw, e_comp, turn_cons, turn_nil, es_nil, es_cons, eS_nil, eS_cons, eC_nil, eC_cons, eA_nil, eA_cons, arg_st, bl_ret, x_nil, then_nx, then_rt, then_ct, then_bk, x_cns, x_bx, x_asgn, x_par, eR_nil, eR_cons, par_nil, par_cons, x_ixs, x_ap, x_ifs, x_rt, x_fr, loop_nx, loop_ct, loop_bk, loop_rt, for_nil, for_cons, bindA, List.replicate, List.cons_append, List.nil_append, a_nm, a_tt, a_tl, as_n, as_c, List.set_cons_zero, List.set_cons_succ, List.length_cons, List.length_nil, setS, boxS, cond_true, cond_false, Bool.and_true, Bool.and_false, Bool.true_and, Bool.false_and, if_true, lk_nil, lk_v, lk_c, lk_g, lk_bin, lk_neg, lk_cmp, lk_chain, lk_nt, lk_and2, lk_or2, lk_tr, lk_ite, lk_tup, lk_lst, lk_ix, lk_sl, lk_rev, lk_call, lk_bi, lk_isi, lk_comp, lk_comp2, lk_draw, ul_nil, ul_v, ul_c, ul_g, ul_bin, ul_neg, ul_cmp, ul_chain, ul_nt, ul_and2, ul_or2, ul_tr, ul_ite, ul_tup, ul_lst, ul_ix, ul_sl, ul_rev, ul_call, ul_bi, ul_isi, ul_comp, ul_comp2, ul_draw, isV, tgS, tgSs, wipeE, rt_v, rt_c, rt_g, rt_bin, rt_neg, rt_cmp, rt_chain, rt_nt, rt_and2, rt_or2, rt_tr, rt_ite, rt_tup, rt_lst, rt_ix, rt_sl, rt_rev, rt_call, rt_bi, rt_isi, rt_comp, rt_comp2, rt_draw, b_lenl, b_lent, b_lens, b_abs, b_sum, b_max, b_min, b_max2, b_min2, b_tupl, b_tupt, b_lstl, b_lstt, b_inti, b_intb, b_all, b_any, b_gcd, is_nil, is_cons, bs_nil, bs_cons, s_seql, s_seqt, s_seqs, s_r1, s_r2, s_zip, s_zipt, s_enum, s_enumt, s_rev, s_revt, s_rr, z_cons, z_nil, z_nil2, n_cons, n_nil, sl_l, sl_t, one_0, one_1, cut_from, cut_to, rv_l, tr_n, tr_b, tr_i, tr_l, tr_t, x_rtN, x_brk, x_cnt, x_pas, x_frz, x_drp, List.getElem?_cons_zero, List.getElem?_cons_succ, arg_c, arg_g, arg_bin, arg_neg, arg_cmp, arg_chain, arg_nt, arg_and2, arg_or2, arg_tr, arg_ite, arg_tup, arg_lst, arg_ix, arg_sl, arg_rev, arg_call, arg_bi, arg_isi, arg_comp, arg_draw, bind_drw, blT_drw, then_drw, loop_drw, all_drw, all_ret, c_lt, c_le, c_gt, c_ge, c_eq, c_ne, c_isN, c_notN, cond_dec, cond_not, cond_and, cond_or, dr10, dr01, ex_ite, wt_nx, wt_rt, wt_ct, wt_bk, wt_drw, q_eq, F_inj, k_addl, k_addt, k_ap, rng2, line, rangeL, List.sum_cons, List.sum_nil, tyD, allTy, run]
      · rw [if_neg fun z => ha z.2.2]
        by_cases y0 : (sp t m.det).1.y = 0
        · have y0' := q2.mp y0
          by_cases kx : (sp t m.det).1.x = 4 * (sp t m.det).2
          · have kx' := q5.mp kx
            have z := q1 y0 kx
            have sdq : (SD (sp t m.det) = .tup [.tup [.int 4, .int 0], .int 1]) = True := by rw [sd_eq]; exact eq_true ⟨by omega, y0, z⟩
            simp (maxSteps := 10000000) (implicitDefEqProofs := false) (disch := omega) [r__law_kind_of, i__law_kind_of, g__law_kind_of, MD, gd_eq, GD_inj, sm_one, e1, e2, et, ew, el, F0, F1, hb, hc, ha, p_times, p_spot, y0, y0', kx', sdq, isn_n, isn_F, isn_i, G0, G1, S0, S1, M0, M1, b_ret, o_some, map_some, obind_some, k_add, k_sub, k_mul, k_ixl, k_ixt, ix_0, ix_1, ix_2, ix_3, ix_4, ix_5, ix_6, ix_7, ix_8, ix_9, ix_10, ix_11, ix_12, st_0, st_1, st_2, st_3, st_4, st_5, st_6, st_7, st_8, st_9, st_10, st_11, st_12, rd_0, rd_b, rd_l, rd_s, own_0, own_p, own_s, own_n, e_c, e_g, e_v, e_bin, neg_i, e_neg, e_cmp, e_chain, e_nt, e_and, e_or, e_tr, e_ite, e_tup, e_lst, e_ix, e_sl, e_rev, e_call, e_bi, e_isi, e_draw, e_comp, turn_cons, turn_nil, es_nil, es_cons, eS_nil, eS_cons, eC_nil, eC_cons, eA_nil, eA_cons, arg_st, bl_ret, x_nil, then_nx, then_rt, then_ct, then_bk, x_cns, x_bx, x_asgn, x_par, eR_nil, eR_cons, par_nil, par_cons, x_ixs, x_ap, x_ifs, x_rt, x_fr, loop_nx, loop_ct, loop_bk, loop_rt, for_nil, for_cons, bindA, List.replicate, List.cons_append, List.nil_append, a_nm, a_tt, a_tl, as_n, as_c, List.set_cons_zero, List.set_cons_succ, List.length_cons, List.length_nil, setS, boxS, cond_true, cond_false, Bool.and_true, Bool.and_false, Bool.true_and, Bool.false_and, if_true, lk_nil, lk_v, lk_c, lk_g, lk_bin, lk_neg, lk_cmp, lk_chain, lk_nt, lk_and2, lk_or2, lk_tr, lk_ite, lk_tup, lk_lst, lk_ix, lk_sl, lk_rev, lk_call, lk_bi, lk_isi, lk_comp, lk_comp2, lk_draw, ul_nil, ul_v, ul_c, ul_g, ul_bin, ul_neg, ul_cmp, ul_chain, ul_nt, ul_and2, ul_or2, ul_tr, ul_ite, ul_tup, ul_lst, ul_ix, ul_sl, ul_rev, ul_call, ul_bi, ul_isi, ul_comp, ul_comp2, ul_draw, isV, tgS, tgSs, wipeE, rt_v, rt_c, rt_g, rt_bin, rt_neg, rt_cmp, rt_chain, rt_nt, rt_and2, rt_or2, rt_tr, rt_ite, rt_tup, rt_lst, rt_ix, rt_sl, rt_rev, rt_call, rt_bi, rt_isi, rt_comp, rt_comp2, rt_draw, b_lenl, b_lent, b_lens, b_abs, b_sum, b_max, b_min, b_max2, b_min2, b_tupl, b_tupt, b_lstl, b_lstt, b_inti, b_intb, b_all, b_any, b_gcd, is_nil, is_cons, bs_nil, bs_cons, s_seql, s_seqt, s_seqs, s_r1, s_r2, s_zip, s_zipt, s_enum, s_enumt, s_rev, s_revt, s_rr, z_cons, z_nil, z_nil2, n_cons, n_nil, sl_l, sl_t, one_0, one_1, cut_from, cut_to, rv_l, tr_n, tr_b, tr_i, tr_l, tr_t, x_rtN, x_brk, x_cnt, x_pas, x_frz, x_drp, List.getElem?_cons_zero, List.getElem?_cons_succ, arg_c, arg_g, arg_bin, arg_neg, arg_cmp, arg_chain, arg_nt, arg_and2, arg_or2, arg_tr, arg_ite, arg_tup, arg_lst, arg_ix, arg_sl, arg_rev, arg_call, arg_bi, arg_isi, arg_comp, arg_draw, bind_drw, blT_drw, then_drw, loop_drw, all_drw, all_ret, c_lt, c_le, c_gt, c_ge, c_eq, c_ne, c_isN, c_notN, cond_dec, cond_not, cond_and, cond_or, dr10, dr01, ex_ite, wt_nx, wt_rt, wt_ct, wt_bk, wt_drw, q_eq, F_inj, k_addl, k_addt, k_ap, rng2, line, rangeL, List.sum_cons, List.sum_nil, tyD, allTy, run]
          · have kx' : ¬ _ := fun z => kx (q5.mpr z)
            have sdq : (SD (sp t m.det) = .tup [.tup [.int 4, .int 0], .int 1]) = False := by rw [sd_eq]; exact eq_false (q6 kx)
            by_cases x0 : (sp t m.det).1.x < 0
            · have x0' := q3.mp x0
              have r0 := r3.mpr x0
              simp (maxSteps := 10000000) (implicitDefEqProofs := false) (disch := omega) [r__law_kind_of, i__law_kind_of, g__law_kind_of, MD, gd_eq, GD_inj, sm_one, e1, e2, et, ew, el, F0, F1, hb, hc, ha, p_times, p_spot, y0, y0', sdq, kx', x0', r0, isn_n, isn_F, isn_i, G0, G1, S0, S1, M0, M1, b_ret, o_some, map_some, obind_some, k_add, k_sub, k_mul, k_ixl, k_ixt, ix_0, ix_1, ix_2, ix_3, ix_4, ix_5, ix_6, ix_7, ix_8, ix_9, ix_10, ix_11, ix_12, st_0, st_1, st_2, st_3, st_4, st_5, st_6, st_7, st_8, st_9, st_10, st_11, st_12, rd_0, rd_b, rd_l, rd_s, own_0, own_p, own_s, own_n, e_c, e_g, e_v, e_bin, neg_i, e_neg, e_cmp, e_chain, e_nt, e_and, e_or, e_tr, e_ite, e_tup, e_lst, e_ix, e_sl, e_rev, e_call, e_bi, e_isi, e_draw, e_comp, turn_cons, turn_nil, es_nil, es_cons, eS_nil, eS_cons, eC_nil, eC_cons, eA_nil, eA_cons, arg_st, bl_ret, x_nil, then_nx, then_rt, then_ct, then_bk, x_cns, x_bx, x_asgn, x_par, eR_nil, eR_cons, par_nil, par_cons, x_ixs, x_ap, x_ifs, x_rt, x_fr, loop_nx, loop_ct, loop_bk, loop_rt, for_nil, for_cons, bindA, List.replicate, List.cons_append, List.nil_append, a_nm, a_tt, a_tl, as_n, as_c, List.set_cons_zero, List.set_cons_succ, List.length_cons, List.length_nil, setS, boxS, cond_true, cond_false, Bool.and_true, Bool.and_false, Bool.true_and, Bool.false_and, if_true, lk_nil, lk_v, lk_c, lk_g, lk_bin, lk_neg, lk_cmp, lk_chain, lk_nt, lk_and2, lk_or2, lk_tr, lk_ite, lk_tup, lk_lst, lk_ix, lk_sl, lk_rev, lk_call, lk_bi, lk_isi, lk_comp, lk_comp2, lk_draw, ul_nil, ul_v, ul_c, ul_g, ul_bin, ul_neg, ul_cmp, ul_chain, ul_nt, ul_and2, ul_or2, ul_tr, ul_ite, ul_tup, ul_lst, ul_ix, ul_sl, ul_rev, ul_call, ul_bi, ul_isi, ul_comp, ul_comp2, ul_draw, isV, tgS, tgSs, wipeE, rt_v, rt_c, rt_g, rt_bin, rt_neg, rt_cmp, rt_chain, rt_nt, rt_and2, rt_or2, rt_tr, rt_ite, rt_tup, rt_lst, rt_ix, rt_sl, rt_rev, rt_call, rt_bi, rt_isi, rt_comp, rt_comp2, rt_draw, b_lenl, b_lent, b_lens, b_abs, b_sum, b_max, b_min, b_max2, b_min2, b_tupl, b_tupt, b_lstl, b_lstt, b_inti, b_intb, b_all, b_any, b_gcd, is_nil, is_cons, bs_nil, bs_cons, s_seql, s_seqt, s_seqs, s_r1, s_r2, s_zip, s_zipt, s_enum, s_enumt, s_rev, s_revt, s_rr, z_cons, z_nil, z_nil2, n_cons, n_nil, sl_l, sl_t, one_0, one_1, cut_from, cut_to, rv_l, tr_n, tr_b, tr_i, tr_l, tr_t, x_rtN, x_brk, x_cnt, x_pas, x_frz, x_drp, List.getElem?_cons_zero, List.getElem?_cons_succ, arg_c, arg_g, arg_bin, arg_neg, arg_cmp, arg_chain, arg_nt, arg_and2, arg_or2, arg_tr, arg_ite, arg_tup, arg_lst, arg_ix, arg_sl, arg_rev, arg_call, arg_bi, arg_isi, arg_comp, arg_draw, bind_drw, blT_drw, then_drw, loop_drw, all_drw, all_ret, c_lt, c_le, c_gt, c_ge, c_eq, c_ne, c_isN, c_notN, cond_dec, cond_not, cond_and, cond_or, dr10, dr01, ex_ite, wt_nx, wt_rt, wt_ct, wt_bk, wt_drw, q_eq, F_inj, k_addl, k_addt, k_ap, rng2, line, rangeL, List.sum_cons, List.sum_nil, tyD, allTy, run]
            · have x0' : ¬ _ := fun z => x0 (q3.mpr z)
              have r0 : ¬ _ := fun z => x0 (r3.mp z)
              by_cases k4 : (sp t m.det).1.x < 4 * (sp t m.det).2
              · have k4' := q4.mp k4
                have r4' := r4.mpr k4
                simp (maxSteps := 10000000) (implicitDefEqProofs := false) (disch := omega) [r__law_kind_of, i__law_kind_of, g__law_kind_of, MD, gd_eq, GD_inj, sm_one, e1, e2, et, ew, el, F0, F1, hb, hc, ha, p_times, p_spot, y0, y0', sdq, kx', x0', r0, k4', r4', isn_n, isn_F, isn_i, G0, G1, S0, S1, M0, M1, b_ret, o_some, map_some, obind_some, k_add, k_sub, k_mul, k_ixl, k_ixt, ix_0, ix_1, ix_2, ix_3, ix_4, ix_5, ix_6, ix_7, ix_8, ix_9, ix_10, ix_11, ix_12, st_0, st_1, st_2, st_3, st_4, st_5, st_6, st_7, st_8, st_9, st_10, st_11, st_12, rd_0, rd_b, rd_l, rd_s, own_0, own_p, own_s, own_n, e_c, e_g, e_v, e_bin, neg_i, e_neg, e_cmp, e_chain, e_nt, e_and, e_or, e_tr, e_ite, e_tup, e_lst, e_ix, e_sl, e_rev, e_call, e_bi, e_isi, e_draw, e_comp, turn_cons, turn_nil, es_nil, es_cons, eS_nil, eS_cons, eC_nil, eC_cons, eA_nil, eA_cons, arg_st, bl_ret, x_nil, then_nx, then_rt, then_ct, then_bk, x_cns, x_bx, x_asgn, x_par, eR_nil, eR_cons, par_nil, par_cons, x_ixs, x_ap, x_ifs, x_rt, x_fr, loop_nx, loop_ct, loop_bk, loop_rt, for_nil, for_cons, bindA, List.replicate, List.cons_append, List.nil_append, a_nm, a_tt, a_tl, as_n, as_c, List.set_cons_zero, List.set_cons_succ, List.length_cons, List.length_nil, setS, boxS, cond_true, cond_false, Bool.and_true, Bool.and_false, Bool.true_and, Bool.false_and, if_true, lk_nil, lk_v, lk_c, lk_g, lk_bin, lk_neg, lk_cmp, lk_chain, lk_nt, lk_and2, lk_or2, lk_tr, lk_ite, lk_tup, lk_lst, lk_ix, lk_sl, lk_rev, lk_call, lk_bi, lk_isi, lk_comp, lk_comp2, lk_draw, ul_nil, ul_v, ul_c, ul_g, ul_bin, ul_neg, ul_cmp, ul_chain, ul_nt, ul_and2, ul_or2, ul_tr, ul_ite, ul_tup, ul_lst, ul_ix, ul_sl, ul_rev, ul_call, ul_bi, ul_isi, ul_comp, ul_comp2, ul_draw, isV, tgS, tgSs, wipeE, rt_v, rt_c, rt_g, rt_bin, rt_neg, rt_cmp, rt_chain, rt_nt, rt_and2, rt_or2, rt_tr, rt_ite, rt_tup, rt_lst, rt_ix, rt_sl, rt_rev, rt_call, rt_bi, rt_isi, rt_comp, rt_comp2, rt_draw, b_lenl, b_lent, b_lens, b_abs, b_sum, b_max, b_min, b_max2, b_min2, b_tupl, b_tupt, b_lstl, b_lstt, b_inti, b_intb, b_all, b_any, b_gcd, is_nil, is_cons, bs_nil, bs_cons, s_seql, s_seqt, s_seqs, s_r1, s_r2, s_zip, s_zipt, s_enum, s_enumt, s_rev, s_revt, s_rr, z_cons, z_nil, z_nil2, n_cons, n_nil, sl_l, sl_t, one_0, one_1, cut_from, cut_to, rv_l, tr_n, tr_b, tr_i, tr_l, tr_t, x_rtN, x_brk, x_cnt, x_pas, x_frz, x_drp, List.getElem?_cons_zero, List.getElem?_cons_succ, arg_c, arg_g, arg_bin, arg_neg, arg_cmp, arg_chain, arg_nt, arg_and2, arg_or2, arg_tr, arg_ite, arg_tup, arg_lst, arg_ix, arg_sl, arg_rev, arg_call, arg_bi, arg_isi, arg_comp, arg_draw, bind_drw, blT_drw, then_drw, loop_drw, all_drw, all_ret, c_lt, c_le, c_gt, c_ge, c_eq, c_ne, c_isN, c_notN, cond_dec, cond_not, cond_and, cond_or, dr10, dr01, ex_ite, wt_nx, wt_rt, wt_ct, wt_bk, wt_drw, q_eq, F_inj, k_addl, k_addt, k_ap, rng2, line, rangeL, List.sum_cons, List.sum_nil, tyD, allTy, run]
              · have k4' : ¬ _ := fun z => k4 (q4.mpr z)
                have r4' : ¬ _ := fun z => k4 (r4.mp z)
                simp (maxSteps := 10000000) (implicitDefEqProofs := false) (disch := omega) [r__law_kind_of, i__law_kind_of, g__law_kind_of, MD, gd_eq, GD_inj, sm_one, e1, e2, et, ew, el, F0, F1, hb, hc, ha, p_times, p_spot, y0, y0', sdq, kx', x0', r0, k4', r4', isn_n, isn_F, isn_i, G0, G1, S0, S1, M0, M1, b_ret, o_some, map_some, obind_some, k_add, k_sub, k_mul, k_ixl, k_ixt, ix_0, ix_1, ix_2, ix_3, ix_4, ix_5, ix_6, ix_7, ix_8, ix_9, ix_10, ix_11, ix_12, st_0, st_1, st_2, st_3, st_4, st_5, st_6, st_7, st_8, st_9, st_10, st_11, st_12, rd_0, rd_b, rd_l, rd_s, own_0, own_p, own_s, own_n, e_c, e_g, e_v, e_bin, neg_i, e_neg, e_cmp, e_chain, e_nt, e_and, e_or, e_tr, e_ite, e_tup, e_lst, e_ix, e_sl, e_rev, e_call, e_bi, e_isi, e_draw, e_comp, turn_cons, turn_nil, es_nil, es_cons, eS_nil, eS_cons, eC_nil, eC_cons, eA_nil, eA_cons, arg_st, bl_ret, x_nil, then_nx, then_rt, then_ct, then_bk, x_cns, x_bx, x_asgn, x_par, eR_nil, eR_cons, par_nil, par_cons, x_ixs, x_ap, x_ifs, x_rt, x_fr, loop_nx, loop_ct, loop_bk, loop_rt, for_nil, for_cons, bindA, List.replicate, List.cons_append, List.nil_append, a_nm, a_tt, a_tl, as_n, as_c, List.set_cons_zero, List.set_cons_succ, List.length_cons, List.length_nil, setS, boxS, cond_true, cond_false, Bool.and_true, Bool.and_false, Bool.true_and, Bool.false_and, if_true, lk_nil, lk_v, lk_c, lk_g, lk_bin, lk_neg, lk_cmp, lk_chain, lk_nt, lk_and2, lk_or2, lk_tr, lk_ite, lk_tup, lk_lst, lk_ix, lk_sl, lk_rev, lk_call, lk_bi, lk_isi, lk_comp, lk_comp2, lk_draw, ul_nil, ul_v, ul_c, ul_g, ul_bin, ul_neg, ul_cmp, ul_chain, ul_nt, ul_and2, ul_or2, ul_tr, ul_ite, ul_tup, ul_lst, ul_ix, ul_sl, ul_rev, ul_call, ul_bi, ul_isi, ul_comp, ul_comp2, ul_draw, isV, tgS, tgSs, wipeE, rt_v, rt_c, rt_g, rt_bin, rt_neg, rt_cmp, rt_chain, rt_nt, rt_and2, rt_or2, rt_tr, rt_ite, rt_tup, rt_lst, rt_ix, rt_sl, rt_rev, rt_call, rt_bi, rt_isi, rt_comp, rt_comp2, rt_draw, b_lenl, b_lent, b_lens, b_abs, b_sum, b_max, b_min, b_max2, b_min2, b_tupl, b_tupt, b_lstl, b_lstt, b_inti, b_intb, b_all, b_any, b_gcd, is_nil, is_cons, bs_nil, bs_cons, s_seql, s_seqt, s_seqs, s_r1, s_r2, s_zip, s_zipt, s_enum, s_enumt, s_rev, s_revt, s_rr, z_cons, z_nil, z_nil2, n_cons, n_nil, sl_l, sl_t, one_0, one_1, cut_from, cut_to, rv_l, tr_n, tr_b, tr_i, tr_l, tr_t, x_rtN, x_brk, x_cnt, x_pas, x_frz, x_drp, List.getElem?_cons_zero, List.getElem?_cons_succ, arg_c, arg_g, arg_bin, arg_neg, arg_cmp, arg_chain, arg_nt, arg_and2, arg_or2, arg_tr, arg_ite, arg_tup, arg_lst, arg_ix, arg_sl, arg_rev, arg_call, arg_bi, arg_isi, arg_comp, arg_draw, bind_drw, blT_drw, then_drw, loop_drw, all_drw, all_ret, c_lt, c_le, c_gt, c_ge, c_eq, c_ne, c_isN, c_notN, cond_dec, cond_not, cond_and, cond_or, dr10, dr01, ex_ite, wt_nx, wt_rt, wt_ct, wt_bk, wt_drw, q_eq, F_inj, k_addl, k_addt, k_ap, rng2, line, rangeL, List.sum_cons, List.sum_nil, tyD, allTy, run]
        · have y0' : ¬ _ := fun z => y0 (q2.mpr z)
          have sdq : (SD (sp t m.det) = .tup [.tup [.int 4, .int 0], .int 1]) = False := by rw [sd_eq]; exact eq_false fun z => y0 z.2.1
          simp (maxSteps := 10000000) (implicitDefEqProofs := false) (disch := omega) [r__law_kind_of, i__law_kind_of, g__law_kind_of, MD, gd_eq, GD_inj, sm_one, e1, e2, et, ew, el, F0, F1, hb, hc, ha, p_times, p_spot, y0, y0', sdq, isn_n, isn_F, isn_i, G0, G1, S0, S1, M0, M1, b_ret, o_some, map_some, obind_some, k_add, k_sub, k_mul, k_ixl, k_ixt, ix_0, ix_1, ix_2, ix_3, ix_4, ix_5, ix_6, ix_7, ix_8, ix_9, ix_10, ix_11, ix_12, st_0, st_1, st_2, st_3, st_4, st_5, st_6, st_7, st_8, st_9, st_10, st_11, st_12, rd_0, rd_b, rd_l, rd_s, own_0, own_p, own_s, own_n, e_c, e_g, e_v, e_bin, neg_i, e_neg, e_cmp, e_chain, e_nt, e_and, e_or, e_tr, e_ite, e_tup, e_lst, e_ix, e_sl, e_rev, e_call, e_bi, e_isi, e_draw, e_comp, turn_cons, turn_nil, es_nil, es_cons, eS_nil, eS_cons, eC_nil, eC_cons, eA_nil, eA_cons, arg_st, bl_ret, x_nil, then_nx, then_rt, then_ct, then_bk, x_cns, x_bx, x_asgn, x_par, eR_nil, eR_cons, par_nil, par_cons, x_ixs, x_ap, x_ifs, x_rt, x_fr, loop_nx, loop_ct, loop_bk, loop_rt, for_nil, for_cons, bindA, List.replicate, List.cons_append, List.nil_append, a_nm, a_tt, a_tl, as_n, as_c, List.set_cons_zero, List.set_cons_succ, List.length_cons, List.length_nil, setS, boxS, cond_true, cond_false, Bool.and_true, Bool.and_false, Bool.true_and, Bool.false_and, if_true, lk_nil, lk_v, lk_c, lk_g, lk_bin, lk_neg, lk_cmp, lk_chain, lk_nt, lk_and2, lk_or2, lk_tr, lk_ite, lk_tup, lk_lst, lk_ix, lk_sl, lk_rev, lk_call, lk_bi, lk_isi, lk_comp, lk_comp2, lk_draw, ul_nil, ul_v, ul_c, ul_g, ul_bin, ul_neg, ul_cmp, ul_chain, ul_nt, ul_and2, ul_or2, ul_tr, ul_ite, ul_tup, ul_lst, ul_ix, ul_sl, ul_rev, ul_call, ul_bi, ul_isi, ul_comp, ul_comp2, ul_draw, isV, tgS, tgSs, wipeE, rt_v, rt_c, rt_g, rt_bin, rt_neg, rt_cmp, rt_chain, rt_nt, rt_and2, rt_or2, rt_tr, rt_ite, rt_tup, rt_lst, rt_ix, rt_sl, rt_rev, rt_call, rt_bi, rt_isi, rt_comp, rt_comp2, rt_draw, b_lenl, b_lent, b_lens, b_abs, b_sum, b_max, b_min, b_max2, b_min2, b_tupl, b_tupt, b_lstl, b_lstt, b_inti, b_intb, b_all, b_any, b_gcd, is_nil, is_cons, bs_nil, bs_cons, s_seql, s_seqt, s_seqs, s_r1, s_r2, s_zip, s_zipt, s_enum, s_enumt, s_rev, s_revt, s_rr, z_cons, z_nil, z_nil2, n_cons, n_nil, sl_l, sl_t, one_0, one_1, cut_from, cut_to, rv_l, tr_n, tr_b, tr_i, tr_l, tr_t, x_rtN, x_brk, x_cnt, x_pas, x_frz, x_drp, List.getElem?_cons_zero, List.getElem?_cons_succ, arg_c, arg_g, arg_bin, arg_neg, arg_cmp, arg_chain, arg_nt, arg_and2, arg_or2, arg_tr, arg_ite, arg_tup, arg_lst, arg_ix, arg_sl, arg_rev, arg_call, arg_bi, arg_isi, arg_comp, arg_draw, bind_drw, blT_drw, then_drw, loop_drw, all_drw, all_ret, c_lt, c_le, c_gt, c_ge, c_eq, c_ne, c_isN, c_notN, cond_dec, cond_not, cond_and, cond_or, dr10, dr01, ex_ite, wt_nx, wt_rt, wt_ct, wt_bk, wt_drw, q_eq, F_inj, k_addl, k_addt, k_ap, rng2, line, rangeL, List.sum_cons, List.sum_nil, tyD, allTy, run]
    · rw [if_neg fun z => hc z.2.1]
      by_cases y0 : (sp t m.det).1.y = 0
      · have y0' := q2.mp y0
        by_cases kx : (sp t m.det).1.x = 4 * (sp t m.det).2
        · have kx' := q5.mp kx
          have z := q1 y0 kx
          have sdq : (SD (sp t m.det) = .tup [.tup [.int 4, .int 0], .int 1]) = True := by rw [sd_eq]; exact eq_true ⟨by omega, y0, z⟩
          simp (maxSteps := 10000000) (implicitDefEqProofs := false) (disch := omega) [r__law_kind_of, i__law_kind_of, g__law_kind_of, MD, gd_eq, GD_inj, sm_one, e1, e2, et, ew, el, F0, F1, hb, hc, p_times, p_spot, y0, y0', kx', sdq, isn_n, isn_F, isn_i, G0, G1, S0, S1, M0, M1, b_ret, o_some, map_some, obind_some, k_add, k_sub, k_mul, k_ixl, k_ixt, ix_0, ix_1, ix_2, ix_3, ix_4, ix_5, ix_6, ix_7, ix_8, ix_9, ix_10, ix_11, ix_12, st_0, st_1, st_2, st_3, st_4, st_5, st_6, st_7, st_8, st_9, st_10, st_11, st_12, rd_0, rd_b, rd_l, rd_s, own_0, own_p, own_s, own_n, e_c, e_g, e_v, e_bin, neg_i, e_neg, e_cmp, e_chain, e_nt, e_and, e_or, e_tr, e_ite, e_tup, e_lst, e_ix, e_sl, e_rev, e_call, e_bi, e_isi, e_draw, e_comp, turn_cons, turn_nil, es_nil, es_cons, eS_nil, eS_cons, eC_nil, eC_cons, eA_nil, eA_cons, arg_st, bl_ret, x_nil, then_nx, then_rt, then_ct, then_bk, x_cns, x_bx, x_asgn, x_par, eR_nil, eR_cons, par_nil, par_cons, x_ixs, x_ap, x_ifs, x_rt, x_fr, loop_nx, loop_ct, loop_bk, loop_rt, for_nil, for_cons, bindA, List.replicate, List.cons_append, List.nil_append, a_nm, a_tt, a_tl, as_n, as_c, List.set_cons_zero, List.set_cons_succ, List.length_cons, List.length_nil, setS, boxS, cond_true, cond_false, Bool.and_true, Bool.and_false, Bool.true_and, Bool.false_and, if_true, lk_nil, lk_v, lk_c, lk_g, lk_bin, lk_neg, lk_cmp, lk_chain, lk_nt, lk_and2, lk_or2, lk_tr, lk_ite, lk_tup, lk_lst, lk_ix, lk_sl, lk_rev, lk_call, lk_bi, lk_isi, lk_comp, lk_comp2, lk_draw, ul_nil, ul_v, ul_c, ul_g, ul_bin, ul_neg, ul_cmp, ul_chain, ul_nt, ul_and2, ul_or2, ul_tr, ul_ite, ul_tup, ul_lst, ul_ix, ul_sl, ul_rev, ul_call, ul_bi, ul_isi, ul_comp, ul_comp2, ul_draw, isV, tgS, tgSs, wipeE, rt_v, rt_c, rt_g, rt_bin, rt_neg, rt_cmp, rt_chain, rt_nt, rt_and2, rt_or2, rt_tr, rt_ite, rt_tup, rt_lst, rt_ix, rt_sl, rt_rev, rt_call, rt_bi, rt_isi, rt_comp, rt_comp2, rt_draw, b_lenl, b_lent, b_lens, b_abs, b_sum, b_max, b_min, b_max2, b_min2, b_tupl, b_tupt, b_lstl, b_lstt, b_inti, b_intb, b_all, b_any, b_gcd, is_nil, is_cons, bs_nil, bs_cons, s_seql, s_seqt, s_seqs, s_r1, s_r2, s_zip, s_zipt, s_enum, s_enumt, s_rev, s_revt, s_rr, z_cons, z_nil, z_nil2, n_cons, n_nil, sl_l, sl_t, one_0, one_1, cut_from, cut_to, rv_l, tr_n, tr_b, tr_i, tr_l, tr_t, x_rtN, x_brk, x_cnt, x_pas, x_frz, x_drp, List.getElem?_cons_zero, List.getElem?_cons_succ, arg_c, arg_g, arg_bin, arg_neg, arg_cmp, arg_chain, arg_nt, arg_and2, arg_or2, arg_tr, arg_ite, arg_tup, arg_lst, arg_ix, arg_sl, arg_rev, arg_call, arg_bi, arg_isi, arg_comp, arg_draw, bind_drw, blT_drw, then_drw, loop_drw, all_drw, all_ret, c_lt, c_le, c_gt, c_ge, c_eq, c_ne, c_isN, c_notN, cond_dec, cond_not, cond_and, cond_or, dr10, dr01, ex_ite, wt_nx, wt_rt, wt_ct, wt_bk, wt_drw, q_eq, F_inj, k_addl, k_addt, k_ap, rng2, line, rangeL, List.sum_cons, List.sum_nil, tyD, allTy, run]
        · have kx' : ¬ _ := fun z => kx (q5.mpr z)
          have sdq : (SD (sp t m.det) = .tup [.tup [.int 4, .int 0], .int 1]) = False := by rw [sd_eq]; exact eq_false (q6 kx)
          by_cases x0 : (sp t m.det).1.x < 0
          · have x0' := q3.mp x0
            have r0 := r3.mpr x0
            simp (maxSteps := 10000000) (implicitDefEqProofs := false) (disch := omega) [r__law_kind_of, i__law_kind_of, g__law_kind_of, MD, gd_eq, GD_inj, sm_one, e1, e2, et, ew, el, F0, F1, hb, hc, p_times, p_spot, y0, y0', sdq, kx', x0', r0, isn_n, isn_F, isn_i, G0, G1, S0, S1, M0, M1, b_ret, o_some, map_some, obind_some, k_add, k_sub, k_mul, k_ixl, k_ixt, ix_0, ix_1, ix_2, ix_3, ix_4, ix_5, ix_6, ix_7, ix_8, ix_9, ix_10, ix_11, ix_12, st_0, st_1, st_2, st_3, st_4, st_5, st_6, st_7, st_8, st_9, st_10, st_11, st_12, rd_0, rd_b, rd_l, rd_s, own_0, own_p, own_s, own_n, e_c, e_g, e_v, e_bin, neg_i, e_neg, e_cmp, e_chain, e_nt, e_and, e_or, e_tr, e_ite, e_tup, e_lst, e_ix, e_sl, e_rev, e_call, e_bi, e_isi, e_draw, e_comp, turn_cons, turn_nil, es_nil, es_cons, eS_nil, eS_cons, eC_nil, eC_cons, eA_nil, eA_cons, arg_st, bl_ret, x_nil, then_nx, then_rt, then_ct, then_bk, x_cns, x_bx, x_asgn, x_par, eR_nil, eR_cons, par_nil, par_cons, x_ixs, x_ap, x_ifs, x_rt, x_fr, loop_nx, loop_ct, loop_bk, loop_rt, for_nil, for_cons, bindA, List.replicate, List.cons_append, List.nil_append, a_nm, a_tt, a_tl, as_n, as_c, List.set_cons_zero, List.set_cons_succ, List.length_cons, List.length_nil, setS, boxS, cond_true, cond_false, Bool.and_true, Bool.and_false, Bool.true_and, Bool.false_and, if_true, lk_nil, lk_v, lk_c, lk_g, lk_bin, lk_neg, lk_cmp, lk_chain, lk_nt, lk_and2, lk_or2, lk_tr, lk_ite, lk_tup, lk_lst, lk_ix, lk_sl, lk_rev, lk_call, lk_bi, lk_isi, lk_comp, lk_comp2, lk_draw, ul_nil, ul_v, ul_c, ul_g, ul_bin, ul_neg, ul_cmp, ul_chain, ul_nt, ul_and2, ul_or2, ul_tr, ul_ite, ul_tup, ul_lst, ul_ix, ul_sl, ul_rev, ul_call, ul_bi, ul_isi, ul_comp, ul_comp2, ul_draw, isV, tgS, tgSs, wipeE, rt_v, rt_c, rt_g, rt_bin, rt_neg, rt_cmp, rt_chain, rt_nt, rt_and2, rt_or2, rt_tr, rt_ite, rt_tup, rt_lst, rt_ix, rt_sl, rt_rev, rt_call, rt_bi, rt_isi, rt_comp, rt_comp2, rt_draw, b_lenl, b_lent, b_lens, b_abs, b_sum, b_max, b_min, b_max2, b_min2, b_tupl, b_tupt, b_lstl, b_lstt, b_inti, b_intb, b_all, b_any, b_gcd, is_nil, is_cons, bs_nil, bs_cons, s_seql, s_seqt, s_seqs, s_r1, s_r2, s_zip, s_zipt, s_enum, s_enumt, s_rev, s_revt, s_rr, z_cons, z_nil, z_nil2, n_cons, n_nil, sl_l, sl_t, one_0, one_1, cut_from, cut_to, rv_l, tr_n, tr_b, tr_i, tr_l, tr_t, x_rtN, x_brk, x_cnt, x_pas, x_frz, x_drp, List.getElem?_cons_zero, List.getElem?_cons_succ, arg_c, arg_g, arg_bin, arg_neg, arg_cmp, arg_chain, arg_nt, arg_and2, arg_or2, arg_tr, arg_ite, arg_tup, arg_lst, arg_ix, arg_sl, arg_rev, arg_call, arg_bi, arg_isi, arg_comp, arg_draw, bind_drw, blT_drw, then_drw, loop_drw, all_drw, all_ret, c_lt, c_le, c_gt, c_ge, c_eq, c_ne, c_isN, c_notN, cond_dec, cond_not, cond_and, cond_or, dr10, dr01, ex_ite, wt_nx, wt_rt, wt_ct, wt_bk, wt_drw, q_eq, F_inj, k_addl, k_addt, k_ap, rng2, line, rangeL, List.sum_cons, List.sum_nil, tyD, allTy, run]
          · have x0' : ¬ _ := fun z => x0 (q3.mpr z)
            have r0 : ¬ _ := fun z => x0 (r3.mp z)
            by_cases k4 : (sp t m.det).1.x < 4 * (sp t m.det).2
            · have k4' := q4.mp k4
              have r4' := r4.mpr k4
              simp (maxSteps := 10000000) (implicitDefEqProofs := false) (disch := omega) [r__law_kind_of, i__law_kind_of, g__law_kind_of, MD, gd_eq, GD_inj, sm_one, e1, e2, et, ew, el, F0, F1, hb, hc, p_times, p_spot, y0, y0', sdq, kx', x0', r0, k4', r4', isn_n, isn_F, isn_i, G0, G1, S0, S1, M0, M1, b_ret, o_some, map_some, obind_some, k_add, k_sub, k_mul, k_ixl, k_ixt, ix_0, ix_1, ix_2, ix_3, ix_4, ix_5, ix_6, ix_7, ix_8, ix_9, ix_10, ix_11, ix_12, st_0, st_1, st_2, st_3, st_4, st_5, st_6, st_7, st_8, st_9, st_10, st_11, st_12, rd_0, rd_b, rd_l, rd_s, own_0, own_p, own_s, own_n, e_c, e_g, e_v, e_bin, neg_i, e_neg, e_cmp, e_chain, e_nt, e_and, e_or, e_tr, e_ite, e_tup, e_lst, e_ix, e_sl, e_rev, e_call, e_bi, e_isi, e_draw, e_comp, turn_cons, turn_nil, es_nil, es_cons, eS_nil, eS_cons, eC_nil, eC_cons, eA_nil, eA_cons, arg_st, bl_ret, x_nil, then_nx, then_rt, then_ct, then_bk, x_cns, x_bx, x_asgn, x_par, eR_nil, eR_cons, par_nil, par_cons, x_ixs, x_ap, x_ifs, x_rt, x_fr, loop_nx, loop_ct, loop_bk, loop_rt, for_nil, for_cons, bindA, List.replicate, List.cons_append, List.nil_append, a_nm, a_tt, a_tl, as_n, as_c, List.set_cons_zero, List.set_cons_succ, List.length_cons, List.length_nil, setS, boxS, cond_true, cond_false, Bool.and_true, Bool.and_false, Bool.true_and, Bool.false_and, if_true, lk_nil, lk_v, lk_c, lk_g, lk_bin, lk_neg, lk_cmp, lk_chain, lk_nt, lk_and2, lk_or2, lk_tr, lk_ite, lk_tup, lk_lst, lk_ix, lk_sl, lk_rev, lk_call, lk_bi, lk_isi, lk_comp, lk_comp2, lk_draw, ul_nil, ul_v, ul_c, ul_g, ul_bin, ul_neg, ul_cmp, ul_chain, ul_nt, ul_and2, ul_or2, ul_tr, ul_ite, ul_tup, ul_lst, ul_ix, ul_sl, ul_rev, ul_call, ul_bi, ul_isi, ul_comp, ul_comp2, ul_draw, isV, tgS, tgSs, wipeE, rt_v, rt_c, rt_g, rt_bin, rt_neg, rt_cmp, rt_chain, rt_nt, rt_and2, rt_or2, rt_tr, rt_ite, rt_tup, rt_lst, rt_ix, rt_sl, rt_rev, rt_call, rt_bi, rt_isi, rt_comp, rt_comp2, rt_draw, b_lenl, b_lent, b_lens, b_abs, b_sum, b_max, b_min, b_max2, b_min2, b_tupl, b_tupt, b_lstl, b_lstt, b_inti, b_intb, b_all, b_any, b_gcd, is_nil, is_cons, bs_nil, bs_cons, s_seql, s_seqt, s_seqs, s_r1, s_r2, s_zip, s_zipt, s_enum, s_enumt, s_rev, s_revt, s_rr, z_cons, z_nil, z_nil2, n_cons, n_nil, sl_l, sl_t, one_0, one_1, cut_from, cut_to, rv_l, tr_n, tr_b, tr_i, tr_l, tr_t, x_rtN, x_brk, x_cnt, x_pas, x_frz, x_drp, List.getElem?_cons_zero, List.getElem?_cons_succ, arg_c, arg_g, arg_bin, arg_neg, arg_cmp, arg_chain, arg_nt, arg_and2, arg_or2, arg_tr, arg_ite, arg_tup, arg_lst, arg_ix, arg_sl, arg_rev, arg_call, arg_bi, arg_isi, arg_comp, arg_draw, bind_drw, blT_drw, then_drw, loop_drw, all_drw, all_ret, c_lt, c_le, c_gt, c_ge, c_eq, c_ne, c_isN, c_notN, cond_dec, cond_not, cond_and, cond_or, dr10, dr01, ex_ite, wt_nx, wt_rt, wt_ct, wt_bk, wt_drw, q_eq, F_inj, k_addl, k_addt, k_ap, rng2, line, rangeL, List.sum_cons, List.sum_nil, tyD, allTy, run]
            · have k4' : ¬ _ := fun z => k4 (q4.mpr z)
              have r4' : ¬ _ := fun z => k4 (r4.mp z)
              simp (maxSteps := 10000000) (implicitDefEqProofs := false) (disch := omega) [r__law_kind_of, i__law_kind_of, g__law_kind_of, MD, gd_eq, GD_inj, sm_one, e1, e2, et, ew, el, F0, F1, hb, hc, p_times, p_spot, y0, y0', sdq, kx', x0', r0, k4', r4', isn_n, isn_F, isn_i, G0, G1, S0, S1, M0, M1, b_ret, o_some, map_some, obind_some, k_add, k_sub, k_mul, k_ixl, k_ixt, ix_0, ix_1, ix_2, ix_3, ix_4, ix_5, ix_6, ix_7, ix_8, ix_9, ix_10, ix_11, ix_12, st_0, st_1, st_2, st_3, st_4, st_5, st_6, st_7, st_8, st_9, st_10, st_11, st_12, rd_0, rd_b, rd_l, rd_s, own_0, own_p, own_s, own_n, e_c, e_g, e_v, e_bin, neg_i, e_neg, e_cmp, e_chain, e_nt, e_and, e_or, e_tr, e_ite, e_tup, e_lst, e_ix, e_sl, e_rev, e_call, e_bi, e_isi, e_draw, e_comp, turn_cons, turn_nil, es_nil, es_cons, eS_nil, eS_cons, eC_nil, eC_cons, eA_nil, eA_cons, arg_st, bl_ret, x_nil, then_nx, then_rt, then_ct, then_bk, x_cns, x_bx, x_asgn, x_par, eR_nil, eR_cons, par_nil, par_cons, x_ixs, x_ap, x_ifs, x_rt, x_fr, loop_nx, loop_ct, loop_bk, loop_rt, for_nil, for_cons, bindA, List.replicate, List.cons_append, List.nil_append, a_nm, a_tt, a_tl, as_n, as_c, List.set_cons_zero, List.set_cons_succ, List.length_cons, List.length_nil, setS, boxS, cond_true, cond_false, Bool.and_true, Bool.and_false, Bool.true_and, Bool.false_and, if_true, lk_nil, lk_v, lk_c, lk_g, lk_bin, lk_neg, lk_cmp, lk_chain, lk_nt, lk_and2, lk_or2, lk_tr, lk_ite, lk_tup, lk_lst, lk_ix, lk_sl, lk_rev, lk_call, lk_bi, lk_isi, lk_comp, lk_comp2, lk_draw, ul_nil, ul_v, ul_c, ul_g, ul_bin, ul_neg, ul_cmp, ul_chain, ul_nt, ul_and2, ul_or2, ul_tr, ul_ite, ul_tup, ul_lst, ul_ix, ul_sl, ul_rev, ul_call, ul_bi, ul_isi, ul_comp, ul_comp2, ul_draw, isV, tgS, tgSs, wipeE, rt_v, rt_c, rt_g, rt_bin, rt_neg, rt_cmp, rt_chain, rt_nt, rt_and2, rt_or2, rt_tr, rt_ite, rt_tup, rt_lst, rt_ix, rt_sl, rt_rev, rt_call, rt_bi, rt_isi, rt_comp, rt_comp2, rt_draw, b_lenl, b_lent, b_lens, b_abs, b_sum, b_max, b_min, b_max2, b_min2, b_tupl, b_tupt, b_lstl, b_lstt, b_inti, b_intb, b_all, b_any, b_gcd, is_nil, is_cons, bs_nil, bs_cons, s_seql, s_seqt, s_seqs, s_r1, s_r2, s_zip, s_zipt, s_enum, s_enumt, s_rev, s_revt, s_rr, z_cons, z_nil, z_nil2, n_cons, n_nil, sl_l, sl_t, one_0, one_1, cut_from, cut_to, rv_l, tr_n, tr_b, tr_i, tr_l, tr_t, x_rtN, x_brk, x_cnt, x_pas, x_frz, x_drp, List.getElem?_cons_zero, List.getElem?_cons_succ, arg_c, arg_g, arg_bin, arg_neg, arg_cmp, arg_chain, arg_nt, arg_and2, arg_or2, arg_tr, arg_ite, arg_tup, arg_lst, arg_ix, arg_sl, arg_rev, arg_call, arg_bi, arg_isi, arg_comp, arg_draw, bind_drw, blT_drw, then_drw, loop_drw, all_drw, all_ret, c_lt, c_le, c_gt, c_ge, c_eq, c_ne, c_isN, c_notN, cond_dec, cond_not, cond_and, cond_or, dr10, dr01, ex_ite, wt_nx, wt_rt, wt_ct, wt_bk, wt_drw, q_eq, F_inj, k_addl, k_addt, k_ap, rng2, line, rangeL, List.sum_cons, List.sum_nil, tyD, allTy, run]
      · have y0' : ¬ _ := fun z => y0 (q2.mpr z)
        have sdq : (SD (sp t m.det) = .tup [.tup [.int 4, .int 0], .int 1]) = False := by rw [sd_eq]; exact eq_false fun z => y0 z.2.1
        simp (maxSteps := 10000000) (implicitDefEqProofs := false) (disch := omega) [r__law_kind_of, i__law_kind_of, g__law_kind_of, MD, gd_eq, GD_inj, sm_one, e1, e2, et, ew, el, F0, F1, hb, hc, p_times, p_spot, y0, y0', sdq, isn_n, isn_F, isn_i, G0, G1, S0, S1, M0, M1, b_ret, o_some, map_some, obind_some, k_add, k_sub, k_mul, k_ixl, k_ixt, ix_0, ix_1, ix_2, ix_3, ix_4, ix_5, ix_6, ix_7, ix_8, ix_9, ix_10, ix_11, ix_12, st_0, st_1, st_2, st_3, st_4, st_5, st_6, st_7, st_8, st_9, st_10, st_11, st_12, rd_0, rd_b, rd_l, rd_s, own_0, own_p, own_s, own_n, e_c, e_g, e_v, e_bin, neg_i, e_neg, e_cmp, e_chain, e_nt, e_and, e_or, e_tr, e_ite, e_tup, e_lst, e_ix, e_sl, e_rev, e_call, e_bi, e_isi, e_draw, e_comp, turn_cons, turn_nil, es_nil, es_cons, eS_nil, eS_cons, eC_nil, eC_cons, eA_nil, eA_cons, arg_st, bl_ret, x_nil, then_nx, then_rt, then_ct, then_bk, x_cns, x_bx, x_asgn, x_par, eR_nil, eR_cons, par_nil, par_cons, x_ixs, x_ap, x_ifs, x_rt, x_fr, loop_nx, loop_ct, loop_bk, loop_rt, for_nil, for_cons, bindA, List.replicate, List.cons_append, List.nil_append, a_nm, a_tt, a_tl, as_n, as_c, List.set_cons_zero, List.set_cons_succ, List.length_cons, List.length_nil, setS, boxS, cond_true, cond_false, Bool.and_true, Bool.and_false, Bool.true_and, Bool.false_and, if_true, lk_nil, lk_v, lk_c, lk_g, lk_bin, lk_neg, lk_cmp, lk_chain, lk_nt, lk_and2, lk_or2, lk_tr, lk_ite, lk_tup, lk_lst, lk_ix, lk_sl, lk_rev, lk_call, lk_bi, lk_isi, lk_comp, lk_comp2, lk_draw, ul_nil, ul_v, ul_c, ul_g, ul_bin, ul_neg, ul_cmp, ul_chain, ul_nt, ul_and2, ul_or2, ul_tr, ul_ite, ul_tup, ul_lst, ul_ix, ul_sl, ul_rev, ul_call, ul_bi, ul_isi, ul_comp, ul_comp2, ul_draw, isV, tgS, tgSs, wipeE, rt_v, rt_c, rt_g, rt_bin, rt_neg, rt_cmp, rt_chain, rt_nt, rt_and2, rt_or2, rt_tr, rt_ite, rt_tup, rt_lst, rt_ix, rt_sl, rt_rev, rt_call, rt_bi, rt_isi, rt_comp, rt_comp2, rt_draw, b_lenl, b_lent, b_lens, b_abs, b_sum, b_max, b_min, b_max2, b_min2, b_tupl, b_tupt, b_lstl, b_lstt, b_inti, b_intb, b_all, b_any, b_gcd, is_nil, is_cons, bs_nil, bs_cons, s_seql, s_seqt, s_seqs, s_r1, s_r2, s_zip, s_zipt, s_enum, s_enumt, s_rev, s_revt, s_rr, z_cons, z_nil, z_nil2, n_cons, n_nil, sl_l, sl_t, one_0, one_1, cut_from, cut_to, rv_l, tr_n, tr_b, tr_i, tr_l, tr_t, x_rtN, x_brk, x_cnt, x_pas, x_frz, x_drp, List.getElem?_cons_zero, List.getElem?_cons_succ, arg_c, arg_g, arg_bin, arg_neg, arg_cmp, arg_chain, arg_nt, arg_and2, arg_or2, arg_tr, arg_ite, arg_tup, arg_lst, arg_ix, arg_sl, arg_rev, arg_call, arg_bi, arg_isi, arg_comp, arg_draw, bind_drw, blT_drw, then_drw, loop_drw, all_drw, all_ret, c_lt, c_le, c_gt, c_ge, c_eq, c_ne, c_isN, c_notN, cond_dec, cond_not, cond_and, cond_or, dr10, dr01, ex_ite, wt_nx, wt_rt, wt_ct, wt_bk, wt_drw, q_eq, F_inj, k_addl, k_addt, k_ap, rng2, line, rangeL, List.sum_cons, List.sum_nil, tyD, allTy, run]
  · rw [if_neg fun z => hb z.1]
    by_cases y0 : (sp t m.det).1.y = 0
    · have y0' := q2.mp y0
      by_cases kx : (sp t m.det).1.x = 4 * (sp t m.det).2
      · have kx' := q5.mp kx
        have z := q1 y0 kx
        have sdq : (SD (sp t m.det) = .tup [.tup [.int 4, .int 0], .int 1]) = True := by rw [sd_eq]; exact eq_true ⟨by omega, y0, z⟩
        simp (maxSteps := 10000000) (implicitDefEqProofs := false) (disch := omega) [r__law_kind_of, i__law_kind_of, g__law_kind_of, MD, gd_eq, GD_inj, sm_one, e1, e2, et, ew, el, F0, F1, hb, p_times, p_spot, y0, y0', kx', sdq, isn_n, isn_F, isn_i, G0, G1, S0, S1, M0, M1, b_ret, o_some, map_some, obind_some, k_add, k_sub, k_mul, k_ixl, k_ixt, ix_0, ix_1, ix_2, ix_3, ix_4, ix_5, ix_6, ix_7, ix_8, ix_9, ix_10, ix_11, ix_12, st_0, st_1, st_2, st_3, st_4, st_5, st_6, st_7, st_8, st_9, st_10, st_11, st_12, rd_0, rd_b, rd_l, rd_s, own_0, own_p, own_s, own_n, e_c, e_g, e_v, e_bin, neg_i, e_neg, e_cmp, e_chain, e_nt, e_and, e_or, e_tr, e_ite, e_tup, e_lst, e_ix, e_sl, e_rev, e_call, e_bi, e_isi, e_draw, e_comp, turn_cons, turn_nil, es_nil, es_cons, eS_nil, eS_cons, eC_nil, eC_cons, eA_nil, eA_cons, arg_st, bl_ret, x_nil, then_nx, then_rt, then_ct, then_bk, x_cns, x_bx, x_asgn, x_par, eR_nil, eR_cons, par_nil, par_cons, x_ixs, x_ap, x_ifs, x_rt, x_fr, loop_nx, loop_ct, loop_bk, loop_rt, for_nil, for_cons, bindA, List.replicate, List.cons_append, List.nil_append, a_nm, a_tt, a_tl, as_n, as_c, List.set_cons_zero, List.set_cons_succ, List.length_cons, List.length_nil, setS, boxS, cond_true, cond_false, Bool.and_true, Bool.and_false, Bool.true_and, Bool.false_and, if_true, lk_nil, lk_v, lk_c, lk_g, lk_bin, lk_neg, lk_cmp, lk_chain, lk_nt, lk_and2, lk_or2, lk_tr, lk_ite, lk_tup, lk_lst, lk_ix, lk_sl, lk_rev, lk_call, lk_bi, lk_isi, lk_comp, lk_comp2, lk_draw, ul_nil, ul_v, ul_c, ul_g, ul_bin, ul_neg, ul_cmp, ul_chain, ul_nt, ul_and2, ul_or2, ul_tr, ul_ite, ul_tup, ul_lst, ul_ix, ul_sl, ul_rev, ul_call, ul_bi, ul_isi, ul_comp, ul_comp2, ul_draw, isV, tgS, tgSs, wipeE, rt_v, rt_c, rt_g, rt_bin, rt_neg, rt_cmp, rt_chain, rt_nt, rt_and2, rt_or2, rt_tr, rt_ite, rt_tup, rt_lst, rt_ix, rt_sl, rt_rev, rt_call, rt_bi, rt_isi, rt_comp, rt_comp2, rt_draw, b_lenl, b_lent, b_lens, b_abs, b_sum, b_max, b_min, b_max2, b_min2, b_tupl, b_tupt, b_lstl, b_lstt, b_inti, b_intb, b_all, b_any, b_gcd, is_nil, is_cons, bs_nil, bs_cons, s_seql, s_seqt, s_seqs, s_r1, s_r2, s_zip, s_zipt, s_enum, s_enumt, s_rev, s_revt, s_rr, z_cons, z_nil, z_nil2, n_cons, n_nil, sl_l, sl_t, one_0, one_1, cut_from, cut_to, rv_l, tr_n, tr_b, tr_i, tr_l, tr_t, x_rtN, x_brk, x_cnt, x_pas, x_frz, x_drp, List.getElem?_cons_zero, List.getElem?_cons_succ, arg_c, arg_g, arg_bin, arg_neg, arg_cmp, arg_chain, arg_nt, arg_and2, arg_or2, arg_tr, arg_ite, arg_tup, arg_lst, arg_ix, arg_sl, arg_rev, arg_call, arg_bi, arg_isi, arg_comp, arg_draw, bind_drw, blT_drw, then_drw, loop_drw, all_drw, all_ret, c_lt, c_le, c_gt, c_ge, c_eq, c_ne, c_isN, c_notN, cond_dec, cond_not, cond_and, cond_or, dr10, dr01, ex_ite, wt_nx, wt_rt, wt_ct, wt_bk, wt_drw, q_eq, F_inj, k_addl, k_addt, k_ap, rng2, line, rangeL, List.sum_cons, List.sum_nil, tyD, allTy, run]
      · have kx' : ¬ _ := fun z => kx (q5.mpr z)
        have sdq : (SD (sp t m.det) = .tup [.tup [.int 4, .int 0], .int 1]) = False := by rw [sd_eq]; exact eq_false (q6 kx)
        by_cases x0 : (sp t m.det).1.x < 0
        · have x0' := q3.mp x0
          have r0 := r3.mpr x0
          simp (maxSteps := 10000000) (implicitDefEqProofs := false) (disch := omega) [r__law_kind_of, i__law_kind_of, g__law_kind_of, MD, gd_eq, GD_inj, sm_one, e1, e2, et, ew, el, F0, F1, hb, p_times, p_spot, y0, y0', sdq, kx', x0', r0, isn_n, isn_F, isn_i, G0, G1, S0, S1, M0, M1, b_ret, o_some, map_some, obind_some, k_add, k_sub, k_mul, k_ixl, k_ixt, ix_0, ix_1, ix_2, ix_3, ix_4, ix_5, ix_6, ix_7, ix_8, ix_9, ix_10, ix_11, ix_12, st_0, st_1, st_2, st_3, st_4, st_5, st_6, st_7, st_8, st_9, st_10, st_11, st_12, rd_0, rd_b, rd_l, rd_s, own_0, own_p, own_s, own_n, e_c, e_g, e_v, e_bin, neg_i, e_neg, e_cmp, e_chain, e_nt, e_and, e_or, e_tr, e_ite, e_tup, e_lst, e_ix, e_sl, e_rev, e_call, e_bi, e_isi, e_draw, e_comp, turn_cons, turn_nil, es_nil, es_cons, eS_nil, eS_cons, eC_nil, eC_cons, eA_nil, eA_cons, arg_st, bl_ret, x_nil, then_nx, then_rt, then_ct, then_bk, x_cns, x_bx, x_asgn, x_par, eR_nil, eR_cons, par_nil, par_cons, x_ixs, x_ap, x_ifs, x_rt, x_fr, loop_nx, loop_ct, loop_bk, loop_rt, for_nil, for_cons, bindA, List.replicate, List.cons_append, List.nil_append, a_nm, a_tt, a_tl, as_n, as_c, List.set_cons_zero, List.set_cons_succ, List.length_cons, List.length_nil, setS, boxS, cond_true, cond_false, Bool.and_true, Bool.and_false, Bool.true_and, Bool.false_and, if_true, lk_nil, lk_v, lk_c, lk_g, lk_bin, lk_neg, lk_cmp, lk_chain, lk_nt, lk_and2, lk_or2, lk_tr, lk_ite, lk_tup, lk_lst, lk_ix, lk_sl, lk_rev, lk_call, lk_bi, lk_isi, lk_comp, lk_comp2, lk_draw, ul_nil, ul_v, ul_c, ul_g, ul_bin, ul_neg, ul_cmp, ul_chain, ul_nt, ul_and2, ul_or2, ul_tr, ul_ite, ul_tup, ul_lst, ul_ix, ul_sl, ul_rev, ul_call, ul_bi, ul_isi, ul_comp, ul_comp2, ul_draw, isV, tgS, tgSs, wipeE, rt_v, rt_c, rt_g, rt_bin, rt_neg, rt_cmp, rt_chain, rt_nt, rt_and2, rt_or2, rt_tr, rt_ite, rt_tup, rt_lst, rt_ix, rt_sl, rt_rev, rt_call, rt_bi, rt_isi, rt_comp, rt_comp2, rt_draw, b_lenl, b_lent, b_lens, b_abs, b_sum, b_max, b_min, b_max2, b_min2, b_tupl, b_tupt, b_lstl, b_lstt, b_inti, b_intb, b_all, b_any, b_gcd, is_nil, is_cons, bs_nil, bs_cons, s_seql, s_seqt, s_seqs, s_r1, s_r2, s_zip, s_zipt, s_enum, s_enumt, s_rev, s_revt, s_rr, z_cons, z_nil, z_nil2, n_cons, n_nil, sl_l, sl_t, one_0, one_1, cut_from, cut_to, rv_l, tr_n, tr_b, tr_i, tr_l, tr_t, x_rtN, x_brk, x_cnt, x_pas, x_frz, x_drp, List.getElem?_cons_zero, List.getElem?_cons_succ, arg_c, arg_g, arg_bin, arg_neg, arg_cmp, arg_chain, arg_nt, arg_and2, arg_or2, arg_tr, arg_ite, arg_tup, arg_lst, arg_ix, arg_sl, arg_rev, arg_call, arg_bi, arg_isi, arg_comp, arg_draw, bind_drw, blT_drw, then_drw, loop_drw, all_drw, all_ret, c_lt, c_le, c_gt, c_ge, c_eq, c_ne, c_isN, c_notN, cond_dec, cond_not, cond_and, cond_or, dr10, dr01, ex_ite, wt_nx, wt_rt, wt_ct, wt_bk, wt_drw, q_eq, F_inj, k_addl, k_addt, k_ap, rng2, line, rangeL, List.sum_cons, List.sum_nil, tyD, allTy, run]
        · have x0' : ¬ _ := fun z => x0 (q3.mpr z)
          have r0 : ¬ _ := fun z => x0 (r3.mp z)
          by_cases k4 : (sp t m.det).1.x < 4 * (sp t m.det).2
          · have k4' := q4.mp k4
            have r4' := r4.mpr k4
            simp (maxSteps := 10000000) (implicitDefEqProofs := false) (disch := omega) [r__law_kind_of, i__law_kind_of, g__law_kind_of, MD, gd_eq, GD_inj, sm_one, e1, e2, et, ew, el, F0, F1, hb, p_times, p_spot, y0, y0', sdq, kx', x0', r0, k4', r4', isn_n, isn_F, isn_i, G0, G1, S0, S1, M0, M1, b_ret, o_some, map_some, obind_some, k_add, k_sub, k_mul, k_ixl, k_ixt, ix_0, ix_1, ix_2, ix_3, ix_4, ix_5, ix_6, ix_7, ix_8, ix_9, ix_10, ix_11, ix_12, st_0, st_1, st_2, st_3, st_4, st_5, st_6, st_7, st_8, st_9, st_10, st_11, st_12, rd_0, rd_b, rd_l, rd_s, own_0, own_p, own_s, own_n, e_c, e_g, e_v, e_bin, neg_i, e_neg, e_cmp, e_chain, e_nt, e_and, e_or, e_tr, e_ite, e_tup, e_lst, e_ix, e_sl, e_rev, e_call, e_bi, e_isi, e_draw, e_comp, turn_cons, turn_nil, es_nil, es_cons, eS_nil, eS_cons, eC_nil, eC_cons, eA_nil, eA_cons, arg_st, bl_ret, x_nil, then_nx, then_rt, then_ct, then_bk, x_cns, x_bx, x_asgn, x_par, eR_nil, eR_cons, par_nil, par_cons, x_ixs, x_ap, x_ifs, x_rt, x_fr, loop_nx, loop_ct, loop_bk, loop_rt, for_nil, for_cons, bindA, List.replicate, List.cons_append, List.nil_append, a_nm, a_tt, a_tl, as_n, as_c, List.set_cons_zero, List.set_cons_succ, List.length_cons, List.length_nil, setS, boxS, cond_true, cond_false, Bool.and_true, Bool.and_false, Bool.true_and, Bool.false_and, if_true, lk_nil, lk_v, lk_c, lk_g, lk_bin, lk_neg, lk_cmp, lk_chain, lk_nt, lk_and2, lk_or2, lk_tr, lk_ite, lk_tup, lk_lst, lk_ix, lk_sl, lk_rev, lk_call, lk_bi, lk_isi, lk_comp, lk_comp2, lk_draw, ul_nil, ul_v, ul_c, ul_g, ul_bin, ul_neg, ul_cmp, ul_chain, ul_nt, ul_and2, ul_or2, ul_tr, ul_ite, ul_tup, ul_lst, ul_ix, ul_sl, ul_rev, ul_call, ul_bi, ul_isi, ul_comp, ul_comp2, ul_draw, isV, tgS, tgSs, wipeE, rt_v, rt_c, rt_g, rt_bin, rt_neg, rt_cmp, rt_chain, rt_nt, rt_and2, rt_or2, rt_tr, rt_ite, rt_tup, rt_lst, rt_ix, rt_sl, rt_rev, rt_call, rt_bi, rt_isi, rt_comp, rt_comp2, rt_draw, b_lenl, b_lent, b_lens, b_abs, b_sum, b_max, b_min, b_max2, b_min2, b_tupl, b_tupt, b_lstl, b_lstt, b_inti, b_intb, b_all, b_any, b_gcd, is_nil, is_cons, bs_nil, bs_cons, s_seql, s_seqt, s_seqs, s_r1, s_r2, s_zip, s_zipt, s_enum, s_enumt, s_rev, s_revt, s_rr, z_cons, z_nil, z_nil2, n_cons, n_nil, sl_l, sl_t, one_0, one_1, cut_from, cut_to, rv_l, tr_n, tr_b, tr_i, tr_l, tr_t, x_rtN, x_brk, x_cnt, x_pas, x_frz, x_drp, List.getElem?_cons_zero, List.getElem?_cons_succ, arg_c, arg_g, arg_bin, arg_neg, arg_cmp, arg_chain, arg_nt, arg_and2, arg_or2, arg_tr, arg_ite, arg_tup, arg_lst, arg_ix, arg_sl, arg_rev, arg_call, arg_bi, arg_isi, arg_comp, arg_draw, bind_drw, blT_drw, then_drw, loop_drw, all_drw, all_ret, c_lt, c_le, c_gt, c_ge, c_eq, c_ne, c_isN, c_notN, cond_dec, cond_not, cond_and, cond_or, dr10, dr01, ex_ite, wt_nx, wt_rt, wt_ct, wt_bk, wt_drw, q_eq, F_inj, k_addl, k_addt, k_ap, rng2, line, rangeL, List.sum_cons, List.sum_nil, tyD, allTy, run]
          · have k4' : ¬ _ := fun z => k4 (q4.mpr z)
            have r4' : ¬ _ := fun z => k4 (r4.mp z)
            simp (maxSteps := 10000000) (implicitDefEqProofs := false) (disch := omega) [r__law_kind_of, i__law_kind_of, g__law_kind_of, MD, gd_eq, GD_inj, sm_one, e1, e2, et, ew, el, F0, F1, hb, p_times, p_spot, y0, y0', sdq, kx', x0', r0, k4', r4', isn_n, isn_F, isn_i, G0, G1, S0, S1, M0, M1, b_ret, o_some, map_some, obind_some, k_add, k_sub, k_mul, k_ixl, k_ixt, ix_0, ix_1, ix_2, ix_3, ix_4, ix_5, ix_6, ix_7, ix_8, ix_9, ix_10, ix_11, ix_12, st_0, st_1, st_2, st_3, st_4, st_5, st_6, st_7, st_8, st_9, st_10, st_11, st_12, rd_0, rd_b, rd_l, rd_s, own_0, own_p, own_s, own_n, e_c, e_g, e_v, e_bin, neg_i, e_neg, e_cmp, e_chain, e_nt, e_and, e_or, e_tr, e_ite, e_tup, e_lst, e_ix, e_sl, e_rev, e_call, e_bi, e_isi, e_draw, e_comp, turn_cons, turn_nil, es_nil, es_cons, eS_nil, eS_cons, eC_nil, eC_cons, eA_nil, eA_cons, arg_st, bl_ret, x_nil, then_nx, then_rt, then_ct, then_bk, x_cns, x_bx, x_asgn, x_par, eR_nil, eR_cons, par_nil, par_cons, x_ixs, x_ap, x_ifs, x_rt, x_fr, loop_nx, loop_ct, loop_bk, loop_rt, for_nil, for_cons, bindA, List.replicate, List.cons_append, List.nil_append, a_nm, a_tt, a_tl, as_n, as_c, List.set_cons_zero, List.set_cons_succ, List.length_cons, List.length_nil, setS, boxS, cond_true, cond_false, Bool.and_true, Bool.and_false, Bool.true_and, Bool.false_and, if_true, lk_nil, lk_v, lk_c, lk_g, lk_bin, lk_neg, lk_cmp, lk_chain, lk_nt, lk_and2, lk_or2, lk_tr, lk_ite, lk_tup, lk_lst, lk_ix, lk_sl, lk_rev, lk_call, lk_bi, lk_isi, lk_comp, lk_comp2, lk_draw, ul_nil, ul_v, ul_c, ul_g, ul_bin, ul_neg, ul_cmp, ul_chain, ul_nt, ul_and2, ul_or2, ul_tr, ul_ite, ul_tup, ul_lst, ul_ix, ul_sl, ul_rev, ul_call, ul_bi, ul_isi, ul_comp, ul_comp2, ul_draw, isV, tgS, tgSs, wipeE, rt_v, rt_c, rt_g, rt_bin, rt_neg, rt_cmp, rt_chain, rt_nt, rt_and2, rt_or2, rt_tr, rt_ite, rt_tup, rt_lst, rt_ix, rt_sl, rt_rev, rt_call, rt_bi, rt_isi, rt_comp, rt_comp2, rt_draw, b_lenl, b_lent, b_lens, b_abs, b_sum, b_max, b_min, b_max2, b_min2, b_tupl, b_tupt, b_lstl, b_lstt, b_inti, b_intb, b_all, b_any, b_gcd, is_nil, is_cons, bs_nil, bs_cons, s_seql, s_seqt, s_seqs, s_r1, s_r2, s_zip, s_zipt, s_enum, s_enumt, s_rev, s_revt, s_rr, z_cons, z_nil, z_nil2, n_cons, n_nil, sl_l, sl_t, one_0, one_1, cut_from, cut_to, rv_l, tr_n, tr_b, tr_i, tr_l, tr_t, x_rtN, x_brk, x_cnt, x_pas, x_frz, x_drp, List.getElem?_cons_zero, List.getElem?_cons_succ, arg_c, arg_g, arg_bin, arg_neg, arg_cmp, arg_chain, arg_nt, arg_and2, arg_or2, arg_tr, arg_ite, arg_tup, arg_lst, arg_ix, arg_sl, arg_rev, arg_call, arg_bi, arg_isi, arg_comp, arg_draw, bind_drw, blT_drw, then_drw, loop_drw, all_drw, all_ret, c_lt, c_le, c_gt, c_ge, c_eq, c_ne, c_isN, c_notN, cond_dec, cond_not, cond_and, cond_or, dr10, dr01, ex_ite, wt_nx, wt_rt, wt_ct, wt_bk, wt_drw, q_eq, F_inj, k_addl, k_addt, k_ap, rng2, line, rangeL, List.sum_cons, List.sum_nil, tyD, allTy, run]
    · have y0' : ¬ _ := fun z => y0 (q2.mpr z)
      have sdq : (SD (sp t m.det) = .tup [.tup [.int 4, .int 0], .int 1]) = False := by rw [sd_eq]; exact eq_false fun z => y0 z.2.1
      simp (maxSteps := 10000000) (implicitDefEqProofs := false) (disch := omega) [r__law_kind_of, i__law_kind_of, g__law_kind_of, MD, gd_eq, GD_inj, sm_one, e1, e2, et, ew, el, F0, F1, hb, p_times, p_spot, y0, y0', sdq, isn_n, isn_F, isn_i, G0, G1, S0, S1, M0, M1, b_ret, o_some, map_some, obind_some, k_add, k_sub, k_mul, k_ixl, k_ixt, ix_0, ix_1, ix_2, ix_3, ix_4, ix_5, ix_6, ix_7, ix_8, ix_9, ix_10, ix_11, ix_12, st_0, st_1, st_2, st_3, st_4, st_5, st_6, st_7, st_8, st_9, st_10, st_11, st_12, rd_0, rd_b, rd_l, rd_s, own_0, own_p, own_s, own_n, e_c, e_g, e_v, e_bin, neg_i, e_neg, e_cmp, e_chain, e_nt, e_and, e_or, e_tr, e_ite, e_tup, e_lst, e_ix, e_sl, e_rev, e_call, e_bi, e_isi, e_draw, e_comp, turn_cons, turn_nil, es_nil, es_cons, eS_nil, eS_cons, eC_nil, eC_cons, eA_nil, eA_cons, arg_st, bl_ret, x_nil, then_nx, then_rt, then_ct, then_bk, x_cns, x_bx, x_asgn, x_par, eR_nil, eR_cons, par_nil, par_cons, x_ixs, x_ap, x_ifs, x_rt, x_fr, loop_nx, loop_ct, loop_bk, loop_rt, for_nil, for_cons, bindA, List.replicate, List.cons_append, List.nil_append, a_nm, a_tt, a_tl, as_n, as_c, List.set_cons_zero, List.set_cons_succ, List.length_cons, List.length_nil, setS, boxS, cond_true, cond_false, Bool.and_true, Bool.and_false, Bool.true_and, Bool.false_and, if_true, lk_nil, lk_v, lk_c, lk_g, lk_bin, lk_neg, lk_cmp, lk_chain, lk_nt, lk_and2, lk_or2, lk_tr, lk_ite, lk_tup, lk_lst, lk_ix, lk_sl, lk_rev, lk_call, lk_bi, lk_isi, lk_comp, lk_comp2, lk_draw, ul_nil, ul_v, ul_c, ul_g, ul_bin, ul_neg, ul_cmp, ul_chain, ul_nt, ul_and2, ul_or2, ul_tr, ul_ite, ul_tup, ul_lst, ul_ix, ul_sl, ul_rev, ul_call, ul_bi, ul_isi, ul_comp, ul_comp2, ul_draw, isV, tgS, tgSs, wipeE, rt_v, rt_c, rt_g, rt_bin, rt_neg, rt_cmp, rt_chain, rt_nt, rt_and2, rt_or2, rt_tr, rt_ite, rt_tup, rt_lst, rt_ix, rt_sl, rt_rev, rt_call, rt_bi, rt_isi, rt_comp, rt_comp2, rt_draw, b_lenl, b_lent, b_lens, b_abs, b_sum, b_max, b_min, b_max2, b_min2, b_tupl, b_tupt, b_lstl, b_lstt, b_inti, b_intb, b_all, b_any, b_gcd, is_nil, is_cons, bs_nil, bs_cons, s_seql, s_seqt, s_seqs, s_r1, s_r2, s_zip, s_zipt, s_enum, s_enumt, s_rev, s_revt, s_rr, z_cons, z_nil, z_nil2, n_cons, n_nil, sl_l, sl_t, one_0, one_1, cut_from, cut_to, rv_l, tr_n, tr_b, tr_i, tr_l, tr_t, x_rtN, x_brk, x_cnt, x_pas, x_frz, x_drp, List.getElem?_cons_zero, List.getElem?_cons_succ, arg_c, arg_g, arg_bin, arg_neg, arg_cmp, arg_chain, arg_nt, arg_and2, arg_or2, arg_tr, arg_ite, arg_tup, arg_lst, arg_ix, arg_sl, arg_rev, arg_call, arg_bi, arg_isi, arg_comp, arg_draw, bind_drw, blT_drw, then_drw, loop_drw, all_drw, all_ret, c_lt, c_le, c_gt, c_ge, c_eq, c_ne, c_isN, c_notN, cond_dec, cond_not, cond_and, cond_or, dr10, dr01, ex_ite, wt_nx, wt_rt, wt_ct, wt_bk, wt_drw, q_eq, F_inj, k_addl, k_addt, k_ap, rng2, line, rangeL, List.sum_cons, List.sum_nil, tyD, allTy, run]
end K91

set_option Elab.async false
set_option linter.all false
set_option maxRecDepth 100000
set_option maxHeartbeats 8000000
namespace K91
open FF
/-- what is drawn -/
def Gs (s : Sp) : Prop := ∃ u v : G2, Nz u v ∧ s = sp u v
theorem SmS.mono' {s : Sp} {p q : Nat} (h : SmS p s) (l : p ≤ q) : SmS q s := ⟨h.g.up l, h.i.up l⟩
theorem GDf {a b : Int} : (D.tup [.int a, .int b]) = GD ⟨a, b⟩ := rfl
def Dr (r : Rs) : Prop := ∃ s : Sp, Gs s ∧ SmS 20 s ∧ r = (SD s, false)
theorem p_drawn : (r__law_drawn [.st, .scr]).all Dr := by
  simp (maxSteps := 10000000) (implicitDefEqProofs := false) (disch := omega) [r__law_drawn, i__law_drawn, isn_n, isn_F, isn_i, G0, G1, S0, S1, M0, M1, b_ret, o_some, map_some, obind_some, k_add, k_sub, k_mul, k_ixl, k_ixt, ix_0, ix_1, ix_2, ix_3, ix_4, ix_5, ix_6, ix_7, ix_8, ix_9, ix_10, ix_11, ix_12, st_0, st_1, st_2, st_3, st_4, st_5, st_6, st_7, st_8, st_9, st_10, st_11, st_12, rd_0, rd_b, rd_l, rd_s, own_0, own_p, own_s, own_n, e_c, e_g, e_v, e_bin, neg_i, e_neg, e_cmp, e_chain, e_nt, e_and, e_or, e_tr, e_ite, e_tup, e_lst, e_ix, e_sl, e_rev, e_call, e_bi, e_isi, e_draw, e_comp, turn_cons, turn_nil, es_nil, es_cons, eS_nil, eS_cons, eC_nil, eC_cons, eA_nil, eA_cons, arg_st, bl_ret, x_nil, then_nx, then_rt, then_ct, then_bk, x_cns, x_bx, x_asgn, x_par, eR_nil, eR_cons, par_nil, par_cons, x_ixs, x_ap, x_ifs, x_rt, x_fr, loop_nx, loop_ct, loop_bk, loop_rt, for_nil, for_cons, bindA, List.replicate, List.cons_append, List.nil_append, a_nm, a_tt, a_tl, as_n, as_c, List.set_cons_zero, List.set_cons_succ, List.length_cons, List.length_nil, setS, boxS, cond_true, cond_false, Bool.and_true, Bool.and_false, Bool.true_and, Bool.false_and, if_true, lk_nil, lk_v, lk_c, lk_g, lk_bin, lk_neg, lk_cmp, lk_chain, lk_nt, lk_and2, lk_or2, lk_tr, lk_ite, lk_tup, lk_lst, lk_ix, lk_sl, lk_rev, lk_call, lk_bi, lk_isi, lk_comp, lk_comp2, lk_draw, ul_nil, ul_v, ul_c, ul_g, ul_bin, ul_neg, ul_cmp, ul_chain, ul_nt, ul_and2, ul_or2, ul_tr, ul_ite, ul_tup, ul_lst, ul_ix, ul_sl, ul_rev, ul_call, ul_bi, ul_isi, ul_comp, ul_comp2, ul_draw, isV, tgS, tgSs, wipeE, rt_v, rt_c, rt_g, rt_bin, rt_neg, rt_cmp, rt_chain, rt_nt, rt_and2, rt_or2, rt_tr, rt_ite, rt_tup, rt_lst, rt_ix, rt_sl, rt_rev, rt_call, rt_bi, rt_isi, rt_comp, rt_comp2, rt_draw, b_lenl, b_lent, b_lens, b_abs, b_sum, b_max, b_min, b_max2, b_min2, b_tupl, b_tupt, b_lstl, b_lstt, b_inti, b_intb, b_all, b_any, b_gcd, is_nil, is_cons, bs_nil, bs_cons, s_seql, s_seqt, s_seqs, s_r1, s_r2, s_zip, s_zipt, s_enum, s_enumt, s_rev, s_revt, s_rr, z_cons, z_nil, z_nil2, n_cons, n_nil, sl_l, sl_t, one_0, one_1, cut_from, cut_to, rv_l, tr_n, tr_b, tr_i, tr_l, tr_t, x_rtN, x_brk, x_cnt, x_pas, x_frz, x_drp, List.getElem?_cons_zero, List.getElem?_cons_succ, arg_c, arg_g, arg_bin, arg_neg, arg_cmp, arg_chain, arg_nt, arg_and2, arg_or2, arg_tr, arg_ite, arg_tup, arg_lst, arg_ix, arg_sl, arg_rev, arg_call, arg_bi, arg_isi, arg_comp, arg_draw, bind_drw, blT_drw, then_drw, loop_drw, all_drw, all_ret, c_lt, c_le, c_gt, c_ge, c_eq, c_ne, c_isN, c_notN, cond_dec, cond_not, cond_and, cond_or, dr10, dr01, ex_ite, wt_nx, wt_rt, wt_ct, wt_bk, wt_drw, q_eq, F_inj, k_addl, k_addt, k_ap, rng2, line, rangeL, List.sum_cons, List.sum_nil, tyD, allTy, run]
  intro d hd
  by_cases h : d = 0
  · simp (maxSteps := 10000000) (implicitDefEqProofs := false) (disch := omega) [h, T.all, isn_n, isn_F, isn_i, G0, G1, S0, S1, M0, M1, b_ret, o_some, map_some, obind_some, k_add, k_sub, k_mul, k_ixl, k_ixt, ix_0, ix_1, ix_2, ix_3, ix_4, ix_5, ix_6, ix_7, ix_8, ix_9, ix_10, ix_11, ix_12, st_0, st_1, st_2, st_3, st_4, st_5, st_6, st_7, st_8, st_9, st_10, st_11, st_12, rd_0, rd_b, rd_l, rd_s, own_0, own_p, own_s, own_n, e_c, e_g, e_v, e_bin, neg_i, e_neg, e_cmp, e_chain, e_nt, e_and, e_or, e_tr, e_ite, e_tup, e_lst, e_ix, e_sl, e_rev, e_call, e_bi, e_isi, e_draw, e_comp, turn_cons, turn_nil, es_nil, es_cons, eS_nil, eS_cons, eC_nil, eC_cons, eA_nil, eA_cons, arg_st, bl_ret, x_nil, then_nx, then_rt, then_ct, then_bk, x_cns, x_bx, x_asgn, x_par, eR_nil, eR_cons, par_nil, par_cons, x_ixs, x_ap, x_ifs, x_rt, x_fr, loop_nx, loop_ct, loop_bk, loop_rt, for_nil, for_cons, bindA, List.replicate, List.cons_append, List.nil_append, a_nm, a_tt, a_tl, as_n, as_c, List.set_cons_zero, List.set_cons_succ, List.length_cons, List.length_nil, setS, boxS, cond_true, cond_false, Bool.and_true, Bool.and_false, Bool.true_and, Bool.false_and, if_true, lk_nil, lk_v, lk_c, lk_g, lk_bin, lk_neg, lk_cmp, lk_chain, lk_nt, lk_and2, lk_or2, lk_tr, lk_ite, lk_tup, lk_lst, lk_ix, lk_sl, lk_rev, lk_call, lk_bi, lk_isi, lk_comp, lk_comp2, lk_draw, ul_nil, ul_v, ul_c, ul_g, ul_bin, ul_neg, ul_cmp, ul_chain, ul_nt, ul_and2, ul_or2, ul_tr, ul_ite, ul_tup, ul_lst, ul_ix, ul_sl, ul_rev, ul_call, ul_bi, ul_isi, ul_comp, ul_comp2, ul_draw, isV, tgS, tgSs, wipeE, rt_v, rt_c, rt_g, rt_bin, rt_neg, rt_cmp, rt_chain, rt_nt, rt_and2, rt_or2, rt_tr, rt_ite, rt_tup, rt_lst, rt_ix, rt_sl, rt_rev, rt_call, rt_bi, rt_isi, rt_comp, rt_comp2, rt_draw, b_lenl, b_lent, b_lens, b_abs, b_sum, b_max, b_min, b_max2, b_min2, b_tupl, b_tupt, b_lstl, b_lstt, b_inti, b_intb, b_all, b_any, b_gcd, is_nil, is_cons, bs_nil, bs_cons, s_seql, s_seqt, s_seqs, s_r1, s_r2, s_zip, s_zipt, s_enum, s_enumt, s_rev, s_revt, s_rr, z_cons, z_nil, z_nil2, n_cons, n_nil, sl_l, sl_t, one_0, one_1, cut_from, cut_to, rv_l, tr_n, tr_b, tr_i, tr_l, tr_t, x_rtN, x_brk, x_cnt, x_pas, x_frz, x_drp, List.getElem?_cons_zero, List.getElem?_cons_succ, arg_c, arg_g, arg_bin, arg_neg, arg_cmp, arg_chain, arg_nt, arg_and2, arg_or2, arg_tr, arg_ite, arg_tup, arg_lst, arg_ix, arg_sl, arg_rev, arg_call, arg_bi, arg_isi, arg_comp, arg_draw, bind_drw, blT_drw, then_drw, loop_drw, all_drw, all_ret, c_lt, c_le, c_gt, c_ge, c_eq, c_ne, c_isN, c_notN, cond_dec, cond_not, cond_and, cond_or, dr10, dr01, ex_ite, wt_nx, wt_rt, wt_ct, wt_bk, wt_drw, q_eq, F_inj, k_addl, k_addt, k_ap, rng2, line, rangeL, List.sum_cons, List.sum_nil, tyD, allTy, run]
    exact ⟨(.one, 0), ⟨.one, .zero, (fun e => by cases e.1), rfl⟩, ⟨⟨(⟨by decide⟩ : Sm 20 1), (⟨by decide⟩ : Sm 20 0)⟩, (⟨by decide⟩ : Sm 20 0)⟩, rfl⟩
  · simp (maxSteps := 10000000) (implicitDefEqProofs := false) (disch := omega) [h, isn_n, isn_F, isn_i, G0, G1, S0, S1, M0, M1, b_ret, o_some, map_some, obind_some, k_add, k_sub, k_mul, k_ixl, k_ixt, ix_0, ix_1, ix_2, ix_3, ix_4, ix_5, ix_6, ix_7, ix_8, ix_9, ix_10, ix_11, ix_12, st_0, st_1, st_2, st_3, st_4, st_5, st_6, st_7, st_8, st_9, st_10, st_11, st_12, rd_0, rd_b, rd_l, rd_s, own_0, own_p, own_s, own_n, e_c, e_g, e_v, e_bin, neg_i, e_neg, e_cmp, e_chain, e_nt, e_and, e_or, e_tr, e_ite, e_tup, e_lst, e_ix, e_sl, e_rev, e_call, e_bi, e_isi, e_draw, e_comp, turn_cons, turn_nil, es_nil, es_cons, eS_nil, eS_cons, eC_nil, eC_cons, eA_nil, eA_cons, arg_st, bl_ret, x_nil, then_nx, then_rt, then_ct, then_bk, x_cns, x_bx, x_asgn, x_par, eR_nil, eR_cons, par_nil, par_cons, x_ixs, x_ap, x_ifs, x_rt, x_fr, loop_nx, loop_ct, loop_bk, loop_rt, for_nil, for_cons, bindA, List.replicate, List.cons_append, List.nil_append, a_nm, a_tt, a_tl, as_n, as_c, List.set_cons_zero, List.set_cons_succ, List.length_cons, List.length_nil, setS, boxS, cond_true, cond_false, Bool.and_true, Bool.and_false, Bool.true_and, Bool.false_and, if_true, lk_nil, lk_v, lk_c, lk_g, lk_bin, lk_neg, lk_cmp, lk_chain, lk_nt, lk_and2, lk_or2, lk_tr, lk_ite, lk_tup, lk_lst, lk_ix, lk_sl, lk_rev, lk_call, lk_bi, lk_isi, lk_comp, lk_comp2, lk_draw, ul_nil, ul_v, ul_c, ul_g, ul_bin, ul_neg, ul_cmp, ul_chain, ul_nt, ul_and2, ul_or2, ul_tr, ul_ite, ul_tup, ul_lst, ul_ix, ul_sl, ul_rev, ul_call, ul_bi, ul_isi, ul_comp, ul_comp2, ul_draw, isV, tgS, tgSs, wipeE, rt_v, rt_c, rt_g, rt_bin, rt_neg, rt_cmp, rt_chain, rt_nt, rt_and2, rt_or2, rt_tr, rt_ite, rt_tup, rt_lst, rt_ix, rt_sl, rt_rev, rt_call, rt_bi, rt_isi, rt_comp, rt_comp2, rt_draw, b_lenl, b_lent, b_lens, b_abs, b_sum, b_max, b_min, b_max2, b_min2, b_tupl, b_tupt, b_lstl, b_lstt, b_inti, b_intb, b_all, b_any, b_gcd, is_nil, is_cons, bs_nil, bs_cons, s_seql, s_seqt, s_seqs, s_r1, s_r2, s_zip, s_zipt, s_enum, s_enumt, s_rev, s_revt, s_rr, z_cons, z_nil, z_nil2, n_cons, n_nil, sl_l, sl_t, one_0, one_1, cut_from, cut_to, rv_l, tr_n, tr_b, tr_i, tr_l, tr_t, x_rtN, x_brk, x_cnt, x_pas, x_frz, x_drp, List.getElem?_cons_zero, List.getElem?_cons_succ, arg_c, arg_g, arg_bin, arg_neg, arg_cmp, arg_chain, arg_nt, arg_and2, arg_or2, arg_tr, arg_ite, arg_tup, arg_lst, arg_ix, arg_sl, arg_rev, arg_call, arg_bi, arg_isi, arg_comp, arg_draw, bind_drw, blT_drw, then_drw, loop_drw, all_drw, all_ret, c_lt, c_le, c_gt, c_ge, c_eq, c_ne, c_isN, c_notN, cond_dec, cond_not, cond_and, cond_or, dr10, dr01, ex_ite, wt_nx, wt_rt, wt_ct, wt_bk, wt_drw, q_eq, F_inj, k_addl, k_addt, k_ap, rng2, line, rangeL, List.sum_cons, List.sum_nil, tyD, allTy, run]
    intro a ha b hb c hc
    have i1 : Sm 3 ((a : Int) - 4) := ⟨by omega⟩
    have i2 : Sm 3 ((b : Int) - 4) := ⟨by omega⟩
    have i3 : Sm 3 (1 + (c : Int)) := ⟨by omega⟩
    have i0 : Sm 3 0 := ⟨by decide⟩
    have iu : SmG 3 (⟨(a : Int) - 4, (b : Int) - 4⟩ : G2) := ⟨i1, i2⟩
    have iv : SmG 3 (⟨1 + (c : Int), 0⟩ : G2) := ⟨i3, i0⟩
    have e : g__law_drawn 9 [.d (.tup [.int ((a : Int) - 4), .int ((b : Int) - 4)]), .d (.tup [.int (1 + (c : Int)), .int 0])] = .ret (SD (sp ⟨(a : Int) - 4, (b : Int) - 4⟩ ⟨1 + (c : Int), 0⟩), false) := p_spot (u := ⟨(a : Int) - 4, (b : Int) - 4⟩) (v := ⟨1 + (c : Int), 0⟩) (by omega) (by omega)
    rw [e]
    simp (maxSteps := 10000000) (implicitDefEqProofs := false) (disch := omega) [T.all, isn_n, isn_F, isn_i, G0, G1, S0, S1, M0, M1, b_ret, o_some, map_some, obind_some, k_add, k_sub, k_mul, k_ixl, k_ixt, ix_0, ix_1, ix_2, ix_3, ix_4, ix_5, ix_6, ix_7, ix_8, ix_9, ix_10, ix_11, ix_12, st_0, st_1, st_2, st_3, st_4, st_5, st_6, st_7, st_8, st_9, st_10, st_11, st_12, rd_0, rd_b, rd_l, rd_s, own_0, own_p, own_s, own_n, e_c, e_g, e_v, e_bin, neg_i, e_neg, e_cmp, e_chain, e_nt, e_and, e_or, e_tr, e_ite, e_tup, e_lst, e_ix, e_sl, e_rev, e_call, e_bi, e_isi, e_draw, e_comp, turn_cons, turn_nil, es_nil, es_cons, eS_nil, eS_cons, eC_nil, eC_cons, eA_nil, eA_cons, arg_st, bl_ret, x_nil, then_nx, then_rt, then_ct, then_bk, x_cns, x_bx, x_asgn, x_par, eR_nil, eR_cons, par_nil, par_cons, x_ixs, x_ap, x_ifs, x_rt, x_fr, loop_nx, loop_ct, loop_bk, loop_rt, for_nil, for_cons, bindA, List.replicate, List.cons_append, List.nil_append, a_nm, a_tt, a_tl, as_n, as_c, List.set_cons_zero, List.set_cons_succ, List.length_cons, List.length_nil, setS, boxS, cond_true, cond_false, Bool.and_true, Bool.and_false, Bool.true_and, Bool.false_and, if_true, lk_nil, lk_v, lk_c, lk_g, lk_bin, lk_neg, lk_cmp, lk_chain, lk_nt, lk_and2, lk_or2, lk_tr, lk_ite, lk_tup, lk_lst, lk_ix, lk_sl, lk_rev, lk_call, lk_bi, lk_isi, lk_comp, lk_comp2, lk_draw, ul_nil, ul_v, ul_c, ul_g, ul_bin, ul_neg, ul_cmp, ul_chain, ul_nt, ul_and2, ul_or2, ul_tr, ul_ite, ul_tup, ul_lst, ul_ix, ul_sl, ul_rev, ul_call, ul_bi, ul_isi, ul_comp, ul_comp2, ul_draw, isV, tgS, tgSs, wipeE, rt_v, rt_c, rt_g, rt_bin, rt_neg, rt_cmp, rt_chain, rt_nt, rt_and2, rt_or2, rt_tr, rt_ite, rt_tup, rt_lst, rt_ix, rt_sl, rt_rev, rt_call, rt_bi, rt_isi, rt_comp, rt_comp2, rt_draw, b_lenl, b_lent, b_lens, b_abs, b_sum, b_max, b_min, b_max2, b_min2, b_tupl, b_tupt, b_lstl, b_lstt, b_inti, b_intb, b_all, b_any, b_gcd, is_nil, is_cons, bs_nil, bs_cons, s_seql, s_seqt, s_seqs, s_r1, s_r2, s_zip, s_zipt, s_enum, s_enumt, s_rev, s_revt, s_rr, z_cons, z_nil, z_nil2, n_cons, n_nil, sl_l, sl_t, one_0, one_1, cut_from, cut_to, rv_l, tr_n, tr_b, tr_i, tr_l, tr_t, x_rtN, x_brk, x_cnt, x_pas, x_frz, x_drp, List.getElem?_cons_zero, List.getElem?_cons_succ, arg_c, arg_g, arg_bin, arg_neg, arg_cmp, arg_chain, arg_nt, arg_and2, arg_or2, arg_tr, arg_ite, arg_tup, arg_lst, arg_ix, arg_sl, arg_rev, arg_call, arg_bi, arg_isi, arg_comp, arg_draw, bind_drw, blT_drw, then_drw, loop_drw, all_drw, all_ret, c_lt, c_le, c_gt, c_ge, c_eq, c_ne, c_isN, c_notN, cond_dec, cond_not, cond_and, cond_or, dr10, dr01, ex_ite, wt_nx, wt_rt, wt_ct, wt_bk, wt_drw, q_eq, F_inj, k_addl, k_addt, k_ap, rng2, line, rangeL, List.sum_cons, List.sum_nil, tyD, allTy, run]
    refine ⟨_, ⟨_, _, ?_, rfl⟩, (inferInstance : SmS _ (sp _ _)).mono' (by omega), rfl⟩
    rintro ⟨_, z⟩
    have := congrArg G2.x z
    simp only [G2.zero] at this
    omega
def Dt (r : Rs) : Prop := ∃ m : M2, m.det ≠ .zero ∧ SmT 4 m ∧ r = (MD m, false)
theorem p_two_table : (r__law_two_table [.st, .scr]).all Dt := by
  simp (maxSteps := 10000000) (implicitDefEqProofs := false) (disch := omega) [r__law_two_table, i__law_two_table, isn_n, isn_F, isn_i, G0, G1, S0, S1, M0, M1, b_ret, o_some, map_some, obind_some, k_add, k_sub, k_mul, k_ixl, k_ixt, ix_0, ix_1, ix_2, ix_3, ix_4, ix_5, ix_6, ix_7, ix_8, ix_9, ix_10, ix_11, ix_12, st_0, st_1, st_2, st_3, st_4, st_5, st_6, st_7, st_8, st_9, st_10, st_11, st_12, rd_0, rd_b, rd_l, rd_s, own_0, own_p, own_s, own_n, e_c, e_g, e_v, e_bin, neg_i, e_neg, e_cmp, e_chain, e_nt, e_and, e_or, e_tr, e_ite, e_tup, e_lst, e_ix, e_sl, e_rev, e_call, e_bi, e_isi, e_draw, e_comp, turn_cons, turn_nil, es_nil, es_cons, eS_nil, eS_cons, eC_nil, eC_cons, eA_nil, eA_cons, arg_st, bl_ret, x_nil, then_nx, then_rt, then_ct, then_bk, x_cns, x_bx, x_asgn, x_par, eR_nil, eR_cons, par_nil, par_cons, x_ixs, x_ap, x_ifs, x_rt, x_fr, loop_nx, loop_ct, loop_bk, loop_rt, for_nil, for_cons, bindA, List.replicate, List.cons_append, List.nil_append, a_nm, a_tt, a_tl, as_n, as_c, List.set_cons_zero, List.set_cons_succ, List.length_cons, List.length_nil, setS, boxS, cond_true, cond_false, Bool.and_true, Bool.and_false, Bool.true_and, Bool.false_and, if_true, lk_nil, lk_v, lk_c, lk_g, lk_bin, lk_neg, lk_cmp, lk_chain, lk_nt, lk_and2, lk_or2, lk_tr, lk_ite, lk_tup, lk_lst, lk_ix, lk_sl, lk_rev, lk_call, lk_bi, lk_isi, lk_comp, lk_comp2, lk_draw, ul_nil, ul_v, ul_c, ul_g, ul_bin, ul_neg, ul_cmp, ul_chain, ul_nt, ul_and2, ul_or2, ul_tr, ul_ite, ul_tup, ul_lst, ul_ix, ul_sl, ul_rev, ul_call, ul_bi, ul_isi, ul_comp, ul_comp2, ul_draw, isV, tgS, tgSs, wipeE, rt_v, rt_c, rt_g, rt_bin, rt_neg, rt_cmp, rt_chain, rt_nt, rt_and2, rt_or2, rt_tr, rt_ite, rt_tup, rt_lst, rt_ix, rt_sl, rt_rev, rt_call, rt_bi, rt_isi, rt_comp, rt_comp2, rt_draw, b_lenl, b_lent, b_lens, b_abs, b_sum, b_max, b_min, b_max2, b_min2, b_tupl, b_tupt, b_lstl, b_lstt, b_inti, b_intb, b_all, b_any, b_gcd, is_nil, is_cons, bs_nil, bs_cons, s_seql, s_seqt, s_seqs, s_r1, s_r2, s_zip, s_zipt, s_enum, s_enumt, s_rev, s_revt, s_rr, z_cons, z_nil, z_nil2, n_cons, n_nil, sl_l, sl_t, one_0, one_1, cut_from, cut_to, rv_l, tr_n, tr_b, tr_i, tr_l, tr_t, x_rtN, x_brk, x_cnt, x_pas, x_frz, x_drp, List.getElem?_cons_zero, List.getElem?_cons_succ, arg_c, arg_g, arg_bin, arg_neg, arg_cmp, arg_chain, arg_nt, arg_and2, arg_or2, arg_tr, arg_ite, arg_tup, arg_lst, arg_ix, arg_sl, arg_rev, arg_call, arg_bi, arg_isi, arg_comp, arg_draw, bind_drw, blT_drw, then_drw, loop_drw, all_drw, all_ret, c_lt, c_le, c_gt, c_ge, c_eq, c_ne, c_isN, c_notN, cond_dec, cond_not, cond_and, cond_or, dr10, dr01, ex_ite, wt_nx, wt_rt, wt_ct, wt_bk, wt_drw, q_eq, F_inj, k_addl, k_addt, k_ap, rng2, line, rangeL, List.sum_cons, List.sum_nil, tyD, allTy, run]
  intro a ha b hb c hc d hd e he f hf g hg h hh
  have i1 : Sm 4 ((a : Int) - 3) := ⟨by omega⟩
  have i2 : Sm 4 ((b : Int) - 2) := ⟨by omega⟩
  have i3 : Sm 4 ((c : Int) - 3) := ⟨by omega⟩
  have i4 : Sm 4 ((d : Int) - 2) := ⟨by omega⟩
  have i5 : Sm 4 ((e : Int) - 3) := ⟨by omega⟩
  have i6 : Sm 4 ((f : Int) - 2) := ⟨by omega⟩
  have i7 : Sm 4 ((g : Int) - 3) := ⟨by omega⟩
  have i8 : Sm 4 ((h : Int) - 2) := ⟨by omega⟩
  generalize (a : Int) - 3 = a at *
  generalize (b : Int) - 2 = b at *
  generalize (c : Int) - 3 = c at *
  generalize (d : Int) - 2 = d at *
  generalize (e : Int) - 3 = e at *
  generalize (f : Int) - 2 = f at *
  generalize (g : Int) - 3 = g at *
  generalize (h : Int) - 2 = h at *
  have it : SmT 4 (⟨⟨a, b⟩, ⟨c, d⟩, ⟨e, f⟩, ⟨g, h⟩⟩ : M2) := ⟨⟨i1, i2⟩, ⟨i3, i4⟩, ⟨i5, i6⟩, ⟨i7, i8⟩⟩
  have ja : SmG 4 (⟨a, b⟩ : G2) := ⟨i1, i2⟩
  have jb : SmG 4 (⟨c, d⟩ : G2) := ⟨i3, i4⟩
  have jc : SmG 4 (⟨e, f⟩ : G2) := ⟨i5, i6⟩
  have jd : SmG 4 (⟨g, h⟩ : G2) := ⟨i7, i8⟩
  have e1 : g__law_two_table 1 [.d (.tup [.int a, .int b]), .d (.tup [.int g, .int h])] = .ret (GD (G2.mul ⟨a, b⟩ ⟨g, h⟩), false) := p_times (a := ⟨a, b⟩) (b := ⟨g, h⟩) (p := 4) (q := 4) (by omega)
  have e2 : g__law_two_table 1 [.d (.tup [.int c, .int d]), .d (.tup [.int e, .int f])] = .ret (GD (G2.mul ⟨c, d⟩ ⟨e, f⟩), false) := p_times (a := ⟨c, d⟩) (b := ⟨e, f⟩) (p := 4) (q := 4) (by omega)
  have e3 : g__law_two_table 0 [.d (GD (G2.mul ⟨a, b⟩ ⟨g, h⟩)), .d (GD (G2.mul ⟨c, d⟩ ⟨e, f⟩)), .d (.int (-1))] = .ret (GD (M2.det ⟨⟨a, b⟩, ⟨c, d⟩, ⟨e, f⟩, ⟨g, h⟩⟩), false) := by
    have j1 : SmG 9 (G2.mul ⟨a, b⟩ ⟨g, h⟩) := inferInstance
    have j2 : SmG 9 (G2.mul ⟨c, d⟩ ⟨e, f⟩) := inferInstance
    exact p_plus (by omega)
  by_cases hz : (M2.det ⟨⟨a, b⟩, ⟨c, d⟩, ⟨e, f⟩, ⟨g, h⟩⟩).x = 0 ∧ (M2.det ⟨⟨a, b⟩, ⟨c, d⟩, ⟨e, f⟩, ⟨g, h⟩⟩).y = 0
  · generalize M2.det ⟨⟨a, b⟩, ⟨c, d⟩, ⟨e, f⟩, ⟨g, h⟩⟩ = z at *
    simp (maxSteps := 10000000) (implicitDefEqProofs := false) (disch := omega) [e1, e2, e3, gd_eq, hz, T.all, isn_n, isn_F, isn_i, G0, G1, S0, S1, M0, M1, b_ret, o_some, map_some, obind_some, k_add, k_sub, k_mul, k_ixl, k_ixt, ix_0, ix_1, ix_2, ix_3, ix_4, ix_5, ix_6, ix_7, ix_8, ix_9, ix_10, ix_11, ix_12, st_0, st_1, st_2, st_3, st_4, st_5, st_6, st_7, st_8, st_9, st_10, st_11, st_12, rd_0, rd_b, rd_l, rd_s, own_0, own_p, own_s, own_n, e_c, e_g, e_v, e_bin, neg_i, e_neg, e_cmp, e_chain, e_nt, e_and, e_or, e_tr, e_ite, e_tup, e_lst, e_ix, e_sl, e_rev, e_call, e_bi, e_isi, e_draw, e_comp, turn_cons, turn_nil, es_nil, es_cons, eS_nil, eS_cons, eC_nil, eC_cons, eA_nil, eA_cons, arg_st, bl_ret, x_nil, then_nx, then_rt, then_ct, then_bk, x_cns, x_bx, x_asgn, x_par, eR_nil, eR_cons, par_nil, par_cons, x_ixs, x_ap, x_ifs, x_rt, x_fr, loop_nx, loop_ct, loop_bk, loop_rt, for_nil, for_cons, bindA, List.replicate, List.cons_append, List.nil_append, a_nm, a_tt, a_tl, as_n, as_c, List.set_cons_zero, List.set_cons_succ, List.length_cons, List.length_nil, setS, boxS, cond_true, cond_false, Bool.and_true, Bool.and_false, Bool.true_and, Bool.false_and, if_true, lk_nil, lk_v, lk_c, lk_g, lk_bin, lk_neg, lk_cmp, lk_chain, lk_nt, lk_and2, lk_or2, lk_tr, lk_ite, lk_tup, lk_lst, lk_ix, lk_sl, lk_rev, lk_call, lk_bi, lk_isi, lk_comp, lk_comp2, lk_draw, ul_nil, ul_v, ul_c, ul_g, ul_bin, ul_neg, ul_cmp, ul_chain, ul_nt, ul_and2, ul_or2, ul_tr, ul_ite, ul_tup, ul_lst, ul_ix, ul_sl, ul_rev, ul_call, ul_bi, ul_isi, ul_comp, ul_comp2, ul_draw, isV, tgS, tgSs, wipeE, rt_v, rt_c, rt_g, rt_bin, rt_neg, rt_cmp, rt_chain, rt_nt, rt_and2, rt_or2, rt_tr, rt_ite, rt_tup, rt_lst, rt_ix, rt_sl, rt_rev, rt_call, rt_bi, rt_isi, rt_comp, rt_comp2, rt_draw, b_lenl, b_lent, b_lens, b_abs, b_sum, b_max, b_min, b_max2, b_min2, b_tupl, b_tupt, b_lstl, b_lstt, b_inti, b_intb, b_all, b_any, b_gcd, is_nil, is_cons, bs_nil, bs_cons, s_seql, s_seqt, s_seqs, s_r1, s_r2, s_zip, s_zipt, s_enum, s_enumt, s_rev, s_revt, s_rr, z_cons, z_nil, z_nil2, n_cons, n_nil, sl_l, sl_t, one_0, one_1, cut_from, cut_to, rv_l, tr_n, tr_b, tr_i, tr_l, tr_t, x_rtN, x_brk, x_cnt, x_pas, x_frz, x_drp, List.getElem?_cons_zero, List.getElem?_cons_succ, arg_c, arg_g, arg_bin, arg_neg, arg_cmp, arg_chain, arg_nt, arg_and2, arg_or2, arg_tr, arg_ite, arg_tup, arg_lst, arg_ix, arg_sl, arg_rev, arg_call, arg_bi, arg_isi, arg_comp, arg_draw, bind_drw, blT_drw, then_drw, loop_drw, all_drw, all_ret, c_lt, c_le, c_gt, c_ge, c_eq, c_ne, c_isN, c_notN, cond_dec, cond_not, cond_and, cond_or, dr10, dr01, ex_ite, wt_nx, wt_rt, wt_ct, wt_bk, wt_drw, q_eq, F_inj, k_addl, k_addt, k_ap, rng2, line, rangeL, List.sum_cons, List.sum_nil, tyD, allTy, run]
    refine ⟨⟨⟨1, 0⟩, ⟨0, 1⟩, ⟨0, 0⟩, ⟨1, 0⟩⟩, (fun w => by cases congrArg G2.x w), ⟨⟨⟨by decide⟩, ⟨by decide⟩⟩, ⟨⟨by decide⟩, ⟨by decide⟩⟩, ⟨⟨by decide⟩, ⟨by decide⟩⟩, ⟨⟨by decide⟩, ⟨by decide⟩⟩⟩, rfl⟩
  · have hd : M2.det ⟨⟨a, b⟩, ⟨c, d⟩, ⟨e, f⟩, ⟨g, h⟩⟩ ≠ .zero := fun w => hz (by rw [w]; exact ⟨rfl, rfl⟩)
    generalize hy : M2.det ⟨⟨a, b⟩, ⟨c, d⟩, ⟨e, f⟩, ⟨g, h⟩⟩ = z at *
    simp (maxSteps := 10000000) (implicitDefEqProofs := false) (disch := omega) [e1, e2, e3, gd_eq, hz, T.all, isn_n, isn_F, isn_i, G0, G1, S0, S1, M0, M1, b_ret, o_some, map_some, obind_some, k_add, k_sub, k_mul, k_ixl, k_ixt, ix_0, ix_1, ix_2, ix_3, ix_4, ix_5, ix_6, ix_7, ix_8, ix_9, ix_10, ix_11, ix_12, st_0, st_1, st_2, st_3, st_4, st_5, st_6, st_7, st_8, st_9, st_10, st_11, st_12, rd_0, rd_b, rd_l, rd_s, own_0, own_p, own_s, own_n, e_c, e_g, e_v, e_bin, neg_i, e_neg, e_cmp, e_chain, e_nt, e_and, e_or, e_tr, e_ite, e_tup, e_lst, e_ix, e_sl, e_rev, e_call, e_bi, e_isi, e_draw, e_comp, turn_cons, turn_nil, es_nil, es_cons, eS_nil, eS_cons, eC_nil, eC_cons, eA_nil, eA_cons, arg_st, bl_ret, x_nil, then_nx, then_rt, then_ct, then_bk, x_cns, x_bx, x_asgn, x_par, eR_nil, eR_cons, par_nil, par_cons, x_ixs, x_ap, x_ifs, x_rt, x_fr, loop_nx, loop_ct, loop_bk, loop_rt, for_nil, for_cons, bindA, List.replicate, List.cons_append, List.nil_append, a_nm, a_tt, a_tl, as_n, as_c, List.set_cons_zero, List.set_cons_succ, List.length_cons, List.length_nil, setS, boxS, cond_true, cond_false, Bool.and_true, Bool.and_false, Bool.true_and, Bool.false_and, if_true, lk_nil, lk_v, lk_c, lk_g, lk_bin, lk_neg, lk_cmp, lk_chain, lk_nt, lk_and2, lk_or2, lk_tr, lk_ite, lk_tup, lk_lst, lk_ix, lk_sl, lk_rev, lk_call, lk_bi, lk_isi, lk_comp, lk_comp2, lk_draw, ul_nil, ul_v, ul_c, ul_g, ul_bin, ul_neg, ul_cmp, ul_chain, ul_nt, ul_and2, ul_or2, ul_tr, ul_ite, ul_tup, ul_lst, ul_ix, ul_sl, ul_rev, ul_call, ul_bi, ul_isi, ul_comp, ul_comp2, ul_draw, isV, tgS, tgSs, wipeE, rt_v, rt_c, rt_g, rt_bin, rt_neg, rt_cmp, rt_chain, rt_nt, rt_and2, rt_or2, rt_tr, rt_ite, rt_tup, rt_lst, rt_ix, rt_sl, rt_rev, rt_call, rt_bi, rt_isi, rt_comp, rt_comp2, rt_draw, b_lenl, b_lent, b_lens, b_abs, b_sum, b_max, b_min, b_max2, b_min2, b_tupl, b_tupt, b_lstl, b_lstt, b_inti, b_intb, b_all, b_any, b_gcd, is_nil, is_cons, bs_nil, bs_cons, s_seql, s_seqt, s_seqs, s_r1, s_r2, s_zip, s_zipt, s_enum, s_enumt, s_rev, s_revt, s_rr, z_cons, z_nil, z_nil2, n_cons, n_nil, sl_l, sl_t, one_0, one_1, cut_from, cut_to, rv_l, tr_n, tr_b, tr_i, tr_l, tr_t, x_rtN, x_brk, x_cnt, x_pas, x_frz, x_drp, List.getElem?_cons_zero, List.getElem?_cons_succ, arg_c, arg_g, arg_bin, arg_neg, arg_cmp, arg_chain, arg_nt, arg_and2, arg_or2, arg_tr, arg_ite, arg_tup, arg_lst, arg_ix, arg_sl, arg_rev, arg_call, arg_bi, arg_isi, arg_comp, arg_draw, bind_drw, blT_drw, then_drw, loop_drw, all_drw, all_ret, c_lt, c_le, c_gt, c_ge, c_eq, c_ne, c_isN, c_notN, cond_dec, cond_not, cond_and, cond_or, dr10, dr01, ex_ite, wt_nx, wt_rt, wt_ct, wt_bk, wt_drw, q_eq, F_inj, k_addl, k_addt, k_ap, rng2, line, rangeL, List.sum_cons, List.sum_nil, tyD, allTy, run]
    exact ⟨⟨⟨a, b⟩, ⟨c, d⟩, ⟨e, f⟩, ⟨g, h⟩⟩, by rw [hy]; exact hd, it, rfl⟩
end K91

set_option Elab.async false
set_option linter.all false
set_option maxRecDepth 100000
set_option maxHeartbeats 8000000
/-! K91N: plain laws of spots. -/
namespace K91
open FF
theorem sp_prop {c d X Y X' Y' : G2} (hc : c ≠ .zero) (h1 : c.mul X' = d.mul X) (h2 : c.mul Y' = d.mul Y) (n : Nz X Y) (n' : Nz X' Y') : sp X Y = sp X' Y' := by
  refine sp_eq n n' (G2.mul_cancel hc ?_)
  have e1 : (X.mul Y').mul c = X.mul (c.mul Y') := by rw [G2.mul_assoc, G2.mul_comm Y' c]
  have e2 : (X'.mul Y).mul c = (c.mul X').mul Y := by rw [G2.mul_comm _ c, G2.mul_assoc]
  rw [e1, e2, h2, h1]
  apply G2.ext' <;> simp only [G2.mul] <;> grind
def l1 (m : M2) (u v : G2) : G2 := (m.a.mul u).add (m.b.mul v)
def l2 (m : M2) (u v : G2) : G2 := (m.c.mul u).add (m.d.mul v)
theorem led_l (m : M2) (s : Sp) : led m s = sp (l1 m s.1 (.num s.2)) (l2 m s.1 (.num s.2)) := by
  have e : ∀ g : G2, ∀ k : Int, g.sm k = g.mul (.num k) := by
    intro g k; apply G2.ext' <;> simp only [G2.sm, G2.mul, G2.num] <;> grind
  unfold led l1 l2
  rw [e, e]
theorem det_l (m : M2) (u v : G2) : m.det.mul u = ((m.d.mul (l1 m u v)).sub (m.b.mul (l2 m u v))) ∧ m.det.mul v = ((m.a.mul (l2 m u v)).sub (m.c.mul (l1 m u v))) := by
  constructor <;> apply G2.ext' <;> simp only [M2.det, l1, l2, G2.mul, G2.add, G2.sub, G2.sm] <;> grind
theorem nz_l {m : M2} (hd : m.det ≠ .zero) {u v : G2} (h : Nz u v) : Nz (l1 m u v) (l2 m u v) := by
  rintro ⟨z1, z2⟩
  obtain ⟨e1, e2⟩ := det_l m u v
  rw [z1, z2] at e1 e2
  have hz : ∀ a b : G2, (a.mul .zero).sub (b.mul .zero) = .zero := by
    intro a b; apply G2.ext' <;> simp [G2.mul, G2.sub, G2.zero]
  rw [hz] at e1 e2
  exact h ⟨(G2.mul_z e1).resolve_left hd, (G2.mul_z e2).resolve_left hd⟩
theorem l_mul (m n : M2) (u v : G2) : l1 (m.mul n) u v = l1 m (l1 n u v) (l2 n u v) ∧ l2 (m.mul n) u v = l2 m (l1 n u v) (l2 n u v) := by
  constructor <;> apply G2.ext' <;> simp only [M2.mul, l1, l2, G2.mul, G2.add] <;> grind
theorem l_sc (m : M2) (c u v : G2) : c.mul (l1 m u v) = l1 m (c.mul u) (c.mul v) ∧ c.mul (l2 m u v) = l2 m (c.mul u) (c.mul v) := by
  constructor <;> apply G2.ext' <;> simp only [l1, l2, G2.mul, G2.add] <;> grind
theorem det_mul (m n : M2) : (m.mul n).det = m.det.mul n.det := by
  apply G2.ext' <;> simp only [M2.mul, M2.det, G2.mul, G2.add, G2.sm] <;> grind
/-- a led spot is led on as the pair is -/
theorem led_sp {m : M2} (hd : m.det ≠ .zero) {u v : G2} (h : Nz u v) : led m (sp u v) = sp (l1 m u v) (l2 m u v) := by
  obtain ⟨c, d, hc, hd', e1, e2⟩ := sp_rel h
  rw [led_l]
  refine (sp_prop (d := d) hc ?_ ?_ (nz_l hd h) (nz_l hd ?_)).symm
  · rw [(l_sc m c _ _).1, (l_sc m d _ _).1, e1, e2]
  · rw [(l_sc m c _ _).2, (l_sc m d _ _).2, e1, e2]
  · rintro ⟨z1, z2⟩
    rw [z1, G2.mul_zero] at e1
    rw [z2, G2.mul_zero] at e2
    exact h ⟨(G2.mul_z e1.symm).resolve_left hd', (G2.mul_z e2.symm).resolve_left hd'⟩
theorem led_mul {m n : M2} (hm : m.det ≠ .zero) (hn : n.det ≠ .zero) {s : Sp} (h : Gs s) : led (m.mul n) s = led m (led n s) := by
  obtain ⟨u, v, hz, rfl⟩ := h
  rw [led_sp (by rw [det_mul]; exact G2.mul_ne hm hn) hz, led_sp hn hz, led_sp hm (nz_l hn hz), (l_mul m n u v).1, (l_mul m n u v).2]
theorem det_back (m : M2) : m.back.det = m.det := by
  apply G2.ext' <;> simp only [M2.back, M2.det, G2.mul, G2.add, G2.sm] <;> grind
theorem led_back {m : M2} (hm : m.det ≠ .zero) {s : Sp} (h : Gs s) : led m.back (led m s) = s := by
  obtain ⟨u, v, hz, rfl⟩ := h
  have hb : m.back.det ≠ .zero := by rw [det_back]; exact hm
  rw [led_sp hm hz, led_sp hb (nz_l hm hz)]
  refine sp_eq (nz_l hb (nz_l hm hz)) hz ?_
  apply G2.ext' <;> simp only [M2.back, l1, l2, G2.mul, G2.add, G2.sm] <;> grind
end K91

set_option Elab.async false
set_option linter.all false
set_option maxRecDepth 100000
set_option maxHeartbeats 8000000
/-! K91O: kinds of mixed tables. -/
namespace K91
open FF
def mix (o m : M2) : M2 := (o.mul m).mul o.back
theorem tr_mix (o m : M2) : (mix o m).tr = o.det.mul m.tr := by
  apply G2.ext' <;> simp only [mix, M2.mul, M2.back, M2.tr, M2.det, G2.mul, G2.add, G2.sm] <;> grind
theorem det_mix (o m : M2) : (mix o m).det = (o.det.mul o.det).mul m.det := by
  unfold mix
  rw [det_mul, det_mul, det_back, G2.mul_comm (o.det.mul m.det), ← G2.mul_assoc]
theorem q_mix (o m : M2) : (((mix o m).tr.mul (mix o m).tr).mul (mix o m).det.conj) = (((m.tr.mul m.tr).mul m.det.conj)).sm (o.det.nm * o.det.nm) := by
  rw [tr_mix, det_mix]
  generalize o.det = d
  generalize m.tr = t
  generalize m.det = e
  apply G2.ext' <;> simp only [G2.mul, G2.conj, G2.sm, G2.nm] <;> grind
theorem n_mix (o m : M2) : (mix o m).det.nm = o.det.nm * o.det.nm * m.det.nm := by
  rw [det_mix, G2.nm_mul, G2.nm_mul]
theorem z_xy {g : G2} : (g.x = 0 ∧ g.y = 0) ↔ g = .zero := ⟨fun h => G2.ext' h.1 h.2, fun h => by subst h; exact ⟨rfl, rfl⟩⟩
theorem still_mix {o m : M2} (ho : o.det ≠ .zero) : still (mix o m) ↔ still m := by
  unfold still
  rw [z_xy, z_xy, z_xy, z_xy]
  constructor
  · rintro ⟨h1, h2, h3⟩
    have hd : o.det.mul o.det ≠ .zero := G2.mul_ne ho ho
    have k : ∀ g : G2, (o.det.mul o.det).mul g = .zero → g = .zero := fun g e => (G2.mul_z e).resolve_left hd
    have eb : (o.det.mul o.det).mul m.b = ((o.back.mul (mix o m)).mul o).b := by
      apply G2.ext' <;> simp only [mix, M2.mul, M2.back, M2.det, G2.mul, G2.add, G2.sm] <;> grind
    have ec : (o.det.mul o.det).mul m.c = ((o.back.mul (mix o m)).mul o).c := by
      apply G2.ext' <;> simp only [mix, M2.mul, M2.back, M2.det, G2.mul, G2.add, G2.sm] <;> grind
    have ea : (o.det.mul o.det).mul (m.a.sub m.d) = ((o.back.mul (mix o m)).mul o).a.sub ((o.back.mul (mix o m)).mul o).d := by
      apply G2.ext' <;> simp only [mix, M2.mul, M2.back, M2.det, G2.mul, G2.add, G2.sub, G2.sm] <;> grind
    generalize mix o m = w at *
    obtain ⟨wa, wb, wc, wd⟩ := w
    simp only at h1 h2 h3
    subst h1 h2 h3
    refine ⟨k _ ?_, k _ ?_, ?_⟩
    · rw [eb]; apply G2.ext' <;> simp only [M2.mul, M2.back, G2.mul, G2.add, G2.sm, G2.zero] <;> grind
    · rw [ec]; apply G2.ext' <;> simp only [M2.mul, M2.back, G2.mul, G2.add, G2.sm, G2.zero] <;> grind
    · have z := k (m.a.sub m.d) (by rw [ea]; apply G2.ext' <;> simp only [M2.mul, M2.back, G2.mul, G2.add, G2.sub, G2.sm, G2.zero] <;> grind)
      have z1 := congrArg G2.x z
      have z2 := congrArg G2.y z
      simp only [G2.sub, G2.zero] at z1 z2
      exact G2.ext' (by omega) (by omega)
  · rintro ⟨h1, h2, h3⟩
    obtain ⟨a, b, c, d⟩ := m
    simp only at h1 h2 h3
    subst h1 h2 h3
    refine ⟨?_, ?_, ?_⟩ <;> apply G2.ext' <;> simp only [mix, M2.mul, M2.back, G2.mul, G2.add, G2.sm, G2.zero] <;> grind
theorem kd_mix {o m : M2} (ho : o.det ≠ .zero) : kd (mix o m) = kd m := by
  unfold kd
  have hn := G2.nm_pos ho
  have hN : 0 < o.det.nm * o.det.nm := Int.mul_pos hn hn
  rw [q_mix, n_mix]
  generalize (m.tr.mul m.tr).mul m.det.conj = q
  generalize m.det.nm = n
  generalize o.det.nm * o.det.nm = N at *
  have e1 : (q.sm N).x = 4 * (N * n) ↔ q.x = 4 * n := by
    have := (pos_iff (a := q.x - 4 * n) hN).2
    rw [Int.mul_sub, show N * (4 * n) = 4 * (N * n) by grind] at this
    show N * q.x = _ ↔ _
    omega
  have e2 : (q.sm N).y = 0 ↔ q.y = 0 := (pos_iff hN).2
  have e3 : (q.sm N).x < 0 ↔ q.x < 0 := (pos_iff hN).1
  have e4 : (q.sm N).x < 4 * (N * n) ↔ q.x < 4 * n := by
    have := (pos_iff (a := q.x - 4 * n) hN).1
    rw [Int.mul_sub, show N * (4 * n) = 4 * (N * n) by grind] at this
    show N * q.x < _ ↔ _
    omega
  by_cases h0 : still m
  · rw [if_pos h0, if_pos ((still_mix ho).mpr h0)]
  · rw [if_neg h0, if_neg fun z => h0 ((still_mix ho).mp z)]
    dsimp only
    simp only [e1, e2, e3, e4, ne_eq]
end K91

set_option Elab.async false
set_option linter.all false
set_option maxRecDepth 100000
set_option maxHeartbeats 8000000
/-! K91P: double quotients. -/
namespace K91
open FF
def gp (a b c d : G2) : G2 := (a.mul d).sub (c.mul b)
theorem gap_gp (s t : Sp) : gap s t = gp s.1 (.num s.2) t.1 (.num t.2) := by
  unfold gap gp
  apply G2.ext' <;> simp only [G2.mul, G2.add, G2.sub, G2.sm, G2.num] <;> grind
theorem gp_sc (c d a b a' b' : G2) : gp (c.mul a) (c.mul b) (d.mul a') (d.mul b') = (c.mul d).mul (gp a b a' b') := by
  unfold gp
  apply G2.ext' <;> simp only [G2.mul, G2.sub] <;> grind
theorem gp_l (m : M2) (a b a' b' : G2) : gp (l1 m a b) (l2 m a b) (l1 m a' b') (l2 m a' b') = m.det.mul (gp a b a' b') := by
  unfold gp l1 l2 M2.det
  apply G2.ext' <;> simp only [G2.mul, G2.add, G2.sub, G2.sm] <;> grind
/-- plain spots are alike if they are not apart -/
theorem gap_z {s t : Sp} (hs : Gs s) (ht : Gs t) (h : gap s t = .zero) : s = t := by
  obtain ⟨u, v, n1, rfl⟩ := hs
  obtain ⟨u', v', n2, rfl⟩ := ht
  obtain ⟨c, d, hc, hd, e1, e2⟩ := sp_rel n1
  obtain ⟨c', d', hc', hd', e3, e4⟩ := sp_rel n2
  rw [gap_gp] at h
  have k := gp_sc c c' (sp u v).1 (.num (sp u v).2) (sp u' v').1 (.num (sp u' v').2)
  rw [h, G2.mul_zero, e1, e2, e3, e4, gp_sc] at k
  have z := (G2.mul_z k).resolve_left (G2.mul_ne hd hd')
  refine sp_eq n1 n2 ?_
  have zx := congrArg G2.x z
  have zy := congrArg G2.y z
  simp only [gp, G2.sub, G2.zero] at zx zy
  exact G2.ext' (by omega) (by omega)
/-- a led spot: its pair up to a factor -/
theorem led_rel {m : M2} (hm : m.det ≠ .zero) {s : Sp} (hs : Gs s) : ∃ c d : G2, c ≠ .zero ∧ d ≠ .zero ∧ c.mul (led m s).1 = d.mul (l1 m s.1 (.num s.2)) ∧ c.mul (.num (led m s).2) = d.mul (l2 m s.1 (.num s.2)) := by
  rw [led_l]
  refine sp_rel (nz_l hm ?_)
  obtain ⟨u, v, n1, rfl⟩ := hs
  obtain ⟨c, d, hc, hd, e1, e2⟩ := sp_rel n1
  rintro ⟨z1, z2⟩
  rw [z1, G2.mul_zero] at e1
  rw [z2, G2.mul_zero] at e2
  exact n1 ⟨(G2.mul_z e1.symm).resolve_left hd, (G2.mul_z e2.symm).resolve_left hd⟩
theorem gap_led {m : M2} {s t : Sp} {c d c' d' : G2} (e1 : c.mul (led m s).1 = d.mul (l1 m s.1 (.num s.2))) (e2 : c.mul (.num (led m s).2) = d.mul (l2 m s.1 (.num s.2))) (e3 : c'.mul (led m t).1 = d'.mul (l1 m t.1 (.num t.2))) (e4 : c'.mul (.num (led m t).2) = d'.mul (l2 m t.1 (.num t.2))) : (c.mul c').mul (gap (led m s) (led m t)) = (d.mul d').mul (m.det.mul (gap s t)) := by
  rw [gap_gp, gap_gp, ← gp_sc, e1, e2, e3, e4, gp_sc, gp_l]
theorem Gs_led {m : M2} (hm : m.det ≠ .zero) {s : Sp} (hs : Gs s) : Gs (led m s) := by
  obtain ⟨u, v, n1, rfl⟩ := hs
  exact ⟨_, _, nz_l hm n1, led_sp hm n1⟩
theorem cr_led {m : M2} (hm : m.det ≠ .zero) {p q r s : Sp} (hp : Gs p) (hq : Gs q) (hr : Gs r) (hs : Gs s) (n : Nz ((gap p r).mul (gap q s)) ((gap p s).mul (gap q r))) : cr (led m p) (led m q) (led m r) (led m s) = cr p q r s := by
  obtain ⟨c1, d1, h1, k1, a1, b1⟩ := led_rel hm hp
  obtain ⟨c2, d2, h2, k2, a2, b2⟩ := led_rel hm hq
  obtain ⟨c3, d3, h3, k3, a3, b3⟩ := led_rel hm hr
  obtain ⟨c4, d4, h4, k4, a4, b4⟩ := led_rel hm hs
  have g13 := gap_led a1 b1 a3 b3
  have g24 := gap_led a2 b2 a4 b4
  have g14 := gap_led a1 b1 a4 b4
  have g23 := gap_led a2 b2 a3 b3
  have C : ((c1.mul c3).mul (c2.mul c4)) ≠ .zero := G2.mul_ne (G2.mul_ne h1 h3) (G2.mul_ne h2 h4)
  have D : ((d1.mul d3).mul (d2.mul d4)).mul (m.det.mul m.det) ≠ .zero := G2.mul_ne (G2.mul_ne (G2.mul_ne k1 k3) (G2.mul_ne k2 k4)) (G2.mul_ne hm hm)
  have r4 : ∀ a b x y : G2, (a.mul b).mul (x.mul y) = (a.mul x).mul (b.mul y) := by
    intro a b x y; apply G2.ext' <;> simp only [G2.mul] <;> grind
  have e1 : ((c1.mul c3).mul (c2.mul c4)).mul ((gap (led m p) (led m r)).mul (gap (led m q) (led m s))) = (((d1.mul d3).mul (d2.mul d4)).mul (m.det.mul m.det)).mul ((gap p r).mul (gap q s)) := by
    rw [r4, g13, g24, r4, r4 m.det, ← G2.mul_assoc]
  have e2 : ((c1.mul c3).mul (c2.mul c4)).mul ((gap (led m p) (led m s)).mul (gap (led m q) (led m r))) = (((d1.mul d3).mul (d2.mul d4)).mul (m.det.mul m.det)).mul ((gap p s).mul (gap q r)) := by
    have s1 : (c1.mul c3).mul (c2.mul c4) = (c1.mul c4).mul (c2.mul c3) := by apply G2.ext' <;> simp only [G2.mul] <;> grind
    have s2 : (d1.mul d3).mul (d2.mul d4) = (d1.mul d4).mul (d2.mul d3) := by apply G2.ext' <;> simp only [G2.mul] <;> grind
    rw [s1, s2, r4, g14, g23, r4, r4 m.det, ← G2.mul_assoc]
  unfold cr
  refine (sp_prop C e1 e2 n ?_).symm
  rintro ⟨z1, z2⟩
  rw [z1, G2.mul_zero] at e1
  rw [z2, G2.mul_zero] at e2
  exact n ⟨(G2.mul_z e1.symm).resolve_left D, (G2.mul_z e2.symm).resolve_left D⟩
theorem map_l1 (p q r s : Sp) : l1 (mapBy p q r) s.1 (.num s.2) = (gap q r).mul (gap s p) ∧ l2 (mapBy p q r) s.1 (.num s.2) = (gap q p).mul (gap s r) := by
  rw [gap_gp q r, gap_gp q p, gap_gp s p, gap_gp s r]
  unfold mapBy l1 l2
  rw [gap_gp q r, gap_gp q p]
  constructor <;> apply G2.ext' <;> simp only [gp, G2.mul, G2.add, G2.sub, G2.sm, G2.num] <;> grind
theorem one_ne : G2.one ≠ .zero := fun e => by cases congrArg G2.x e
theorem gap_self (s : Sp) : gap s s = .zero := by
  unfold gap; apply G2.ext' <;> simp only [G2.add, G2.sm, G2.zero] <;> grind
theorem map_0 {p q r : Sp} (h1 : gap q p ≠ .zero) (h2 : gap p r ≠ .zero) : led (mapBy p q r) p = (⟨0, 0⟩, 1) := by
  rw [led_l, (map_l1 p q r p).1, (map_l1 p q r p).2, gap_self, G2.mul_zero]
  have : sp .zero ((gap q p).mul (gap p r)) = sp .zero .one := sp_eq (fun z => G2.mul_ne h1 h2 z.2) (fun z => one_ne z.2) (by rw [G2.zero_mul, G2.zero_mul])
  rw [this]; rfl
theorem map_1 {p q r : Sp} (h1 : gap q r ≠ .zero) (h2 : gap q p ≠ .zero) : led (mapBy p q r) q = (⟨1, 0⟩, 1) := by
  rw [led_l, (map_l1 p q r q).1, (map_l1 p q r q).2, G2.mul_comm (gap q p)]
  have : sp ((gap q r).mul (gap q p)) ((gap q r).mul (gap q p)) = sp .one .one := sp_eq (fun z => G2.mul_ne h1 h2 z.2) (fun z => one_ne z.2) (G2.mul_comm _ _)
  rw [this]; rfl
theorem map_far {p q r : Sp} : led (mapBy p q r) r = (⟨1, 0⟩, 0) := by
  rw [led_l, (map_l1 p q r r).2, gap_self, G2.mul_zero]
  exact sp_far rfl
end K91

set_option Elab.async false
set_option linter.all false
set_option maxRecDepth 100000
set_option maxHeartbeats 8000000
namespace K91
open FF
def b1 : S := (.par [(3, false), (4, false)] [(.call 8 [(.v 1), (.v 0)]), (.call 8 [(.v 1), (.v 0)])])
def b2 : S := (.box 5 false (.comp (.nm 6) .range [(.c (.int 4))] [] (.call 10 [(.v 1), (.v 0)])))
def b3 : S := (.box 7 false (.ix (.v 5) (.c (.int 0))))
def b4 : S := (.par [(8, false), (9, false)] [(.ix (.ix (.v 3) (.c (.int 0))) (.c (.int 0))), (.ix (.ix (.v 3) (.c (.int 0))) (.c (.int 1)))])
def b5 : S := (.box 10 false (.call 0 [(.call 1 [(.ix (.ix (.v 3) (.c (.int 0))) (.c (.int 0))), (.ix (.ix (.v 3) (.c (.int 1))) (.c (.int 1)))]), (.call 1 [(.ix (.ix (.v 3) (.c (.int 0))) (.c (.int 1))), (.ix (.ix (.v 3) (.c (.int 1))) (.c (.int 0)))]), (.neg (.c (.int 1)))]))
def b6 : S := (.box 11 false (.lst [(.call 11 [(.v 3), (.v 7)]), (.call 2 [(.v 3), (.v 4)]), (.v 10), (.call 0 [(.ix (.ix (.v 3) (.c (.int 0))) (.c (.int 0))), (.ix (.ix (.v 3) (.c (.int 1))) (.c (.int 1))), (.c (.int 1))]), (.call 13 [(.v 3)])]))
def b7 : S := (.ifs (.nt (.tr (.call 14 [(.v 11), (.lst [(.call 23 [(.v 3), (.v 7)]), (.call 24 [(.v 3), (.v 4)]), (.call 20 [(.v 3)]), (.call 21 [(.v 3)]), (.call 22 [(.v 3)])])]))) [(.ret (.c (.bl false)))] [])
def b8 : S := (.ifs (.or2 (.cmp .ne (.call 23 [(.call 24 [(.v 3), (.v 4)]), (.v 7)]) (.call 11 [(.v 3), (.call 11 [(.v 4), (.v 7)])])) (.cmp .ne (.call 23 [(.call 16 [(.v 3)]), (.call 23 [(.v 3), (.v 7)])]) (.v 7))) [(.ret (.c (.bl false)))] [])
def b9 : S := (.box 12 false (.call 2 [(.call 2 [(.v 4), (.v 3)]), (.call 16 [(.v 4)])]))
def b10 : S := (.ifs (.or2 (.and2 (.cmp .ne (.call 22 [(.v 12)]) (.call 22 [(.v 3)])) (.cmp .ne (.call 22 [(.v 3)]) (.c (.str [115, 116, 105, 108, 108])))) (.and2 (.cmp .eq (.call 22 [(.v 3)]) (.c (.str [115, 116, 105, 108, 108]))) (.cmp .ne (.call 23 [(.v 12), (.v 7)]) (.v 7)))) [(.ret (.c (.bl false)))] [])
def b11 : S := (.box 13 false (.bin .sub (.draw 1 0 (.c (.int 9))) (.c (.int 4))))
def b12 : S := (.par [(14, false), (15, false)] [(.tup [(.bin .sub (.draw 1 0 (.c (.int 19))) (.c (.int 9))), (.bin .sub (.draw 1 0 (.c (.int 19))) (.c (.int 9)))]), (.tup [(.bin .sub (.draw 1 0 (.c (.int 9))) (.c (.int 4))), (.bin .add (.c (.int 1)) (.draw 1 0 (.c (.int 4))))])])
def b13 : S := (.box 11 false (.lst [(.call 1 [(.v 8), (.v 9)]), (.call 0 [(.v 8), (.v 9), (.c (.int 1))]), (.tup [(.bin .mul (.v 13) (.ix (.v 8) (.c (.int 0)))), (.bin .mul (.v 13) (.ix (.v 8) (.c (.int 1))))]), (.call 9 [(.v 14), (.v 15)]), (.call 17 [(.ix (.v 5) (.c (.int 0))), (.ix (.v 5) (.c (.int 1)))])]))
def b14 : S := (.ifs (.nt (.tr (.call 14 [(.v 11), (.lst [(.call 3 [(.v 8), (.v 9)]), (.call 19 [(.v 8), (.v 9)]), (.call 15 [(.v 8), (.v 13)]), (.call 4 [(.v 14), (.v 15)]), (.call 5 [(.ix (.v 5) (.c (.int 0))), (.ix (.v 5) (.c (.int 1)))])])]))) [(.ret (.c (.bl false)))] [])
def b15 : S := (.box 16 false (.comp (.nm 6) .range [(.c (.int 4))] [(.cmp .eq (.bi .index [(.v 5), (.ix (.v 5) (.v 6))]) (.v 6))] (.ix (.v 5) (.v 6))))
def b16 : S := (.ifs (.cmp .eq (.bi .len [(.v 16)]) (.c (.int 4))) [(.asg (.tup [(.nm 17), (.nm 18), (.nm 19), (.nm 20)]) (.v 16)), (.box 21 false (.call 9 [(.call 1 [(.call 17 [(.v 17), (.v 19)]), (.call 17 [(.v 18), (.v 20)])]), (.call 1 [(.call 17 [(.v 17), (.v 20)]), (.call 17 [(.v 18), (.v 19)])])])), (.box 22 false (.comp (.nm 23) .seq [(.v 16)] [] (.call 23 [(.v 3), (.v 23)]))), (.ifs (.nt (.tr (.call 14 [(.lst [(.v 21), (.v 21), (.cmp .eq (.ix (.ix (.v 21) (.c (.int 0))) (.c (.int 1))) (.c (.int 0)))]), (.lst [(.call 6 [(.v 17), (.v 18), (.v 19), (.v 20)]), (.call 6 [(.ix (.v 22) (.c (.int 0))), (.ix (.v 22) (.c (.int 1))), (.ix (.v 22) (.c (.int 2))), (.ix (.v 22) (.c (.int 3)))]), (.call 7 [(.v 17), (.v 18), (.v 19), (.v 20)])])]))) [(.ret (.c (.bl false)))] [])] [])
def b17 : S := (.ifs (.cmp .gt (.bi .len [(.v 16)]) (.c (.int 2))) [(.box 24 false (.call 18 [(.ix (.v 16) (.c (.int 0))), (.ix (.v 16) (.c (.int 1))), (.ix (.v 16) (.c (.int 2)))])), (.ifs (.cmp .ne (.comp (.nm 23) .seq [(.sl (.v 16) [] [(.c (.int 3))])] [] (.call 11 [(.v 24), (.v 23)])) (.lst [(.tup [(.tup [(.c (.int 0)), (.c (.int 0))]), (.c (.int 1))]), (.tup [(.tup [(.c (.int 1)), (.c (.int 0))]), (.c (.int 1))]), (.tup [(.tup [(.c (.int 1)), (.c (.int 0))]), (.c (.int 0))])])) [(.ret (.c (.bl false)))] [])] [])
def e1 : S := (.box 25 false (.lst [(.tup [(.tup [(.c (.int 1)), (.c (.int 0))]), (.c (.int 1))]), (.tup [(.tup [(.c (.int 0)), (.c (.int 1))]), (.c (.int 1))]), (.tup [(.tup [(.neg (.c (.int 1))), (.c (.int 0))]), (.c (.int 1))]), (.tup [(.tup [(.c (.int 0)), (.neg (.c (.int 1)))]), (.c (.int 1))])]))
def e2 : S := (.ret (.and2 (.call 7 [(.ix (.v 25) (.c (.int 0))), (.ix (.v 25) (.c (.int 1))), (.ix (.v 25) (.c (.int 2))), (.ix (.v 25) (.c (.int 3)))]) (.and2 (.nt (.call 7 [(.tup [(.tup [(.c (.int 0)), (.c (.int 0))]), (.c (.int 1))]), (.ix (.v 25) (.c (.int 0))), (.ix (.v 25) (.c (.int 1))), (.ix (.v 25) (.c (.int 3)))])) (.cmp .eq (.call 22 [(.tup [(.tup [(.tup [(.c (.int 0)), (.c (.int 0))]), (.tup [(.neg (.c (.int 1))), (.c (.int 0))])]), (.tup [(.tup [(.c (.int 1)), (.c (.int 0))]), (.tup [(.c (.int 0)), (.c (.int 0))])])])]) (.c (.str [114, 111, 117, 110, 100]))))))
theorem i_law_eq : i_law = [.forr (.nm 2) .range [(.c (.int 4))] [b1, b2, b3, b4, b5, b6, b7, b8, b9, b10, b11, b12, b13, b14, b15, b16, b17], e1, e2] := rfl
theorem gl0 : g_law 0 = r__law_two_plus := rfl
theorem gl2 : g_law 2 = r__law_table_times := rfl
theorem gl7 : g_law 7 = r_are_on_round := rfl
theorem gl8 : g_law 8 = r__law_two_table := rfl
theorem gl10 : g_law 10 = r__law_drawn := rfl
theorem gl1 : g_law 1 = r__law_two_times := rfl
theorem gl11 : g_law 11 = r__law_led_spot := rfl
theorem gl13 : g_law 13 = r__law_kind_of := rfl
theorem gl14 : g_law 14 = r_exact 14 10 := rfl
theorem gl16 : g_law 16 = r_back_table := rfl
theorem gl9 : g_law 9 = r__law_spot := rfl
theorem gl17 : g_law 17 = r__law_apart := rfl
theorem gl18 : g_law 18 = r_map_by := rfl
theorem gl22 : g_law 22 = r_kind_of_map := rfl
theorem gl23 : g_law 23 = r_led_by := rfl
theorem gl24 : g_law 24 = r_table_times := rfl
theorem gl20 : g_law 20 = r_determinant := rfl
theorem gl21 : g_law 21 = r_trace := rfl
theorem gl3 : g_law 3 = r_two_times := rfl
theorem gl19 : g_law 19 = r_two_add := rfl
theorem gl15 : g_law 15 = r_scaled := rfl
theorem gl4 : g_law 4 = r_two_plain := rfl
theorem gl5 : g_law 5 = r_gap := rfl
theorem gl6 : g_law 6 = r_four_quotient := rfl
def OK (r : Xs) : Prop := r.1 = .nx ∧ ∃ t2 t3 t4 t5 t6 t7 t8 t9 t10 t11 t12 t13 t14 t15 t16 t17 t18 t19 t20 t21 t22 t23 t24 t25 : Slot, r.2 = [.scr, .st, t2, t3, t4, t5, t6, t7, t8, t9, t10, t11, t12, t13, t14, t15, t16, t17, t18, t19, t20, t21, t22, t23, t24, t25]
instance {g : G2} : Sz 1 2 (GD g) := ⟨by simp [GD, szl, szls]⟩
instance {s : Sp} : Sz 2 2 (SD s) := ⟨by simp [SD, GD, szl, szls]⟩
instance {m : M2} : Sz 3 2 (MD m) := ⟨by simp [MD, GD, szl, szls]⟩
theorem kd_str (m : M2) : ∃ w, kd m = .str w ∧ w.all (· < 1114112) = true := by
  unfold kd; dsimp only
  split
  · exact ⟨_, rfl, rfl⟩
  · split
    · exact ⟨_, rfl, rfl⟩
    · split
      · exact ⟨_, rfl, rfl⟩
      · split
        · exact ⟨_, rfl, rfl⟩
        · exact ⟨_, rfl, rfl⟩
instance {m : M2} : Sz 0 0 (kd m) := ⟨by obtain ⟨w, e, h⟩ := kd_str m; rw [e]; simpa [szl] using h⟩
instance {m : M2} : Pl 0 (kd m) := ⟨by obtain ⟨w, e, h⟩ := kd_str m; rw [e]; exact (pl_str h).h⟩
def STILL : D := .str [115, 116, 105, 108, 108]
instance : Pl 0 (D.str [115, 116, 105, 108, 108]) := pl_str rfl
theorem kd_still {m : M2} : kd m = .str [115, 116, 105, 108, 108] ↔ still m := by
  unfold kd; dsimp only
  by_cases h : still m
  · rw [if_pos h]; exact ⟨fun _ => h, fun _ => rfl⟩
  · rw [if_neg h]
    refine ⟨fun e => ?_, fun z => absurd z h⟩
    split at e
    · simp at e
    · split at e
      · simp at e
      · split at e <;> simp at e
theorem SD_inj {s t : Sp} : (SD s = SD t) = (s = t) := by
  apply propext
  refine ⟨fun h => ?_, fun h => by rw [h]⟩
  unfold SD at h
  simp only [D.tup.injEq, List.cons.injEq, GD_inj, D.int.injEq, and_true] at h
  exact Prod.ext h.1 h.2
instance {m : M2} {p : Nat} [h : SmT p m] : SmT (p + 1) m.back := by
  have h1 : SmG (p + 1) (m.b.sm (-1)) := ⟨(inferInstance : Sm _ (m.b.sm (-1)).x).up (by omega), (inferInstance : Sm _ (m.b.sm (-1)).y).up (by omega)⟩
  have h2 : SmG (p + 1) (m.c.sm (-1)) := ⟨(inferInstance : Sm _ (m.c.sm (-1)).x).up (by omega), (inferInstance : Sm _ (m.c.sm (-1)).y).up (by omega)⟩
  exact ⟨h.d.up (by omega), h1, h2, h.a.up (by omega)⟩
theorem SmT.up {m : M2} {p q : Nat} (h : SmT p m) (l : p ≤ q) : SmT q m := ⟨h.a.up l, h.b.up l, h.c.up l, h.d.up l⟩
theorem sm_led {m : M2} {s : Sp} {p q : Nat} (a : SmT p m) (b : SmS q s) : SmS (6 * p + 6 * q + 8) (led m s) := by
  have h1 : SmG (p + q + 1 + (p + q) + 1) ((m.a.mul s.1).add (m.b.sm s.2)) := ⟨(inferInstance : Sm _ ((m.a.mul s.1).add (m.b.sm s.2)).x).up (by omega), (inferInstance : Sm _ ((m.a.mul s.1).add (m.b.sm s.2)).y).up (by omega)⟩
  have h2 : SmG (p + q + 1 + (p + q) + 1) ((m.c.mul s.1).add (m.d.sm s.2)) := ⟨(inferInstance : Sm _ ((m.c.mul s.1).add (m.d.sm s.2)).x).up (by omega), (inferInstance : Sm _ ((m.c.mul s.1).add (m.d.sm s.2)).y).up (by omega)⟩
  have : SmS _ (led m s) := (inferInstance : SmS _ (sp ((m.a.mul s.1).add (m.b.sm s.2)) ((m.c.mul s.1).add (m.d.sm s.2))))
  exact this.mono' (by omega)
theorem still_led {m : M2} (hm : m.det ≠ .zero) (h : still m) {s : Sp} (hs : Gs s) : led m s = s := by
  obtain ⟨u, v, n1, rfl⟩ := hs
  rw [led_sp hm n1]
  refine sp_eq (nz_l hm n1) n1 ?_
  obtain ⟨h1, h2, h3⟩ := h
  rw [z_xy] at h1 h2
  obtain ⟨a, b, c, d⟩ := m
  simp only at h1 h2 h3
  subst h1 h2 h3
  apply G2.ext' <;> simp only [l1, l2, G2.mul, G2.add, G2.zero] <;> grind
theorem gap_ne {s t : Sp} (hs : Gs s) (ht : Gs t) (h : s ≠ t) : gap s t ≠ .zero := fun e => h (gap_z hs ht e)
theorem det_x {m : M2} : (m.a.mul m.d).add ((m.b.mul m.c).sm (-1)) = m.det := rfl
theorem tr_x {m : M2} : m.a.add m.d = m.tr := rfl
theorem GD_smx {g : G2} {k : Int} : (D.tup [.int (k * g.x), .int (k * g.y)]) = GD (g.sm k) := rfl
theorem idx_hit {x y : D} {xs : List D} {m n : Nat} [a : Pl m x] [b : Pl n y] (h : m ≤ 49) (g : n ≤ 49) (e : x = y) : idxEq y (x :: xs) = some 0 := by
  have h1 := pln_mono x a.h h
  have h2 := pln_mono y b.h g
  rw [idxEq, eqD_pln 49 x y h1 h2]
  simp [e]
theorem idx_miss {x y : D} {xs : List D} {m n k : Nat} [a : Pl m x] [b : Pl n y] (h : m ≤ 49) (g : n ≤ 49) (e : ¬ x = y) (i : idxEq y xs = some k) : idxEq y (x :: xs) = some (k + 1) := by
  have h1 := pln_mono x a.h h
  have h2 := pln_mono y b.h g
  rw [idxEq, eqD_pln 49 x y h1 h2, i]
  simp [e]
theorem bi_idx {y : D} {xs : List D} {m n k : Nat} [a : Pl m y] [b : Pls n xs] (h : m ≤ 49) (g : n ≤ 49) (i : idxEq y xs = some k) : biD .index [.lst xs, y] = some (.int (k : Int), false) := by
  simp only [biD]
  rw [pln_flat 50 y (pln_mono y a.h (by omega)), plns_flat 50 xs (plns_mono xs b.h (by omega)), i]
  rfl
theorem fin {s2 s3 s4 s5 s6 s7 s8 s9 s10 s11 s12 s13 s14 s15 s16 s17 s18 s19 s20 s21 s22 s23 s24 s25 : Slot}  :
    Wp g_law [] [.scr, .st, s2, s3, s4, s5, s6, s7, s8, s9, s10, s11, s12, s13, s14, s15, s16, s17, s18, s19, s20, s21, s22, s23, s24, s25] OK := by
  rw [wp_nil]; exact ⟨rfl, _, _, _, _, _, _, _, _, _, _, _, _, _, _, _, _, _, _, _, _, _, _, _, _, rfl⟩
theorem t17_3 {s2 s4 s5 s6 s7 s8 s9 s10 s11 s12 s13 s14 s15 s17 s18 s19 s20 s21 s22 s23 s24 s25 : Slot} {m : M2} (hm : m.det ≠ .zero) (im : SmT 4 m) {p q r : Sp} (gp : Gs p) (ip : SmS 20 p) (gq : Gs q) (iq : SmS 20 q) (gr : Gs r) (ir : SmS 20 r) (hpq : p ≠ q) (hpr : p ≠ r) (hqr : q ≠ r) :
    Wp g_law [b17] [.scr, .st, s2, .pl (MD m), s4, s5, s6, s7, s8, s9, s10, s11, s12, s13, s14, s15, .pl (.lst [SD p, SD q, SD r]), s17, s18, s19, s20, s21, s22, s23, s24, s25] OK := by
  have k0 := map_0 (p := p) (q := q) (r := r) (gap_ne gq gp (fun e => hpq e.symm)) (gap_ne gp gr hpr)
  have k1 := map_1 (p := p) (q := q) (r := r) (gap_ne gq gr hqr) (gap_ne gq gp (fun e => hpq e.symm))
  have k2 := @map_far p q r
  have ep : r_map_by [.d (SD p), .d (SD q), .d (SD r)] = .ret (MD (mapBy p q r), false) := p_map (p := 20) (by omega)
  have jg1 : SmG 82 (gap q r) := inferInstance
  have jg2 : SmG 82 (gap q p) := inferInstance
  have jm : SmT 104 (mapBy p q r) := ⟨(inferInstance : SmG _ ((gap q r).sm p.2)).up (by omega), (inferInstance : SmG _ (((gap q r).mul p.1).sm (-1))).up (by omega), (inferInstance : SmG _ ((gap q p).sm r.2)).up (by omega), (inferInstance : SmG _ (((gap q p).mul r.1).sm (-1))).up (by omega)⟩
  have e0 : r__law_led_spot [.d (MD (mapBy p q r)), .d (SD p)] = .ret (.tup [.tup [.int 0, .int 0], .int 1], false) := by rw [p__law_led (by omega), k0]; rfl
  have e1' : r__law_led_spot [.d (MD (mapBy p q r)), .d (SD q)] = .ret (.tup [.tup [.int 1, .int 0], .int 1], false) := by rw [p__law_led (by omega), k1]; rfl
  have e2' : r__law_led_spot [.d (MD (mapBy p q r)), .d (SD r)] = .ret (.tup [.tup [.int 1, .int 0], .int 0], false) := by rw [p__law_led (by omega), k2]; rfl
  rw [wp_cons]
  simp (maxSteps := 10000000) (implicitDefEqProofs := false) (disch := omega) [b17, ep, e0, e1', e2', gl0, gl2, gl7, gl8, gl10, gl1, gl11, gl13, gl14, gl16, gl9, gl17, gl18, gl22, gl23, gl24, gl20, gl21, gl3, gl19, gl15, gl4, gl5, gl6, G0, G1, S0, S1, M0, M1, isn_n, isn_F, isn_i, b_ret, o_some, map_some, obind_some, k_add, k_sub, k_mul, k_ixl, k_ixt, ix_0, ix_1, ix_2, ix_3, ix_4, ix_5, ix_6, ix_7, ix_8, ix_9, ix_10, ix_11, ix_12, st_0, st_1, st_2, st_3, st_4, st_5, st_6, st_7, st_8, st_9, st_10, st_11, st_12, rd_0, rd_b, rd_l, rd_s, own_0, own_p, own_s, own_n, e_c, e_g, e_v, e_bin, neg_i, e_neg, e_cmp, e_chain, e_nt, e_and, e_or, e_tr, e_ite, e_tup, e_lst, e_ix, e_sl, e_rev, e_call, e_bi, e_isi, e_draw, e_comp, turn_cons, turn_nil, es_nil, es_cons, eS_nil, eS_cons, eC_nil, eC_cons, eA_nil, eA_cons, arg_st, bl_ret, x_nil, then_nx, then_rt, then_ct, then_bk, x_cns, x_bx, x_asgn, x_par, eR_nil, eR_cons, par_nil, par_cons, x_ixs, x_ap, x_ifs, x_rt, x_fr, loop_nx, loop_ct, loop_bk, loop_rt, for_nil, for_cons, bindA, List.replicate, List.cons_append, List.nil_append, a_nm, a_tt, a_tl, as_n, as_c, List.set_cons_zero, List.set_cons_succ, List.length_cons, List.length_nil, setS, boxS, cond_true, cond_false, Bool.and_true, Bool.and_false, Bool.true_and, Bool.false_and, if_true, lk_nil, lk_v, lk_c, lk_g, lk_bin, lk_neg, lk_cmp, lk_chain, lk_nt, lk_and2, lk_or2, lk_tr, lk_ite, lk_tup, lk_lst, lk_ix, lk_sl, lk_rev, lk_call, lk_bi, lk_isi, lk_comp, lk_comp2, lk_draw, ul_nil, ul_v, ul_c, ul_g, ul_bin, ul_neg, ul_cmp, ul_chain, ul_nt, ul_and2, ul_or2, ul_tr, ul_ite, ul_tup, ul_lst, ul_ix, ul_sl, ul_rev, ul_call, ul_bi, ul_isi, ul_comp, ul_comp2, ul_draw, isV, tgS, tgSs, wipeE, rt_v, rt_c, rt_g, rt_bin, rt_neg, rt_cmp, rt_chain, rt_nt, rt_and2, rt_or2, rt_tr, rt_ite, rt_tup, rt_lst, rt_ix, rt_sl, rt_rev, rt_call, rt_bi, rt_isi, rt_comp, rt_comp2, rt_draw, b_lenl, b_lent, b_lens, b_abs, b_sum, b_max, b_min, b_max2, b_min2, b_tupl, b_tupt, b_lstl, b_lstt, b_inti, b_intb, b_all, b_any, b_gcd, is_nil, is_cons, bs_nil, bs_cons, s_seql, s_seqt, s_seqs, s_r1, s_r2, s_zip, s_zipt, s_enum, s_enumt, s_rev, s_revt, s_rr, z_cons, z_nil, z_nil2, n_cons, n_nil, sl_l, sl_t, one_0, one_1, cut_from, cut_to, rv_l, tr_n, tr_b, tr_i, tr_l, tr_t, x_rtN, x_brk, x_cnt, x_pas, x_frz, x_drp, List.getElem?_cons_zero, List.getElem?_cons_succ, arg_c, arg_g, arg_bin, arg_neg, arg_cmp, arg_chain, arg_nt, arg_and2, arg_or2, arg_tr, arg_ite, arg_tup, arg_lst, arg_ix, arg_sl, arg_rev, arg_call, arg_bi, arg_isi, arg_comp, arg_draw, bind_drw, blT_drw, then_drw, loop_drw, all_drw, all_ret, c_lt, c_le, c_gt, c_ge, c_eq, c_ne, c_isN, c_notN, cond_dec, cond_not, cond_and, cond_or, dr10, dr01, ex_ite, wt_nx, wt_rt, wt_ct, wt_bk, wt_drw, q_eq, F_inj, k_addl, k_addt, k_ap, rng2, line, rangeL, List.sum_cons, List.sum_nil, tyD, allTy, run]
  exact fin
theorem t17_4 {s2 s4 s5 s6 s7 s8 s9 s10 s11 s12 s13 s14 s15 s17 s18 s19 s20 s21 s22 s23 s24 s25 : Slot} {m : M2} (hm : m.det ≠ .zero) (im : SmT 4 m) {p q r s : Sp} (gp : Gs p) (ip : SmS 20 p) (gq : Gs q) (iq : SmS 20 q) (gr : Gs r) (ir : SmS 20 r) (gs : Gs s) (is : SmS 20 s) (hpq : p ≠ q) (hpr : p ≠ r) (hqr : q ≠ r) (hps : p ≠ s) (hqs : q ≠ s) (hrs : r ≠ s) :
    Wp g_law [b17] [.scr, .st, s2, .pl (MD m), s4, s5, s6, s7, s8, s9, s10, s11, s12, s13, s14, s15, .pl (.lst [SD p, SD q, SD r, SD s]), s17, s18, s19, s20, s21, s22, s23, s24, s25] OK := by
  have k0 := map_0 (p := p) (q := q) (r := r) (gap_ne gq gp (fun e => hpq e.symm)) (gap_ne gp gr hpr)
  have k1 := map_1 (p := p) (q := q) (r := r) (gap_ne gq gr hqr) (gap_ne gq gp (fun e => hpq e.symm))
  have k2 := @map_far p q r
  have ep : r_map_by [.d (SD p), .d (SD q), .d (SD r)] = .ret (MD (mapBy p q r), false) := p_map (p := 20) (by omega)
  have jg1 : SmG 82 (gap q r) := inferInstance
  have jg2 : SmG 82 (gap q p) := inferInstance
  have jm : SmT 104 (mapBy p q r) := ⟨(inferInstance : SmG _ ((gap q r).sm p.2)).up (by omega), (inferInstance : SmG _ (((gap q r).mul p.1).sm (-1))).up (by omega), (inferInstance : SmG _ ((gap q p).sm r.2)).up (by omega), (inferInstance : SmG _ (((gap q p).mul r.1).sm (-1))).up (by omega)⟩
  have e0 : r__law_led_spot [.d (MD (mapBy p q r)), .d (SD p)] = .ret (.tup [.tup [.int 0, .int 0], .int 1], false) := by rw [p__law_led (by omega), k0]; rfl
  have e1' : r__law_led_spot [.d (MD (mapBy p q r)), .d (SD q)] = .ret (.tup [.tup [.int 1, .int 0], .int 1], false) := by rw [p__law_led (by omega), k1]; rfl
  have e2' : r__law_led_spot [.d (MD (mapBy p q r)), .d (SD r)] = .ret (.tup [.tup [.int 1, .int 0], .int 0], false) := by rw [p__law_led (by omega), k2]; rfl
  rw [wp_cons]
  simp (maxSteps := 10000000) (implicitDefEqProofs := false) (disch := omega) [b17, ep, e0, e1', e2', gl0, gl2, gl7, gl8, gl10, gl1, gl11, gl13, gl14, gl16, gl9, gl17, gl18, gl22, gl23, gl24, gl20, gl21, gl3, gl19, gl15, gl4, gl5, gl6, G0, G1, S0, S1, M0, M1, isn_n, isn_F, isn_i, b_ret, o_some, map_some, obind_some, k_add, k_sub, k_mul, k_ixl, k_ixt, ix_0, ix_1, ix_2, ix_3, ix_4, ix_5, ix_6, ix_7, ix_8, ix_9, ix_10, ix_11, ix_12, st_0, st_1, st_2, st_3, st_4, st_5, st_6, st_7, st_8, st_9, st_10, st_11, st_12, rd_0, rd_b, rd_l, rd_s, own_0, own_p, own_s, own_n, e_c, e_g, e_v, e_bin, neg_i, e_neg, e_cmp, e_chain, e_nt, e_and, e_or, e_tr, e_ite, e_tup, e_lst, e_ix, e_sl, e_rev, e_call, e_bi, e_isi, e_draw, e_comp, turn_cons, turn_nil, es_nil, es_cons, eS_nil, eS_cons, eC_nil, eC_cons, eA_nil, eA_cons, arg_st, bl_ret, x_nil, then_nx, then_rt, then_ct, then_bk, x_cns, x_bx, x_asgn, x_par, eR_nil, eR_cons, par_nil, par_cons, x_ixs, x_ap, x_ifs, x_rt, x_fr, loop_nx, loop_ct, loop_bk, loop_rt, for_nil, for_cons, bindA, List.replicate, List.cons_append, List.nil_append, a_nm, a_tt, a_tl, as_n, as_c, List.set_cons_zero, List.set_cons_succ, List.length_cons, List.length_nil, setS, boxS, cond_true, cond_false, Bool.and_true, Bool.and_false, Bool.true_and, Bool.false_and, if_true, lk_nil, lk_v, lk_c, lk_g, lk_bin, lk_neg, lk_cmp, lk_chain, lk_nt, lk_and2, lk_or2, lk_tr, lk_ite, lk_tup, lk_lst, lk_ix, lk_sl, lk_rev, lk_call, lk_bi, lk_isi, lk_comp, lk_comp2, lk_draw, ul_nil, ul_v, ul_c, ul_g, ul_bin, ul_neg, ul_cmp, ul_chain, ul_nt, ul_and2, ul_or2, ul_tr, ul_ite, ul_tup, ul_lst, ul_ix, ul_sl, ul_rev, ul_call, ul_bi, ul_isi, ul_comp, ul_comp2, ul_draw, isV, tgS, tgSs, wipeE, rt_v, rt_c, rt_g, rt_bin, rt_neg, rt_cmp, rt_chain, rt_nt, rt_and2, rt_or2, rt_tr, rt_ite, rt_tup, rt_lst, rt_ix, rt_sl, rt_rev, rt_call, rt_bi, rt_isi, rt_comp, rt_comp2, rt_draw, b_lenl, b_lent, b_lens, b_abs, b_sum, b_max, b_min, b_max2, b_min2, b_tupl, b_tupt, b_lstl, b_lstt, b_inti, b_intb, b_all, b_any, b_gcd, is_nil, is_cons, bs_nil, bs_cons, s_seql, s_seqt, s_seqs, s_r1, s_r2, s_zip, s_zipt, s_enum, s_enumt, s_rev, s_revt, s_rr, z_cons, z_nil, z_nil2, n_cons, n_nil, sl_l, sl_t, one_0, one_1, cut_from, cut_to, rv_l, tr_n, tr_b, tr_i, tr_l, tr_t, x_rtN, x_brk, x_cnt, x_pas, x_frz, x_drp, List.getElem?_cons_zero, List.getElem?_cons_succ, arg_c, arg_g, arg_bin, arg_neg, arg_cmp, arg_chain, arg_nt, arg_and2, arg_or2, arg_tr, arg_ite, arg_tup, arg_lst, arg_ix, arg_sl, arg_rev, arg_call, arg_bi, arg_isi, arg_comp, arg_draw, bind_drw, blT_drw, then_drw, loop_drw, all_drw, all_ret, c_lt, c_le, c_gt, c_ge, c_eq, c_ne, c_isN, c_notN, cond_dec, cond_not, cond_and, cond_or, dr10, dr01, ex_ite, wt_nx, wt_rt, wt_ct, wt_bk, wt_drw, q_eq, F_inj, k_addl, k_addt, k_ap, rng2, line, rangeL, List.sum_cons, List.sum_nil, tyD, allTy, run]
  exact fin
theorem t16_1 {s2 s4 s5 s6 s7 s8 s9 s10 s11 s12 s13 s14 s15 s17 s18 s19 s20 s21 s22 s23 s24 s25 : Slot} {m : M2} (hm : m.det ≠ .zero) (im : SmT 4 m) {p : Sp} (gp : Gs p) (ip : SmS 20 p) :
    Wp g_law [b16, b17] [.scr, .st, s2, .pl (MD m), s4, s5, s6, s7, s8, s9, s10, s11, s12, s13, s14, s15, .pl (.lst [SD p]), s17, s18, s19, s20, s21, s22, s23, s24, s25] OK := by
  rw [wp_cons]
  simp (maxSteps := 10000000) (implicitDefEqProofs := false) (disch := omega) [b16, gl0, gl2, gl7, gl8, gl10, gl1, gl11, gl13, gl14, gl16, gl9, gl17, gl18, gl22, gl23, gl24, gl20, gl21, gl3, gl19, gl15, gl4, gl5, gl6, G0, G1, S0, S1, M0, M1, isn_n, isn_F, isn_i, b_ret, o_some, map_some, obind_some, k_add, k_sub, k_mul, k_ixl, k_ixt, ix_0, ix_1, ix_2, ix_3, ix_4, ix_5, ix_6, ix_7, ix_8, ix_9, ix_10, ix_11, ix_12, st_0, st_1, st_2, st_3, st_4, st_5, st_6, st_7, st_8, st_9, st_10, st_11, st_12, rd_0, rd_b, rd_l, rd_s, own_0, own_p, own_s, own_n, e_c, e_g, e_v, e_bin, neg_i, e_neg, e_cmp, e_chain, e_nt, e_and, e_or, e_tr, e_ite, e_tup, e_lst, e_ix, e_sl, e_rev, e_call, e_bi, e_isi, e_draw, e_comp, turn_cons, turn_nil, es_nil, es_cons, eS_nil, eS_cons, eC_nil, eC_cons, eA_nil, eA_cons, arg_st, bl_ret, x_nil, then_nx, then_rt, then_ct, then_bk, x_cns, x_bx, x_asgn, x_par, eR_nil, eR_cons, par_nil, par_cons, x_ixs, x_ap, x_ifs, x_rt, x_fr, loop_nx, loop_ct, loop_bk, loop_rt, for_nil, for_cons, bindA, List.replicate, List.cons_append, List.nil_append, a_nm, a_tt, a_tl, as_n, as_c, List.set_cons_zero, List.set_cons_succ, List.length_cons, List.length_nil, setS, boxS, cond_true, cond_false, Bool.and_true, Bool.and_false, Bool.true_and, Bool.false_and, if_true, lk_nil, lk_v, lk_c, lk_g, lk_bin, lk_neg, lk_cmp, lk_chain, lk_nt, lk_and2, lk_or2, lk_tr, lk_ite, lk_tup, lk_lst, lk_ix, lk_sl, lk_rev, lk_call, lk_bi, lk_isi, lk_comp, lk_comp2, lk_draw, ul_nil, ul_v, ul_c, ul_g, ul_bin, ul_neg, ul_cmp, ul_chain, ul_nt, ul_and2, ul_or2, ul_tr, ul_ite, ul_tup, ul_lst, ul_ix, ul_sl, ul_rev, ul_call, ul_bi, ul_isi, ul_comp, ul_comp2, ul_draw, isV, tgS, tgSs, wipeE, rt_v, rt_c, rt_g, rt_bin, rt_neg, rt_cmp, rt_chain, rt_nt, rt_and2, rt_or2, rt_tr, rt_ite, rt_tup, rt_lst, rt_ix, rt_sl, rt_rev, rt_call, rt_bi, rt_isi, rt_comp, rt_comp2, rt_draw, b_lenl, b_lent, b_lens, b_abs, b_sum, b_max, b_min, b_max2, b_min2, b_tupl, b_tupt, b_lstl, b_lstt, b_inti, b_intb, b_all, b_any, b_gcd, is_nil, is_cons, bs_nil, bs_cons, s_seql, s_seqt, s_seqs, s_r1, s_r2, s_zip, s_zipt, s_enum, s_enumt, s_rev, s_revt, s_rr, z_cons, z_nil, z_nil2, n_cons, n_nil, sl_l, sl_t, one_0, one_1, cut_from, cut_to, rv_l, tr_n, tr_b, tr_i, tr_l, tr_t, x_rtN, x_brk, x_cnt, x_pas, x_frz, x_drp, List.getElem?_cons_zero, List.getElem?_cons_succ, arg_c, arg_g, arg_bin, arg_neg, arg_cmp, arg_chain, arg_nt, arg_and2, arg_or2, arg_tr, arg_ite, arg_tup, arg_lst, arg_ix, arg_sl, arg_rev, arg_call, arg_bi, arg_isi, arg_comp, arg_draw, bind_drw, blT_drw, then_drw, loop_drw, all_drw, all_ret, c_lt, c_le, c_gt, c_ge, c_eq, c_ne, c_isN, c_notN, cond_dec, cond_not, cond_and, cond_or, dr10, dr01, ex_ite, wt_nx, wt_rt, wt_ct, wt_bk, wt_drw, q_eq, F_inj, k_addl, k_addt, k_ap, rng2, line, rangeL, List.sum_cons, List.sum_nil, tyD, allTy, run]
  rw [wp_cons]
  simp (maxSteps := 10000000) (implicitDefEqProofs := false) (disch := omega) [b17, gl0, gl2, gl7, gl8, gl10, gl1, gl11, gl13, gl14, gl16, gl9, gl17, gl18, gl22, gl23, gl24, gl20, gl21, gl3, gl19, gl15, gl4, gl5, gl6, G0, G1, S0, S1, M0, M1, isn_n, isn_F, isn_i, b_ret, o_some, map_some, obind_some, k_add, k_sub, k_mul, k_ixl, k_ixt, ix_0, ix_1, ix_2, ix_3, ix_4, ix_5, ix_6, ix_7, ix_8, ix_9, ix_10, ix_11, ix_12, st_0, st_1, st_2, st_3, st_4, st_5, st_6, st_7, st_8, st_9, st_10, st_11, st_12, rd_0, rd_b, rd_l, rd_s, own_0, own_p, own_s, own_n, e_c, e_g, e_v, e_bin, neg_i, e_neg, e_cmp, e_chain, e_nt, e_and, e_or, e_tr, e_ite, e_tup, e_lst, e_ix, e_sl, e_rev, e_call, e_bi, e_isi, e_draw, e_comp, turn_cons, turn_nil, es_nil, es_cons, eS_nil, eS_cons, eC_nil, eC_cons, eA_nil, eA_cons, arg_st, bl_ret, x_nil, then_nx, then_rt, then_ct, then_bk, x_cns, x_bx, x_asgn, x_par, eR_nil, eR_cons, par_nil, par_cons, x_ixs, x_ap, x_ifs, x_rt, x_fr, loop_nx, loop_ct, loop_bk, loop_rt, for_nil, for_cons, bindA, List.replicate, List.cons_append, List.nil_append, a_nm, a_tt, a_tl, as_n, as_c, List.set_cons_zero, List.set_cons_succ, List.length_cons, List.length_nil, setS, boxS, cond_true, cond_false, Bool.and_true, Bool.and_false, Bool.true_and, Bool.false_and, if_true, lk_nil, lk_v, lk_c, lk_g, lk_bin, lk_neg, lk_cmp, lk_chain, lk_nt, lk_and2, lk_or2, lk_tr, lk_ite, lk_tup, lk_lst, lk_ix, lk_sl, lk_rev, lk_call, lk_bi, lk_isi, lk_comp, lk_comp2, lk_draw, ul_nil, ul_v, ul_c, ul_g, ul_bin, ul_neg, ul_cmp, ul_chain, ul_nt, ul_and2, ul_or2, ul_tr, ul_ite, ul_tup, ul_lst, ul_ix, ul_sl, ul_rev, ul_call, ul_bi, ul_isi, ul_comp, ul_comp2, ul_draw, isV, tgS, tgSs, wipeE, rt_v, rt_c, rt_g, rt_bin, rt_neg, rt_cmp, rt_chain, rt_nt, rt_and2, rt_or2, rt_tr, rt_ite, rt_tup, rt_lst, rt_ix, rt_sl, rt_rev, rt_call, rt_bi, rt_isi, rt_comp, rt_comp2, rt_draw, b_lenl, b_lent, b_lens, b_abs, b_sum, b_max, b_min, b_max2, b_min2, b_tupl, b_tupt, b_lstl, b_lstt, b_inti, b_intb, b_all, b_any, b_gcd, is_nil, is_cons, bs_nil, bs_cons, s_seql, s_seqt, s_seqs, s_r1, s_r2, s_zip, s_zipt, s_enum, s_enumt, s_rev, s_revt, s_rr, z_cons, z_nil, z_nil2, n_cons, n_nil, sl_l, sl_t, one_0, one_1, cut_from, cut_to, rv_l, tr_n, tr_b, tr_i, tr_l, tr_t, x_rtN, x_brk, x_cnt, x_pas, x_frz, x_drp, List.getElem?_cons_zero, List.getElem?_cons_succ, arg_c, arg_g, arg_bin, arg_neg, arg_cmp, arg_chain, arg_nt, arg_and2, arg_or2, arg_tr, arg_ite, arg_tup, arg_lst, arg_ix, arg_sl, arg_rev, arg_call, arg_bi, arg_isi, arg_comp, arg_draw, bind_drw, blT_drw, then_drw, loop_drw, all_drw, all_ret, c_lt, c_le, c_gt, c_ge, c_eq, c_ne, c_isN, c_notN, cond_dec, cond_not, cond_and, cond_or, dr10, dr01, ex_ite, wt_nx, wt_rt, wt_ct, wt_bk, wt_drw, q_eq, F_inj, k_addl, k_addt, k_ap, rng2, line, rangeL, List.sum_cons, List.sum_nil, tyD, allTy, run]
  exact fin
theorem t16_2 {s2 s4 s5 s6 s7 s8 s9 s10 s11 s12 s13 s14 s15 s17 s18 s19 s20 s21 s22 s23 s24 s25 : Slot} {m : M2} (hm : m.det ≠ .zero) (im : SmT 4 m) {p q : Sp} (gp : Gs p) (ip : SmS 20 p) (gq : Gs q) (iq : SmS 20 q) :
    Wp g_law [b16, b17] [.scr, .st, s2, .pl (MD m), s4, s5, s6, s7, s8, s9, s10, s11, s12, s13, s14, s15, .pl (.lst [SD p, SD q]), s17, s18, s19, s20, s21, s22, s23, s24, s25] OK := by
  rw [wp_cons]
  simp (maxSteps := 10000000) (implicitDefEqProofs := false) (disch := omega) [b16, gl0, gl2, gl7, gl8, gl10, gl1, gl11, gl13, gl14, gl16, gl9, gl17, gl18, gl22, gl23, gl24, gl20, gl21, gl3, gl19, gl15, gl4, gl5, gl6, G0, G1, S0, S1, M0, M1, isn_n, isn_F, isn_i, b_ret, o_some, map_some, obind_some, k_add, k_sub, k_mul, k_ixl, k_ixt, ix_0, ix_1, ix_2, ix_3, ix_4, ix_5, ix_6, ix_7, ix_8, ix_9, ix_10, ix_11, ix_12, st_0, st_1, st_2, st_3, st_4, st_5, st_6, st_7, st_8, st_9, st_10, st_11, st_12, rd_0, rd_b, rd_l, rd_s, own_0, own_p, own_s, own_n, e_c, e_g, e_v, e_bin, neg_i, e_neg, e_cmp, e_chain, e_nt, e_and, e_or, e_tr, e_ite, e_tup, e_lst, e_ix, e_sl, e_rev, e_call, e_bi, e_isi, e_draw, e_comp, turn_cons, turn_nil, es_nil, es_cons, eS_nil, eS_cons, eC_nil, eC_cons, eA_nil, eA_cons, arg_st, bl_ret, x_nil, then_nx, then_rt, then_ct, then_bk, x_cns, x_bx, x_asgn, x_par, eR_nil, eR_cons, par_nil, par_cons, x_ixs, x_ap, x_ifs, x_rt, x_fr, loop_nx, loop_ct, loop_bk, loop_rt, for_nil, for_cons, bindA, List.replicate, List.cons_append, List.nil_append, a_nm, a_tt, a_tl, as_n, as_c, List.set_cons_zero, List.set_cons_succ, List.length_cons, List.length_nil, setS, boxS, cond_true, cond_false, Bool.and_true, Bool.and_false, Bool.true_and, Bool.false_and, if_true, lk_nil, lk_v, lk_c, lk_g, lk_bin, lk_neg, lk_cmp, lk_chain, lk_nt, lk_and2, lk_or2, lk_tr, lk_ite, lk_tup, lk_lst, lk_ix, lk_sl, lk_rev, lk_call, lk_bi, lk_isi, lk_comp, lk_comp2, lk_draw, ul_nil, ul_v, ul_c, ul_g, ul_bin, ul_neg, ul_cmp, ul_chain, ul_nt, ul_and2, ul_or2, ul_tr, ul_ite, ul_tup, ul_lst, ul_ix, ul_sl, ul_rev, ul_call, ul_bi, ul_isi, ul_comp, ul_comp2, ul_draw, isV, tgS, tgSs, wipeE, rt_v, rt_c, rt_g, rt_bin, rt_neg, rt_cmp, rt_chain, rt_nt, rt_and2, rt_or2, rt_tr, rt_ite, rt_tup, rt_lst, rt_ix, rt_sl, rt_rev, rt_call, rt_bi, rt_isi, rt_comp, rt_comp2, rt_draw, b_lenl, b_lent, b_lens, b_abs, b_sum, b_max, b_min, b_max2, b_min2, b_tupl, b_tupt, b_lstl, b_lstt, b_inti, b_intb, b_all, b_any, b_gcd, is_nil, is_cons, bs_nil, bs_cons, s_seql, s_seqt, s_seqs, s_r1, s_r2, s_zip, s_zipt, s_enum, s_enumt, s_rev, s_revt, s_rr, z_cons, z_nil, z_nil2, n_cons, n_nil, sl_l, sl_t, one_0, one_1, cut_from, cut_to, rv_l, tr_n, tr_b, tr_i, tr_l, tr_t, x_rtN, x_brk, x_cnt, x_pas, x_frz, x_drp, List.getElem?_cons_zero, List.getElem?_cons_succ, arg_c, arg_g, arg_bin, arg_neg, arg_cmp, arg_chain, arg_nt, arg_and2, arg_or2, arg_tr, arg_ite, arg_tup, arg_lst, arg_ix, arg_sl, arg_rev, arg_call, arg_bi, arg_isi, arg_comp, arg_draw, bind_drw, blT_drw, then_drw, loop_drw, all_drw, all_ret, c_lt, c_le, c_gt, c_ge, c_eq, c_ne, c_isN, c_notN, cond_dec, cond_not, cond_and, cond_or, dr10, dr01, ex_ite, wt_nx, wt_rt, wt_ct, wt_bk, wt_drw, q_eq, F_inj, k_addl, k_addt, k_ap, rng2, line, rangeL, List.sum_cons, List.sum_nil, tyD, allTy, run]
  rw [wp_cons]
  simp (maxSteps := 10000000) (implicitDefEqProofs := false) (disch := omega) [b17, gl0, gl2, gl7, gl8, gl10, gl1, gl11, gl13, gl14, gl16, gl9, gl17, gl18, gl22, gl23, gl24, gl20, gl21, gl3, gl19, gl15, gl4, gl5, gl6, G0, G1, S0, S1, M0, M1, isn_n, isn_F, isn_i, b_ret, o_some, map_some, obind_some, k_add, k_sub, k_mul, k_ixl, k_ixt, ix_0, ix_1, ix_2, ix_3, ix_4, ix_5, ix_6, ix_7, ix_8, ix_9, ix_10, ix_11, ix_12, st_0, st_1, st_2, st_3, st_4, st_5, st_6, st_7, st_8, st_9, st_10, st_11, st_12, rd_0, rd_b, rd_l, rd_s, own_0, own_p, own_s, own_n, e_c, e_g, e_v, e_bin, neg_i, e_neg, e_cmp, e_chain, e_nt, e_and, e_or, e_tr, e_ite, e_tup, e_lst, e_ix, e_sl, e_rev, e_call, e_bi, e_isi, e_draw, e_comp, turn_cons, turn_nil, es_nil, es_cons, eS_nil, eS_cons, eC_nil, eC_cons, eA_nil, eA_cons, arg_st, bl_ret, x_nil, then_nx, then_rt, then_ct, then_bk, x_cns, x_bx, x_asgn, x_par, eR_nil, eR_cons, par_nil, par_cons, x_ixs, x_ap, x_ifs, x_rt, x_fr, loop_nx, loop_ct, loop_bk, loop_rt, for_nil, for_cons, bindA, List.replicate, List.cons_append, List.nil_append, a_nm, a_tt, a_tl, as_n, as_c, List.set_cons_zero, List.set_cons_succ, List.length_cons, List.length_nil, setS, boxS, cond_true, cond_false, Bool.and_true, Bool.and_false, Bool.true_and, Bool.false_and, if_true, lk_nil, lk_v, lk_c, lk_g, lk_bin, lk_neg, lk_cmp, lk_chain, lk_nt, lk_and2, lk_or2, lk_tr, lk_ite, lk_tup, lk_lst, lk_ix, lk_sl, lk_rev, lk_call, lk_bi, lk_isi, lk_comp, lk_comp2, lk_draw, ul_nil, ul_v, ul_c, ul_g, ul_bin, ul_neg, ul_cmp, ul_chain, ul_nt, ul_and2, ul_or2, ul_tr, ul_ite, ul_tup, ul_lst, ul_ix, ul_sl, ul_rev, ul_call, ul_bi, ul_isi, ul_comp, ul_comp2, ul_draw, isV, tgS, tgSs, wipeE, rt_v, rt_c, rt_g, rt_bin, rt_neg, rt_cmp, rt_chain, rt_nt, rt_and2, rt_or2, rt_tr, rt_ite, rt_tup, rt_lst, rt_ix, rt_sl, rt_rev, rt_call, rt_bi, rt_isi, rt_comp, rt_comp2, rt_draw, b_lenl, b_lent, b_lens, b_abs, b_sum, b_max, b_min, b_max2, b_min2, b_tupl, b_tupt, b_lstl, b_lstt, b_inti, b_intb, b_all, b_any, b_gcd, is_nil, is_cons, bs_nil, bs_cons, s_seql, s_seqt, s_seqs, s_r1, s_r2, s_zip, s_zipt, s_enum, s_enumt, s_rev, s_revt, s_rr, z_cons, z_nil, z_nil2, n_cons, n_nil, sl_l, sl_t, one_0, one_1, cut_from, cut_to, rv_l, tr_n, tr_b, tr_i, tr_l, tr_t, x_rtN, x_brk, x_cnt, x_pas, x_frz, x_drp, List.getElem?_cons_zero, List.getElem?_cons_succ, arg_c, arg_g, arg_bin, arg_neg, arg_cmp, arg_chain, arg_nt, arg_and2, arg_or2, arg_tr, arg_ite, arg_tup, arg_lst, arg_ix, arg_sl, arg_rev, arg_call, arg_bi, arg_isi, arg_comp, arg_draw, bind_drw, blT_drw, then_drw, loop_drw, all_drw, all_ret, c_lt, c_le, c_gt, c_ge, c_eq, c_ne, c_isN, c_notN, cond_dec, cond_not, cond_and, cond_or, dr10, dr01, ex_ite, wt_nx, wt_rt, wt_ct, wt_bk, wt_drw, q_eq, F_inj, k_addl, k_addt, k_ap, rng2, line, rangeL, List.sum_cons, List.sum_nil, tyD, allTy, run]
  exact fin
theorem t16_3 {s2 s4 s5 s6 s7 s8 s9 s10 s11 s12 s13 s14 s15 s17 s18 s19 s20 s21 s22 s23 s24 s25 : Slot} {m : M2} (hm : m.det ≠ .zero) (im : SmT 4 m) {p q r : Sp} (gp : Gs p) (ip : SmS 20 p) (gq : Gs q) (iq : SmS 20 q) (gr : Gs r) (ir : SmS 20 r) (hpq : p ≠ q) (hpr : p ≠ r) (hqr : q ≠ r) :
    Wp g_law [b16, b17] [.scr, .st, s2, .pl (MD m), s4, s5, s6, s7, s8, s9, s10, s11, s12, s13, s14, s15, .pl (.lst [SD p, SD q, SD r]), s17, s18, s19, s20, s21, s22, s23, s24, s25] OK := by
  rw [wp_cons]
  simp (maxSteps := 10000000) (implicitDefEqProofs := false) (disch := omega) [b16, gl0, gl2, gl7, gl8, gl10, gl1, gl11, gl13, gl14, gl16, gl9, gl17, gl18, gl22, gl23, gl24, gl20, gl21, gl3, gl19, gl15, gl4, gl5, gl6, G0, G1, S0, S1, M0, M1, isn_n, isn_F, isn_i, b_ret, o_some, map_some, obind_some, k_add, k_sub, k_mul, k_ixl, k_ixt, ix_0, ix_1, ix_2, ix_3, ix_4, ix_5, ix_6, ix_7, ix_8, ix_9, ix_10, ix_11, ix_12, st_0, st_1, st_2, st_3, st_4, st_5, st_6, st_7, st_8, st_9, st_10, st_11, st_12, rd_0, rd_b, rd_l, rd_s, own_0, own_p, own_s, own_n, e_c, e_g, e_v, e_bin, neg_i, e_neg, e_cmp, e_chain, e_nt, e_and, e_or, e_tr, e_ite, e_tup, e_lst, e_ix, e_sl, e_rev, e_call, e_bi, e_isi, e_draw, e_comp, turn_cons, turn_nil, es_nil, es_cons, eS_nil, eS_cons, eC_nil, eC_cons, eA_nil, eA_cons, arg_st, bl_ret, x_nil, then_nx, then_rt, then_ct, then_bk, x_cns, x_bx, x_asgn, x_par, eR_nil, eR_cons, par_nil, par_cons, x_ixs, x_ap, x_ifs, x_rt, x_fr, loop_nx, loop_ct, loop_bk, loop_rt, for_nil, for_cons, bindA, List.replicate, List.cons_append, List.nil_append, a_nm, a_tt, a_tl, as_n, as_c, List.set_cons_zero, List.set_cons_succ, List.length_cons, List.length_nil, setS, boxS, cond_true, cond_false, Bool.and_true, Bool.and_false, Bool.true_and, Bool.false_and, if_true, lk_nil, lk_v, lk_c, lk_g, lk_bin, lk_neg, lk_cmp, lk_chain, lk_nt, lk_and2, lk_or2, lk_tr, lk_ite, lk_tup, lk_lst, lk_ix, lk_sl, lk_rev, lk_call, lk_bi, lk_isi, lk_comp, lk_comp2, lk_draw, ul_nil, ul_v, ul_c, ul_g, ul_bin, ul_neg, ul_cmp, ul_chain, ul_nt, ul_and2, ul_or2, ul_tr, ul_ite, ul_tup, ul_lst, ul_ix, ul_sl, ul_rev, ul_call, ul_bi, ul_isi, ul_comp, ul_comp2, ul_draw, isV, tgS, tgSs, wipeE, rt_v, rt_c, rt_g, rt_bin, rt_neg, rt_cmp, rt_chain, rt_nt, rt_and2, rt_or2, rt_tr, rt_ite, rt_tup, rt_lst, rt_ix, rt_sl, rt_rev, rt_call, rt_bi, rt_isi, rt_comp, rt_comp2, rt_draw, b_lenl, b_lent, b_lens, b_abs, b_sum, b_max, b_min, b_max2, b_min2, b_tupl, b_tupt, b_lstl, b_lstt, b_inti, b_intb, b_all, b_any, b_gcd, is_nil, is_cons, bs_nil, bs_cons, s_seql, s_seqt, s_seqs, s_r1, s_r2, s_zip, s_zipt, s_enum, s_enumt, s_rev, s_revt, s_rr, z_cons, z_nil, z_nil2, n_cons, n_nil, sl_l, sl_t, one_0, one_1, cut_from, cut_to, rv_l, tr_n, tr_b, tr_i, tr_l, tr_t, x_rtN, x_brk, x_cnt, x_pas, x_frz, x_drp, List.getElem?_cons_zero, List.getElem?_cons_succ, arg_c, arg_g, arg_bin, arg_neg, arg_cmp, arg_chain, arg_nt, arg_and2, arg_or2, arg_tr, arg_ite, arg_tup, arg_lst, arg_ix, arg_sl, arg_rev, arg_call, arg_bi, arg_isi, arg_comp, arg_draw, bind_drw, blT_drw, then_drw, loop_drw, all_drw, all_ret, c_lt, c_le, c_gt, c_ge, c_eq, c_ne, c_isN, c_notN, cond_dec, cond_not, cond_and, cond_or, dr10, dr01, ex_ite, wt_nx, wt_rt, wt_ct, wt_bk, wt_drw, q_eq, F_inj, k_addl, k_addt, k_ap, rng2, line, rangeL, List.sum_cons, List.sum_nil, tyD, allTy, run]
  exact t17_3 hm im gp ip gq iq gr ir hpq hpr hqr
theorem t16_4 {s2 s4 s5 s6 s7 s8 s9 s10 s11 s12 s13 s14 s15 s17 s18 s19 s20 s21 s22 s23 s24 s25 : Slot} {m : M2} (hm : m.det ≠ .zero) (im : SmT 4 m) {p q r s : Sp} (gp : Gs p) (ip : SmS 20 p) (gq : Gs q) (iq : SmS 20 q) (gr : Gs r) (ir : SmS 20 r) (gs : Gs s) (is : SmS 20 s) (hpq : p ≠ q) (hpr : p ≠ r) (hqr : q ≠ r) (hps : p ≠ s) (hqs : q ≠ s) (hrs : r ≠ s) :
    Wp g_law [b16, b17] [.scr, .st, s2, .pl (MD m), s4, s5, s6, s7, s8, s9, s10, s11, s12, s13, s14, s15, .pl (.lst [SD p, SD q, SD r, SD s]), s17, s18, s19, s20, s21, s22, s23, s24, s25] OK := by
  have j1 := (sm_led im ip).mono' (show _ ≤ 152 by omega)
  have j2 := (sm_led im iq).mono' (show _ ≤ 152 by omega)
  have j3 := (sm_led im ir).mono' (show _ ≤ 152 by omega)
  have j4 := (sm_led im is).mono' (show _ ≤ 152 by omega)
  have q1 : r__law_spot [.d (GD ((gap p r).mul (gap q s))), .d (GD ((gap p s).mul (gap q r)))] = .ret (SD (cr p q r s), false) := p_spot (by omega) (by omega)
  have q2 : r_four_quotient [.d (SD p), .d (SD q), .d (SD r), .d (SD s)] = .ret (SD (cr p q r s), false) := p_four (p := 20) (by omega)
  have q3 : r_four_quotient [.d (SD (led m p)), .d (SD (led m q)), .d (SD (led m r)), .d (SD (led m s))] = .ret (SD (cr p q r s), false) := by
    rw [p_four (p := 152) (by omega), cr_led hm gp gq gr gs fun z => G2.mul_ne (gap_ne gp gr hpr) (gap_ne gq gs hqs) z.1]
  have q4 : r_are_on_round [.d (SD p), .d (SD q), .d (SD r), .d (SD s)] = .ret (.bl (decide ((cr p q r s).1.y = 0)), false) := p_round (p := 20) (by omega)
  generalize cr p q r s = c at *
  have a1 : SmG 82 (gap p r) := inferInstance
  have a2 : SmG 82 (gap q s) := inferInstance
  have a3 : SmG 82 (gap p s) := inferInstance
  have a4 : SmG 82 (gap q r) := inferInstance
  rw [wp_cons]
  simp (maxSteps := 10000000) (implicitDefEqProofs := false) (disch := omega) [b16, p_apart, p_times, p_led, q1, q2, q3, q4, gl0, gl2, gl7, gl8, gl10, gl1, gl11, gl13, gl14, gl16, gl9, gl17, gl18, gl22, gl23, gl24, gl20, gl21, gl3, gl19, gl15, gl4, gl5, gl6, G0, G1, S0, S1, M0, M1, isn_n, isn_F, isn_i, b_ret, o_some, map_some, obind_some, k_add, k_sub, k_mul, k_ixl, k_ixt, ix_0, ix_1, ix_2, ix_3, ix_4, ix_5, ix_6, ix_7, ix_8, ix_9, ix_10, ix_11, ix_12, st_0, st_1, st_2, st_3, st_4, st_5, st_6, st_7, st_8, st_9, st_10, st_11, st_12, rd_0, rd_b, rd_l, rd_s, own_0, own_p, own_s, own_n, e_c, e_g, e_v, e_bin, neg_i, e_neg, e_cmp, e_chain, e_nt, e_and, e_or, e_tr, e_ite, e_tup, e_lst, e_ix, e_sl, e_rev, e_call, e_bi, e_isi, e_draw, e_comp, turn_cons, turn_nil, es_nil, es_cons, eS_nil, eS_cons, eC_nil, eC_cons, eA_nil, eA_cons, arg_st, bl_ret, x_nil, then_nx, then_rt, then_ct, then_bk, x_cns, x_bx, x_asgn, x_par, eR_nil, eR_cons, par_nil, par_cons, x_ixs, x_ap, x_ifs, x_rt, x_fr, loop_nx, loop_ct, loop_bk, loop_rt, for_nil, for_cons, bindA, List.replicate, List.cons_append, List.nil_append, a_nm, a_tt, a_tl, as_n, as_c, List.set_cons_zero, List.set_cons_succ, List.length_cons, List.length_nil, setS, boxS, cond_true, cond_false, Bool.and_true, Bool.and_false, Bool.true_and, Bool.false_and, if_true, lk_nil, lk_v, lk_c, lk_g, lk_bin, lk_neg, lk_cmp, lk_chain, lk_nt, lk_and2, lk_or2, lk_tr, lk_ite, lk_tup, lk_lst, lk_ix, lk_sl, lk_rev, lk_call, lk_bi, lk_isi, lk_comp, lk_comp2, lk_draw, ul_nil, ul_v, ul_c, ul_g, ul_bin, ul_neg, ul_cmp, ul_chain, ul_nt, ul_and2, ul_or2, ul_tr, ul_ite, ul_tup, ul_lst, ul_ix, ul_sl, ul_rev, ul_call, ul_bi, ul_isi, ul_comp, ul_comp2, ul_draw, isV, tgS, tgSs, wipeE, rt_v, rt_c, rt_g, rt_bin, rt_neg, rt_cmp, rt_chain, rt_nt, rt_and2, rt_or2, rt_tr, rt_ite, rt_tup, rt_lst, rt_ix, rt_sl, rt_rev, rt_call, rt_bi, rt_isi, rt_comp, rt_comp2, rt_draw, b_lenl, b_lent, b_lens, b_abs, b_sum, b_max, b_min, b_max2, b_min2, b_tupl, b_tupt, b_lstl, b_lstt, b_inti, b_intb, b_all, b_any, b_gcd, is_nil, is_cons, bs_nil, bs_cons, s_seql, s_seqt, s_seqs, s_r1, s_r2, s_zip, s_zipt, s_enum, s_enumt, s_rev, s_revt, s_rr, z_cons, z_nil, z_nil2, n_cons, n_nil, sl_l, sl_t, one_0, one_1, cut_from, cut_to, rv_l, tr_n, tr_b, tr_i, tr_l, tr_t, x_rtN, x_brk, x_cnt, x_pas, x_frz, x_drp, List.getElem?_cons_zero, List.getElem?_cons_succ, arg_c, arg_g, arg_bin, arg_neg, arg_cmp, arg_chain, arg_nt, arg_and2, arg_or2, arg_tr, arg_ite, arg_tup, arg_lst, arg_ix, arg_sl, arg_rev, arg_call, arg_bi, arg_isi, arg_comp, arg_draw, bind_drw, blT_drw, then_drw, loop_drw, all_drw, all_ret, c_lt, c_le, c_gt, c_ge, c_eq, c_ne, c_isN, c_notN, cond_dec, cond_not, cond_and, cond_or, dr10, dr01, ex_ite, wt_nx, wt_rt, wt_ct, wt_bk, wt_drw, q_eq, F_inj, k_addl, k_addt, k_ap, rng2, line, rangeL, List.sum_cons, List.sum_nil, tyD, allTy, run]
  exact t17_4 hm im gp ip gq iq gr ir gs is hpq hpr hqr hps hqs hrs
theorem turn15_0g {s2 s3 s4 s6 s7 s8 s9 s10 s11 s12 s13 s14 s15 s16 s17 s18 s19 s20 s21 s22 s23 s24 s25 : Slot} {p q r s : Sp} {k : Nat} (hk : biD .index [.lst [SD p, SD q, SD r, SD s], SD p] = some (.int (k : Int), false)) : turnC g_law (.nm 6) [(.cmp .eq (.bi .index [(.v 5), (.ix (.v 5) (.v 6))]) (.v 6))] (.ix (.v 5) (.v 6)) [.scr, .st, s2, s3, s4, .pl (.lst [SD p, SD q, SD r, SD s]), s6, s7, s8, s9, s10, s11, s12, s13, s14, s15, s16, s17, s18, s19, s20, s21, s22, s23, s24, s25] (.int 0) = .ret (if (k : Int) = 0 then some (SD p) else none) := by
  unfold turnC
  by_cases h : k = 0
  · subst h
    simp (maxSteps := 10000000) (implicitDefEqProofs := false) (disch := omega) [hk, gl0, gl2, gl7, gl8, gl10, gl1, gl11, gl13, gl14, gl16, gl9, gl17, gl18, gl22, gl23, gl24, gl20, gl21, gl3, gl19, gl15, gl4, gl5, gl6, G0, G1, S0, S1, M0, M1, isn_n, isn_F, isn_i, b_ret, o_some, map_some, obind_some, k_add, k_sub, k_mul, k_ixl, k_ixt, ix_0, ix_1, ix_2, ix_3, ix_4, ix_5, ix_6, ix_7, ix_8, ix_9, ix_10, ix_11, ix_12, st_0, st_1, st_2, st_3, st_4, st_5, st_6, st_7, st_8, st_9, st_10, st_11, st_12, rd_0, rd_b, rd_l, rd_s, own_0, own_p, own_s, own_n, e_c, e_g, e_v, e_bin, neg_i, e_neg, e_cmp, e_chain, e_nt, e_and, e_or, e_tr, e_ite, e_tup, e_lst, e_ix, e_sl, e_rev, e_call, e_bi, e_isi, e_draw, e_comp, turn_cons, turn_nil, es_nil, es_cons, eS_nil, eS_cons, eC_nil, eC_cons, eA_nil, eA_cons, arg_st, bl_ret, x_nil, then_nx, then_rt, then_ct, then_bk, x_cns, x_bx, x_asgn, x_par, eR_nil, eR_cons, par_nil, par_cons, x_ixs, x_ap, x_ifs, x_rt, x_fr, loop_nx, loop_ct, loop_bk, loop_rt, for_nil, for_cons, bindA, List.replicate, List.cons_append, List.nil_append, a_nm, a_tt, a_tl, as_n, as_c, List.set_cons_zero, List.set_cons_succ, List.length_cons, List.length_nil, setS, boxS, cond_true, cond_false, Bool.and_true, Bool.and_false, Bool.true_and, Bool.false_and, if_true, lk_nil, lk_v, lk_c, lk_g, lk_bin, lk_neg, lk_cmp, lk_chain, lk_nt, lk_and2, lk_or2, lk_tr, lk_ite, lk_tup, lk_lst, lk_ix, lk_sl, lk_rev, lk_call, lk_bi, lk_isi, lk_comp, lk_comp2, lk_draw, ul_nil, ul_v, ul_c, ul_g, ul_bin, ul_neg, ul_cmp, ul_chain, ul_nt, ul_and2, ul_or2, ul_tr, ul_ite, ul_tup, ul_lst, ul_ix, ul_sl, ul_rev, ul_call, ul_bi, ul_isi, ul_comp, ul_comp2, ul_draw, isV, tgS, tgSs, wipeE, rt_v, rt_c, rt_g, rt_bin, rt_neg, rt_cmp, rt_chain, rt_nt, rt_and2, rt_or2, rt_tr, rt_ite, rt_tup, rt_lst, rt_ix, rt_sl, rt_rev, rt_call, rt_bi, rt_isi, rt_comp, rt_comp2, rt_draw, b_lenl, b_lent, b_lens, b_abs, b_sum, b_max, b_min, b_max2, b_min2, b_tupl, b_tupt, b_lstl, b_lstt, b_inti, b_intb, b_all, b_any, b_gcd, is_nil, is_cons, bs_nil, bs_cons, s_seql, s_seqt, s_seqs, s_r1, s_r2, s_zip, s_zipt, s_enum, s_enumt, s_rev, s_revt, s_rr, z_cons, z_nil, z_nil2, n_cons, n_nil, sl_l, sl_t, one_0, one_1, cut_from, cut_to, rv_l, tr_n, tr_b, tr_i, tr_l, tr_t, x_rtN, x_brk, x_cnt, x_pas, x_frz, x_drp, List.getElem?_cons_zero, List.getElem?_cons_succ, arg_c, arg_g, arg_bin, arg_neg, arg_cmp, arg_chain, arg_nt, arg_and2, arg_or2, arg_tr, arg_ite, arg_tup, arg_lst, arg_ix, arg_sl, arg_rev, arg_call, arg_bi, arg_isi, arg_comp, arg_draw, bind_drw, blT_drw, then_drw, loop_drw, all_drw, all_ret, c_lt, c_le, c_gt, c_ge, c_eq, c_ne, c_isN, c_notN, cond_dec, cond_not, cond_and, cond_or, dr10, dr01, ex_ite, wt_nx, wt_rt, wt_ct, wt_bk, wt_drw, q_eq, F_inj, k_addl, k_addt, k_ap, rng2, line, rangeL, List.sum_cons, List.sum_nil, tyD, allTy, run]
  · have hi : ¬ (k : Int) = 0 := by omega
    simp (maxSteps := 10000000) (implicitDefEqProofs := false) (disch := omega) [hk, h, hi, gl0, gl2, gl7, gl8, gl10, gl1, gl11, gl13, gl14, gl16, gl9, gl17, gl18, gl22, gl23, gl24, gl20, gl21, gl3, gl19, gl15, gl4, gl5, gl6, G0, G1, S0, S1, M0, M1, isn_n, isn_F, isn_i, b_ret, o_some, map_some, obind_some, k_add, k_sub, k_mul, k_ixl, k_ixt, ix_0, ix_1, ix_2, ix_3, ix_4, ix_5, ix_6, ix_7, ix_8, ix_9, ix_10, ix_11, ix_12, st_0, st_1, st_2, st_3, st_4, st_5, st_6, st_7, st_8, st_9, st_10, st_11, st_12, rd_0, rd_b, rd_l, rd_s, own_0, own_p, own_s, own_n, e_c, e_g, e_v, e_bin, neg_i, e_neg, e_cmp, e_chain, e_nt, e_and, e_or, e_tr, e_ite, e_tup, e_lst, e_ix, e_sl, e_rev, e_call, e_bi, e_isi, e_draw, e_comp, turn_cons, turn_nil, es_nil, es_cons, eS_nil, eS_cons, eC_nil, eC_cons, eA_nil, eA_cons, arg_st, bl_ret, x_nil, then_nx, then_rt, then_ct, then_bk, x_cns, x_bx, x_asgn, x_par, eR_nil, eR_cons, par_nil, par_cons, x_ixs, x_ap, x_ifs, x_rt, x_fr, loop_nx, loop_ct, loop_bk, loop_rt, for_nil, for_cons, bindA, List.replicate, List.cons_append, List.nil_append, a_nm, a_tt, a_tl, as_n, as_c, List.set_cons_zero, List.set_cons_succ, List.length_cons, List.length_nil, setS, boxS, cond_true, cond_false, Bool.and_true, Bool.and_false, Bool.true_and, Bool.false_and, if_true, lk_nil, lk_v, lk_c, lk_g, lk_bin, lk_neg, lk_cmp, lk_chain, lk_nt, lk_and2, lk_or2, lk_tr, lk_ite, lk_tup, lk_lst, lk_ix, lk_sl, lk_rev, lk_call, lk_bi, lk_isi, lk_comp, lk_comp2, lk_draw, ul_nil, ul_v, ul_c, ul_g, ul_bin, ul_neg, ul_cmp, ul_chain, ul_nt, ul_and2, ul_or2, ul_tr, ul_ite, ul_tup, ul_lst, ul_ix, ul_sl, ul_rev, ul_call, ul_bi, ul_isi, ul_comp, ul_comp2, ul_draw, isV, tgS, tgSs, wipeE, rt_v, rt_c, rt_g, rt_bin, rt_neg, rt_cmp, rt_chain, rt_nt, rt_and2, rt_or2, rt_tr, rt_ite, rt_tup, rt_lst, rt_ix, rt_sl, rt_rev, rt_call, rt_bi, rt_isi, rt_comp, rt_comp2, rt_draw, b_lenl, b_lent, b_lens, b_abs, b_sum, b_max, b_min, b_max2, b_min2, b_tupl, b_tupt, b_lstl, b_lstt, b_inti, b_intb, b_all, b_any, b_gcd, is_nil, is_cons, bs_nil, bs_cons, s_seql, s_seqt, s_seqs, s_r1, s_r2, s_zip, s_zipt, s_enum, s_enumt, s_rev, s_revt, s_rr, z_cons, z_nil, z_nil2, n_cons, n_nil, sl_l, sl_t, one_0, one_1, cut_from, cut_to, rv_l, tr_n, tr_b, tr_i, tr_l, tr_t, x_rtN, x_brk, x_cnt, x_pas, x_frz, x_drp, List.getElem?_cons_zero, List.getElem?_cons_succ, arg_c, arg_g, arg_bin, arg_neg, arg_cmp, arg_chain, arg_nt, arg_and2, arg_or2, arg_tr, arg_ite, arg_tup, arg_lst, arg_ix, arg_sl, arg_rev, arg_call, arg_bi, arg_isi, arg_comp, arg_draw, bind_drw, blT_drw, then_drw, loop_drw, all_drw, all_ret, c_lt, c_le, c_gt, c_ge, c_eq, c_ne, c_isN, c_notN, cond_dec, cond_not, cond_and, cond_or, dr10, dr01, ex_ite, wt_nx, wt_rt, wt_ct, wt_bk, wt_drw, q_eq, F_inj, k_addl, k_addt, k_ap, rng2, line, rangeL, List.sum_cons, List.sum_nil, tyD, allTy, run]
theorem turn15_0y {s2 s3 s4 s6 s7 s8 s9 s10 s11 s12 s13 s14 s15 s16 s17 s18 s19 s20 s21 s22 s23 s24 s25 : Slot} {p q r s : Sp}  : turnC g_law (.nm 6) [(.cmp .eq (.bi .index [(.v 5), (.ix (.v 5) (.v 6))]) (.v 6))] (.ix (.v 5) (.v 6)) [.scr, .st, s2, s3, s4, .pl (.lst [SD p, SD q, SD r, SD s]), s6, s7, s8, s9, s10, s11, s12, s13, s14, s15, s16, s17, s18, s19, s20, s21, s22, s23, s24, s25] (.int 0) = .ret (some (SD p)) := by
  have hk : biD .index [.lst [SD p, SD q, SD r, SD s], SD p] = some (.int ((0 : Nat) : Int), false) := bi_idx (by omega) (by omega) (idx_hit (by omega) (by omega) rfl)
  exact turn15_0g hk
theorem turn15_1g {s2 s3 s4 s6 s7 s8 s9 s10 s11 s12 s13 s14 s15 s16 s17 s18 s19 s20 s21 s22 s23 s24 s25 : Slot} {p q r s : Sp} {k : Nat} (hk : biD .index [.lst [SD p, SD q, SD r, SD s], SD q] = some (.int (k : Int), false)) : turnC g_law (.nm 6) [(.cmp .eq (.bi .index [(.v 5), (.ix (.v 5) (.v 6))]) (.v 6))] (.ix (.v 5) (.v 6)) [.scr, .st, s2, s3, s4, .pl (.lst [SD p, SD q, SD r, SD s]), s6, s7, s8, s9, s10, s11, s12, s13, s14, s15, s16, s17, s18, s19, s20, s21, s22, s23, s24, s25] (.int 1) = .ret (if (k : Int) = 1 then some (SD q) else none) := by
  unfold turnC
  by_cases h : k = 1
  · subst h
    simp (maxSteps := 10000000) (implicitDefEqProofs := false) (disch := omega) [hk, gl0, gl2, gl7, gl8, gl10, gl1, gl11, gl13, gl14, gl16, gl9, gl17, gl18, gl22, gl23, gl24, gl20, gl21, gl3, gl19, gl15, gl4, gl5, gl6, G0, G1, S0, S1, M0, M1, isn_n, isn_F, isn_i, b_ret, o_some, map_some, obind_some, k_add, k_sub, k_mul, k_ixl, k_ixt, ix_0, ix_1, ix_2, ix_3, ix_4, ix_5, ix_6, ix_7, ix_8, ix_9, ix_10, ix_11, ix_12, st_0, st_1, st_2, st_3, st_4, st_5, st_6, st_7, st_8, st_9, st_10, st_11, st_12, rd_0, rd_b, rd_l, rd_s, own_0, own_p, own_s, own_n, e_c, e_g, e_v, e_bin, neg_i, e_neg, e_cmp, e_chain, e_nt, e_and, e_or, e_tr, e_ite, e_tup, e_lst, e_ix, e_sl, e_rev, e_call, e_bi, e_isi, e_draw, e_comp, turn_cons, turn_nil, es_nil, es_cons, eS_nil, eS_cons, eC_nil, eC_cons, eA_nil, eA_cons, arg_st, bl_ret, x_nil, then_nx, then_rt, then_ct, then_bk, x_cns, x_bx, x_asgn, x_par, eR_nil, eR_cons, par_nil, par_cons, x_ixs, x_ap, x_ifs, x_rt, x_fr, loop_nx, loop_ct, loop_bk, loop_rt, for_nil, for_cons, bindA, List.replicate, List.cons_append, List.nil_append, a_nm, a_tt, a_tl, as_n, as_c, List.set_cons_zero, List.set_cons_succ, List.length_cons, List.length_nil, setS, boxS, cond_true, cond_false, Bool.and_true, Bool.and_false, Bool.true_and, Bool.false_and, if_true, lk_nil, lk_v, lk_c, lk_g, lk_bin, lk_neg, lk_cmp, lk_chain, lk_nt, lk_and2, lk_or2, lk_tr, lk_ite, lk_tup, lk_lst, lk_ix, lk_sl, lk_rev, lk_call, lk_bi, lk_isi, lk_comp, lk_comp2, lk_draw, ul_nil, ul_v, ul_c, ul_g, ul_bin, ul_neg, ul_cmp, ul_chain, ul_nt, ul_and2, ul_or2, ul_tr, ul_ite, ul_tup, ul_lst, ul_ix, ul_sl, ul_rev, ul_call, ul_bi, ul_isi, ul_comp, ul_comp2, ul_draw, isV, tgS, tgSs, wipeE, rt_v, rt_c, rt_g, rt_bin, rt_neg, rt_cmp, rt_chain, rt_nt, rt_and2, rt_or2, rt_tr, rt_ite, rt_tup, rt_lst, rt_ix, rt_sl, rt_rev, rt_call, rt_bi, rt_isi, rt_comp, rt_comp2, rt_draw, b_lenl, b_lent, b_lens, b_abs, b_sum, b_max, b_min, b_max2, b_min2, b_tupl, b_tupt, b_lstl, b_lstt, b_inti, b_intb, b_all, b_any, b_gcd, is_nil, is_cons, bs_nil, bs_cons, s_seql, s_seqt, s_seqs, s_r1, s_r2, s_zip, s_zipt, s_enum, s_enumt, s_rev, s_revt, s_rr, z_cons, z_nil, z_nil2, n_cons, n_nil, sl_l, sl_t, one_0, one_1, cut_from, cut_to, rv_l, tr_n, tr_b, tr_i, tr_l, tr_t, x_rtN, x_brk, x_cnt, x_pas, x_frz, x_drp, List.getElem?_cons_zero, List.getElem?_cons_succ, arg_c, arg_g, arg_bin, arg_neg, arg_cmp, arg_chain, arg_nt, arg_and2, arg_or2, arg_tr, arg_ite, arg_tup, arg_lst, arg_ix, arg_sl, arg_rev, arg_call, arg_bi, arg_isi, arg_comp, arg_draw, bind_drw, blT_drw, then_drw, loop_drw, all_drw, all_ret, c_lt, c_le, c_gt, c_ge, c_eq, c_ne, c_isN, c_notN, cond_dec, cond_not, cond_and, cond_or, dr10, dr01, ex_ite, wt_nx, wt_rt, wt_ct, wt_bk, wt_drw, q_eq, F_inj, k_addl, k_addt, k_ap, rng2, line, rangeL, List.sum_cons, List.sum_nil, tyD, allTy, run]
  · have hi : ¬ (k : Int) = 1 := by omega
    simp (maxSteps := 10000000) (implicitDefEqProofs := false) (disch := omega) [hk, h, hi, gl0, gl2, gl7, gl8, gl10, gl1, gl11, gl13, gl14, gl16, gl9, gl17, gl18, gl22, gl23, gl24, gl20, gl21, gl3, gl19, gl15, gl4, gl5, gl6, G0, G1, S0, S1, M0, M1, isn_n, isn_F, isn_i, b_ret, o_some, map_some, obind_some, k_add, k_sub, k_mul, k_ixl, k_ixt, ix_0, ix_1, ix_2, ix_3, ix_4, ix_5, ix_6, ix_7, ix_8, ix_9, ix_10, ix_11, ix_12, st_0, st_1, st_2, st_3, st_4, st_5, st_6, st_7, st_8, st_9, st_10, st_11, st_12, rd_0, rd_b, rd_l, rd_s, own_0, own_p, own_s, own_n, e_c, e_g, e_v, e_bin, neg_i, e_neg, e_cmp, e_chain, e_nt, e_and, e_or, e_tr, e_ite, e_tup, e_lst, e_ix, e_sl, e_rev, e_call, e_bi, e_isi, e_draw, e_comp, turn_cons, turn_nil, es_nil, es_cons, eS_nil, eS_cons, eC_nil, eC_cons, eA_nil, eA_cons, arg_st, bl_ret, x_nil, then_nx, then_rt, then_ct, then_bk, x_cns, x_bx, x_asgn, x_par, eR_nil, eR_cons, par_nil, par_cons, x_ixs, x_ap, x_ifs, x_rt, x_fr, loop_nx, loop_ct, loop_bk, loop_rt, for_nil, for_cons, bindA, List.replicate, List.cons_append, List.nil_append, a_nm, a_tt, a_tl, as_n, as_c, List.set_cons_zero, List.set_cons_succ, List.length_cons, List.length_nil, setS, boxS, cond_true, cond_false, Bool.and_true, Bool.and_false, Bool.true_and, Bool.false_and, if_true, lk_nil, lk_v, lk_c, lk_g, lk_bin, lk_neg, lk_cmp, lk_chain, lk_nt, lk_and2, lk_or2, lk_tr, lk_ite, lk_tup, lk_lst, lk_ix, lk_sl, lk_rev, lk_call, lk_bi, lk_isi, lk_comp, lk_comp2, lk_draw, ul_nil, ul_v, ul_c, ul_g, ul_bin, ul_neg, ul_cmp, ul_chain, ul_nt, ul_and2, ul_or2, ul_tr, ul_ite, ul_tup, ul_lst, ul_ix, ul_sl, ul_rev, ul_call, ul_bi, ul_isi, ul_comp, ul_comp2, ul_draw, isV, tgS, tgSs, wipeE, rt_v, rt_c, rt_g, rt_bin, rt_neg, rt_cmp, rt_chain, rt_nt, rt_and2, rt_or2, rt_tr, rt_ite, rt_tup, rt_lst, rt_ix, rt_sl, rt_rev, rt_call, rt_bi, rt_isi, rt_comp, rt_comp2, rt_draw, b_lenl, b_lent, b_lens, b_abs, b_sum, b_max, b_min, b_max2, b_min2, b_tupl, b_tupt, b_lstl, b_lstt, b_inti, b_intb, b_all, b_any, b_gcd, is_nil, is_cons, bs_nil, bs_cons, s_seql, s_seqt, s_seqs, s_r1, s_r2, s_zip, s_zipt, s_enum, s_enumt, s_rev, s_revt, s_rr, z_cons, z_nil, z_nil2, n_cons, n_nil, sl_l, sl_t, one_0, one_1, cut_from, cut_to, rv_l, tr_n, tr_b, tr_i, tr_l, tr_t, x_rtN, x_brk, x_cnt, x_pas, x_frz, x_drp, List.getElem?_cons_zero, List.getElem?_cons_succ, arg_c, arg_g, arg_bin, arg_neg, arg_cmp, arg_chain, arg_nt, arg_and2, arg_or2, arg_tr, arg_ite, arg_tup, arg_lst, arg_ix, arg_sl, arg_rev, arg_call, arg_bi, arg_isi, arg_comp, arg_draw, bind_drw, blT_drw, then_drw, loop_drw, all_drw, all_ret, c_lt, c_le, c_gt, c_ge, c_eq, c_ne, c_isN, c_notN, cond_dec, cond_not, cond_and, cond_or, dr10, dr01, ex_ite, wt_nx, wt_rt, wt_ct, wt_bk, wt_drw, q_eq, F_inj, k_addl, k_addt, k_ap, rng2, line, rangeL, List.sum_cons, List.sum_nil, tyD, allTy, run]
theorem turn15_1y {s2 s3 s4 s6 s7 s8 s9 s10 s11 s12 s13 s14 s15 s16 s17 s18 s19 s20 s21 s22 s23 s24 s25 : Slot} {p q r s : Sp} (h0 : ¬ p = q) : turnC g_law (.nm 6) [(.cmp .eq (.bi .index [(.v 5), (.ix (.v 5) (.v 6))]) (.v 6))] (.ix (.v 5) (.v 6)) [.scr, .st, s2, s3, s4, .pl (.lst [SD p, SD q, SD r, SD s]), s6, s7, s8, s9, s10, s11, s12, s13, s14, s15, s16, s17, s18, s19, s20, s21, s22, s23, s24, s25] (.int 1) = .ret (some (SD q)) := by
  have hk : biD .index [.lst [SD p, SD q, SD r, SD s], SD q] = some (.int ((1 : Nat) : Int), false) := bi_idx (by omega) (by omega) (idx_miss (by omega) (by omega) (by rw [SD_inj]; exact h0) (idx_hit (by omega) (by omega) rfl))
  exact turn15_1g hk
theorem turn15_1n {s2 s3 s4 s6 s7 s8 s9 s10 s11 s12 s13 s14 s15 s16 s17 s18 s19 s20 s21 s22 s23 s24 s25 : Slot} {p q r s : Sp} (h : p = q) : turnC g_law (.nm 6) [(.cmp .eq (.bi .index [(.v 5), (.ix (.v 5) (.v 6))]) (.v 6))] (.ix (.v 5) (.v 6)) [.scr, .st, s2, s3, s4, .pl (.lst [SD p, SD q, SD r, SD s]), s6, s7, s8, s9, s10, s11, s12, s13, s14, s15, s16, s17, s18, s19, s20, s21, s22, s23, s24, s25] (.int 1) = .ret none := by
  by_cases h0 : p = q
  · have hk : biD .index [.lst [SD p, SD q, SD r, SD s], SD q] = some (.int ((0 : Nat) : Int), false) := bi_idx (by omega) (by omega) (idx_hit (by omega) (by omega) (by rw [h0]))
    exact turn15_1g hk
  exact absurd h (by simp [h0])
theorem turn15_2g {s2 s3 s4 s6 s7 s8 s9 s10 s11 s12 s13 s14 s15 s16 s17 s18 s19 s20 s21 s22 s23 s24 s25 : Slot} {p q r s : Sp} {k : Nat} (hk : biD .index [.lst [SD p, SD q, SD r, SD s], SD r] = some (.int (k : Int), false)) : turnC g_law (.nm 6) [(.cmp .eq (.bi .index [(.v 5), (.ix (.v 5) (.v 6))]) (.v 6))] (.ix (.v 5) (.v 6)) [.scr, .st, s2, s3, s4, .pl (.lst [SD p, SD q, SD r, SD s]), s6, s7, s8, s9, s10, s11, s12, s13, s14, s15, s16, s17, s18, s19, s20, s21, s22, s23, s24, s25] (.int 2) = .ret (if (k : Int) = 2 then some (SD r) else none) := by
  unfold turnC
  by_cases h : k = 2
  · subst h
    simp (maxSteps := 10000000) (implicitDefEqProofs := false) (disch := omega) [hk, gl0, gl2, gl7, gl8, gl10, gl1, gl11, gl13, gl14, gl16, gl9, gl17, gl18, gl22, gl23, gl24, gl20, gl21, gl3, gl19, gl15, gl4, gl5, gl6, G0, G1, S0, S1, M0, M1, isn_n, isn_F, isn_i, b_ret, o_some, map_some, obind_some, k_add, k_sub, k_mul, k_ixl, k_ixt, ix_0, ix_1, ix_2, ix_3, ix_4, ix_5, ix_6, ix_7, ix_8, ix_9, ix_10, ix_11, ix_12, st_0, st_1, st_2, st_3, st_4, st_5, st_6, st_7, st_8, st_9, st_10, st_11, st_12, rd_0, rd_b, rd_l, rd_s, own_0, own_p, own_s, own_n, e_c, e_g, e_v, e_bin, neg_i, e_neg, e_cmp, e_chain, e_nt, e_and, e_or, e_tr, e_ite, e_tup, e_lst, e_ix, e_sl, e_rev, e_call, e_bi, e_isi, e_draw, e_comp, turn_cons, turn_nil, es_nil, es_cons, eS_nil, eS_cons, eC_nil, eC_cons, eA_nil, eA_cons, arg_st, bl_ret, x_nil, then_nx, then_rt, then_ct, then_bk, x_cns, x_bx, x_asgn, x_par, eR_nil, eR_cons, par_nil, par_cons, x_ixs, x_ap, x_ifs, x_rt, x_fr, loop_nx, loop_ct, loop_bk, loop_rt, for_nil, for_cons, bindA, List.replicate, List.cons_append, List.nil_append, a_nm, a_tt, a_tl, as_n, as_c, List.set_cons_zero, List.set_cons_succ, List.length_cons, List.length_nil, setS, boxS, cond_true, cond_false, Bool.and_true, Bool.and_false, Bool.true_and, Bool.false_and, if_true, lk_nil, lk_v, lk_c, lk_g, lk_bin, lk_neg, lk_cmp, lk_chain, lk_nt, lk_and2, lk_or2, lk_tr, lk_ite, lk_tup, lk_lst, lk_ix, lk_sl, lk_rev, lk_call, lk_bi, lk_isi, lk_comp, lk_comp2, lk_draw, ul_nil, ul_v, ul_c, ul_g, ul_bin, ul_neg, ul_cmp, ul_chain, ul_nt, ul_and2, ul_or2, ul_tr, ul_ite, ul_tup, ul_lst, ul_ix, ul_sl, ul_rev, ul_call, ul_bi, ul_isi, ul_comp, ul_comp2, ul_draw, isV, tgS, tgSs, wipeE, rt_v, rt_c, rt_g, rt_bin, rt_neg, rt_cmp, rt_chain, rt_nt, rt_and2, rt_or2, rt_tr, rt_ite, rt_tup, rt_lst, rt_ix, rt_sl, rt_rev, rt_call, rt_bi, rt_isi, rt_comp, rt_comp2, rt_draw, b_lenl, b_lent, b_lens, b_abs, b_sum, b_max, b_min, b_max2, b_min2, b_tupl, b_tupt, b_lstl, b_lstt, b_inti, b_intb, b_all, b_any, b_gcd, is_nil, is_cons, bs_nil, bs_cons, s_seql, s_seqt, s_seqs, s_r1, s_r2, s_zip, s_zipt, s_enum, s_enumt, s_rev, s_revt, s_rr, z_cons, z_nil, z_nil2, n_cons, n_nil, sl_l, sl_t, one_0, one_1, cut_from, cut_to, rv_l, tr_n, tr_b, tr_i, tr_l, tr_t, x_rtN, x_brk, x_cnt, x_pas, x_frz, x_drp, List.getElem?_cons_zero, List.getElem?_cons_succ, arg_c, arg_g, arg_bin, arg_neg, arg_cmp, arg_chain, arg_nt, arg_and2, arg_or2, arg_tr, arg_ite, arg_tup, arg_lst, arg_ix, arg_sl, arg_rev, arg_call, arg_bi, arg_isi, arg_comp, arg_draw, bind_drw, blT_drw, then_drw, loop_drw, all_drw, all_ret, c_lt, c_le, c_gt, c_ge, c_eq, c_ne, c_isN, c_notN, cond_dec, cond_not, cond_and, cond_or, dr10, dr01, ex_ite, wt_nx, wt_rt, wt_ct, wt_bk, wt_drw, q_eq, F_inj, k_addl, k_addt, k_ap, rng2, line, rangeL, List.sum_cons, List.sum_nil, tyD, allTy, run]
  · have hi : ¬ (k : Int) = 2 := by omega
    simp (maxSteps := 10000000) (implicitDefEqProofs := false) (disch := omega) [hk, h, hi, gl0, gl2, gl7, gl8, gl10, gl1, gl11, gl13, gl14, gl16, gl9, gl17, gl18, gl22, gl23, gl24, gl20, gl21, gl3, gl19, gl15, gl4, gl5, gl6, G0, G1, S0, S1, M0, M1, isn_n, isn_F, isn_i, b_ret, o_some, map_some, obind_some, k_add, k_sub, k_mul, k_ixl, k_ixt, ix_0, ix_1, ix_2, ix_3, ix_4, ix_5, ix_6, ix_7, ix_8, ix_9, ix_10, ix_11, ix_12, st_0, st_1, st_2, st_3, st_4, st_5, st_6, st_7, st_8, st_9, st_10, st_11, st_12, rd_0, rd_b, rd_l, rd_s, own_0, own_p, own_s, own_n, e_c, e_g, e_v, e_bin, neg_i, e_neg, e_cmp, e_chain, e_nt, e_and, e_or, e_tr, e_ite, e_tup, e_lst, e_ix, e_sl, e_rev, e_call, e_bi, e_isi, e_draw, e_comp, turn_cons, turn_nil, es_nil, es_cons, eS_nil, eS_cons, eC_nil, eC_cons, eA_nil, eA_cons, arg_st, bl_ret, x_nil, then_nx, then_rt, then_ct, then_bk, x_cns, x_bx, x_asgn, x_par, eR_nil, eR_cons, par_nil, par_cons, x_ixs, x_ap, x_ifs, x_rt, x_fr, loop_nx, loop_ct, loop_bk, loop_rt, for_nil, for_cons, bindA, List.replicate, List.cons_append, List.nil_append, a_nm, a_tt, a_tl, as_n, as_c, List.set_cons_zero, List.set_cons_succ, List.length_cons, List.length_nil, setS, boxS, cond_true, cond_false, Bool.and_true, Bool.and_false, Bool.true_and, Bool.false_and, if_true, lk_nil, lk_v, lk_c, lk_g, lk_bin, lk_neg, lk_cmp, lk_chain, lk_nt, lk_and2, lk_or2, lk_tr, lk_ite, lk_tup, lk_lst, lk_ix, lk_sl, lk_rev, lk_call, lk_bi, lk_isi, lk_comp, lk_comp2, lk_draw, ul_nil, ul_v, ul_c, ul_g, ul_bin, ul_neg, ul_cmp, ul_chain, ul_nt, ul_and2, ul_or2, ul_tr, ul_ite, ul_tup, ul_lst, ul_ix, ul_sl, ul_rev, ul_call, ul_bi, ul_isi, ul_comp, ul_comp2, ul_draw, isV, tgS, tgSs, wipeE, rt_v, rt_c, rt_g, rt_bin, rt_neg, rt_cmp, rt_chain, rt_nt, rt_and2, rt_or2, rt_tr, rt_ite, rt_tup, rt_lst, rt_ix, rt_sl, rt_rev, rt_call, rt_bi, rt_isi, rt_comp, rt_comp2, rt_draw, b_lenl, b_lent, b_lens, b_abs, b_sum, b_max, b_min, b_max2, b_min2, b_tupl, b_tupt, b_lstl, b_lstt, b_inti, b_intb, b_all, b_any, b_gcd, is_nil, is_cons, bs_nil, bs_cons, s_seql, s_seqt, s_seqs, s_r1, s_r2, s_zip, s_zipt, s_enum, s_enumt, s_rev, s_revt, s_rr, z_cons, z_nil, z_nil2, n_cons, n_nil, sl_l, sl_t, one_0, one_1, cut_from, cut_to, rv_l, tr_n, tr_b, tr_i, tr_l, tr_t, x_rtN, x_brk, x_cnt, x_pas, x_frz, x_drp, List.getElem?_cons_zero, List.getElem?_cons_succ, arg_c, arg_g, arg_bin, arg_neg, arg_cmp, arg_chain, arg_nt, arg_and2, arg_or2, arg_tr, arg_ite, arg_tup, arg_lst, arg_ix, arg_sl, arg_rev, arg_call, arg_bi, arg_isi, arg_comp, arg_draw, bind_drw, blT_drw, then_drw, loop_drw, all_drw, all_ret, c_lt, c_le, c_gt, c_ge, c_eq, c_ne, c_isN, c_notN, cond_dec, cond_not, cond_and, cond_or, dr10, dr01, ex_ite, wt_nx, wt_rt, wt_ct, wt_bk, wt_drw, q_eq, F_inj, k_addl, k_addt, k_ap, rng2, line, rangeL, List.sum_cons, List.sum_nil, tyD, allTy, run]
theorem turn15_2y {s2 s3 s4 s6 s7 s8 s9 s10 s11 s12 s13 s14 s15 s16 s17 s18 s19 s20 s21 s22 s23 s24 s25 : Slot} {p q r s : Sp} (h0 : ¬ p = r) (h1 : ¬ q = r) : turnC g_law (.nm 6) [(.cmp .eq (.bi .index [(.v 5), (.ix (.v 5) (.v 6))]) (.v 6))] (.ix (.v 5) (.v 6)) [.scr, .st, s2, s3, s4, .pl (.lst [SD p, SD q, SD r, SD s]), s6, s7, s8, s9, s10, s11, s12, s13, s14, s15, s16, s17, s18, s19, s20, s21, s22, s23, s24, s25] (.int 2) = .ret (some (SD r)) := by
  have hk : biD .index [.lst [SD p, SD q, SD r, SD s], SD r] = some (.int ((2 : Nat) : Int), false) := bi_idx (by omega) (by omega) (idx_miss (by omega) (by omega) (by rw [SD_inj]; exact h0) (idx_miss (by omega) (by omega) (by rw [SD_inj]; exact h1) (idx_hit (by omega) (by omega) rfl)))
  exact turn15_2g hk
theorem turn15_2n {s2 s3 s4 s6 s7 s8 s9 s10 s11 s12 s13 s14 s15 s16 s17 s18 s19 s20 s21 s22 s23 s24 s25 : Slot} {p q r s : Sp} (h : p = r ∨ q = r) : turnC g_law (.nm 6) [(.cmp .eq (.bi .index [(.v 5), (.ix (.v 5) (.v 6))]) (.v 6))] (.ix (.v 5) (.v 6)) [.scr, .st, s2, s3, s4, .pl (.lst [SD p, SD q, SD r, SD s]), s6, s7, s8, s9, s10, s11, s12, s13, s14, s15, s16, s17, s18, s19, s20, s21, s22, s23, s24, s25] (.int 2) = .ret none := by
  by_cases h0 : p = r
  · have hk : biD .index [.lst [SD p, SD q, SD r, SD s], SD r] = some (.int ((0 : Nat) : Int), false) := bi_idx (by omega) (by omega) (idx_hit (by omega) (by omega) (by rw [h0]))
    exact turn15_2g hk
  by_cases h1 : q = r
  · have hk : biD .index [.lst [SD p, SD q, SD r, SD s], SD r] = some (.int ((1 : Nat) : Int), false) := bi_idx (by omega) (by omega) (idx_miss (by omega) (by omega) (by rw [SD_inj]; exact h0) (idx_hit (by omega) (by omega) (by rw [h1])))
    exact turn15_2g hk
  exact absurd h (by simp [h0, h1])
theorem turn15_3g {s2 s3 s4 s6 s7 s8 s9 s10 s11 s12 s13 s14 s15 s16 s17 s18 s19 s20 s21 s22 s23 s24 s25 : Slot} {p q r s : Sp} {k : Nat} (hk : biD .index [.lst [SD p, SD q, SD r, SD s], SD s] = some (.int (k : Int), false)) : turnC g_law (.nm 6) [(.cmp .eq (.bi .index [(.v 5), (.ix (.v 5) (.v 6))]) (.v 6))] (.ix (.v 5) (.v 6)) [.scr, .st, s2, s3, s4, .pl (.lst [SD p, SD q, SD r, SD s]), s6, s7, s8, s9, s10, s11, s12, s13, s14, s15, s16, s17, s18, s19, s20, s21, s22, s23, s24, s25] (.int 3) = .ret (if (k : Int) = 3 then some (SD s) else none) := by
  unfold turnC
  by_cases h : k = 3
  · subst h
    simp (maxSteps := 10000000) (implicitDefEqProofs := false) (disch := omega) [hk, gl0, gl2, gl7, gl8, gl10, gl1, gl11, gl13, gl14, gl16, gl9, gl17, gl18, gl22, gl23, gl24, gl20, gl21, gl3, gl19, gl15, gl4, gl5, gl6, G0, G1, S0, S1, M0, M1, isn_n, isn_F, isn_i, b_ret, o_some, map_some, obind_some, k_add, k_sub, k_mul, k_ixl, k_ixt, ix_0, ix_1, ix_2, ix_3, ix_4, ix_5, ix_6, ix_7, ix_8, ix_9, ix_10, ix_11, ix_12, st_0, st_1, st_2, st_3, st_4, st_5, st_6, st_7, st_8, st_9, st_10, st_11, st_12, rd_0, rd_b, rd_l, rd_s, own_0, own_p, own_s, own_n, e_c, e_g, e_v, e_bin, neg_i, e_neg, e_cmp, e_chain, e_nt, e_and, e_or, e_tr, e_ite, e_tup, e_lst, e_ix, e_sl, e_rev, e_call, e_bi, e_isi, e_draw, e_comp, turn_cons, turn_nil, es_nil, es_cons, eS_nil, eS_cons, eC_nil, eC_cons, eA_nil, eA_cons, arg_st, bl_ret, x_nil, then_nx, then_rt, then_ct, then_bk, x_cns, x_bx, x_asgn, x_par, eR_nil, eR_cons, par_nil, par_cons, x_ixs, x_ap, x_ifs, x_rt, x_fr, loop_nx, loop_ct, loop_bk, loop_rt, for_nil, for_cons, bindA, List.replicate, List.cons_append, List.nil_append, a_nm, a_tt, a_tl, as_n, as_c, List.set_cons_zero, List.set_cons_succ, List.length_cons, List.length_nil, setS, boxS, cond_true, cond_false, Bool.and_true, Bool.and_false, Bool.true_and, Bool.false_and, if_true, lk_nil, lk_v, lk_c, lk_g, lk_bin, lk_neg, lk_cmp, lk_chain, lk_nt, lk_and2, lk_or2, lk_tr, lk_ite, lk_tup, lk_lst, lk_ix, lk_sl, lk_rev, lk_call, lk_bi, lk_isi, lk_comp, lk_comp2, lk_draw, ul_nil, ul_v, ul_c, ul_g, ul_bin, ul_neg, ul_cmp, ul_chain, ul_nt, ul_and2, ul_or2, ul_tr, ul_ite, ul_tup, ul_lst, ul_ix, ul_sl, ul_rev, ul_call, ul_bi, ul_isi, ul_comp, ul_comp2, ul_draw, isV, tgS, tgSs, wipeE, rt_v, rt_c, rt_g, rt_bin, rt_neg, rt_cmp, rt_chain, rt_nt, rt_and2, rt_or2, rt_tr, rt_ite, rt_tup, rt_lst, rt_ix, rt_sl, rt_rev, rt_call, rt_bi, rt_isi, rt_comp, rt_comp2, rt_draw, b_lenl, b_lent, b_lens, b_abs, b_sum, b_max, b_min, b_max2, b_min2, b_tupl, b_tupt, b_lstl, b_lstt, b_inti, b_intb, b_all, b_any, b_gcd, is_nil, is_cons, bs_nil, bs_cons, s_seql, s_seqt, s_seqs, s_r1, s_r2, s_zip, s_zipt, s_enum, s_enumt, s_rev, s_revt, s_rr, z_cons, z_nil, z_nil2, n_cons, n_nil, sl_l, sl_t, one_0, one_1, cut_from, cut_to, rv_l, tr_n, tr_b, tr_i, tr_l, tr_t, x_rtN, x_brk, x_cnt, x_pas, x_frz, x_drp, List.getElem?_cons_zero, List.getElem?_cons_succ, arg_c, arg_g, arg_bin, arg_neg, arg_cmp, arg_chain, arg_nt, arg_and2, arg_or2, arg_tr, arg_ite, arg_tup, arg_lst, arg_ix, arg_sl, arg_rev, arg_call, arg_bi, arg_isi, arg_comp, arg_draw, bind_drw, blT_drw, then_drw, loop_drw, all_drw, all_ret, c_lt, c_le, c_gt, c_ge, c_eq, c_ne, c_isN, c_notN, cond_dec, cond_not, cond_and, cond_or, dr10, dr01, ex_ite, wt_nx, wt_rt, wt_ct, wt_bk, wt_drw, q_eq, F_inj, k_addl, k_addt, k_ap, rng2, line, rangeL, List.sum_cons, List.sum_nil, tyD, allTy, run]
  · have hi : ¬ (k : Int) = 3 := by omega
    simp (maxSteps := 10000000) (implicitDefEqProofs := false) (disch := omega) [hk, h, hi, gl0, gl2, gl7, gl8, gl10, gl1, gl11, gl13, gl14, gl16, gl9, gl17, gl18, gl22, gl23, gl24, gl20, gl21, gl3, gl19, gl15, gl4, gl5, gl6, G0, G1, S0, S1, M0, M1, isn_n, isn_F, isn_i, b_ret, o_some, map_some, obind_some, k_add, k_sub, k_mul, k_ixl, k_ixt, ix_0, ix_1, ix_2, ix_3, ix_4, ix_5, ix_6, ix_7, ix_8, ix_9, ix_10, ix_11, ix_12, st_0, st_1, st_2, st_3, st_4, st_5, st_6, st_7, st_8, st_9, st_10, st_11, st_12, rd_0, rd_b, rd_l, rd_s, own_0, own_p, own_s, own_n, e_c, e_g, e_v, e_bin, neg_i, e_neg, e_cmp, e_chain, e_nt, e_and, e_or, e_tr, e_ite, e_tup, e_lst, e_ix, e_sl, e_rev, e_call, e_bi, e_isi, e_draw, e_comp, turn_cons, turn_nil, es_nil, es_cons, eS_nil, eS_cons, eC_nil, eC_cons, eA_nil, eA_cons, arg_st, bl_ret, x_nil, then_nx, then_rt, then_ct, then_bk, x_cns, x_bx, x_asgn, x_par, eR_nil, eR_cons, par_nil, par_cons, x_ixs, x_ap, x_ifs, x_rt, x_fr, loop_nx, loop_ct, loop_bk, loop_rt, for_nil, for_cons, bindA, List.replicate, List.cons_append, List.nil_append, a_nm, a_tt, a_tl, as_n, as_c, List.set_cons_zero, List.set_cons_succ, List.length_cons, List.length_nil, setS, boxS, cond_true, cond_false, Bool.and_true, Bool.and_false, Bool.true_and, Bool.false_and, if_true, lk_nil, lk_v, lk_c, lk_g, lk_bin, lk_neg, lk_cmp, lk_chain, lk_nt, lk_and2, lk_or2, lk_tr, lk_ite, lk_tup, lk_lst, lk_ix, lk_sl, lk_rev, lk_call, lk_bi, lk_isi, lk_comp, lk_comp2, lk_draw, ul_nil, ul_v, ul_c, ul_g, ul_bin, ul_neg, ul_cmp, ul_chain, ul_nt, ul_and2, ul_or2, ul_tr, ul_ite, ul_tup, ul_lst, ul_ix, ul_sl, ul_rev, ul_call, ul_bi, ul_isi, ul_comp, ul_comp2, ul_draw, isV, tgS, tgSs, wipeE, rt_v, rt_c, rt_g, rt_bin, rt_neg, rt_cmp, rt_chain, rt_nt, rt_and2, rt_or2, rt_tr, rt_ite, rt_tup, rt_lst, rt_ix, rt_sl, rt_rev, rt_call, rt_bi, rt_isi, rt_comp, rt_comp2, rt_draw, b_lenl, b_lent, b_lens, b_abs, b_sum, b_max, b_min, b_max2, b_min2, b_tupl, b_tupt, b_lstl, b_lstt, b_inti, b_intb, b_all, b_any, b_gcd, is_nil, is_cons, bs_nil, bs_cons, s_seql, s_seqt, s_seqs, s_r1, s_r2, s_zip, s_zipt, s_enum, s_enumt, s_rev, s_revt, s_rr, z_cons, z_nil, z_nil2, n_cons, n_nil, sl_l, sl_t, one_0, one_1, cut_from, cut_to, rv_l, tr_n, tr_b, tr_i, tr_l, tr_t, x_rtN, x_brk, x_cnt, x_pas, x_frz, x_drp, List.getElem?_cons_zero, List.getElem?_cons_succ, arg_c, arg_g, arg_bin, arg_neg, arg_cmp, arg_chain, arg_nt, arg_and2, arg_or2, arg_tr, arg_ite, arg_tup, arg_lst, arg_ix, arg_sl, arg_rev, arg_call, arg_bi, arg_isi, arg_comp, arg_draw, bind_drw, blT_drw, then_drw, loop_drw, all_drw, all_ret, c_lt, c_le, c_gt, c_ge, c_eq, c_ne, c_isN, c_notN, cond_dec, cond_not, cond_and, cond_or, dr10, dr01, ex_ite, wt_nx, wt_rt, wt_ct, wt_bk, wt_drw, q_eq, F_inj, k_addl, k_addt, k_ap, rng2, line, rangeL, List.sum_cons, List.sum_nil, tyD, allTy, run]
theorem turn15_3y {s2 s3 s4 s6 s7 s8 s9 s10 s11 s12 s13 s14 s15 s16 s17 s18 s19 s20 s21 s22 s23 s24 s25 : Slot} {p q r s : Sp} (h0 : ¬ p = s) (h1 : ¬ q = s) (h2 : ¬ r = s) : turnC g_law (.nm 6) [(.cmp .eq (.bi .index [(.v 5), (.ix (.v 5) (.v 6))]) (.v 6))] (.ix (.v 5) (.v 6)) [.scr, .st, s2, s3, s4, .pl (.lst [SD p, SD q, SD r, SD s]), s6, s7, s8, s9, s10, s11, s12, s13, s14, s15, s16, s17, s18, s19, s20, s21, s22, s23, s24, s25] (.int 3) = .ret (some (SD s)) := by
  have hk : biD .index [.lst [SD p, SD q, SD r, SD s], SD s] = some (.int ((3 : Nat) : Int), false) := bi_idx (by omega) (by omega) (idx_miss (by omega) (by omega) (by rw [SD_inj]; exact h0) (idx_miss (by omega) (by omega) (by rw [SD_inj]; exact h1) (idx_miss (by omega) (by omega) (by rw [SD_inj]; exact h2) (idx_hit (by omega) (by omega) rfl))))
  exact turn15_3g hk
theorem turn15_3n {s2 s3 s4 s6 s7 s8 s9 s10 s11 s12 s13 s14 s15 s16 s17 s18 s19 s20 s21 s22 s23 s24 s25 : Slot} {p q r s : Sp} (h : p = s ∨ q = s ∨ r = s) : turnC g_law (.nm 6) [(.cmp .eq (.bi .index [(.v 5), (.ix (.v 5) (.v 6))]) (.v 6))] (.ix (.v 5) (.v 6)) [.scr, .st, s2, s3, s4, .pl (.lst [SD p, SD q, SD r, SD s]), s6, s7, s8, s9, s10, s11, s12, s13, s14, s15, s16, s17, s18, s19, s20, s21, s22, s23, s24, s25] (.int 3) = .ret none := by
  by_cases h0 : p = s
  · have hk : biD .index [.lst [SD p, SD q, SD r, SD s], SD s] = some (.int ((0 : Nat) : Int), false) := bi_idx (by omega) (by omega) (idx_hit (by omega) (by omega) (by rw [h0]))
    exact turn15_3g hk
  by_cases h1 : q = s
  · have hk : biD .index [.lst [SD p, SD q, SD r, SD s], SD s] = some (.int ((1 : Nat) : Int), false) := bi_idx (by omega) (by omega) (idx_miss (by omega) (by omega) (by rw [SD_inj]; exact h0) (idx_hit (by omega) (by omega) (by rw [h1])))
    exact turn15_3g hk
  by_cases h2 : r = s
  · have hk : biD .index [.lst [SD p, SD q, SD r, SD s], SD s] = some (.int ((2 : Nat) : Int), false) := bi_idx (by omega) (by omega) (idx_miss (by omega) (by omega) (by rw [SD_inj]; exact h0) (idx_miss (by omega) (by omega) (by rw [SD_inj]; exact h1) (idx_hit (by omega) (by omega) (by rw [h2]))))
    exact turn15_3g hk
  exact absurd h (by simp [h0, h1, h2])
theorem t15 {s2 s4 s6 s7 s8 s9 s10 s11 s12 s13 s14 s15 s16 s17 s18 s19 s20 s21 s22 s23 s24 s25 : Slot} {m : M2} (hm : m.det ≠ .zero) (im : SmT 4 m) {p q r s : Sp} (gp : Gs p) (ip : SmS 20 p) (gq : Gs q) (iq : SmS 20 q) (gr : Gs r) (ir : SmS 20 r) (gs : Gs s) (is : SmS 20 s) :
    Wp g_law [b15, b16, b17] [.scr, .st, s2, .pl (MD m), s4, .pl (.lst [SD p, SD q, SD r, SD s]), s6, s7, s8, s9, s10, s11, s12, s13, s14, s15, s16, s17, s18, s19, s20, s21, s22, s23, s24, s25] OK := by
  rcases Classical.em (p = q) with c1 | npq
  · rcases Classical.em (p = r ∨ q = r) with c2 | z2
    · rcases Classical.em (p = s ∨ q = s ∨ r = s) with c3 | z3
      · have z0 : True := trivial
        have y1 := turn15_1n (s2 := s2) (s3 := .pl (MD m)) (s4 := s4) (s6 := s6) (s7 := s7) (s8 := s8) (s9 := s9) (s10 := s10) (s11 := s11) (s12 := s12) (s13 := s13) (s14 := s14) (s15 := s15) (s16 := s16) (s17 := s17) (s18 := s18) (s19 := s19) (s20 := s20) (s21 := s21) (s22 := s22) (s23 := s23) (s24 := s24) (s25 := s25) (p := p) (q := q) (r := r) (s := s) c1
        have y2 := turn15_2n (s2 := s2) (s3 := .pl (MD m)) (s4 := s4) (s6 := s6) (s7 := s7) (s8 := s8) (s9 := s9) (s10 := s10) (s11 := s11) (s12 := s12) (s13 := s13) (s14 := s14) (s15 := s15) (s16 := s16) (s17 := s17) (s18 := s18) (s19 := s19) (s20 := s20) (s21 := s21) (s22 := s22) (s23 := s23) (s24 := s24) (s25 := s25) (p := p) (q := q) (r := r) (s := s) c2
        have y3 := turn15_3n (s2 := s2) (s3 := .pl (MD m)) (s4 := s4) (s6 := s6) (s7 := s7) (s8 := s8) (s9 := s9) (s10 := s10) (s11 := s11) (s12 := s12) (s13 := s13) (s14 := s14) (s15 := s15) (s16 := s16) (s17 := s17) (s18 := s18) (s19 := s19) (s20 := s20) (s21 := s21) (s22 := s22) (s23 := s23) (s24 := s24) (s25 := s25) (p := p) (q := q) (r := r) (s := s) c3
        rw [wp_cons]
        simp (maxSteps := 10000000) (implicitDefEqProofs := false) (disch := omega) [b15, compL, turn15_0y, y1, y2, y3, gl0, gl2, gl7, gl8, gl10, gl1, gl11, gl13, gl14, gl16, gl9, gl17, gl18, gl22, gl23, gl24, gl20, gl21, gl3, gl19, gl15, gl4, gl5, gl6, G0, G1, S0, S1, M0, M1, isn_n, isn_F, isn_i, b_ret, o_some, map_some, obind_some, k_add, k_sub, k_mul, k_ixl, k_ixt, ix_0, ix_1, ix_2, ix_3, ix_4, ix_5, ix_6, ix_7, ix_8, ix_9, ix_10, ix_11, ix_12, st_0, st_1, st_2, st_3, st_4, st_5, st_6, st_7, st_8, st_9, st_10, st_11, st_12, rd_0, rd_b, rd_l, rd_s, own_0, own_p, own_s, own_n, e_c, e_g, e_v, e_bin, neg_i, e_neg, e_cmp, e_chain, e_nt, e_and, e_or, e_tr, e_ite, e_tup, e_lst, e_ix, e_sl, e_rev, e_call, e_bi, e_isi, e_draw, e_comp, es_nil, es_cons, eS_nil, eS_cons, eC_nil, eC_cons, eA_nil, eA_cons, arg_st, bl_ret, x_nil, then_nx, then_rt, then_ct, then_bk, x_cns, x_bx, x_asgn, x_par, eR_nil, eR_cons, par_nil, par_cons, x_ixs, x_ap, x_ifs, x_rt, x_fr, loop_nx, loop_ct, loop_bk, loop_rt, for_nil, for_cons, bindA, List.replicate, List.cons_append, List.nil_append, a_nm, a_tt, a_tl, as_n, as_c, List.set_cons_zero, List.set_cons_succ, List.length_cons, List.length_nil, setS, boxS, cond_true, cond_false, Bool.and_true, Bool.and_false, Bool.true_and, Bool.false_and, if_true, lk_nil, lk_v, lk_c, lk_g, lk_bin, lk_neg, lk_cmp, lk_chain, lk_nt, lk_and2, lk_or2, lk_tr, lk_ite, lk_tup, lk_lst, lk_ix, lk_sl, lk_rev, lk_call, lk_bi, lk_isi, lk_comp, lk_comp2, lk_draw, ul_nil, ul_v, ul_c, ul_g, ul_bin, ul_neg, ul_cmp, ul_chain, ul_nt, ul_and2, ul_or2, ul_tr, ul_ite, ul_tup, ul_lst, ul_ix, ul_sl, ul_rev, ul_call, ul_bi, ul_isi, ul_comp, ul_comp2, ul_draw, isV, tgS, tgSs, wipeE, rt_v, rt_c, rt_g, rt_bin, rt_neg, rt_cmp, rt_chain, rt_nt, rt_and2, rt_or2, rt_tr, rt_ite, rt_tup, rt_lst, rt_ix, rt_sl, rt_rev, rt_call, rt_bi, rt_isi, rt_comp, rt_comp2, rt_draw, b_lenl, b_lent, b_lens, b_abs, b_sum, b_max, b_min, b_max2, b_min2, b_tupl, b_tupt, b_lstl, b_lstt, b_inti, b_intb, b_all, b_any, b_gcd, is_nil, is_cons, bs_nil, bs_cons, s_seql, s_seqt, s_seqs, s_r1, s_r2, s_zip, s_zipt, s_enum, s_enumt, s_rev, s_revt, s_rr, z_cons, z_nil, z_nil2, n_cons, n_nil, sl_l, sl_t, one_0, one_1, cut_from, cut_to, rv_l, tr_n, tr_b, tr_i, tr_l, tr_t, x_rtN, x_brk, x_cnt, x_pas, x_frz, x_drp, List.getElem?_cons_zero, List.getElem?_cons_succ, arg_c, arg_g, arg_bin, arg_neg, arg_cmp, arg_chain, arg_nt, arg_and2, arg_or2, arg_tr, arg_ite, arg_tup, arg_lst, arg_ix, arg_sl, arg_rev, arg_call, arg_bi, arg_isi, arg_comp, arg_draw, bind_drw, blT_drw, then_drw, loop_drw, all_drw, all_ret, c_lt, c_le, c_gt, c_ge, c_eq, c_ne, c_isN, c_notN, cond_dec, cond_not, cond_and, cond_or, dr10, dr01, ex_ite, wt_nx, wt_rt, wt_ct, wt_bk, wt_drw, q_eq, F_inj, k_addl, k_addt, k_ap, rng2, line, rangeL, List.sum_cons, List.sum_nil, tyD, allTy, run]
        exact t16_1 hm im gp ip 
      · have nps : ¬ p = s := fun e => z3 (.inl e)
        have nqs : ¬ q = s := fun e => z3 (.inr (.inl e))
        have nrs : ¬ r = s := fun e => z3 (.inr (.inr e))
        have y1 := turn15_1n (s2 := s2) (s3 := .pl (MD m)) (s4 := s4) (s6 := s6) (s7 := s7) (s8 := s8) (s9 := s9) (s10 := s10) (s11 := s11) (s12 := s12) (s13 := s13) (s14 := s14) (s15 := s15) (s16 := s16) (s17 := s17) (s18 := s18) (s19 := s19) (s20 := s20) (s21 := s21) (s22 := s22) (s23 := s23) (s24 := s24) (s25 := s25) (p := p) (q := q) (r := r) (s := s) c1
        have y2 := turn15_2n (s2 := s2) (s3 := .pl (MD m)) (s4 := s4) (s6 := s6) (s7 := s7) (s8 := s8) (s9 := s9) (s10 := s10) (s11 := s11) (s12 := s12) (s13 := s13) (s14 := s14) (s15 := s15) (s16 := s16) (s17 := s17) (s18 := s18) (s19 := s19) (s20 := s20) (s21 := s21) (s22 := s22) (s23 := s23) (s24 := s24) (s25 := s25) (p := p) (q := q) (r := r) (s := s) c2
        have y3 := turn15_3y (s2 := s2) (s3 := .pl (MD m)) (s4 := s4) (s6 := s6) (s7 := s7) (s8 := s8) (s9 := s9) (s10 := s10) (s11 := s11) (s12 := s12) (s13 := s13) (s14 := s14) (s15 := s15) (s16 := s16) (s17 := s17) (s18 := s18) (s19 := s19) (s20 := s20) (s21 := s21) (s22 := s22) (s23 := s23) (s24 := s24) (s25 := s25) (p := p) (q := q) (r := r) (s := s) nps nqs nrs
        rw [wp_cons]
        simp (maxSteps := 10000000) (implicitDefEqProofs := false) (disch := omega) [b15, compL, turn15_0y, y1, y2, y3, gl0, gl2, gl7, gl8, gl10, gl1, gl11, gl13, gl14, gl16, gl9, gl17, gl18, gl22, gl23, gl24, gl20, gl21, gl3, gl19, gl15, gl4, gl5, gl6, G0, G1, S0, S1, M0, M1, isn_n, isn_F, isn_i, b_ret, o_some, map_some, obind_some, k_add, k_sub, k_mul, k_ixl, k_ixt, ix_0, ix_1, ix_2, ix_3, ix_4, ix_5, ix_6, ix_7, ix_8, ix_9, ix_10, ix_11, ix_12, st_0, st_1, st_2, st_3, st_4, st_5, st_6, st_7, st_8, st_9, st_10, st_11, st_12, rd_0, rd_b, rd_l, rd_s, own_0, own_p, own_s, own_n, e_c, e_g, e_v, e_bin, neg_i, e_neg, e_cmp, e_chain, e_nt, e_and, e_or, e_tr, e_ite, e_tup, e_lst, e_ix, e_sl, e_rev, e_call, e_bi, e_isi, e_draw, e_comp, es_nil, es_cons, eS_nil, eS_cons, eC_nil, eC_cons, eA_nil, eA_cons, arg_st, bl_ret, x_nil, then_nx, then_rt, then_ct, then_bk, x_cns, x_bx, x_asgn, x_par, eR_nil, eR_cons, par_nil, par_cons, x_ixs, x_ap, x_ifs, x_rt, x_fr, loop_nx, loop_ct, loop_bk, loop_rt, for_nil, for_cons, bindA, List.replicate, List.cons_append, List.nil_append, a_nm, a_tt, a_tl, as_n, as_c, List.set_cons_zero, List.set_cons_succ, List.length_cons, List.length_nil, setS, boxS, cond_true, cond_false, Bool.and_true, Bool.and_false, Bool.true_and, Bool.false_and, if_true, lk_nil, lk_v, lk_c, lk_g, lk_bin, lk_neg, lk_cmp, lk_chain, lk_nt, lk_and2, lk_or2, lk_tr, lk_ite, lk_tup, lk_lst, lk_ix, lk_sl, lk_rev, lk_call, lk_bi, lk_isi, lk_comp, lk_comp2, lk_draw, ul_nil, ul_v, ul_c, ul_g, ul_bin, ul_neg, ul_cmp, ul_chain, ul_nt, ul_and2, ul_or2, ul_tr, ul_ite, ul_tup, ul_lst, ul_ix, ul_sl, ul_rev, ul_call, ul_bi, ul_isi, ul_comp, ul_comp2, ul_draw, isV, tgS, tgSs, wipeE, rt_v, rt_c, rt_g, rt_bin, rt_neg, rt_cmp, rt_chain, rt_nt, rt_and2, rt_or2, rt_tr, rt_ite, rt_tup, rt_lst, rt_ix, rt_sl, rt_rev, rt_call, rt_bi, rt_isi, rt_comp, rt_comp2, rt_draw, b_lenl, b_lent, b_lens, b_abs, b_sum, b_max, b_min, b_max2, b_min2, b_tupl, b_tupt, b_lstl, b_lstt, b_inti, b_intb, b_all, b_any, b_gcd, is_nil, is_cons, bs_nil, bs_cons, s_seql, s_seqt, s_seqs, s_r1, s_r2, s_zip, s_zipt, s_enum, s_enumt, s_rev, s_revt, s_rr, z_cons, z_nil, z_nil2, n_cons, n_nil, sl_l, sl_t, one_0, one_1, cut_from, cut_to, rv_l, tr_n, tr_b, tr_i, tr_l, tr_t, x_rtN, x_brk, x_cnt, x_pas, x_frz, x_drp, List.getElem?_cons_zero, List.getElem?_cons_succ, arg_c, arg_g, arg_bin, arg_neg, arg_cmp, arg_chain, arg_nt, arg_and2, arg_or2, arg_tr, arg_ite, arg_tup, arg_lst, arg_ix, arg_sl, arg_rev, arg_call, arg_bi, arg_isi, arg_comp, arg_draw, bind_drw, blT_drw, then_drw, loop_drw, all_drw, all_ret, c_lt, c_le, c_gt, c_ge, c_eq, c_ne, c_isN, c_notN, cond_dec, cond_not, cond_and, cond_or, dr10, dr01, ex_ite, wt_nx, wt_rt, wt_ct, wt_bk, wt_drw, q_eq, F_inj, k_addl, k_addt, k_ap, rng2, line, rangeL, List.sum_cons, List.sum_nil, tyD, allTy, run]
        exact t16_2 hm im gp ip gs is 
    · have npr : ¬ p = r := fun e => z2 (.inl e)
      have nqr : ¬ q = r := fun e => z2 (.inr e)
      rcases Classical.em (p = s ∨ q = s ∨ r = s) with c3 | z3
      · have z0 : True := trivial
        have y1 := turn15_1n (s2 := s2) (s3 := .pl (MD m)) (s4 := s4) (s6 := s6) (s7 := s7) (s8 := s8) (s9 := s9) (s10 := s10) (s11 := s11) (s12 := s12) (s13 := s13) (s14 := s14) (s15 := s15) (s16 := s16) (s17 := s17) (s18 := s18) (s19 := s19) (s20 := s20) (s21 := s21) (s22 := s22) (s23 := s23) (s24 := s24) (s25 := s25) (p := p) (q := q) (r := r) (s := s) c1
        have y2 := turn15_2y (s2 := s2) (s3 := .pl (MD m)) (s4 := s4) (s6 := s6) (s7 := s7) (s8 := s8) (s9 := s9) (s10 := s10) (s11 := s11) (s12 := s12) (s13 := s13) (s14 := s14) (s15 := s15) (s16 := s16) (s17 := s17) (s18 := s18) (s19 := s19) (s20 := s20) (s21 := s21) (s22 := s22) (s23 := s23) (s24 := s24) (s25 := s25) (p := p) (q := q) (r := r) (s := s) npr nqr
        have y3 := turn15_3n (s2 := s2) (s3 := .pl (MD m)) (s4 := s4) (s6 := s6) (s7 := s7) (s8 := s8) (s9 := s9) (s10 := s10) (s11 := s11) (s12 := s12) (s13 := s13) (s14 := s14) (s15 := s15) (s16 := s16) (s17 := s17) (s18 := s18) (s19 := s19) (s20 := s20) (s21 := s21) (s22 := s22) (s23 := s23) (s24 := s24) (s25 := s25) (p := p) (q := q) (r := r) (s := s) c3
        rw [wp_cons]
        simp (maxSteps := 10000000) (implicitDefEqProofs := false) (disch := omega) [b15, compL, turn15_0y, y1, y2, y3, gl0, gl2, gl7, gl8, gl10, gl1, gl11, gl13, gl14, gl16, gl9, gl17, gl18, gl22, gl23, gl24, gl20, gl21, gl3, gl19, gl15, gl4, gl5, gl6, G0, G1, S0, S1, M0, M1, isn_n, isn_F, isn_i, b_ret, o_some, map_some, obind_some, k_add, k_sub, k_mul, k_ixl, k_ixt, ix_0, ix_1, ix_2, ix_3, ix_4, ix_5, ix_6, ix_7, ix_8, ix_9, ix_10, ix_11, ix_12, st_0, st_1, st_2, st_3, st_4, st_5, st_6, st_7, st_8, st_9, st_10, st_11, st_12, rd_0, rd_b, rd_l, rd_s, own_0, own_p, own_s, own_n, e_c, e_g, e_v, e_bin, neg_i, e_neg, e_cmp, e_chain, e_nt, e_and, e_or, e_tr, e_ite, e_tup, e_lst, e_ix, e_sl, e_rev, e_call, e_bi, e_isi, e_draw, e_comp, es_nil, es_cons, eS_nil, eS_cons, eC_nil, eC_cons, eA_nil, eA_cons, arg_st, bl_ret, x_nil, then_nx, then_rt, then_ct, then_bk, x_cns, x_bx, x_asgn, x_par, eR_nil, eR_cons, par_nil, par_cons, x_ixs, x_ap, x_ifs, x_rt, x_fr, loop_nx, loop_ct, loop_bk, loop_rt, for_nil, for_cons, bindA, List.replicate, List.cons_append, List.nil_append, a_nm, a_tt, a_tl, as_n, as_c, List.set_cons_zero, List.set_cons_succ, List.length_cons, List.length_nil, setS, boxS, cond_true, cond_false, Bool.and_true, Bool.and_false, Bool.true_and, Bool.false_and, if_true, lk_nil, lk_v, lk_c, lk_g, lk_bin, lk_neg, lk_cmp, lk_chain, lk_nt, lk_and2, lk_or2, lk_tr, lk_ite, lk_tup, lk_lst, lk_ix, lk_sl, lk_rev, lk_call, lk_bi, lk_isi, lk_comp, lk_comp2, lk_draw, ul_nil, ul_v, ul_c, ul_g, ul_bin, ul_neg, ul_cmp, ul_chain, ul_nt, ul_and2, ul_or2, ul_tr, ul_ite, ul_tup, ul_lst, ul_ix, ul_sl, ul_rev, ul_call, ul_bi, ul_isi, ul_comp, ul_comp2, ul_draw, isV, tgS, tgSs, wipeE, rt_v, rt_c, rt_g, rt_bin, rt_neg, rt_cmp, rt_chain, rt_nt, rt_and2, rt_or2, rt_tr, rt_ite, rt_tup, rt_lst, rt_ix, rt_sl, rt_rev, rt_call, rt_bi, rt_isi, rt_comp, rt_comp2, rt_draw, b_lenl, b_lent, b_lens, b_abs, b_sum, b_max, b_min, b_max2, b_min2, b_tupl, b_tupt, b_lstl, b_lstt, b_inti, b_intb, b_all, b_any, b_gcd, is_nil, is_cons, bs_nil, bs_cons, s_seql, s_seqt, s_seqs, s_r1, s_r2, s_zip, s_zipt, s_enum, s_enumt, s_rev, s_revt, s_rr, z_cons, z_nil, z_nil2, n_cons, n_nil, sl_l, sl_t, one_0, one_1, cut_from, cut_to, rv_l, tr_n, tr_b, tr_i, tr_l, tr_t, x_rtN, x_brk, x_cnt, x_pas, x_frz, x_drp, List.getElem?_cons_zero, List.getElem?_cons_succ, arg_c, arg_g, arg_bin, arg_neg, arg_cmp, arg_chain, arg_nt, arg_and2, arg_or2, arg_tr, arg_ite, arg_tup, arg_lst, arg_ix, arg_sl, arg_rev, arg_call, arg_bi, arg_isi, arg_comp, arg_draw, bind_drw, blT_drw, then_drw, loop_drw, all_drw, all_ret, c_lt, c_le, c_gt, c_ge, c_eq, c_ne, c_isN, c_notN, cond_dec, cond_not, cond_and, cond_or, dr10, dr01, ex_ite, wt_nx, wt_rt, wt_ct, wt_bk, wt_drw, q_eq, F_inj, k_addl, k_addt, k_ap, rng2, line, rangeL, List.sum_cons, List.sum_nil, tyD, allTy, run]
        exact t16_2 hm im gp ip gr ir 
      · have nps : ¬ p = s := fun e => z3 (.inl e)
        have nqs : ¬ q = s := fun e => z3 (.inr (.inl e))
        have nrs : ¬ r = s := fun e => z3 (.inr (.inr e))
        have y1 := turn15_1n (s2 := s2) (s3 := .pl (MD m)) (s4 := s4) (s6 := s6) (s7 := s7) (s8 := s8) (s9 := s9) (s10 := s10) (s11 := s11) (s12 := s12) (s13 := s13) (s14 := s14) (s15 := s15) (s16 := s16) (s17 := s17) (s18 := s18) (s19 := s19) (s20 := s20) (s21 := s21) (s22 := s22) (s23 := s23) (s24 := s24) (s25 := s25) (p := p) (q := q) (r := r) (s := s) c1
        have y2 := turn15_2y (s2 := s2) (s3 := .pl (MD m)) (s4 := s4) (s6 := s6) (s7 := s7) (s8 := s8) (s9 := s9) (s10 := s10) (s11 := s11) (s12 := s12) (s13 := s13) (s14 := s14) (s15 := s15) (s16 := s16) (s17 := s17) (s18 := s18) (s19 := s19) (s20 := s20) (s21 := s21) (s22 := s22) (s23 := s23) (s24 := s24) (s25 := s25) (p := p) (q := q) (r := r) (s := s) npr nqr
        have y3 := turn15_3y (s2 := s2) (s3 := .pl (MD m)) (s4 := s4) (s6 := s6) (s7 := s7) (s8 := s8) (s9 := s9) (s10 := s10) (s11 := s11) (s12 := s12) (s13 := s13) (s14 := s14) (s15 := s15) (s16 := s16) (s17 := s17) (s18 := s18) (s19 := s19) (s20 := s20) (s21 := s21) (s22 := s22) (s23 := s23) (s24 := s24) (s25 := s25) (p := p) (q := q) (r := r) (s := s) nps nqs nrs
        rw [wp_cons]
        simp (maxSteps := 10000000) (implicitDefEqProofs := false) (disch := omega) [b15, compL, turn15_0y, y1, y2, y3, gl0, gl2, gl7, gl8, gl10, gl1, gl11, gl13, gl14, gl16, gl9, gl17, gl18, gl22, gl23, gl24, gl20, gl21, gl3, gl19, gl15, gl4, gl5, gl6, G0, G1, S0, S1, M0, M1, isn_n, isn_F, isn_i, b_ret, o_some, map_some, obind_some, k_add, k_sub, k_mul, k_ixl, k_ixt, ix_0, ix_1, ix_2, ix_3, ix_4, ix_5, ix_6, ix_7, ix_8, ix_9, ix_10, ix_11, ix_12, st_0, st_1, st_2, st_3, st_4, st_5, st_6, st_7, st_8, st_9, st_10, st_11, st_12, rd_0, rd_b, rd_l, rd_s, own_0, own_p, own_s, own_n, e_c, e_g, e_v, e_bin, neg_i, e_neg, e_cmp, e_chain, e_nt, e_and, e_or, e_tr, e_ite, e_tup, e_lst, e_ix, e_sl, e_rev, e_call, e_bi, e_isi, e_draw, e_comp, es_nil, es_cons, eS_nil, eS_cons, eC_nil, eC_cons, eA_nil, eA_cons, arg_st, bl_ret, x_nil, then_nx, then_rt, then_ct, then_bk, x_cns, x_bx, x_asgn, x_par, eR_nil, eR_cons, par_nil, par_cons, x_ixs, x_ap, x_ifs, x_rt, x_fr, loop_nx, loop_ct, loop_bk, loop_rt, for_nil, for_cons, bindA, List.replicate, List.cons_append, List.nil_append, a_nm, a_tt, a_tl, as_n, as_c, List.set_cons_zero, List.set_cons_succ, List.length_cons, List.length_nil, setS, boxS, cond_true, cond_false, Bool.and_true, Bool.and_false, Bool.true_and, Bool.false_and, if_true, lk_nil, lk_v, lk_c, lk_g, lk_bin, lk_neg, lk_cmp, lk_chain, lk_nt, lk_and2, lk_or2, lk_tr, lk_ite, lk_tup, lk_lst, lk_ix, lk_sl, lk_rev, lk_call, lk_bi, lk_isi, lk_comp, lk_comp2, lk_draw, ul_nil, ul_v, ul_c, ul_g, ul_bin, ul_neg, ul_cmp, ul_chain, ul_nt, ul_and2, ul_or2, ul_tr, ul_ite, ul_tup, ul_lst, ul_ix, ul_sl, ul_rev, ul_call, ul_bi, ul_isi, ul_comp, ul_comp2, ul_draw, isV, tgS, tgSs, wipeE, rt_v, rt_c, rt_g, rt_bin, rt_neg, rt_cmp, rt_chain, rt_nt, rt_and2, rt_or2, rt_tr, rt_ite, rt_tup, rt_lst, rt_ix, rt_sl, rt_rev, rt_call, rt_bi, rt_isi, rt_comp, rt_comp2, rt_draw, b_lenl, b_lent, b_lens, b_abs, b_sum, b_max, b_min, b_max2, b_min2, b_tupl, b_tupt, b_lstl, b_lstt, b_inti, b_intb, b_all, b_any, b_gcd, is_nil, is_cons, bs_nil, bs_cons, s_seql, s_seqt, s_seqs, s_r1, s_r2, s_zip, s_zipt, s_enum, s_enumt, s_rev, s_revt, s_rr, z_cons, z_nil, z_nil2, n_cons, n_nil, sl_l, sl_t, one_0, one_1, cut_from, cut_to, rv_l, tr_n, tr_b, tr_i, tr_l, tr_t, x_rtN, x_brk, x_cnt, x_pas, x_frz, x_drp, List.getElem?_cons_zero, List.getElem?_cons_succ, arg_c, arg_g, arg_bin, arg_neg, arg_cmp, arg_chain, arg_nt, arg_and2, arg_or2, arg_tr, arg_ite, arg_tup, arg_lst, arg_ix, arg_sl, arg_rev, arg_call, arg_bi, arg_isi, arg_comp, arg_draw, bind_drw, blT_drw, then_drw, loop_drw, all_drw, all_ret, c_lt, c_le, c_gt, c_ge, c_eq, c_ne, c_isN, c_notN, cond_dec, cond_not, cond_and, cond_or, dr10, dr01, ex_ite, wt_nx, wt_rt, wt_ct, wt_bk, wt_drw, q_eq, F_inj, k_addl, k_addt, k_ap, rng2, line, rangeL, List.sum_cons, List.sum_nil, tyD, allTy, run]
        exact t16_3 hm im gp ip gr ir gs is npr nps nrs
  · rcases Classical.em (p = r ∨ q = r) with c2 | z2
    · rcases Classical.em (p = s ∨ q = s ∨ r = s) with c3 | z3
      · have z0 : True := trivial
        have y1 := turn15_1y (s2 := s2) (s3 := .pl (MD m)) (s4 := s4) (s6 := s6) (s7 := s7) (s8 := s8) (s9 := s9) (s10 := s10) (s11 := s11) (s12 := s12) (s13 := s13) (s14 := s14) (s15 := s15) (s16 := s16) (s17 := s17) (s18 := s18) (s19 := s19) (s20 := s20) (s21 := s21) (s22 := s22) (s23 := s23) (s24 := s24) (s25 := s25) (p := p) (q := q) (r := r) (s := s) npq
        have y2 := turn15_2n (s2 := s2) (s3 := .pl (MD m)) (s4 := s4) (s6 := s6) (s7 := s7) (s8 := s8) (s9 := s9) (s10 := s10) (s11 := s11) (s12 := s12) (s13 := s13) (s14 := s14) (s15 := s15) (s16 := s16) (s17 := s17) (s18 := s18) (s19 := s19) (s20 := s20) (s21 := s21) (s22 := s22) (s23 := s23) (s24 := s24) (s25 := s25) (p := p) (q := q) (r := r) (s := s) c2
        have y3 := turn15_3n (s2 := s2) (s3 := .pl (MD m)) (s4 := s4) (s6 := s6) (s7 := s7) (s8 := s8) (s9 := s9) (s10 := s10) (s11 := s11) (s12 := s12) (s13 := s13) (s14 := s14) (s15 := s15) (s16 := s16) (s17 := s17) (s18 := s18) (s19 := s19) (s20 := s20) (s21 := s21) (s22 := s22) (s23 := s23) (s24 := s24) (s25 := s25) (p := p) (q := q) (r := r) (s := s) c3
        rw [wp_cons]
        simp (maxSteps := 10000000) (implicitDefEqProofs := false) (disch := omega) [b15, compL, turn15_0y, y1, y2, y3, gl0, gl2, gl7, gl8, gl10, gl1, gl11, gl13, gl14, gl16, gl9, gl17, gl18, gl22, gl23, gl24, gl20, gl21, gl3, gl19, gl15, gl4, gl5, gl6, G0, G1, S0, S1, M0, M1, isn_n, isn_F, isn_i, b_ret, o_some, map_some, obind_some, k_add, k_sub, k_mul, k_ixl, k_ixt, ix_0, ix_1, ix_2, ix_3, ix_4, ix_5, ix_6, ix_7, ix_8, ix_9, ix_10, ix_11, ix_12, st_0, st_1, st_2, st_3, st_4, st_5, st_6, st_7, st_8, st_9, st_10, st_11, st_12, rd_0, rd_b, rd_l, rd_s, own_0, own_p, own_s, own_n, e_c, e_g, e_v, e_bin, neg_i, e_neg, e_cmp, e_chain, e_nt, e_and, e_or, e_tr, e_ite, e_tup, e_lst, e_ix, e_sl, e_rev, e_call, e_bi, e_isi, e_draw, e_comp, es_nil, es_cons, eS_nil, eS_cons, eC_nil, eC_cons, eA_nil, eA_cons, arg_st, bl_ret, x_nil, then_nx, then_rt, then_ct, then_bk, x_cns, x_bx, x_asgn, x_par, eR_nil, eR_cons, par_nil, par_cons, x_ixs, x_ap, x_ifs, x_rt, x_fr, loop_nx, loop_ct, loop_bk, loop_rt, for_nil, for_cons, bindA, List.replicate, List.cons_append, List.nil_append, a_nm, a_tt, a_tl, as_n, as_c, List.set_cons_zero, List.set_cons_succ, List.length_cons, List.length_nil, setS, boxS, cond_true, cond_false, Bool.and_true, Bool.and_false, Bool.true_and, Bool.false_and, if_true, lk_nil, lk_v, lk_c, lk_g, lk_bin, lk_neg, lk_cmp, lk_chain, lk_nt, lk_and2, lk_or2, lk_tr, lk_ite, lk_tup, lk_lst, lk_ix, lk_sl, lk_rev, lk_call, lk_bi, lk_isi, lk_comp, lk_comp2, lk_draw, ul_nil, ul_v, ul_c, ul_g, ul_bin, ul_neg, ul_cmp, ul_chain, ul_nt, ul_and2, ul_or2, ul_tr, ul_ite, ul_tup, ul_lst, ul_ix, ul_sl, ul_rev, ul_call, ul_bi, ul_isi, ul_comp, ul_comp2, ul_draw, isV, tgS, tgSs, wipeE, rt_v, rt_c, rt_g, rt_bin, rt_neg, rt_cmp, rt_chain, rt_nt, rt_and2, rt_or2, rt_tr, rt_ite, rt_tup, rt_lst, rt_ix, rt_sl, rt_rev, rt_call, rt_bi, rt_isi, rt_comp, rt_comp2, rt_draw, b_lenl, b_lent, b_lens, b_abs, b_sum, b_max, b_min, b_max2, b_min2, b_tupl, b_tupt, b_lstl, b_lstt, b_inti, b_intb, b_all, b_any, b_gcd, is_nil, is_cons, bs_nil, bs_cons, s_seql, s_seqt, s_seqs, s_r1, s_r2, s_zip, s_zipt, s_enum, s_enumt, s_rev, s_revt, s_rr, z_cons, z_nil, z_nil2, n_cons, n_nil, sl_l, sl_t, one_0, one_1, cut_from, cut_to, rv_l, tr_n, tr_b, tr_i, tr_l, tr_t, x_rtN, x_brk, x_cnt, x_pas, x_frz, x_drp, List.getElem?_cons_zero, List.getElem?_cons_succ, arg_c, arg_g, arg_bin, arg_neg, arg_cmp, arg_chain, arg_nt, arg_and2, arg_or2, arg_tr, arg_ite, arg_tup, arg_lst, arg_ix, arg_sl, arg_rev, arg_call, arg_bi, arg_isi, arg_comp, arg_draw, bind_drw, blT_drw, then_drw, loop_drw, all_drw, all_ret, c_lt, c_le, c_gt, c_ge, c_eq, c_ne, c_isN, c_notN, cond_dec, cond_not, cond_and, cond_or, dr10, dr01, ex_ite, wt_nx, wt_rt, wt_ct, wt_bk, wt_drw, q_eq, F_inj, k_addl, k_addt, k_ap, rng2, line, rangeL, List.sum_cons, List.sum_nil, tyD, allTy, run]
        exact t16_2 hm im gp ip gq iq 
      · have nps : ¬ p = s := fun e => z3 (.inl e)
        have nqs : ¬ q = s := fun e => z3 (.inr (.inl e))
        have nrs : ¬ r = s := fun e => z3 (.inr (.inr e))
        have y1 := turn15_1y (s2 := s2) (s3 := .pl (MD m)) (s4 := s4) (s6 := s6) (s7 := s7) (s8 := s8) (s9 := s9) (s10 := s10) (s11 := s11) (s12 := s12) (s13 := s13) (s14 := s14) (s15 := s15) (s16 := s16) (s17 := s17) (s18 := s18) (s19 := s19) (s20 := s20) (s21 := s21) (s22 := s22) (s23 := s23) (s24 := s24) (s25 := s25) (p := p) (q := q) (r := r) (s := s) npq
        have y2 := turn15_2n (s2 := s2) (s3 := .pl (MD m)) (s4 := s4) (s6 := s6) (s7 := s7) (s8 := s8) (s9 := s9) (s10 := s10) (s11 := s11) (s12 := s12) (s13 := s13) (s14 := s14) (s15 := s15) (s16 := s16) (s17 := s17) (s18 := s18) (s19 := s19) (s20 := s20) (s21 := s21) (s22 := s22) (s23 := s23) (s24 := s24) (s25 := s25) (p := p) (q := q) (r := r) (s := s) c2
        have y3 := turn15_3y (s2 := s2) (s3 := .pl (MD m)) (s4 := s4) (s6 := s6) (s7 := s7) (s8 := s8) (s9 := s9) (s10 := s10) (s11 := s11) (s12 := s12) (s13 := s13) (s14 := s14) (s15 := s15) (s16 := s16) (s17 := s17) (s18 := s18) (s19 := s19) (s20 := s20) (s21 := s21) (s22 := s22) (s23 := s23) (s24 := s24) (s25 := s25) (p := p) (q := q) (r := r) (s := s) nps nqs nrs
        rw [wp_cons]
        simp (maxSteps := 10000000) (implicitDefEqProofs := false) (disch := omega) [b15, compL, turn15_0y, y1, y2, y3, gl0, gl2, gl7, gl8, gl10, gl1, gl11, gl13, gl14, gl16, gl9, gl17, gl18, gl22, gl23, gl24, gl20, gl21, gl3, gl19, gl15, gl4, gl5, gl6, G0, G1, S0, S1, M0, M1, isn_n, isn_F, isn_i, b_ret, o_some, map_some, obind_some, k_add, k_sub, k_mul, k_ixl, k_ixt, ix_0, ix_1, ix_2, ix_3, ix_4, ix_5, ix_6, ix_7, ix_8, ix_9, ix_10, ix_11, ix_12, st_0, st_1, st_2, st_3, st_4, st_5, st_6, st_7, st_8, st_9, st_10, st_11, st_12, rd_0, rd_b, rd_l, rd_s, own_0, own_p, own_s, own_n, e_c, e_g, e_v, e_bin, neg_i, e_neg, e_cmp, e_chain, e_nt, e_and, e_or, e_tr, e_ite, e_tup, e_lst, e_ix, e_sl, e_rev, e_call, e_bi, e_isi, e_draw, e_comp, es_nil, es_cons, eS_nil, eS_cons, eC_nil, eC_cons, eA_nil, eA_cons, arg_st, bl_ret, x_nil, then_nx, then_rt, then_ct, then_bk, x_cns, x_bx, x_asgn, x_par, eR_nil, eR_cons, par_nil, par_cons, x_ixs, x_ap, x_ifs, x_rt, x_fr, loop_nx, loop_ct, loop_bk, loop_rt, for_nil, for_cons, bindA, List.replicate, List.cons_append, List.nil_append, a_nm, a_tt, a_tl, as_n, as_c, List.set_cons_zero, List.set_cons_succ, List.length_cons, List.length_nil, setS, boxS, cond_true, cond_false, Bool.and_true, Bool.and_false, Bool.true_and, Bool.false_and, if_true, lk_nil, lk_v, lk_c, lk_g, lk_bin, lk_neg, lk_cmp, lk_chain, lk_nt, lk_and2, lk_or2, lk_tr, lk_ite, lk_tup, lk_lst, lk_ix, lk_sl, lk_rev, lk_call, lk_bi, lk_isi, lk_comp, lk_comp2, lk_draw, ul_nil, ul_v, ul_c, ul_g, ul_bin, ul_neg, ul_cmp, ul_chain, ul_nt, ul_and2, ul_or2, ul_tr, ul_ite, ul_tup, ul_lst, ul_ix, ul_sl, ul_rev, ul_call, ul_bi, ul_isi, ul_comp, ul_comp2, ul_draw, isV, tgS, tgSs, wipeE, rt_v, rt_c, rt_g, rt_bin, rt_neg, rt_cmp, rt_chain, rt_nt, rt_and2, rt_or2, rt_tr, rt_ite, rt_tup, rt_lst, rt_ix, rt_sl, rt_rev, rt_call, rt_bi, rt_isi, rt_comp, rt_comp2, rt_draw, b_lenl, b_lent, b_lens, b_abs, b_sum, b_max, b_min, b_max2, b_min2, b_tupl, b_tupt, b_lstl, b_lstt, b_inti, b_intb, b_all, b_any, b_gcd, is_nil, is_cons, bs_nil, bs_cons, s_seql, s_seqt, s_seqs, s_r1, s_r2, s_zip, s_zipt, s_enum, s_enumt, s_rev, s_revt, s_rr, z_cons, z_nil, z_nil2, n_cons, n_nil, sl_l, sl_t, one_0, one_1, cut_from, cut_to, rv_l, tr_n, tr_b, tr_i, tr_l, tr_t, x_rtN, x_brk, x_cnt, x_pas, x_frz, x_drp, List.getElem?_cons_zero, List.getElem?_cons_succ, arg_c, arg_g, arg_bin, arg_neg, arg_cmp, arg_chain, arg_nt, arg_and2, arg_or2, arg_tr, arg_ite, arg_tup, arg_lst, arg_ix, arg_sl, arg_rev, arg_call, arg_bi, arg_isi, arg_comp, arg_draw, bind_drw, blT_drw, then_drw, loop_drw, all_drw, all_ret, c_lt, c_le, c_gt, c_ge, c_eq, c_ne, c_isN, c_notN, cond_dec, cond_not, cond_and, cond_or, dr10, dr01, ex_ite, wt_nx, wt_rt, wt_ct, wt_bk, wt_drw, q_eq, F_inj, k_addl, k_addt, k_ap, rng2, line, rangeL, List.sum_cons, List.sum_nil, tyD, allTy, run]
        exact t16_3 hm im gp ip gq iq gs is npq nps nqs
    · have npr : ¬ p = r := fun e => z2 (.inl e)
      have nqr : ¬ q = r := fun e => z2 (.inr e)
      rcases Classical.em (p = s ∨ q = s ∨ r = s) with c3 | z3
      · have z0 : True := trivial
        have y1 := turn15_1y (s2 := s2) (s3 := .pl (MD m)) (s4 := s4) (s6 := s6) (s7 := s7) (s8 := s8) (s9 := s9) (s10 := s10) (s11 := s11) (s12 := s12) (s13 := s13) (s14 := s14) (s15 := s15) (s16 := s16) (s17 := s17) (s18 := s18) (s19 := s19) (s20 := s20) (s21 := s21) (s22 := s22) (s23 := s23) (s24 := s24) (s25 := s25) (p := p) (q := q) (r := r) (s := s) npq
        have y2 := turn15_2y (s2 := s2) (s3 := .pl (MD m)) (s4 := s4) (s6 := s6) (s7 := s7) (s8 := s8) (s9 := s9) (s10 := s10) (s11 := s11) (s12 := s12) (s13 := s13) (s14 := s14) (s15 := s15) (s16 := s16) (s17 := s17) (s18 := s18) (s19 := s19) (s20 := s20) (s21 := s21) (s22 := s22) (s23 := s23) (s24 := s24) (s25 := s25) (p := p) (q := q) (r := r) (s := s) npr nqr
        have y3 := turn15_3n (s2 := s2) (s3 := .pl (MD m)) (s4 := s4) (s6 := s6) (s7 := s7) (s8 := s8) (s9 := s9) (s10 := s10) (s11 := s11) (s12 := s12) (s13 := s13) (s14 := s14) (s15 := s15) (s16 := s16) (s17 := s17) (s18 := s18) (s19 := s19) (s20 := s20) (s21 := s21) (s22 := s22) (s23 := s23) (s24 := s24) (s25 := s25) (p := p) (q := q) (r := r) (s := s) c3
        rw [wp_cons]
        simp (maxSteps := 10000000) (implicitDefEqProofs := false) (disch := omega) [b15, compL, turn15_0y, y1, y2, y3, gl0, gl2, gl7, gl8, gl10, gl1, gl11, gl13, gl14, gl16, gl9, gl17, gl18, gl22, gl23, gl24, gl20, gl21, gl3, gl19, gl15, gl4, gl5, gl6, G0, G1, S0, S1, M0, M1, isn_n, isn_F, isn_i, b_ret, o_some, map_some, obind_some, k_add, k_sub, k_mul, k_ixl, k_ixt, ix_0, ix_1, ix_2, ix_3, ix_4, ix_5, ix_6, ix_7, ix_8, ix_9, ix_10, ix_11, ix_12, st_0, st_1, st_2, st_3, st_4, st_5, st_6, st_7, st_8, st_9, st_10, st_11, st_12, rd_0, rd_b, rd_l, rd_s, own_0, own_p, own_s, own_n, e_c, e_g, e_v, e_bin, neg_i, e_neg, e_cmp, e_chain, e_nt, e_and, e_or, e_tr, e_ite, e_tup, e_lst, e_ix, e_sl, e_rev, e_call, e_bi, e_isi, e_draw, e_comp, es_nil, es_cons, eS_nil, eS_cons, eC_nil, eC_cons, eA_nil, eA_cons, arg_st, bl_ret, x_nil, then_nx, then_rt, then_ct, then_bk, x_cns, x_bx, x_asgn, x_par, eR_nil, eR_cons, par_nil, par_cons, x_ixs, x_ap, x_ifs, x_rt, x_fr, loop_nx, loop_ct, loop_bk, loop_rt, for_nil, for_cons, bindA, List.replicate, List.cons_append, List.nil_append, a_nm, a_tt, a_tl, as_n, as_c, List.set_cons_zero, List.set_cons_succ, List.length_cons, List.length_nil, setS, boxS, cond_true, cond_false, Bool.and_true, Bool.and_false, Bool.true_and, Bool.false_and, if_true, lk_nil, lk_v, lk_c, lk_g, lk_bin, lk_neg, lk_cmp, lk_chain, lk_nt, lk_and2, lk_or2, lk_tr, lk_ite, lk_tup, lk_lst, lk_ix, lk_sl, lk_rev, lk_call, lk_bi, lk_isi, lk_comp, lk_comp2, lk_draw, ul_nil, ul_v, ul_c, ul_g, ul_bin, ul_neg, ul_cmp, ul_chain, ul_nt, ul_and2, ul_or2, ul_tr, ul_ite, ul_tup, ul_lst, ul_ix, ul_sl, ul_rev, ul_call, ul_bi, ul_isi, ul_comp, ul_comp2, ul_draw, isV, tgS, tgSs, wipeE, rt_v, rt_c, rt_g, rt_bin, rt_neg, rt_cmp, rt_chain, rt_nt, rt_and2, rt_or2, rt_tr, rt_ite, rt_tup, rt_lst, rt_ix, rt_sl, rt_rev, rt_call, rt_bi, rt_isi, rt_comp, rt_comp2, rt_draw, b_lenl, b_lent, b_lens, b_abs, b_sum, b_max, b_min, b_max2, b_min2, b_tupl, b_tupt, b_lstl, b_lstt, b_inti, b_intb, b_all, b_any, b_gcd, is_nil, is_cons, bs_nil, bs_cons, s_seql, s_seqt, s_seqs, s_r1, s_r2, s_zip, s_zipt, s_enum, s_enumt, s_rev, s_revt, s_rr, z_cons, z_nil, z_nil2, n_cons, n_nil, sl_l, sl_t, one_0, one_1, cut_from, cut_to, rv_l, tr_n, tr_b, tr_i, tr_l, tr_t, x_rtN, x_brk, x_cnt, x_pas, x_frz, x_drp, List.getElem?_cons_zero, List.getElem?_cons_succ, arg_c, arg_g, arg_bin, arg_neg, arg_cmp, arg_chain, arg_nt, arg_and2, arg_or2, arg_tr, arg_ite, arg_tup, arg_lst, arg_ix, arg_sl, arg_rev, arg_call, arg_bi, arg_isi, arg_comp, arg_draw, bind_drw, blT_drw, then_drw, loop_drw, all_drw, all_ret, c_lt, c_le, c_gt, c_ge, c_eq, c_ne, c_isN, c_notN, cond_dec, cond_not, cond_and, cond_or, dr10, dr01, ex_ite, wt_nx, wt_rt, wt_ct, wt_bk, wt_drw, q_eq, F_inj, k_addl, k_addt, k_ap, rng2, line, rangeL, List.sum_cons, List.sum_nil, tyD, allTy, run]
        exact t16_3 hm im gp ip gq iq gr ir npq npr nqr
      · have nps : ¬ p = s := fun e => z3 (.inl e)
        have nqs : ¬ q = s := fun e => z3 (.inr (.inl e))
        have nrs : ¬ r = s := fun e => z3 (.inr (.inr e))
        have y1 := turn15_1y (s2 := s2) (s3 := .pl (MD m)) (s4 := s4) (s6 := s6) (s7 := s7) (s8 := s8) (s9 := s9) (s10 := s10) (s11 := s11) (s12 := s12) (s13 := s13) (s14 := s14) (s15 := s15) (s16 := s16) (s17 := s17) (s18 := s18) (s19 := s19) (s20 := s20) (s21 := s21) (s22 := s22) (s23 := s23) (s24 := s24) (s25 := s25) (p := p) (q := q) (r := r) (s := s) npq
        have y2 := turn15_2y (s2 := s2) (s3 := .pl (MD m)) (s4 := s4) (s6 := s6) (s7 := s7) (s8 := s8) (s9 := s9) (s10 := s10) (s11 := s11) (s12 := s12) (s13 := s13) (s14 := s14) (s15 := s15) (s16 := s16) (s17 := s17) (s18 := s18) (s19 := s19) (s20 := s20) (s21 := s21) (s22 := s22) (s23 := s23) (s24 := s24) (s25 := s25) (p := p) (q := q) (r := r) (s := s) npr nqr
        have y3 := turn15_3y (s2 := s2) (s3 := .pl (MD m)) (s4 := s4) (s6 := s6) (s7 := s7) (s8 := s8) (s9 := s9) (s10 := s10) (s11 := s11) (s12 := s12) (s13 := s13) (s14 := s14) (s15 := s15) (s16 := s16) (s17 := s17) (s18 := s18) (s19 := s19) (s20 := s20) (s21 := s21) (s22 := s22) (s23 := s23) (s24 := s24) (s25 := s25) (p := p) (q := q) (r := r) (s := s) nps nqs nrs
        rw [wp_cons]
        simp (maxSteps := 10000000) (implicitDefEqProofs := false) (disch := omega) [b15, compL, turn15_0y, y1, y2, y3, gl0, gl2, gl7, gl8, gl10, gl1, gl11, gl13, gl14, gl16, gl9, gl17, gl18, gl22, gl23, gl24, gl20, gl21, gl3, gl19, gl15, gl4, gl5, gl6, G0, G1, S0, S1, M0, M1, isn_n, isn_F, isn_i, b_ret, o_some, map_some, obind_some, k_add, k_sub, k_mul, k_ixl, k_ixt, ix_0, ix_1, ix_2, ix_3, ix_4, ix_5, ix_6, ix_7, ix_8, ix_9, ix_10, ix_11, ix_12, st_0, st_1, st_2, st_3, st_4, st_5, st_6, st_7, st_8, st_9, st_10, st_11, st_12, rd_0, rd_b, rd_l, rd_s, own_0, own_p, own_s, own_n, e_c, e_g, e_v, e_bin, neg_i, e_neg, e_cmp, e_chain, e_nt, e_and, e_or, e_tr, e_ite, e_tup, e_lst, e_ix, e_sl, e_rev, e_call, e_bi, e_isi, e_draw, e_comp, es_nil, es_cons, eS_nil, eS_cons, eC_nil, eC_cons, eA_nil, eA_cons, arg_st, bl_ret, x_nil, then_nx, then_rt, then_ct, then_bk, x_cns, x_bx, x_asgn, x_par, eR_nil, eR_cons, par_nil, par_cons, x_ixs, x_ap, x_ifs, x_rt, x_fr, loop_nx, loop_ct, loop_bk, loop_rt, for_nil, for_cons, bindA, List.replicate, List.cons_append, List.nil_append, a_nm, a_tt, a_tl, as_n, as_c, List.set_cons_zero, List.set_cons_succ, List.length_cons, List.length_nil, setS, boxS, cond_true, cond_false, Bool.and_true, Bool.and_false, Bool.true_and, Bool.false_and, if_true, lk_nil, lk_v, lk_c, lk_g, lk_bin, lk_neg, lk_cmp, lk_chain, lk_nt, lk_and2, lk_or2, lk_tr, lk_ite, lk_tup, lk_lst, lk_ix, lk_sl, lk_rev, lk_call, lk_bi, lk_isi, lk_comp, lk_comp2, lk_draw, ul_nil, ul_v, ul_c, ul_g, ul_bin, ul_neg, ul_cmp, ul_chain, ul_nt, ul_and2, ul_or2, ul_tr, ul_ite, ul_tup, ul_lst, ul_ix, ul_sl, ul_rev, ul_call, ul_bi, ul_isi, ul_comp, ul_comp2, ul_draw, isV, tgS, tgSs, wipeE, rt_v, rt_c, rt_g, rt_bin, rt_neg, rt_cmp, rt_chain, rt_nt, rt_and2, rt_or2, rt_tr, rt_ite, rt_tup, rt_lst, rt_ix, rt_sl, rt_rev, rt_call, rt_bi, rt_isi, rt_comp, rt_comp2, rt_draw, b_lenl, b_lent, b_lens, b_abs, b_sum, b_max, b_min, b_max2, b_min2, b_tupl, b_tupt, b_lstl, b_lstt, b_inti, b_intb, b_all, b_any, b_gcd, is_nil, is_cons, bs_nil, bs_cons, s_seql, s_seqt, s_seqs, s_r1, s_r2, s_zip, s_zipt, s_enum, s_enumt, s_rev, s_revt, s_rr, z_cons, z_nil, z_nil2, n_cons, n_nil, sl_l, sl_t, one_0, one_1, cut_from, cut_to, rv_l, tr_n, tr_b, tr_i, tr_l, tr_t, x_rtN, x_brk, x_cnt, x_pas, x_frz, x_drp, List.getElem?_cons_zero, List.getElem?_cons_succ, arg_c, arg_g, arg_bin, arg_neg, arg_cmp, arg_chain, arg_nt, arg_and2, arg_or2, arg_tr, arg_ite, arg_tup, arg_lst, arg_ix, arg_sl, arg_rev, arg_call, arg_bi, arg_isi, arg_comp, arg_draw, bind_drw, blT_drw, then_drw, loop_drw, all_drw, all_ret, c_lt, c_le, c_gt, c_ge, c_eq, c_ne, c_isN, c_notN, cond_dec, cond_not, cond_and, cond_or, dr10, dr01, ex_ite, wt_nx, wt_rt, wt_ct, wt_bk, wt_drw, q_eq, F_inj, k_addl, k_addt, k_ap, rng2, line, rangeL, List.sum_cons, List.sum_nil, tyD, allTy, run]
        exact t16_4 hm im gp ip gq iq gr ir gs is npq npr nqr nps nqs nrs
theorem t13 {s2 s6 s10 s11 s12 s16 s17 s18 s19 s20 s21 s22 s23 s24 s25 : Slot} {m o : M2} (hm : m.det ≠ .zero) (im : SmT 4 m) (ho : o.det ≠ .zero) (io : SmT 4 o) {p q r s : Sp} (gp : Gs p) (ip : SmS 20 p) (gq : Gs q) (iq : SmS 20 q) (gr : Gs r) (ir : SmS 20 r) (gs : Gs s) (is : SmS 20 s) {k : Int} {u v : G2} (ik : Sm 5 k) (iu : SmG 5 u) (iv : SmG 5 v) :
    Wp g_law [b13, b14, b15, b16, b17] [.scr, .st, s2, .pl (MD m), .pl (MD o), .pl (.lst [SD p, SD q, SD r, SD s]), s6, .pl (SD p), .pl (GD m.a), .pl (GD m.b), s10, s11, s12, .pl (.int k), .pl (GD u), .pl (GD v), s16, s17, s18, s19, s20, s21, s22, s23, s24, s25] OK := by
  have i1 : Sm 1 1 := ⟨by decide⟩
  have ew : r__law_spot [.d (GD u), .d (GD v)] = .ret (SD (sp u v), false) := p_spot (by omega) (by omega)
  have ew2 : r_two_plain [.d (GD u), .d (GD v)] = .ret (SD (sp u v), false) := p_two_plain (by omega) (by omega)
  have ea : r__law_two_plus [.d (GD m.a), .d (GD m.b), .d (.int 1)] = .ret (GD (m.a.add m.b), false) := by rw [p_plus (by omega), sm_one]
  rw [wp_cons]
  simp (maxSteps := 10000000) (implicitDefEqProofs := false) (disch := omega) [b13, ew, ea, p_times, p_apart, GD_smx, gl0, gl2, gl7, gl8, gl10, gl1, gl11, gl13, gl14, gl16, gl9, gl17, gl18, gl22, gl23, gl24, gl20, gl21, gl3, gl19, gl15, gl4, gl5, gl6, G0, G1, S0, S1, M0, M1, isn_n, isn_F, isn_i, b_ret, o_some, map_some, obind_some, k_add, k_sub, k_mul, k_ixl, k_ixt, ix_0, ix_1, ix_2, ix_3, ix_4, ix_5, ix_6, ix_7, ix_8, ix_9, ix_10, ix_11, ix_12, st_0, st_1, st_2, st_3, st_4, st_5, st_6, st_7, st_8, st_9, st_10, st_11, st_12, rd_0, rd_b, rd_l, rd_s, own_0, own_p, own_s, own_n, e_c, e_g, e_v, e_bin, neg_i, e_neg, e_cmp, e_chain, e_nt, e_and, e_or, e_tr, e_ite, e_tup, e_lst, e_ix, e_sl, e_rev, e_call, e_bi, e_isi, e_draw, e_comp, turn_cons, turn_nil, es_nil, es_cons, eS_nil, eS_cons, eC_nil, eC_cons, eA_nil, eA_cons, arg_st, bl_ret, x_nil, then_nx, then_rt, then_ct, then_bk, x_cns, x_bx, x_asgn, x_par, eR_nil, eR_cons, par_nil, par_cons, x_ixs, x_ap, x_ifs, x_rt, x_fr, loop_nx, loop_ct, loop_bk, loop_rt, for_nil, for_cons, bindA, List.replicate, List.cons_append, List.nil_append, a_nm, a_tt, a_tl, as_n, as_c, List.set_cons_zero, List.set_cons_succ, List.length_cons, List.length_nil, setS, boxS, cond_true, cond_false, Bool.and_true, Bool.and_false, Bool.true_and, Bool.false_and, if_true, lk_nil, lk_v, lk_c, lk_g, lk_bin, lk_neg, lk_cmp, lk_chain, lk_nt, lk_and2, lk_or2, lk_tr, lk_ite, lk_tup, lk_lst, lk_ix, lk_sl, lk_rev, lk_call, lk_bi, lk_isi, lk_comp, lk_comp2, lk_draw, ul_nil, ul_v, ul_c, ul_g, ul_bin, ul_neg, ul_cmp, ul_chain, ul_nt, ul_and2, ul_or2, ul_tr, ul_ite, ul_tup, ul_lst, ul_ix, ul_sl, ul_rev, ul_call, ul_bi, ul_isi, ul_comp, ul_comp2, ul_draw, isV, tgS, tgSs, wipeE, rt_v, rt_c, rt_g, rt_bin, rt_neg, rt_cmp, rt_chain, rt_nt, rt_and2, rt_or2, rt_tr, rt_ite, rt_tup, rt_lst, rt_ix, rt_sl, rt_rev, rt_call, rt_bi, rt_isi, rt_comp, rt_comp2, rt_draw, b_lenl, b_lent, b_lens, b_abs, b_sum, b_max, b_min, b_max2, b_min2, b_tupl, b_tupt, b_lstl, b_lstt, b_inti, b_intb, b_all, b_any, b_gcd, is_nil, is_cons, bs_nil, bs_cons, s_seql, s_seqt, s_seqs, s_r1, s_r2, s_zip, s_zipt, s_enum, s_enumt, s_rev, s_revt, s_rr, z_cons, z_nil, z_nil2, n_cons, n_nil, sl_l, sl_t, one_0, one_1, cut_from, cut_to, rv_l, tr_n, tr_b, tr_i, tr_l, tr_t, x_rtN, x_brk, x_cnt, x_pas, x_frz, x_drp, List.getElem?_cons_zero, List.getElem?_cons_succ, arg_c, arg_g, arg_bin, arg_neg, arg_cmp, arg_chain, arg_nt, arg_and2, arg_or2, arg_tr, arg_ite, arg_tup, arg_lst, arg_ix, arg_sl, arg_rev, arg_call, arg_bi, arg_isi, arg_comp, arg_draw, bind_drw, blT_drw, then_drw, loop_drw, all_drw, all_ret, c_lt, c_le, c_gt, c_ge, c_eq, c_ne, c_isN, c_notN, cond_dec, cond_not, cond_and, cond_or, dr10, dr01, ex_ite, wt_nx, wt_rt, wt_ct, wt_bk, wt_drw, q_eq, F_inj, k_addl, k_addt, k_ap, rng2, line, rangeL, List.sum_cons, List.sum_nil, tyD, allTy, run]
  rw [wp_cons]
  simp (maxSteps := 10000000) (implicitDefEqProofs := false) (disch := omega) [b14, ew2, p_two_times, p_two_add, p_scaled, p_gap, gl0, gl2, gl7, gl8, gl10, gl1, gl11, gl13, gl14, gl16, gl9, gl17, gl18, gl22, gl23, gl24, gl20, gl21, gl3, gl19, gl15, gl4, gl5, gl6, G0, G1, S0, S1, M0, M1, isn_n, isn_F, isn_i, b_ret, o_some, map_some, obind_some, k_add, k_sub, k_mul, k_ixl, k_ixt, ix_0, ix_1, ix_2, ix_3, ix_4, ix_5, ix_6, ix_7, ix_8, ix_9, ix_10, ix_11, ix_12, st_0, st_1, st_2, st_3, st_4, st_5, st_6, st_7, st_8, st_9, st_10, st_11, st_12, rd_0, rd_b, rd_l, rd_s, own_0, own_p, own_s, own_n, e_c, e_g, e_v, e_bin, neg_i, e_neg, e_cmp, e_chain, e_nt, e_and, e_or, e_tr, e_ite, e_tup, e_lst, e_ix, e_sl, e_rev, e_call, e_bi, e_isi, e_draw, e_comp, turn_cons, turn_nil, es_nil, es_cons, eS_nil, eS_cons, eC_nil, eC_cons, eA_nil, eA_cons, arg_st, bl_ret, x_nil, then_nx, then_rt, then_ct, then_bk, x_cns, x_bx, x_asgn, x_par, eR_nil, eR_cons, par_nil, par_cons, x_ixs, x_ap, x_ifs, x_rt, x_fr, loop_nx, loop_ct, loop_bk, loop_rt, for_nil, for_cons, bindA, List.replicate, List.cons_append, List.nil_append, a_nm, a_tt, a_tl, as_n, as_c, List.set_cons_zero, List.set_cons_succ, List.length_cons, List.length_nil, setS, boxS, cond_true, cond_false, Bool.and_true, Bool.and_false, Bool.true_and, Bool.false_and, if_true, lk_nil, lk_v, lk_c, lk_g, lk_bin, lk_neg, lk_cmp, lk_chain, lk_nt, lk_and2, lk_or2, lk_tr, lk_ite, lk_tup, lk_lst, lk_ix, lk_sl, lk_rev, lk_call, lk_bi, lk_isi, lk_comp, lk_comp2, lk_draw, ul_nil, ul_v, ul_c, ul_g, ul_bin, ul_neg, ul_cmp, ul_chain, ul_nt, ul_and2, ul_or2, ul_tr, ul_ite, ul_tup, ul_lst, ul_ix, ul_sl, ul_rev, ul_call, ul_bi, ul_isi, ul_comp, ul_comp2, ul_draw, isV, tgS, tgSs, wipeE, rt_v, rt_c, rt_g, rt_bin, rt_neg, rt_cmp, rt_chain, rt_nt, rt_and2, rt_or2, rt_tr, rt_ite, rt_tup, rt_lst, rt_ix, rt_sl, rt_rev, rt_call, rt_bi, rt_isi, rt_comp, rt_comp2, rt_draw, b_lenl, b_lent, b_lens, b_abs, b_sum, b_max, b_min, b_max2, b_min2, b_tupl, b_tupt, b_lstl, b_lstt, b_inti, b_intb, b_all, b_any, b_gcd, is_nil, is_cons, bs_nil, bs_cons, s_seql, s_seqt, s_seqs, s_r1, s_r2, s_zip, s_zipt, s_enum, s_enumt, s_rev, s_revt, s_rr, z_cons, z_nil, z_nil2, n_cons, n_nil, sl_l, sl_t, one_0, one_1, cut_from, cut_to, rv_l, tr_n, tr_b, tr_i, tr_l, tr_t, x_rtN, x_brk, x_cnt, x_pas, x_frz, x_drp, List.getElem?_cons_zero, List.getElem?_cons_succ, arg_c, arg_g, arg_bin, arg_neg, arg_cmp, arg_chain, arg_nt, arg_and2, arg_or2, arg_tr, arg_ite, arg_tup, arg_lst, arg_ix, arg_sl, arg_rev, arg_call, arg_bi, arg_isi, arg_comp, arg_draw, bind_drw, blT_drw, then_drw, loop_drw, all_drw, all_ret, c_lt, c_le, c_gt, c_ge, c_eq, c_ne, c_isN, c_notN, cond_dec, cond_not, cond_and, cond_or, dr10, dr01, ex_ite, wt_nx, wt_rt, wt_ct, wt_bk, wt_drw, q_eq, F_inj, k_addl, k_addt, k_ap, rng2, line, rangeL, List.sum_cons, List.sum_nil, tyD, allTy, run]
  exact t15 hm im gp ip gq iq gr ir gs is
theorem t11 {s2 s6 s10 s11 s12 s13 s14 s15 s16 s17 s18 s19 s20 s21 s22 s23 s24 s25 : Slot} {m o : M2} (hm : m.det ≠ .zero) (im : SmT 4 m) (ho : o.det ≠ .zero) (io : SmT 4 o) {p q r s : Sp} (gp : Gs p) (ip : SmS 20 p) (gq : Gs q) (iq : SmS 20 q) (gr : Gs r) (ir : SmS 20 r) (gs : Gs s) (is : SmS 20 s) :
    Wp g_law [b11, b12, b13, b14, b15, b16, b17] [.scr, .st, s2, .pl (MD m), .pl (MD o), .pl (.lst [SD p, SD q, SD r, SD s]), s6, .pl (SD p), .pl (GD m.a), .pl (GD m.b), s10, s11, s12, s13, s14, s15, s16, s17, s18, s19, s20, s21, s22, s23, s24, s25] OK := by
  rw [wp_cons]
  simp (maxSteps := 10000000) (implicitDefEqProofs := false) (disch := omega) [b11, gl0, gl2, gl7, gl8, gl10, gl1, gl11, gl13, gl14, gl16, gl9, gl17, gl18, gl22, gl23, gl24, gl20, gl21, gl3, gl19, gl15, gl4, gl5, gl6, G0, G1, S0, S1, M0, M1, isn_n, isn_F, isn_i, b_ret, o_some, map_some, obind_some, k_add, k_sub, k_mul, k_ixl, k_ixt, ix_0, ix_1, ix_2, ix_3, ix_4, ix_5, ix_6, ix_7, ix_8, ix_9, ix_10, ix_11, ix_12, st_0, st_1, st_2, st_3, st_4, st_5, st_6, st_7, st_8, st_9, st_10, st_11, st_12, rd_0, rd_b, rd_l, rd_s, own_0, own_p, own_s, own_n, e_c, e_g, e_v, e_bin, neg_i, e_neg, e_cmp, e_chain, e_nt, e_and, e_or, e_tr, e_ite, e_tup, e_lst, e_ix, e_sl, e_rev, e_call, e_bi, e_isi, e_draw, e_comp, turn_cons, turn_nil, es_nil, es_cons, eS_nil, eS_cons, eC_nil, eC_cons, eA_nil, eA_cons, arg_st, bl_ret, x_nil, then_nx, then_rt, then_ct, then_bk, x_cns, x_bx, x_asgn, x_par, eR_nil, eR_cons, par_nil, par_cons, x_ixs, x_ap, x_ifs, x_rt, x_fr, loop_nx, loop_ct, loop_bk, loop_rt, for_nil, for_cons, bindA, List.replicate, List.cons_append, List.nil_append, a_nm, a_tt, a_tl, as_n, as_c, List.set_cons_zero, List.set_cons_succ, List.length_cons, List.length_nil, setS, boxS, cond_true, cond_false, Bool.and_true, Bool.and_false, Bool.true_and, Bool.false_and, if_true, lk_nil, lk_v, lk_c, lk_g, lk_bin, lk_neg, lk_cmp, lk_chain, lk_nt, lk_and2, lk_or2, lk_tr, lk_ite, lk_tup, lk_lst, lk_ix, lk_sl, lk_rev, lk_call, lk_bi, lk_isi, lk_comp, lk_comp2, lk_draw, ul_nil, ul_v, ul_c, ul_g, ul_bin, ul_neg, ul_cmp, ul_chain, ul_nt, ul_and2, ul_or2, ul_tr, ul_ite, ul_tup, ul_lst, ul_ix, ul_sl, ul_rev, ul_call, ul_bi, ul_isi, ul_comp, ul_comp2, ul_draw, isV, tgS, tgSs, wipeE, rt_v, rt_c, rt_g, rt_bin, rt_neg, rt_cmp, rt_chain, rt_nt, rt_and2, rt_or2, rt_tr, rt_ite, rt_tup, rt_lst, rt_ix, rt_sl, rt_rev, rt_call, rt_bi, rt_isi, rt_comp, rt_comp2, rt_draw, b_lenl, b_lent, b_lens, b_abs, b_sum, b_max, b_min, b_max2, b_min2, b_tupl, b_tupt, b_lstl, b_lstt, b_inti, b_intb, b_all, b_any, b_gcd, is_nil, is_cons, bs_nil, bs_cons, s_seql, s_seqt, s_seqs, s_r1, s_r2, s_zip, s_zipt, s_enum, s_enumt, s_rev, s_revt, s_rr, z_cons, z_nil, z_nil2, n_cons, n_nil, sl_l, sl_t, one_0, one_1, cut_from, cut_to, rv_l, tr_n, tr_b, tr_i, tr_l, tr_t, x_rtN, x_brk, x_cnt, x_pas, x_frz, x_drp, List.getElem?_cons_zero, List.getElem?_cons_succ, arg_c, arg_g, arg_bin, arg_neg, arg_cmp, arg_chain, arg_nt, arg_and2, arg_or2, arg_tr, arg_ite, arg_tup, arg_lst, arg_ix, arg_sl, arg_rev, arg_call, arg_bi, arg_isi, arg_comp, arg_draw, bind_drw, blT_drw, then_drw, loop_drw, all_drw, all_ret, c_lt, c_le, c_gt, c_ge, c_eq, c_ne, c_isN, c_notN, cond_dec, cond_not, cond_and, cond_or, dr10, dr01, ex_ite, wt_nx, wt_rt, wt_ct, wt_bk, wt_drw, q_eq, F_inj, k_addl, k_addt, k_ap, rng2, line, rangeL, List.sum_cons, List.sum_nil, tyD, allTy, run]
  intro a ha
  have i1 : Sm 5 ((a : Int) - 4) := ⟨by omega⟩
  rw [wp_cons]
  simp (maxSteps := 10000000) (implicitDefEqProofs := false) (disch := omega) [b12, gl0, gl2, gl7, gl8, gl10, gl1, gl11, gl13, gl14, gl16, gl9, gl17, gl18, gl22, gl23, gl24, gl20, gl21, gl3, gl19, gl15, gl4, gl5, gl6, G0, G1, S0, S1, M0, M1, isn_n, isn_F, isn_i, b_ret, o_some, map_some, obind_some, k_add, k_sub, k_mul, k_ixl, k_ixt, ix_0, ix_1, ix_2, ix_3, ix_4, ix_5, ix_6, ix_7, ix_8, ix_9, ix_10, ix_11, ix_12, st_0, st_1, st_2, st_3, st_4, st_5, st_6, st_7, st_8, st_9, st_10, st_11, st_12, rd_0, rd_b, rd_l, rd_s, own_0, own_p, own_s, own_n, e_c, e_g, e_v, e_bin, neg_i, e_neg, e_cmp, e_chain, e_nt, e_and, e_or, e_tr, e_ite, e_tup, e_lst, e_ix, e_sl, e_rev, e_call, e_bi, e_isi, e_draw, e_comp, turn_cons, turn_nil, es_nil, es_cons, eS_nil, eS_cons, eC_nil, eC_cons, eA_nil, eA_cons, arg_st, bl_ret, x_nil, then_nx, then_rt, then_ct, then_bk, x_cns, x_bx, x_asgn, x_par, eR_nil, eR_cons, par_nil, par_cons, x_ixs, x_ap, x_ifs, x_rt, x_fr, loop_nx, loop_ct, loop_bk, loop_rt, for_nil, for_cons, bindA, List.replicate, List.cons_append, List.nil_append, a_nm, a_tt, a_tl, as_n, as_c, List.set_cons_zero, List.set_cons_succ, List.length_cons, List.length_nil, setS, boxS, cond_true, cond_false, Bool.and_true, Bool.and_false, Bool.true_and, Bool.false_and, if_true, lk_nil, lk_v, lk_c, lk_g, lk_bin, lk_neg, lk_cmp, lk_chain, lk_nt, lk_and2, lk_or2, lk_tr, lk_ite, lk_tup, lk_lst, lk_ix, lk_sl, lk_rev, lk_call, lk_bi, lk_isi, lk_comp, lk_comp2, lk_draw, ul_nil, ul_v, ul_c, ul_g, ul_bin, ul_neg, ul_cmp, ul_chain, ul_nt, ul_and2, ul_or2, ul_tr, ul_ite, ul_tup, ul_lst, ul_ix, ul_sl, ul_rev, ul_call, ul_bi, ul_isi, ul_comp, ul_comp2, ul_draw, isV, tgS, tgSs, wipeE, rt_v, rt_c, rt_g, rt_bin, rt_neg, rt_cmp, rt_chain, rt_nt, rt_and2, rt_or2, rt_tr, rt_ite, rt_tup, rt_lst, rt_ix, rt_sl, rt_rev, rt_call, rt_bi, rt_isi, rt_comp, rt_comp2, rt_draw, b_lenl, b_lent, b_lens, b_abs, b_sum, b_max, b_min, b_max2, b_min2, b_tupl, b_tupt, b_lstl, b_lstt, b_inti, b_intb, b_all, b_any, b_gcd, is_nil, is_cons, bs_nil, bs_cons, s_seql, s_seqt, s_seqs, s_r1, s_r2, s_zip, s_zipt, s_enum, s_enumt, s_rev, s_revt, s_rr, z_cons, z_nil, z_nil2, n_cons, n_nil, sl_l, sl_t, one_0, one_1, cut_from, cut_to, rv_l, tr_n, tr_b, tr_i, tr_l, tr_t, x_rtN, x_brk, x_cnt, x_pas, x_frz, x_drp, List.getElem?_cons_zero, List.getElem?_cons_succ, arg_c, arg_g, arg_bin, arg_neg, arg_cmp, arg_chain, arg_nt, arg_and2, arg_or2, arg_tr, arg_ite, arg_tup, arg_lst, arg_ix, arg_sl, arg_rev, arg_call, arg_bi, arg_isi, arg_comp, arg_draw, bind_drw, blT_drw, then_drw, loop_drw, all_drw, all_ret, c_lt, c_le, c_gt, c_ge, c_eq, c_ne, c_isN, c_notN, cond_dec, cond_not, cond_and, cond_or, dr10, dr01, ex_ite, wt_nx, wt_rt, wt_ct, wt_bk, wt_drw, q_eq, F_inj, k_addl, k_addt, k_ap, rng2, line, rangeL, List.sum_cons, List.sum_nil, tyD, allTy, run]
  intro b hb c hc d hd e he
  have i2 : Sm 5 ((b : Int) - 9) := ⟨by omega⟩
  have i3 : Sm 5 ((c : Int) - 9) := ⟨by omega⟩
  have i4 : Sm 5 ((d : Int) - 4) := ⟨by omega⟩
  have i5 : Sm 5 (1 + (e : Int)) := ⟨by omega⟩
  exact t13 (u := ⟨(b : Int) - 9, (c : Int) - 9⟩) (v := ⟨(d : Int) - 4, 1 + (e : Int)⟩) hm im ho io gp ip gq iq gr ir gs is i1 ⟨i2, i3⟩ ⟨i4, i5⟩
theorem t9 {s2 s6 s10 s11 s12 s13 s14 s15 s16 s17 s18 s19 s20 s21 s22 s23 s24 s25 : Slot} {m o : M2} (hm : m.det ≠ .zero) (im : SmT 4 m) (ho : o.det ≠ .zero) (io : SmT 4 o) {p q r s : Sp} (gp : Gs p) (ip : SmS 20 p) (gq : Gs q) (iq : SmS 20 q) (gr : Gs r) (ir : SmS 20 r) (gs : Gs s) (is : SmS 20 s) :
    Wp g_law [b9, b10, b11, b12, b13, b14, b15, b16, b17] [.scr, .st, s2, .pl (MD m), .pl (MD o), .pl (.lst [SD p, SD q, SD r, SD s]), s6, .pl (SD p), .pl (GD m.a), .pl (GD m.b), s10, s11, s12, s13, s14, s15, s16, s17, s18, s19, s20, s21, s22, s23, s24, s25] OK := by
  have j1 : SmT 51 ((o.mul m).mul o.back) := (inferInstance : SmT _ ((o.mul m).mul o.back)).up (by omega)
  have e1 : r__law_table_times [.d (MD (o.mul m)), .d (MD o.back)] = .ret (MD (mix o m), false) := p__law_table (by omega)
  have j1 : SmT 51 (mix o m) := j1
  have e2 : r_kind_of_map [.d (MD (mix o m))] = .ret (kd m, false) := by rw [p_kind (by omega), kd_mix ho]
  have e3 : r_kind_of_map [.d (MD m)] = .ret (kd m, false) := p_kind (p := 4) (by omega)
  rw [wp_cons]
  simp (maxSteps := 10000000) (implicitDefEqProofs := false) (disch := omega) [b9, p__law_table, p_back, e1, gl0, gl2, gl7, gl8, gl10, gl1, gl11, gl13, gl14, gl16, gl9, gl17, gl18, gl22, gl23, gl24, gl20, gl21, gl3, gl19, gl15, gl4, gl5, gl6, G0, G1, S0, S1, M0, M1, isn_n, isn_F, isn_i, b_ret, o_some, map_some, obind_some, k_add, k_sub, k_mul, k_ixl, k_ixt, ix_0, ix_1, ix_2, ix_3, ix_4, ix_5, ix_6, ix_7, ix_8, ix_9, ix_10, ix_11, ix_12, st_0, st_1, st_2, st_3, st_4, st_5, st_6, st_7, st_8, st_9, st_10, st_11, st_12, rd_0, rd_b, rd_l, rd_s, own_0, own_p, own_s, own_n, e_c, e_g, e_v, e_bin, neg_i, e_neg, e_cmp, e_chain, e_nt, e_and, e_or, e_tr, e_ite, e_tup, e_lst, e_ix, e_sl, e_rev, e_call, e_bi, e_isi, e_draw, e_comp, turn_cons, turn_nil, es_nil, es_cons, eS_nil, eS_cons, eC_nil, eC_cons, eA_nil, eA_cons, arg_st, bl_ret, x_nil, then_nx, then_rt, then_ct, then_bk, x_cns, x_bx, x_asgn, x_par, eR_nil, eR_cons, par_nil, par_cons, x_ixs, x_ap, x_ifs, x_rt, x_fr, loop_nx, loop_ct, loop_bk, loop_rt, for_nil, for_cons, bindA, List.replicate, List.cons_append, List.nil_append, a_nm, a_tt, a_tl, as_n, as_c, List.set_cons_zero, List.set_cons_succ, List.length_cons, List.length_nil, setS, boxS, cond_true, cond_false, Bool.and_true, Bool.and_false, Bool.true_and, Bool.false_and, if_true, lk_nil, lk_v, lk_c, lk_g, lk_bin, lk_neg, lk_cmp, lk_chain, lk_nt, lk_and2, lk_or2, lk_tr, lk_ite, lk_tup, lk_lst, lk_ix, lk_sl, lk_rev, lk_call, lk_bi, lk_isi, lk_comp, lk_comp2, lk_draw, ul_nil, ul_v, ul_c, ul_g, ul_bin, ul_neg, ul_cmp, ul_chain, ul_nt, ul_and2, ul_or2, ul_tr, ul_ite, ul_tup, ul_lst, ul_ix, ul_sl, ul_rev, ul_call, ul_bi, ul_isi, ul_comp, ul_comp2, ul_draw, isV, tgS, tgSs, wipeE, rt_v, rt_c, rt_g, rt_bin, rt_neg, rt_cmp, rt_chain, rt_nt, rt_and2, rt_or2, rt_tr, rt_ite, rt_tup, rt_lst, rt_ix, rt_sl, rt_rev, rt_call, rt_bi, rt_isi, rt_comp, rt_comp2, rt_draw, b_lenl, b_lent, b_lens, b_abs, b_sum, b_max, b_min, b_max2, b_min2, b_tupl, b_tupt, b_lstl, b_lstt, b_inti, b_intb, b_all, b_any, b_gcd, is_nil, is_cons, bs_nil, bs_cons, s_seql, s_seqt, s_seqs, s_r1, s_r2, s_zip, s_zipt, s_enum, s_enumt, s_rev, s_revt, s_rr, z_cons, z_nil, z_nil2, n_cons, n_nil, sl_l, sl_t, one_0, one_1, cut_from, cut_to, rv_l, tr_n, tr_b, tr_i, tr_l, tr_t, x_rtN, x_brk, x_cnt, x_pas, x_frz, x_drp, List.getElem?_cons_zero, List.getElem?_cons_succ, arg_c, arg_g, arg_bin, arg_neg, arg_cmp, arg_chain, arg_nt, arg_and2, arg_or2, arg_tr, arg_ite, arg_tup, arg_lst, arg_ix, arg_sl, arg_rev, arg_call, arg_bi, arg_isi, arg_comp, arg_draw, bind_drw, blT_drw, then_drw, loop_drw, all_drw, all_ret, c_lt, c_le, c_gt, c_ge, c_eq, c_ne, c_isN, c_notN, cond_dec, cond_not, cond_and, cond_or, dr10, dr01, ex_ite, wt_nx, wt_rt, wt_ct, wt_bk, wt_drw, q_eq, F_inj, k_addl, k_addt, k_ap, rng2, line, rangeL, List.sum_cons, List.sum_nil, tyD, allTy, run]
  by_cases h : still m
  · have hk := kd_still.mpr h
    have hd : (mix o m).det ≠ .zero := by rw [det_mix]; exact G2.mul_ne (G2.mul_ne ho ho) hm
    have e4 : r_led_by [.d (MD (mix o m)), .d (SD p)] = .ret (SD p, false) := by rw [p_led (by omega), still_led hd ((still_mix ho).mpr h) gp]
    rw [hk] at e2 e3
    rw [wp_cons]
    simp (maxSteps := 10000000) (implicitDefEqProofs := false) (disch := omega) [b10, e2, e3, e4, gl0, gl2, gl7, gl8, gl10, gl1, gl11, gl13, gl14, gl16, gl9, gl17, gl18, gl22, gl23, gl24, gl20, gl21, gl3, gl19, gl15, gl4, gl5, gl6, G0, G1, S0, S1, M0, M1, isn_n, isn_F, isn_i, b_ret, o_some, map_some, obind_some, k_add, k_sub, k_mul, k_ixl, k_ixt, ix_0, ix_1, ix_2, ix_3, ix_4, ix_5, ix_6, ix_7, ix_8, ix_9, ix_10, ix_11, ix_12, st_0, st_1, st_2, st_3, st_4, st_5, st_6, st_7, st_8, st_9, st_10, st_11, st_12, rd_0, rd_b, rd_l, rd_s, own_0, own_p, own_s, own_n, e_c, e_g, e_v, e_bin, neg_i, e_neg, e_cmp, e_chain, e_nt, e_and, e_or, e_tr, e_ite, e_tup, e_lst, e_ix, e_sl, e_rev, e_call, e_bi, e_isi, e_draw, e_comp, turn_cons, turn_nil, es_nil, es_cons, eS_nil, eS_cons, eC_nil, eC_cons, eA_nil, eA_cons, arg_st, bl_ret, x_nil, then_nx, then_rt, then_ct, then_bk, x_cns, x_bx, x_asgn, x_par, eR_nil, eR_cons, par_nil, par_cons, x_ixs, x_ap, x_ifs, x_rt, x_fr, loop_nx, loop_ct, loop_bk, loop_rt, for_nil, for_cons, bindA, List.replicate, List.cons_append, List.nil_append, a_nm, a_tt, a_tl, as_n, as_c, List.set_cons_zero, List.set_cons_succ, List.length_cons, List.length_nil, setS, boxS, cond_true, cond_false, Bool.and_true, Bool.and_false, Bool.true_and, Bool.false_and, if_true, lk_nil, lk_v, lk_c, lk_g, lk_bin, lk_neg, lk_cmp, lk_chain, lk_nt, lk_and2, lk_or2, lk_tr, lk_ite, lk_tup, lk_lst, lk_ix, lk_sl, lk_rev, lk_call, lk_bi, lk_isi, lk_comp, lk_comp2, lk_draw, ul_nil, ul_v, ul_c, ul_g, ul_bin, ul_neg, ul_cmp, ul_chain, ul_nt, ul_and2, ul_or2, ul_tr, ul_ite, ul_tup, ul_lst, ul_ix, ul_sl, ul_rev, ul_call, ul_bi, ul_isi, ul_comp, ul_comp2, ul_draw, isV, tgS, tgSs, wipeE, rt_v, rt_c, rt_g, rt_bin, rt_neg, rt_cmp, rt_chain, rt_nt, rt_and2, rt_or2, rt_tr, rt_ite, rt_tup, rt_lst, rt_ix, rt_sl, rt_rev, rt_call, rt_bi, rt_isi, rt_comp, rt_comp2, rt_draw, b_lenl, b_lent, b_lens, b_abs, b_sum, b_max, b_min, b_max2, b_min2, b_tupl, b_tupt, b_lstl, b_lstt, b_inti, b_intb, b_all, b_any, b_gcd, is_nil, is_cons, bs_nil, bs_cons, s_seql, s_seqt, s_seqs, s_r1, s_r2, s_zip, s_zipt, s_enum, s_enumt, s_rev, s_revt, s_rr, z_cons, z_nil, z_nil2, n_cons, n_nil, sl_l, sl_t, one_0, one_1, cut_from, cut_to, rv_l, tr_n, tr_b, tr_i, tr_l, tr_t, x_rtN, x_brk, x_cnt, x_pas, x_frz, x_drp, List.getElem?_cons_zero, List.getElem?_cons_succ, arg_c, arg_g, arg_bin, arg_neg, arg_cmp, arg_chain, arg_nt, arg_and2, arg_or2, arg_tr, arg_ite, arg_tup, arg_lst, arg_ix, arg_sl, arg_rev, arg_call, arg_bi, arg_isi, arg_comp, arg_draw, bind_drw, blT_drw, then_drw, loop_drw, all_drw, all_ret, c_lt, c_le, c_gt, c_ge, c_eq, c_ne, c_isN, c_notN, cond_dec, cond_not, cond_and, cond_or, dr10, dr01, ex_ite, wt_nx, wt_rt, wt_ct, wt_bk, wt_drw, q_eq, F_inj, k_addl, k_addt, k_ap, rng2, line, rangeL, List.sum_cons, List.sum_nil, tyD, allTy, run]
    exact t11 hm im ho io gp ip gq iq gr ir gs is
  · have hk : ¬ kd m = .str [115, 116, 105, 108, 108] := fun z => h (kd_still.mp z)
    rw [wp_cons]
    simp (maxSteps := 10000000) (implicitDefEqProofs := false) (disch := omega) [b10, e2, e3, hk, gl0, gl2, gl7, gl8, gl10, gl1, gl11, gl13, gl14, gl16, gl9, gl17, gl18, gl22, gl23, gl24, gl20, gl21, gl3, gl19, gl15, gl4, gl5, gl6, G0, G1, S0, S1, M0, M1, isn_n, isn_F, isn_i, b_ret, o_some, map_some, obind_some, k_add, k_sub, k_mul, k_ixl, k_ixt, ix_0, ix_1, ix_2, ix_3, ix_4, ix_5, ix_6, ix_7, ix_8, ix_9, ix_10, ix_11, ix_12, st_0, st_1, st_2, st_3, st_4, st_5, st_6, st_7, st_8, st_9, st_10, st_11, st_12, rd_0, rd_b, rd_l, rd_s, own_0, own_p, own_s, own_n, e_c, e_g, e_v, e_bin, neg_i, e_neg, e_cmp, e_chain, e_nt, e_and, e_or, e_tr, e_ite, e_tup, e_lst, e_ix, e_sl, e_rev, e_call, e_bi, e_isi, e_draw, e_comp, turn_cons, turn_nil, es_nil, es_cons, eS_nil, eS_cons, eC_nil, eC_cons, eA_nil, eA_cons, arg_st, bl_ret, x_nil, then_nx, then_rt, then_ct, then_bk, x_cns, x_bx, x_asgn, x_par, eR_nil, eR_cons, par_nil, par_cons, x_ixs, x_ap, x_ifs, x_rt, x_fr, loop_nx, loop_ct, loop_bk, loop_rt, for_nil, for_cons, bindA, List.replicate, List.cons_append, List.nil_append, a_nm, a_tt, a_tl, as_n, as_c, List.set_cons_zero, List.set_cons_succ, List.length_cons, List.length_nil, setS, boxS, cond_true, cond_false, Bool.and_true, Bool.and_false, Bool.true_and, Bool.false_and, if_true, lk_nil, lk_v, lk_c, lk_g, lk_bin, lk_neg, lk_cmp, lk_chain, lk_nt, lk_and2, lk_or2, lk_tr, lk_ite, lk_tup, lk_lst, lk_ix, lk_sl, lk_rev, lk_call, lk_bi, lk_isi, lk_comp, lk_comp2, lk_draw, ul_nil, ul_v, ul_c, ul_g, ul_bin, ul_neg, ul_cmp, ul_chain, ul_nt, ul_and2, ul_or2, ul_tr, ul_ite, ul_tup, ul_lst, ul_ix, ul_sl, ul_rev, ul_call, ul_bi, ul_isi, ul_comp, ul_comp2, ul_draw, isV, tgS, tgSs, wipeE, rt_v, rt_c, rt_g, rt_bin, rt_neg, rt_cmp, rt_chain, rt_nt, rt_and2, rt_or2, rt_tr, rt_ite, rt_tup, rt_lst, rt_ix, rt_sl, rt_rev, rt_call, rt_bi, rt_isi, rt_comp, rt_comp2, rt_draw, b_lenl, b_lent, b_lens, b_abs, b_sum, b_max, b_min, b_max2, b_min2, b_tupl, b_tupt, b_lstl, b_lstt, b_inti, b_intb, b_all, b_any, b_gcd, is_nil, is_cons, bs_nil, bs_cons, s_seql, s_seqt, s_seqs, s_r1, s_r2, s_zip, s_zipt, s_enum, s_enumt, s_rev, s_revt, s_rr, z_cons, z_nil, z_nil2, n_cons, n_nil, sl_l, sl_t, one_0, one_1, cut_from, cut_to, rv_l, tr_n, tr_b, tr_i, tr_l, tr_t, x_rtN, x_brk, x_cnt, x_pas, x_frz, x_drp, List.getElem?_cons_zero, List.getElem?_cons_succ, arg_c, arg_g, arg_bin, arg_neg, arg_cmp, arg_chain, arg_nt, arg_and2, arg_or2, arg_tr, arg_ite, arg_tup, arg_lst, arg_ix, arg_sl, arg_rev, arg_call, arg_bi, arg_isi, arg_comp, arg_draw, bind_drw, blT_drw, then_drw, loop_drw, all_drw, all_ret, c_lt, c_le, c_gt, c_ge, c_eq, c_ne, c_isN, c_notN, cond_dec, cond_not, cond_and, cond_or, dr10, dr01, ex_ite, wt_nx, wt_rt, wt_ct, wt_bk, wt_drw, q_eq, F_inj, k_addl, k_addt, k_ap, rng2, line, rangeL, List.sum_cons, List.sum_nil, tyD, allTy, run]
    exact t11 hm im ho io gp ip gq iq gr ir gs is
theorem t5 {s2 s6 s10 s11 s12 s13 s14 s15 s16 s17 s18 s19 s20 s21 s22 s23 s24 s25 : Slot} {m o : M2} (hm : m.det ≠ .zero) (im : SmT 4 m) (ho : o.det ≠ .zero) (io : SmT 4 o) {p q r s : Sp} (gp : Gs p) (ip : SmS 20 p) (gq : Gs q) (iq : SmS 20 q) (gr : Gs r) (ir : SmS 20 r) (gs : Gs s) (is : SmS 20 s) :
    Wp g_law [b5, b6, b7, b8, b9, b10, b11, b12, b13, b14, b15, b16, b17] [.scr, .st, s2, .pl (MD m), .pl (MD o), .pl (.lst [SD p, SD q, SD r, SD s]), s6, .pl (SD p), .pl (GD m.a), .pl (GD m.b), s10, s11, s12, s13, s14, s15, s16, s17, s18, s19, s20, s21, s22, s23, s24, s25] OK := by
  have i1 : Sm 1 1 := ⟨by decide⟩
  have a1 : SmG 9 (m.a.mul m.d) := inferInstance
  have a2 : SmG 9 (m.b.mul m.c) := inferInstance
  have e5 : r__law_two_plus [.d (GD (m.a.mul m.d)), .d (GD (m.b.mul m.c)), .d (.int (-1))] = .ret (GD m.det, false) := p_plus (by omega)
  have e6 : r__law_two_plus [.d (GD m.a), .d (GD m.d), .d (.int 1)] = .ret (GD m.tr, false) := by rw [p_plus (by omega), sm_one]; rfl
  have ek := p__law_kind (m := m) (p := 4) (by omega) hm
  have ek2 : r_kind_of_map [.d (MD m)] = .ret (kd m, false) := p_kind (p := 4) (by omega)
  have j1 := (sm_led im ip).mono' (show _ ≤ 152 by omega)
  have j2 := (sm_led io ip).mono' (show _ ≤ 152 by omega)
  have f1 := led_mul hm ho gp
  have f2 := led_back hm gp
  rw [wp_cons]
  simp (maxSteps := 10000000) (implicitDefEqProofs := false) (disch := omega) [b5, p_times, e5, gl0, gl2, gl7, gl8, gl10, gl1, gl11, gl13, gl14, gl16, gl9, gl17, gl18, gl22, gl23, gl24, gl20, gl21, gl3, gl19, gl15, gl4, gl5, gl6, G0, G1, S0, S1, M0, M1, isn_n, isn_F, isn_i, b_ret, o_some, map_some, obind_some, k_add, k_sub, k_mul, k_ixl, k_ixt, ix_0, ix_1, ix_2, ix_3, ix_4, ix_5, ix_6, ix_7, ix_8, ix_9, ix_10, ix_11, ix_12, st_0, st_1, st_2, st_3, st_4, st_5, st_6, st_7, st_8, st_9, st_10, st_11, st_12, rd_0, rd_b, rd_l, rd_s, own_0, own_p, own_s, own_n, e_c, e_g, e_v, e_bin, neg_i, e_neg, e_cmp, e_chain, e_nt, e_and, e_or, e_tr, e_ite, e_tup, e_lst, e_ix, e_sl, e_rev, e_call, e_bi, e_isi, e_draw, e_comp, turn_cons, turn_nil, es_nil, es_cons, eS_nil, eS_cons, eC_nil, eC_cons, eA_nil, eA_cons, arg_st, bl_ret, x_nil, then_nx, then_rt, then_ct, then_bk, x_cns, x_bx, x_asgn, x_par, eR_nil, eR_cons, par_nil, par_cons, x_ixs, x_ap, x_ifs, x_rt, x_fr, loop_nx, loop_ct, loop_bk, loop_rt, for_nil, for_cons, bindA, List.replicate, List.cons_append, List.nil_append, a_nm, a_tt, a_tl, as_n, as_c, List.set_cons_zero, List.set_cons_succ, List.length_cons, List.length_nil, setS, boxS, cond_true, cond_false, Bool.and_true, Bool.and_false, Bool.true_and, Bool.false_and, if_true, lk_nil, lk_v, lk_c, lk_g, lk_bin, lk_neg, lk_cmp, lk_chain, lk_nt, lk_and2, lk_or2, lk_tr, lk_ite, lk_tup, lk_lst, lk_ix, lk_sl, lk_rev, lk_call, lk_bi, lk_isi, lk_comp, lk_comp2, lk_draw, ul_nil, ul_v, ul_c, ul_g, ul_bin, ul_neg, ul_cmp, ul_chain, ul_nt, ul_and2, ul_or2, ul_tr, ul_ite, ul_tup, ul_lst, ul_ix, ul_sl, ul_rev, ul_call, ul_bi, ul_isi, ul_comp, ul_comp2, ul_draw, isV, tgS, tgSs, wipeE, rt_v, rt_c, rt_g, rt_bin, rt_neg, rt_cmp, rt_chain, rt_nt, rt_and2, rt_or2, rt_tr, rt_ite, rt_tup, rt_lst, rt_ix, rt_sl, rt_rev, rt_call, rt_bi, rt_isi, rt_comp, rt_comp2, rt_draw, b_lenl, b_lent, b_lens, b_abs, b_sum, b_max, b_min, b_max2, b_min2, b_tupl, b_tupt, b_lstl, b_lstt, b_inti, b_intb, b_all, b_any, b_gcd, is_nil, is_cons, bs_nil, bs_cons, s_seql, s_seqt, s_seqs, s_r1, s_r2, s_zip, s_zipt, s_enum, s_enumt, s_rev, s_revt, s_rr, z_cons, z_nil, z_nil2, n_cons, n_nil, sl_l, sl_t, one_0, one_1, cut_from, cut_to, rv_l, tr_n, tr_b, tr_i, tr_l, tr_t, x_rtN, x_brk, x_cnt, x_pas, x_frz, x_drp, List.getElem?_cons_zero, List.getElem?_cons_succ, arg_c, arg_g, arg_bin, arg_neg, arg_cmp, arg_chain, arg_nt, arg_and2, arg_or2, arg_tr, arg_ite, arg_tup, arg_lst, arg_ix, arg_sl, arg_rev, arg_call, arg_bi, arg_isi, arg_comp, arg_draw, bind_drw, blT_drw, then_drw, loop_drw, all_drw, all_ret, c_lt, c_le, c_gt, c_ge, c_eq, c_ne, c_isN, c_notN, cond_dec, cond_not, cond_and, cond_or, dr10, dr01, ex_ite, wt_nx, wt_rt, wt_ct, wt_bk, wt_drw, q_eq, F_inj, k_addl, k_addt, k_ap, rng2, line, rangeL, List.sum_cons, List.sum_nil, tyD, allTy, run]
  rw [wp_cons]
  simp (maxSteps := 10000000) (implicitDefEqProofs := false) (disch := omega) [b6, p__law_led, p__law_table, e6, ek, gl0, gl2, gl7, gl8, gl10, gl1, gl11, gl13, gl14, gl16, gl9, gl17, gl18, gl22, gl23, gl24, gl20, gl21, gl3, gl19, gl15, gl4, gl5, gl6, G0, G1, S0, S1, M0, M1, isn_n, isn_F, isn_i, b_ret, o_some, map_some, obind_some, k_add, k_sub, k_mul, k_ixl, k_ixt, ix_0, ix_1, ix_2, ix_3, ix_4, ix_5, ix_6, ix_7, ix_8, ix_9, ix_10, ix_11, ix_12, st_0, st_1, st_2, st_3, st_4, st_5, st_6, st_7, st_8, st_9, st_10, st_11, st_12, rd_0, rd_b, rd_l, rd_s, own_0, own_p, own_s, own_n, e_c, e_g, e_v, e_bin, neg_i, e_neg, e_cmp, e_chain, e_nt, e_and, e_or, e_tr, e_ite, e_tup, e_lst, e_ix, e_sl, e_rev, e_call, e_bi, e_isi, e_draw, e_comp, turn_cons, turn_nil, es_nil, es_cons, eS_nil, eS_cons, eC_nil, eC_cons, eA_nil, eA_cons, arg_st, bl_ret, x_nil, then_nx, then_rt, then_ct, then_bk, x_cns, x_bx, x_asgn, x_par, eR_nil, eR_cons, par_nil, par_cons, x_ixs, x_ap, x_ifs, x_rt, x_fr, loop_nx, loop_ct, loop_bk, loop_rt, for_nil, for_cons, bindA, List.replicate, List.cons_append, List.nil_append, a_nm, a_tt, a_tl, as_n, as_c, List.set_cons_zero, List.set_cons_succ, List.length_cons, List.length_nil, setS, boxS, cond_true, cond_false, Bool.and_true, Bool.and_false, Bool.true_and, Bool.false_and, if_true, lk_nil, lk_v, lk_c, lk_g, lk_bin, lk_neg, lk_cmp, lk_chain, lk_nt, lk_and2, lk_or2, lk_tr, lk_ite, lk_tup, lk_lst, lk_ix, lk_sl, lk_rev, lk_call, lk_bi, lk_isi, lk_comp, lk_comp2, lk_draw, ul_nil, ul_v, ul_c, ul_g, ul_bin, ul_neg, ul_cmp, ul_chain, ul_nt, ul_and2, ul_or2, ul_tr, ul_ite, ul_tup, ul_lst, ul_ix, ul_sl, ul_rev, ul_call, ul_bi, ul_isi, ul_comp, ul_comp2, ul_draw, isV, tgS, tgSs, wipeE, rt_v, rt_c, rt_g, rt_bin, rt_neg, rt_cmp, rt_chain, rt_nt, rt_and2, rt_or2, rt_tr, rt_ite, rt_tup, rt_lst, rt_ix, rt_sl, rt_rev, rt_call, rt_bi, rt_isi, rt_comp, rt_comp2, rt_draw, b_lenl, b_lent, b_lens, b_abs, b_sum, b_max, b_min, b_max2, b_min2, b_tupl, b_tupt, b_lstl, b_lstt, b_inti, b_intb, b_all, b_any, b_gcd, is_nil, is_cons, bs_nil, bs_cons, s_seql, s_seqt, s_seqs, s_r1, s_r2, s_zip, s_zipt, s_enum, s_enumt, s_rev, s_revt, s_rr, z_cons, z_nil, z_nil2, n_cons, n_nil, sl_l, sl_t, one_0, one_1, cut_from, cut_to, rv_l, tr_n, tr_b, tr_i, tr_l, tr_t, x_rtN, x_brk, x_cnt, x_pas, x_frz, x_drp, List.getElem?_cons_zero, List.getElem?_cons_succ, arg_c, arg_g, arg_bin, arg_neg, arg_cmp, arg_chain, arg_nt, arg_and2, arg_or2, arg_tr, arg_ite, arg_tup, arg_lst, arg_ix, arg_sl, arg_rev, arg_call, arg_bi, arg_isi, arg_comp, arg_draw, bind_drw, blT_drw, then_drw, loop_drw, all_drw, all_ret, c_lt, c_le, c_gt, c_ge, c_eq, c_ne, c_isN, c_notN, cond_dec, cond_not, cond_and, cond_or, dr10, dr01, ex_ite, wt_nx, wt_rt, wt_ct, wt_bk, wt_drw, q_eq, F_inj, k_addl, k_addt, k_ap, rng2, line, rangeL, List.sum_cons, List.sum_nil, tyD, allTy, run]
  rw [wp_cons]
  simp (maxSteps := 10000000) (implicitDefEqProofs := false) (disch := omega) [b7, p_led, p_table, p_det, p_tr, ek2, gl0, gl2, gl7, gl8, gl10, gl1, gl11, gl13, gl14, gl16, gl9, gl17, gl18, gl22, gl23, gl24, gl20, gl21, gl3, gl19, gl15, gl4, gl5, gl6, G0, G1, S0, S1, M0, M1, isn_n, isn_F, isn_i, b_ret, o_some, map_some, obind_some, k_add, k_sub, k_mul, k_ixl, k_ixt, ix_0, ix_1, ix_2, ix_3, ix_4, ix_5, ix_6, ix_7, ix_8, ix_9, ix_10, ix_11, ix_12, st_0, st_1, st_2, st_3, st_4, st_5, st_6, st_7, st_8, st_9, st_10, st_11, st_12, rd_0, rd_b, rd_l, rd_s, own_0, own_p, own_s, own_n, e_c, e_g, e_v, e_bin, neg_i, e_neg, e_cmp, e_chain, e_nt, e_and, e_or, e_tr, e_ite, e_tup, e_lst, e_ix, e_sl, e_rev, e_call, e_bi, e_isi, e_draw, e_comp, turn_cons, turn_nil, es_nil, es_cons, eS_nil, eS_cons, eC_nil, eC_cons, eA_nil, eA_cons, arg_st, bl_ret, x_nil, then_nx, then_rt, then_ct, then_bk, x_cns, x_bx, x_asgn, x_par, eR_nil, eR_cons, par_nil, par_cons, x_ixs, x_ap, x_ifs, x_rt, x_fr, loop_nx, loop_ct, loop_bk, loop_rt, for_nil, for_cons, bindA, List.replicate, List.cons_append, List.nil_append, a_nm, a_tt, a_tl, as_n, as_c, List.set_cons_zero, List.set_cons_succ, List.length_cons, List.length_nil, setS, boxS, cond_true, cond_false, Bool.and_true, Bool.and_false, Bool.true_and, Bool.false_and, if_true, lk_nil, lk_v, lk_c, lk_g, lk_bin, lk_neg, lk_cmp, lk_chain, lk_nt, lk_and2, lk_or2, lk_tr, lk_ite, lk_tup, lk_lst, lk_ix, lk_sl, lk_rev, lk_call, lk_bi, lk_isi, lk_comp, lk_comp2, lk_draw, ul_nil, ul_v, ul_c, ul_g, ul_bin, ul_neg, ul_cmp, ul_chain, ul_nt, ul_and2, ul_or2, ul_tr, ul_ite, ul_tup, ul_lst, ul_ix, ul_sl, ul_rev, ul_call, ul_bi, ul_isi, ul_comp, ul_comp2, ul_draw, isV, tgS, tgSs, wipeE, rt_v, rt_c, rt_g, rt_bin, rt_neg, rt_cmp, rt_chain, rt_nt, rt_and2, rt_or2, rt_tr, rt_ite, rt_tup, rt_lst, rt_ix, rt_sl, rt_rev, rt_call, rt_bi, rt_isi, rt_comp, rt_comp2, rt_draw, b_lenl, b_lent, b_lens, b_abs, b_sum, b_max, b_min, b_max2, b_min2, b_tupl, b_tupt, b_lstl, b_lstt, b_inti, b_intb, b_all, b_any, b_gcd, is_nil, is_cons, bs_nil, bs_cons, s_seql, s_seqt, s_seqs, s_r1, s_r2, s_zip, s_zipt, s_enum, s_enumt, s_rev, s_revt, s_rr, z_cons, z_nil, z_nil2, n_cons, n_nil, sl_l, sl_t, one_0, one_1, cut_from, cut_to, rv_l, tr_n, tr_b, tr_i, tr_l, tr_t, x_rtN, x_brk, x_cnt, x_pas, x_frz, x_drp, List.getElem?_cons_zero, List.getElem?_cons_succ, arg_c, arg_g, arg_bin, arg_neg, arg_cmp, arg_chain, arg_nt, arg_and2, arg_or2, arg_tr, arg_ite, arg_tup, arg_lst, arg_ix, arg_sl, arg_rev, arg_call, arg_bi, arg_isi, arg_comp, arg_draw, bind_drw, blT_drw, then_drw, loop_drw, all_drw, all_ret, c_lt, c_le, c_gt, c_ge, c_eq, c_ne, c_isN, c_notN, cond_dec, cond_not, cond_and, cond_or, dr10, dr01, ex_ite, wt_nx, wt_rt, wt_ct, wt_bk, wt_drw, q_eq, F_inj, k_addl, k_addt, k_ap, rng2, line, rangeL, List.sum_cons, List.sum_nil, tyD, allTy, run]
  rw [wp_cons]
  simp (maxSteps := 10000000) (implicitDefEqProofs := false) (disch := omega) [b8, p_led, p_table, p__law_led, p_back, f1, f2, gl0, gl2, gl7, gl8, gl10, gl1, gl11, gl13, gl14, gl16, gl9, gl17, gl18, gl22, gl23, gl24, gl20, gl21, gl3, gl19, gl15, gl4, gl5, gl6, G0, G1, S0, S1, M0, M1, isn_n, isn_F, isn_i, b_ret, o_some, map_some, obind_some, k_add, k_sub, k_mul, k_ixl, k_ixt, ix_0, ix_1, ix_2, ix_3, ix_4, ix_5, ix_6, ix_7, ix_8, ix_9, ix_10, ix_11, ix_12, st_0, st_1, st_2, st_3, st_4, st_5, st_6, st_7, st_8, st_9, st_10, st_11, st_12, rd_0, rd_b, rd_l, rd_s, own_0, own_p, own_s, own_n, e_c, e_g, e_v, e_bin, neg_i, e_neg, e_cmp, e_chain, e_nt, e_and, e_or, e_tr, e_ite, e_tup, e_lst, e_ix, e_sl, e_rev, e_call, e_bi, e_isi, e_draw, e_comp, turn_cons, turn_nil, es_nil, es_cons, eS_nil, eS_cons, eC_nil, eC_cons, eA_nil, eA_cons, arg_st, bl_ret, x_nil, then_nx, then_rt, then_ct, then_bk, x_cns, x_bx, x_asgn, x_par, eR_nil, eR_cons, par_nil, par_cons, x_ixs, x_ap, x_ifs, x_rt, x_fr, loop_nx, loop_ct, loop_bk, loop_rt, for_nil, for_cons, bindA, List.replicate, List.cons_append, List.nil_append, a_nm, a_tt, a_tl, as_n, as_c, List.set_cons_zero, List.set_cons_succ, List.length_cons, List.length_nil, setS, boxS, cond_true, cond_false, Bool.and_true, Bool.and_false, Bool.true_and, Bool.false_and, if_true, lk_nil, lk_v, lk_c, lk_g, lk_bin, lk_neg, lk_cmp, lk_chain, lk_nt, lk_and2, lk_or2, lk_tr, lk_ite, lk_tup, lk_lst, lk_ix, lk_sl, lk_rev, lk_call, lk_bi, lk_isi, lk_comp, lk_comp2, lk_draw, ul_nil, ul_v, ul_c, ul_g, ul_bin, ul_neg, ul_cmp, ul_chain, ul_nt, ul_and2, ul_or2, ul_tr, ul_ite, ul_tup, ul_lst, ul_ix, ul_sl, ul_rev, ul_call, ul_bi, ul_isi, ul_comp, ul_comp2, ul_draw, isV, tgS, tgSs, wipeE, rt_v, rt_c, rt_g, rt_bin, rt_neg, rt_cmp, rt_chain, rt_nt, rt_and2, rt_or2, rt_tr, rt_ite, rt_tup, rt_lst, rt_ix, rt_sl, rt_rev, rt_call, rt_bi, rt_isi, rt_comp, rt_comp2, rt_draw, b_lenl, b_lent, b_lens, b_abs, b_sum, b_max, b_min, b_max2, b_min2, b_tupl, b_tupt, b_lstl, b_lstt, b_inti, b_intb, b_all, b_any, b_gcd, is_nil, is_cons, bs_nil, bs_cons, s_seql, s_seqt, s_seqs, s_r1, s_r2, s_zip, s_zipt, s_enum, s_enumt, s_rev, s_revt, s_rr, z_cons, z_nil, z_nil2, n_cons, n_nil, sl_l, sl_t, one_0, one_1, cut_from, cut_to, rv_l, tr_n, tr_b, tr_i, tr_l, tr_t, x_rtN, x_brk, x_cnt, x_pas, x_frz, x_drp, List.getElem?_cons_zero, List.getElem?_cons_succ, arg_c, arg_g, arg_bin, arg_neg, arg_cmp, arg_chain, arg_nt, arg_and2, arg_or2, arg_tr, arg_ite, arg_tup, arg_lst, arg_ix, arg_sl, arg_rev, arg_call, arg_bi, arg_isi, arg_comp, arg_draw, bind_drw, blT_drw, then_drw, loop_drw, all_drw, all_ret, c_lt, c_le, c_gt, c_ge, c_eq, c_ne, c_isN, c_notN, cond_dec, cond_not, cond_and, cond_or, dr10, dr01, ex_ite, wt_nx, wt_rt, wt_ct, wt_bk, wt_drw, q_eq, F_inj, k_addl, k_addt, k_ap, rng2, line, rangeL, List.sum_cons, List.sum_nil, tyD, allTy, run]
  exact t9 hm im ho io gp ip gq iq gr ir gs is
theorem t1 {s2 s3 s4 s5 s6 s7 s8 s9 s10 s11 s12 s13 s14 s15 s16 s17 s18 s19 s20 s21 s22 s23 s24 s25 : Slot}  :
    Wp g_law [b1, b2, b3, b4, b5, b6, b7, b8, b9, b10, b11, b12, b13, b14, b15, b16, b17] [.scr, .st, s2, s3, s4, s5, s6, s7, s8, s9, s10, s11, s12, s13, s14, s15, s16, s17, s18, s19, s20, s21, s22, s23, s24, s25] OK := by
  rw [wp_cons]
  simp (maxSteps := 10000000) (implicitDefEqProofs := false) (disch := omega) [b1, bind_assoc, gl0, gl2, gl7, gl8, gl10, gl1, gl11, gl13, gl14, gl16, gl9, gl17, gl18, gl22, gl23, gl24, gl20, gl21, gl3, gl19, gl15, gl4, gl5, gl6, G0, G1, S0, S1, M0, M1, isn_n, isn_F, isn_i, b_ret, o_some, map_some, obind_some, k_add, k_sub, k_mul, k_ixl, k_ixt, ix_0, ix_1, ix_2, ix_3, ix_4, ix_5, ix_6, ix_7, ix_8, ix_9, ix_10, ix_11, ix_12, st_0, st_1, st_2, st_3, st_4, st_5, st_6, st_7, st_8, st_9, st_10, st_11, st_12, rd_0, rd_b, rd_l, rd_s, own_0, own_p, own_s, own_n, e_c, e_g, e_v, e_bin, neg_i, e_neg, e_cmp, e_chain, e_nt, e_and, e_or, e_tr, e_ite, e_tup, e_lst, e_ix, e_sl, e_rev, e_call, e_bi, e_isi, e_draw, e_comp, turn_cons, turn_nil, es_nil, es_cons, eS_nil, eS_cons, eC_nil, eC_cons, eA_nil, eA_cons, arg_st, bl_ret, x_nil, then_nx, then_rt, then_ct, then_bk, x_cns, x_bx, x_asgn, x_par, eR_nil, eR_cons, par_nil, par_cons, x_ixs, x_ap, x_ifs, x_rt, x_fr, loop_nx, loop_ct, loop_bk, loop_rt, for_nil, for_cons, bindA, List.replicate, List.cons_append, List.nil_append, a_nm, a_tt, a_tl, as_n, as_c, List.set_cons_zero, List.set_cons_succ, List.length_cons, List.length_nil, setS, boxS, cond_true, cond_false, Bool.and_true, Bool.and_false, Bool.true_and, Bool.false_and, if_true, lk_nil, lk_v, lk_c, lk_g, lk_bin, lk_neg, lk_cmp, lk_chain, lk_nt, lk_and2, lk_or2, lk_tr, lk_ite, lk_tup, lk_lst, lk_ix, lk_sl, lk_rev, lk_call, lk_bi, lk_isi, lk_comp, lk_comp2, lk_draw, ul_nil, ul_v, ul_c, ul_g, ul_bin, ul_neg, ul_cmp, ul_chain, ul_nt, ul_and2, ul_or2, ul_tr, ul_ite, ul_tup, ul_lst, ul_ix, ul_sl, ul_rev, ul_call, ul_bi, ul_isi, ul_comp, ul_comp2, ul_draw, isV, tgS, tgSs, wipeE, rt_v, rt_c, rt_g, rt_bin, rt_neg, rt_cmp, rt_chain, rt_nt, rt_and2, rt_or2, rt_tr, rt_ite, rt_tup, rt_lst, rt_ix, rt_sl, rt_rev, rt_call, rt_bi, rt_isi, rt_comp, rt_comp2, rt_draw, b_lenl, b_lent, b_lens, b_abs, b_sum, b_max, b_min, b_max2, b_min2, b_tupl, b_tupt, b_lstl, b_lstt, b_inti, b_intb, b_all, b_any, b_gcd, is_nil, is_cons, bs_nil, bs_cons, s_seql, s_seqt, s_seqs, s_r1, s_r2, s_zip, s_zipt, s_enum, s_enumt, s_rev, s_revt, s_rr, z_cons, z_nil, z_nil2, n_cons, n_nil, sl_l, sl_t, one_0, one_1, cut_from, cut_to, rv_l, tr_n, tr_b, tr_i, tr_l, tr_t, x_rtN, x_brk, x_cnt, x_pas, x_frz, x_drp, List.getElem?_cons_zero, List.getElem?_cons_succ, arg_c, arg_g, arg_bin, arg_neg, arg_cmp, arg_chain, arg_nt, arg_and2, arg_or2, arg_tr, arg_ite, arg_tup, arg_lst, arg_ix, arg_sl, arg_rev, arg_call, arg_bi, arg_isi, arg_comp, arg_draw, bind_drw, blT_drw, then_drw, loop_drw, all_drw, all_ret, c_lt, c_le, c_gt, c_ge, c_eq, c_ne, c_isN, c_notN, cond_dec, cond_not, cond_and, cond_or, dr10, dr01, ex_ite, wt_nx, wt_rt, wt_ct, wt_bk, wt_drw, q_eq, F_inj, k_addl, k_addt, k_ap, rng2, line, rangeL, List.sum_cons, List.sum_nil, tyD, allTy, run]
  refine wt_all p_two_table ?_
  rintro r ⟨m, hm, im, rfl⟩
  simp (maxSteps := 10000000) (implicitDefEqProofs := false) (disch := omega) [bind_assoc, gl0, gl2, gl7, gl8, gl10, gl1, gl11, gl13, gl14, gl16, gl9, gl17, gl18, gl22, gl23, gl24, gl20, gl21, gl3, gl19, gl15, gl4, gl5, gl6, G0, G1, S0, S1, M0, M1, isn_n, isn_F, isn_i, b_ret, o_some, map_some, obind_some, k_add, k_sub, k_mul, k_ixl, k_ixt, ix_0, ix_1, ix_2, ix_3, ix_4, ix_5, ix_6, ix_7, ix_8, ix_9, ix_10, ix_11, ix_12, st_0, st_1, st_2, st_3, st_4, st_5, st_6, st_7, st_8, st_9, st_10, st_11, st_12, rd_0, rd_b, rd_l, rd_s, own_0, own_p, own_s, own_n, e_c, e_g, e_v, e_bin, neg_i, e_neg, e_cmp, e_chain, e_nt, e_and, e_or, e_tr, e_ite, e_tup, e_lst, e_ix, e_sl, e_rev, e_call, e_bi, e_isi, e_draw, e_comp, turn_cons, turn_nil, es_nil, es_cons, eS_nil, eS_cons, eC_nil, eC_cons, eA_nil, eA_cons, arg_st, bl_ret, x_nil, then_nx, then_rt, then_ct, then_bk, x_cns, x_bx, x_asgn, x_par, eR_nil, eR_cons, par_nil, par_cons, x_ixs, x_ap, x_ifs, x_rt, x_fr, loop_nx, loop_ct, loop_bk, loop_rt, for_nil, for_cons, bindA, List.replicate, List.cons_append, List.nil_append, a_nm, a_tt, a_tl, as_n, as_c, List.set_cons_zero, List.set_cons_succ, List.length_cons, List.length_nil, setS, boxS, cond_true, cond_false, Bool.and_true, Bool.and_false, Bool.true_and, Bool.false_and, if_true, lk_nil, lk_v, lk_c, lk_g, lk_bin, lk_neg, lk_cmp, lk_chain, lk_nt, lk_and2, lk_or2, lk_tr, lk_ite, lk_tup, lk_lst, lk_ix, lk_sl, lk_rev, lk_call, lk_bi, lk_isi, lk_comp, lk_comp2, lk_draw, ul_nil, ul_v, ul_c, ul_g, ul_bin, ul_neg, ul_cmp, ul_chain, ul_nt, ul_and2, ul_or2, ul_tr, ul_ite, ul_tup, ul_lst, ul_ix, ul_sl, ul_rev, ul_call, ul_bi, ul_isi, ul_comp, ul_comp2, ul_draw, isV, tgS, tgSs, wipeE, rt_v, rt_c, rt_g, rt_bin, rt_neg, rt_cmp, rt_chain, rt_nt, rt_and2, rt_or2, rt_tr, rt_ite, rt_tup, rt_lst, rt_ix, rt_sl, rt_rev, rt_call, rt_bi, rt_isi, rt_comp, rt_comp2, rt_draw, b_lenl, b_lent, b_lens, b_abs, b_sum, b_max, b_min, b_max2, b_min2, b_tupl, b_tupt, b_lstl, b_lstt, b_inti, b_intb, b_all, b_any, b_gcd, is_nil, is_cons, bs_nil, bs_cons, s_seql, s_seqt, s_seqs, s_r1, s_r2, s_zip, s_zipt, s_enum, s_enumt, s_rev, s_revt, s_rr, z_cons, z_nil, z_nil2, n_cons, n_nil, sl_l, sl_t, one_0, one_1, cut_from, cut_to, rv_l, tr_n, tr_b, tr_i, tr_l, tr_t, x_rtN, x_brk, x_cnt, x_pas, x_frz, x_drp, List.getElem?_cons_zero, List.getElem?_cons_succ, arg_c, arg_g, arg_bin, arg_neg, arg_cmp, arg_chain, arg_nt, arg_and2, arg_or2, arg_tr, arg_ite, arg_tup, arg_lst, arg_ix, arg_sl, arg_rev, arg_call, arg_bi, arg_isi, arg_comp, arg_draw, bind_drw, blT_drw, then_drw, loop_drw, all_drw, all_ret, c_lt, c_le, c_gt, c_ge, c_eq, c_ne, c_isN, c_notN, cond_dec, cond_not, cond_and, cond_or, dr10, dr01, ex_ite, wt_nx, wt_rt, wt_ct, wt_bk, wt_drw, q_eq, F_inj, k_addl, k_addt, k_ap, rng2, line, rangeL, List.sum_cons, List.sum_nil, tyD, allTy, run]
  refine wt_all p_two_table ?_
  rintro r ⟨o, ho, io, rfl⟩
  simp (maxSteps := 10000000) (implicitDefEqProofs := false) (disch := omega) [gl0, gl2, gl7, gl8, gl10, gl1, gl11, gl13, gl14, gl16, gl9, gl17, gl18, gl22, gl23, gl24, gl20, gl21, gl3, gl19, gl15, gl4, gl5, gl6, G0, G1, S0, S1, M0, M1, isn_n, isn_F, isn_i, b_ret, o_some, map_some, obind_some, k_add, k_sub, k_mul, k_ixl, k_ixt, ix_0, ix_1, ix_2, ix_3, ix_4, ix_5, ix_6, ix_7, ix_8, ix_9, ix_10, ix_11, ix_12, st_0, st_1, st_2, st_3, st_4, st_5, st_6, st_7, st_8, st_9, st_10, st_11, st_12, rd_0, rd_b, rd_l, rd_s, own_0, own_p, own_s, own_n, e_c, e_g, e_v, e_bin, neg_i, e_neg, e_cmp, e_chain, e_nt, e_and, e_or, e_tr, e_ite, e_tup, e_lst, e_ix, e_sl, e_rev, e_call, e_bi, e_isi, e_draw, e_comp, turn_cons, turn_nil, es_nil, es_cons, eS_nil, eS_cons, eC_nil, eC_cons, eA_nil, eA_cons, arg_st, bl_ret, x_nil, then_nx, then_rt, then_ct, then_bk, x_cns, x_bx, x_asgn, x_par, eR_nil, eR_cons, par_nil, par_cons, x_ixs, x_ap, x_ifs, x_rt, x_fr, loop_nx, loop_ct, loop_bk, loop_rt, for_nil, for_cons, bindA, List.replicate, List.cons_append, List.nil_append, a_nm, a_tt, a_tl, as_n, as_c, List.set_cons_zero, List.set_cons_succ, List.length_cons, List.length_nil, setS, boxS, cond_true, cond_false, Bool.and_true, Bool.and_false, Bool.true_and, Bool.false_and, if_true, lk_nil, lk_v, lk_c, lk_g, lk_bin, lk_neg, lk_cmp, lk_chain, lk_nt, lk_and2, lk_or2, lk_tr, lk_ite, lk_tup, lk_lst, lk_ix, lk_sl, lk_rev, lk_call, lk_bi, lk_isi, lk_comp, lk_comp2, lk_draw, ul_nil, ul_v, ul_c, ul_g, ul_bin, ul_neg, ul_cmp, ul_chain, ul_nt, ul_and2, ul_or2, ul_tr, ul_ite, ul_tup, ul_lst, ul_ix, ul_sl, ul_rev, ul_call, ul_bi, ul_isi, ul_comp, ul_comp2, ul_draw, isV, tgS, tgSs, wipeE, rt_v, rt_c, rt_g, rt_bin, rt_neg, rt_cmp, rt_chain, rt_nt, rt_and2, rt_or2, rt_tr, rt_ite, rt_tup, rt_lst, rt_ix, rt_sl, rt_rev, rt_call, rt_bi, rt_isi, rt_comp, rt_comp2, rt_draw, b_lenl, b_lent, b_lens, b_abs, b_sum, b_max, b_min, b_max2, b_min2, b_tupl, b_tupt, b_lstl, b_lstt, b_inti, b_intb, b_all, b_any, b_gcd, is_nil, is_cons, bs_nil, bs_cons, s_seql, s_seqt, s_seqs, s_r1, s_r2, s_zip, s_zipt, s_enum, s_enumt, s_rev, s_revt, s_rr, z_cons, z_nil, z_nil2, n_cons, n_nil, sl_l, sl_t, one_0, one_1, cut_from, cut_to, rv_l, tr_n, tr_b, tr_i, tr_l, tr_t, x_rtN, x_brk, x_cnt, x_pas, x_frz, x_drp, List.getElem?_cons_zero, List.getElem?_cons_succ, arg_c, arg_g, arg_bin, arg_neg, arg_cmp, arg_chain, arg_nt, arg_and2, arg_or2, arg_tr, arg_ite, arg_tup, arg_lst, arg_ix, arg_sl, arg_rev, arg_call, arg_bi, arg_isi, arg_comp, arg_draw, bind_drw, blT_drw, then_drw, loop_drw, all_drw, all_ret, c_lt, c_le, c_gt, c_ge, c_eq, c_ne, c_isN, c_notN, cond_dec, cond_not, cond_and, cond_or, dr10, dr01, ex_ite, wt_nx, wt_rt, wt_ct, wt_bk, wt_drw, q_eq, F_inj, k_addl, k_addt, k_ap, rng2, line, rangeL, List.sum_cons, List.sum_nil, tyD, allTy, run]
  rw [wp_cons]
  simp (maxSteps := 10000000) (implicitDefEqProofs := false) (disch := omega) [b2, bind_assoc, gl0, gl2, gl7, gl8, gl10, gl1, gl11, gl13, gl14, gl16, gl9, gl17, gl18, gl22, gl23, gl24, gl20, gl21, gl3, gl19, gl15, gl4, gl5, gl6, G0, G1, S0, S1, M0, M1, isn_n, isn_F, isn_i, b_ret, o_some, map_some, obind_some, k_add, k_sub, k_mul, k_ixl, k_ixt, ix_0, ix_1, ix_2, ix_3, ix_4, ix_5, ix_6, ix_7, ix_8, ix_9, ix_10, ix_11, ix_12, st_0, st_1, st_2, st_3, st_4, st_5, st_6, st_7, st_8, st_9, st_10, st_11, st_12, rd_0, rd_b, rd_l, rd_s, own_0, own_p, own_s, own_n, e_c, e_g, e_v, e_bin, neg_i, e_neg, e_cmp, e_chain, e_nt, e_and, e_or, e_tr, e_ite, e_tup, e_lst, e_ix, e_sl, e_rev, e_call, e_bi, e_isi, e_draw, e_comp, turn_cons, turn_nil, es_nil, es_cons, eS_nil, eS_cons, eC_nil, eC_cons, eA_nil, eA_cons, arg_st, bl_ret, x_nil, then_nx, then_rt, then_ct, then_bk, x_cns, x_bx, x_asgn, x_par, eR_nil, eR_cons, par_nil, par_cons, x_ixs, x_ap, x_ifs, x_rt, x_fr, loop_nx, loop_ct, loop_bk, loop_rt, for_nil, for_cons, bindA, List.replicate, List.cons_append, List.nil_append, a_nm, a_tt, a_tl, as_n, as_c, List.set_cons_zero, List.set_cons_succ, List.length_cons, List.length_nil, setS, boxS, cond_true, cond_false, Bool.and_true, Bool.and_false, Bool.true_and, Bool.false_and, if_true, lk_nil, lk_v, lk_c, lk_g, lk_bin, lk_neg, lk_cmp, lk_chain, lk_nt, lk_and2, lk_or2, lk_tr, lk_ite, lk_tup, lk_lst, lk_ix, lk_sl, lk_rev, lk_call, lk_bi, lk_isi, lk_comp, lk_comp2, lk_draw, ul_nil, ul_v, ul_c, ul_g, ul_bin, ul_neg, ul_cmp, ul_chain, ul_nt, ul_and2, ul_or2, ul_tr, ul_ite, ul_tup, ul_lst, ul_ix, ul_sl, ul_rev, ul_call, ul_bi, ul_isi, ul_comp, ul_comp2, ul_draw, isV, tgS, tgSs, wipeE, rt_v, rt_c, rt_g, rt_bin, rt_neg, rt_cmp, rt_chain, rt_nt, rt_and2, rt_or2, rt_tr, rt_ite, rt_tup, rt_lst, rt_ix, rt_sl, rt_rev, rt_call, rt_bi, rt_isi, rt_comp, rt_comp2, rt_draw, b_lenl, b_lent, b_lens, b_abs, b_sum, b_max, b_min, b_max2, b_min2, b_tupl, b_tupt, b_lstl, b_lstt, b_inti, b_intb, b_all, b_any, b_gcd, is_nil, is_cons, bs_nil, bs_cons, s_seql, s_seqt, s_seqs, s_r1, s_r2, s_zip, s_zipt, s_enum, s_enumt, s_rev, s_revt, s_rr, z_cons, z_nil, z_nil2, n_cons, n_nil, sl_l, sl_t, one_0, one_1, cut_from, cut_to, rv_l, tr_n, tr_b, tr_i, tr_l, tr_t, x_rtN, x_brk, x_cnt, x_pas, x_frz, x_drp, List.getElem?_cons_zero, List.getElem?_cons_succ, arg_c, arg_g, arg_bin, arg_neg, arg_cmp, arg_chain, arg_nt, arg_and2, arg_or2, arg_tr, arg_ite, arg_tup, arg_lst, arg_ix, arg_sl, arg_rev, arg_call, arg_bi, arg_isi, arg_comp, arg_draw, bind_drw, blT_drw, then_drw, loop_drw, all_drw, all_ret, c_lt, c_le, c_gt, c_ge, c_eq, c_ne, c_isN, c_notN, cond_dec, cond_not, cond_and, cond_or, dr10, dr01, ex_ite, wt_nx, wt_rt, wt_ct, wt_bk, wt_drw, q_eq, F_inj, k_addl, k_addt, k_ap, rng2, line, rangeL, List.sum_cons, List.sum_nil, tyD, allTy, run]
  refine wt_all p_drawn ?_
  rintro r ⟨p, gp, ip, rfl⟩
  simp (maxSteps := 10000000) (implicitDefEqProofs := false) (disch := omega) [bind_assoc, gl0, gl2, gl7, gl8, gl10, gl1, gl11, gl13, gl14, gl16, gl9, gl17, gl18, gl22, gl23, gl24, gl20, gl21, gl3, gl19, gl15, gl4, gl5, gl6, G0, G1, S0, S1, M0, M1, isn_n, isn_F, isn_i, b_ret, o_some, map_some, obind_some, k_add, k_sub, k_mul, k_ixl, k_ixt, ix_0, ix_1, ix_2, ix_3, ix_4, ix_5, ix_6, ix_7, ix_8, ix_9, ix_10, ix_11, ix_12, st_0, st_1, st_2, st_3, st_4, st_5, st_6, st_7, st_8, st_9, st_10, st_11, st_12, rd_0, rd_b, rd_l, rd_s, own_0, own_p, own_s, own_n, e_c, e_g, e_v, e_bin, neg_i, e_neg, e_cmp, e_chain, e_nt, e_and, e_or, e_tr, e_ite, e_tup, e_lst, e_ix, e_sl, e_rev, e_call, e_bi, e_isi, e_draw, e_comp, turn_cons, turn_nil, es_nil, es_cons, eS_nil, eS_cons, eC_nil, eC_cons, eA_nil, eA_cons, arg_st, bl_ret, x_nil, then_nx, then_rt, then_ct, then_bk, x_cns, x_bx, x_asgn, x_par, eR_nil, eR_cons, par_nil, par_cons, x_ixs, x_ap, x_ifs, x_rt, x_fr, loop_nx, loop_ct, loop_bk, loop_rt, for_nil, for_cons, bindA, List.replicate, List.cons_append, List.nil_append, a_nm, a_tt, a_tl, as_n, as_c, List.set_cons_zero, List.set_cons_succ, List.length_cons, List.length_nil, setS, boxS, cond_true, cond_false, Bool.and_true, Bool.and_false, Bool.true_and, Bool.false_and, if_true, lk_nil, lk_v, lk_c, lk_g, lk_bin, lk_neg, lk_cmp, lk_chain, lk_nt, lk_and2, lk_or2, lk_tr, lk_ite, lk_tup, lk_lst, lk_ix, lk_sl, lk_rev, lk_call, lk_bi, lk_isi, lk_comp, lk_comp2, lk_draw, ul_nil, ul_v, ul_c, ul_g, ul_bin, ul_neg, ul_cmp, ul_chain, ul_nt, ul_and2, ul_or2, ul_tr, ul_ite, ul_tup, ul_lst, ul_ix, ul_sl, ul_rev, ul_call, ul_bi, ul_isi, ul_comp, ul_comp2, ul_draw, isV, tgS, tgSs, wipeE, rt_v, rt_c, rt_g, rt_bin, rt_neg, rt_cmp, rt_chain, rt_nt, rt_and2, rt_or2, rt_tr, rt_ite, rt_tup, rt_lst, rt_ix, rt_sl, rt_rev, rt_call, rt_bi, rt_isi, rt_comp, rt_comp2, rt_draw, b_lenl, b_lent, b_lens, b_abs, b_sum, b_max, b_min, b_max2, b_min2, b_tupl, b_tupt, b_lstl, b_lstt, b_inti, b_intb, b_all, b_any, b_gcd, is_nil, is_cons, bs_nil, bs_cons, s_seql, s_seqt, s_seqs, s_r1, s_r2, s_zip, s_zipt, s_enum, s_enumt, s_rev, s_revt, s_rr, z_cons, z_nil, z_nil2, n_cons, n_nil, sl_l, sl_t, one_0, one_1, cut_from, cut_to, rv_l, tr_n, tr_b, tr_i, tr_l, tr_t, x_rtN, x_brk, x_cnt, x_pas, x_frz, x_drp, List.getElem?_cons_zero, List.getElem?_cons_succ, arg_c, arg_g, arg_bin, arg_neg, arg_cmp, arg_chain, arg_nt, arg_and2, arg_or2, arg_tr, arg_ite, arg_tup, arg_lst, arg_ix, arg_sl, arg_rev, arg_call, arg_bi, arg_isi, arg_comp, arg_draw, bind_drw, blT_drw, then_drw, loop_drw, all_drw, all_ret, c_lt, c_le, c_gt, c_ge, c_eq, c_ne, c_isN, c_notN, cond_dec, cond_not, cond_and, cond_or, dr10, dr01, ex_ite, wt_nx, wt_rt, wt_ct, wt_bk, wt_drw, q_eq, F_inj, k_addl, k_addt, k_ap, rng2, line, rangeL, List.sum_cons, List.sum_nil, tyD, allTy, run]
  refine wt_all p_drawn ?_
  rintro r ⟨q, gq, iq, rfl⟩
  simp (maxSteps := 10000000) (implicitDefEqProofs := false) (disch := omega) [bind_assoc, gl0, gl2, gl7, gl8, gl10, gl1, gl11, gl13, gl14, gl16, gl9, gl17, gl18, gl22, gl23, gl24, gl20, gl21, gl3, gl19, gl15, gl4, gl5, gl6, G0, G1, S0, S1, M0, M1, isn_n, isn_F, isn_i, b_ret, o_some, map_some, obind_some, k_add, k_sub, k_mul, k_ixl, k_ixt, ix_0, ix_1, ix_2, ix_3, ix_4, ix_5, ix_6, ix_7, ix_8, ix_9, ix_10, ix_11, ix_12, st_0, st_1, st_2, st_3, st_4, st_5, st_6, st_7, st_8, st_9, st_10, st_11, st_12, rd_0, rd_b, rd_l, rd_s, own_0, own_p, own_s, own_n, e_c, e_g, e_v, e_bin, neg_i, e_neg, e_cmp, e_chain, e_nt, e_and, e_or, e_tr, e_ite, e_tup, e_lst, e_ix, e_sl, e_rev, e_call, e_bi, e_isi, e_draw, e_comp, turn_cons, turn_nil, es_nil, es_cons, eS_nil, eS_cons, eC_nil, eC_cons, eA_nil, eA_cons, arg_st, bl_ret, x_nil, then_nx, then_rt, then_ct, then_bk, x_cns, x_bx, x_asgn, x_par, eR_nil, eR_cons, par_nil, par_cons, x_ixs, x_ap, x_ifs, x_rt, x_fr, loop_nx, loop_ct, loop_bk, loop_rt, for_nil, for_cons, bindA, List.replicate, List.cons_append, List.nil_append, a_nm, a_tt, a_tl, as_n, as_c, List.set_cons_zero, List.set_cons_succ, List.length_cons, List.length_nil, setS, boxS, cond_true, cond_false, Bool.and_true, Bool.and_false, Bool.true_and, Bool.false_and, if_true, lk_nil, lk_v, lk_c, lk_g, lk_bin, lk_neg, lk_cmp, lk_chain, lk_nt, lk_and2, lk_or2, lk_tr, lk_ite, lk_tup, lk_lst, lk_ix, lk_sl, lk_rev, lk_call, lk_bi, lk_isi, lk_comp, lk_comp2, lk_draw, ul_nil, ul_v, ul_c, ul_g, ul_bin, ul_neg, ul_cmp, ul_chain, ul_nt, ul_and2, ul_or2, ul_tr, ul_ite, ul_tup, ul_lst, ul_ix, ul_sl, ul_rev, ul_call, ul_bi, ul_isi, ul_comp, ul_comp2, ul_draw, isV, tgS, tgSs, wipeE, rt_v, rt_c, rt_g, rt_bin, rt_neg, rt_cmp, rt_chain, rt_nt, rt_and2, rt_or2, rt_tr, rt_ite, rt_tup, rt_lst, rt_ix, rt_sl, rt_rev, rt_call, rt_bi, rt_isi, rt_comp, rt_comp2, rt_draw, b_lenl, b_lent, b_lens, b_abs, b_sum, b_max, b_min, b_max2, b_min2, b_tupl, b_tupt, b_lstl, b_lstt, b_inti, b_intb, b_all, b_any, b_gcd, is_nil, is_cons, bs_nil, bs_cons, s_seql, s_seqt, s_seqs, s_r1, s_r2, s_zip, s_zipt, s_enum, s_enumt, s_rev, s_revt, s_rr, z_cons, z_nil, z_nil2, n_cons, n_nil, sl_l, sl_t, one_0, one_1, cut_from, cut_to, rv_l, tr_n, tr_b, tr_i, tr_l, tr_t, x_rtN, x_brk, x_cnt, x_pas, x_frz, x_drp, List.getElem?_cons_zero, List.getElem?_cons_succ, arg_c, arg_g, arg_bin, arg_neg, arg_cmp, arg_chain, arg_nt, arg_and2, arg_or2, arg_tr, arg_ite, arg_tup, arg_lst, arg_ix, arg_sl, arg_rev, arg_call, arg_bi, arg_isi, arg_comp, arg_draw, bind_drw, blT_drw, then_drw, loop_drw, all_drw, all_ret, c_lt, c_le, c_gt, c_ge, c_eq, c_ne, c_isN, c_notN, cond_dec, cond_not, cond_and, cond_or, dr10, dr01, ex_ite, wt_nx, wt_rt, wt_ct, wt_bk, wt_drw, q_eq, F_inj, k_addl, k_addt, k_ap, rng2, line, rangeL, List.sum_cons, List.sum_nil, tyD, allTy, run]
  refine wt_all p_drawn ?_
  rintro _ ⟨r, gr, ir, rfl⟩
  simp (maxSteps := 10000000) (implicitDefEqProofs := false) (disch := omega) [bind_assoc, gl0, gl2, gl7, gl8, gl10, gl1, gl11, gl13, gl14, gl16, gl9, gl17, gl18, gl22, gl23, gl24, gl20, gl21, gl3, gl19, gl15, gl4, gl5, gl6, G0, G1, S0, S1, M0, M1, isn_n, isn_F, isn_i, b_ret, o_some, map_some, obind_some, k_add, k_sub, k_mul, k_ixl, k_ixt, ix_0, ix_1, ix_2, ix_3, ix_4, ix_5, ix_6, ix_7, ix_8, ix_9, ix_10, ix_11, ix_12, st_0, st_1, st_2, st_3, st_4, st_5, st_6, st_7, st_8, st_9, st_10, st_11, st_12, rd_0, rd_b, rd_l, rd_s, own_0, own_p, own_s, own_n, e_c, e_g, e_v, e_bin, neg_i, e_neg, e_cmp, e_chain, e_nt, e_and, e_or, e_tr, e_ite, e_tup, e_lst, e_ix, e_sl, e_rev, e_call, e_bi, e_isi, e_draw, e_comp, turn_cons, turn_nil, es_nil, es_cons, eS_nil, eS_cons, eC_nil, eC_cons, eA_nil, eA_cons, arg_st, bl_ret, x_nil, then_nx, then_rt, then_ct, then_bk, x_cns, x_bx, x_asgn, x_par, eR_nil, eR_cons, par_nil, par_cons, x_ixs, x_ap, x_ifs, x_rt, x_fr, loop_nx, loop_ct, loop_bk, loop_rt, for_nil, for_cons, bindA, List.replicate, List.cons_append, List.nil_append, a_nm, a_tt, a_tl, as_n, as_c, List.set_cons_zero, List.set_cons_succ, List.length_cons, List.length_nil, setS, boxS, cond_true, cond_false, Bool.and_true, Bool.and_false, Bool.true_and, Bool.false_and, if_true, lk_nil, lk_v, lk_c, lk_g, lk_bin, lk_neg, lk_cmp, lk_chain, lk_nt, lk_and2, lk_or2, lk_tr, lk_ite, lk_tup, lk_lst, lk_ix, lk_sl, lk_rev, lk_call, lk_bi, lk_isi, lk_comp, lk_comp2, lk_draw, ul_nil, ul_v, ul_c, ul_g, ul_bin, ul_neg, ul_cmp, ul_chain, ul_nt, ul_and2, ul_or2, ul_tr, ul_ite, ul_tup, ul_lst, ul_ix, ul_sl, ul_rev, ul_call, ul_bi, ul_isi, ul_comp, ul_comp2, ul_draw, isV, tgS, tgSs, wipeE, rt_v, rt_c, rt_g, rt_bin, rt_neg, rt_cmp, rt_chain, rt_nt, rt_and2, rt_or2, rt_tr, rt_ite, rt_tup, rt_lst, rt_ix, rt_sl, rt_rev, rt_call, rt_bi, rt_isi, rt_comp, rt_comp2, rt_draw, b_lenl, b_lent, b_lens, b_abs, b_sum, b_max, b_min, b_max2, b_min2, b_tupl, b_tupt, b_lstl, b_lstt, b_inti, b_intb, b_all, b_any, b_gcd, is_nil, is_cons, bs_nil, bs_cons, s_seql, s_seqt, s_seqs, s_r1, s_r2, s_zip, s_zipt, s_enum, s_enumt, s_rev, s_revt, s_rr, z_cons, z_nil, z_nil2, n_cons, n_nil, sl_l, sl_t, one_0, one_1, cut_from, cut_to, rv_l, tr_n, tr_b, tr_i, tr_l, tr_t, x_rtN, x_brk, x_cnt, x_pas, x_frz, x_drp, List.getElem?_cons_zero, List.getElem?_cons_succ, arg_c, arg_g, arg_bin, arg_neg, arg_cmp, arg_chain, arg_nt, arg_and2, arg_or2, arg_tr, arg_ite, arg_tup, arg_lst, arg_ix, arg_sl, arg_rev, arg_call, arg_bi, arg_isi, arg_comp, arg_draw, bind_drw, blT_drw, then_drw, loop_drw, all_drw, all_ret, c_lt, c_le, c_gt, c_ge, c_eq, c_ne, c_isN, c_notN, cond_dec, cond_not, cond_and, cond_or, dr10, dr01, ex_ite, wt_nx, wt_rt, wt_ct, wt_bk, wt_drw, q_eq, F_inj, k_addl, k_addt, k_ap, rng2, line, rangeL, List.sum_cons, List.sum_nil, tyD, allTy, run]
  refine wt_all p_drawn ?_
  rintro _ ⟨s, gs, is, rfl⟩
  simp (maxSteps := 10000000) (implicitDefEqProofs := false) (disch := omega) [gl0, gl2, gl7, gl8, gl10, gl1, gl11, gl13, gl14, gl16, gl9, gl17, gl18, gl22, gl23, gl24, gl20, gl21, gl3, gl19, gl15, gl4, gl5, gl6, G0, G1, S0, S1, M0, M1, isn_n, isn_F, isn_i, b_ret, o_some, map_some, obind_some, k_add, k_sub, k_mul, k_ixl, k_ixt, ix_0, ix_1, ix_2, ix_3, ix_4, ix_5, ix_6, ix_7, ix_8, ix_9, ix_10, ix_11, ix_12, st_0, st_1, st_2, st_3, st_4, st_5, st_6, st_7, st_8, st_9, st_10, st_11, st_12, rd_0, rd_b, rd_l, rd_s, own_0, own_p, own_s, own_n, e_c, e_g, e_v, e_bin, neg_i, e_neg, e_cmp, e_chain, e_nt, e_and, e_or, e_tr, e_ite, e_tup, e_lst, e_ix, e_sl, e_rev, e_call, e_bi, e_isi, e_draw, e_comp, turn_cons, turn_nil, es_nil, es_cons, eS_nil, eS_cons, eC_nil, eC_cons, eA_nil, eA_cons, arg_st, bl_ret, x_nil, then_nx, then_rt, then_ct, then_bk, x_cns, x_bx, x_asgn, x_par, eR_nil, eR_cons, par_nil, par_cons, x_ixs, x_ap, x_ifs, x_rt, x_fr, loop_nx, loop_ct, loop_bk, loop_rt, for_nil, for_cons, bindA, List.replicate, List.cons_append, List.nil_append, a_nm, a_tt, a_tl, as_n, as_c, List.set_cons_zero, List.set_cons_succ, List.length_cons, List.length_nil, setS, boxS, cond_true, cond_false, Bool.and_true, Bool.and_false, Bool.true_and, Bool.false_and, if_true, lk_nil, lk_v, lk_c, lk_g, lk_bin, lk_neg, lk_cmp, lk_chain, lk_nt, lk_and2, lk_or2, lk_tr, lk_ite, lk_tup, lk_lst, lk_ix, lk_sl, lk_rev, lk_call, lk_bi, lk_isi, lk_comp, lk_comp2, lk_draw, ul_nil, ul_v, ul_c, ul_g, ul_bin, ul_neg, ul_cmp, ul_chain, ul_nt, ul_and2, ul_or2, ul_tr, ul_ite, ul_tup, ul_lst, ul_ix, ul_sl, ul_rev, ul_call, ul_bi, ul_isi, ul_comp, ul_comp2, ul_draw, isV, tgS, tgSs, wipeE, rt_v, rt_c, rt_g, rt_bin, rt_neg, rt_cmp, rt_chain, rt_nt, rt_and2, rt_or2, rt_tr, rt_ite, rt_tup, rt_lst, rt_ix, rt_sl, rt_rev, rt_call, rt_bi, rt_isi, rt_comp, rt_comp2, rt_draw, b_lenl, b_lent, b_lens, b_abs, b_sum, b_max, b_min, b_max2, b_min2, b_tupl, b_tupt, b_lstl, b_lstt, b_inti, b_intb, b_all, b_any, b_gcd, is_nil, is_cons, bs_nil, bs_cons, s_seql, s_seqt, s_seqs, s_r1, s_r2, s_zip, s_zipt, s_enum, s_enumt, s_rev, s_revt, s_rr, z_cons, z_nil, z_nil2, n_cons, n_nil, sl_l, sl_t, one_0, one_1, cut_from, cut_to, rv_l, tr_n, tr_b, tr_i, tr_l, tr_t, x_rtN, x_brk, x_cnt, x_pas, x_frz, x_drp, List.getElem?_cons_zero, List.getElem?_cons_succ, arg_c, arg_g, arg_bin, arg_neg, arg_cmp, arg_chain, arg_nt, arg_and2, arg_or2, arg_tr, arg_ite, arg_tup, arg_lst, arg_ix, arg_sl, arg_rev, arg_call, arg_bi, arg_isi, arg_comp, arg_draw, bind_drw, blT_drw, then_drw, loop_drw, all_drw, all_ret, c_lt, c_le, c_gt, c_ge, c_eq, c_ne, c_isN, c_notN, cond_dec, cond_not, cond_and, cond_or, dr10, dr01, ex_ite, wt_nx, wt_rt, wt_ct, wt_bk, wt_drw, q_eq, F_inj, k_addl, k_addt, k_ap, rng2, line, rangeL, List.sum_cons, List.sum_nil, tyD, allTy, run]
  rw [wp_cons]
  simp (maxSteps := 10000000) (implicitDefEqProofs := false) (disch := omega) [b3, gl0, gl2, gl7, gl8, gl10, gl1, gl11, gl13, gl14, gl16, gl9, gl17, gl18, gl22, gl23, gl24, gl20, gl21, gl3, gl19, gl15, gl4, gl5, gl6, G0, G1, S0, S1, M0, M1, isn_n, isn_F, isn_i, b_ret, o_some, map_some, obind_some, k_add, k_sub, k_mul, k_ixl, k_ixt, ix_0, ix_1, ix_2, ix_3, ix_4, ix_5, ix_6, ix_7, ix_8, ix_9, ix_10, ix_11, ix_12, st_0, st_1, st_2, st_3, st_4, st_5, st_6, st_7, st_8, st_9, st_10, st_11, st_12, rd_0, rd_b, rd_l, rd_s, own_0, own_p, own_s, own_n, e_c, e_g, e_v, e_bin, neg_i, e_neg, e_cmp, e_chain, e_nt, e_and, e_or, e_tr, e_ite, e_tup, e_lst, e_ix, e_sl, e_rev, e_call, e_bi, e_isi, e_draw, e_comp, turn_cons, turn_nil, es_nil, es_cons, eS_nil, eS_cons, eC_nil, eC_cons, eA_nil, eA_cons, arg_st, bl_ret, x_nil, then_nx, then_rt, then_ct, then_bk, x_cns, x_bx, x_asgn, x_par, eR_nil, eR_cons, par_nil, par_cons, x_ixs, x_ap, x_ifs, x_rt, x_fr, loop_nx, loop_ct, loop_bk, loop_rt, for_nil, for_cons, bindA, List.replicate, List.cons_append, List.nil_append, a_nm, a_tt, a_tl, as_n, as_c, List.set_cons_zero, List.set_cons_succ, List.length_cons, List.length_nil, setS, boxS, cond_true, cond_false, Bool.and_true, Bool.and_false, Bool.true_and, Bool.false_and, if_true, lk_nil, lk_v, lk_c, lk_g, lk_bin, lk_neg, lk_cmp, lk_chain, lk_nt, lk_and2, lk_or2, lk_tr, lk_ite, lk_tup, lk_lst, lk_ix, lk_sl, lk_rev, lk_call, lk_bi, lk_isi, lk_comp, lk_comp2, lk_draw, ul_nil, ul_v, ul_c, ul_g, ul_bin, ul_neg, ul_cmp, ul_chain, ul_nt, ul_and2, ul_or2, ul_tr, ul_ite, ul_tup, ul_lst, ul_ix, ul_sl, ul_rev, ul_call, ul_bi, ul_isi, ul_comp, ul_comp2, ul_draw, isV, tgS, tgSs, wipeE, rt_v, rt_c, rt_g, rt_bin, rt_neg, rt_cmp, rt_chain, rt_nt, rt_and2, rt_or2, rt_tr, rt_ite, rt_tup, rt_lst, rt_ix, rt_sl, rt_rev, rt_call, rt_bi, rt_isi, rt_comp, rt_comp2, rt_draw, b_lenl, b_lent, b_lens, b_abs, b_sum, b_max, b_min, b_max2, b_min2, b_tupl, b_tupt, b_lstl, b_lstt, b_inti, b_intb, b_all, b_any, b_gcd, is_nil, is_cons, bs_nil, bs_cons, s_seql, s_seqt, s_seqs, s_r1, s_r2, s_zip, s_zipt, s_enum, s_enumt, s_rev, s_revt, s_rr, z_cons, z_nil, z_nil2, n_cons, n_nil, sl_l, sl_t, one_0, one_1, cut_from, cut_to, rv_l, tr_n, tr_b, tr_i, tr_l, tr_t, x_rtN, x_brk, x_cnt, x_pas, x_frz, x_drp, List.getElem?_cons_zero, List.getElem?_cons_succ, arg_c, arg_g, arg_bin, arg_neg, arg_cmp, arg_chain, arg_nt, arg_and2, arg_or2, arg_tr, arg_ite, arg_tup, arg_lst, arg_ix, arg_sl, arg_rev, arg_call, arg_bi, arg_isi, arg_comp, arg_draw, bind_drw, blT_drw, then_drw, loop_drw, all_drw, all_ret, c_lt, c_le, c_gt, c_ge, c_eq, c_ne, c_isN, c_notN, cond_dec, cond_not, cond_and, cond_or, dr10, dr01, ex_ite, wt_nx, wt_rt, wt_ct, wt_bk, wt_drw, q_eq, F_inj, k_addl, k_addt, k_ap, rng2, line, rangeL, List.sum_cons, List.sum_nil, tyD, allTy, run]
  rw [wp_cons]
  simp (maxSteps := 10000000) (implicitDefEqProofs := false) (disch := omega) [b4, gl0, gl2, gl7, gl8, gl10, gl1, gl11, gl13, gl14, gl16, gl9, gl17, gl18, gl22, gl23, gl24, gl20, gl21, gl3, gl19, gl15, gl4, gl5, gl6, G0, G1, S0, S1, M0, M1, isn_n, isn_F, isn_i, b_ret, o_some, map_some, obind_some, k_add, k_sub, k_mul, k_ixl, k_ixt, ix_0, ix_1, ix_2, ix_3, ix_4, ix_5, ix_6, ix_7, ix_8, ix_9, ix_10, ix_11, ix_12, st_0, st_1, st_2, st_3, st_4, st_5, st_6, st_7, st_8, st_9, st_10, st_11, st_12, rd_0, rd_b, rd_l, rd_s, own_0, own_p, own_s, own_n, e_c, e_g, e_v, e_bin, neg_i, e_neg, e_cmp, e_chain, e_nt, e_and, e_or, e_tr, e_ite, e_tup, e_lst, e_ix, e_sl, e_rev, e_call, e_bi, e_isi, e_draw, e_comp, turn_cons, turn_nil, es_nil, es_cons, eS_nil, eS_cons, eC_nil, eC_cons, eA_nil, eA_cons, arg_st, bl_ret, x_nil, then_nx, then_rt, then_ct, then_bk, x_cns, x_bx, x_asgn, x_par, eR_nil, eR_cons, par_nil, par_cons, x_ixs, x_ap, x_ifs, x_rt, x_fr, loop_nx, loop_ct, loop_bk, loop_rt, for_nil, for_cons, bindA, List.replicate, List.cons_append, List.nil_append, a_nm, a_tt, a_tl, as_n, as_c, List.set_cons_zero, List.set_cons_succ, List.length_cons, List.length_nil, setS, boxS, cond_true, cond_false, Bool.and_true, Bool.and_false, Bool.true_and, Bool.false_and, if_true, lk_nil, lk_v, lk_c, lk_g, lk_bin, lk_neg, lk_cmp, lk_chain, lk_nt, lk_and2, lk_or2, lk_tr, lk_ite, lk_tup, lk_lst, lk_ix, lk_sl, lk_rev, lk_call, lk_bi, lk_isi, lk_comp, lk_comp2, lk_draw, ul_nil, ul_v, ul_c, ul_g, ul_bin, ul_neg, ul_cmp, ul_chain, ul_nt, ul_and2, ul_or2, ul_tr, ul_ite, ul_tup, ul_lst, ul_ix, ul_sl, ul_rev, ul_call, ul_bi, ul_isi, ul_comp, ul_comp2, ul_draw, isV, tgS, tgSs, wipeE, rt_v, rt_c, rt_g, rt_bin, rt_neg, rt_cmp, rt_chain, rt_nt, rt_and2, rt_or2, rt_tr, rt_ite, rt_tup, rt_lst, rt_ix, rt_sl, rt_rev, rt_call, rt_bi, rt_isi, rt_comp, rt_comp2, rt_draw, b_lenl, b_lent, b_lens, b_abs, b_sum, b_max, b_min, b_max2, b_min2, b_tupl, b_tupt, b_lstl, b_lstt, b_inti, b_intb, b_all, b_any, b_gcd, is_nil, is_cons, bs_nil, bs_cons, s_seql, s_seqt, s_seqs, s_r1, s_r2, s_zip, s_zipt, s_enum, s_enumt, s_rev, s_revt, s_rr, z_cons, z_nil, z_nil2, n_cons, n_nil, sl_l, sl_t, one_0, one_1, cut_from, cut_to, rv_l, tr_n, tr_b, tr_i, tr_l, tr_t, x_rtN, x_brk, x_cnt, x_pas, x_frz, x_drp, List.getElem?_cons_zero, List.getElem?_cons_succ, arg_c, arg_g, arg_bin, arg_neg, arg_cmp, arg_chain, arg_nt, arg_and2, arg_or2, arg_tr, arg_ite, arg_tup, arg_lst, arg_ix, arg_sl, arg_rev, arg_call, arg_bi, arg_isi, arg_comp, arg_draw, bind_drw, blT_drw, then_drw, loop_drw, all_drw, all_ret, c_lt, c_le, c_gt, c_ge, c_eq, c_ne, c_isN, c_notN, cond_dec, cond_not, cond_and, cond_or, dr10, dr01, ex_ite, wt_nx, wt_rt, wt_ct, wt_bk, wt_drw, q_eq, F_inj, k_addl, k_addt, k_ap, rng2, line, rangeL, List.sum_cons, List.sum_nil, tyD, allTy, run]
  exact t5 hm im ho io gp ip gq iq gr ir gs is
theorem law_true : (lawT g_law i_law 24).all IsT := by
  unfold lawT
  rw [i_law_eq]
  refine wp_mk ?_
  show Wp g_law _ [.scr, .st, .no, .no, .no, .no, .no, .no, .no, .no, .no, .no, .no, .no, .no, .no, .no, .no, .no, .no, .no, .no, .no, .no, .no, .no] IsT
  rw [wp_cons]
  refine wt_range (n := 4) (I := fun _ ρ => ∃ t2 t3 t4 t5 t6 t7 t8 t9 t10 t11 t12 t13 t14 t15 t16 t17 t18 t19 t20 t21 t22 t23 t24 t25 : Slot, ρ = [.scr, .st, t2, t3, t4, t5, t6, t7, t8, t9, t10, t11, t12, t13, t14, t15, t16, t17, t18, t19, t20, t21, t22, t23, t24, t25]) (by omega) ?_ ⟨_, _, _, _, _, _, _, _, _, _, _, _, _, _, _, _, _, _, _, _, _, _, _, _, rfl⟩ ?_ ?_
  · rintro j ρ ⟨t2, t3, t4, t5, t6, t7, t8, t9, t10, t11, t12, t13, t14, t15, t16, t17, t18, t19, t20, t21, t22, t23, t24, t25, rfl⟩
    simp
  · rintro j ρ hj ⟨t2, t3, t4, t5, t6, t7, t8, t9, t10, t11, t12, t13, t14, t15, t16, t17, t18, t19, t20, t21, t22, t23, t24, t25, rfl⟩
    refine wp_all t1 fun r hr => ?_
    obtain ⟨f, ρ'⟩ := r
    obtain ⟨h1, u2, u3, u4, u5, u6, u7, u8, u9, u10, u11, u12, u13, u14, u15, u16, u17, u18, u19, u20, u21, u22, u23, u24, u25, h2⟩ := hr
    have h1 : f = .nx := h1
    have h2 : ρ' = _ := h2
    subst h1 h2
    exact ⟨_, _, _, _, _, _, _, _, _, _, _, _, _, _, _, _, _, _, _, _, _, _, _, _, rfl⟩
  · rintro ρ ⟨t2, t3, t4, t5, t6, t7, t8, t9, t10, t11, t12, t13, t14, t15, t16, t17, t18, t19, t20, t21, t22, t23, t24, t25, rfl⟩
    have c1 : r_are_on_round [.d (.tup [.tup [.int 1, .int 0], .int 1]), .d (.tup [.tup [.int 0, .int 1], .int 1]), .d (.tup [.tup [.int (-1), .int 0], .int 1]), .d (.tup [.tup [.int 0, .int (-1)], .int 1])] = .ret (.bl true, false) := chk_eq (by decide +kernel)
    have c2 : r_are_on_round [.d (.tup [.tup [.int 0, .int 0], .int 1]), .d (.tup [.tup [.int 1, .int 0], .int 1]), .d (.tup [.tup [.int 0, .int 1], .int 1]), .d (.tup [.tup [.int 0, .int (-1)], .int 1])] = .ret (.bl false, false) := chk_eq (by decide +kernel)
    have c3 : r_kind_of_map [.d (.tup [.tup [.tup [.int 0, .int 0], .tup [.int (-1), .int 0]], .tup [.tup [.int 1, .int 0], .tup [.int 0, .int 0]]])] = .ret (.str [114, 111, 117, 110, 100], false) := chk_eq (by decide +kernel)
    have ps : Pl 0 (D.str [114, 111, 117, 110, 100]) := pl_str rfl
    rw [wp_cons]
    simp (maxSteps := 10000000) (implicitDefEqProofs := false) (disch := omega) [e1, gl0, gl2, gl7, gl8, gl10, gl1, gl11, gl13, gl14, gl16, gl9, gl17, gl18, gl22, gl23, gl24, gl20, gl21, gl3, gl19, gl15, gl4, gl5, gl6, G0, G1, S0, S1, M0, M1, isn_n, isn_F, isn_i, b_ret, o_some, map_some, obind_some, k_add, k_sub, k_mul, k_ixl, k_ixt, ix_0, ix_1, ix_2, ix_3, ix_4, ix_5, ix_6, ix_7, ix_8, ix_9, ix_10, ix_11, ix_12, st_0, st_1, st_2, st_3, st_4, st_5, st_6, st_7, st_8, st_9, st_10, st_11, st_12, rd_0, rd_b, rd_l, rd_s, own_0, own_p, own_s, own_n, e_c, e_g, e_v, e_bin, neg_i, e_neg, e_cmp, e_chain, e_nt, e_and, e_or, e_tr, e_ite, e_tup, e_lst, e_ix, e_sl, e_rev, e_call, e_bi, e_isi, e_draw, e_comp, turn_cons, turn_nil, es_nil, es_cons, eS_nil, eS_cons, eC_nil, eC_cons, eA_nil, eA_cons, arg_st, bl_ret, x_nil, then_nx, then_rt, then_ct, then_bk, x_cns, x_bx, x_asgn, x_par, eR_nil, eR_cons, par_nil, par_cons, x_ixs, x_ap, x_ifs, x_rt, x_fr, loop_nx, loop_ct, loop_bk, loop_rt, for_nil, for_cons, bindA, List.replicate, List.cons_append, List.nil_append, a_nm, a_tt, a_tl, as_n, as_c, List.set_cons_zero, List.set_cons_succ, List.length_cons, List.length_nil, setS, boxS, cond_true, cond_false, Bool.and_true, Bool.and_false, Bool.true_and, Bool.false_and, if_true, lk_nil, lk_v, lk_c, lk_g, lk_bin, lk_neg, lk_cmp, lk_chain, lk_nt, lk_and2, lk_or2, lk_tr, lk_ite, lk_tup, lk_lst, lk_ix, lk_sl, lk_rev, lk_call, lk_bi, lk_isi, lk_comp, lk_comp2, lk_draw, ul_nil, ul_v, ul_c, ul_g, ul_bin, ul_neg, ul_cmp, ul_chain, ul_nt, ul_and2, ul_or2, ul_tr, ul_ite, ul_tup, ul_lst, ul_ix, ul_sl, ul_rev, ul_call, ul_bi, ul_isi, ul_comp, ul_comp2, ul_draw, isV, tgS, tgSs, wipeE, rt_v, rt_c, rt_g, rt_bin, rt_neg, rt_cmp, rt_chain, rt_nt, rt_and2, rt_or2, rt_tr, rt_ite, rt_tup, rt_lst, rt_ix, rt_sl, rt_rev, rt_call, rt_bi, rt_isi, rt_comp, rt_comp2, rt_draw, b_lenl, b_lent, b_lens, b_abs, b_sum, b_max, b_min, b_max2, b_min2, b_tupl, b_tupt, b_lstl, b_lstt, b_inti, b_intb, b_all, b_any, b_gcd, is_nil, is_cons, bs_nil, bs_cons, s_seql, s_seqt, s_seqs, s_r1, s_r2, s_zip, s_zipt, s_enum, s_enumt, s_rev, s_revt, s_rr, z_cons, z_nil, z_nil2, n_cons, n_nil, sl_l, sl_t, one_0, one_1, cut_from, cut_to, rv_l, tr_n, tr_b, tr_i, tr_l, tr_t, x_rtN, x_brk, x_cnt, x_pas, x_frz, x_drp, List.getElem?_cons_zero, List.getElem?_cons_succ, arg_c, arg_g, arg_bin, arg_neg, arg_cmp, arg_chain, arg_nt, arg_and2, arg_or2, arg_tr, arg_ite, arg_tup, arg_lst, arg_ix, arg_sl, arg_rev, arg_call, arg_bi, arg_isi, arg_comp, arg_draw, bind_drw, blT_drw, then_drw, loop_drw, all_drw, all_ret, c_lt, c_le, c_gt, c_ge, c_eq, c_ne, c_isN, c_notN, cond_dec, cond_not, cond_and, cond_or, dr10, dr01, ex_ite, wt_nx, wt_rt, wt_ct, wt_bk, wt_drw, q_eq, F_inj, k_addl, k_addt, k_ap, rng2, line, rangeL, List.sum_cons, List.sum_nil, tyD, allTy, run]
    rw [wp_cons]
    simp (maxSteps := 10000000) (implicitDefEqProofs := false) (disch := omega) [e2, c1, c2, c3, gl0, gl2, gl7, gl8, gl10, gl1, gl11, gl13, gl14, gl16, gl9, gl17, gl18, gl22, gl23, gl24, gl20, gl21, gl3, gl19, gl15, gl4, gl5, gl6, G0, G1, S0, S1, M0, M1, isn_n, isn_F, isn_i, b_ret, o_some, map_some, obind_some, k_add, k_sub, k_mul, k_ixl, k_ixt, ix_0, ix_1, ix_2, ix_3, ix_4, ix_5, ix_6, ix_7, ix_8, ix_9, ix_10, ix_11, ix_12, st_0, st_1, st_2, st_3, st_4, st_5, st_6, st_7, st_8, st_9, st_10, st_11, st_12, rd_0, rd_b, rd_l, rd_s, own_0, own_p, own_s, own_n, e_c, e_g, e_v, e_bin, neg_i, e_neg, e_cmp, e_chain, e_nt, e_and, e_or, e_tr, e_ite, e_tup, e_lst, e_ix, e_sl, e_rev, e_call, e_bi, e_isi, e_draw, e_comp, turn_cons, turn_nil, es_nil, es_cons, eS_nil, eS_cons, eC_nil, eC_cons, eA_nil, eA_cons, arg_st, bl_ret, x_nil, then_nx, then_rt, then_ct, then_bk, x_cns, x_bx, x_asgn, x_par, eR_nil, eR_cons, par_nil, par_cons, x_ixs, x_ap, x_ifs, x_rt, x_fr, loop_nx, loop_ct, loop_bk, loop_rt, for_nil, for_cons, bindA, List.replicate, List.cons_append, List.nil_append, a_nm, a_tt, a_tl, as_n, as_c, List.set_cons_zero, List.set_cons_succ, List.length_cons, List.length_nil, setS, boxS, cond_true, cond_false, Bool.and_true, Bool.and_false, Bool.true_and, Bool.false_and, if_true, lk_nil, lk_v, lk_c, lk_g, lk_bin, lk_neg, lk_cmp, lk_chain, lk_nt, lk_and2, lk_or2, lk_tr, lk_ite, lk_tup, lk_lst, lk_ix, lk_sl, lk_rev, lk_call, lk_bi, lk_isi, lk_comp, lk_comp2, lk_draw, ul_nil, ul_v, ul_c, ul_g, ul_bin, ul_neg, ul_cmp, ul_chain, ul_nt, ul_and2, ul_or2, ul_tr, ul_ite, ul_tup, ul_lst, ul_ix, ul_sl, ul_rev, ul_call, ul_bi, ul_isi, ul_comp, ul_comp2, ul_draw, isV, tgS, tgSs, wipeE, rt_v, rt_c, rt_g, rt_bin, rt_neg, rt_cmp, rt_chain, rt_nt, rt_and2, rt_or2, rt_tr, rt_ite, rt_tup, rt_lst, rt_ix, rt_sl, rt_rev, rt_call, rt_bi, rt_isi, rt_comp, rt_comp2, rt_draw, b_lenl, b_lent, b_lens, b_abs, b_sum, b_max, b_min, b_max2, b_min2, b_tupl, b_tupt, b_lstl, b_lstt, b_inti, b_intb, b_all, b_any, b_gcd, is_nil, is_cons, bs_nil, bs_cons, s_seql, s_seqt, s_seqs, s_r1, s_r2, s_zip, s_zipt, s_enum, s_enumt, s_rev, s_revt, s_rr, z_cons, z_nil, z_nil2, n_cons, n_nil, sl_l, sl_t, one_0, one_1, cut_from, cut_to, rv_l, tr_n, tr_b, tr_i, tr_l, tr_t, x_rtN, x_brk, x_cnt, x_pas, x_frz, x_drp, List.getElem?_cons_zero, List.getElem?_cons_succ, arg_c, arg_g, arg_bin, arg_neg, arg_cmp, arg_chain, arg_nt, arg_and2, arg_or2, arg_tr, arg_ite, arg_tup, arg_lst, arg_ix, arg_sl, arg_rev, arg_call, arg_bi, arg_isi, arg_comp, arg_draw, bind_drw, blT_drw, then_drw, loop_drw, all_drw, all_ret, c_lt, c_le, c_gt, c_ge, c_eq, c_ne, c_isN, c_notN, cond_dec, cond_not, cond_and, cond_or, dr10, dr01, ex_ite, wt_nx, wt_rt, wt_ct, wt_bk, wt_drw, q_eq, F_inj, k_addl, k_addt, k_ap, rng2, line, rangeL, List.sum_cons, List.sum_nil, tyD, allTy, run]
    rfl
end K91

namespace K91
open PySem PySem.Spec PyProof.Rows L2 FF
theorem all_mk {l : PySem.W.OpenLaw} {w : World} {K : Fg} {h : Heap} {mg : Str → Option Value} {fa fl : Addr} (X : K.In h) (G : h.Ns mainGlobals mg) (hfa : mg "law" = some (.ref fa))
    {f0 : Addr} {od0 an0 : Option Addr} {sl0 : Array (Option Value)} {oc0 kV0 dc0 pm0 cd0 ct0 : Value}
    (a0 : PySem.W.nsIn K mainGlobals "_law_refill" = some (some (.ref f0))) (l0 : K.lookup f0 = some ⟨oc0, od0, .func (PySem.W.fnOf "_law_refill" "_law_refill" (defArgs t_refill) (defBody t_refill) (defScope t_refill) .none kV0 dc0 pm0 an0 cd0 ct0), sl0⟩) (c0 : PySem.W.codeIn K cd0 "_law_refill" = true) (k0 : PySem.W.keepIn K (.ref f0) = true)
    {f1 : Addr} {od1 an1 : Option Addr} {sl1 : Array (Option Value)} {oc1 kV1 dc1 pm1 cd1 ct1 : Value}
    (a1 : PySem.W.nsIn K mainGlobals "_law_draw" = some (some (.ref f1))) (l1 : K.lookup f1 = some ⟨oc1, od1, .func (PySem.W.fnOf "_law_draw" "_law_draw" (defArgs t_draw) (defBody t_draw) (defScope t_draw) .none kV1 dc1 pm1 an1 cd1 ct1), sl1⟩) (c1 : PySem.W.codeIn K cd1 "_law_draw" = true) (k1 : PySem.W.keepIn K (.ref f1) = true)
    {f2 : Addr} {od2 an2 : Option Addr} {sl2 : Array (Option Value)} {oc2 kV2 dc2 pm2 cd2 ct2 : Value}
    (a2 : PySem.W.nsIn K mainGlobals "_law_two_plus" = some (some (.ref f2))) (l2 : K.lookup f2 = some ⟨oc2, od2, .func (PySem.W.fnOf "_law_two_plus" "_law_two_plus" (defArgs t__law_two_plus) (defBody t__law_two_plus) (defScope t__law_two_plus) .none kV2 dc2 pm2 an2 cd2 ct2), sl2⟩) (c2 : PySem.W.codeIn K cd2 "_law_two_plus" = true) (k2 : PySem.W.keepIn K (.ref f2) = true)
    {f3 : Addr} {od3 an3 : Option Addr} {sl3 : Array (Option Value)} {oc3 kV3 dc3 pm3 cd3 ct3 : Value}
    (a3 : PySem.W.nsIn K mainGlobals "_law_two_times" = some (some (.ref f3))) (l3 : K.lookup f3 = some ⟨oc3, od3, .func (PySem.W.fnOf "_law_two_times" "_law_two_times" (defArgs t__law_two_times) (defBody t__law_two_times) (defScope t__law_two_times) .none kV3 dc3 pm3 an3 cd3 ct3), sl3⟩) (c3 : PySem.W.codeIn K cd3 "_law_two_times" = true) (k3 : PySem.W.keepIn K (.ref f3) = true)
    {f4 : Addr} {od4 an4 : Option Addr} {sl4 : Array (Option Value)} {oc4 kV4 dc4 pm4 cd4 ct4 : Value}
    (a4 : PySem.W.nsIn K mainGlobals "_law_table_times" = some (some (.ref f4))) (l4 : K.lookup f4 = some ⟨oc4, od4, .func (PySem.W.fnOf "_law_table_times" "_law_table_times" (defArgs t__law_table_times) (defBody t__law_table_times) (defScope t__law_table_times) .none kV4 dc4 pm4 an4 cd4 ct4), sl4⟩) (c4 : PySem.W.codeIn K cd4 "_law_table_times" = true) (k4 : PySem.W.keepIn K (.ref f4) = true)
    {f5 : Addr} {od5 an5 : Option Addr} {sl5 : Array (Option Value)} {oc5 kV5 dc5 pm5 cd5 ct5 : Value}
    (a5 : PySem.W.nsIn K mainGlobals "two_times" = some (some (.ref f5))) (l5 : K.lookup f5 = some ⟨oc5, od5, .func (PySem.W.fnOf "two_times" "two_times" (defArgs t_two_times) (defBody t_two_times) (defScope t_two_times) .none kV5 dc5 pm5 an5 cd5 ct5), sl5⟩) (c5 : PySem.W.codeIn K cd5 "two_times" = true) (k5 : PySem.W.keepIn K (.ref f5) = true)
    {f6 : Addr} {od6 an6 : Option Addr} {sl6 : Array (Option Value)} {oc6 kV6 dc6 pm6 cd6 ct6 : Value}
    (a6 : PySem.W.nsIn K mainGlobals "two_plain" = some (some (.ref f6))) (l6 : K.lookup f6 = some ⟨oc6, od6, .func (PySem.W.fnOf "two_plain" "two_plain" (defArgs t_two_plain) (defBody t_two_plain) (defScope t_two_plain) .none kV6 dc6 pm6 an6 cd6 ct6), sl6⟩) (c6 : PySem.W.codeIn K cd6 "two_plain" = true) (k6 : PySem.W.keepIn K (.ref f6) = true)
    {f7 : Addr} {od7 an7 : Option Addr} {sl7 : Array (Option Value)} {oc7 kV7 dc7 pm7 cd7 ct7 : Value}
    (a7 : PySem.W.nsIn K mainGlobals "gap" = some (some (.ref f7))) (l7 : K.lookup f7 = some ⟨oc7, od7, .func (PySem.W.fnOf "gap" "gap" (defArgs t_gap) (defBody t_gap) (defScope t_gap) .none kV7 dc7 pm7 an7 cd7 ct7), sl7⟩) (c7 : PySem.W.codeIn K cd7 "gap" = true) (k7 : PySem.W.keepIn K (.ref f7) = true)
    {f8 : Addr} {od8 an8 : Option Addr} {sl8 : Array (Option Value)} {oc8 kV8 dc8 pm8 cd8 ct8 : Value}
    (a8 : PySem.W.nsIn K mainGlobals "four_quotient" = some (some (.ref f8))) (l8 : K.lookup f8 = some ⟨oc8, od8, .func (PySem.W.fnOf "four_quotient" "four_quotient" (defArgs t_four_quotient) (defBody t_four_quotient) (defScope t_four_quotient) .none kV8 dc8 pm8 an8 cd8 ct8), sl8⟩) (c8 : PySem.W.codeIn K cd8 "four_quotient" = true) (k8 : PySem.W.keepIn K (.ref f8) = true)
    {f9 : Addr} {od9 an9 : Option Addr} {sl9 : Array (Option Value)} {oc9 kV9 dc9 pm9 cd9 ct9 : Value}
    (a9 : PySem.W.nsIn K mainGlobals "are_on_round" = some (some (.ref f9))) (l9 : K.lookup f9 = some ⟨oc9, od9, .func (PySem.W.fnOf "are_on_round" "are_on_round" (defArgs t_are_on_round) (defBody t_are_on_round) (defScope t_are_on_round) .none kV9 dc9 pm9 an9 cd9 ct9), sl9⟩) (c9 : PySem.W.codeIn K cd9 "are_on_round" = true) (k9 : PySem.W.keepIn K (.ref f9) = true)
    {f10 : Addr} {od10 an10 : Option Addr} {sl10 : Array (Option Value)} {oc10 kV10 dc10 pm10 cd10 ct10 : Value}
    (a10 : PySem.W.nsIn K mainGlobals "_law_two_table" = some (some (.ref f10))) (l10 : K.lookup f10 = some ⟨oc10, od10, .func (PySem.W.fnOf "_law_two_table" "_law_two_table" (defArgs t__law_two_table) (defBody t__law_two_table) (defScope t__law_two_table) .none kV10 dc10 pm10 an10 cd10 ct10), sl10⟩) (c10 : PySem.W.codeIn K cd10 "_law_two_table" = true) (k10 : PySem.W.keepIn K (.ref f10) = true)
    {f11 : Addr} {od11 an11 : Option Addr} {sl11 : Array (Option Value)} {oc11 kV11 dc11 pm11 cd11 ct11 : Value}
    (a11 : PySem.W.nsIn K mainGlobals "_law_spot" = some (some (.ref f11))) (l11 : K.lookup f11 = some ⟨oc11, od11, .func (PySem.W.fnOf "_law_spot" "_law_spot" (defArgs t__law_spot) (defBody t__law_spot) (defScope t__law_spot) .none kV11 dc11 pm11 an11 cd11 ct11), sl11⟩) (c11 : PySem.W.codeIn K cd11 "_law_spot" = true) (k11 : PySem.W.keepIn K (.ref f11) = true)
    {f12 : Addr} {od12 an12 : Option Addr} {sl12 : Array (Option Value)} {oc12 kV12 dc12 pm12 cd12 ct12 : Value}
    (a12 : PySem.W.nsIn K mainGlobals "_law_drawn" = some (some (.ref f12))) (l12 : K.lookup f12 = some ⟨oc12, od12, .func (PySem.W.fnOf "_law_drawn" "_law_drawn" (defArgs t__law_drawn) (defBody t__law_drawn) (defScope t__law_drawn) .none kV12 dc12 pm12 an12 cd12 ct12), sl12⟩) (c12 : PySem.W.codeIn K cd12 "_law_drawn" = true) (k12 : PySem.W.keepIn K (.ref f12) = true)
    {f13 : Addr} {od13 an13 : Option Addr} {sl13 : Array (Option Value)} {oc13 kV13 dc13 pm13 cd13 ct13 : Value}
    (a13 : PySem.W.nsIn K mainGlobals "_law_led_spot" = some (some (.ref f13))) (l13 : K.lookup f13 = some ⟨oc13, od13, .func (PySem.W.fnOf "_law_led_spot" "_law_led_spot" (defArgs t__law_led_spot) (defBody t__law_led_spot) (defScope t__law_led_spot) .none kV13 dc13 pm13 an13 cd13 ct13), sl13⟩) (c13 : PySem.W.codeIn K cd13 "_law_led_spot" = true) (k13 : PySem.W.keepIn K (.ref f13) = true)
    {f14 : Addr} {od14 an14 : Option Addr} {sl14 : Array (Option Value)} {oc14 kV14 dc14 pm14 cd14 ct14 : Value}
    (a14 : PySem.W.nsIn K mainGlobals "_law_lowest" = some (some (.ref f14))) (l14 : K.lookup f14 = some ⟨oc14, od14, .func (PySem.W.fnOf "_law_lowest" "_law_lowest" (defArgs t__law_lowest) (defBody t__law_lowest) (defScope t__law_lowest) .none kV14 dc14 pm14 an14 cd14 ct14), sl14⟩) (c14 : PySem.W.codeIn K cd14 "_law_lowest" = true) (k14 : PySem.W.keepIn K (.ref f14) = true)
    {f15 : Addr} {od15 an15 : Option Addr} {sl15 : Array (Option Value)} {oc15 kV15 dc15 pm15 cd15 ct15 : Value}
    (a15 : PySem.W.nsIn K mainGlobals "_law_kind_of" = some (some (.ref f15))) (l15 : K.lookup f15 = some ⟨oc15, od15, .func (PySem.W.fnOf "_law_kind_of" "_law_kind_of" (defArgs t__law_kind_of) (defBody t__law_kind_of) (defScope t__law_kind_of) .none kV15 dc15 pm15 an15 cd15 ct15), sl15⟩) (c15 : PySem.W.codeIn K cd15 "_law_kind_of" = true) (k15 : PySem.W.keepIn K (.ref f15) = true)
    {f16 : Addr} {od16 an16 : Option Addr} {sl16 : Array (Option Value)} {oc16 kV16 dc16 pm16 cd16 ct16 : Value}
    (a16 : PySem.W.nsIn K mainGlobals "_law_exact" = some (some (.ref f16))) (l16 : K.lookup f16 = some ⟨oc16, od16, .func (PySem.W.fnOf "_law_exact" "_law_exact" (defArgs t__law_exact) (defBody t__law_exact) (defScope t__law_exact) .none kV16 dc16 pm16 an16 cd16 ct16), sl16⟩) (c16 : PySem.W.codeIn K cd16 "_law_exact" = true) (k16 : PySem.W.keepIn K (.ref f16) = true)
    {f17 : Addr} {od17 an17 : Option Addr} {sl17 : Array (Option Value)} {oc17 kV17 dc17 pm17 cd17 ct17 : Value}
    (a17 : PySem.W.nsIn K mainGlobals "scaled" = some (some (.ref f17))) (l17 : K.lookup f17 = some ⟨oc17, od17, .func (PySem.W.fnOf "scaled" "scaled" (defArgs t_scaled) (defBody t_scaled) (defScope t_scaled) .none kV17 dc17 pm17 an17 cd17 ct17), sl17⟩) (c17 : PySem.W.codeIn K cd17 "scaled" = true) (k17 : PySem.W.keepIn K (.ref f17) = true)
    {f18 : Addr} {od18 an18 : Option Addr} {sl18 : Array (Option Value)} {oc18 kV18 dc18 pm18 cd18 ct18 : Value}
    (a18 : PySem.W.nsIn K mainGlobals "back_table" = some (some (.ref f18))) (l18 : K.lookup f18 = some ⟨oc18, od18, .func (PySem.W.fnOf "back_table" "back_table" (defArgs t_back_table) (defBody t_back_table) (defScope t_back_table) .none kV18 dc18 pm18 an18 cd18 ct18), sl18⟩) (c18 : PySem.W.codeIn K cd18 "back_table" = true) (k18 : PySem.W.keepIn K (.ref f18) = true)
    {f19 : Addr} {od19 an19 : Option Addr} {sl19 : Array (Option Value)} {oc19 kV19 dc19 pm19 cd19 ct19 : Value}
    (a19 : PySem.W.nsIn K mainGlobals "_law_apart" = some (some (.ref f19))) (l19 : K.lookup f19 = some ⟨oc19, od19, .func (PySem.W.fnOf "_law_apart" "_law_apart" (defArgs t__law_apart) (defBody t__law_apart) (defScope t__law_apart) .none kV19 dc19 pm19 an19 cd19 ct19), sl19⟩) (c19 : PySem.W.codeIn K cd19 "_law_apart" = true) (k19 : PySem.W.keepIn K (.ref f19) = true)
    {f20 : Addr} {od20 an20 : Option Addr} {sl20 : Array (Option Value)} {oc20 kV20 dc20 pm20 cd20 ct20 : Value}
    (a20 : PySem.W.nsIn K mainGlobals "map_by" = some (some (.ref f20))) (l20 : K.lookup f20 = some ⟨oc20, od20, .func (PySem.W.fnOf "map_by" "map_by" (defArgs t_map_by) (defBody t_map_by) (defScope t_map_by) .none kV20 dc20 pm20 an20 cd20 ct20), sl20⟩) (c20 : PySem.W.codeIn K cd20 "map_by" = true) (k20 : PySem.W.keepIn K (.ref f20) = true)
    {f21 : Addr} {od21 an21 : Option Addr} {sl21 : Array (Option Value)} {oc21 kV21 dc21 pm21 cd21 ct21 : Value}
    (a21 : PySem.W.nsIn K mainGlobals "two_add" = some (some (.ref f21))) (l21 : K.lookup f21 = some ⟨oc21, od21, .func (PySem.W.fnOf "two_add" "two_add" (defArgs t_two_add) (defBody t_two_add) (defScope t_two_add) .none kV21 dc21 pm21 an21 cd21 ct21), sl21⟩) (c21 : PySem.W.codeIn K cd21 "two_add" = true) (k21 : PySem.W.keepIn K (.ref f21) = true)
    {f22 : Addr} {od22 an22 : Option Addr} {sl22 : Array (Option Value)} {oc22 kV22 dc22 pm22 cd22 ct22 : Value}
    (a22 : PySem.W.nsIn K mainGlobals "determinant" = some (some (.ref f22))) (l22 : K.lookup f22 = some ⟨oc22, od22, .func (PySem.W.fnOf "determinant" "determinant" (defArgs t_determinant) (defBody t_determinant) (defScope t_determinant) .none kV22 dc22 pm22 an22 cd22 ct22), sl22⟩) (c22 : PySem.W.codeIn K cd22 "determinant" = true) (k22 : PySem.W.keepIn K (.ref f22) = true)
    {f23 : Addr} {od23 an23 : Option Addr} {sl23 : Array (Option Value)} {oc23 kV23 dc23 pm23 cd23 ct23 : Value}
    (a23 : PySem.W.nsIn K mainGlobals "trace" = some (some (.ref f23))) (l23 : K.lookup f23 = some ⟨oc23, od23, .func (PySem.W.fnOf "trace" "trace" (defArgs t_trace) (defBody t_trace) (defScope t_trace) .none kV23 dc23 pm23 an23 cd23 ct23), sl23⟩) (c23 : PySem.W.codeIn K cd23 "trace" = true) (k23 : PySem.W.keepIn K (.ref f23) = true)
    {f24 : Addr} {od24 an24 : Option Addr} {sl24 : Array (Option Value)} {oc24 kV24 dc24 pm24 cd24 ct24 : Value}
    (a24 : PySem.W.nsIn K mainGlobals "kind_of_map" = some (some (.ref f24))) (l24 : K.lookup f24 = some ⟨oc24, od24, .func (PySem.W.fnOf "kind_of_map" "kind_of_map" (defArgs t_kind_of_map) (defBody t_kind_of_map) (defScope t_kind_of_map) .none kV24 dc24 pm24 an24 cd24 ct24), sl24⟩) (c24 : PySem.W.codeIn K cd24 "kind_of_map" = true) (k24 : PySem.W.keepIn K (.ref f24) = true)
    {f25 : Addr} {od25 an25 : Option Addr} {sl25 : Array (Option Value)} {oc25 kV25 dc25 pm25 cd25 ct25 : Value}
    (a25 : PySem.W.nsIn K mainGlobals "led_by" = some (some (.ref f25))) (l25 : K.lookup f25 = some ⟨oc25, od25, .func (PySem.W.fnOf "led_by" "led_by" (defArgs t_led_by) (defBody t_led_by) (defScope t_led_by) .none kV25 dc25 pm25 an25 cd25 ct25), sl25⟩) (c25 : PySem.W.codeIn K cd25 "led_by" = true) (k25 : PySem.W.keepIn K (.ref f25) = true)
    {f26 : Addr} {od26 an26 : Option Addr} {sl26 : Array (Option Value)} {oc26 kV26 dc26 pm26 cd26 ct26 : Value}
    (a26 : PySem.W.nsIn K mainGlobals "table_times" = some (some (.ref f26))) (l26 : K.lookup f26 = some ⟨oc26, od26, .func (PySem.W.fnOf "table_times" "table_times" (defArgs t_table_times) (defBody t_table_times) (defScope t_table_times) .none kV26 dc26 pm26 an26 cd26 ct26), sl26⟩) (c26 : PySem.W.codeIn K cd26 "table_times" = true) (k26 : PySem.W.keepIn K (.ref f26) = true)
    {odl anl : Option Addr} {sll : Array (Option Value)} {ocl kVl dcl pml cdl ctl : Value}
    (al : PySem.W.nsIn K mainGlobals "law" = some (some (.ref fl))) (ll : K.lookup fl = some ⟨ocl, odl, .func (PySem.W.fnOf "law" "law" (defArgs t_law) (defBody t_law) (defScope t_law) .none kVl dcl pml anl cdl ctl), sll⟩) (cl : PySem.W.codeIn K cdl "law" = true) (kl : PySem.W.keepIn K (.ref fl) = true)
    (z0 : PySem.W.nsIn K mainGlobals "len" = some none)
    (z1 : PySem.W.nsIn K mainGlobals "abs" = some none)
    (z2 : PySem.W.nsIn K mainGlobals "sum" = some none)
    (z3 : PySem.W.nsIn K mainGlobals "max" = some none)
    (z4 : PySem.W.nsIn K mainGlobals "min" = some none)
    (z5 : PySem.W.nsIn K mainGlobals "tuple" = some none)
    (z6 : PySem.W.nsIn K mainGlobals "list" = some none)
    (z7 : PySem.W.nsIn K mainGlobals "int" = some none)
    (z8 : PySem.W.nsIn K mainGlobals "all" = some none)
    (z9 : PySem.W.nsIn K mainGlobals "any" = some none)
    (z10 : PySem.W.nsIn K mainGlobals "range" = some none)
    (z11 : PySem.W.nsIn K mainGlobals "zip" = some none)
    (z12 : PySem.W.nsIn K mainGlobals "enumerate" = some none)
    (z13 : PySem.W.nsIn K mainGlobals "reversed" = some none)
    (z14 : PySem.W.nsIn K mainGlobals "isinstance" = some none)
    (z15 : PySem.W.nsIn K mainGlobals "str" = some none)
    (z16 : PySem.W.nsIn K mainGlobals "bool" = some none)
    (law : (lawT g_law i_law 24).all IsT) :
    ∃ fd : FuncData, (∀ (s : Shared) (v : Value), BindsTo s fd ⟨[v], []⟩ [("script", v)]) ∧ ∀ base : Heap, K.In base → base.Ns mainGlobals mg → FnOk l.prog w K mg base CX0 13 fa fd ["script"] (spL K) := by
  have e := hfa.symm.trans (PySem.W.mg_of X G al)
  cases e
  have S : Behind K mg := ⟨stand_mk X G d_refill a0 l0 c0 k0, stand_mk X G d_draw a1 l1 c1 k1, stand_mk X G d__law_two_plus a2 l2 c2 k2, stand_mk X G d__law_two_times a3 l3 c3 k3, stand_mk X G d__law_table_times a4 l4 c4 k4, stand_mk X G d_two_times a5 l5 c5 k5, stand_mk X G d_two_plain a6 l6 c6 k6, stand_mk X G d_gap a7 l7 c7 k7, stand_mk X G d_four_quotient a8 l8 c8 k8, stand_mk X G d_are_on_round a9 l9 c9 k9, stand_mk X G d__law_two_table a10 l10 c10 k10, stand_mk X G d__law_spot a11 l11 c11 k11, stand_mk X G d__law_drawn a12 l12 c12 k12, stand_mk X G d__law_led_spot a13 l13 c13 k13, stand_mk X G d__law_lowest a14 l14 c14 k14, stand_mk X G d__law_kind_of a15 l15 c15 k15, stand_mk X G d__law_exact a16 l16 c16 k16, stand_mk X G d_scaled a17 l17 c17 k17, stand_mk X G d_back_table a18 l18 c18 k18, stand_mk X G d__law_apart a19 l19 c19 k19, stand_mk X G d_map_by a20 l20 c20 k20, stand_mk X G d_two_add a21 l21 c21 k21, stand_mk X G d_determinant a22 l22 c22 k22, stand_mk X G d_trace a23 l23 c23 k23, stand_mk X G d_kind_of_map a24 l24 c24 k24, stand_mk X G d_led_by a25 l25 c25 k25, stand_mk X G d_table_times a26 l26 c26 k26, ⟨PySem.W.mg_none_of X G z0, PySem.W.mg_none_of X G z1, PySem.W.mg_none_of X G z2, PySem.W.mg_none_of X G z3, PySem.W.mg_none_of X G z4, PySem.W.mg_none_of X G z5, PySem.W.mg_none_of X G z6, PySem.W.mg_none_of X G z7, PySem.W.mg_none_of X G z8, PySem.W.mg_none_of X G z9, PySem.W.mg_none_of X G z10, PySem.W.mg_none_of X G z11, PySem.W.mg_none_of X G z12, PySem.W.mg_none_of X G z13, PySem.W.mg_none_of X G z14, PySem.W.mg_none_of X G z15, PySem.W.mg_none_of X G z16, trivial⟩⟩
  exact ⟨PySem.W.fnOf "law" "law" (defArgs t_law) (defBody t_law) (defScope t_law) .none kVl dcl pml anl cdl ctl, fun s v => .of_eq rfl, fun base _ _ => h_law S (fun_mk (st := t_law) ll cl kl) law⟩
end K91
open PySem PySem.W PyProof.Rows
set_option maxHeartbeats 0 in
theorem PySem.Challenge.cw_fourfolds_k91_whole_maps_of_spots_holds : PySem.Challenge.rw_fourfolds_k91_whole_maps_of_spots.Holds := by
  w_on; o_law; k_head; (case hw => w_witness2)
  k_fill
  refine L2.walk_of (l := PySem.Challenge.rw_fourfolds_k91_whole_maps_of_spots) (n := 63) (k := 13) (x := "script") (CX := fun _ => L2.CX0) (sp := fun w => FF.spL _) rfl (by decide) rfl ⟨rfl, by decide, by decide⟩ (fun w h Y => PySem.W.kIn_of Y) ?F (fun _ _ a ns hl hO hS => ⟨_, rfl, FF.scr_of hl hO hS, fun _ => rfl⟩) (fun _ _ _ _ _ h => h)
  case F =>
    intro w mg fa h KX G hmg
    refine' K91.all_mk KX G hmg ?a0 ?l0 ?c0 ?k0 ?a1 ?l1 ?c1 ?k1 ?a2 ?l2 ?c2 ?k2 ?a3 ?l3 ?c3 ?k3 ?a4 ?l4 ?c4 ?k4 ?a5 ?l5 ?c5 ?k5 ?a6 ?l6 ?c6 ?k6 ?a7 ?l7 ?c7 ?k7 ?a8 ?l8 ?c8 ?k8 ?a9 ?l9 ?c9 ?k9 ?a10 ?l10 ?c10 ?k10 ?a11 ?l11 ?c11 ?k11 ?a12 ?l12 ?c12 ?k12 ?a13 ?l13 ?c13 ?k13 ?a14 ?l14 ?c14 ?k14 ?a15 ?l15 ?c15 ?k15 ?a16 ?l16 ?c16 ?k16 ?a17 ?l17 ?c17 ?k17 ?a18 ?l18 ?c18 ?k18 ?a19 ?l19 ?c19 ?k19 ?a20 ?l20 ?c20 ?k20 ?a21 ?l21 ?c21 ?k21 ?a22 ?l22 ?c22 ?k22 ?a23 ?l23 ?c23 ?k23 ?a24 ?l24 ?c24 ?k24 ?a25 ?l25 ?c25 ?k25 ?a26 ?l26 ?c26 ?k26 ?al ?ll ?cl ?kl ?z0 ?z1 ?z2 ?z3 ?z4 ?z5 ?z6 ?z7 ?z8 ?z9 ?z10 ?z11 ?z12 ?z13 ?z14 ?z15 ?z16 K91.law_true
    (case a0 => k_is); (case l0 => k_is); (case c0 => k_is); (case k0 => k_is); (case a1 => k_is); (case l1 => k_is); (case c1 => k_is); (case k1 => k_is); (case a2 => k_is); (case l2 => k_is); (case c2 => k_is); (case k2 => k_is); (case a3 => k_is); (case l3 => k_is); (case c3 => k_is); (case k3 => k_is); (case a4 => k_is); (case l4 => k_is); (case c4 => k_is); (case k4 => k_is); (case a5 => k_is); (case l5 => k_is); (case c5 => k_is); (case k5 => k_is); (case a6 => k_is); (case l6 => k_is); (case c6 => k_is); (case k6 => k_is); (case a7 => k_is); (case l7 => k_is); (case c7 => k_is); (case k7 => k_is); (case a8 => k_is); (case l8 => k_is); (case c8 => k_is); (case k8 => k_is); (case a9 => k_is); (case l9 => k_is); (case c9 => k_is); (case k9 => k_is); (case a10 => k_is); (case l10 => k_is); (case c10 => k_is); (case k10 => k_is); (case a11 => k_is); (case l11 => k_is); (case c11 => k_is); (case k11 => k_is); (case a12 => k_is); (case l12 => k_is); (case c12 => k_is); (case k12 => k_is); (case a13 => k_is); (case l13 => k_is); (case c13 => k_is); (case k13 => k_is); (case a14 => k_is); (case l14 => k_is); (case c14 => k_is); (case k14 => k_is); (case a15 => k_is); (case l15 => k_is); (case c15 => k_is); (case k15 => k_is); (case a16 => k_is); (case l16 => k_is); (case c16 => k_is); (case k16 => k_is); (case a17 => k_is); (case l17 => k_is); (case c17 => k_is); (case k17 => k_is); (case a18 => k_is); (case l18 => k_is); (case c18 => k_is); (case k18 => k_is); (case a19 => k_is); (case l19 => k_is); (case c19 => k_is); (case k19 => k_is); (case a20 => k_is); (case l20 => k_is); (case c20 => k_is); (case k20 => k_is); (case a21 => k_is); (case l21 => k_is); (case c21 => k_is); (case k21 => k_is); (case a22 => k_is); (case l22 => k_is); (case c22 => k_is); (case k22 => k_is); (case a23 => k_is); (case l23 => k_is); (case c23 => k_is); (case k23 => k_is); (case a24 => k_is); (case l24 => k_is); (case c24 => k_is); (case k24 => k_is); (case a25 => k_is); (case l25 => k_is); (case c25 => k_is); (case k25 => k_is); (case a26 => k_is); (case l26 => k_is); (case c26 => k_is); (case k26 => k_is); (case al => k_is); (case ll => k_is); (case cl => k_is); (case kl => k_is); (case z0 => k_is); (case z1 => k_is); (case z2 => k_is); (case z3 => k_is); (case z4 => k_is); (case z5 => k_is); (case z6 => k_is); (case z7 => k_is); (case z8 => k_is); (case z9 => k_is); (case z10 => k_is); (case z11 => k_is); (case z12 => k_is); (case z13 => k_is); (case z14 => k_is); (case z15 => k_is); (case z16 => k_is)

