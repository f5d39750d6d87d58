import PyProof.Rows.All
import Wide.All
import OpenK.AllK
import Wide.FinOn
import HandS.ForMost
import PyProof.Rows.StrIntSpec
import HandS.Replace
import HandS.ReplaceDef
import HandS.ReplaceLit
import HandS.ReplaceList
import HandS.Deep
import HandS.Conv
import HandS.FStr
import HandS.Style
import HandS.IsInst
import PySem.Challenge.RW_turnwise_k92_records_as_lines
set_option Elab.async false
set_option linter.all false
set_option maxRecDepth 100000
set_option maxHeartbeats 8000000
/-! Z1: plain data over the abstract heap, owned lists, the core language and what it is worth. -/
namespace Z
open PySem PySem.Spec PyProof.Rows L2
abbrev D := PyData

/-! ### what stands for a datum -/
def keyD : Key → D
  | .inl i => .int i
  | .inr x => .str x
mutual
inductive Rp (K : PySem.W.Frag) (G : Hp) : V → D → Prop
  | non : Rp K G .non .none
  | bl (b : Bool) : Rp K G (.bl b) (.bool b)
  | int (i : Int) : Rp K G (.int i) (.int i)
  | str (x : Str) : Rp K G (.str x) (.str x)
  | lst {a : Addr} {xs : List V} {ds : List D} : SqL K G a xs → RpA K G xs ds → Rp K G (.ref a) (.list ds)
  | tup {a : Addr} {xs : List V} {ds : List D} : SqT K G a xs → RpA K G xs ds → Rp K G (.ref a) (.tuple ds)
  | dct {a : Addr} {kvs : List (Key × V)} {ds : List (D × D)} : Rd G a (.dK kvs) → RpK K G kvs ds → Rp K G (.ref a) (.dict ds)
inductive RpA (K : PySem.W.Frag) (G : Hp) : List V → List D → Prop
  | nil : RpA K G [] []
  | cons {v : V} {vs : List V} {d : D} {ds : List D} : Rp K G v d → RpA K G vs ds → RpA K G (v :: vs) (d :: ds)
inductive RpK (K : PySem.W.Frag) (G : Hp) : List (Key × V) → List (D × D) → Prop
  | nil : RpK K G [] []
  | cons {k : Key} {v : V} {r : List (Key × V)} {d : D} {ds : List (D × D)} : Rp K G v d → RpK K G r ds → RpK K G ((k, v) :: r) ((keyD k, d) :: ds)
end
theorem Same.sqt {K : PySem.W.Frag} {H H' : Hp} {a : Addr} {xs : List V} (e : Same H H') (h : SqT K H a xs) : SqT K H' a xs := by
  rcases h with (h | ⟨o, h⟩) | h
  · exact .inl (.inl (e _ _ h))
  · exact .inl (.inr ⟨o, e _ _ h⟩)
  · exact .inr h
theorem Same.rd {H H' : Hp} {a : Addr} {u : HO} (e : Same H H') (h : Rd H a u) : Rd H' a u := by
  rcases h with h | ⟨o, h⟩
  · exact .inl (e _ _ h)
  · exact .inr ⟨o, e _ _ h⟩
section
variable {K : PySem.W.Frag} {G G' : Hp}
mutual
theorem Rp.mono (e : Same G G') : ∀ (d : D) (v : V), Rp K G v d → Rp K G' v d
  | .none, _, h => by cases h; exact .non
  | .bool b, _, h => by cases h; exact .bl b
  | .int i, _, h => by cases h; exact .int i
  | .str x, _, h => by cases h; exact .str x
  | .list ds, _, h => by
    cases h with
    | lst a b => exact .lst (e.seq a) (RpA.mono e ds _ b)
  | .tuple ds, _, h => by
    cases h with
    | tup a b => exact .tup (Z.Same.sqt e a) (RpA.mono e ds _ b)
  | .dict ds, _, h => by
    cases h with
    | dct a b => exact .dct (Z.Same.rd e a) (RpK.mono e ds _ b)
theorem RpA.mono (e : Same G G') : ∀ (ds : List D) (vs : List V), RpA K G vs ds → RpA K G' vs ds
  | [], _, h => by cases h; exact .nil
  | d :: ds, _, h => by
    cases h with
    | cons a b => exact .cons (Rp.mono e d _ a) (RpA.mono e ds _ b)
theorem RpK.mono (e : Same G G') : ∀ (ds : List (D × D)) (vs : List (Key × V)), RpK K G vs ds → RpK K G' vs ds
  | [], _, h => by cases h; exact .nil
  | (c, d) :: ds, _, h => by
    cases h with
    | cons a b => exact .cons (Rp.mono e d _ a) (RpK.mono e ds _ b)
end
mutual
theorem Rp.dp : ∀ (d : D) (v : V), Rp K G v d → d.canLay0 = true → Dp K G v d
  | .none, _, h, _ => by cases h; exact .non
  | .bool b, _, h, _ => by cases h; exact .bl b
  | .int i, _, h, _ => by cases h; exact .int i
  | .str x, _, h, _ => by cases h; exact .str x
  | .list ds, _, h, c => by
    cases h with
    | lst a b => exact .lst a (RpA.dp ds _ b (by simpa [PyData.canLay0] using c))
  | .tuple ds, _, h, c => by
    cases h with
    | tup a b => exact .tup a (RpA.dp ds _ b (by simpa [PyData.canLay0] using c))
  | .dict ds, _, h, c => by simp [PyData.canLay0] at c
theorem RpA.dp : ∀ (ds : List D) (vs : List V), RpA K G vs ds → PyData.canLayAll0 ds = true → DpAll K G vs ds
  | [], _, h, _ => by cases h; exact .nil
  | d :: ds, _, h, c => by
    cases h with
    | cons a b =>
      have c' : d.canLay0 = true ∧ PyData.canLayAll0 ds = true := by simpa [PyData.canLayAll0] using c
      exact .cons (Rp.dp d _ a c'.1) (RpA.dp ds _ b c'.2)
end
theorem RpA.len : ∀ {vs : List V} {ds : List D}, RpA K G vs ds → vs.length = ds.length
  | _, _, .nil => rfl
  | _, _, .cons _ b => congrArg (· + 1) (RpA.len b)
theorem RpA.get : ∀ {vs : List V} {ds : List D} {i : Nat} {d : D}, RpA K G vs ds → ds[i]? = some d → ∃ v, vs[i]? = some v ∧ Rp K G v d
  | _, _, i, d, .nil, e => by simp at e
  | _, _, 0, d, .cons a _, e => by simp at e; subst e; exact ⟨_, rfl, a⟩
  | _, _, i + 1, d, .cons _ b, e => by
    obtain ⟨v, h1, h2⟩ := RpA.get (i := i) b (by simpa using e)
    exact ⟨v, by simpa using h1, h2⟩
theorem RpA.getV : ∀ {vs : List V} {ds : List D} {i : Nat} {v : V}, RpA K G vs ds → vs[i]? = some v → ∃ d, ds[i]? = some d ∧ Rp K G v d
  | _, _, i, d, .nil, e => by simp at e
  | _, _, 0, d, .cons a _, e => by simp at e; subst e; exact ⟨_, rfl, a⟩
  | _, _, i + 1, d, .cons _ b, e => by
    obtain ⟨v, h1, h2⟩ := RpA.getV (i := i) b (by simpa using e)
    exact ⟨v, by simpa using h1, h2⟩
theorem RpA.app : ∀ {vs ws : List V} {ds es : List D}, RpA K G vs ds → RpA K G ws es → RpA K G (vs ++ ws) (ds ++ es)
  | _, _, _, _, .nil, h => h
  | _, _, _, _, .cons a b, h => .cons a (RpA.app b h)
theorem RpA.snoc {vs : List V} {v : V} {ds : List D} {d : D} (h : RpA K G vs ds) (r : Rp K G v d) : RpA K G (vs ++ [v]) (ds ++ [d]) := h.app (.cons r .nil)
theorem RpA.set : ∀ {vs : List V} {ds : List D} (i : Nat) {v : V} {d : D}, RpA K G vs ds → Rp K G v d → RpA K G (vs.set i v) (ds.set i d)
  | _, _, _, _, _, .nil, _ => .nil
  | _, _, 0, _, _, .cons _ b, r => .cons r b
  | _, _, i + 1, _, _, .cons a b, r => .cons a (RpA.set i b r)
theorem RpA.take : ∀ {vs : List V} {ds : List D} (n : Nat), RpA K G vs ds → RpA K G (vs.take n) (ds.take n)
  | _, _, 0, _ => .nil
  | _, _, _ + 1, .nil => .nil
  | _, _, n + 1, .cons a b => .cons a (RpA.take n b)
theorem RpA.drop : ∀ {vs : List V} {ds : List D} (n : Nat), RpA K G vs ds → RpA K G (vs.drop n) (ds.drop n)
  | _, _, 0, h => h
  | _, _, _ + 1, .nil => .nil
  | _, _, n + 1, .cons a b => RpA.drop n b
theorem Same.new {H : Hp} {p : Addr} {o : HO} (h : H p = none) : Same H (upd H p o) := fun b x e => by
  rw [upd_ne (ne_of_none e h)]
  exact e
end
end Z

/-! Z2: the core language, what it is worth, and its match with the given text. -/
namespace Z
open PySem PySem.Spec PyProof.Rows L2

/-- what a slot holds: a datum, or a list that this slot alone has -/
inductive O where
  | d (x : D)
  | ol (xs : List D)
def O.dat : O → D
  | .d x => x
  | .ol xs => .list xs
abbrev Sl := List (Option O)
/-- what an expression comes to: a slot's thing, or a new one -/
inductive AV where
  | pl (i : Nat)
  | tm (o : O)
inductive R (α : Type) where
  | ok (a : α) (e : Sl)
  | bad
@[inline] def R.bind {α β : Type} (r : R α) (f : α → Sl → R β) : R β := match r with
  | .ok a e => f a e
  | .bad => .bad
def R.of {α : Type} (o : Option α) (e : Sl) : R α := match o with
  | some a => .ok a e
  | none => .bad

inductive BOp where | add | sub | mul | fdiv | mod | pow
inductive COp where | eq | ne | lt | le | gt | ge | inn | nin
inductive Ty where | str | int | bool | list | tuple | dict
inductive Bi where | len | list | tuple | any | all | int | str | repr | ord
inductive Me where | join | split | replace | index
inductive CT where
  | nm (i : Nat)
  | tp (is : List Nat)
mutual
inductive CE where
  | non | bl (b : Bool) | int (i : Int) | str (s : Str)
  | v (i : Nat)
  | gl (k : Nat)
  | bin (o : BOp) (a b : CE)
  | neg (a : CE)
  | cmp (o : COp) (a b : CE)
  | chn (o o' : COp) (a b c : CE)
  | isN (a : CE) | notN (a : CE) | isB (a : CE) (b : Bool)
  | and (a b : CE) | or (a b : CE) | not (a : CE)
  | ifx (t a b : CE)
  | tup (es : CEs) | lst (es : CEs)
  | ix (a i : CE)
  | sl (a : CE) (lo hi : CP)
  | call (f : Nat) (es : CEs)
  | bi (b : Bi) (a : CE)
  | isi (a : CE) (t : Ty)
  | lr1 (a : CE)
  | me (m : Me) (a b : CE)
  | lc (ws : List Nat) (t : CT) (it : CI) (ifs : CP) (el : CE)
  | fs (es : CEs)
  | fv (a : CE)
  | fz (a : CE) (n : Nat)
  | bad
inductive CP where
  | no
  | yes (a : CE)
inductive CEs where
  | nil
  | cons (a : CE) (es : CEs)
inductive CI where
  | e (a : CE)
  | r1 (a : CE)
  | r2 (a b : CE)
end
mutual
inductive CS where
  | asg (i : Nat) (a : CE)
  | asgT (is : List Nat) (es : CEs)
  | unp (is : List Nat) (a : CE)
  | ex (a : CE)
  | app (i : Nat) (a : CE)
  | sti (i : Nat) (ix a : CE)
  | aug (i : Nat) (o : BOp) (a : CE)
  | ret (a : CE) | retN
  | ifs (t : CE) (a b : CSs)
  | for (t : CT) (it : CI) (b : CSs)
  | whl (t : CE) (b : CSs)
  | brk | cnt | pass
  | bad
inductive CSs where
  | nil
  | cons (a : CS) (r : CSs)
end

/-! ### operations on data -/
def sizeOk (n : Nat) : Bool := decide (n ≤ sizeLine)
def binD : BOp → D → D → Option O
  | .add, .int i, .int j => some (.d (.int (i + j)))
  | .add, .str x, .str y => if x.length + y.length ≤ sizeLine then some (.d (.str (x ++ y))) else none
  | .sub, .int i, .int j => some (.d (.int (i - j)))
  | .mul, .int i, .int j => if (-(2 ^ 64) < i ∧ i < 2 ^ 64) ∨ (-(2 ^ 64) < j ∧ j < 2 ^ 64) then some (.d (.int (i * j))) else none
  | .fdiv, .int i, .int j => if 0 < j ∧ j < 1073741824 then some (.d (.int (i / j))) else none
  | .mod, .int i, .int j => if 0 < j then some (.d (.int (i % j))) else none
  | .pow, .int i, .int j => if 0 ≤ j ∧ j ≤ 1000000 ∧ i.natAbs < 2 ^ 64 then some (.d (.int (i ^ j.toNat))) else none
  | _, _, _ => none
def augD : BOp → D → D → Option D
  | .add, .int i, .int j => some (.int (i + j))
  | .add, .str x, .str y => if x.length + y.length ≤ sizeLine then some (.str (x ++ y)) else none
  | .sub, .int i, .int j => some (.int (i - j))
  | _, _, _ => none
/-- data that may be compared at any depth -/
def eqOk (a b : D) : Bool := PySem.SeqAt.shaped a && PySem.SeqAt.shaped b
def eqD : D → D → Option Bool
  | .int i, .int j => some (decide (i = j))
  | .str x, .str y => some (decide (x = y))
  | .bool a, .bool b => some (decide (a = b))
  | a, b => if eqOk a b then some (PyData.eqv a b) else none
/-- is a text within another one: one sign alone -/
def signIn (x y : Str) : Option Bool := match x.cps.toList with
  | [c] => some (decide (c ∈ y.cps.toList))
  | _ => none
def flatD : D → Bool
  | .none | .bool _ | .int _ | .str _ => true
  | _ => false
def inD (x : D) : D → Option Bool
  | .list ys => if PySem.SeqAt.shaped x && PySem.SeqAt.shaped (.list ys) then some (ys.any fun z => PyData.eqv z x) else none
  | .tuple ys => if flatD x && ys.all flatD then some (ys.any fun z => PyData.eqv z x) else none
  | .str y => match x with
    | .str z => signIn z y
    | _ => none
  | _ => none
def cmpD : COp → D → D → Option Bool
  | .eq, a, b => eqD a b
  | .ne, a, b => (eqD a b).map (!·)
  | .lt, .int i, .int j => some (decide (i < j))
  | .le, .int i, .int j => some (decide (i ≤ j))
  | .gt, .int i, .int j => some (decide (j < i))
  | .ge, .int i, .int j => some (decide (j ≤ i))
  | .inn, a, b => inD a b
  | .nin, a, b => (inD a b).map (!·)
  | _, _, _ => none
def isNoneD : D → Bool
  | .none => true
  | _ => false
def isBoolD (b : Bool) : D → Bool
  | .bool c => c == b
  | _ => false
def ixD : D → D → Option D
  | .list xs, .int i => atI xs i
  | .tuple xs, .int i => atI xs i
  | .str x, .int i => if x.length ≤ sizeLine then (atI x.cps.toList i).map fun c => .str ⟨#[c]⟩ else none
  | _, _ => none
def cutL {α : Type} (xs : List α) (lo hi : Option Int) : List α := (xs.drop (HT.sIx xs.length 0 lo)).take (HT.sIx xs.length xs.length hi - HT.sIx xs.length 0 lo)
def slD : D → Option Int → Option Int → Option O
  | .list xs, lo, hi => some (.ol (cutL xs lo hi))
  | .str x, lo, hi => if x.length ≤ sizeLine then some (.d (.str (cutS x lo hi))) else none
  | _, _, _ => none
def boolsOf : List D → Option (List Bool)
  | [] => some []
  | .bool b :: r => (boolsOf r).map (b :: ·)
  | _ :: _ => none
def strsOf : List D → Option (List Str)
  | [] => some []
  | .str b :: r => (strsOf r).map (b :: ·)
  | _ :: _ => none
def smallInt (i : Int) : Bool := decide (i.natAbs.log2 < 1920)
def biD : Bi → D → Option O
  | .len, .list xs => some (.d (.int xs.length))
  | .len, .tuple xs => some (.d (.int xs.length))
  | .len, .str x => if x.length ≤ sizeLine then some (.d (.int x.length)) else none
  | .list, .list xs => some (.ol xs)
  | .list, .tuple xs => some (.ol xs)
  | .tuple, .list xs => some (.d (.tuple xs))
  | .tuple, .tuple xs => some (.d (.tuple xs))
  | .any, .list xs => (boolsOf xs).map fun bs => .d (.bool (bs.any id))
  | .all, .list xs => (boolsOf xs).map fun bs => .d (.bool (bs.all id))
  | .int, .int i => some (.d (.int i))
  | .int, .str x => if x.length ≤ 640 then (PySem.intText? x).map fun n => .d (.int n) else none
  | .str, .int i => if smallInt i then some (.d (.str (toString i))) else none
  | .repr, .int i => if smallInt i then some (.d (.str (toString i))) else none
  | .repr, .str x => if (reprText x).length ≤ sizeLine then some (.d (.str (reprText x))) else none
  | .repr, .list xs => if PyData.canLay0 (.list xs) && PyData.showable (.list xs) && decide (PyData.depth (.list xs) ≤ 64) && sizeOk (PyData.shown (.list xs)).length then some (.d (.str (PyData.shown (.list xs)))) else none
  | .repr, .tuple xs => if PyData.canLay0 (.tuple xs) && PyData.showable (.tuple xs) && decide (PyData.depth (.tuple xs) ≤ 64) && sizeOk (PyData.shown (.tuple xs)).length then some (.d (.str (PyData.shown (.tuple xs)))) else none
  | .ord, .str x => if x.length = 1 then some (.d (.int (x.cps.getD 0 0 : Nat))) else none
  | _, _ => none
def tyD : Ty → D → Bool
  | .str, .str _ => true
  | .int, .int _ => true
  | .int, .bool _ => true
  | .bool, .bool _ => true
  | .list, .list _ => true
  | .tuple, .tuple _ => true
  | .dict, .dict _ => true
  | _, _ => false
def meD : Me → D → D → Option O
  | .join, .str a, .list xs => match strsOf xs with
    | some ys => if (ys.map (·.length)).sum + ys.length * a.length ≤ 16777216 then some (.d (.str (Txt.join a ys))) else none
    | none => none
  | .split, .str a, .str b => if (b.length == 0) = false ∧ a.length + 2 ≤ sizeLine then some (.ol ((Txt.split a b).map .str)) else none
  | .index, .str a, .str b => match Builtin.Str.occurrences a b 0 a.length 1 with
    | i :: _ => some (.d (.int (i : Nat)))
    | [] => none
  | _, _, _ => none
def fmtD : D → Option Str
  | .str x => if x.length ≤ sizeLine then some x else none
  | .int i => if smallInt i then some (toString i) else none
  | _ => none

/-- a number by a written width, zeros ahead -/
def padZ (n : Nat) (i : Int) : Str := ⟨(List.replicate (n - (Nat.toDigits 10 i.natAbs).length) 48).toArray⟩ ++ Str.ofString (toString i)
/-! ### slots -/
def AV.get (e : Sl) : AV → Option O
  | .pl i => (e[i]?).join
  | .tm o => some o
def AV.dat (e : Sl) (a : AV) : Option D := (a.get e).map O.dat
/-- as a datum that stays: a slot's own list is so from now on -/
def take (a : AV) (e : Sl) : Option (D × Sl) := match a with
  | .tm o => some (o.dat, e)
  | .pl i => match (e[i]?).join with
    | some (.d x) => some (x, e)
    | some (.ol xs) => some (.list xs, e.set i (some (.d (.list xs))))
    | none => none
def takes : List AV → Sl → Option (List D × Sl)
  | [], e => some ([], e)
  | a :: r, e => match take a e with
    | some (x, e) => match takes r e with
      | some (xs, e) => some (x :: xs, e)
      | none => none
    | none => none
/-- for a store: a new thing as it is, a slot's as a datum -/
def valO (a : AV) (e : Sl) : Option (O × Sl) := match a with
  | .tm o => some (o, e)
  | .pl _ => (take a e).map fun p => (.d p.1, p.2)
def valOs : List AV → Sl → Option (List O × Sl)
  | [], e => some ([], e)
  | a :: r, e => match valO a e with
    | some (x, e) => match valOs r e with
      | some (xs, e) => some (x :: xs, e)
      | none => none
    | none => none
def isOwn : Option O → Bool
  | some (.ol _) => true
  | _ => false
/-- ow: which parameters' lists are the caller's; such a name is not stored anew -/
def setS (ow : List Bool) (i : Nat) (o : O) (e : Sl) : Option Sl :=
  if i < e.length ∧ ow[i]? ≠ some true then some (e.set i (some o)) else none
def setSs (ow : List Bool) : List Nat → List O → Sl → Option Sl
  | [], [], e => some e
  | i :: is, o :: os, e => match setS ow i o e with
    | some e => setSs ow is os e
    | none => none
  | _, _, _ => none
def setT (ow : List Bool) (t : CT) (x : D) (e : Sl) : Option Sl := match t with
  | .nm i => setS ow i (.d x) e
  | .tp is => match x with
    | .tuple xs => setSs ow is (xs.map O.d) e
    | _ => none
/-- the arguments of a call: own lists of slots go as they are, each once -/
def ownIx (e : Sl) : List AV → List Nat
  | [] => []
  | .pl i :: r => if isOwn ((e[i]?).join) then i :: ownIx e r else ownIx e r
  | .tm _ :: r => ownIx e r
def argO (e : Sl) : AV → Option O
  | .tm o => some (.d o.dat)
  | .pl i => (e[i]?).join
def argL (e : Sl) : List AV → Option (List O)
  | [] => some []
  | a :: r => match argO e a, argL e r with
    | some o, some os => some (o :: os)
    | _, _ => none
def argOs (avs : List AV) (e : Sl) : Option (List O) := if (ownIx e avs).Nodup then argL e avs else none
def putO (a : AV) (oi o : O) (e : Sl) : Sl := match a, oi with
  | .pl i, .ol _ => e.set i (some o)
  | _, _ => e
def putOs : List AV → List O → List O → Sl → Sl
  | a :: r, oi :: ois, o :: os, e => putO a oi o (putOs r ois os e)
  | _, _, _, e => e
def wipeE (e : Sl) : List Nat → Sl
  | [] => e
  | i :: r => (wipeE e r).set i none
def noOwn (e : Sl) (ws : List Nat) : Bool := ws.all fun i => !isOwn ((e[i]?).join)
def backE (e0 e : Sl) (ws : List Nat) : Sl := ws.foldl (fun e i => e.set i ((e0[i]?).join)) e
def intOf : Option D → Option Int
  | some (.int i) => some i
  | _ => none
def itemsOf : D → Option (List D)
  | .list xs => some xs
  | .tuple xs => some xs
  | .str x => if x.length ≤ sizeLine then some (x.cps.toList.map fun c => .str ⟨#[c]⟩) else none
  | _ => none
def rangeD (lo : Int) (n : Nat) : List D := (List.range n).map fun i => .int (lo + (i : Nat))
/-- a comprehension's turns -/
def lcL (body : D → Sl → R (Option D)) : List D → Sl → R (List D)
  | [], e => .ok [] e
  | x :: xs, e => (body x e).bind fun r e => (lcL body xs e).bind fun rs e => .ok (r.toList ++ rs) e
/-! ### what an expression is worth -/
abbrev Gm := Nat → List O → Option (O × List O)
variable (gc : List (Str × D)) (Γ : Gm)
def testV (r : R AV) : R Bool := r.bind fun x e => match x.dat e with
  | some (.bool b) => .ok b e
  | _ => .bad
mutual
def evE : CE → Sl → R AV
  | .non, e => .ok (.tm (.d .none)) e
  | .bl b, e => .ok (.tm (.d (.bool b))) e
  | .int i, e => .ok (.tm (.d (.int i))) e
  | .str s, e => .ok (.tm (.d (.str s))) e
  | .v i, e => match (e[i]?).join with
    | some _ => .ok (.pl i) e
    | none => .bad
  | .gl k, e => match gc[k]? with
    | some p => .ok (.tm (.d p.2)) e
    | none => .bad
  | .bin o a b, e => (evE a e).bind fun x e => (evE b e).bind fun y e => match x.dat e, y.dat e with
    | some p, some q => (R.of (binD o p q) e).bind fun r e => .ok (.tm r) e
    | _, _ => .bad
  | .neg a, e => (evE a e).bind fun x e => match x.dat e with
    | some (.int i) => .ok (.tm (.d (.int (-i)))) e
    | _ => .bad
  | .cmp o a b, e => (evE a e).bind fun x e => (evE b e).bind fun y e => match x.dat e, y.dat e with
    | some p, some q => (R.of (cmpD o p q) e).bind fun r e => .ok (.tm (.d (.bool r))) e
    | _, _ => .bad
  | .chn o o' a b c, e => (evE a e).bind fun x e => (evE b e).bind fun y e => match x.dat e, y.dat e with
    | some p, some q => (R.of (cmpD o p q) e).bind fun r e => if r then (evE c e).bind fun z e => match y.dat e, z.dat e with
        | some q, some u => (R.of (cmpD o' q u) e).bind fun r e => .ok (.tm (.d (.bool r))) e
        | _, _ => .bad
      else .ok (.tm (.d (.bool false))) e
    | _, _ => .bad
  | .isN a, e => (evE a e).bind fun x e => match x.dat e with
    | some p => .ok (.tm (.d (.bool (isNoneD p)))) e
    | none => .bad
  | .notN a, e => (evE a e).bind fun x e => match x.dat e with
    | some p => .ok (.tm (.d (.bool (!isNoneD p)))) e
    | none => .bad
  | .isB a b, e => (evE a e).bind fun x e => match x.dat e with
    | some p => .ok (.tm (.d (.bool (isBoolD b p)))) e
    | none => .bad
  | .and a b, e => (testV (evE a e)).bind fun c e => if c then evE b e else .ok (.tm (.d (.bool false))) e
  | .or a b, e => (testV (evE a e)).bind fun c e => if c then .ok (.tm (.d (.bool true))) e else evE b e
  | .not a, e => (testV (evE a e)).bind fun c e => .ok (.tm (.d (.bool (!c)))) e
  | .ifx t a b, e => (testV (evE t e)).bind fun c e => if c then evE a e else evE b e
  | .tup es, e => (evEs es e).bind fun avs e => match takes avs e with
    | some (ds, e) => .ok (.tm (.d (.tuple ds))) e
    | none => .bad
  | .lst es, e => (evEs es e).bind fun avs e => match takes avs e with
    | some (ds, e) => .ok (.tm (.ol ds)) e
    | none => .bad
  | .ix a i, e => (evE a e).bind fun x e => (evE i e).bind fun y e => match x.dat e, y.dat e with
    | some p, some q => (R.of (ixD p q) e).bind fun r e => .ok (.tm (.d r)) e
    | _, _ => .bad
  | .sl a lo hi, e => (evE a e).bind fun x e => (evP lo e).bind fun l e => (evP hi e).bind fun h e => match x.dat e with
    | some p => (R.of (slD p l h) e).bind fun r e => .ok (.tm r) e
    | none => .bad
  | .call f es, e => (evEs es e).bind fun avs e => match argOs avs e with
    | some os => (R.of (Γ f os) e).bind fun r e => .ok (.tm r.1) (putOs avs os r.2 e)
    | none => .bad
  | .bi b a, e => (evE a e).bind fun x e => match x.dat e with
    | some p => (R.of (biD b p) e).bind fun r e => .ok (.tm r) e
    | none => .bad
  | .isi a t, e => (evE a e).bind fun x e => match x.dat e with
    | some p => .ok (.tm (.d (.bool (tyD t p)))) e
    | none => .bad
  | .lr1 a, e => (evE a e).bind fun x e => match x.dat e with
    | some (.int n) => if n ≤ sizeLine ∧ -(2 ^ 62) ≤ n then .ok (.tm (.ol (rangeD 0 n.toNat))) e else .bad
    | _ => .bad
  | .me m a b, e => (evE a e).bind fun x e => match x.dat e with
    | some (.str t) => (evE b e).bind fun y e => match y.dat e with
      | some q => (R.of (meD m (.str t) q) e).bind fun r e => .ok (.tm r) e
      | none => .bad
    | _ => .bad
  | .lc ws t it ifs el, e => (evI it e).bind fun xs e0 => if noOwn e0 ws then
      (lcL (fun x e => match setT [] t x e with
        | some e => (evIf ifs e).bind fun c e => if c then (evE el e).bind fun y e => match take y e with
            | some (d, e) => .ok (some d) (wipeE e ws)
            | none => .bad
          else .ok none (wipeE e ws)
        | none => .bad) xs (wipeE e0 ws)).bind fun ds e => .ok (.tm (.ol ds)) (backE e0 e ws)
    else .bad
  | .fs es, e => (evF es Str.empty e).bind fun x e => .ok (.tm (.d (.str x))) e
  | .fv a, e => (evE a e).bind fun x e => match x.dat e with
    | some p => (R.of (fmtD p) e).bind fun y e => .ok (.tm (.d (.str y))) e
    | none => .bad
  | .fz a n, e => (evE a e).bind fun x e => match x.dat e with
    | some (.int i) => if 0 ≤ i ∧ i < 1000000000000000000 then .ok (.tm (.d (.str (padZ n i)))) e else .bad
    | _ => .bad
  | .bad, _ => .bad
def evEs : CEs → Sl → R (List AV)
  | .nil, e => .ok [] e
  | .cons a es, e => (evE a e).bind fun x e => (evEs es e).bind fun xs e => .ok (x :: xs) e
def evF : CEs → Str → Sl → R Str
  | .nil, acc, e => .ok acc e
  | .cons a es, acc, e => (evE a e).bind fun x e => match x.dat e with
    | some (.str y) => if (acc ++ y).length ≤ sizeLine then evF es (acc ++ y) e else .bad
    | _ => .bad
def evP : CP → Sl → R (Option Int)
  | .no, e => .ok none e
  | .yes a, e => (evE a e).bind fun x e => match x.dat e with
    | some (.int i) => .ok (some i) e
    | _ => .bad
def evIf : CP → Sl → R Bool
  | .no, e => .ok true e
  | .yes a, e => testV (evE a e)
def evI : CI → Sl → R (List D)
  | .e a, e => (evE a e).bind fun x e => match take x e with
    | some (d, e) => R.of (itemsOf d) e
    | none => .bad
  | .r1 a, e => (evE a e).bind fun x e => match x.dat e with
    | some (.int n) => if n ≤ sizeLine ∧ -(2 ^ 62) ≤ n then .ok (rangeD 0 n.toNat) e else .bad
    | _ => .bad
  | .r2 a b, e => (evE a e).bind fun x e => (evE b e).bind fun y e => match x.dat e, y.dat e with
    | some (.int n), some (.int m) => if (-(2 ^ 62) ≤ n ∧ n < 2 ^ 62) ∧ (-(2 ^ 62) ≤ m ∧ m < 2 ^ 62) ∧ m - n ≤ sizeLine then .ok (rangeD n (m - n).toNat) e else .bad
    | _, _ => .bad
end
def evT (a : CE) (e : Sl) : R Bool := testV (evE gc Γ a e)

/-! ### what a statement does -/
inductive Fl where
  | nx (e : Sl)
  | rt (o : O) (e : Sl)
  | bk (e : Sl)
  | ct (e : Sl)
  | bad
def Fl.of {α : Type} (r : R α) (f : α → Sl → Fl) : Fl := match r with
  | .ok a e => f a e
  | .bad => .bad
def forL (body : D → Sl → Fl) : List D → Sl → Fl
  | [], e => .nx e
  | x :: xs, e => match body x e with
    | .nx e => forL body xs e
    | .ct e => forL body xs e
    | .bk e => .nx e
    | .rt o e => .rt o e
    | .bad => .bad
def whlL (test : Sl → R Bool) (body : Sl → Fl) : Nat → Sl → Fl
  | 0, _ => .bad
  | n + 1, e => Fl.of (test e) fun c e => if c then match body e with
      | .nx e => whlL test body n e
      | .ct e => whlL test body n e
      | .bk e => .nx e
      | .rt o e => .rt o e
      | .bad => .bad
    else .nx e
def retO (ow : List Bool) (a : AV) (e : Sl) : Option (O × Sl) := match a with
  | .tm o => some (o, e)
  | .pl i => match (e[i]?).join with
    | some (.d x) => some (.d x, e)
    | some (.ol xs) => if ow[i]? = some true then some (.d (.list xs), e.set i (some (.d (.list xs)))) else some (.ol xs, e.set i none)
    | none => none
/-- turns of a while, at most -/
def whileMost : Nat := 2 ^ 40
mutual
def evS (ow : List Bool) : CS → Sl → Fl
  | .asg i a, e => Fl.of (evE gc Γ a e) fun x e => match valO x e with
    | some (o, e) => match setS ow i o e with
      | some e => .nx e
      | none => .bad
    | none => .bad
  | .asgT is es, e => Fl.of (evEs gc Γ es e) fun xs e => match valOs xs e with
    | some (os, e) => match setSs ow is os e with
      | some e => .nx e
      | none => .bad
    | none => .bad
  | .unp is a, e => Fl.of (evE gc Γ a e) fun x e => match take x e with
    | some (d, e) => match setT ow (.tp is) d e with
      | some e => .nx e
      | none => .bad
    | none => .bad
  | .ex a, e => Fl.of (evE gc Γ a e) fun _ e => .nx e
  | .app i a, e => if isOwn ((e[i]?).join) then Fl.of (evE gc Γ a e) fun x e => match take x e with
      | some (d, e) => match (e[i]?).join with
        | some (.ol xs) => if xs.length < sizeLine then .nx (e.set i (some (.ol (xs ++ [d])))) else .bad
        | _ => .bad
      | none => .bad
    else .bad
  | .sti i k a, e => if isOwn ((e[i]?).join) then Fl.of (evE gc Γ a e) fun x e => Fl.of (evE gc Γ k e) fun y e => match y.dat e with
      | some (.int j) => match take x e with
        | some (d, e) => match (e[i]?).join with
          | some (.ol xs) => match ixN xs.length j with
            | some n => .nx (e.set i (some (.ol (xs.set n d))))
            | none => .bad
          | _ => .bad
        | none => .bad
      | _ => .bad
    else .bad
  | .aug i o a, e => match (e[i]?).join with
    | some (.d _) => Fl.of (evE gc Γ a e) fun x e => match (e[i]?).join, x.dat e with
      | some (.d p), some q => match augD o p q with
        | some r => match setS ow i (.d r) e with
          | some e => .nx e
          | none => .bad
        | none => .bad
      | _, _ => .bad
    | _ => .bad
  | .ret a, e => Fl.of (evE gc Γ a e) fun x e => match retO ow x e with
    | some (o, e) => .rt o e
    | none => .bad
  | .retN, e => .rt (.d .none) e
  | .ifs t a b, e => Fl.of (evT gc Γ t e) fun c e => if c then evSs ow a e else evSs ow b e
  | .for t it b, e => Fl.of (evI gc Γ it e) fun xs e => forL (fun x e => match setT ow t x e with
      | some e => evSs ow b e
      | none => .bad) xs e
  | .whl t b, e => whlL (fun e => evT gc Γ t e) (fun e => evSs ow b e) whileMost e
  | .brk, e => .bk e
  | .cnt, e => .ct e
  | .pass, e => .nx e
  | .bad, _ => .bad
def evSs (ow : List Bool) : CSs → Sl → Fl
  | .nil, e => .nx e
  | .cons a r, e => match evS ow a e with
    | .nx e => evSs ow r e
    | .rt o e => .rt o e
    | .bk e => .bk e
    | .ct e => .ct e
    | .bad => .bad
end

/-! ### the program -/
def ownO : O → Bool
  | .d _ => false
  | .ol _ => true
structure FD where
  np : Nat
  ns : Nat
  body : CSs
  /-- a def whose promise is proved by hand -/
  nt : Option (List O → Option (O × List O))
/-- a call's lists behind it: those handed in as data as they were -/
def outO : O → Option O → Option O
  | .d x, _ => some (.d x)
  | .ol _, e => e
def outOs : List O → Sl → Option (List O)
  | [], _ => some []
  | a :: r, e => match outO a ((e[0]?).join), outOs r (e.drop 1) with
    | some x, some xs => some (x :: xs)
    | _, _ => none
def runF (fd : FD) (os : List O) : Option (O × List O) :=
  if os.length = fd.np ∧ fd.np ≤ fd.ns then
    match evSs gc Γ (os.map ownO) fd.body (os.map some ++ List.replicate (fd.ns - fd.np) none) with
    | .rt o e => (outOs os e).map fun xs => (o, xs)
    | .nx e => (outOs os e).map fun xs => (.d .none, xs)
    | _ => none
  else none
end Z

/-! Z3: the match of the core language with the given text. -/
namespace Z
open PySem PySem.Spec PyProof.Rows L2

def run (gc : List (Str × D)) (code : List FD) : Nat → Gm
  | 0 => fun _ _ => none
  | n + 1 => fun f os => match code[f]? with
    | some fd => match fd.nt with
      | some g => if os.length = fd.np then g os else none
      | none => runF gc (run gc code n) fd os
    | none => none

/-- the names of the program that the match looks at -/
structure Tb where
  fn : List Str
  gc : List (Str × D)
def plainName (x : Str) : Bool := !(x == ("__debug__" : Str)) && !(x == ("__classdict__" : Str)) && !(x == ("__name__" : Str))
def visB (sc : Scope) (x : Str) : Bool := match sc.names.lookup x with
  | some .local => true
  | some .cell => true
  | some .free => true
  | _ => false
def glB (sc : Scope) (x : Str) : Bool := match sc.names.lookup x with
  | some .globalImplicit => true
  | _ => false
/-- may be stored here; fl: the block's own written scope, none for a def -/
def locB (fl : Option Scope) (sc : Scope) (x : Str) : Bool := match sc.names.lookup x with
  | some .local => true
  | some .cell => match fl with
    | none => true
    | some s => match s.names.lookup x with
      | some .cell => true
      | _ => false
  | _ => false
def fnOf (fl : Option Scope) : Str → Bool := match fl with
  | none => fun _ => true
  | some s => fun x => s.names.lookup x == some .cell
def slotB (N : List Str) (i : Nat) (x : Str) : Bool := decide (N[i]? = some x)
def bopB : BOp → Operator → Bool
  | .add, .Add => true | .sub, .Sub => true | .mul, .Mult => true | .fdiv, .FloorDiv => true | .mod, .Mod => true | .pow, .Pow => true
  | _, _ => false
def copB : COp → CmpOp → Bool
  | .eq, .Eq => true | .ne, .NotEq => true | .lt, .Lt => true | .le, .LtE => true | .gt, .Gt => true | .ge, .GtE => true | .inn, .In => true | .nin, .NotIn => true
  | _, _ => false
def biN : Bi → Str
  | .len => "len" | .list => "list" | .tuple => "tuple" | .any => "any" | .all => "all" | .int => "int" | .str => "str" | .repr => "repr" | .ord => "ord"
def tyN : Ty → Str
  | .str => "str" | .int => "int" | .bool => "bool" | .list => "list" | .tuple => "tuple" | .dict => "dict"
def meN : Me → Str
  | .join => "join" | .split => "split" | .replace => "replace" | .index => "index"
def ownOf (N : List Str) (scope : Scope) : List (Str × Nat) := scope.names.filterMap fun y => match y.2 with
  | .local => if y.1 ∈ N then some (y.1, N.idxOf y.1) else none
  | .cell => if y.1 ∈ N then some (y.1, N.idxOf y.1) else none
  | _ => none
def tgB (N : List Str) (fl : Option Scope) (sc : Scope) : CT → Expr → Bool
  | .nm i, .Name x _ => slotB N i x && locB fl sc x
  | .tp is, .Tuple es _ _ => go is es
  | _, _ => false
where go : List Nat → List Expr → Bool
  | [], [] => true
  | i :: is, .Name x _ :: es => slotB N i x && locB fl sc x && go is es
  | _, _ => false
/-- a receiver whose method is looked up plainly -/
def recvB : Expr → Bool
  | .Constant .. => true
  | .Name .. => true
  | _ => false
def nbB : CE → Bool
  | .bad => false
  | _ => true
variable (T : Tb) (N : List Str)
mutual
def mE (fl : Option Scope) (sc : Scope) : CE → Expr → Bool
  | .non, .Constant .none _ _ => true
  | .bl b, .Constant (.bool c) _ _ => b == c
  | .int i, .Constant (.int j) _ _ => i == j
  | .str s, .Constant (.str t) _ _ => decide (s = t)
  | .v i, .Name x _ => slotB N i x && visB sc x && plainName x
  | .gl k, .Name x _ => (match T.gc[k]? with | some p => decide (p.1 = x) | none => false) && glB sc x && plainName x
  | .bin o a b, .BinOp l op r _ => bopB o op && mE fl sc a l && mE fl sc b r
  | .neg a, .UnaryOp .USub x _ => mE fl sc a x
  | .cmp o a b, .Compare l [op] [r] _ => copB o op && mE fl sc a l && mE fl sc b r
  | .chn o o' a b c, .Compare l [op, op'] [m, r] _ => copB o op && copB o' op' && mE fl sc a l && mE fl sc b m && (nbB c && mE fl sc c r)
  | .isN a, .Compare l [.Is] [.Constant .none _ _] _ => mE fl sc a l
  | .notN a, .Compare l [.IsNot] [.Constant .none _ _] _ => mE fl sc a l
  | .isB a b, .Compare l [.Is] [.Constant (.bool c) _ _] _ => b == c && mE fl sc a l
  | .and a b, .BoolOp .And (x :: y :: r) pos => mE fl sc a x && (match r with
      | [] => mE fl sc b y
      | z :: r => mE fl sc b (.BoolOp .And (y :: z :: r) pos))
  | .or a b, .BoolOp .Or (x :: y :: r) pos => mE fl sc a x && (match r with
      | [] => mE fl sc b y
      | z :: r => mE fl sc b (.BoolOp .Or (y :: z :: r) pos))
  | .not a, .UnaryOp .Not x _ => mE fl sc a x
  | .ifx t a b, .IfExp t' a' b' _ => mE fl sc t t' && mE fl sc a a' && mE fl sc b b'
  | .tup es, .Tuple xs _ _ => decide (xs.length ≤ 1000) && mEs fl sc es xs
  | .lst es, .List xs _ => decide (xs.length ≤ 1000) && mEs fl sc es xs
  | .ix a i, .Subscript l r _ => mE fl sc a l && mE fl sc i r
  | .sl a lo hi, .Subscript l (.Slice lo' hi' none _) _ => mE fl sc a l && mP fl sc lo lo' && mP fl sc hi hi'
  | .call f es, .Call (.Name x _) xs [] _ => decide (T.fn[f]? = some x) && glB sc x && plainName x && mEs fl sc es xs
  | .bi b a, .Call (.Name x _) [y] [] _ => decide (biN b = x) && glB sc x && mE fl sc a y
  | .isi a t, .Call (.Name x _) [y, .Name z _] [] _ => decide (x = ("isinstance" : Str)) && glB sc x && decide (tyN t = z) && glB sc z && mE fl sc a y
  | .lr1 a, .Call (.Name x _) [.Call (.Name y _) [z] [] _] [] _ => decide (x = ("list" : Str)) && glB sc x && decide (y = ("range" : Str)) && glB sc y && mE fl sc a z
  | .me m a b, .Call (.Attribute o x ap) [y] [] cp => decide (meN m = x) && (ap.endLine == cp.line) && recvB o && mE fl sc a o && mE fl sc b y
  | .lc ws t it ifs el, .ListComp elt [⟨tg, iter, cs, 0⟩] scope _ => decide ((ownOf N scope).map (·.2) = ws) && blkC N sc scope (ownOf N scope) && mI fl sc it iter && tgB N (some scope) (relS scope sc) t tg &&
      mIf (some scope) (relS scope sc) ifs cs && mE (some scope) (relS scope sc) el elt
  | .fs es, .JoinedStr xs _ => decide (2 ≤ xs.length) && mEs fl sc es xs
  | .fz a n, .JoinedStr [.FormattedValue x c (some (.JoinedStr [.Constant (.str sp) _ _] _)) _] _ => decide (c = -1) && (PyProof.Rows.intSpecOk sp && PyProof.Rows.intSpecZeroOf sp && decide (PyProof.Rows.intSpecWidthOf sp = n) && decide (sp.length ≤ 100)) && mE fl sc a x
  | .fv a, .FormattedValue x c none _ => decide (c = -1) && mE fl sc a x
  | .bad, _ => true
  | _, _ => false
def mEs (fl : Option Scope) (sc : Scope) : CEs → List Expr → Bool
  | .nil, [] => true
  | .cons a es, x :: xs => mE fl sc a x && mEs fl sc es xs
  | _, _ => false
def mP (fl : Option Scope) (sc : Scope) : CP → Option Expr → Bool
  | .no, none => true
  | .yes a, some x => mE fl sc a x
  | _, _ => false
def mIf (fl : Option Scope) (sc : Scope) : CP → List Expr → Bool
  | .no, [] => true
  | .yes a, [x] => mE fl sc a x
  | _, _ => false
def mI (fl : Option Scope) (sc : Scope) : CI → Expr → Bool
  | .e a, x => mE fl sc a x
  | .r1 a, .Call (.Name x _) [y] [] _ => decide (x = ("range" : Str)) && glB sc x && mE fl sc a y
  | .r2 a b, .Call (.Name x _) [y, z] [] _ => decide (x = ("range" : Str)) && glB sc x && mE fl sc a y && mE fl sc b z
  | _, _ => false
end
/-- one line: the name is stored by the comprehension itself -/
def isLc : Expr → Bool
  | .ListComp .. => true
  | _ => false
def unpB : Expr → Bool
  | .Tuple xs _ _ => !(xs.any fun | .Starred .. => true | _ => false) && xs.all (foldedForSure 8)
  | .ListComp .. => false
  | _ => true
def lclB (sc : Scope) (x : Str) : Bool := match sc.names.lookup x with
  | some .local => true
  | _ => false
mutual
def mS (sc : Scope) : CS → Stmt → Bool
  | .asg i a, .Assign [.Name x p] e _ => slotB N i x && locB none sc x && mE T N none sc a e
  | .asgT [i, j] es, .Assign [.Tuple [.Name x p, .Name y q] _ _] (.Tuple [a, b] _ _) _ => slotB N i x && slotB N j y && (decide (i ≠ j) && decide (x ≠ y) && (p.line == q.line)) && lclB sc x && lclB sc y &&
      (!([a, b].any fun | .Starred .. => true | _ => false) && !([a, b].all (foldedForSure 8)) && !([a, b].all (constantsAlone 8))) && mEs T N none sc es [a, b]
  | .unp is a, .Assign [.Tuple ts k p] e _ => unpB e && tgB N none sc (.tp is) (.Tuple ts k p) && mE T N none sc a e
  | .ex a, .Expr e _ => !isLc e && mE T N none sc a e
  | .app i a, .Expr (.Call (.Attribute (.Name x _) m ap) [y] [] cp) _ => slotB N i x && visB sc x && plainName x && decide (m = ("append" : Str)) && (ap.endLine == cp.line) && mE T N none sc a y
  | .sti i k a, .Assign [.Subscript (.Name x _) ix _] e _ => slotB N i x && visB sc x && plainName x && !isLc e && mE T N none sc k ix && mE T N none sc a e
  | .aug i o a, .AugAssign (.Name x _) op e _ => slotB N i x && locB none sc x && bopB o op && mE T N none sc a e
  | .ret a, .Return (some e) _ => mE T N none sc a e
  | .retN, .Return none _ => true
  | .ifs t a b, .If c x y _ => mE T N none sc t c && mSs sc a x && mSs sc b y
  | .for t it b, .For tg iter body [] _ => tgB N none sc t tg && mI T N none sc it iter && mSs sc b body
  | .whl t b, .While c body [] _ => mE T N none sc t c && mSs sc b body
  | .brk, .Break _ => true
  | .cnt, .Continue _ => true
  | .pass, .Pass _ => true
  | .bad, _ => true
  | _, _ => false
def mSs (sc : Scope) : CSs → List Stmt → Bool
  | .nil, [] => true
  | .cons a r, x :: xs => mS sc a x && mSs sc r xs
  | _, _ => false
end
example (gc : List (Str × D)) (Γ : Gm) (e : Sl) : evE gc Γ (.bin .add (.int 1) (.int 2)) e = .ok (.tm (.d (.int 3))) e := rfl
end Z

/-! Z4: readings that are the runs themselves; slots and heaps. -/
namespace Z
open PySem PySem.Spec PyProof.Rows L2

/-! ### a piece of text by its own run -/
section
variable {X : Cx} {e : Expr} {es : List Expr} {st : Stmt} {sts : List Stmt} {σ : L2.St} {H : Hp}
def wE (X : Cx) (e : Expr) : TE := fun σ H Q => ∀ pins s, Inv X pins σ H s → wpAny (model X.prog X.w) X.A (eval e X.env) (EP X pins σ Q) X.xe s
def wT (X : Cx) (e : Expr) : TT := fun σ H Q => ∀ pins s, Inv X pins σ H s → wpAny (model X.prog X.w) X.A (isTrue e X.env (eval e X.env)) (TP X pins σ Q) X.xe s
def wW (X : Cx) (e : Expr) : TT := fun σ H Q => ∀ (whole : Sem Value) pins s, Inv X pins σ H s → wpAny (model X.prog X.w) X.A (isTrue e X.env whole) (TP X pins σ Q) X.xe s
def wA (X : Cx) (es : List Expr) : TA := fun σ H Q => ∀ pos pins s, Inv X pins σ H s → wpAny (model X.prog X.w) X.A (spliced (backTo pos (starEach es X.env))) (AP X pins σ Q) X.xe s
def wS (X : Cx) (st : Stmt) : TS := fun D σ H => ∀ pins s, Inv X pins σ H s → wpAny (model X.prog X.w) X.A (exec st X.env) (SP X pins D) X.xe s
def wSs (X : Cx) (st : List Stmt) : TS := fun D σ H => ∀ pins s, Inv X pins σ H s → wpAny (model X.prog X.w) X.A (execs st X.env) (SP X pins D) X.xe s
theorem pe_w : PE X e (wE X e) := ⟨fun pins s σ H Q I h => h pins s I⟩
theorem pt_w : PT X e (wT X e) := ⟨fun pins s σ H Q I h => h pins s I⟩
theorem pw_w : PW X e (wW X e) := ⟨fun wh pins s σ H Q I h => h wh pins s I⟩
theorem pa_w : PA X es (wA X es) := ⟨fun pos pins s σ H Q I h => h pos pins s I⟩
theorem ps_w : PS X st (wS X st) := ⟨fun pins s σ H D I h => h pins s I⟩
theorem pss_w : PSs X sts (wSs X sts) := ⟨fun pins s σ H D I h => h pins s I⟩
theorem wE.by {t : TE} {Q : VK} (p : PE X e t) (h : t σ H Q) : wE X e σ H Q := fun pins s I => p.run pins s σ H Q I h
theorem wT.by {t : TT} {Q : Bool → Hp → Prop} (p : PT X e t) (h : t σ H Q) : wT X e σ H Q := fun pins s I => p.run pins s σ H Q I h
theorem wW.by {t : TT} {Q : Bool → Hp → Prop} (p : PW X e t) (h : t σ H Q) : wW X e σ H Q := fun wh pins s I => p.run wh pins s σ H Q I h
theorem wA.by {t : TA} {Q : List V → Hp → Prop} (p : PA X es t) (h : t σ H Q) : wA X es σ H Q := fun pos pins s I => p.run pos pins s σ H Q I h
theorem wS.by {t : TS} {D : Ends} (p : PS X st t) (h : t D σ H) : wS X st D σ H := fun pins s I => p.run pins s σ H D I h
theorem wSs.by {t : TS} {D : Ends} (p : PSs X sts t) (h : t D σ H) : wSs X sts D σ H := fun pins s I => p.run pins s σ H D I h
theorem wE.mono {Q Q' : VK} (h : wE X e σ H Q) (k : ∀ v H', Q v H' → Q' v H') : wE X e σ H Q' := fun pins s I =>
  thn (h pins s I) fun u s' z => by
    obtain ⟨v, H', I', r, q⟩ := z
    exact ⟨v, H', I', r, k v H' q⟩
theorem wT.mono {Q Q' : Bool → Hp → Prop} (h : wT X e σ H Q) (k : ∀ v H', Q v H' → Q' v H') : wT X e σ H Q' := fun pins s I =>
  thn (h pins s I) fun b s' z => by
    obtain ⟨H', I', q⟩ := z
    exact ⟨H', I', k b H' q⟩
theorem wW.mono {Q Q' : Bool → Hp → Prop} (h : wW X e σ H Q) (k : ∀ v H', Q v H' → Q' v H') : wW X e σ H Q' := fun wh pins s I =>
  thn (h wh pins s I) fun b s' z => by
    obtain ⟨H', I', q⟩ := z
    exact ⟨H', I', k b H' q⟩
theorem wA.mono {Q Q' : List V → Hp → Prop} (h : wA X es σ H Q) (k : ∀ v H', Q v H' → Q' v H') : wA X es σ H Q' := fun pos pins s I =>
  thn (h pos pins s I) fun us s' z => by
    obtain ⟨vs, H', I', r, q⟩ := z
    exact ⟨vs, H', I', r, k vs H' q⟩
theorem wW.t {Q : Bool → Hp → Prop} (h : wW X e σ H Q) : wT X e σ H Q := fun pins s I => h _ pins s I
end

/-! ### slots, owners, the frozen heap -/
abbrev Ow := Addr → Option Nat
def RepO (K : PySem.W.Frag) (G H : Hp) : O → V → Prop
  | .d x, v => Rp K G v x
  | .ol xs, v => ∃ p vs, v = .ref p ∧ H p = some (.lst vs) ∧ G p = none ∧ RpA K G vs xs
structure Sts (K : PySem.W.Frag) (Θ : Ow) (G H : Hp) (e : Sl) (σ : L2.St) : Prop where
  gh : Same G H
  th : ∀ a i, Θ a = some i → H a ≠ none
  len : e.length = σ.length
  sl : ∀ i o, (e[i]?).join = some o → ∃ v, σ[i]? = some (some v) ∧ RepO K G H o v ∧ ∀ p xs, o = .ol xs → v = .ref p → Θ p = some i
structure Stp (Θ : Ow) (G H : Hp) (Θ' : Ow) (G' H' : Hp) : Prop where
  g : Same G G'
  h : ∀ a o, H a = some o → Θ a = none → H' a = some o ∧ G' a = G a ∧ Θ' a = none
  m : ∀ a i, Θ a = some i → Θ' a = some i
section
variable {K : PySem.W.Frag} {Θ Θ' Θ1 Θ2 : Ow} {G G' G1 G2 H H0 H' H1 H2 : Hp} {e e' : Sl} {σ σ' : L2.St} {av : AV} {v : V} {o : O} {d : D}
theorem Stp.refl : Stp Θ G H Θ G H := ⟨Same.refl _, fun _ _ h t => ⟨h, rfl, t⟩, fun _ _ h => h⟩
theorem Stp.trans (a : Stp Θ G H Θ1 G1 H1) (b : Stp Θ1 G1 H1 Θ2 G2 H2) : Stp Θ G H Θ2 G2 H2 :=
  ⟨a.g.trans b.g, fun p o h t => by
    obtain ⟨h1, g1, t1⟩ := a.h p o h t
    obtain ⟨h2, g2, t2⟩ := b.h p o h1 t1
    exact ⟨h2, g2.trans g1, t2⟩, fun p i h => b.m p i (a.m p i h)⟩
theorem Stp.dom (a : Stp Θ G H Θ' G' H') (s : Sts K Θ' G' H' e σ) {p : Addr} (h : H p ≠ none) : H' p ≠ none := by
  cases q : H p with
  | none => exact absurd q h
  | some o =>
    cases t : Θ p with
    | none =>
      rw [(a.h p o q t).1]
      simp
    | some i => exact s.th p i (a.m p i t)
theorem Stp.back (a : Stp Θ G H Θ' G' H') (s : Sts K Θ' G' H' e σ) {p : Addr} (h : H' p = none) : H p = none := by
  cases q : H p with
  | none => rfl
  | some o => exact absurd h (a.dom s (by rw [q]; simp))
theorem Sts.noOw (s : Sts K Θ G H e σ) {p : Addr} (h : H p = none) : Θ p = none := by
  cases t : Θ p with
  | none => rfl
  | some i => exact absurd h (s.th p i t)
/-- what av is, the value v standing for it; H0: the heap ahead, in which a new list was not -/
def AVok (K : PySem.W.Frag) (Θ : Ow) (H0 G H : Hp) (σ : L2.St) : AV → V → Prop
  | .pl i, v => σ[i]? = some (some v)
  | .tm (.d x), v => Rp K G v x
  | .tm (.ol xs), v => ∃ p vs, v = .ref p ∧ H p = some (.lst vs) ∧ G p = none ∧ RpA K G vs xs ∧ Θ p = none ∧ H0 p = none
theorem RepO.full (g : Same G H) : ∀ {o : O} {v : V}, RepO K G H o v → Rp K H v o.dat
  | .d x, v, h => Rp.mono g x v h
  | .ol xs, v, h => by
    obtain ⟨p, vs, rfl, hp, _, r⟩ := h
    exact .lst (SqL.of hp) (RpA.mono g xs vs r)
theorem AVok.get (s : Sts K Θ G H e σ) (a : AVok K Θ H0 G H σ av v) (h : av.get e = some o) : RepO K G H o v := by
  cases av with
  | pl i =>
    obtain ⟨v', h1, h2, _⟩ := s.sl i o h
    have a' : σ[i]? = some (some v) := a
    rw [h1] at a'
    cases a'
    exact h2
  | tm u =>
    have h' : u = o := Option.some.inj h
    subst h'
    cases u with
    | d x => exact a
    | ol xs =>
      obtain ⟨p, vs, h1, h2, h3, h4, _⟩ := a
      exact ⟨p, vs, h1, h2, h3, h4⟩
theorem AVok.rp (s : Sts K Θ G H e σ) (a : AVok K Θ H0 G H σ av v) (h : av.dat e = some d) : Rp K H v d := by
  unfold AV.dat at h
  cases q : av.get e with
  | none =>
    rw [q] at h
    cases h
  | some o =>
    rw [q] at h
    cases h
    exact (a.get s q).full s.gh
/-- a list or a tuple: what it has are data of the frozen heap -/
theorem AVok.lst {xs : List D} (s : Sts K Θ G H e σ) (a : AVok K Θ H0 G H σ av v) (h : av.dat e = some (.list xs)) : ∃ p vs, v = .ref p ∧ SqL K H p vs ∧ RpA K G vs xs := by
  unfold AV.dat at h
  cases q : av.get e with
  | none =>
    rw [q] at h
    cases h
  | some o =>
    rw [q] at h
    have r := a.get s q
    cases o with
    | d x =>
      have hx : x = .list xs := Option.some.inj h
      subst hx
      cases r with
      | lst r1 r2 => exact ⟨_, _, rfl, s.gh.seq r1, r2⟩
    | ol ys =>
      have hx : PyData.list ys = .list xs := Option.some.inj h
      cases hx
      obtain ⟨p, vs, h1, h2, _, h4⟩ := r
      exact ⟨p, vs, h1, SqL.of h2, h4⟩
theorem AVok.tup {xs : List D} (s : Sts K Θ G H e σ) (a : AVok K Θ H0 G H σ av v) (h : av.dat e = some (.tuple xs)) : ∃ p vs, v = .ref p ∧ SqT K G p vs ∧ RpA K G vs xs := by
  unfold AV.dat at h
  cases q : av.get e with
  | none =>
    rw [q] at h
    cases h
  | some o =>
    rw [q] at h
    have r := a.get s q
    cases o with
    | d x =>
      have hx : x = .tuple xs := Option.some.inj h
      subst hx
      cases r with
      | tup r1 r2 => exact ⟨_, _, rfl, r1, r2⟩
    | ol ys => cases h
theorem AVok.mono (p : Stp Θ G H Θ G' H') (a : AVok K Θ H0 G H σ av v) : AVok K Θ H0 G' H' σ av v := by
  cases av with
  | pl i => exact a
  | tm o =>
    cases o with
    | d x => exact Rp.mono p.g x v a
    | ol xs =>
      obtain ⟨q, vs, h1, h2, h3, h4, h5, h6⟩ := a
      obtain ⟨k1, k2, _⟩ := p.h q _ h2 h5
      exact ⟨q, vs, h1, k1, by rw [k2]; exact h3, RpA.mono p.g xs vs h4, h5, h6⟩
theorem AVok.old (k : ∀ a, H1 a = none → H0 a = none) (a : AVok K Θ H1 G H σ av v) : AVok K Θ H0 G H σ av v := by
  cases av with
  | pl i => exact a
  | tm o =>
    cases o with
    | d x => exact a
    | ol xs =>
      obtain ⟨q, vs, h1, h2, h3, h4, h5, h6⟩ := a
      exact ⟨q, vs, h1, h2, h3, h4, h5, k q h6⟩
/-- a new object is laid, a list of ours -/
theorem Sts.laid {p : Addr} {u : HO} (s : Sts K Θ G H e σ) (h : H p = none) : Sts K Θ G (upd H p u) e σ := by
  refine ⟨s.gh.trans (Same.new h), fun a i t => ?_, s.len, fun i o q => ?_⟩
  · by_cases z : a = p
    · subst z
      rw [upd_same]
      simp
    · rw [upd_ne z]
      exact s.th a i t
  · obtain ⟨v, h1, h2, h3⟩ := s.sl i o q
    refine ⟨v, h1, ?_, h3⟩
    cases o with
    | d x => exact h2
    | ol xs =>
      obtain ⟨r, vs, k1, k2, k3, k4⟩ := h2
      exact ⟨r, vs, k1, Same.new h _ _ k2, k3, k4⟩
theorem Stp.laid {p : Addr} {u : HO} (h : H p = none) : Stp Θ G H Θ G (upd H p u) := ⟨Same.refl _, fun a o q t => ⟨Same.new h a o q, rfl, t⟩, fun _ _ t => t⟩
/-- a new object is laid that stays as it is: a tuple -/
theorem Sts.froz {p : Addr} {u : HO} (s : Sts K Θ G H e σ) (h : H p = none) : Sts K Θ (upd G p u) (upd H p u) e σ := by
  have hg : G p = none := by
    cases q : G p with
    | none => rfl
    | some o =>
      rw [s.gh p o q] at h
      cases h
  refine ⟨fun a o q => ?_, fun a i t => ?_, s.len, fun i o q => ?_⟩
  · by_cases z : a = p
    · subst z
      rw [upd_same] at q ⊢
      exact q
    · rw [upd_ne z] at q ⊢
      exact s.gh a o q
  · by_cases z : a = p
    · subst z
      rw [upd_same]
      simp
    · rw [upd_ne z]
      exact s.th a i t
  · obtain ⟨v, h1, h2, h3⟩ := s.sl i o q
    refine ⟨v, h1, ?_, h3⟩
    cases o with
    | d x => exact Rp.mono (Same.new hg) x v h2
    | ol xs =>
      obtain ⟨r, vs, k1, k2, k3, k4⟩ := h2
      refine ⟨r, vs, k1, Same.new h _ _ k2, ?_, RpA.mono (Same.new hg) xs vs k4⟩
      rw [upd_ne (ne_of_none k2 h)]
      exact k3
theorem Stp.froz {p : Addr} {u : HO} (gh : Same G H) (h : H p = none) : Stp Θ G H Θ (upd G p u) (upd H p u) := by
  have hg : G p = none := by
    cases q : G p with
    | none => rfl
    | some o =>
      rw [gh p o q] at h
      cases h
  exact ⟨Same.new hg, fun a o q t => ⟨Same.new h a o q, upd_ne (ne_of_none q h), t⟩, fun _ _ t => t⟩
/-- an own list stays as it is from now on -/
theorem Sts.keep {p : Addr} {u : HO} (s : Sts K Θ G H e σ) (h : H p = some u) (hg : G p = none) (no : ∀ (i : Nat) (xs : List D), (e[i]?).join = some (O.ol xs) → ∀ q : Addr, σ[i]? = some (some (V.ref q)) → q ≠ p) : Sts K Θ (upd G p u) H e σ := by
  refine ⟨fun a o q => ?_, s.th, s.len, fun i o q => ?_⟩
  · by_cases z : a = p
    · subst z
      rw [upd_same] at q
      rw [h]
      exact q
    · rw [upd_ne z] at q
      exact s.gh a o q
  · obtain ⟨v, h1, h2, h3⟩ := s.sl i o q
    refine ⟨v, h1, ?_, h3⟩
    cases o with
    | d x => exact Rp.mono (Same.new hg) x v h2
    | ol xs =>
      obtain ⟨r, vs, k1, k2, k3, k4⟩ := h2
      subst k1
      exact ⟨r, vs, rfl, k2, by rw [upd_ne (no i xs q r h1)]; exact k3, RpA.mono (Same.new hg) xs vs k4⟩
end
end Z

/-! Z5: taking, storing, handing over. -/
namespace Z
open PySem PySem.Spec PyProof.Rows L2
section
variable {K : PySem.W.Frag} {Θ Θ' Θ1 Θ2 : Ow} {G0 G G' G1 G2 H H0 H' H1 H2 : Hp} {e e' : Sl} {σ σ' : L2.St} {av : AV} {v : V} {o : O} {d : D} {avs : List AV} {vs : List V}
theorem join_set {i j : Nat} {o : Option O} (h : i < e.length) : (((e.set i o)[j]?).join) = if j = i then o else (e[j]?).join := by
  by_cases z : j = i
  · subst z
    rw [if_pos rfl, List.getElem?_set_self h]
    rfl
  · rw [if_neg z, List.getElem?_set_ne (Ne.symm z)]
theorem join_lt {i : Nat} {o : O} (h : (e[i]?).join = some o) : i < e.length := by
  cases q : e[i]? with
  | none =>
    rw [q] at h
    cases h
  | some u => exact (List.getElem?_eq_some_iff.mp q).1
/-- the address of a new list -/
def tad : AV → V → Option Addr
  | .tm (.ol _), .ref p => some p
  | _, _ => none
def tads : List AV → List V → List Addr
  | a :: r, v :: vs => (tad a v).toList ++ tads r vs
  | _, _ => []
def Dst : List AV → List V → Prop
  | a :: r, v :: vs => (∀ p, tad a v = some p → p ∉ tads r vs) ∧ Dst r vs
  | _, _ => True
theorem tad_at (a : AVok K Θ H0 G H σ av v) {p : Addr} (h : tad av v = some p) : Θ p = none ∧ H0 p = none ∧ G p = none ∧ ∃ vs, H p = some (.lst vs) := by
  cases av with
  | pl i => cases h
  | tm o =>
    cases o with
    | d x => cases h
    | ol xs =>
      obtain ⟨q, ws, rfl, h2, h3, h4, h5, h6⟩ := a
      have e : q = p := Option.some.inj h
      subst e
      exact ⟨h5, h6, h3, ws, h2⟩
theorem tads_at : ∀ {avs : List AV} {vs : List V}, Paired (AVok K Θ H0 G H σ) avs vs → ∀ p ∈ tads avs vs, Θ p = none ∧ H0 p = none ∧ G p = none ∧ ∃ ws, H p = some (.lst ws)
  | _, _, .nil, p, h => by simp [tads] at h
  | a :: r, v :: vs, .cons h1 h2, p, h => by
    rcases List.mem_append.mp h with h | h
    · exact tad_at h1 (by simpa using h)
    · exact tads_at h2 p h
/-- more is frozen: what av is stays -/
theorem AVok.more (a : AVok K Θ H0 G H σ av v) (g : Same G G') (n : ∀ p, tad av v = some p → G' p = none) : AVok K Θ H0 G' H σ av v := by
  cases av with
  | pl i => exact a
  | tm o =>
    cases o with
    | d x => exact Rp.mono g x v a
    | ol xs =>
      obtain ⟨q, vs, rfl, h2, h3, h4, h5, h6⟩ := a
      exact ⟨q, vs, rfl, h2, n q rfl, RpA.mono g xs vs h4, h5, h6⟩
theorem AVsok.more : ∀ {avs : List AV} {vs : List V}, Paired (AVok K Θ H0 G H σ) avs vs → Same G G' → (∀ p ∈ tads avs vs, G' p = none) → Paired (AVok K Θ H0 G' H σ) avs vs
  | _, _, .nil, _, _ => .nil
  | a :: r, v :: vs, .cons h1 h2, g, n => .cons (h1.more g fun p hp => n p (List.mem_append_left _ (by simp [hp]))) (AVsok.more h2 g fun p hp => n p (List.mem_append_right _ hp))
/-- what changes when something is frozen: g the frozen heap ahead -/
structure Frz (Θ : Ow) (G G' : Hp) (ps : List Addr) : Prop where
  g : Same G G'
  n : ∀ a, G' a ≠ G a → a ∈ ps ∨ Θ a ≠ none
theorem Frz.refl {ps : List Addr} : Frz Θ G G ps := ⟨Same.refl _, fun _ h => absurd rfl h⟩
theorem Frz.stp {ps : List Addr} (f : Frz Θ G G' ps) (st : Stp Θ G0 H0 Θ G H) (h : ∀ p ∈ ps, H0 p = none) : Stp Θ G0 H0 Θ G' H :=
  ⟨st.g.trans f.g, fun a o q t => by
    obtain ⟨h1, h2, h3⟩ := st.h a o q t
    refine ⟨h1, ?_, t⟩
    by_cases z : G' a = G a
    · exact z.trans h2
    · rcases f.n a z with w | w
      · rw [h a w] at q
        cases q
      · exact absurd t w, fun _ _ t => t⟩
theorem take_ok (s : Sts K Θ G H e σ) (a : AVok K Θ H0 G H σ av v) (h : take av e = some (d, e')) :
    ∃ G', Frz Θ G G' (tad av v).toList ∧ Sts K Θ G' H e' σ ∧ Rp K G' v d := by
  cases av with
  | tm o =>
    have h' : (o.dat, e) = (d, e') := Option.some.inj h
    obtain ⟨rfl, rfl⟩ := Prod.mk.inj h'
    cases o with
    | d x => exact ⟨G, Frz.refl, s, a⟩
    | ol xs =>
      obtain ⟨p, ws, rfl, h2, h3, h4, h5, h6⟩ := a
      refine ⟨upd G p (.lst ws), ⟨Same.new h3, fun b hb => ?_⟩, ?_, .lst (SqL.of upd_same) (RpA.mono (Same.new h3) xs ws h4)⟩
      · left
        by_cases z : b = p
        · subst z
          simp [tad]
        · exact absurd (upd_ne z) hb
      · refine s.keep h2 h3 fun i ys q r hr z => ?_
        subst z
        obtain ⟨v', k1, k2, k3⟩ := s.sl i _ q
        rw [hr] at k1
        cases k1
        rw [k3 r ys rfl rfl] at h5
        cases h5
  | pl i =>
    unfold take at h
    cases q : (e[i]?).join with
    | none => simp [q] at h
    | some o =>
      obtain ⟨v', k1, k2, k3⟩ := s.sl i o q
      have a' : σ[i]? = some (some v) := a
      rw [k1] at a'
      have ev : v' = v := by injection a' with z; injection z
      subst ev
      cases o with
      | d x =>
        simp only [q, Option.some.injEq, Prod.mk.injEq] at h
        obtain ⟨rfl, rfl⟩ := h
        exact ⟨G, Frz.refl, s, k2⟩
      | ol xs =>
        simp only [q, Option.some.injEq, Prod.mk.injEq] at h
        obtain ⟨rfl, rfl⟩ := h
        obtain ⟨p, ws, rfl, h2, h3, h4⟩ := k2
        have tp := k3 p xs rfl rfl
        have hs : Same G (upd G p (.lst ws)) := Same.new h3
        have rp : Rp K (upd G p (.lst ws)) (.ref p) (.list xs) := .lst (SqL.of upd_same) (RpA.mono hs xs ws h4)
        refine ⟨upd G p (.lst ws), ⟨hs, fun b hb => ?_⟩, ⟨fun b o hb => ?_, s.th, by rw [List.length_set]; exact s.len, fun j o hj => ?_⟩, rp⟩
        · right
          by_cases z : b = p
          · subst z
            rw [tp]
            simp
          · exact absurd (upd_ne z) hb
        · by_cases z : b = p
          · subst z
            rw [upd_same] at hb
            rw [h2]
            exact hb
          · rw [upd_ne z] at hb
            exact s.gh b o hb
        · rw [join_set (join_lt q)] at hj
          by_cases z : j = i
          · subst z
            rw [if_pos rfl] at hj
            cases hj
            exact ⟨_, k1, rp, fun _ _ z => nomatch z⟩
          · rw [if_neg z] at hj
            obtain ⟨v2, m1, m2, m3⟩ := s.sl j o hj
            refine ⟨v2, m1, ?_, m3⟩
            cases o with
            | d x => exact Rp.mono hs x v2 m2
            | ol ys =>
              obtain ⟨r, us, rfl, n2, n3, n4⟩ := m2
              have hr : r ≠ p := fun w => by
                subst w
                have := m3 r ys rfl rfl
                rw [tp] at this
                cases this
                exact z rfl
              exact ⟨r, us, rfl, n2, by rw [upd_ne hr]; exact n3, RpA.mono hs ys us n4⟩
theorem takes_ok : ∀ {avs : List AV} {vs : List V} {G : Hp} {e e' : Sl} {ds : List D}, Sts K Θ G H e σ → Paired (AVok K Θ H0 G H σ) avs vs → Dst avs vs → takes avs e = some (ds, e') →
    ∃ G', Frz Θ G G' (tads avs vs) ∧ Sts K Θ G' H e' σ ∧ RpA K G' vs ds
  | _, _, G, e, e', ds, s, .nil, _, h => by
    have h' : (([] : List D), e) = (ds, e') := Option.some.inj h
    obtain ⟨rfl, rfl⟩ := Prod.mk.inj h'
    exact ⟨G, Frz.refl, s, .nil⟩
  | a :: r, v :: vs, G, e, e', ds, s, .cons a1 a2, dd, h => by
    unfold takes at h
    cases q : take a e with
    | none => simp [q] at h
    | some p =>
      obtain ⟨x, e1⟩ := p
      simp only [q] at h
      obtain ⟨G1, f1, s1, r1⟩ := take_ok s a1 q
      cases q2 : takes r e1 with
      | none => simp [q2] at h
      | some p =>
        obtain ⟨xs, e2⟩ := p
        simp only [q2, Option.some.injEq, Prod.mk.injEq] at h
        obtain ⟨rfl, rfl⟩ := h
        have keep : ∀ p ∈ tads r vs, G1 p = none := fun p hp => by
          obtain ⟨t1, t2, t3, _⟩ := tads_at a2 p hp
          by_cases z : G1 p = G p
          · rw [z]
            exact t3
          · rcases f1.n p z with w | w
            · exact absurd hp (dd.1 p (by simpa using w))
            · exact absurd t1 w
        obtain ⟨G2, f2, s2, r2⟩ := takes_ok s1 (AVsok.more a2 f1.g keep) dd.2 q2
        refine ⟨G2, ⟨f1.g.trans f2.g, fun b hb => ?_⟩, s2, .cons (Rp.mono f2.g x v r1) r2⟩
        by_cases z : G2 b = G1 b
        · rcases f1.n b (by rw [← z]; exact hb) with w | w
          · exact .inl (List.mem_append_left _ w)
          · exact .inr w
        · rcases f2.n b z with w | w
          · exact .inl (List.mem_append_right _ w)
          · exact .inr w
/-- a new thing stays ours, a slot's is frozen -/
theorem valO_ok (s : Sts K Θ G H e σ) (a : AVok K Θ H0 G H σ av v) (h : valO av e = some (o, e')) :
    ∃ G', Frz Θ G G' [] ∧ Sts K Θ G' H e' σ ∧ AVok K Θ H0 G' H σ (.tm o) v ∧ tad (.tm o) v = tad av v := by
  cases av with
  | tm u =>
    have h' : (u, e) = (o, e') := Option.some.inj h
    obtain ⟨rfl, rfl⟩ := Prod.mk.inj h'
    exact ⟨G, Frz.refl, s, a, rfl⟩
  | pl i =>
    have h1 : (take (.pl i) e).map (fun p => (O.d p.1, p.2)) = some (o, e') := h
    cases q : take (.pl i) e with
    | none =>
      rw [q] at h1
      cases h1
    | some p =>
      obtain ⟨x, e1⟩ := p
      rw [q] at h1
      have h' : (O.d x, e1) = (o, e') := Option.some.inj h1
      obtain ⟨rfl, rfl⟩ := Prod.mk.inj h'
      obtain ⟨G1, f1, s1, r1⟩ := take_ok s a q
      exact ⟨G1, f1, s1, r1, rfl⟩
theorem valOs_ok : ∀ {avs : List AV} {vs : List V} {G : Hp} {e e' : Sl} {os : List O}, Sts K Θ G H e σ → Paired (AVok K Θ H0 G H σ) avs vs → valOs avs e = some (os, e') →
    ∃ G', Frz Θ G G' [] ∧ Sts K Θ G' H e' σ ∧ Paired (fun o v => AVok K Θ H0 G' H σ (.tm o) v) os vs ∧ tads (os.map AV.tm) vs = tads avs vs
  | _, _, G, e, e', os, s, .nil, h => by
    have h' : (([] : List O), e) = (os, e') := Option.some.inj h
    obtain ⟨rfl, rfl⟩ := Prod.mk.inj h'
    exact ⟨G, Frz.refl, s, .nil, rfl⟩
  | a :: r, v :: vs, G, e, e', os, s, .cons a1 a2, h => by
    unfold valOs at h
    cases q : valO a e with
    | none => simp [q] at h
    | some p =>
      obtain ⟨x, e1⟩ := p
      simp only [q] at h
      obtain ⟨G1, f1, s1, r1, t1⟩ := valO_ok s a1 q
      cases q2 : valOs r e1 with
      | none => simp [q2] at h
      | some p =>
        obtain ⟨xs, e2⟩ := p
        simp only [q2, Option.some.injEq, Prod.mk.injEq] at h
        obtain ⟨rfl, rfl⟩ := h
        have keep : ∀ {G1 G2 : Hp} {p : Addr}, Frz Θ G1 G2 [] → Θ p = none → G1 p = none → G2 p = none := fun {G1 G2 p} f t g => by
          by_cases z : G2 p = G1 p
          · rw [z]
            exact g
          · rcases f.n p z with w | w
            · cases w
            · exact absurd t w
        obtain ⟨G2, f2, s2, r2, t2⟩ := valOs_ok s1 (AVsok.more a2 f1.g fun p hp => by
          obtain ⟨k1, k2, k3, _⟩ := tads_at a2 p hp
          exact keep f1 k1 k3) q2
        refine ⟨G2, ⟨f1.g.trans f2.g, fun b hb => ?_⟩, s2, .cons (r1.more f2.g fun p hp => ?_) r2, ?_⟩
        · by_cases z : G2 b = G1 b
          · exact f1.n b (by rw [← z]; exact hb)
          · exact f2.n b z
        · obtain ⟨k1, k2, k3, _⟩ := tad_at r1 hp
          exact keep f2 k1 k3
        · show (tad (.tm x) v).toList ++ tads (xs.map AV.tm) vs = (tad a v).toList ++ tads r vs
          rw [t1, t2]
end
end Z

/-! Z6: handing over, and what comes back. -/
namespace Z
open PySem PySem.Spec PyProof.Rows L2
/-- the arguments as the callee finds them -/
structure Args (K : PySem.W.Frag) (G H : Hp) (os : List O) (vs : List V) : Prop where
  gh : Same G H
  rep : Paired (RepO K G H) os vs
  dst : ∀ (j k : Nat) (p : Addr) (xs ys : List D), os[j]? = some (O.ol xs) → os[k]? = some (O.ol ys) → vs[j]? = some (V.ref p) → vs[k]? = some (V.ref p) → j = k
def ownA (os : List O) (vs : List V) (p : Addr) : Prop := ∃ (j : Nat) (xs : List D), os[j]? = some (O.ol xs) ∧ vs[j]? = some (V.ref p)
/-- what stands behind a call -/
structure Ret (K : PySem.W.Frag) (G H : Hp) (os : List O) (vs : List V) (r : O) (outs : List O) (v : V) (G' H' : Hp) : Prop where
  g : Same G G'
  gh : Same G' H'
  fr : ∀ a o, H a = some o → ¬ ownA os vs a → H' a = some o ∧ G' a = G a
  ow : ∀ a, ownA os vs a → H' a ≠ none
  res : RepO K G' H' r v
  new : ∀ p xs, r = O.ol xs → v = V.ref p → H p = none
  out : Paired (RepO K G' H') outs vs
section
variable {K : PySem.W.Frag} {Θ Θ' : Ow} {G0 G G' G1 H H0 H' H1 : Hp} {e e' : Sl} {σ : L2.St} {av : AV} {v : V} {o : O} {d : D} {avs : List AV} {vs : List V} {os outs : List O} {r : O}
theorem pairedAt {α β : Type} {F : α → β → Prop} : ∀ {l : List α} {m : List β} {i : Nat} {x : α}, Paired F l m → l[i]? = some x → ∃ y, m[i]? = some y ∧ F x y
  | _, _, i, x, .nil, h => by simp at h
  | _, _, 0, x, .cons a _, h => by
    simp at h
    subst h
    exact ⟨_, rfl, a⟩
  | _, _, i + 1, x, .cons _ b, h => by
    obtain ⟨y, h1, h2⟩ := pairedAt (i := i) b (by simpa using h)
    exact ⟨y, by simpa using h1, h2⟩
theorem ownIx_mem : ∀ {avs : List AV} {j i : Nat} {xs : List D}, avs[j]? = some (AV.pl i) → (e[i]?).join = some (O.ol xs) → i ∈ ownIx e avs
  | [], j, i, xs, h, _ => by simp at h
  | a :: r, 0, i, xs, h, q => by
    simp at h
    subst h
    unfold ownIx
    rw [if_pos (by rw [q]; rfl)]
    exact List.mem_cons_self
  | a :: r, j + 1, i, xs, h, q => by
    have m : i ∈ ownIx e r := ownIx_mem (avs := r) (j := j) (by simpa using h) q
    cases a with
    | tm o => exact m
    | pl k =>
      unfold ownIx
      split
      · exact List.mem_cons_of_mem _ m
      · exact m
theorem ownIx_once : ∀ {avs : List AV} {j k i : Nat} {xs : List D}, (ownIx e avs).Nodup → avs[j]? = some (AV.pl i) → avs[k]? = some (AV.pl i) → (e[i]?).join = some (O.ol xs) → j = k
  | [], j, k, i, xs, _, h, _, _ => by simp at h
  | a :: r, 0, 0, i, xs, _, _, _, _ => rfl
  | a :: r, 0, k + 1, i, xs, nd, h1, h2, q => by
    simp at h1
    subst h1
    have m : i ∈ ownIx e r := ownIx_mem (avs := r) (j := k) (by simpa using h2) q
    unfold ownIx at nd
    rw [if_pos (by rw [q]; rfl)] at nd
    exact absurd m (List.nodup_cons.mp nd).1
  | a :: r, k + 1, 0, i, xs, nd, h2, h1, q => by
    simp at h1
    subst h1
    have m : i ∈ ownIx e r := ownIx_mem (avs := r) (j := k) (by simpa using h2) q
    unfold ownIx at nd
    rw [if_pos (by rw [q]; rfl)] at nd
    exact absurd m (List.nodup_cons.mp nd).1
  | a :: r, j + 1, k + 1, i, xs, nd, h1, h2, q => by
    have nd' : (ownIx e r).Nodup := by
      cases a with
      | tm o => exact nd
      | pl m =>
        unfold ownIx at nd
        split at nd
        · exact (List.nodup_cons.mp nd).2
        · exact nd
    exact congrArg (· + 1) (ownIx_once (avs := r) (j := j) (k := k) nd' (by simpa using h1) (by simpa using h2) q)
theorem argL_at : ∀ {avs : List AV} {os : List O}, argL e avs = some os → ∀ (j : Nat) (o : O), os[j]? = some o → ∃ a, avs[j]? = some a ∧ argO e a = some o
  | [], os, h, j, o, q => by
    have h' : ([] : List O) = os := Option.some.inj h
    subst h'
    simp at q
  | a :: r, os, h, j, o, q => by
    unfold argL at h
    cases h1 : argO e a with
    | none => simp [h1] at h
    | some x =>
      cases h2 : argL e r with
      | none => simp [h1, h2] at h
      | some xs =>
        simp only [h1, h2, Option.some.injEq] at h
        subst h
        cases j with
        | zero =>
          simp at q
          subst q
          exact ⟨a, rfl, h1⟩
        | succ j =>
          obtain ⟨b, k1, k2⟩ := argL_at h2 j o (by simpa using q)
          exact ⟨b, by simpa using k1, k2⟩
theorem argL_len : ∀ {avs : List AV} {os : List O}, argL e avs = some os → os.length = avs.length
  | [], os, h => by
    have h' : ([] : List O) = os := Option.some.inj h
    subst h'
    rfl
  | a :: r, os, h => by
    unfold argL at h
    cases h1 : argO e a with
    | none => simp [h1] at h
    | some x =>
      cases h2 : argL e r with
      | none => simp [h1, h2] at h
      | some xs =>
        simp only [h1, h2, Option.some.injEq] at h
        subst h
        simp [argL_len h2]
/-- a new list is frozen -/
theorem frz1 {u : O} (s : Sts K Θ G H e σ) (a : AVok K Θ H0 G H σ (.tm u) v) :
    ∃ G1, Same G G1 ∧ (∀ b, G1 b ≠ G b → b ∈ (tad (.tm u) v).toList) ∧ Sts K Θ G1 H e σ ∧ Rp K G1 v u.dat := by
  cases u with
  | d x => exact ⟨G, Same.refl _, fun _ h => absurd rfl h, s, a⟩
  | ol xs =>
    obtain ⟨p, ws, rfl, h2, h3, h4, h5, h6⟩ := a
    refine ⟨upd G p (.lst ws), Same.new h3, fun b hb => ?_, ?_, .lst (SqL.of upd_same) (RpA.mono (Same.new h3) xs ws h4)⟩
    · by_cases z : b = p
      · subst z
        simp [tad]
      · exact absurd (upd_ne z) hb
    · refine s.keep h2 h3 fun i ys q r hr z => ?_
      subst z
      obtain ⟨v', k1, k2, k3⟩ := s.sl i _ q
      rw [hr] at k1
      cases k1
      rw [k3 r ys rfl rfl] at h5
      cases h5
def ArgR (K : PySem.W.Frag) (G : Hp) (σ : L2.St) : AV → V → Prop
  | .tm o, v => Rp K G v o.dat
  | .pl i, v => σ[i]? = some (some v)
theorem ArgR.mono (g : Same G G') : ∀ {a : AV} {v : V}, ArgR K G σ a v → ArgR K G' σ a v
  | .tm o, v, h => Rp.mono g o.dat v h
  | .pl i, v, h => h
theorem frzT : ∀ {avs : List AV} {vs : List V} {G : Hp}, Sts K Θ G H e σ → Paired (AVok K Θ H0 G H σ) avs vs → Dst avs vs →
    ∃ G', Same G G' ∧ (∀ a, G' a ≠ G a → a ∈ tads avs vs) ∧ Sts K Θ G' H e σ ∧ Paired (ArgR K G' σ) avs vs
  | _, _, G, s, .nil, _ => ⟨G, Same.refl _, fun _ h => absurd rfl h, s, .nil⟩
  | a :: r, v :: vs, G, s, .cons a1 a2, dd => by
    have step : ∃ G1, Same G G1 ∧ (∀ a', G1 a' ≠ G a' → a' ∈ (tad a v).toList) ∧ Sts K Θ G1 H e σ ∧ ArgR K G1 σ a v := by
      cases a with
      | pl i => exact ⟨G, Same.refl _, fun _ h => absurd rfl h, s, a1⟩
      | tm o => exact frz1 s a1
    obtain ⟨G1, g1, n1, s1, r1⟩ := step
    have keep : ∀ p ∈ tads r vs, G1 p = none := fun p hp => by
      obtain ⟨t1, t2, t3, _⟩ := tads_at a2 p hp
      by_cases z : G1 p = G p
      · rw [z]
        exact t3
      · exact absurd hp (dd.1 p (by simpa using n1 p z))
    obtain ⟨G2, g2, n2, s2, r2⟩ := frzT s1 (AVsok.more a2 g1 keep) dd.2
    refine ⟨G2, g1.trans g2, fun b hb => ?_, s2, .cons (r1.mono g2) r2⟩
    by_cases z : G2 b = G1 b
    · exact List.mem_append_left _ (n1 b (by rw [← z]; exact hb))
    · exact List.mem_append_right _ (n2 b z)
theorem args_rep : ∀ {avs : List AV} {vs : List V} {os : List O}, Sts K Θ G H e σ → Paired (ArgR K G σ) avs vs → argL e avs = some os → Paired (RepO K G H) os vs
  | _, _, os, s, .nil, h => by
    have h' : ([] : List O) = os := Option.some.inj h
    subst h'
    exact .nil
  | a :: r, v :: vs, os, s, .cons a1 a2, h => by
    unfold argL at h
    cases h1 : argO e a with
    | none => simp [h1] at h
    | some x =>
      cases h2 : argL e r with
      | none => simp [h1, h2] at h
      | some xs =>
        simp only [h1, h2, Option.some.injEq] at h
        subst h
        refine .cons ?_ (args_rep s a2 h2)
        cases a with
        | tm o =>
          have h1' : O.d o.dat = x := Option.some.inj h1
          subst h1'
          exact a1
        | pl i =>
          obtain ⟨v', k1, k2, _⟩ := s.sl i x h1
          have a1' : σ[i]? = some (some v) := a1
          rw [k1] at a1'
          have ev : v' = v := by injection a1' with z; injection z
          subst ev
          exact k2
theorem args_ok (s : Sts K Θ G H e σ) (P : Paired (AVok K Θ H0 G H σ) avs vs) (dd : Dst avs vs) (h : argOs avs e = some os) :
    ∃ G', Same G G' ∧ (∀ a, G' a ≠ G a → a ∈ tads avs vs) ∧ Sts K Θ G' H e σ ∧ Args K G' H os vs ∧
      (∀ (j : Nat) (xs : List D), os[j]? = some (O.ol xs) → ∃ i p, avs[j]? = some (AV.pl i) ∧ (e[i]?).join = some (O.ol xs) ∧ vs[j]? = some (V.ref p) ∧ σ[i]? = some (some (V.ref p)) ∧ Θ p = some i) ∧
      (∀ (j k i : Nat) (xs ys : List D), os[j]? = some (O.ol xs) → os[k]? = some (O.ol ys) → avs[j]? = some (AV.pl i) → avs[k]? = some (AV.pl i) → j = k) := by
  unfold argOs at h
  split at h
  · rename_i nd
    obtain ⟨G1, g1, n1, s1, r1⟩ := frzT s P dd
    have own : ∀ (j : Nat) (xs : List D), os[j]? = some (O.ol xs) → ∃ i p, avs[j]? = some (AV.pl i) ∧ (e[i]?).join = some (O.ol xs) ∧ vs[j]? = some (V.ref p) ∧ σ[i]? = some (some (V.ref p)) ∧ Θ p = some i := fun j xs hj => by
      obtain ⟨a, ha, ho⟩ := argL_at h j _ hj
      cases a with
      | tm u =>
        have h1' : O.d u.dat = O.ol xs := Option.some.inj ho
        cases h1'
      | pl i =>
        have ho : (e[i]?).join = some (O.ol xs) := ho
        obtain ⟨v, k1, ⟨p, ws, rfl, _⟩, k3⟩ := s1.sl i _ ho
        obtain ⟨w, m1, m2⟩ := pairedAt r1 ha
        have m2 : σ[i]? = some (some w) := m2
        rw [k1] at m2
        have ew : V.ref p = w := by injection m2 with z; injection z
        subst ew
        exact ⟨i, p, ha, ho, m1, k1, k3 p xs rfl rfl⟩
    refine ⟨G1, g1, n1, s1, ⟨s1.gh, args_rep s1 r1 h, fun j k p xs ys hj hk pj pk => ?_⟩, own, fun j k i xs ys hj hk aj ak => ?_⟩
    · obtain ⟨i, q, a1, b1, c1, d1, t1⟩ := own j xs hj
      obtain ⟨i', q', a2, b2, c2, d2, t2⟩ := own k ys hk
      rw [pj] at c1
      rw [pk] at c2
      cases c1
      cases c2
      rw [t1] at t2
      cases t2
      exact ownIx_once nd a1 a2 b1
    · obtain ⟨i', q, a1, b1, _⟩ := own j xs hj
      rw [aj] at a1
      cases a1
      exact ownIx_once nd aj ak b1
  · cases h
theorem putOs_len : ∀ {avs : List AV} {os outs : List O} {e : Sl}, (putOs avs os outs e).length = e.length
  | [], _, _, _ => by simp [putOs]
  | a :: r, [], _, _ => by simp [putOs]
  | a :: r, o :: os, [], _ => by simp [putOs]
  | a :: r, o :: os, x :: outs, e => by
    show (putO a o x (putOs r os outs e)).length = e.length
    have ih := putOs_len (avs := r) (os := os) (outs := outs) (e := e)
    unfold putO
    split
    · rw [List.length_set, ih]
    · exact ih
theorem putOs_at : ∀ {avs : List AV} {os outs : List O} {i : Nat} {u : O}, ((putOs avs os outs e)[i]?).join = some u → i < e.length →
    ((e[i]?).join = some u ∧ (outs.length = os.length → os.length = avs.length → ∀ (j : Nat) (xs : List D), avs[j]? = some (AV.pl i) → os[j]? ≠ some (O.ol xs))) ∨
      ∃ (j : Nat) (xs : List D), avs[j]? = some (AV.pl i) ∧ os[j]? = some (O.ol xs) ∧ outs[j]? = some u
  | [], os, outs, i, u, h, _ => by
    left
    simp only [putOs] at h
    exact ⟨h, fun _ _ j xs q => by simp at q⟩
  | a :: r, [], outs, i, u, h, _ => by
    left
    simp only [putOs] at h
    exact ⟨h, fun _ q => by simp at q⟩
  | a :: r, o :: os, [], i, u, h, _ => by
    left
    simp only [putOs] at h
    exact ⟨h, fun q => by simp at q⟩
  | a :: r, o :: os, x :: outs, i, u, h, hl => by
    have h : ((putO a o x (putOs r os outs e))[i]?).join = some u := h
    have rest : ((putOs r os outs e)[i]?).join = some u → (∀ xs, a = AV.pl i → o ≠ O.ol xs) →
        ((e[i]?).join = some u ∧ ((x :: outs).length = (o :: os).length → (o :: os).length = (a :: r).length → ∀ (j : Nat) (xs : List D), (a :: r)[j]? = some (AV.pl i) → (o :: os)[j]? ≠ some (O.ol xs))) ∨
        ∃ (j : Nat) (xs : List D), (a :: r)[j]? = some (AV.pl i) ∧ (o :: os)[j]? = some (O.ol xs) ∧ (x :: outs)[j]? = some u := fun h1 hn => by
      rcases putOs_at h1 hl with ⟨k1, k2⟩ | ⟨j, xs, k1, k2, k3⟩
      · refine Or.inl ⟨k1, fun e1 e2 j xs q => ?_⟩
        cases j with
        | zero =>
          simp at q ⊢
          exact hn xs q
        | succ j => exact k2 (by simpa using e1) (by simpa using e2) j xs (by simpa using q)
      · exact Or.inr ⟨j + 1, xs, by simpa using k1, by simpa using k2, by simpa using k3⟩
    cases a with
    | tm w => exact rest h fun _ z => nomatch z
    | pl k =>
      cases o with
      | d y => exact rest h fun _ _ z => nomatch z
      | ol ys =>
        have h : (((putOs r os outs e).set k (some x))[i]?).join = some u := h
        by_cases hk : k < (putOs r os outs e).length
        · rw [join_set hk] at h
          by_cases z : i = k
          · subst z
            rw [if_pos rfl] at h
            cases h
            exact .inr ⟨0, ys, rfl, rfl, rfl⟩
          · rw [if_neg z] at h
            exact rest h fun _ w => absurd (by injection w with w'; exact w'.symm) z
        · rw [List.set_eq_of_length_le (by omega)] at h
          refine rest h fun _ w => ?_
          injection w with w'
          subst w'
          rw [putOs_len] at hk
          exact absurd hl hk
/-- behind a call -/
theorem ret_ok (s : Sts K Θ G H e σ) (A : Args K G H os vs)
    (own : ∀ (j : Nat) (xs : List D), os[j]? = some (O.ol xs) → ∃ i p, avs[j]? = some (AV.pl i) ∧ (e[i]?).join = some (O.ol xs) ∧ vs[j]? = some (V.ref p) ∧ σ[i]? = some (some (V.ref p)) ∧ Θ p = some i)
    (la : os.length = avs.length) (B : Ret K G H os vs r outs v G' H') : Stp Θ G H Θ G' H' ∧ Sts K Θ G' H' (putOs avs os outs e) σ ∧ AVok K Θ H G' H' σ (.tm r) v := by
  have notA : ∀ a, Θ a = none → ¬ ownA os vs a := fun a t ⟨j, xs, h1, h2⟩ => by
    obtain ⟨i, p, _, _, h3, _, h5⟩ := own j xs h1
    rw [h2] at h3
    cases h3
    rw [t] at h5
    cases h5
  have ll : outs.length = os.length := by rw [B.out.length, A.rep.length]
  have stp : Stp Θ G H Θ G' H' := ⟨B.g, fun a o h t => by
    obtain ⟨h1, h2⟩ := B.fr a o h (notA a t)
    exact ⟨h1, h2, t⟩, fun _ _ t => t⟩
  have sts : Sts K Θ G' H' (putOs avs os outs e) σ := by
    refine ⟨B.gh, fun a i t => ?_, by rw [putOs_len]; exact s.len, fun i u h => ?_⟩
    · have hn := s.th a i t
      by_cases w : ownA os vs a
      · exact B.ow a w
      · cases q : H a with
        | none => exact absurd q hn
        | some o =>
          rw [(B.fr a o q w).1]
          simp
    · have hl : i < e.length := by
        have := join_lt h
        rw [putOs_len] at this
        exact this
      rcases putOs_at h hl with ⟨k1, k2⟩ | ⟨j, xs, k1, k2, k3⟩
      · obtain ⟨v', m1, m2, m3⟩ := s.sl i u k1
        refine ⟨v', m1, ?_, m3⟩
        cases u with
        | d x => exact Rp.mono B.g x v' m2
        | ol xs =>
          obtain ⟨p, ws, rfl, n2, n3, n4⟩ := m2
          have tp := m3 p xs rfl rfl
          have na : ¬ ownA os vs p := fun ⟨j, ys, h1, h2⟩ => by
            obtain ⟨i', p', a1, a2, a3, a4, a5⟩ := own j ys h1
            rw [h2] at a3
            cases a3
            rw [tp] at a5
            cases a5
            exact k2 ll la j ys a1 h1
          obtain ⟨q1, q2⟩ := B.fr p _ n2 na
          exact ⟨p, ws, rfl, q1, by rw [q2]; exact n3, RpA.mono B.g xs ws n4⟩
      · obtain ⟨i', p, a1, a2, a3, a4, a5⟩ := own j xs k2
        rw [k1] at a1
        cases a1
        obtain ⟨w, b1, b2⟩ := pairedAt B.out k3
        rw [a3] at b1
        cases b1
        refine ⟨.ref p, a4, b2, fun q ys e1 e2 => ?_⟩
        cases e2
        exact a5
  refine ⟨stp, sts, ?_⟩
  cases r with
  | d x => exact B.res
  | ol xs =>
    obtain ⟨p, ws, rfl, n2, n3, n4⟩ := B.res
    have hn := B.new p xs rfl rfl
    exact ⟨p, ws, rfl, n2, n3, n4, s.noOw hn, hn⟩
end
end Z

/-! Z7: what a match says of the text. -/
namespace Z
open PySem PySem.Spec PyProof.Rows L2
section
variable {T : Tb} {N : List Str} {fl : Option Scope} {sc : Scope} {x : Expr}
theorem no {p : Prop} (h : false = true) : p := nomatch h
theorem m_non (h : mE T N fl sc .non x = true) : ∃ k pos, x = .Constant .none k pos := by
  cases x <;> first | exact no h | skip
  rename_i c k pos
  cases c <;> first | exact no h | exact ⟨_, _, rfl⟩
theorem m_bl {b : Bool} (h : mE T N fl sc (.bl b) x = true) : ∃ k pos, x = .Constant (.bool b) k pos := by
  cases x <;> first | exact no h | skip
  rename_i c k pos
  cases c <;> first | exact no h | skip
  rename_i d
  have h' : (b == d) = true := h
  rw [beq_iff_eq] at h'
  subst h'
  exact ⟨_, _, rfl⟩
theorem m_int {i : Int} (h : mE T N fl sc (.int i) x = true) : ∃ k pos, x = .Constant (.int i) k pos := by
  cases x <;> first | exact no h | skip
  rename_i c k pos
  cases c <;> first | exact no h | skip
  rename_i d
  have h' : (i == d) = true := h
  rw [beq_iff_eq] at h'
  subst h'
  exact ⟨_, _, rfl⟩
theorem m_str {i : Str} (h : mE T N fl sc (.str i) x = true) : ∃ k pos, x = .Constant (.str i) k pos := by
  cases x <;> first | exact no h | skip
  rename_i c k pos
  cases c <;> first | exact no h | skip
  rename_i d
  have h' : decide (i = d) = true := h
  have h' := of_decide_eq_true h'
  subst h'
  exact ⟨_, _, rfl⟩
theorem and3 {a b c : Bool} (h : (a && b && c) = true) : a = true ∧ b = true ∧ c = true := by
  simpa [Bool.and_eq_true, and_assoc] using h
theorem and2 {a b : Bool} (h : (a && b) = true) : a = true ∧ b = true := by
  simpa [Bool.and_eq_true] using h
theorem and4 {a b c d : Bool} (h : (a && b && c && d) = true) : a = true ∧ b = true ∧ c = true ∧ d = true := by
  simpa [Bool.and_eq_true, and_assoc] using h
theorem and5 {a b c d f : Bool} (h : (a && b && c && d && f) = true) : a = true ∧ b = true ∧ c = true ∧ d = true ∧ f = true := by
  simpa [Bool.and_eq_true, and_assoc] using h
theorem and6 {a b c d f g : Bool} (h : (a && b && c && d && f && g) = true) : a = true ∧ b = true ∧ c = true ∧ d = true ∧ f = true ∧ g = true := by
  simpa [Bool.and_eq_true, and_assoc] using h
theorem m_v {i : Nat} (h : mE T N fl sc (.v i) x = true) : ∃ y pos, x = .Name y pos ∧ slotB N i y = true ∧ visB sc y = true ∧ plainName y = true := by
  cases x <;> first | exact no h | skip
  rename_i y pos
  obtain ⟨h1, h2, h3⟩ := and3 h
  exact ⟨y, pos, rfl, h1, h2, h3⟩
theorem m_gl {k : Nat} (h : mE T N fl sc (.gl k) x = true) : ∃ y pos d, x = .Name y pos ∧ T.gc[k]? = some (y, d) ∧ glB sc y = true ∧ plainName y = true := by
  cases x <;> first | exact no h | skip
  rename_i y pos
  obtain ⟨h1, h2, h3⟩ := and3 h
  cases q : T.gc[k]? with
  | none =>
    rw [q] at h1
    cases h1
  | some p =>
    rw [q] at h1
    have e := of_decide_eq_true h1
    obtain ⟨a, d⟩ := p
    have e : a = y := e
    subst e
    exact ⟨a, pos, d, rfl, rfl, h2, h3⟩
theorem m_bin {o : BOp} {a b : CE} (h : mE T N fl sc (.bin o a b) x = true) : ∃ l op r pos, x = .BinOp l op r pos ∧ bopB o op = true ∧ mE T N fl sc a l = true ∧ mE T N fl sc b r = true := by
  cases x <;> first | exact no h | skip
  obtain ⟨h1, h2, h3⟩ := and3 h
  exact ⟨_, _, _, _, rfl, h1, h2, h3⟩
theorem m_neg {a : CE} (h : mE T N fl sc (.neg a) x = true) : ∃ l pos, x = .UnaryOp .USub l pos ∧ mE T N fl sc a l = true := by
  cases x <;> first | exact no h | skip
  rename_i op l pos
  cases op <;> first | exact no h | exact ⟨_, _, rfl, h⟩
theorem m_not {a : CE} (h : mE T N fl sc (.not a) x = true) : ∃ l pos, x = .UnaryOp .Not l pos ∧ mE T N fl sc a l = true := by
  cases x <;> first | exact no h | skip
  rename_i op l pos
  cases op <;> first | exact no h | exact ⟨_, _, rfl, h⟩
theorem m_cmp {o : COp} {a b : CE} (h : mE T N fl sc (.cmp o a b) x = true) : ∃ l op r pos, x = .Compare l [op] [r] pos ∧ copB o op = true ∧ mE T N fl sc a l = true ∧ mE T N fl sc b r = true := by
  cases x <;> first | exact no h | skip
  rename_i l ops rs pos
  rcases ops with _ | ⟨op, _ | ⟨op2, ops⟩⟩
  · exact no h
  · rcases rs with _ | ⟨r, _ | ⟨r2, rs⟩⟩
    · exact no h
    · obtain ⟨h1, h2, h3⟩ := and3 h
      exact ⟨_, _, _, _, rfl, h1, h2, h3⟩
    · exact no h
  · exact no h
theorem m_chn {o o' : COp} {a b c : CE} (h : mE T N fl sc (.chn o o' a b c) x = true) :
    ∃ l op op' m r pos, x = .Compare l [op, op'] [m, r] pos ∧ copB o op = true ∧ copB o' op' = true ∧ mE T N fl sc a l = true ∧ mE T N fl sc b m = true ∧ c ≠ .bad ∧ mE T N fl sc c r = true := by
  cases x <;> first | exact no h | skip
  rename_i l ops rs pos
  rcases ops with _ | ⟨op, _ | ⟨op2, _ | ⟨op3, ops⟩⟩⟩ <;> first | exact no h | skip
  rcases rs with _ | ⟨r, _ | ⟨r2, _ | ⟨r3, rs⟩⟩⟩ <;> first | exact no h | skip
  obtain ⟨h1, h2, h3, h4, h5⟩ := and5 h
  obtain ⟨h5, h6⟩ := and2 h5
  exact ⟨_, _, _, _, _, _, rfl, h1, h2, h3, h4, (by rintro rfl; exact no h5), h6⟩
theorem m_isN {a : CE} (h : mE T N fl sc (.isN a) x = true) : ∃ l k p pos, x = .Compare l [.Is] [.Constant .none k p] pos ∧ mE T N fl sc a l = true := by
  cases x <;> try (exact no h)
  rename_i l ops rs pos
  rcases ops with _ | ⟨op, ops⟩ <;> try (exact no h)
  cases op <;> try (exact no h)
  rcases ops with _ | ⟨op2, ops⟩ <;> try (exact no h)
  rcases rs with _ | ⟨r, rs⟩ <;> try (exact no h)
  cases r <;> try (exact no h)
  rename_i c k p
  cases c <;> try (exact no h)
  rcases rs with _ | ⟨r2, rs⟩ <;> try (exact no h)
  exact ⟨_, _, _, _, rfl, h⟩
theorem m_notN {a : CE} (h : mE T N fl sc (.notN a) x = true) : ∃ l k p pos, x = .Compare l [.IsNot] [.Constant .none k p] pos ∧ mE T N fl sc a l = true := by
  cases x <;> try (exact no h)
  rename_i l ops rs pos
  rcases ops with _ | ⟨op, ops⟩ <;> try (exact no h)
  cases op <;> try (exact no h)
  rcases ops with _ | ⟨op2, ops⟩ <;> try (exact no h)
  rcases rs with _ | ⟨r, rs⟩ <;> try (exact no h)
  cases r <;> try (exact no h)
  rename_i c k p
  cases c <;> try (exact no h)
  rcases rs with _ | ⟨r2, rs⟩ <;> try (exact no h)
  exact ⟨_, _, _, _, rfl, h⟩
theorem m_isB {a : CE} {b : Bool} (h : mE T N fl sc (.isB a b) x = true) : ∃ l k p pos, x = .Compare l [.Is] [.Constant (.bool b) k p] pos ∧ mE T N fl sc a l = true := by
  cases x <;> try (exact no h)
  rename_i l ops rs pos
  rcases ops with _ | ⟨op, ops⟩ <;> try (exact no h)
  cases op <;> try (exact no h)
  rcases ops with _ | ⟨op2, ops⟩ <;> try (exact no h)
  rcases rs with _ | ⟨r, rs⟩ <;> try (exact no h)
  cases r <;> try (exact no h)
  rename_i c k p
  cases c <;> try (exact no h)
  rcases rs with _ | ⟨r2, rs⟩ <;> try (exact no h)
  rename_i d
  obtain ⟨h1, h2⟩ := and2 (show (b == d && mE T N fl sc a l) = true from h)
  rw [beq_iff_eq] at h1
  subst h1
  exact ⟨_, _, _, _, rfl, h2⟩
/-- what stands behind the first operand -/
def tailB (op : BoolOp) (pos : Pos) : List Expr → Expr
  | [y] => y
  | ys => .BoolOp op ys pos
theorem m_and {a b : CE} (h : mE T N fl sc (.and a b) x = true) : ∃ p y r pos, x = .BoolOp .And (p :: y :: r) pos ∧ mE T N fl sc a p = true ∧ mE T N fl sc b (tailB .And pos (y :: r)) = true := by
  cases x <;> try (exact no h)
  rename_i op vs pos
  cases op <;> try (exact no h)
  rcases vs with _ | ⟨p, vs⟩ <;> try (exact no h)
  rcases vs with _ | ⟨y, r⟩ <;> try (exact no h)
  rcases r with _ | ⟨z, r⟩
  · obtain ⟨h1, h2⟩ := and2 h
    exact ⟨p, y, [], pos, rfl, h1, h2⟩
  · obtain ⟨h1, h2⟩ := and2 h
    exact ⟨p, y, z :: r, pos, rfl, h1, h2⟩
theorem m_or {a b : CE} (h : mE T N fl sc (.or a b) x = true) : ∃ p y r pos, x = .BoolOp .Or (p :: y :: r) pos ∧ mE T N fl sc a p = true ∧ mE T N fl sc b (tailB .Or pos (y :: r)) = true := by
  cases x <;> try (exact no h)
  rename_i op vs pos
  cases op <;> try (exact no h)
  rcases vs with _ | ⟨p, vs⟩ <;> try (exact no h)
  rcases vs with _ | ⟨y, r⟩ <;> try (exact no h)
  rcases r with _ | ⟨z, r⟩
  · obtain ⟨h1, h2⟩ := and2 h
    exact ⟨p, y, [], pos, rfl, h1, h2⟩
  · obtain ⟨h1, h2⟩ := and2 h
    exact ⟨p, y, z :: r, pos, rfl, h1, h2⟩
theorem m_ifx {t a b : CE} (h : mE T N fl sc (.ifx t a b) x = true) : ∃ t' a' b' pos, x = .IfExp t' a' b' pos ∧ mE T N fl sc t t' = true ∧ mE T N fl sc a a' = true ∧ mE T N fl sc b b' = true := by
  cases x <;> try (exact no h)
  obtain ⟨h1, h2, h3⟩ := and3 h
  exact ⟨_, _, _, _, rfl, h1, h2, h3⟩
theorem m_tup {es : CEs} (h : mE T N fl sc (.tup es) x = true) : ∃ xs k pos, x = .Tuple xs k pos ∧ xs.length ≤ 1000 ∧ mEs T N fl sc es xs = true := by
  cases x <;> try (exact no h)
  obtain ⟨h1, h2⟩ := and2 h
  exact ⟨_, _, _, rfl, of_decide_eq_true h1, h2⟩
theorem m_lst {es : CEs} (h : mE T N fl sc (.lst es) x = true) : ∃ xs pos, x = .List xs pos ∧ xs.length ≤ 1000 ∧ mEs T N fl sc es xs = true := by
  cases x <;> try (exact no h)
  obtain ⟨h1, h2⟩ := and2 h
  exact ⟨_, _, rfl, of_decide_eq_true h1, h2⟩
theorem m_ix {a i : CE} (h : mE T N fl sc (.ix a i) x = true) : ∃ l r pos, x = .Subscript l r pos ∧ mE T N fl sc a l = true ∧ mE T N fl sc i r = true := by
  cases x <;> try (exact no h)
  obtain ⟨h1, h2⟩ := and2 h
  exact ⟨_, _, _, rfl, h1, h2⟩
theorem m_sl {a : CE} {lo hi : CP} (h : mE T N fl sc (.sl a lo hi) x = true) : ∃ l lo' hi' p pos, x = .Subscript l (.Slice lo' hi' none p) pos ∧ mE T N fl sc a l = true ∧ mP T N fl sc lo lo' = true ∧ mP T N fl sc hi hi' = true := by
  cases x <;> try (exact no h)
  rename_i l r pos
  cases r <;> try (exact no h)
  rename_i lo' hi' st p
  cases st <;> try (exact no h)
  obtain ⟨h1, h2, h3⟩ := and3 h
  exact ⟨_, _, _, _, _, rfl, h1, h2, h3⟩
theorem m_call {f : Nat} {es : CEs} (h : mE T N fl sc (.call f es) x = true) : ∃ y p xs pos, x = .Call (.Name y p) xs [] pos ∧ T.fn[f]? = some y ∧ glB sc y = true ∧ plainName y = true ∧ mEs T N fl sc es xs = true := by
  cases x <;> try (exact no h)
  rename_i fn xs kws pos
  cases fn <;> try (exact no h)
  rcases kws with _ | ⟨k, kws⟩ <;> try (exact no h)
  obtain ⟨h1, h2, h3, h4⟩ := and4 h
  exact ⟨_, _, _, _, rfl, of_decide_eq_true h1, h2, h3, h4⟩
theorem m_bi {b : Bi} {a : CE} (h : mE T N fl sc (.bi b a) x = true) : ∃ p y pos, x = .Call (.Name (biN b) p) [y] [] pos ∧ glB sc (biN b) = true ∧ mE T N fl sc a y = true := by
  cases x <;> try (exact no h)
  rename_i fn xs kws pos
  cases fn <;> try (exact no h)
  rcases xs with _ | ⟨y, xs⟩ <;> try (exact no h)
  rcases xs with _ | ⟨y2, xs⟩ <;> try (exact no h)
  rcases kws with _ | ⟨k, kws⟩ <;> try (exact no h)
  rename_i z p
  obtain ⟨h1, h2, h3⟩ := and3 h
  have e : biN b = z := of_decide_eq_true h1
  subst e
  exact ⟨_, _, _, rfl, h2, h3⟩
theorem m_isi {a : CE} {t : Ty} (h : mE T N fl sc (.isi a t) x = true) : ∃ p y q pos, x = .Call (.Name ("isinstance" : Str) p) [y, .Name (tyN t) q] [] pos ∧ glB sc ("isinstance" : Str) = true ∧ glB sc (tyN t) = true ∧ mE T N fl sc a y = true := by
  cases x <;> try (exact no h)
  rename_i fn xs kws pos
  cases fn <;> try (exact no h)
  rcases xs with _ | ⟨y, xs⟩ <;> try (exact no h)
  rcases xs with _ | ⟨y2, xs⟩ <;> try (exact no h)
  cases y2 <;> try (exact no h)
  rcases xs with _ | ⟨y3, xs⟩ <;> try (exact no h)
  rcases kws with _ | ⟨k, kws⟩ <;> try (exact no h)
  rename_i n p z q
  obtain ⟨h1, h2, h3, h4, h5⟩ := and5 h
  have e : n = ("isinstance" : Str) := of_decide_eq_true h1
  have e2 : tyN t = z := of_decide_eq_true h3
  subst e
  subst e2
  exact ⟨_, _, _, _, rfl, h2, h4, h5⟩
theorem m_lr1 {a : CE} (h : mE T N fl sc (.lr1 a) x = true) : ∃ p q z p1 pos, x = .Call (.Name ("list" : Str) p) [.Call (.Name ("range" : Str) q) [z] [] p1] [] pos ∧ glB sc ("list" : Str) = true ∧ glB sc ("range" : Str) = true ∧ mE T N fl sc a z = true := by
  cases x <;> try (exact no h)
  rename_i fn xs kws pos
  cases fn <;> try (exact no h)
  rcases xs with _ | ⟨y, xs⟩ <;> try (exact no h)
  cases y <;> try (exact no h)
  rename_i fn2 xs2 kws2 pos2
  cases fn2 <;> try (exact no h)
  rcases xs2 with _ | ⟨z, xs2⟩ <;> try (exact no h)
  rcases xs2 with _ | ⟨z2, xs2⟩ <;> try (exact no h)
  rcases kws2 with _ | ⟨k, kws2⟩ <;> try (exact no h)
  rcases xs with _ | ⟨y2, xs⟩ <;> try (exact no h)
  rcases kws with _ | ⟨k, kws⟩ <;> try (exact no h)
  obtain ⟨h1, h2, h3, h4, h5⟩ := and5 h
  have e := of_decide_eq_true h1
  have e2 := of_decide_eq_true h3
  subst e
  subst e2
  exact ⟨_, _, _, _, _, rfl, h2, h4, h5⟩
theorem m_fz {a : CE} {n : Nat} (h : mE T N fl sc (.fz a n) x = true) : ∃ y sp k p p' p2 p3, x = .JoinedStr [.FormattedValue y (-1) (some (.JoinedStr [.Constant (.str sp) k p] p')) p2] p3 ∧
    PyProof.Rows.intSpecOk sp = true ∧ PyProof.Rows.intSpecZeroOf sp = true ∧ PyProof.Rows.intSpecWidthOf sp = n ∧ sp.length ≤ 100 ∧ mE T N fl sc a y = true := by
  cases x <;> try (exact no h)
  rename_i vs p3
  rcases vs with _ | ⟨v, vs⟩ <;> try (exact no h)
  cases v <;> try (exact no h)
  rename_i y c f p2
  cases f <;> try (exact no h)
  rename_i f
  cases f <;> try (exact no h)
  rename_i us p'
  rcases us with _ | ⟨u, us⟩ <;> try (exact no h)
  cases u <;> try (exact no h)
  rename_i cc k p
  cases cc <;> try (exact no h)
  rename_i sp
  rcases us with _ | ⟨u2, us⟩ <;> try (exact no h)
  rcases vs with _ | ⟨v2, vs⟩ <;> try (exact no h)
  obtain ⟨h1, h2, h3⟩ := and3 h
  obtain ⟨h4, h5, h6, h7⟩ := and4 h2
  have e := of_decide_eq_true h1
  subst e
  exact ⟨_, _, _, _, _, _, _, rfl, h4, h5, of_decide_eq_true h6, of_decide_eq_true h7, h3⟩
theorem m_me {m : Me} {a b : CE} (h : mE T N fl sc (.me m a b) x = true) : ∃ o ap y cp, x = .Call (.Attribute o (meN m) ap) [y] [] cp ∧ (ap.endLine == cp.line) = true ∧ recvB o = true ∧ mE T N fl sc a o = true ∧ mE T N fl sc b y = true := by
  cases x <;> try (exact no h)
  rename_i fn xs kws pos
  cases fn <;> try (exact no h)
  rename_i o nm ap
  rcases xs with _ | ⟨y, xs⟩ <;> try (exact no h)
  rcases xs with _ | ⟨y2, xs⟩ <;> try (exact no h)
  rcases kws with _ | ⟨k, kws⟩ <;> try (exact no h)
  obtain ⟨h1, h2, h3, h4, h5⟩ := and5 h
  have e : meN m = nm := of_decide_eq_true h1
  subst e
  exact ⟨_, _, _, _, rfl, h2, h3, h4, h5⟩
theorem m_lc {ws : List Nat} {t : CT} {it : CI} {ifs : CP} {el : CE} (h : mE T N fl sc (.lc ws t it ifs el) x = true) :
    ∃ elt tg iter cs scope pos, x = .ListComp elt [⟨tg, iter, cs, 0⟩] scope pos ∧ (ownOf N scope).map (·.2) = ws ∧ blkC N sc scope (ownOf N scope) = true ∧ mI T N fl sc it iter = true ∧
      tgB N (some scope) (relS scope sc) t tg = true ∧ mIf T N (some scope) (relS scope sc) ifs cs = true ∧ mE T N (some scope) (relS scope sc) el elt = true := by
  cases x <;> try (exact no h)
  rename_i elt gs scope pos
  rcases gs with _ | ⟨g, gs⟩ <;> try (exact no h)
  obtain ⟨tg, iter, cs, as⟩ := g
  rcases gs with _ | ⟨g2, gs⟩
  · by_cases e : as = 0
    · subst e
      obtain ⟨h1, h2, h3, h4, h5, h6⟩ := and6 h
      exact ⟨_, _, _, _, _, _, rfl, of_decide_eq_true h1, h2, h3, h4, h5, h6⟩
    · rcases as with as | as
      · rcases as with _ | as
        · exact absurd rfl e
        · exact no h
      · exact no h
  · rcases as with as | as
    · rcases as with _ | as <;> exact no h
    · exact no h
theorem m_fs {es : CEs} (h : mE T N fl sc (.fs es) x = true) : ∃ xs pos, x = .JoinedStr xs pos ∧ 2 ≤ xs.length ∧ mEs T N fl sc es xs = true := by
  cases x <;> try (exact no h)
  obtain ⟨h1, h2⟩ := and2 h
  exact ⟨_, _, rfl, of_decide_eq_true h1, h2⟩
theorem m_fv {a : CE} (h : mE T N fl sc (.fv a) x = true) : ∃ y pos, x = .FormattedValue y (-1) none pos ∧ mE T N fl sc a y = true := by
  cases x <;> try (exact no h)
  rename_i y c f pos
  cases f <;> try (exact no h)
  obtain ⟨h1, h2⟩ := and2 h
  have e := of_decide_eq_true h1
  subst e
  exact ⟨_, _, rfl, h2⟩
theorem ms_nil {xs : List Expr} (h : mEs T N fl sc .nil xs = true) : xs = [] := by
  cases xs with
  | nil => rfl
  | cons _ _ => exact no h
theorem ms_cons {a : CE} {es : CEs} {xs : List Expr} (h : mEs T N fl sc (.cons a es) xs = true) : ∃ y ys, xs = y :: ys ∧ mE T N fl sc a y = true ∧ mEs T N fl sc es ys = true := by
  cases xs with
  | nil => exact no h
  | cons y ys =>
    obtain ⟨h1, h2⟩ := and2 h
    exact ⟨y, ys, rfl, h1, h2⟩
end
end Z

/-! Z8: the operations' readings. -/
namespace Z
open PySem PySem.Spec PyProof.Rows L2
section
variable {X : Cx}
def rW (X : Cx) (f : Value → Value → Sem Value) : R2 := fun x y H Q => ∀ pins s σ v u, Inv X pins σ H s → RelV x v → RelV y u → wpAny (model X.prog X.w) X.A (f v u) (EP X pins σ Q) X.xe s
theorem opr_w {f : Value → Value → Sem Value} : OpR X f (rW X f) := fun pins s σ H x y v u Q I r1 r2 h => h pins s σ v u I r1 r2
theorem rW.by {f : Value → Value → Sem Value} {r : R2} {x y : V} {H : Hp} {Q : VK} (o : OpR X f r) (h : r x y H Q) : rW X f x y H Q := fun pins s σ v u I r1 r2 => o pins s σ H x y v u Q I r1 r2 h
theorem rW.mono {f : Value → Value → Sem Value} {x y : V} {H : Hp} {Q Q' : VK} (h : rW X f x y H Q) (k : ∀ v H', Q v H' → Q' v H') : rW X f x y H Q' := fun pins s σ v u I r1 r2 =>
  thn (h pins s σ v u I r1 r2) fun u s' z => by
    obtain ⟨v, H', I', r, q⟩ := z
    exact ⟨v, H', I', r, k v H' q⟩
def cW (X : Cx) (f : Value) : List V → Hp → VK → Prop := fun xs H Q => ∀ pins s σ us, Inv X pins σ H s → Vals xs us → wpAny (model X.prog X.w) X.A (call f us) (EP X pins σ Q) X.xe s
theorem callr_w {f : Value} : CallR X f (cW X f) := fun pins s σ H xs us Q I r h => h pins s σ us I r
theorem cW.by {f : Value} {r : List V → Hp → VK → Prop} {xs : List V} {H : Hp} {Q : VK} (o : CallR X f r) (h : r xs H Q) : cW X f xs H Q := fun pins s σ us I q => o pins s σ H xs us Q I q h
end
theorem noO {α : Type} {a : α} {p : Prop} (h : none = some a) : p := nomatch h
/-- the end of an expression: what it comes to, the slots behind it -/
def QE (K : PySem.W.Frag) (Θ : Ow) (G H : Hp) (σ : L2.St) (av : AV) (e' : Sl) : VK := fun v H' => ∃ G', Stp Θ G H Θ G' H' ∧ Sts K Θ G' H' e' σ ∧ AVok K Θ H G' H' σ av v
section
variable {K : PySem.W.Frag} {Θ : Ow} {G0 G G' H0 H H' : Hp} {e e' : Sl} {σ : L2.St} {av : AV} {v v1 v2 : V} {o : O} {d p q : D} {xs : List D} {a1 a2 : AV}
theorem QE.dat (st : Stp Θ G0 H0 Θ G H) (s : Sts K Θ G H e σ) (r : Rp K G v d) : QE K Θ G0 H0 σ (.tm (.d d)) e v H := ⟨G, st, s, r⟩
theorem QE.lst {vs : List V} {a : Addr} (st : Stp Θ G0 H0 Θ G H) (s : Sts K Θ G H e σ) (r : RpA K G vs xs) (h : H a = none) : QE K Θ G0 H0 σ (.tm (.ol xs)) e (.ref a) (upd H a (.lst vs)) := by
  refine ⟨G, st.trans (Stp.laid h), s.laid h, a, vs, rfl, upd_same, ?_, r, s.noOw h, st.back s h⟩
  cases q : G a with
  | none => rfl
  | some o =>
    rw [s.gh a o q] at h
    cases h
theorem QE.tup {vs : List V} {a : Addr} (st : Stp Θ G0 H0 Θ G H) (s : Sts K Θ G H e σ) (r : RpA K G vs xs) (h : H a = none) : QE K Θ G0 H0 σ (.tm (.d (.tuple xs))) e (.ref a) (upd H a (.tup vs)) := by
  have hg : G a = none := by
    cases q : G a with
    | none => rfl
    | some o =>
      rw [s.gh a o q] at h
      cases h
  exact ⟨_, st.trans (Stp.froz s.gh h), s.froz h, Rp.tup (SqT.of upd_same) (RpA.mono (Same.new hg) xs vs r)⟩
theorem rp_int {i : Int} (h : Rp K H v (.int i)) : v = .int i := by cases h; rfl
theorem rp_str {x : Str} (h : Rp K H v (.str x)) : v = .str x := by cases h; rfl
theorem rp_bl {b : Bool} (h : Rp K H v (.bool b)) : v = .bl b := by cases h; rfl
/-- a + b and its like -/
theorem bin_rd {X : Cx} {b : BOp} {op : Operator} (st : Stp Θ G0 H0 Θ G H) (s : Sts X.K Θ G H e σ) (k1 : AVok X.K Θ H0 G H σ a1 v1) (k2 : AVok X.K Θ H0 G H σ a2 v2)
    (h1 : a1.dat e = some p) (h2 : a2.dat e = some q) (hb : bopB b op = true) (h : binD b p q = some o) : rW X (binaryOp op) v1 v2 H (QE X.K Θ G0 H0 σ (.tm o) e) := by
  have r1 := k1.rp s h1
  have r2 := k2.rp s h2
  cases b with
  | add =>
    cases op <;> try (exact no hb)
    cases p <;> try (exact noO h)
    · cases q <;> try (exact noO h)
      cases rp_int r1
      cases rp_int r2
      cases h
      exact rW.by op_add ⟨_, _, rfl, rfl, QE.dat st s (.int _)⟩
    · cases q <;> try (exact noO h)
      cases rp_str r1
      cases rp_str r2
      simp only [binD] at h
      split at h
      · cases h
        exact rW.by op_add_str ⟨_, _, rfl, rfl, by assumption, QE.dat st s (.str _)⟩
      · cases h
  | sub =>
    cases op <;> try (exact no hb)
    cases p <;> try (exact noO h)
    cases q <;> try (exact noO h)
    cases rp_int r1
    cases rp_int r2
    cases h
    exact rW.by op_sub ⟨_, _, rfl, rfl, QE.dat st s (.int _)⟩
  | mul =>
    cases op <;> try (exact no hb)
    cases p <;> try (exact noO h)
    cases q <;> try (exact noO h)
    cases rp_int r1
    cases rp_int r2
    simp only [binD] at h
    split at h
    · cases h
      exact rW.by op_mul ⟨_, _, rfl, rfl, by assumption, QE.dat st s (.int _)⟩
    · cases h
  | fdiv =>
    cases op <;> try (exact no hb)
    cases p <;> try (exact noO h)
    cases q <;> try (exact noO h)
    cases rp_int r1
    cases rp_int r2
    simp only [binD] at h
    split at h
    · cases h
      exact rW.by op_fdiv ⟨_, _, rfl, rfl, by assumption, QE.dat st s (.int _)⟩
    · cases h
  | mod =>
    cases op <;> try (exact no hb)
    cases p <;> try (exact noO h)
    cases q <;> try (exact noO h)
    cases rp_int r1
    cases rp_int r2
    simp only [binD] at h
    split at h
    · cases h
      exact rW.by op_mod ⟨_, _, rfl, rfl, by assumption, QE.dat st s (.int _)⟩
    · cases h
  | pow =>
    cases op <;> try (exact no hb)
    cases p <;> try (exact noO h)
    cases q <;> try (exact noO h)
    cases rp_int r1
    cases rp_int r2
    simp only [binD] at h
    split at h
    · cases h
      exact rW.by op_pow ⟨_, _, rfl, rfl, by assumption, QE.dat st s (.int _)⟩
    · cases h
theorem one_of {x : Str} {c : Nat} (h : x.cps.toList = [c]) : x = ⟨#[c]⟩ := by
  obtain ⟨a⟩ := x
  have h' : a.toList = [c] := h
  have : a = #[c] := by
    apply Array.toList_inj.mp
    exact h'
  rw [this]
theorem flat_eq {x y : V} {a b : D} (h1 : Rp K H x a) (h2 : Rp K H y b) (f1 : flatD a = true) (f2 : flatD b = true) : eqV x y = PyData.eqv a b ∧ flatV x = true ∧ flatV y = true := by
  cases a <;> try (exact no f1)
  all_goals
    cases b <;> try (exact no f2)
    all_goals
      cases h1
      cases h2
      exact ⟨by simp [eqV, PyData.eqv], rfl, rfl⟩
theorem flat_any {x : V} {a : D} (h1 : Rp K H x a) (f1 : flatD a = true) : ∀ {vs : List V} {ds : List D}, RpA K H vs ds → ds.all flatD = true → vs.all flatV = true ∧ inV x vs = ds.any fun z => PyData.eqv z a
  | _, _, .nil, _ => ⟨rfl, rfl⟩
  | v :: vs, d :: ds, .cons r1 r2, f => by
    rw [List.all_cons, Bool.and_eq_true] at f
    obtain ⟨e1, e2⟩ := flat_any h1 f1 r2 f.2
    obtain ⟨g1, g2, g3⟩ := flat_eq r1 h1 f.1 f1
    refine ⟨by rw [List.all_cons, g2, e1]; rfl, ?_⟩
    unfold inV at e2 ⊢
    rw [List.any_cons, List.any_cons, g1, e2]
theorem in_rd {X : Cx} {Hk : Hp} {r : Bool} (hr : X.A.units + 65 < cLine) (st : Stp Θ G0 H0 Θ G H) (s : Sts X.K Θ G H e σ) (k1 : AVok X.K Θ Hk G H σ a1 v1) (k2 : AVok X.K Θ Hk G H σ a2 v2)
    (h1 : a1.dat e = some p) (h2 : a2.dat e = some q) (h : inD p q = some r) :
    rW X (compareOp .In) v1 v2 H (QE X.K Θ G0 H0 σ (.tm (.d (.bool r))) e) ∧ rW X (compareOp .NotIn) v1 v2 H (QE X.K Θ G0 H0 σ (.tm (.d (.bool (!r)))) e) := by
  have r1 := k1.rp s h1
  have r2 := k2.rp s h2
  cases q <;> try (exact noO h)
  · -- a text
    rename_i y
    cases p <;> try (exact noO h)
    rename_i x
    have h' : signIn x y = some r := h
    unfold signIn at h'
    split at h'
    · rename_i c hc
      cases h'
      cases rp_str r1
      cases rp_str r2
      have hx := one_of hc
      subst hx
      exact ⟨rW.by op_in_sign ⟨c, y, rfl, rfl, QE.dat st s (.bl _)⟩, rW.by op_notIn_sign ⟨c, y, rfl, rfl, QE.dat st s (.bl _)⟩⟩
    · cases h'
  · -- a list
    rename_i ys
    simp only [inD] at h
    split at h
    · rename_i hs
      obtain ⟨s1, s2⟩ := and2 hs
      cases h
      have d1 := Rp.dp p v1 r1 (SeqAt.canLay_of_shaped s1)
      have d2 := Rp.dp (.list ys) v2 r2 (SeqAt.canLay_of_shaped s2)
      exact ⟨rW.by (op_inD hr) ⟨p, ys, d1, d2, s1, s2, QE.dat st s (.bl _)⟩, rW.by (op_notInD hr) ⟨p, ys, d1, d2, s1, s2, QE.dat st s (.bl _)⟩⟩
    · cases h
  · -- a tuple
    rename_i ys
    simp only [inD] at h
    split at h
    · rename_i hs
      obtain ⟨s1, s2⟩ := and2 hs
      cases h
      cases r2 with
      | @tup a vs _ t1 t2 =>
        obtain ⟨f1, f2⟩ := flat_any r1 s1 t2 s2
        have fx : flatV v1 = true := (flat_eq r1 r1 s1 s1).2.1
        refine ⟨rW.by op_in_seq ⟨a, vs, rfl, .inr t1, fx, f1, ?_⟩, rW.by op_notIn_seq ⟨a, vs, rfl, .inr t1, fx, f1, ?_⟩⟩
        · rw [if_neg Bool.false_ne_true, f2]
          exact QE.dat st s (.bl _)
        · rw [if_pos rfl, f2]
          exact QE.dat st s (.bl _)
    · cases h
theorem eq_rd {X : Cx} {Hk : Hp} {r : Bool} (hr : X.A.units + 65 < cLine) (st : Stp Θ G0 H0 Θ G H) (s : Sts X.K Θ G H e σ) (k1 : AVok X.K Θ Hk G H σ a1 v1) (k2 : AVok X.K Θ Hk G H σ a2 v2)
    (h1 : a1.dat e = some p) (h2 : a2.dat e = some q) (h : eqD p q = some r) :
    rW X (compareOp .Eq) v1 v2 H (QE X.K Θ G0 H0 σ (.tm (.d (.bool r))) e) ∧ rW X (compareOp .NotEq) v1 v2 H (QE X.K Θ G0 H0 σ (.tm (.d (.bool (!r)))) e) := by
  have r1 := k1.rp s h1
  have r2 := k2.rp s h2
  have deep : (if eqOk p q then some (PyData.eqv p q) else none) = some r → rW X (compareOp .Eq) v1 v2 H (QE X.K Θ G0 H0 σ (.tm (.d (.bool r))) e) ∧ rW X (compareOp .NotEq) v1 v2 H (QE X.K Θ G0 H0 σ (.tm (.d (.bool (!r)))) e) := fun h => by
    split at h
    · rename_i hs
      obtain ⟨s1, s2⟩ := and2 hs
      cases h
      have d1 := Rp.dp p v1 r1 (SeqAt.canLay_of_shaped s1)
      have d2 := Rp.dp q v2 r2 (SeqAt.canLay_of_shaped s2)
      exact ⟨rW.by (op_eqD (by omega)) ⟨p, q, d1, d2, s1, s2, QE.dat st s (.bl _)⟩, rW.by (op_neD (by omega)) ⟨p, q, d1, d2, s1, s2, QE.dat st s (.bl _)⟩⟩
    · cases h
  have flat : ∀ {x y : V}, v1 = x → v2 = y → scal x y = true → r = decide (x = y) → rW X (compareOp .Eq) v1 v2 H (QE X.K Θ G0 H0 σ (.tm (.d (.bool r))) e) ∧ rW X (compareOp .NotEq) v1 v2 H (QE X.K Θ G0 H0 σ (.tm (.d (.bool (!r)))) e) := fun {x y} e1 e2 sc hd => by
    subst e1 e2 hd
    exact ⟨rW.by op_eq ⟨sc, QE.dat st s (.bl _)⟩, rW.by op_ne ⟨sc, QE.dat st s (.bl _)⟩⟩
  cases p <;> cases q <;> try (exact deep h)
  · rename_i a b
    refine flat (rp_str r1) (rp_str r2) rfl ?_
    have h' : some (decide (a = b)) = some r := h
    cases h'
    by_cases e : a = b
    · subst e
      simp
    · simp [e]
/-- a < b and its like -/
theorem cmp_rd {X : Cx} {Hk : Hp} {c : COp} {op : CmpOp} {r : Bool} (hr : X.A.units + 65 < cLine) (st : Stp Θ G0 H0 Θ G H) (s : Sts X.K Θ G H e σ) (k1 : AVok X.K Θ Hk G H σ a1 v1) (k2 : AVok X.K Θ Hk G H σ a2 v2)
    (h1 : a1.dat e = some p) (h2 : a2.dat e = some q) (hb : copB c op = true) (h : cmpD c p q = some r) : rW X (compareOp op) v1 v2 H (QE X.K Θ G0 H0 σ (.tm (.d (.bool r))) e) := by
  have r1 := k1.rp s h1
  have r2 := k2.rp s h2
  cases c with
  | eq =>
    cases op <;> try (exact no hb)
    exact (eq_rd hr st s k1 k2 h1 h2 h).1
  | ne =>
    cases op <;> try (exact no hb)
    have h' : (eqD p q).map (!·) = some r := h
    cases z : eqD p q with
    | none =>
      rw [z] at h'
      cases h'
    | some b =>
      rw [z] at h'
      cases h'
      exact (eq_rd hr st s k1 k2 h1 h2 z).2
  | inn =>
    cases op <;> try (exact no hb)
    exact (in_rd hr st s k1 k2 h1 h2 h).1
  | nin =>
    cases op <;> try (exact no hb)
    have h' : (inD p q).map (!·) = some r := h
    cases z : inD p q with
    | none =>
      rw [z] at h'
      cases h'
    | some b =>
      rw [z] at h'
      cases h'
      exact (in_rd hr st s k1 k2 h1 h2 z).2
  | lt =>
    cases op <;> try (exact no hb)
    cases p <;> try (exact noO h)
    cases q <;> try (exact noO h)
    cases rp_int r1
    cases rp_int r2
    cases h
    exact rW.by op_lt ⟨_, _, rfl, rfl, QE.dat st s (.bl _)⟩
  | le =>
    cases op <;> try (exact no hb)
    cases p <;> try (exact noO h)
    cases q <;> try (exact noO h)
    cases rp_int r1
    cases rp_int r2
    cases h
    exact rW.by op_le ⟨_, _, rfl, rfl, QE.dat st s (.bl _)⟩
  | gt =>
    cases op <;> try (exact no hb)
    cases p <;> try (exact noO h)
    cases q <;> try (exact noO h)
    cases rp_int r1
    cases rp_int r2
    cases h
    exact rW.by op_gt ⟨_, _, rfl, rfl, QE.dat st s (.bl _)⟩
  | ge =>
    cases op <;> try (exact no hb)
    cases p <;> try (exact noO h)
    cases q <;> try (exact noO h)
    cases rp_int r1
    cases rp_int r2
    cases h
    exact rW.by op_ge ⟨_, _, rfl, rfl, QE.dat st s (.bl _)⟩
end
end Z

/-! ZF: a number laid out by a written width, the number being small. -/
namespace Z
open PySem Builtin Float PyProof.Rows
section
variable {prog : Program} {w : World} {A : Around} {E : Value → Shared → Prop} {s : Shared}
theorem fz_field {a : Int} {t : Tok} {sp : Str} {f : FormatSpec} {Q : Value → Shared → Prop} (small : a.natAbs.log2 < 1920) (lt : a.natAbs < 10 ^ 4300) (hp : parseFormatSpec sp.cps.toList "int" 62 = .ok f) (ne : (sp.length == 0) = false)
    (asc : ((sp.cps.toList.drop 1).any (· ≥ 128) || (sp.cps.getD 0 0 ≥ 128 && !([60, 62, 61, 94] : List Nat).contains (sp.cps.getD 1 0))) = false) (good : intSpecGood sp f = true)
    (q : IntSpecFacts f a → Q (.str (intSpecText f a) (s.toks + 1)) { s with toks := s.toks + 1 + 1 }) (size : sp.length ≤ sizeLine) : wpAny (model prog w) A (formatField (.int a t) sp) Q E s := by
  unfold intSpecGood at good
  simp only [Bool.and_eq_true] at good
  obtain ⟨⟨⟨⟨⟨⟨g1, g2⟩, g3⟩, g4⟩, g5⟩, g6⟩, g7⟩ := good
  have g1 := beq_iff_eq.mp g1
  have g2 := Option.isNone_iff_eq_none.mp g2
  have g3 : f.noNeg0 = false := by simpa using g3
  have g4 : f.alt = false := by simpa using g4
  have g5 : f.width.getD 0 ≤ 100000 := by simpa using g5
  have g6 := Option.isNone_iff_eq_none.mp g6
  have g7 := Option.isNone_iff_eq_none.mp g7
  have q1 := q (intSpecFacts a g6 g7)
  have d1 : (Nat.toDigits 10 a.natAbs).length ≤ 4300 := by
    have z := (Nat.length_repr_le_iff (n := a.natAbs) (by decide : 0 < 4300)).mpr lt
    rwa [← String.length_toList, Nat.toList_repr] at z
  have d2 : (intSpecText f a).length ≤ sizeLine := by
    rw [intSpecText_length a g6 g7, sizeLine_eq]
    clear lt q q1
    split <;> omega
  show wpAny _ _ (holding [Value.int a t] (pyFormat (Value.int a t) sp)) Q E s
  apply wpAny_holding
  unfold pyFormat
  refine (wpAny_bind (wpAny_mkStr ?_ size))
  refine (wpAny_bind (m := callSpecial? (Value.int a t) (Str.ofString "__format__") [Value.str sp s.toks]) (wpAny_callSpecial?_slot (name := Str.ofString "__format__") (typeIs_int _ a t) slot_int_format ?_))
  refine (wpAny_call (codeAny_call_builtin slot_int_format.plain entry_int_format (slot_int_format.check _ _ _ _ _ _ _ _ (typeIs_int _ a t) (args_int_format _ _) ?_)))
  unfold Builtin.«int.__format__»
  simp only [selfAndOne, noKeywords, Builtin.Int.intOfSelf, asInt?, asStr?, List.isEmpty_nil, if_true, pure_bind, bind_pure, bind_assoc, ne, asc, Bool.false_eq_true, if_false, show (Value.str sp s.toks == Value.none) = false from rfl]
  refine (wpAny_bind (wpAny_typeNameOf (T := "str") (typeIs_str _ _ _) (by decide) fun _ => ?_))
  refine (wpAny_bind (wpAny_typeNameOfCut_int ?_))
  simp only [hp, g1]
  rw [if_pos (by decide)]
  show (wpAny _ _ (if _ then _ else _) _ _ _)
  rw [if_neg (by simp [g2])]
  show (wpAny _ _ (if _ then _ else _) _ _ _)
  rw [if_neg (by simp [g3])]
  show (wpAny _ _ (if _ then _ else _) _ _ _)
  rw [if_neg (by decide)]
  show wpAny _ _ (do let r ← Builtin.overDigitLimit? a; _) _ _ _
  rw [PyProof.Rows.overDigitLimit_small small]
  refine (wpAny_bind (wpAny_pure ?_))
  show (wpAny _ _ (if _ then _ else _) _ _ _)
  rw [if_neg (by simpa using (show ¬ (f.width.getD 0 > 100000) by omega))]
  show (wpAny _ _ (retStr _) _ _ _)
  unfold retStr
  refine (wpAny_bind (wpAny_mkStr (wpAny_pure ?_) ?two))
  case two =>
    simp only [g4, Bool.false_eq_true, if_false, show ((10 : Nat) == 10) = true by decide, if_true]
    conv => lhs; arg 1; whnf
    simp only [intSpecText, intField', g6, g7, g4, Bool.false_eq_true, if_false, show ((10 : Nat) == 10) = true by decide, if_true] at d2 ⊢
    exact d2
  dsimp only
  refine (wpAny_bind (wpAny_isInstance (typeIs_str _ _ _) isSubtype_str_str (wpAny_pure ?_)))
  simp only [g4, Bool.false_eq_true, if_false, show ((10 : Nat) == 10) = true by decide, if_true]
  conv => arg 1; arg 1; whnf
  simp only [intSpecText, intField', g6, g7, g4, Bool.false_eq_true, if_false, show ((10 : Nat) == 10) = true by decide, if_true] at q1 ⊢
  exact q1
end
end Z
namespace Z
open PySem PySem.Spec PyProof.Rows L2
def tFz (n : Nat) (te : TE) : TE := fun σ H Q => te σ H fun x H1 => ∃ i : Int, x = .int i ∧ (0 ≤ i ∧ i < 1000000000000000000) ∧ Q (.str (padZ n i)) H1
theorem pe_fz {X : Cx} {e : Expr} {te : TE} {sp : Str} {n k : Nat} {p p' p2 p3 : Pos} (ok : intSpecOk sp = true) (zero : intSpecZeroOf sp = true) (wide : intSpecWidthOf sp = n) (hl : sp.length ≤ 100) (he : PE X e te) :
    PE X (.JoinedStr [.FormattedValue e (-1) (some (.JoinedStr [.Constant (.str sp) k p] p')) p2] p3) (tFz n te) := by
  refine ⟨fun pins s σ H Q I h => wpAny_JoinedStr_one (wpAny_FormattedValue_spec (thn (he.run pins s σ H _ I h) fun v s1 z => ?_))⟩
  obtain ⟨x, H1, I1, r1, i, rfl, ⟨h0, h1⟩, q⟩ := z
  obtain ⟨t, rfl⟩ := r1
  refine wpAny_JoinedStr_one (Calls.Constant_str ⟨sp, _, rfl, ?_⟩)
  unfold intSpecOk at ok
  unfold intSpecZeroOf at zero
  unfold intSpecWidthOf at wide
  cases hp : Builtin.Float.parseFormatSpec sp.cps.toList "int" 62 with
  | error m =>
    rw [hp] at ok
    simp at ok
  | ok f =>
    rw [hp] at ok zero wide
    simp only [Bool.and_eq_true] at ok
    obtain ⟨⟨ne, asc⟩, good⟩ := ok
    simp only [Bool.not_eq_true'] at ne asc
    simp only [Bool.and_eq_true, beq_iff_eq] at zero
    have parts := good
    unfold intSpecGood at parts
    simp only [Bool.and_eq_true] at parts
    have g6 := Option.isNone_iff_eq_none.mp parts.1.2
    have g7 := Option.isNone_iff_eq_none.mp parts.2
    have na : i.natAbs < 2 ^ 60 := by omega
    have small : i.natAbs.log2 < 1920 := by
      by_cases z : i.natAbs = 0
      · rw [z]
        decide
      · exact Nat.lt_trans ((Nat.log2_lt z).mpr na) (by decide)
    have e : padZ n i = intSpecText f i := by
      rw [intSpecText_zero g6 g7 zero.1 zero.2 h0]
      unfold padZ
      rw [← wide]
    rw [e] at q
    exact fz_field small (Nat.lt_of_lt_of_le na (by decide +kernel)) hp ne asc good (fun F => ⟨.str (intSpecText f i), H1, (I1.tok _).tok _, ⟨_, rfl⟩, q⟩) (by rw [sizeLine_eq]; omega)
end Z

/-! Z9: built-in functions. -/
namespace Z
open PySem PySem.Spec PyProof.Rows L2
section
variable {K : PySem.W.Frag} {Θ : Ow} {G0 G G' H0 H H' : Hp} {e e' : Sl} {σ : L2.St} {av : AV} {v v1 v2 : V} {o : O} {p q : D} {xs : List D} {a1 a2 : AV}
def biV : Bi → Value
  | .len => .builtin "len" | .list => .type "list" | .tuple => .type "tuple" | .any => .builtin "any" | .all => .builtin "all" | .int => .type "int" | .str => .type "str" | .repr => .builtin "repr" | .ord => .builtin "ord"
theorem boot_bi (b : Bi) : bootBuiltins (biN b) = some (biV b) := by
  cases b <;> decide +kernel
theorem bools_of : ∀ {vs : List V} {ds : List D} {bs : List Bool}, RpA K G vs ds → boolsOf ds = some bs → vs = bs.map V.bl
  | _, _, bs, .nil, h => by
    have h' : ([] : List Bool) = bs := Option.some.inj h
    subst h'
    rfl
  | v :: vs, d :: ds, bs, .cons r1 r2, h => by
    cases d <;> try (exact noO h)
    rename_i b
    have h' : (boolsOf ds).map (b :: ·) = some bs := h
    cases q : boolsOf ds with
    | none =>
      rw [q] at h'
      cases h'
    | some cs =>
      rw [q] at h'
      cases h'
      rw [rp_bl r1, bools_of r2 q]
      rfl
theorem strs_of : ∀ {vs : List V} {ds : List D} {bs : List Str}, RpA K G vs ds → strsOf ds = some bs → vs = bs.map V.str
  | _, _, bs, .nil, h => by
    have h' : ([] : List Str) = bs := Option.some.inj h
    subst h'
    rfl
  | v :: vs, d :: ds, bs, .cons r1 r2, h => by
    cases d <;> try (exact noO h)
    rename_i b
    have h' : (strsOf ds).map (b :: ·) = some bs := h
    cases q : strsOf ds with
    | none =>
      rw [q] at h'
      cases h'
    | some cs =>
      rw [q] at h'
      cases h'
      rw [rp_str r1, strs_of r2 q]
      rfl
theorem rpa_strs {H : Hp} : ∀ ys : List Str, RpA K H (ys.map V.str) (ys.map PyData.str)
  | [] => .nil
  | y :: ys => .cons (.str y) (rpa_strs ys)
/-- repr of data at any depth -/
theorem repr_rd {X : Cx} {d : D} {a : Addr} {Q : VK} (hg : X.A.guards = some []) (hu : X.A.units + 65 < cLine) (r : Rp X.K H (.ref a) d) (c : d.canLay0 = true) (hs : d.showable = true) (dp : d.depth ≤ 64) (hz : d.shown.length ≤ sizeLine) (q : Q (.str d.shown) H) :
    cW X (.builtin "repr") [.ref a] H Q := fun pins s σ us I rv => by
  obtain ⟨u, rfl, ru⟩ := vals1 rv
  obtain rfl : u = Value.ref a := ru
  obtain ⟨as, rd⟩ := Dp.reads I d (.ref a) (.ref a) (Rp.dp d _ r c) rfl
  refine repr_of_reads' (h₀ := s.heap) rd hs (fun z => absurd z (by rw [PyData.hasDict_of_canLay d c]; simp)) hg (by omega) (fun _ _ e => e) (fun h' u tk hk => ?_) hz
  exact ⟨.str d.shown, H, I.kept (t' := tk) hk, ⟨u, rfl⟩, q⟩
theorem bi_rd {X : Cx} {b : Bi} (hg : X.A.guards = some []) (hu : X.A.units + 65 < cLine) (hc : X.calm = true) (st : Stp Θ G0 H0 Θ G H) (s : Sts X.K Θ G H e σ) (k1 : AVok X.K Θ H0 G H σ a1 v1)
    (h1 : a1.dat e = some p) (h : biD b p = some o) : cW X (biV b) [v1] H (QE X.K Θ G0 H0 σ (.tm o) e) := by
  have r1 := k1.rp s h1
  cases b with
  | len =>
    cases p <;> try (exact noO h)
    · cases rp_str r1
      simp only [biD] at h
      split at h
      · cases h
        exact cW.by call_len_str ⟨_, rfl, by assumption, QE.dat st s (.int _)⟩
      · cases h
    · obtain ⟨a, vs, rfl, l1, l2⟩ := k1.lst s h1
      cases h
      refine cW.by call_len_seq ⟨a, vs, rfl, .inl l1, ?_⟩
      rw [l2.len]
      exact QE.dat st s (.int _)
    · obtain ⟨a, vs, rfl, l1, l2⟩ := k1.tup s h1
      cases h
      refine cW.by call_len_seq ⟨a, vs, rfl, .inr (Z.Same.sqt s.gh l1), ?_⟩
      rw [l2.len]
      exact QE.dat st s (.int _)
  | list =>
    cases p <;> try (exact noO h)
    · obtain ⟨a, vs, rfl, l1, l2⟩ := k1.lst s h1
      cases h
      exact cW.by call_list_of ⟨a, vs, rfl, .inl l1, fun l hl => QE.lst st s l2 hl⟩
    · obtain ⟨a, vs, rfl, l1, l2⟩ := k1.tup s h1
      cases h
      exact cW.by call_list_of ⟨a, vs, rfl, .inr (Z.Same.sqt s.gh l1), fun l hl => QE.lst st s l2 hl⟩
  | tuple =>
    cases p <;> try (exact noO h)
    · obtain ⟨a, vs, rfl, l1, l2⟩ := k1.lst s h1
      cases h
      exact cW.by call_tuple_of ⟨a, vs, rfl, .inl ⟨l1, fun l hl => QE.tup st s l2 hl⟩⟩
    · obtain ⟨a, vs, rfl, l1, l2⟩ := k1.tup s h1
      cases h
      exact cW.by call_tuple_of ⟨a, vs, rfl, .inr ⟨Z.Same.sqt s.gh l1, QE.dat st s (.tup l1 l2)⟩⟩
  | any =>
    cases p <;> try (exact noO h)
    rename_i ys
    obtain ⟨a, vs, rfl, l1, l2⟩ := k1.lst s h1
    have h' : (boolsOf ys).map (fun bs => O.d (.bool (bs.any id))) = some o := h
    cases z : boolsOf ys with
    | none =>
      rw [z] at h'
      cases h'
    | some bs =>
      rw [z] at h'
      cases h'
      have e := bools_of l2 z
      subst e
      exact cW.by (cr_any hc) ⟨a, bs, rfl, l1, QE.dat st s (.bl _)⟩
  | all =>
    cases p <;> try (exact noO h)
    rename_i ys
    obtain ⟨a, vs, rfl, l1, l2⟩ := k1.lst s h1
    have h' : (boolsOf ys).map (fun bs => O.d (.bool (bs.all id))) = some o := h
    cases z : boolsOf ys with
    | none =>
      rw [z] at h'
      cases h'
    | some bs =>
      rw [z] at h'
      cases h'
      have e := bools_of l2 z
      subst e
      exact cW.by (cr_all hc) ⟨a, bs, rfl, l1, QE.dat st s (.bl _)⟩
  | int =>
    cases p <;> try (exact noO h)
    · cases rp_int r1
      cases h
      exact cW.by call_int1 (.inl ⟨_, rfl, QE.dat st s (.int _)⟩)
    · rename_i xx
      cases rp_str r1
      have h' : (if xx.length ≤ 640 then (PySem.intText? xx).map fun n => O.d (.int n) else none) = some o := h
      by_cases hz : xx.length ≤ 640
      · rw [if_pos hz] at h'
        cases q : PySem.intText? xx with
        | none =>
          rw [q] at h'
          cases h'
        | some n =>
          rw [q] at h'
          cases h'
          exact cW.by call_int_str ⟨xx, n, rfl, q, hz, QE.dat st s (.int _)⟩
      · rw [if_neg hz] at h'
        cases h'
  | str =>
    cases p <;> try (exact noO h)
    cases rp_int r1
    simp only [biD] at h
    split at h
    · cases h
      rename_i hs
      exact cW.by call_str_int ⟨_, rfl, of_decide_eq_true hs, QE.dat st s (.str _)⟩
    · cases h
  | repr =>
    cases p <;> try (exact noO h)
    · cases rp_int r1
      simp only [biD] at h
      split at h
      · cases h
        rename_i hs
        intro pins s' σ' us I rv
        obtain ⟨u, rfl, t, rfl⟩ := vals1 rv
        exact PySem.P.repr_of_int (of_decide_eq_true hs) ⟨.str _, H, I.tok _, ⟨_, rfl⟩, QE.dat st s (.str _)⟩
      · cases h
    · cases rp_str r1
      simp only [biD] at h
      split at h
      · cases h
        rename_i hs
        intro pins s' σ' us I rv
        obtain ⟨u, rfl, t, rfl⟩ := vals1 rv
        exact PySem.P.repr_of_str ⟨.str _, H, I.tok _, ⟨_, rfl⟩, QE.dat st s (.str _)⟩ hs
      · cases h
    · rename_i ys
      obtain ⟨a, vs, rfl, _⟩ := k1.lst s h1
      simp only [biD] at h
      split at h
      · rename_i hs
        obtain ⟨h1, h2, h3, h4⟩ := and4 hs
        cases h
        exact repr_rd hg hu r1 h1 h2 (of_decide_eq_true h3) (of_decide_eq_true h4) (QE.dat st s (.str _))
      · cases h
    · rename_i ys
      obtain ⟨a, vs, rfl, _⟩ := k1.tup s h1
      simp only [biD] at h
      split at h
      · rename_i hs
        obtain ⟨h1, h2, h3, h4⟩ := and4 hs
        cases h
        exact repr_rd hg hu r1 h1 h2 (of_decide_eq_true h3) (of_decide_eq_true h4) (QE.dat st s (.str _))
      · cases h
  | ord =>
    cases p <;> try (exact noO h)
    cases rp_str r1
    simp only [biD] at h
    split at h
    · cases h
      exact cW.by call_ord ⟨_, rfl, by assumption, QE.dat st s (.int _)⟩
    · cases h
/-- the call of a built-in by its name -/
theorem pe_bi {X : Cx} {b : Bi} {y : Expr} {p pos : Pos} (hg : Gl X (biN b)) (hm : X.mg (biN b) = none) (hs : starEach [y] X.env = (false, eval y X.env) :: starEach [] X.env) : PE X (.Call (.Name (biN b) p) [y] [] pos) (tCB (cW X (biV b)) (tCons (wE X y) tNil)) := by
  have ha : PA X [y] (tCons (wE X y) tNil) := pa_cons pe_w pa_nil hs
  cases b with
  | len => exact pe_callB callr_w hg hm (boot_bi .len) ha (by decide +kernel) (by decide +kernel) hs rfl
  | list => exact pe_callTy callr_w hg hm (boot_bi .list) ha (by decide +kernel) (by decide +kernel) hs rfl
  | tuple => exact pe_callTy callr_w hg hm (boot_bi .tuple) ha (by decide +kernel) (by decide +kernel) hs rfl
  | any => exact pe_callB callr_w hg hm (boot_bi .any) ha (by decide +kernel) (by decide +kernel) hs rfl
  | all => exact pe_callB callr_w hg hm (boot_bi .all) ha (by decide +kernel) (by decide +kernel) hs rfl
  | int => exact pe_callTy callr_w hg hm (boot_bi .int) ha (by decide +kernel) (by decide +kernel) hs rfl
  | str => exact pe_callTy callr_w hg hm (boot_bi .str) ha (by decide +kernel) (by decide +kernel) hs rfl
  | repr => exact pe_callB callr_w hg hm (boot_bi .repr) ha (by decide +kernel) (by decide +kernel) hs rfl
  | ord => exact pe_callB callr_w hg hm (boot_bi .ord) ha (by decide +kernel) (by decide +kernel) hs rfl
/-! ### isinstance -/
def tyS : Ty → String
  | .str => "str" | .int => "int" | .bool => "bool" | .list => "list" | .tuple => "tuple" | .dict => "dict"
def dTy : D → String
  | .none => "NoneType" | .bool _ => "bool" | .int _ => "int" | .str _ => "str" | .list _ => "list" | .tuple _ => "tuple" | .dict _ => "dict"
theorem boot_ty (t : Ty) : bootBuiltins (tyN t) = some (.type (tyS t)) := by
  cases t <;> decide +kernel
inductive DK where | non | bl | int | str | lst | tup | dct
def dkS : DK → String
  | .non => "NoneType" | .bl => "bool" | .int => "int" | .str => "str" | .lst => "list" | .tup => "tuple" | .dct => "dict"
def dkT : Ty → DK → Bool
  | .str, .str => true
  | .int, .int => true
  | .int, .bl => true
  | .bool, .bl => true
  | .list, .lst => true
  | .tuple, .tup => true
  | .dict, .dct => true
  | _, _ => false
theorem kit_dk (t : Ty) (d : DK) : kitB (dkS d) (tyS t) = some (dkT t d) := by
  cases t <;> cases d <;> decide +kernel
theorem kit_dt (t : Ty) (d : D) : kitB (dTy d) (tyS t) = some (tyD t d) := by
  cases d with
  | none => cases t <;> exact kit_dk _ .non
  | bool b => cases t <;> exact kit_dk _ .bl
  | int b => cases t <;> exact kit_dk _ .int
  | str b => cases t <;> exact kit_dk _ .str
  | list b => cases t <;> exact kit_dk _ .lst
  | tuple b => cases t <;> exact kit_dk _ .tup
  | dict b => cases t <;> exact kit_dk _ .dct
theorem tyx_of {v : V} {d : D} (r : Rp K H v d) : TyX K H v (.type (dTy d)) := by
  cases r with
  | non => exact .base .non
  | bl b => exact .base (.bl b)
  | int i => exact .base (.int i)
  | str x => exact .base (.str x)
  | lst a b =>
    rcases a with (a | ⟨o, a⟩) | ⟨o, its, n, a, c, _⟩
    · exact .base (.lst a)
    · exact .base (.frz a)
    · exact .kList a c
  | tup a b =>
    rcases a with (a | ⟨o, a⟩) | ⟨o, its, n, a, c, _⟩
    · exact .base (.tup a)
    · exact .fTuple a
    · exact .kTuple a c
  | dct a b =>
    rcases a with a | ⟨o, a⟩
    · exact .base (.dK a)
    · exact .fDict a
theorem isi_rd {X : Cx} {t : Ty} (st : Stp Θ G0 H0 Θ G H) (s : Sts X.K Θ G H e σ) (k1 : AVok X.K Θ H0 G H σ a1 v1) (h1 : a1.dat e = some p) : rIsi X.K [v1, .ty (tyS t)] H (QE X.K Θ G0 H0 σ (.tm (.d (.bool (tyD t p)))) e) :=
  ⟨v1, .ty (tyS t), _, _, tyD t p, rfl, .ty _, tyx_of (k1.rp s h1), kit_ty (kit_dt t p), QE.dat st s (.bl _)⟩
theorem pe_isi {X : Cx} {t : Ty} {y : Expr} {p q pos : Pos} (hg : Gl X "isinstance") (hm : X.mg "isinstance" = none) (hg2 : Gl X (tyN t)) (hm2 : X.mg (tyN t) = none) (hs : starEach [y, .Name (tyN t) q] X.env = (false, eval y X.env) :: starEach [.Name (tyN t) q] X.env) :
    PE X (.Call (.Name "isinstance" p) [y, .Name (tyN t) q] [] pos) (tCB (rIsi X.K) (tCons (wE X y) (tCons (tC (.ty (tyS t))) tNil))) := by
  have hn : tyN t ≠ "__name__" := by cases t <;> decide +kernel
  have hd : (tyN t == ("__debug__" : Str)) = false := by cases t <;> decide +kernel
  exact pe_callB call_isi hg hm (by decide +kernel) (pa_cons pe_w (pa_cons (pe_bltn hg2 hm2 (boot_ty t) rfl hn hd) pa_nil) hs) (by decide +kernel) (by decide +kernel) hs rfl
/-! ### is None, is True -/
theorem isnone_v {v : V} {d : D} (r : Rp K H v d) : decide (v = .non) = isNoneD d := by
  cases r <;> rfl
def rIsBl (b : Bool) : R2 := fun x y H Q => y = .bl b ∧ Q (.bl (decide (x = .bl b))) H
theorem op_isBv {X : Cx} {b : Bool} : OpR X (compareOp .Is) (rIsBl b) := by
  intro pins s σ H x y v u Q I rx ry h
  obtain ⟨rfl, q⟩ := h
  obtain rfl : u = Value.bool b := ry
  have other : ∀ {v : Value}, plainIs v (.bool b) = true → v ≠ .bool b → decide (x = .bl b) = false → wpAny (model X.prog X.w) X.A (compareOp .Is v (.bool b)) (EP X pins σ Q) X.xe s := fun h1 h2 h3 => by
    rw [h3] at q
    exact wpAny_is_other h1 h2 ⟨.bl false, H, I, rfl, q⟩
  cases x with
  | bl a =>
    obtain rfl : v = Value.bool a := rx
    by_cases e : a = b
    · subst e
      exact wpAny_is_self rfl ⟨.bl true, H, I, rfl, by simpa using q⟩
    · exact wpAny_is_other rfl (fun z => e (Value.bool.inj z)) ⟨.bl false, H, I, rfl, by simpa [e] using q⟩
  | non =>
    obtain rfl : v = Value.none := rx
    exact other rfl (fun z => nomatch z) rfl
  | int i =>
    obtain ⟨t, rfl⟩ := rx
    exact other rfl (fun z => nomatch z) rfl
  | str i =>
    obtain ⟨t, rfl⟩ := rx
    exact other rfl (fun z => nomatch z) rfl
  | byt i =>
    obtain ⟨t, rfl⟩ := rx
    exact other rfl (fun z => nomatch z) rfl
  | flt i =>
    obtain ⟨t, rfl⟩ := rx
    exact other rfl (fun z => nomatch z) rfl
  | ref a =>
    obtain rfl : v = Value.ref a := rx
    exact other rfl (fun z => nomatch z) rfl
  | ty n =>
    obtain rfl : v = Value.type n := rx
    exact other rfl (fun z => nomatch z) rfl
theorem isbool_v {v : V} {d : D} {b : Bool} (r : Rp K H v d) : decide (v = .bl b) = isBoolD b d := by
  cases r <;> try rfl
  rename_i c
  show decide (V.bl c = V.bl b) = (c == b)
  exact dec_bl
/-- methods of texts: one argument -/
def mR (X : Cx) : Me → V → List V → Hp → VK → Prop
  | .join => fun x xs H Q => ∃ a p, ∃ ys : List Str, x = .str a ∧ xs = [.ref p] ∧ (SqL X.K H p (ys.map V.str) ∨ SqT X.K H p (ys.map V.str)) ∧ (ys.map (·.length)).sum + ys.length * a.length ≤ 16777216 ∧ Q (.str (Txt.join a ys)) H
  | .split => fun x xs H Q => ∃ a b, x = .str a ∧ xs = [.str b] ∧ (b.length == 0) = false ∧ a.length + 2 ≤ sizeLine ∧ rNewStrs (Txt.split a b) H Q
  | .index => fun x xs H Q => ∃ a b i rest, x = .str a ∧ xs = [.str b] ∧ Builtin.Str.occurrences a b 0 a.length 1 = i :: rest ∧ Q (.int (i : Nat)) H
  | .replace => fun _ _ _ _ => False
theorem pe_me {X : Cx} {m : Me} {o y : Expr} {ap pos : Pos} (ho : recvB o = true) (hl : (ap.endLine == pos.line) = true) (hs : starEach [y] X.env = (false, eval y X.env) :: starEach [] X.env) (hm : m ≠ .replace) :
    PE X (.Call (.Attribute o (meN m) ap) [y] [] pos) (tM1 (mR X m) (wE X o) (wE X y)) := by
  have hb : attributeBase o (meN m) X.env (eval o X.env) = eval o X.env := by
    cases o <;> first | rfl | exact no ho
  cases m with
  | join => exact pe_m1 PySem.F.slot_str_join PySem.F.type_str_join mt_join pe_w pe_w hs hb hl
  | split => exact pe_m1 PySem.F.slot_str_split PySem.F.type_str_split mt_split pe_w pe_w hs hb hl
  | index => exact pe_m1 PySem.F.slot_str_index PySem.F.type_str_index mt_sindex pe_w pe_w hs hb hl
  | replace => exact absurd rfl hm
theorem me_rd {X : Cx} {m : Me} {a : Str} {q : D} {a2 : AV} {v2 : V} (st : Stp Θ G0 H0 Θ G H) (s : Sts X.K Θ G H e σ) (k2 : AVok X.K Θ H0 G H σ a2 v2)
    (h2 : a2.dat e = some q) (h : meD m (.str a) q = some o) : mR X m (.str a) [v2] H (QE X.K Θ G0 H0 σ (.tm o) e) := by
  have r2 := k2.rp s h2
  cases m with
  | replace => exact noO h
  | join =>
    cases q <;> try (exact noO h)
    rename_i xs
    have h' : (match strsOf xs with
      | some ys => if (ys.map (·.length)).sum + ys.length * a.length ≤ 16777216 then some (O.d (.str (Txt.join a ys))) else none
      | none => none) = some o := h
    cases w : strsOf xs with
    | none =>
      rw [w] at h'
      cases h'
    | some ys =>
      rw [w] at h'
      have h' : (if (ys.map (·.length)).sum + ys.length * a.length ≤ 16777216 then some (O.d (.str (Txt.join a ys))) else none) = some o := h'
      by_cases hz : (ys.map (·.length)).sum + ys.length * a.length ≤ 16777216
      · rw [if_pos hz] at h'
        cases h'
        obtain ⟨b, vs, rfl, l1, l2⟩ := k2.lst s h2
        have e := strs_of l2 w
        subst e
        exact ⟨a, b, ys, rfl, rfl, .inl l1, hz, QE.dat st s (.str _)⟩
      · rw [if_neg hz] at h'
        cases h'
  | split =>
    cases q <;> try (exact noO h)
    rename_i b
    have h' : (if (b.length == 0) = false ∧ a.length + 2 ≤ sizeLine then some (O.ol ((Txt.split a b).map PyData.str)) else none) = some o := h
    by_cases hz : (b.length == 0) = false ∧ a.length + 2 ≤ sizeLine
    · rw [if_pos hz] at h'
      cases h'
      exact ⟨a, b, rfl, by rw [rp_str r2], hz.1, hz.2, fun l hl => QE.lst st s (rpa_strs _) hl⟩
    · rw [if_neg hz] at h'
      cases h'
  | index =>
    cases q <;> try (exact noO h)
    rename_i b
    have h' : (match Builtin.Str.occurrences a b 0 a.length 1 with
      | i :: _ => some (O.d (.int (i : Nat)))
      | [] => none) = some o := h
    cases w : Builtin.Str.occurrences a b 0 a.length 1 with
    | nil =>
      rw [w] at h'
      cases h'
    | cons i rest =>
      rw [w] at h'
      cases h'
      exact ⟨a, b, i, rest, rfl, by rw [rp_str r2], w, QE.dat st s (.int _)⟩
end
end Z

/-! Z10: what an expression comes to: the evaluator speaks the truth. -/
namespace Z
open PySem PySem.Spec PyProof.Rows L2
/-! ### the program's facts -/
structure PgT where
  addr : Nat → Addr
  fd : Nat → FuncData
  N : Nat → List Str
  ps : Nat → List Str
  st : Nat → Stmt
def biNames : List Str := [biN .len, biN .list, biN .tuple, biN .any, biN .all, biN .int, biN .str, biN .repr, biN .ord, "isinstance", "range", "bool", "dict"]
/-- a call's promise: what the core language says of it -/
def spZ (K : PySem.W.Frag) (gc : List (Str × D)) (code : List FD) (n f : Nat) (vs : List V) (H : Hp) (Q : VK) : Prop :=
  ∃ G os r outs, Z.Args K G H os vs ∧ run gc code n f os = some (r, outs) ∧ ∀ v G' H', Ret K G H os vs r outs v G' H' → Q v H'
def FnG (P : Program) (w : World) (K : PySem.W.Frag) (mg : Str → Option Value) (base : Heap) (T : Tb) (code : List FD) (Dp : PgT) (n f : Nat) : Prop :=
  ∀ (A : Around) (outer : List PySem.Env) (s : Shared) (H : Hp) (args : PySem.Args) (us : List Value) (vs : List V) (Q : VK), Room n A → A.guards = some [] → Env0 P w K mg base A outer s H →
    BindsTo s (Dp.fd f) args ((Dp.ps f).zip us) → Vals vs us → spZ K T.gc code n f vs H Q → codeAny (model P w) A (.call (.ref (Dp.addr f)) args) (CR CX0 outer P w H s Q E0) s
/-- a promise proved by hand -/
def FnN (P : Program) (w : World) (K : PySem.W.Frag) (mg : Str → Option Value) (base : Heap) (Dp : PgT) (n f : Nat) (g : List O → Option (O × List O)) : Prop :=
  ∀ (A : Around) (outer : List PySem.Env) (s : Shared) (H : Hp) (args : PySem.Args) (us : List Value) (vs : List V) (Q : VK), Room n A → A.guards = some [] → Env0 P w K mg base A outer s H →
    BindsTo s (Dp.fd f) args ((Dp.ps f).zip us) → Vals vs us → (∃ G os r outs, Z.Args K G H os vs ∧ g os = some (r, outs) ∧ ∀ v G' H', Ret K G H os vs r outs v G' H' → Q v H') → codeAny (model P w) A (.call (.ref (Dp.addr f)) args) (CR CX0 outer P w H s Q E0) s
structure PgOk (T : Tb) (code : List FD) (Dp : PgT) (K : PySem.W.Frag) (mg : Str → Option Value) : Prop where
  fn : ∀ f x, T.fn[f]? = some x → mg x = some (.ref (Dp.addr f)) ∧ PySem.W.keepIn K (.ref (Dp.addr f)) = true
  df : ∀ f fd, code[f]? = some fd → ∃ name qual, Fun K name qual (Dp.st f) (Dp.addr f) (Dp.fd f) ∧ FnScope (Dp.N f) (Dp.ps f) (defScope (Dp.st f)) ∧ Binds K (Dp.fd f) (Dp.ps f) [] ∧
    fd.np = (Dp.ps f).length ∧ fd.ns = (Dp.N f).length ∧ (fd.nt = none → mSs T (Dp.N f) (defScope (Dp.st f)) fd.body (defBody (Dp.st f)) = true)
  nt : ∀ f fd g, code[f]? = some fd → fd.nt = some g → ∀ (P : Program) (w : World) (base : Heap) (n : Nat), (∀ f', FnG P w K mg base T code Dp n f') → FnN P w K mg base Dp (n + 1) f g
  bi : ∀ x ∈ biNames, mg x = none
  gc : ∀ (k : Nat) (p : Str × D), T.gc[k]? = some p → ∃ u v, mg p.1 = some u ∧ RelV v u ∧ ∀ G, Rp K G v p.2
structure Ctx (T : Tb) (code : List FD) (Dp : PgT) (n : Nat) (fl : Option Scope) (X : Cx) : Prop where
  nd : X.N.Nodup
  fn : X.fn = fnOf fl
  calm : X.calm = true
  hr : Room n X.A
  gd : X.A.guards = some []
  pg : PgOk T code Dp X.K X.mg
  fs : ∀ f, FnG X.prog X.w X.K X.mg X.base T code Dp n f
section
variable {T : Tb} {code : List FD} {Dp : PgT} {n : Nat} {fl : Option Scope} {X : Cx} {K : PySem.W.Frag} {Θ : Ow} {G0 G G' G1 H0 H H' H1 : Hp} {e e' e0 : Sl} {σ σ' : L2.St} {av : AV} {v : V} {o : O} {d : D}
theorem Ctx.blk (C : Ctx T code Dp n fl X) (s : Shared) (H : Hp) (scope : Scope) (cl : List (Str × Addr)) (A : Addr) (fp : List Addr) : Ctx T code Dp n (some scope) (X.blk s H scope (compEnvC scope cl A X.env) fp) :=
  ⟨C.nd, rfl, C.calm, C.hr, C.gd, C.pg, C.fs⟩
theorem Ctx.u (C : Ctx T code Dp n fl X) : X.A.units + 65 < cLine := by
  have := C.hr.un
  omega
theorem gl_of {x : Str} (h : glB X.env.scope x = true) : Gl X x := by
  unfold glB at h
  split at h
  · assumption
  · cases h
theorem vis_of {x : Str} (h : visB X.env.scope x = true) : Vis X.env.scope x := by
  unfold visB at h
  split at h
  · exact .inl (by assumption)
  · exact .inr (.inl (by assumption))
  · exact .inr (.inr (by assumption))
  · cases h
theorem slot_of {N : List Str} {i : Nat} {x : Str} (h : slotB N i x = true) : N[i]? = some x := of_decide_eq_true h
theorem plain_of {x : Str} (h : plainName x = true) : (x == ("__debug__" : Str)) = false ∧ (x == ("__classdict__" : Str)) = false ∧ (x == ("__name__" : Str)) = false := by
  obtain ⟨h1, h2, h3⟩ := and3 h
  exact ⟨by simpa using h1, by simpa using h2, by simpa using h3⟩
theorem bindOk {α β : Type} {r : R α} {f : α → Sl → R β} {b : β} (h : r.bind f = .ok b e') : ∃ a e1, r = .ok a e1 ∧ f a e1 = .ok b e' := by
  cases r with
  | ok a e1 => exact ⟨a, e1, rfl, h⟩
  | bad => cases h
theorem ofOk {α : Type} {o : Option α} {a : α} (h : R.of o e = .ok a e') : o = some a ∧ e' = e := by
  cases o with
  | none => cases h
  | some b =>
    cases h
    exact ⟨rfl, rfl⟩
theorem testOk {r : R AV} {b : Bool} (h : testV r = .ok b e') : ∃ x, r = .ok x e' ∧ x.dat e' = some (.bool b) := by
  obtain ⟨x, e1, h1, h2⟩ := bindOk h
  split at h2
  · cases h2
    exact ⟨x, h1, by assumption⟩
  · cases h2
theorem nostar {N : List Str} {sc : Scope} {c : CE} {x : Expr} (h : mE T N fl sc c x = true) (hc : c ≠ .bad) : ∀ env es, starEach (x :: es) env = (false, eval x env) :: starEach es env := by
  intro env es
  cases x <;> first | rfl | skip
  cases c <;> first | exact no h | exact absurd rfl hc
theorem noset {N : List Str} {sc : Scope} {c : CE} {x : Expr} (h : mE T N fl sc c x = true) (hc : c ≠ .bad) : ∀ env v, foldedSetIterable x env v = pure v := by
  intro env v
  cases x <;> first | rfl | skip
  cases c <;> first | exact no h | exact absurd rfl hc
theorem noslice {N : List Str} {sc : Scope} {c : CE} {x : Expr} (h : mE T N fl sc c x = true) (hc : c ≠ .bad) : PlainIx x := by
  intro o i
  cases x <;> first | rfl | skip
  cases c <;> first | exact no h | exact absurd rfl hc
theorem nomark' {N : List Str} {sc : Scope} {c : CE} {x : Expr} (op : CmpOp) (h : mE T N fl sc c x = true) (hc : c ≠ .bad) : behindInMarks op x = false := by
  cases x <;> first | rfl | skip
  cases c <;> first | exact no h | exact absurd rfl hc
theorem nobad {Γ : Gm} {gc : List (Str × D)} {c : CE} {a : AV} (h : evE gc Γ c e = .ok a e') : c ≠ .bad := by
  rintro rfl
  cases h
theorem nostars {Γ : Gm} {gc : List (Str × D)} {N : List Str} {sc : Scope} {env : PySem.Env} : ∀ {es : CEs} {xs : List Expr} {pos : Pos} {e e' : Sl} {avs : List AV}, mEs T N fl sc es xs = true → evEs gc Γ es e = .ok avs e' → (backTo pos (starEach xs env)).any (·.1) = false
  | .nil, xs, pos, e, e', avs, h, _ => by
    rw [ms_nil h]
    rfl
  | .cons a es, xs, pos, e, e', avs, h, q => by
    obtain ⟨y, ys, rfl, h1, h2⟩ := ms_cons h
    obtain ⟨x, e1, q1, q2⟩ := bindOk q
    obtain ⟨zs, e2, q3, q4⟩ := bindOk q2
    rw [nostar h1 (nobad q1)]
    exact nostars h2 q3
/-- behind the second of two -/
theorem AVok.next (st1 : Stp Θ G0 H0 Θ G H) (s1 : Sts K Θ G H e σ) (st2 : Stp Θ G H Θ G' H') (k : AVok K Θ H0 G H σ av v) : AVok K Θ H0 G' H' σ av v := k.mono st2
theorem AVok.late (st1 : Stp Θ G0 H0 Θ G H) (s1 : Sts K Θ G H e σ) (k : AVok K Θ H G' H' σ av v) : AVok K Θ H0 G' H' σ av v := k.old fun _ z => st1.back s1 z
/-- the end of a test; of several; of what is walked -/
def QT (K : PySem.W.Frag) (Θ : Ow) (G H : Hp) (σ : L2.St) (b : Bool) (e' : Sl) : Bool → Hp → Prop := fun c H' => c = b ∧ ∃ G', Stp Θ G H Θ G' H' ∧ Sts K Θ G' H' e' σ
def QA (K : PySem.W.Frag) (Θ : Ow) (G H : Hp) (σ : L2.St) (avs : List AV) (e' : Sl) : List V → Hp → Prop := fun vs H' => ∃ G', Stp Θ G H Θ G' H' ∧ Sts K Θ G' H' e' σ ∧ Paired (AVok K Θ H G' H' σ) avs vs ∧ Dst avs vs
/-- a walked thing gives out these data -/
def Wk (K : PySem.W.Frag) (G0 : Hp) (ds : List D) (J : It) : Prop := ∀ (G H : Hp), Same G0 G → Same G H → (∀ i, i < ds.length → J.go i H) ∧ (∀ i, ds.length ≤ i → J.stop i H) ∧
  ∀ i x H' d, ds[i]? = some d → J.yld i H x H' → ∃ G', Same G G' ∧ Same G' H' ∧ (∀ a o, H a = some o → H' a = some o ∧ G' a = G a) ∧ Rp K G' x d
theorem wk_list {ds : List D} {a : Addr} {vs : List V} (h : SqL K G0 a vs) (r : RpA K G0 vs ds) : Wk K G0 ds (Itl K a) := fun G H g gh => by
  have hh : SqL K H a vs := gh.seq (g.seq h)
  refine ⟨fun i hi => ?_, fun i hi => ⟨vs, hh, by rw [r.len]; exact hi⟩, fun i x H' d hd hy => ?_⟩
  · obtain ⟨x, h1, _⟩ := r.get (List.getElem?_eq_getElem hi)
    exact ⟨vs, x, hh, h1⟩
  · obtain ⟨rfl, hy⟩ := hy
    obtain ⟨y, h1, h2⟩ := r.get hd
    have h3 := hy vs hh
    rw [h1] at h3
    have h3 : y = x := Option.some.inj h3
    subst h3
    exact ⟨G, Same.refl _, gh, fun a o q => ⟨q, rfl⟩, Rp.mono g d y h2⟩
theorem wk_tup {ds : List D} {a : Addr} {vs : List V} (h : SqT K G0 a vs) (r : RpA K G0 vs ds) : Wk K G0 ds (Itt K a) := fun G H g gh => by
  have hh : SqT K H a vs := Z.Same.sqt gh (Z.Same.sqt g h)
  refine ⟨fun i hi => ?_, fun i hi => ⟨vs, hh, by rw [r.len]; exact hi⟩, fun i x H' d hd hy => ?_⟩
  · obtain ⟨x, h1, _⟩ := r.get (List.getElem?_eq_getElem hi)
    exact ⟨vs, x, hh, h1⟩
  · obtain ⟨rfl, hy⟩ := hy
    obtain ⟨y, h1, h2⟩ := r.get hd
    have h3 := hy vs hh
    rw [h1] at h3
    have h3 : y = x := Option.some.inj h3
    subst h3
    exact ⟨G, Same.refl _, gh, fun a o q => ⟨q, rfl⟩, Rp.mono g d y h2⟩
theorem range_get {lo : Int} {m i : Nat} {d : D} (h : (rangeD lo m)[i]? = some d) : i < m ∧ d = .int (lo + i) := by
  unfold rangeD at h
  rw [List.getElem?_map] at h
  cases q : (List.range m)[i]? with
  | none =>
    rw [q] at h
    cases h
  | some j =>
    rw [q] at h
    obtain ⟨h1, h2⟩ := List.getElem?_eq_some_iff.mp q
    rw [List.getElem_range] at h2
    subst h2
    cases h
    exact ⟨by simpa using h1, rfl⟩
theorem range_len {lo : Int} {m : Nat} : (rangeD lo m).length = m := by
  unfold rangeD
  rw [List.length_map, List.length_range]
theorem wk_range {lo : Int} {m : Nat} : Wk K G0 (rangeD lo m) (Itr lo m) := fun G H g gh => by
  refine ⟨fun i hi => by rw [range_len] at hi; exact hi, fun i hi => by rw [range_len] at hi; exact hi, fun i x H' d hd hy => ?_⟩
  obtain ⟨rfl, rfl⟩ := hy
  obtain ⟨_, rfl⟩ := range_get hd
  exact ⟨G, Same.refl _, gh, fun a o q => ⟨q, rfl⟩, .int _⟩
theorem wk_text {x : Str} : Wk K G0 (x.cps.toList.map fun c => .str ⟨#[c]⟩) (Its x) := fun G H g gh => by
  refine ⟨fun i hi => (show i < x.cps.size by simpa using hi), fun i hi => (show x.cps.size ≤ i by simpa using hi), fun i v H' d hd hy => ?_⟩
  obtain ⟨rfl, c, hc, rfl⟩ := hy
  rw [List.getElem?_map] at hd
  have hc' : x.cps.toList[i]? = some c := by simpa using hc
  rw [hc'] at hd
  cases hd
  exact ⟨G, Same.refl _, gh, fun a o q => ⟨q, rfl⟩, .str _⟩
/-- a walked thing's own run -/
def wI (X : Cx) (tg iter : Expr) : TI := fun σ H R => ∀ pins s, Inv X pins σ H s → wpAny (model X.prog X.w) X.A (eval iter X.env) (fun v s1 => wpAny (model X.prog X.w) X.A (pyIter v) (PIE X pins σ tg R) X.xe s1) X.xe s
theorem pi_w {tg iter : Expr} : PI X tg iter (wI X tg iter) := ⟨fun pins s σ H R I h => h pins s I⟩
theorem wI.by {tg iter : Expr} {wi : TI} {R : It → Hp → Prop} (p : PI X tg iter wi) (h : wi σ H R) : wI X tg iter σ H R := fun pins s I => p.run pins s σ H R I h
def QI (K : PySem.W.Frag) (Θ : Ow) (G H : Hp) (σ : L2.St) (ds : List D) (e' : Sl) : It → Hp → Prop := fun J H' => ∃ G', Stp Θ G H Θ G' H' ∧ Sts K Θ G' H' e' σ ∧ Wk K G' ds J ∧ ds.length ≤ sizeLine
/-! ### stores -/
theorem Sts.put {i : Nat} (s : Sts K Θ G H e σ) (r : Rp K G v d) : Sts K Θ G H (e.set i (some (.d d))) (σ.set i (some v)) := by
  refine ⟨s.gh, s.th, by rw [List.length_set, List.length_set]; exact s.len, fun j o h => ?_⟩
  by_cases hi : i < e.length
  · rw [join_set hi] at h
    by_cases z : j = i
    · subst z
      rw [if_pos rfl] at h
      cases h
      exact ⟨v, by rw [List.getElem?_set_self (by rw [← s.len]; exact hi)], r, fun _ _ q => nomatch q⟩
    · rw [if_neg z] at h
      obtain ⟨w, h1, h2, h3⟩ := s.sl j o h
      exact ⟨w, by rw [List.getElem?_set_ne (Ne.symm z)]; exact h1, h2, h3⟩
  · rw [List.set_eq_of_length_le (by omega)] at h
    obtain ⟨w, h1, h2, h3⟩ := s.sl j o h
    refine ⟨w, ?_, h2, h3⟩
    rw [List.set_eq_of_length_le (by rw [← s.len]; omega)]
    exact h1
theorem loc_of {x : Str} (C : Ctx T code Dp n fl X) (h : locB fl X.env.scope x = true) : Loc X.env.scope x ∧ (X.fn x = true ∨ X.env.scope.names.lookup x = some .local) := by
  unfold locB at h
  split at h
  · rename_i q
    exact ⟨.inl q, .inr q⟩
  · rename_i q
    refine ⟨.inr q, .inl ?_⟩
    rw [C.fn]
    cases fl with
    | none => rfl
    | some s =>
      simp only at h
      split at h
      · rename_i z
        show (s.names.lookup x == some NameKind.cell) = true
        rw [z]
        rfl
      · cases h
  · cases h
theorem setS_ok {ow : List Bool} {i : Nat} (h : setS ow i o e = some e') : i < e.length ∧ ow[i]? ≠ some true ∧ e' = e.set i (some o) := by
  unfold setS at h
  split at h
  · rename_i q
    cases h
    exact ⟨q.1, q.2, rfl⟩
  · cases h
/-- which slots a target stores, with what -/
def putV : List Nat → List V → L2.St → L2.St
  | i :: is, v :: vs, σ => putV is vs (σ.set i (some v))
  | _, _, σ => σ
theorem tg_go (C : Ctx T code Dp n fl X) {ow : List Bool} : ∀ {is : List Nat} {xs : List Expr} {ds : List D} {vs : List V} {e e' : Sl} {σ : L2.St}, tgB.go X.N fl X.env.scope is xs = true → Sts X.K Θ G H e σ → RpA X.K G vs ds → setSs ow is (ds.map O.d) e = some e' →
    ∃ t, PGs X xs t ∧ xs.length = vs.length ∧ (∀ env, (assignEach xs env).length = xs.length ∧ (assignEach xs env).findIdx? (·.1) = none) ∧ ∀ Q : L2.St → Hp → Prop, (Sts X.K Θ G H e' (putV is vs σ) → Q (putV is vs σ) H) → t vs σ H Q
  | [], [], ds, vs, e, e', σ, _, s, r, h => by
    cases r with
    | nil =>
      have h' : some e = some e' := h
      cases h'
      exact ⟨gNil, pgs_nil, rfl, fun _ => ⟨rfl, rfl⟩, fun Q q => ⟨rfl, q s⟩⟩
    | cons _ _ => cases h
  | [], _ :: _, _, _, _, _, _, m, _, _, _ => no m
  | i :: is, [], _, _, _, _, _, m, _, _, _ => no m
  | i :: is, x :: xs, ds, vs, e, e', σ, m, s, r, h => by
    cases x <;> try (exact no m)
    rename_i y pos
    obtain ⟨m1, m2, m3⟩ := and3 m
    cases r with
    | nil => cases h
    | @cons v vs d ds r1 r2 =>
      have h : (match setS ow i (.d d) e with | some e => setSs ow is (ds.map O.d) e | none => none) = some e' := h
      cases q : setS ow i (.d d) e with
      | none =>
        rw [q] at h
        cases h
      | some e1 =>
        rw [q] at h
        obtain ⟨h1, h2, rfl⟩ := setS_ok q
        obtain ⟨t, p, hl, ha, k⟩ := tg_go C m3 (s.put (i := i) r1) r2 h
        obtain ⟨l1, l2⟩ := loc_of C m2
        refine ⟨gCons (gName i) t, pgs_cons (pg_name C.nd (slot_of m1) l1 l2) p rfl, by simp [hl], fun env => ?_, fun Q q => ⟨v, vs, rfl, k Q q⟩⟩
        obtain ⟨z1, z2⟩ := ha env
        refine ⟨by show (assignEach xs env).length + 1 = _; rw [z1]; rfl, ?_⟩
        show List.findIdx? (·.1) ((false, assign (.Name y pos) env) :: assignEach xs env) = none
        rw [List.findIdx?_cons, z2]
        rfl
/-- a target -/
def putT : CT → D → V → List V → L2.St → L2.St
  | .nm i, _, v, _, σ => σ.set i (some v)
  | .tp is, _, _, vs, σ => putV is vs σ
theorem tg_ok (C : Ctx T code Dp n fl X) {ow : List Bool} {t : CT} {x : Expr} (m : tgB X.N fl X.env.scope t x = true) (s : Sts X.K Θ G H e σ) (r : Rp X.K G v d) (h : setT ow t d e = some e') :
    ∃ g vs, PG X x g ∧ ∀ Q : L2.St → Hp → Prop, (Sts X.K Θ G H e' (putT t d v vs σ) → Q (putT t d v vs σ) H) → g v σ H Q := by
  cases t with
  | nm i =>
    cases x <;> try (exact no m)
    obtain ⟨m1, m2⟩ := and2 m
    obtain ⟨h1, h2, rfl⟩ := setS_ok h
    obtain ⟨l1, l2⟩ := loc_of C m2
    exact ⟨gName i, [], pg_name C.nd (slot_of m1) l1 l2, fun Q q => q (s.put r)⟩
  | tp is =>
    cases x <;> try (exact no m)
    rename_i xs k pos
    unfold setT at h
    cases d <;> try (exact noO h)
    rename_i ds
    cases r with
    | @tup a vs _ r1 r2 =>
      obtain ⟨t, p, hl, ha, k⟩ := tg_go C m s r2 h
      exact ⟨gTup X.K xs.length t, vs, pg_tup C.calm p (ha _).1 (ha _).2, fun Q q => ⟨a, vs, rfl, Z.Same.sqt s.gh r1, hl.symm, k Q q⟩⟩
end
end Z

/-! Z11: calls; comprehensions. -/
namespace Z
open PySem PySem.Spec PyProof.Rows L2
section
variable {T : Tb} {code : List FD} {Dp : PgT} {n : Nat} {fl : Option Scope} {X : Cx} {K : PySem.W.Frag} {Θ : Ow} {G0 G G' G1 H0 H H' H1 : Hp} {e e' e0 : Sl} {σ σ' : L2.St} {av : AV} {v : V} {o : O} {d : D}
theorem run_code {gc : List (Str × D)} {f : Nat} {os : List O} {r : O × List O} (h : run gc code n f os = some r) : ∃ fd, code[f]? = some fd ∧ os.length = fd.np := by
  cases n with
  | zero => cases h
  | succ m =>
    have h : (match code[f]? with | some fd => (match fd.nt with | some g => if os.length = fd.np then g os else none | none => runF gc (run gc code m) fd os) | none => none) = some r := h
    cases q : code[f]? with
    | none =>
      rw [q] at h
      cases h
    | some fd =>
      rw [q] at h
      have h : (match fd.nt with | some g => if os.length = fd.np then g os else none | none => runF gc (run gc code m) fd os) = some r := h
      split at h
      · split at h
        · exact ⟨fd, rfl, by assumption⟩
        · cases h
      · unfold runF at h
        split at h
        · rename_i z
          exact ⟨fd, rfl, z.1⟩
        · cases h
theorem run_fnG (C : Ctx T code Dp n fl X) {f : Nat} {pins : List (Addr × Obj)} {s : Shared} {Q : VK} {us : List Value} {vs : List V} (I : Inv X pins σ H s) (r : Vals vs us) (h : spZ X.K T.gc code n f vs H Q) :
    wpAny (model X.prog X.w) X.A (call (.ref (Dp.addr f)) us) (EP X pins σ Q) X.xe s := by
  obtain ⟨G, os, ro, outs, A, hr, k⟩ := id h
  obtain ⟨fd, hc, hl⟩ := run_code hr
  obtain ⟨name, qual, F, S, B, np, ns, m⟩ := C.pg.df f fd hc
  have l1 := A.rep.length
  have l2 := r.length
  have lus : (us ++ []).length = (Dp.ps f).length := by
    rw [List.append_nil]
    omega
  have hb := B s us I.kIn lus
  rw [List.append_nil] at hb
  refine wpAny_call (codeAny_mono (C.fs f X.A X.stack s H ⟨us, []⟩ us vs Q C.hr C.gd I.env0 hb r h) fun res s' hq => ?_)
  cases res with
  | error x => exact False.elim hq
  | ok fw =>
    cases fw with
    | ret u => exact I.after hq
    | next => exact False.elim hq
    | brk => exact False.elim hq
    | cont => exact False.elim hq
def tA (X : Cx) : List Expr → TA
  | [] => tNil
  | y :: ys => wA X (y :: ys)
theorem pa_t {xs : List Expr} : PA X xs (tA X xs) := by
  cases xs with
  | nil => exact pa_nil
  | cons y ys => exact pa_w
theorem pe_callG (C : Ctx T code Dp n fl X) {f : Nat} {x : Str} {xs : List Expr} {p pos : Pos} (hf : T.fn[f]? = some x) (hg : Gl X x) (hd : (x == ("__debug__" : Str)) = false)
    (hs : ∀ y ys, xs = y :: ys → starEach (y :: ys) X.env = (false, eval y X.env) :: starEach ys X.env ∧ ∀ pos, (backTo pos (starEach ys X.env)).any (·.1) = false) :
    PE X (.Call (.Name x p) xs [] pos) (fun σ H Q => tA X xs σ H fun vs H1 => spZ X.K T.gc code n f vs H1 Q) := by
  obtain ⟨hm, hk⟩ := C.pg.fn f x hf
  refine ⟨fun pins s σ H Q I h => wpAny_Call_Name_kw (ld_glob I hg hm ?_ hd)⟩
  cases xs with
  | nil =>
    exact PySem.W.callWith_K0 I.kIn hk (run_fnG C (us := []) I .nil h)
  | cons y ys =>
    obtain ⟨h1, h2⟩ := hs y ys rfl
    refine PySem.W.callWith_K (h₀ := X.base) I.ok.mod.kin hk (thn (h pos pins s I) fun us s1 z => ?_) h1 (h2 pos)
    obtain ⟨vs, H1, I1, r1, q1⟩ := z
    exact ⟨I1.kIn, run_fnG C I1 r1 q1⟩
end
end Z

/-! Z12: comprehensions. -/
namespace Z
open PySem PySem.Spec PyProof.Rows L2
section
variable {T : Tb} {code : List FD} {Dp : PgT} {n : Nat} {fl : Option Scope} {X : Cx} {K : PySem.W.Frag} {Θ : Ow} {G0 G G' G1 G2 H0 H H' H1 H2 : Hp} {e e' e0 e1 e2 : Sl} {σ σ' : L2.St} {av : AV} {v : V} {o : O} {d : D} {ws : List Nat}
theorem wipe_at (σ : L2.St) (j : Nat) : ∀ ws : List Nat, (wipe σ ws)[j]? = if j ∈ ws ∧ j < σ.length then some none else σ[j]?
  | [] => by simp [wipe]
  | i :: r => by
    unfold wipe
    have ih := wipe_at σ j r
    by_cases hj : j = i
    · subst hj
      by_cases hl : j < σ.length
      · rw [List.getElem?_set_self (by rw [wipe_length]; exact hl), if_pos ⟨List.mem_cons_self, hl⟩]
      · rw [List.set_eq_of_length_le (by rw [wipe_length]; omega), ih, if_neg (fun q => hl q.2), if_neg (fun q => hl q.2)]
    · rw [List.getElem?_set_ne (Ne.symm hj), ih]
      simp [hj]
theorem wipe_ext {σ σ' : L2.St} (hl : σ.length = σ'.length) (h : ∀ j, j ∉ ws → σ[j]? = σ'[j]?) : wipe σ ws = wipe σ' ws := by
  apply List.ext_getElem?
  intro j
  rw [wipe_at, wipe_at, hl]
  by_cases hj : j ∈ ws
  · by_cases hk : j < σ'.length
    · rw [if_pos ⟨hj, hk⟩, if_pos ⟨hj, hk⟩]
    · rw [if_neg (fun q => hk q.2), if_neg (fun q => hk q.2), List.getElem?_eq_none (by omega), List.getElem?_eq_none (by omega)]
  · rw [if_neg (fun q => hj q.1), if_neg (fun q => hj q.1), h j hj]
theorem wipe_wipe : wipe (wipe σ ws) ws = wipe σ ws := wipe_ext (wipe_length _ _) fun j hj => by
  rw [wipe_at, if_neg (fun q => hj q.1)]
theorem putV_len : ∀ {is : List Nat} {vs : List V} {σ : L2.St}, (putV is vs σ).length = σ.length
  | [], _, _ => by simp [putV]
  | _ :: _, [], _ => by simp [putV]
  | i :: is, v :: vs, σ => by
    show (putV is vs (σ.set i (some v))).length = _
    rw [putV_len, List.length_set]
theorem putV_at : ∀ {is : List Nat} {vs : List V} {σ : L2.St} {j : Nat}, j ∉ is → (putV is vs σ)[j]? = σ[j]?
  | [], _, _, _, _ => by simp [putV]
  | _ :: _, [], _, _, _ => by simp [putV]
  | i :: is, v :: vs, σ, j, h => by
    show (putV is vs (σ.set i (some v)))[j]? = _
    rw [List.mem_cons, not_or] at h
    rw [putV_at h.2, List.getElem?_set_ne (Ne.symm h.1)]
def tgSlots : CT → List Nat
  | .nm i => [i]
  | .tp is => is
theorem putT_len {t : CT} {vs : List V} : (putT t d v vs σ).length = σ.length := by
  cases t with
  | nm i => exact List.length_set
  | tp is => exact putV_len
theorem putT_at {t : CT} {vs : List V} {j : Nat} (h : j ∉ tgSlots t) : (putT t d v vs σ)[j]? = σ[j]? := by
  cases t with
  | nm i => exact List.getElem?_set_ne (fun z => h (by simp [tgSlots, z]))
  | tp is => exact putV_at h
theorem wipe_put {t : CT} {vs : List V} (h : ∀ i ∈ tgSlots t, i ∈ ws) : wipe (putT t d v vs (wipe σ ws)) ws = wipe σ ws := by
  refine (wipe_ext putT_len fun j hj => putT_at fun q => hj (h j q)).trans wipe_wipe
theorem own_mem {N : List Str} {scope sc : Scope} {x : Str} {i : Nat} (nd : N.Nodup) (h : locB (some scope) (relS scope sc) x = true) (hi : N[i]? = some x) : i ∈ (ownOf N scope).map (·.2) := by
  have hm : x ∈ N := List.mem_of_getElem? hi
  have ix : N.idxOf x = i := by
    have hl : N.idxOf x < N.length := List.idxOf_lt_length_of_mem hm
    exact nodup_ix nd (List.getElem?_eq_some_iff.mpr ⟨hl, List.getElem_idxOf hl⟩) hi
  have fin : ∀ k : NameKind, (k = .local ∨ k = .cell) → scope.names.lookup x = some k → i ∈ (ownOf N scope).map (·.2) := fun k hk q => by
    refine List.mem_map.mpr ⟨(x, i), List.mem_filterMap.mpr ⟨(x, k), PySem.mem_of_lookup q, ?_⟩, rfl⟩
    rcases hk with rfl | rfl
    · show (if x ∈ N then some (x, N.idxOf x) else none) = _
      rw [if_pos hm, ix]
    · show (if x ∈ N then some (x, N.idxOf x) else none) = _
      rw [if_pos hm, ix]
  unfold locB at h
  split at h
  · rename_i q
    obtain ⟨k', h1, h2⟩ := lookup_relS q
    rcases h2 with h2 | h2
    · exact fin .local (.inl rfl) (by rw [h1, h2])
    · cases h2.2
  · simp only at h
    split at h
    · exact fin .cell (.inr rfl) (by assumption)
    · cases h
  · cases h
theorem tg_own {N : List Str} {scope sc : Scope} {t : CT} {x : Expr} (nd : N.Nodup) (h : tgB N (some scope) (relS scope sc) t x = true) : ∀ i ∈ tgSlots t, i ∈ (ownOf N scope).map (·.2) := by
  cases t with
  | nm j =>
    cases x <;> try (exact no h)
    obtain ⟨h1, h2⟩ := and2 h
    intro i hi
    have : i = j := by simpa [tgSlots] using hi
    subst this
    exact own_mem nd h2 (slot_of h1)
  | tp is =>
    cases x <;> try (exact no h)
    rename_i xs k pos
    have go : ∀ (is : List Nat) (xs : List Expr), tgB.go N (some scope) (relS scope sc) is xs = true → ∀ i ∈ is, i ∈ (ownOf N scope).map (·.2) := by
      intro is
      induction is with
      | nil =>
        intro _ _ i hi
        cases hi
      | cons j is ih =>
        intro xs h i hi
        cases xs with
        | nil => exact no h
        | cons y ys =>
          cases y <;> try (exact no h)
          obtain ⟨h1, h2, h3⟩ := and3 h
          rcases List.mem_cons.mp hi with z | z
          · subst z
            exact own_mem nd h2 (slot_of h1)
          · exact ih ys h3 i z
    exact go is xs h
theorem wipeE_at (e : Sl) (j : Nat) : ∀ ws : List Nat, ((wipeE e ws)[j]?).join = if j ∈ ws then none else (e[j]?).join
  | [] => by simp [wipeE]
  | i :: r => by
    unfold wipeE
    have ih := wipeE_at e j r
    by_cases hl : i < (wipeE e r).length
    · rw [join_set hl, ih]
      by_cases hj : j = i
      · simp [hj]
      · simp [hj]
    · rw [List.set_eq_of_length_le (by omega), ih]
      by_cases hj : j = i
      · subst hj
        have : (e[j]?).join = none := by
          have le : (wipeE e r).length = e.length := by
            clear ih hl
            induction r with
            | nil => rfl
            | cons k r ih2 =>
              unfold wipeE
              rw [List.length_set]
              exact ih2
          rw [List.getElem?_eq_none (by omega)]
          rfl
        simp [this]
      · simp [hj]
theorem wipeE_len (e : Sl) : ∀ ws : List Nat, (wipeE e ws).length = e.length
  | [] => rfl
  | i :: r => by
    unfold wipeE
    rw [List.length_set, wipeE_len e r]
theorem Sts.wipe (s : Sts K Θ G H e σ) : Sts K Θ G H (wipeE e ws) (L2.wipe σ ws) := by
  refine ⟨s.gh, s.th, by rw [wipeE_len, wipe_length]; exact s.len, fun i o h => ?_⟩
  rw [wipeE_at] at h
  split at h
  · cases h
  · rename_i hn
    obtain ⟨v, h1, h2, h3⟩ := s.sl i o h
    refine ⟨v, ?_, h2, h3⟩
    rw [wipe_at, if_neg (fun q => hn q.1)]
    exact h1
theorem backE_at (e0 : Sl) : ∀ (ws : List Nat) (e : Sl) (j : Nat), e0.length = e.length → ((backE e0 e ws)[j]?).join = if j ∈ ws then (e0[j]?).join else (e[j]?).join
  | [], e, j, _ => by simp [backE]
  | i :: r, e, j, hl => by
    show ((backE e0 (e.set i ((e0[i]?).join)) r)[j]?).join = _
    rw [backE_at e0 r _ j (by rw [List.length_set]; exact hl)]
    by_cases hr : j ∈ r
    · rw [if_pos hr, if_pos (List.mem_cons_of_mem _ hr)]
    · rw [if_neg hr]
      by_cases hi : i < e.length
      · rw [join_set hi]
        by_cases hj : j = i
        · subst hj
          rw [if_pos rfl, if_pos List.mem_cons_self]
        · rw [if_neg hj, if_neg (by simp [hj, hr])]
      · rw [List.set_eq_of_length_le (by omega)]
        by_cases hj : j = i
        · subst hj
          rw [if_pos List.mem_cons_self, List.getElem?_eq_none (by omega), List.getElem?_eq_none (by omega)]
        · rw [if_neg (by simp [hj, hr])]
theorem backE_len (e0 : Sl) : ∀ (ws : List Nat) (e : Sl), (backE e0 e ws).length = e.length
  | [], e => rfl
  | i :: r, e => by
    show (backE e0 (e.set i ((e0[i]?).join)) r).length = _
    rw [backE_len, List.length_set]
theorem Sts.back (s0 : Sts K Θ G1 H1 e0 σ) (hn : noOwn e0 ws = true) (st : Stp Θ G1 H1 Θ G2 H2) (s : Sts K Θ G2 H2 e2 (L2.wipe σ ws)) : Sts K Θ G2 H2 (backE e0 e2 ws) σ := by
  have hl : e0.length = e2.length := by rw [s0.len, s.len, wipe_length]
  refine ⟨s.gh, s.th, by rw [backE_len, s.len, wipe_length], fun i o h => ?_⟩
  rw [backE_at e0 ws e2 i hl] at h
  split at h
  · rename_i hi
    obtain ⟨v, h1, h2, h3⟩ := s0.sl i o h
    refine ⟨v, h1, ?_, h3⟩
    cases o with
    | d x => exact Rp.mono st.g x v h2
    | ol xs =>
      have q := List.all_eq_true.mp hn i hi
      rw [h] at q
      cases q
  · rename_i hi
    obtain ⟨v, h1, h2, h3⟩ := s.sl i o h
    refine ⟨v, ?_, h2, h3⟩
    rw [wipe_at, if_neg (fun q => hi q.1)] at h1
    exact h1
/-! ### the families over all blocks -/
def gB (X : Cx) (scope : Scope) (tg : Expr) : TG := fun v σ H Q => ∀ (s0 : Shared) (H0 : Hp) (A : Addr) (cl : List (Str × Addr)) (fp : List Addr), ∃ t, PG (X.blk s0 H0 scope (compEnvC scope cl A X.env) fp) tg t ∧ t v σ H Q
def tB' (X : Cx) (scope : Scope) (cs : List Expr) : TT := fun σ H Q => ∀ (s0 : Shared) (H0 : Hp) (A : Addr) (cl : List (Str × Addr)) (fp : List Addr), ∃ t, PTs (X.blk s0 H0 scope (compEnvC scope cl A X.env) fp) cs t ∧ t σ H Q
def eB (X : Cx) (scope : Scope) (elt : Expr) : TE := fun σ H Q => ∀ (s0 : Shared) (H0 : Hp) (A : Addr) (cl : List (Str × Addr)) (fp : List Addr), wE (X.blk s0 H0 scope (compEnvC scope cl A X.env) fp) elt σ H Q
theorem pg_b {scope : Scope} {tg : Expr} (s0 : Shared) (H0 : Hp) (A : Addr) (cl : List (Str × Addr)) (fp : List Addr) : PG (X.blk s0 H0 scope (compEnvC scope cl A X.env) fp) tg (gB X scope tg) := ⟨fun pins s σ H v u Q I r h => by
  obtain ⟨t, p, q⟩ := h s0 H0 A cl fp
  exact p.run pins s σ H v u Q I r q⟩
theorem pt_b {scope : Scope} {cs : List Expr} (s0 : Shared) (H0 : Hp) (A : Addr) (cl : List (Str × Addr)) (fp : List Addr) : PTs (X.blk s0 H0 scope (compEnvC scope cl A X.env) fp) cs (tB' X scope cs) := ⟨fun pins s σ H Q I h => by
  obtain ⟨t, p, q⟩ := h s0 H0 A cl fp
  exact p.run pins s σ H Q I q⟩
theorem pe_b {scope : Scope} {elt : Expr} (s0 : Shared) (H0 : Hp) (A : Addr) (cl : List (Str × Addr)) (fp : List Addr) : PE (X.blk s0 H0 scope (compEnvC scope cl A X.env) fp) elt (eB X scope elt) := ⟨fun pins s σ H Q I h => h s0 H0 A cl fp pins s I⟩
/-- a walked thing has given out a datum -/
theorem wk_step {ds : List D} {J : It} (w : Wk K G1 ds J) (g : Same G1 G) (s : Sts K Θ G H e σ) {i : Nat} {x : V} (hd : ds[i]? = some d) (hy : J.yld i H x H') : ∃ G', Stp Θ G H Θ G' H' ∧ Sts K Θ G' H' e σ ∧ Rp K G' x d ∧ (∀ a o, H a = some o → H' a = some o ∧ G' a = G a) := by
  obtain ⟨G', g1, g2, k, r⟩ := (w G H g s.gh).2.2 i x H' d hd hy
  refine ⟨G', ⟨g1, fun a o h t => ⟨(k a o h).1, (k a o h).2, t⟩, fun _ _ t => t⟩, ⟨g2, fun a j t => ?_, s.len, fun j o h => ?_⟩, r, k⟩
  · have hn := s.th a j t
    cases q : H a with
    | none => exact absurd q hn
    | some o =>
      rw [(k a o q).1]
      simp
  · obtain ⟨v, h1, h2, h3⟩ := s.sl j o h
    refine ⟨v, h1, ?_, h3⟩
    cases o with
    | d x => exact Rp.mono g1 x v h2
    | ol xs =>
      obtain ⟨p, vs, rfl, k1, k2, k3⟩ := h2
      exact ⟨p, vs, rfl, (k p _ k1).1, by rw [(k p _ k1).2]; exact k2, RpA.mono g1 xs vs k3⟩
/-- an object that no slot has is changed -/
theorem Sts.wr {A : Addr} {u u' : HO} (s : Sts K Θ G H e σ) (h : H A = some u) (g : G A = none) (t : Θ A = none) : Sts K Θ G (upd H A u') e σ := by
  have ne : ∀ a o, G a = some o → a ≠ A := fun a o q z => by
    subst z
    rw [g] at q
    cases q
  refine ⟨fun a o q => by rw [upd_ne (ne a o q)]; exact s.gh a o q, fun a i q => ?_, s.len, fun i o q => ?_⟩
  · by_cases z : a = A
    · subst z
      rw [upd_same]
      simp
    · rw [upd_ne z]
      exact s.th a i q
  · obtain ⟨v, h1, h2, h3⟩ := s.sl i o q
    refine ⟨v, h1, ?_, h3⟩
    cases o with
    | d x => exact h2
    | ol xs =>
      obtain ⟨p, vs, rfl, k1, k2, k3⟩ := h2
      refine ⟨p, vs, rfl, ?_, k2, k3⟩
      rw [upd_ne]
      · exact k1
      · intro z
        subst z
        have := h3 p xs rfl rfl
        rw [t] at this
        cases this
/-- one turn of the evaluator -/
def turnL (gc : List (Str × D)) (Γ : Gm) (ws : List Nat) (t : CT) (ifs : CP) (el : CE) : D → Sl → R (Option D) := fun x e => match setT [] t x e with
  | some e => (evIf gc Γ ifs e).bind fun c e => if c then (evE gc Γ el e).bind fun y e => match take y e with
      | some (d, e) => .ok (some d) (wipeE e ws)
      | none => .bad
    else .ok none (wipeE e ws)
  | none => .bad
theorem lc_rd (C : Ctx T code Dp n fl X) {Γ : Gm} {gc : List (Str × D)} {t : CT} {ifs : CP} {el : CE} {tg iter elt : Expr} {cs : List Expr} {scope : Scope} {ds rs : List D}
    (ht : tgB X.N (some scope) (relS scope X.env.scope) t tg = true) (hw : (ownOf X.N scope).map (·.2) = ws)
    (hI : wI X tg iter σ H (QI X.K Θ G H σ ds e0))
    (hIf : ∀ (s0 : Shared) (H0 : Hp) (A : Addr) (cl : List (Str × Addr)) (fp : List Addr) (G H : Hp) (e e' : Sl) (σ : L2.St) (b : Bool), Sts X.K Θ G H e σ → evIf gc Γ ifs e = .ok b e' → ∃ t, PTs (X.blk s0 H0 scope (compEnvC scope cl A X.env) fp) cs t ∧ ∀ Q : Bool → Hp → Prop, (∀ H' G', Stp Θ G H Θ G' H' → Sts X.K Θ G' H' e' σ → Q b H') → t σ H Q)
    (hEl : ∀ (s0 : Shared) (H0 : Hp) (A : Addr) (cl : List (Str × Addr)) (fp : List Addr) (G H : Hp) (e e' : Sl) (σ : L2.St) (av : AV), Sts X.K Θ G H e σ → evE gc Γ el e = .ok av e' → wE (X.blk s0 H0 scope (compEnvC scope cl A X.env) fp) elt σ H (QE X.K Θ G H σ av e'))
    (hno : noOwn e0 ws = true) (hl : lcL (turnL gc Γ ws t ifs el) ds (wipeE e0 ws) = .ok rs e1) :
    tLc (wI X tg iter) (gB X scope tg) (tB' X scope cs) (eB X scope elt) ws σ H (QE X.K Θ G H σ (.tm (.ol rs)) (backE e0 e1 ws)) := by
  have hsl : ∀ i ∈ tgSlots t, i ∈ ws := hw ▸ tg_own C.nd ht
  refine (fun pins s I => ?_)
  refine thn (hI pins s I) fun v s1 z => thn z fun itv s2 z => ?_
  obtain ⟨it, fp, tn, J, H1, e2, I2, Tn, st2, f2, q⟩ := z
  refine ⟨it, fp, tn, J, H1, e2, I2, Tn, st2, f2, fun A hA => ?_⟩
  obtain ⟨G1, st1, s1, wk, hlen⟩ := q
  have gA : G1 A = none := by
    cases q : G1 A with
    | none => rfl
    | some o =>
      rw [s1.gh A o q] at hA
      cases hA
  have tA : Θ A = none := s1.noOw hA
  refine ⟨fun i m Hi => m = ds.length - i ∧ i ≤ ds.length ∧ ∃ (Gi : Hp) (ei : Sl) (acc : List V) (done rest : List D), Stp Θ G1 H1 Θ Gi Hi ∧ Sts X.K Θ Gi Hi ei (L2.wipe σ ws) ∧ Hi A = some (.lst acc) ∧ Gi A = none ∧ RpA X.K Gi acc done ∧
      lcL (turnL gc Γ ws t ifs el) (ds.drop i) ei = .ok rest e1 ∧ done ++ rest = rs ∧ done.length ≤ i, ⟨ds.length, by simp, Nat.zero_le _, G1, wipeE e0 ws, [], [], rs, Stp.laid hA, (s1.laid hA).wipe, upd_same, gA, .nil, by simpa using hl, rfl, Nat.zero_le _⟩, ?_⟩
  rintro i m Hi ⟨rfl, hi, Gi, ei, acc, done, rest, sti, si, hHA, hGA, ra, hr, hdr, hdl⟩
  obtain ⟨w1, w2, w3⟩ := wk Gi Hi sti.g si.gh
  by_cases hlt : i < ds.length
  · refine .inr ⟨w1 i hlt, fun H' => ∃ (Gi : Hp) (ei : Sl) (acc : List V) (done rest : List D), Stp Θ G1 H1 Θ Gi H' ∧ Sts X.K Θ Gi H' ei (L2.wipe σ ws) ∧ H' A = some (.lst acc) ∧ Gi A = none ∧ RpA X.K Gi acc done ∧
      lcL (turnL gc Γ ws t ifs el) (ds.drop (i + 1)) ei = .ok rest e1 ∧ done ++ rest = rs ∧ done.length ≤ i + 1, fun H' h' => ⟨ds.length - (i + 1), by omega, rfl, hlt, h'⟩, fun x H2 hy => ?_⟩
    have hd : ds[i]? = some ds[i] := List.getElem?_eq_getElem hlt
    obtain ⟨G2, st2, s2, r2, kk⟩ := wk_step wk sti.g si hd hy
    rw [List.drop_eq_getElem_cons hlt] at hr
    obtain ⟨od, e3, t1, t2⟩ := bindOk hr
    obtain ⟨rs', e4, t3, t4⟩ := bindOk t2
    cases t4
    -- the target
    intro s0 H0 A1 cl fp1
    unfold turnL at t1
    cases q : setT [] t ds[i] ei with
    | none =>
      rw [q] at t1
      cases t1
    | some e5 =>
      rw [q] at t1
      obtain ⟨g, vs, pg, k⟩ := tg_ok (C.blk s0 H0 scope cl A1 fp1) ht s2 r2 q
      refine ⟨g, pg, k _ fun s3 => ⟨wipe_put hsl, ?_⟩⟩
      -- the test
      intro s0 H0 A1 cl fp1
      obtain ⟨c, e6, u1, u2⟩ := bindOk (show (evIf gc Γ ifs e5).bind _ = _ from t1)
      obtain ⟨tt, pt, h4⟩ := hIf s0 H0 A1 cl fp1 G2 H2 e5 e6 _ c s3 u1
      refine ⟨tt, pt, h4 _ fun H3 G3 st3 s4 => ?_⟩
      have stA : Stp Θ Gi Hi Θ G3 H3 := st2.trans st3
      obtain ⟨hA3, gA3, _⟩ := stA.h A _ hHA tA
      cases c with
      | false =>
        have u2 : R.ok none (wipeE e6 ws) = R.ok od e3 := u2
        cases u2
        refine ⟨G3, wipeE e6 ws, acc, done, rs', sti.trans stA, ?_, hA3, by rw [gA3]; exact hGA, RpA.mono stA.g done acc ra, t3, hdr, by omega⟩
        have w := s4.wipe (ws := ws)
        rw [wipe_put hsl] at w
        exact w
      | true =>
        intro s0 H0 A1 cl fp1
        obtain ⟨y, e7, u3, u4⟩ := bindOk (show (evE gc Γ el e6).bind _ = _ from u2)
        refine (hEl s0 H0 A1 cl fp1 G3 H3 e6 e7 _ y s4 u3).mono fun yv H4 z => ?_
        obtain ⟨G4, st4, s5, k5⟩ := z
        cases q2 : take y e7 with
        | none =>
          rw [q2] at u4
          cases u4
        | some p =>
          obtain ⟨dd, e8⟩ := p
          rw [q2] at u4
          have u4 : R.ok (some dd) (wipeE e8 ws) = R.ok od e3 := u4
          cases u4
          obtain ⟨G5, f5, s6, r6⟩ := take_ok s5 k5 q2
          have hadd : ∀ p ∈ (tad y yv).toList, H3 p = none := fun p hp => (tad_at k5 (by simpa using hp)).2.1
          have st5 : Stp Θ G3 H3 Θ G5 H4 := f5.stp st4 hadd
          have stB : Stp Θ Gi Hi Θ G5 H4 := stA.trans st5
          obtain ⟨hA4, gA4, _⟩ := stB.h A _ hHA tA
          have lacc : acc.length = done.length := ra.len
          refine ⟨acc, hA4, by omega, G5, wipeE e8 ws, acc ++ [yv], done ++ [dd], rs', ?_, ?_, upd_same, by rw [gA4]; exact hGA, (RpA.mono stB.g done acc ra).snoc r6, t3, ?_, ?_⟩
          · have w := sti.trans stB
            refine ⟨w.g, fun a o h t => ?_, fun _ _ t => t⟩
            obtain ⟨h1, h2, _⟩ := w.h a o h t
            exact ⟨by rw [upd_ne (ne_of_none h hA)]; exact h1, h2, t⟩
          · have w := s6.wipe (ws := ws)
            rw [wipe_put hsl] at w
            exact w.wr hA4 (by rw [gA4]; exact hGA) tA
          · rw [← hdr]
            simp
          · simp
            omega
  · have e : i = ds.length := by omega
    subst e
    rw [List.drop_length] at hr
    cases hr
    refine .inl ⟨w2 _ (Nat.le_refl _), Gi, st1.trans sti, s1.back hno sti si, A, acc, rfl, hHA, hGA, ?_, tA, st1.back s1 hA⟩
    have : done = rs := by simpa using hdr
    rw [← this]
    exact ra
end
end Z

/-! Z13: the evaluator speaks the truth about expressions. -/
namespace Z
open PySem PySem.Spec PyProof.Rows L2
section
variable {T : Tb} {code : List FD} {Dp : PgT} {n : Nat} {fl : Option Scope} {X : Cx} {Θ : Ow} {G0 G G' G1 G2 H0 H H' H1 H2 : Hp} {e e' e0 e1 e2 : Sl} {σ σ' : L2.St} {av : AV} {v : V} {o : O} {d : D} {x : Expr} {b : Bool}
theorem QE.bool {K : PySem.W.Frag} (h : QE K Θ G H σ (.tm (.d (.bool b))) e' v H') : v = .bl b ∧ QT K Θ G H σ b e' b H' := by
  obtain ⟨G', st, s, r⟩ := h
  exact ⟨rp_bl r, rfl, G', st, s⟩
theorem fallT (he : ∀ whole, isTrue x X.env whole = (do let v ← whole; standAt x.pos; holding [v] (truthy v))) (h : wE X x σ H (QE X.K Θ G H σ av e')) (hd : av.dat e' = some (.bool b)) : wT X x σ H (QT X.K Θ G H σ b e') := by
  refine wT.by (pt_val pe_w he) ?_
  refine h.mono fun v H' z => ?_
  obtain ⟨G', st, s, k⟩ := z
  exact ⟨b, rp_bl (k.rp s hd), rfl, G', st, s⟩
/-- lists and tuples are no longer than may be -/
theorem wE.sz {Q : VK} (h : wE X x σ H Q) : wE X x σ H (fun v H' => Q v H' ∧ (∀ a xs, SqL X.K H' a xs → xs.length ≤ sizeLine) ∧ ∀ a xs, SqT X.K H' a xs → xs.length ≤ sizeLine) := fun pins s I =>
  thn (h pins s I) fun u s' z => by
    obtain ⟨v, H', I', r, q⟩ := z
    exact ⟨v, H', I', r, q, fun a xs l => (I'.list l).choose_spec.2.2, fun a xs l => (I'.tuple l).choose_spec.2.2⟩
theorem pe_tail {op : BoolOp} {y : Expr} {r : List Expr} {pos : Pos} : PE X (.BoolOp op (y :: r) pos) (wE X (tailB op pos (y :: r))) := by
  cases r with
  | nil => exact pe_one pe_w
  | cons z r => exact pe_w
theorem pw_tailA {y : Expr} {r : List Expr} {pos : Pos} : PW X (.BoolOp .And (y :: r) pos) (wT X (tailB .And pos (y :: r))) := by
  cases r with
  | nil => exact pw_and1 pt_w
  | cons z r => exact ⟨fun wh pins s σ H Q I h => h pins s I⟩
theorem pw_tailO {y : Expr} {r : List Expr} {pos : Pos} : PW X (.BoolOp .Or (y :: r) pos) (wT X (tailB .Or pos (y :: r))) := by
  cases r with
  | nil => exact pw_or1 pt_w
  | cons z r => exact ⟨fun wh pins s σ H Q I h => h pins s I⟩
theorem pt_ifx {t a b : Expr} {pos : Pos} {tt ta tb : TT} (ht : PT X t tt) (ha : PT X a ta) (hb : PT X b tb) : PT X (.IfExp t a b pos) (fun σ H Q => tt σ H fun c H1 => if c = true then ta σ H1 Q else tb σ H1 Q) := by
  refine ⟨fun pins s σ H Q I h => ?_⟩
  show wpAny (model X.prog X.w) X.A (isTrue t X.env (eval t X.env) >>= fun c => if c = true then isTrue a X.env (eval a X.env) else isTrue b X.env (eval b X.env)) _ _ _
  refine wpAny_bind (thn (ht.run pins s σ H _ I h) fun c s1 z => ?_)
  obtain ⟨H1, I1, q⟩ := z
  cases c with
  | true => exact ha.run pins s1 σ H1 Q I1 q
  | false => exact hb.run pins s1 σ H1 Q I1 q
theorem pj_map : ∀ xs : List Expr, PJ X xs (xs.map (wE X))
  | [] => .nil
  | x :: xs => .cons pe_w (pj_map xs)
theorem lenEs {N : List Str} {sc : Scope} {Γ : Gm} {gc : List (Str × D)} : ∀ {es : CEs} {xs : List Expr} {e e' : Sl} {avs : List AV}, mEs T N fl sc es xs = true → evEs gc Γ es e = .ok avs e' → avs.length = xs.length
  | .nil, xs, e, e', avs, h, q => by
    rw [ms_nil h]
    cases q
    rfl
  | .cons a es, xs, e, e', avs, h, q => by
    obtain ⟨y, ys, rfl, h1, h2⟩ := ms_cons h
    obtain ⟨x1, e1, q1, q2⟩ := bindOk q
    obtain ⟨zs, e2, q3, q4⟩ := bindOk q2
    cases q4
    simp [lenEs h2 q3]
theorem tA.mono {xs : List Expr} {Q Q' : List V → Hp → Prop} (h : tA X xs σ H Q) (k : ∀ v H', Q v H' → Q' v H') : tA X xs σ H Q' := by
  cases xs with
  | nil => exact k _ _ h
  | cons y ys => exact wA.mono h k
theorem small_le {n : Nat} (h : n ≤ 1000) : n ≤ sizeLine := Nat.le_trans h (by rw [sizeLine_eq]; decide)
theorem atI_rp {K : PySem.W.Frag} {vs : List V} {ds : List D} {i : Int} (r : RpA K G vs ds) (h : atI ds i = some d) : ∃ v, atI vs i = some v ∧ Rp K G v d := by
  unfold atI at h ⊢
  rw [r.len]
  cases q : ixN ds.length i with
  | none =>
    rw [q] at h
    cases h
  | some j =>
    rw [q] at h
    exact r.get h
theorem cut_rp {K : PySem.W.Frag} {vs : List V} {ds : List D} (r : RpA K G vs ds) (lo hi : Option Int) : RpA K G (cutV vs lo hi) (cutL ds lo hi) := by
  unfold cutV cutL
  rw [r.len]
  exact (r.drop _).take _
theorem rgV_rp {K : PySem.W.Frag} (m : Int) : RpA K G (rgV 0 m) (rangeD 0 m.toNat) := by
  unfold rgV rangeD
  have e : (m - 0).toNat = m.toNat := by rw [Int.sub_zero]
  rw [e]
  generalize List.range m.toNat = l
  induction l with
  | nil => exact .nil
  | cons a l ih => exact .cons (.int _) ih
theorem nosetI {N : List Str} {sc : Scope} {Γ : Gm} {gc : List (Str × D)} {it : CI} {ds : List D} (h : mI T N fl sc it x = true) (q : evI gc Γ it e = .ok ds e') : ∀ env v, foldedSetIterable x env v = pure v := by
  cases it with
  | e a =>
    obtain ⟨x1, e1, h1, _⟩ := bindOk q
    exact noset h (nobad h1)
  | r1 a =>
    cases x <;> try (exact no h)
    exact fun _ _ => rfl
  | r2 a b =>
    cases x <;> try (exact no h)
    exact fun _ _ => rfl
theorem mg_bi (C : Ctx T code Dp n fl X) {x : Str} (h : x ∈ biNames) : X.mg x = none := C.pg.bi x h
theorem biN_mem (b : Bi) : biN b ∈ biNames := by cases b <;> decide +kernel
theorem tyN_mem (t : Ty) : tyN t ∈ biNames := by cases t <;> decide +kernel
theorem retOk {α β : Type} {o : Option β} {f : β → α} {a : α} (h : ((R.of o e).bind fun r e => R.ok (f r) e) = .ok a e') : ∃ r, o = some r ∧ a = f r ∧ e' = e := by
  cases o with
  | none => cases h
  | some r =>
    cases h
    exact ⟨r, rfl, rfl, rfl⟩
theorem ofOk' {α β : Type} {o : Option β} {f : β → Sl → R α} {a : α} (h : (R.of o e).bind f = .ok a e') : ∃ r, o = some r ∧ f r e = .ok a e' := by
  cases o with
  | none => cases h
  | some r => exact ⟨r, rfl, h⟩
theorem lastM {op op' : CmpOp} {c : CE} {b x : Expr} {N : List Str} {sc : Scope} (h : mE T N fl sc c x = true) (hc : c ≠ .bad) : lastMarks [op, op'] [b, x] = false := nomark' op' h hc
theorem testMk {r : R AV} {x1 : AV} (h : r = .ok x1 e') (hd : x1.dat e' = some (.bool b)) : testV r = .ok b e' := by
  subst h
  show (match x1.dat e' with | some (.bool b) => R.ok b e' | _ => .bad) = _
  rw [hd]
theorem QE.trans {K : PySem.W.Frag} (st : Stp Θ G H Θ G1 H1) (s : Sts K Θ G1 H1 e σ) (h : QE K Θ G1 H1 σ av e' v H') : QE K Θ G H σ av e' v H' := by
  obtain ⟨G2, st2, s2, k⟩ := h
  exact ⟨G2, st.trans st2, s2, k.old fun _ z => st.back s z⟩
theorem QT.trans {K : PySem.W.Frag} {c : Bool} (st : Stp Θ G H Θ G1 H1) (h : QT K Θ G1 H1 σ b e' c H') : QT K Θ G H σ b e' c H' := by
  obtain ⟨e, G2, st2, s2⟩ := h
  exact ⟨e, G2, st.trans st2, s2⟩
theorem testOf {r : R AV} {α : Type} {f : Bool → Sl → R α} {a : α} (h : (testV r).bind f = .ok a e') : ∃ c e1 x1, r = .ok x1 e1 ∧ x1.dat e1 = some (.bool c) ∧ f c e1 = .ok a e' := by
  obtain ⟨c, e1, h1, h2⟩ := bindOk h
  obtain ⟨x1, h3, h4⟩ := testOk h1
  exact ⟨c, e1, x1, h3, h4, h2⟩
/-- the evaluator's two-place steps -/
theorem twoOk {α : Type} {x1 y1 : AV} {f : D → D → R α} {r : α} (h : (match x1.dat e, y1.dat e with | some p, some q => f p q | _, _ => R.bad) = .ok r e') : ∃ p q, x1.dat e = some p ∧ y1.dat e = some q ∧ f p q = .ok r e' := by
  cases hp : x1.dat e with
  | none =>
    rw [hp] at h
    cases h
  | some p =>
    cases hq : y1.dat e with
    | none =>
      rw [hp, hq] at h
      cases h
    | some q =>
      rw [hp, hq] at h
      exact ⟨p, q, rfl, rfl, h⟩
theorem oneOk {α : Type} {x1 : AV} {f : D → R α} {r : α} (h : (match x1.dat e with | some p => f p | none => R.bad) = .ok r e') : ∃ p, x1.dat e = some p ∧ f p = .ok r e' := by
  cases hp : x1.dat e with
  | none =>
    rw [hp] at h
    cases h
  | some p =>
    rw [hp] at h
    exact ⟨p, rfl, h⟩
theorem retOk2 {α : Type} {o : Option α} {f : α → AV} {g : α → Sl} {a : AV} (h : ((R.of o e).bind fun r e => R.ok (f r) (g r)) = .ok a e') : ∃ r, o = some r ∧ a = f r ∧ e' = g r := by
  cases o with
  | none => cases h
  | some r =>
    cases h
    exact ⟨r, rfl, rfl, rfl⟩
theorem callOk {o : Option (O × List O)} {avs : List AV} {os : List O} {e1 : Sl} (h : (R.of o e1).bind (fun r e => R.ok (AV.tm r.1) (putOs avs os r.2 e)) = .ok av e') : ((R.of o e1).bind fun r e => R.ok (AV.tm r.1) (putOs avs os r.2 e1)) = .ok av e' := by
  cases o with
  | none => cases h
  | some r => exact h
theorem argOs_l {avs : List AV} {os : List O} (h : argOs avs e = some os) : argL e avs = some os := by
  unfold argOs at h
  split at h
  · exact h
  · cases h
mutual
theorem sE : ∀ (c : CE) {fl : Option Scope} {X : Cx} {x : Expr} (C : Ctx T code Dp n fl X) (hm : mE T X.N fl X.env.scope c x = true) {Θ : Ow} {G H : Hp} {e : Sl} {σ : L2.St}, Sts X.K Θ G H e σ →
    (∀ av e', evE T.gc (run T.gc code n) c e = .ok av e' → wE X x σ H (QE X.K Θ G H σ av e')) ∧ (∀ b e', testV (evE T.gc (run T.gc code n) c e) = .ok b e' → wT X x σ H (QT X.K Θ G H σ b e'))
  | .non, fl, X, x, C, hm, Θ, G, H, e, σ, s => by
    obtain ⟨k, pos, rfl⟩ := m_non hm
    have hE : ∀ av e', evE T.gc (run T.gc code n) .non e = .ok av e' → wE X (.Constant .none k pos) σ H (QE X.K Θ G H σ av e') := fun av e' h => by
      cases h
      exact wE.by pe_non (QE.dat Stp.refl s .non)
    exact ⟨hE, fun b e' h => by
      obtain ⟨a, h1, h2⟩ := testOk h
      exact fallT (fun _ => rfl) (hE a e' h1) h2⟩
  | .bl c, fl, X, x, C, hm, Θ, G, H, e, σ, s => by
    obtain ⟨k, pos, rfl⟩ := m_bl hm
    have hE : ∀ av e', evE T.gc (run T.gc code n) (.bl c) e = .ok av e' → wE X (.Constant (.bool c) k pos) σ H (QE X.K Θ G H σ av e') := fun av e' h => by
      cases h
      exact wE.by pe_bl (QE.dat Stp.refl s (.bl _))
    exact ⟨hE, fun b e' h => by
      obtain ⟨a, h1, h2⟩ := testOk h
      exact fallT (fun _ => rfl) (hE a e' h1) h2⟩
  | .int c, fl, X, x, C, hm, Θ, G, H, e, σ, s => by
    obtain ⟨k, pos, rfl⟩ := m_int hm
    have hE : ∀ av e', evE T.gc (run T.gc code n) (.int c) e = .ok av e' → wE X (.Constant (.int c) k pos) σ H (QE X.K Θ G H σ av e') := fun av e' h => by
      cases h
      exact wE.by pe_int (QE.dat Stp.refl s (.int _))
    exact ⟨hE, fun b e' h => by
      obtain ⟨a, h1, h2⟩ := testOk h
      exact fallT (fun _ => rfl) (hE a e' h1) h2⟩
  | .str c, fl, X, x, C, hm, Θ, G, H, e, σ, s => by
    obtain ⟨k, pos, rfl⟩ := m_str hm
    have hE : ∀ av e', evE T.gc (run T.gc code n) (.str c) e = .ok av e' → wE X (.Constant (.str c) k pos) σ H (QE X.K Θ G H σ av e') := fun av e' h => by
      cases h
      exact wE.by pe_str (QE.dat Stp.refl s (.str _))
    exact ⟨hE, fun b e' h => by
      obtain ⟨a, h1, h2⟩ := testOk h
      exact fallT (fun _ => rfl) (hE a e' h1) h2⟩
  | .v i, fl, X, x, C, hm, Θ, G, H, e, σ, s => by
    obtain ⟨y, pos, rfl, m1, m2, m3⟩ := m_v hm
    have hE : ∀ av e', evE T.gc (run T.gc code n) (.v i) e = .ok av e' → wE X (.Name y pos) σ H (QE X.K Θ G H σ av e') := fun av e' h => by
      have h : (match (e[i]?).join with | some _ => R.ok (AV.pl i) e | none => .bad) = .ok av e' := h
      split at h
      · rename_i o q
        cases h
        obtain ⟨v, k1, k2, k3⟩ := s.sl i o q
        obtain ⟨p1, p2, _⟩ := plain_of m3
        exact wE.by (pe_var (slot_of m1) (vis_of m2) p1 p2) ⟨v, k1, G, Stp.refl, s, k1⟩
      · cases h
    exact ⟨hE, fun b e' h => by
      obtain ⟨a, h1, h2⟩ := testOk h
      exact fallT (fun _ => rfl) (hE a e' h1) h2⟩
  | .gl k, fl, X, x, C, hm, Θ, G, H, e, σ, s => by
    obtain ⟨y, pos, d, rfl, m1, m2, m3⟩ := m_gl hm
    have hE : ∀ av e', evE T.gc (run T.gc code n) (.gl k) e = .ok av e' → wE X (.Name y pos) σ H (QE X.K Θ G H σ av e') := fun av e' h => by
      have h : (match T.gc[k]? with | some p => R.ok (AV.tm (.d p.2)) e | none => .bad) = .ok av e' := h
      rw [m1] at h
      cases h
      obtain ⟨u, v, g1, g2, g3⟩ := C.pg.gc k _ m1
      exact wE.by (pe_glob (gl_of m2) g1 g2 (plain_of m3).1) (QE.dat Stp.refl s (g3 G))
    exact ⟨hE, fun b e' h => by
      obtain ⟨a, h1, h2⟩ := testOk h
      exact fallT (fun _ => rfl) (hE a e' h1) h2⟩
  | .bin o a c, fl, X, x, C, hm, Θ, G, H, e, σ, s => by
    obtain ⟨l, op, r, pos, rfl, hb, m1, m2⟩ := m_bin hm
    have hE : ∀ av e', evE T.gc (run T.gc code n) (.bin o a c) e = .ok av e' → wE X (.BinOp l op r pos) σ H (QE X.K Θ G H σ av e') := fun av e' h => by
      obtain ⟨x1, e1, h1, h⟩ := bindOk h
      obtain ⟨y1, e2, h2, h⟩ := bindOk h
      obtain ⟨p, q, hp, hq, h⟩ := twoOk h
      obtain ⟨z, h3, rfl, rfl⟩ := retOk h
      refine wE.by (pe_op opr_w pe_w pe_w) ?_
      refine ((sE a C m1 s).1 x1 e1 h1).mono fun v1 H1 z1 => ?_
      obtain ⟨G1, st1, s1, k1⟩ := z1
      refine ((sE c C m2 s1).1 y1 _ h2).mono fun v2 H2 z2 => ?_
      obtain ⟨G2, st2, s2, k2⟩ := z2
      exact bin_rd (st1.trans st2) s2 (k1.mono st2) (k2.old fun _ z => st1.back s1 z) hp hq hb h3
    exact ⟨hE, fun b e' h => by
      obtain ⟨a, h1, h2⟩ := testOk h
      exact fallT (fun _ => rfl) (hE a e' h1) h2⟩
  | .neg a, fl, X, x, C, hm, Θ, G, H, e, σ, s => by
    obtain ⟨l, pos, rfl, m1⟩ := m_neg hm
    have hE : ∀ av e', evE T.gc (run T.gc code n) (.neg a) e = .ok av e' → wE X (.UnaryOp .USub l pos) σ H (QE X.K Θ G H σ av e') := fun av e' h => by
      obtain ⟨x1, e1, h1, h⟩ := bindOk h
      split at h
      · rename_i i hp
        cases h
        refine wE.by (pe_un un_neg pe_w) ?_
        refine ((sE a C m1 s).1 x1 _ h1).mono fun v1 H1 z1 => ?_
        obtain ⟨G1, st1, s1, k1⟩ := z1
        exact ⟨i, rp_int (k1.rp s1 hp), QE.dat st1 s1 (.int _)⟩
      · cases h
    exact ⟨hE, fun b e' h => by
      obtain ⟨a, h1, h2⟩ := testOk h
      exact fallT (fun _ => rfl) (hE a e' h1) h2⟩
  | .cmp o a c, fl, X, x, C, hm, Θ, G, H, e, σ, s => by
    obtain ⟨l, op, r, pos, rfl, hb, m1, m2⟩ := m_cmp hm
    have key : ∀ av e', evE T.gc (run T.gc code n) (.cmp o a c) e = .ok av e' → c ≠ .bad ∧ (∃ z, av = .tm (.d (.bool z))) ∧ ∀ Q : VK, (∀ v H', QE X.K Θ G H σ av e' v H' → Q v H') → tOp (rW X (compareOp op)) (wE X l) (wE X r) σ H Q := fun av e' h => by
      obtain ⟨x1, e1, h1, h⟩ := bindOk h
      obtain ⟨y1, e2, h2, h⟩ := bindOk h
      obtain ⟨p, q, hp, hq, h⟩ := twoOk h
      obtain ⟨z, h3, rfl, rfl⟩ := retOk h
      refine ⟨nobad h2, ⟨z, rfl⟩, fun Q hQ => ?_⟩
      refine ((sE a C m1 s).1 x1 e1 h1).mono fun v1 H1 z1 => ?_
      obtain ⟨G1, st1, s1, k1⟩ := z1
      refine ((sE c C m2 s1).1 y1 _ h2).mono fun v2 H2 z2 => ?_
      obtain ⟨G2, st2, s2, k2⟩ := z2
      exact (cmp_rd C.u (st1.trans st2) s2 (k1.mono st2) (k2.old fun _ z => st1.back s1 z) hp hq hb h3).mono hQ
    refine ⟨fun av e' h => ?_, fun b e' h => ?_⟩
    · obtain ⟨n1, _, k⟩ := key av e' h
      exact wE.by (pe_cmpR opr_w pe_w pe_w (nomark' op m2 n1)) (k _ fun _ _ z => z)
    · obtain ⟨a, h1, h2⟩ := testOk h
      obtain ⟨n1, ⟨z, rfl⟩, k⟩ := key a e' h1
      have hz : z = b := by injection h2 with h2; injection h2
      subst hz
      exact wT.by (pt_cmpR opr_w pe_w pe_w (nomark' op m2 n1)) (k _ fun _ _ q => ⟨z, q.bool.1, q.bool.2⟩)
  | .chn o o' a c c3, fl, X, x, C, hm, Θ, G, H, e, σ, s => by
    obtain ⟨l, op, op', m, r, pos, rfl, hb, hb', m1, m2, nb3, m3⟩ := m_chn hm
    have key : ∀ av e', evE T.gc (run T.gc code n) (.chn o o' a c c3) e = .ok av e' → (∃ z, av = .tm (.d (.bool z))) ∧ ∀ Q : VK, (∀ v H', QE X.K Θ G H σ av e' v H' → Q v H') → tChain (rW X (compareOp op)) (rW X (compareOp op')) (wE X l) (wE X m) (wE X r) σ H Q := fun av e' h => by
      obtain ⟨x1, e1, h1, h⟩ := bindOk h
      obtain ⟨y1, e2, h2, h⟩ := bindOk h
      obtain ⟨p, q, hp, hq, h⟩ := twoOk h
      obtain ⟨z, h3, hz⟩ := ofOk' h
      cases z with
      | false =>
        have hz : R.ok (AV.tm (.d (.bool false))) e2 = .ok av e' := hz
        cases hz
        refine ⟨⟨false, rfl⟩, fun Q hQ => ?_⟩
        refine ((sE a C m1 s).1 x1 e1 h1).mono fun v1 H1 z1 => ?_
        obtain ⟨G1, st1, s1, k1⟩ := z1
        refine ((sE c C m2 s1).1 y1 _ h2).mono fun v2 H2 z2 => ?_
        obtain ⟨G2, st2, s2, k2⟩ := z2
        refine (cmp_rd C.u (st1.trans st2) s2 (k1.mono st2) (k2.old fun _ z => st1.back s1 z) hp hq hb h3).mono fun w H3 z3 => ?_
        refine ⟨false, z3.bool.1, ?_⟩
        show Q (.bl false) H3
        have hw := z3.bool.1
        subst hw
        exact hQ _ _ z3
      | true =>
        have hz : ((evE T.gc (run T.gc code n) c3 e2).bind fun z e => match y1.dat e, z.dat e with
          | some q, some u => (R.of (cmpD o' q u) e).bind fun r e => .ok (.tm (.d (.bool r))) e
          | _, _ => .bad) = .ok av e' := hz
        obtain ⟨z1, e4, h4, hz⟩ := bindOk hz
        obtain ⟨q', u, hq', hu, hz⟩ := twoOk hz
        obtain ⟨r2, h5, rfl, rfl⟩ := retOk hz
        refine ⟨⟨r2, rfl⟩, fun Q hQ => ?_⟩
        refine ((sE a C m1 s).1 x1 e1 h1).mono fun v1 H1 z1 => ?_
        obtain ⟨G1, st1, s1, k1⟩ := z1
        refine ((sE c C m2 s1).1 y1 _ h2).mono fun v2 H2 z2 => ?_
        obtain ⟨G2, st2, s2, k2⟩ := z2
        have k2' := k2.old (H0 := H) fun _ z => st1.back s1 z
        have k1' := k1.mono st2
        refine (cmp_rd (Hk := H) C.u (Stp.refl (Θ := Θ) (G := G2) (H := H2)) s2 k1' k2' hp hq hb h3).mono fun w H3 z3 => ?_
        refine ⟨true, z3.bool.1, ?_⟩
        obtain ⟨G3, st3, s3, _⟩ := z3
        show wE X r σ H3 _
        refine ((sE c3 C m3 s3).1 _ _ h4).mono fun v4 H4 z4 => ?_
        obtain ⟨G4, st4, s4, k4⟩ := z4
        have stA := (st1.trans st2).trans st3
        exact (cmp_rd (Hk := H) C.u (stA.trans st4) s4 ((k2'.mono st3).mono st4) (k4.old fun _ z => stA.back s3 z) hq' hu hb' h5).mono hQ
    refine ⟨fun av e' h => ?_, fun b e' h => ?_⟩
    · obtain ⟨_, k⟩ := key av e' h
      exact wE.by (pe_chain opr_w opr_w pe_w pe_w pe_w (lastM m3 nb3)) (k _ fun _ _ z => z)
    · obtain ⟨a, h1, h2⟩ := testOk h
      obtain ⟨⟨z, rfl⟩, k⟩ := key a e' h1
      have hz : z = b := by injection h2 with h2; injection h2
      subst hz
      exact wT.by (pt_chain opr_w opr_w pe_w pe_w pe_w (lastM m3 nb3)) (k _ fun _ _ q => ⟨z, q.bool.1, q.bool.2⟩)
  | .isN a, fl, X, x, C, hm, Θ, G, H, e, σ, s => by
    obtain ⟨l, k0, p0, pos, rfl, m1⟩ := m_isN hm
    have key : ∀ av e', evE T.gc (run T.gc code n) (.isN a) e = .ok av e' → ∃ z, av = .tm (.d (.bool z)) ∧ ∀ Q : VK, (∀ v H', QE X.K Θ G H σ av e' v H' → Q v H') → tIsN (wE X l) σ H Q := fun av e' h => by
      obtain ⟨x1, e1, h1, h⟩ := bindOk h
      obtain ⟨p, hp, h⟩ := oneOk h
      cases h
      refine ⟨_, rfl, fun Q hQ => ?_⟩
      refine ((sE a C m1 s).1 x1 _ h1).mono fun v1 H1 z1 => ?_
      obtain ⟨G1, st1, s1, k1⟩ := z1
      rw [isnone_v (k1.rp s1 hp)]
      exact hQ _ _ (QE.dat st1 s1 (.bl _))
    refine ⟨fun av e' h => ?_, fun b e' h => ?_⟩
    · obtain ⟨z, _, k⟩ := key av e' h
      exact wE.by (pe_cmp (pc_isN pe_w)) (k _ fun _ _ z => z)
    · obtain ⟨a, h1, h2⟩ := testOk h
      obtain ⟨z, rfl, k⟩ := key a e' h1
      have hz : z = b := by injection h2 with h2; injection h2
      subst hz
      exact wT.by (pt_cmp (pc_isN pe_w)) (k _ fun _ _ q => ⟨z, q.bool.1, q.bool.2⟩)
  | .notN a, fl, X, x, C, hm, Θ, G, H, e, σ, s => by
    obtain ⟨l, k0, p0, pos, rfl, m1⟩ := m_notN hm
    have key : ∀ av e', evE T.gc (run T.gc code n) (.notN a) e = .ok av e' → ∃ z, av = .tm (.d (.bool z)) ∧ ∀ Q : VK, (∀ v H', QE X.K Θ G H σ av e' v H' → Q v H') → tNotN (wE X l) σ H Q := fun av e' h => by
      obtain ⟨x1, e1, h1, h⟩ := bindOk h
      obtain ⟨p, hp, h⟩ := oneOk h
      cases h
      refine ⟨_, rfl, fun Q hQ => ?_⟩
      refine ((sE a C m1 s).1 x1 _ h1).mono fun v1 H1 z1 => ?_
      obtain ⟨G1, st1, s1, k1⟩ := z1
      rw [isnone_v (k1.rp s1 hp)]
      exact hQ _ _ (QE.dat st1 s1 (.bl _))
    refine ⟨fun av e' h => ?_, fun b e' h => ?_⟩
    · obtain ⟨z, _, k⟩ := key av e' h
      exact wE.by (pe_cmp (pc_notN pe_w)) (k _ fun _ _ z => z)
    · obtain ⟨a, h1, h2⟩ := testOk h
      obtain ⟨z, rfl, k⟩ := key a e' h1
      have hz : z = b := by injection h2 with h2; injection h2
      subst hz
      exact wT.by (pt_cmp (pc_notN pe_w)) (k _ fun _ _ q => ⟨z, q.bool.1, q.bool.2⟩)
  | .isB a bb, fl, X, x, C, hm, Θ, G, H, e, σ, s => by
    obtain ⟨l, k0, p0, pos, rfl, m1⟩ := m_isB hm
    have key : ∀ av e', evE T.gc (run T.gc code n) (.isB a bb) e = .ok av e' → ∃ z, av = .tm (.d (.bool z)) ∧ ∀ Q : VK, (∀ v H', QE X.K Θ G H σ av e' v H' → Q v H') → tOp (rIsBl bb) (wE X l) (tC (.bl bb)) σ H Q := fun av e' h => by
      obtain ⟨x1, e1, h1, h⟩ := bindOk h
      obtain ⟨p, hp, h⟩ := oneOk h
      cases h
      refine ⟨_, rfl, fun Q hQ => ?_⟩
      refine ((sE a C m1 s).1 x1 _ h1).mono fun v1 H1 z1 => ?_
      obtain ⟨G1, st1, s1, k1⟩ := z1
      refine ⟨rfl, ?_⟩
      rw [isbool_v (k1.rp s1 hp)]
      exact hQ _ _ (QE.dat st1 s1 (.bl _))
    refine ⟨fun av e' h => ?_, fun b e' h => ?_⟩
    · obtain ⟨z, _, k⟩ := key av e' h
      exact wE.by (pe_cmpR op_isBv pe_w pe_bl (nomark _)) (k _ fun _ _ z => z)
    · obtain ⟨a, h1, h2⟩ := testOk h
      obtain ⟨z, rfl, k⟩ := key a e' h1
      have hz : z = b := by injection h2 with h2; injection h2
      subst hz
      exact wT.by (pt_cmpR op_isBv pe_w pe_bl (nomark _)) (k _ fun _ _ q => ⟨z, q.bool.1, q.bool.2⟩)
  | .and a c, fl, X, x, C, hm, Θ, G, H, e, σ, s => by
    obtain ⟨p0, y0, r0, pos, rfl, m1, m2⟩ := m_and hm
    refine ⟨fun av e' h => ?_, fun b e' h => ?_⟩
    · obtain ⟨k, e1, x1, h1, hd, h2⟩ := testOf h
      refine wE.by (pe_and pe_w pe_tail) ?_
      refine ((sE a C m1 s).1 x1 e1 h1).mono fun v1 H1 z1 => ?_
      obtain ⟨G1, st1, s1, k1⟩ := z1
      refine ⟨k, rp_bl (k1.rp s1 hd), ?_⟩
      cases k with
      | true =>
        have h2 : evE T.gc (run T.gc code n) c e1 = .ok av e' := h2
        exact iteT (((sE c C m2 s1).1 av e' h2).mono fun v2 H2 z2 => QE.trans st1 s1 z2)
      | false =>
        have h2 : R.ok (AV.tm (.d (.bool false))) e1 = .ok av e' := h2
        cases h2
        exact iteF (QE.dat st1 s1 (.bl _))
    · obtain ⟨av, hv, hb⟩ := testOk h
      obtain ⟨k, e1, x1, h1, hd, h2⟩ := testOf hv
      refine wT.by (PW.pt (pw_and pt_w pw_tailA)) ?_
      refine ((sE a C m1 s).2 k e1 (testMk h1 hd)).mono fun v1 H1 z1 => ?_
      obtain ⟨rfl, G1, st1, s1⟩ := z1
      cases v1 with
      | true =>
        have h2 : evE T.gc (run T.gc code n) c e1 = .ok av e' := h2
        exact iteT (((sE c C m2 s1).2 b e' (testMk h2 hb)).mono fun v2 H2 z2 => QT.trans st1 z2)
      | false =>
        have h2 : R.ok (AV.tm (.d (.bool false))) e1 = .ok av e' := h2
        cases h2
        have hz : false = b := by injection hb with hb; injection hb
        subst hz
        exact iteF ⟨rfl, G1, st1, s1⟩
  | .or a c, fl, X, x, C, hm, Θ, G, H, e, σ, s => by
    obtain ⟨p0, y0, r0, pos, rfl, m1, m2⟩ := m_or hm
    refine ⟨fun av e' h => ?_, fun b e' h => ?_⟩
    · obtain ⟨k, e1, x1, h1, hd, h2⟩ := testOf h
      refine wE.by (pe_or pe_w pe_tail) ?_
      refine ((sE a C m1 s).1 x1 e1 h1).mono fun v1 H1 z1 => ?_
      obtain ⟨G1, st1, s1, k1⟩ := z1
      refine ⟨k, rp_bl (k1.rp s1 hd), ?_⟩
      cases k with
      | false =>
        have h2 : evE T.gc (run T.gc code n) c e1 = .ok av e' := h2
        exact iteF (((sE c C m2 s1).1 av e' h2).mono fun v2 H2 z2 => QE.trans st1 s1 z2)
      | true =>
        have h2 : R.ok (AV.tm (.d (.bool true))) e1 = .ok av e' := h2
        cases h2
        exact iteT (QE.dat st1 s1 (.bl _))
    · obtain ⟨av, hv, hb⟩ := testOk h
      obtain ⟨k, e1, x1, h1, hd, h2⟩ := testOf hv
      refine wT.by (PW.pt (pw_or pt_w pw_tailO)) ?_
      refine ((sE a C m1 s).2 k e1 (testMk h1 hd)).mono fun v1 H1 z1 => ?_
      obtain ⟨rfl, G1, st1, s1⟩ := z1
      cases v1 with
      | false =>
        have h2 : evE T.gc (run T.gc code n) c e1 = .ok av e' := h2
        exact iteF (((sE c C m2 s1).2 b e' (testMk h2 hb)).mono fun v2 H2 z2 => QT.trans st1 z2)
      | true =>
        have h2 : R.ok (AV.tm (.d (.bool true))) e1 = .ok av e' := h2
        cases h2
        have hz : true = b := by injection hb with hb; injection hb
        subst hz
        exact iteT ⟨rfl, G1, st1, s1⟩
  | .not a, fl, X, x, C, hm, Θ, G, H, e, σ, s => by
    obtain ⟨l, pos, rfl, m1⟩ := m_not hm
    refine ⟨fun av e' h => ?_, fun b e' h => ?_⟩
    · obtain ⟨k, e1, x1, h1, hd, h2⟩ := testOf h
      cases h2
      refine wE.by (pe_not pe_w) ?_
      refine ((sE a C m1 s).1 x1 _ h1).mono fun v1 H1 z1 => ?_
      obtain ⟨G1, st1, s1, k1⟩ := z1
      exact ⟨k, rp_bl (k1.rp s1 hd), QE.dat st1 s1 (.bl _)⟩
    · obtain ⟨av, hv, hb⟩ := testOk h
      obtain ⟨k, e1, x1, h1, hd, h2⟩ := testOf hv
      cases h2
      have hz : (!k) = b := by injection hb with hb; injection hb
      subst hz
      refine wT.by (pt_not pt_w) ?_
      refine ((sE a C m1 s).2 k _ (testMk h1 hd)).mono fun v1 H1 z1 => ?_
      obtain ⟨rfl, G1, st1, s1⟩ := z1
      exact ⟨rfl, G1, st1, s1⟩
  | .ifx t a c, fl, X, x, C, hm, Θ, G, H, e, σ, s => by
    obtain ⟨t', a', b', pos, rfl, m0, m1, m2⟩ := m_ifx hm
    refine ⟨fun av e' h => ?_, fun b e' h => ?_⟩
    · obtain ⟨k, e1, x1, h1, hd, h2⟩ := testOf h
      refine wE.by (pe_ifExp pt_w pe_w pe_w) ?_
      refine ((sE t C m0 s).2 k e1 (testMk h1 hd)).mono fun v1 H1 z1 => ?_
      obtain ⟨rfl, G1, st1, s1⟩ := z1
      cases v1 with
      | true =>
        have h2 : evE T.gc (run T.gc code n) a e1 = .ok av e' := h2
        exact iteT (((sE a C m1 s1).1 av e' h2).mono fun v2 H2 z2 => QE.trans st1 s1 z2)
      | false =>
        have h2 : evE T.gc (run T.gc code n) c e1 = .ok av e' := h2
        exact iteF (((sE c C m2 s1).1 av e' h2).mono fun v2 H2 z2 => QE.trans st1 s1 z2)
    · obtain ⟨av, hv, hb⟩ := testOk h
      obtain ⟨k, e1, x1, h1, hd, h2⟩ := testOf hv
      refine wT.by (pt_ifx pt_w pt_w pt_w) ?_
      refine ((sE t C m0 s).2 k e1 (testMk h1 hd)).mono fun v1 H1 z1 => ?_
      obtain ⟨rfl, G1, st1, s1⟩ := z1
      cases v1 with
      | true =>
        have h2 : evE T.gc (run T.gc code n) a e1 = .ok av e' := h2
        exact iteT (((sE a C m1 s1).2 b e' (testMk h2 hb)).mono fun v2 H2 z2 => QT.trans st1 z2)
      | false =>
        have h2 : evE T.gc (run T.gc code n) c e1 = .ok av e' := h2
        exact iteF (((sE c C m2 s1).2 b e' (testMk h2 hb)).mono fun v2 H2 z2 => QT.trans st1 z2)
  | .tup es, fl, X, x, C, hm, Θ, G, H, e, σ, s => by
    obtain ⟨xs, k0, pos, rfl, hl, m1⟩ := m_tup hm
    have hE : ∀ av e', evE T.gc (run T.gc code n) (.tup es) e = .ok av e' → wE X (.Tuple xs k0 pos) σ H (QE X.K Θ G H σ av e') := fun av e' h => by
      obtain ⟨avs, e1, h1, h⟩ := bindOk h
      cases q : takes avs e1 with
      | none =>
        rw [q] at h
        cases h
      | some p =>
        obtain ⟨ds, e2⟩ := p
        rw [q] at h
        cases h
        refine wE.by (pe_tup pa_t) ?_
        refine (sEs es C m1 s avs e1 h1).mono fun vs H1 z1 => ?_
        obtain ⟨G1, st1, s1, P, dd⟩ := z1
        obtain ⟨G2, f2, s2, r2⟩ := takes_ok s1 P dd q
        refine ⟨small_le (by rw [← P.length, lenEs m1 h1]; exact hl), fun p hp => ?_⟩
        exact QE.tup (f2.stp st1 fun a ha => (tads_at P a ha).2.1) s2 r2 hp
    exact ⟨hE, fun b e' h => by
      obtain ⟨a, h1, h2⟩ := testOk h
      exact fallT (fun _ => rfl) (hE a e' h1) h2⟩
  | .lst es, fl, X, x, C, hm, Θ, G, H, e, σ, s => by
    obtain ⟨xs, pos, rfl, hl, m1⟩ := m_lst hm
    have hE : ∀ av e', evE T.gc (run T.gc code n) (.lst es) e = .ok av e' → wE X (.List xs pos) σ H (QE X.K Θ G H σ av e') := fun av e' h => by
      obtain ⟨avs, e1, h1, h⟩ := bindOk h
      cases q : takes avs e1 with
      | none =>
        rw [q] at h
        cases h
      | some p =>
        obtain ⟨ds, e2⟩ := p
        rw [q] at h
        cases h
        refine wE.by (pe_lst pa_t) ?_
        refine (sEs es C m1 s avs e1 h1).mono fun vs H1 z1 => ?_
        obtain ⟨G1, st1, s1, P, dd⟩ := z1
        obtain ⟨G2, f2, s2, r2⟩ := takes_ok s1 P dd q
        refine ⟨small_le (by rw [← P.length, lenEs m1 h1]; exact hl), fun p hp => ?_⟩
        exact QE.lst (f2.stp st1 fun a ha => (tads_at P a ha).2.1) s2 r2 hp
    exact ⟨hE, fun b e' h => by
      obtain ⟨a, h1, h2⟩ := testOk h
      exact fallT (fun _ => rfl) (hE a e' h1) h2⟩
  | .ix a c, fl, X, x, C, hm, Θ, G, H, e, σ, s => by
    obtain ⟨l, r, pos, rfl, m1, m2⟩ := m_ix hm
    have hE : ∀ av e', evE T.gc (run T.gc code n) (.ix a c) e = .ok av e' → wE X (.Subscript l r pos) σ H (QE X.K Θ G H σ av e') := fun av e' h => by
      obtain ⟨x1, e1, h1, h⟩ := bindOk h
      obtain ⟨y1, e2, h2, h⟩ := bindOk h
      obtain ⟨p, q, hp, hq, h⟩ := twoOk h
      obtain ⟨z, h3, rfl, rfl⟩ := retOk h
      refine wE.by (pe_ix ix_seq pe_w pe_w (noslice m2 (nobad h2))) ?_
      refine ((sE a C m1 s).1 x1 e1 h1).mono fun v1 H1 z1 => ?_
      obtain ⟨G1, st1, s1, k1⟩ := z1
      refine ((sE c C m2 s1).1 y1 _ h2).mono fun v2 H2 z2 => ?_
      obtain ⟨G2, st2, s2, k2⟩ := z2
      have k1' := k1.mono st2
      have st := st1.trans st2
      cases p <;> try (exact noO h3)
      · cases q <;> try (exact noO h3)
        rename_i xx ii
        have e2 := rp_str (k1'.rp s2 hp)
        have e3 := rp_int (k2.rp s2 hq)
        subst e2 e3
        have h3 : (if xx.length ≤ sizeLine then (atI xx.cps.toList ii).map fun c => PyData.str ⟨#[c]⟩ else none) = some z := h3
        by_cases hz : xx.length ≤ sizeLine
        · rw [if_pos hz] at h3
          cases w2 : atI xx.cps.toList ii with
          | none =>
            rw [w2] at h3
            cases h3
          | some ch =>
            rw [w2] at h3
            cases h3
            exact .inr (.inr ⟨_, _, ch, rfl, rfl, hz, w2, QE.dat st s2 (.str _)⟩)
        · rw [if_neg hz] at h3
          cases h3
      · cases q <;> try (exact noO h3)
        obtain ⟨a1, vs, rfl, l1, l2⟩ := k1'.lst s2 hp
        have e3 := rp_int (k2.rp s2 hq)
        subst e3
        obtain ⟨v, w1, w2⟩ := atI_rp l2 h3
        exact .inl ⟨a1, vs, _, v, rfl, rfl, l1, w1, QE.dat st s2 w2⟩
      · cases q <;> try (exact noO h3)
        obtain ⟨a1, vs, rfl, l1, l2⟩ := k1'.tup s2 hp
        have e3 := rp_int (k2.rp s2 hq)
        subst e3
        obtain ⟨v, w1, w2⟩ := atI_rp l2 h3
        exact .inr (.inl ⟨a1, vs, _, v, rfl, rfl, Z.Same.sqt s2.gh l1, w1, QE.dat st s2 w2⟩)
    exact ⟨hE, fun b e' h => by
      obtain ⟨a, h1, h2⟩ := testOk h
      exact fallT (fun _ => rfl) (hE a e' h1) h2⟩
  | .sl a lo hi, fl, X, x, C, hm, Θ, G, H, e, σ, s => by
    obtain ⟨l, lo', hi', p0, pos, rfl, m1, m2, m3⟩ := m_sl hm
    have hE : ∀ av e', evE T.gc (run T.gc code n) (.sl a lo hi) e = .ok av e' → wE X (.Subscript l (.Slice lo' hi' none p0) pos) σ H (QE X.K Θ G H σ av e') := fun av e' h => by
      obtain ⟨x1, e1, h1, h⟩ := bindOk h
      obtain ⟨o1, e2, h2, h⟩ := bindOk h
      obtain ⟨o2, e3, h3, h⟩ := bindOk h
      obtain ⟨p, hp, h⟩ := oneOk h
      obtain ⟨z, h4, rfl, rfl⟩ := retOk h
      obtain ⟨t1, p1, k1⟩ := sP lo C m2
      obtain ⟨t2, p2, k2⟩ := sP hi C m3
      refine wE.by (pe_slice (SlR.or sl_list sl_str) pe_w p1 p2) ?_
      refine ((sE a C m1 s).1 x1 e1 h1).mono fun v1 H1 z1 => ?_
      obtain ⟨G1, st1, s1, r1⟩ := z1
      refine k1 _ _ _ _ _ s1 h2 _ fun H2 G2 st2 s2 => ?_
      refine k2 _ _ _ _ _ s2 h3 _ fun H3 G3 st3 s3 => ?_
      have r3 := (r1.mono st2).mono st3
      have st := (st1.trans st2).trans st3
      cases p <;> try (exact noO h4)
      · rename_i xx
        have ev := rp_str (r3.rp s3 hp)
        subst ev
        have h4 : (if xx.length ≤ sizeLine then some (O.d (.str (cutS xx o1 o2))) else none) = some z := h4
        by_cases hz : xx.length ≤ sizeLine
        · rw [if_pos hz] at h4
          cases h4
          exact .inr ⟨_, rfl, hz, QE.dat st s3 (.str _)⟩
        · rw [if_neg hz] at h4
          cases h4
      · obtain ⟨a1, vs, rfl, l1, l2⟩ := r3.lst s3 hp
        cases h4
        exact .inl ⟨a1, vs, rfl, l1, fun q hq => QE.lst st s3 (cut_rp l2 o1 o2) hq⟩
    exact ⟨hE, fun b e' h => by
      obtain ⟨a, h1, h2⟩ := testOk h
      exact fallT (fun _ => rfl) (hE a e' h1) h2⟩
  | .call f es, fl, X, x, C, hm, Θ, G, H, e, σ, s => by
    obtain ⟨y, p0, xs, pos, rfl, m1, m2, m3, m4⟩ := m_call hm
    have hE : ∀ av e', evE T.gc (run T.gc code n) (.call f es) e = .ok av e' → wE X (.Call (.Name y p0) xs [] pos) σ H (QE X.K Θ G H σ av e') := fun av e' h => by
      obtain ⟨avs, e1, h1, h⟩ := bindOk h
      cases q : argOs avs e1 with
      | none =>
        rw [q] at h
        cases h
      | some os =>
        rw [q] at h
        obtain ⟨r, h2, rfl, rfl⟩ := retOk2 (f := fun r : O × List O => AV.tm r.1) (g := fun r => putOs avs os r.2 e1) (callOk h)
        refine wE.by (pe_callG C m1 (gl_of m2) (plain_of m3).1 ?_) ?_
        · rintro y1 ys rfl
          cases es with
          | nil => exact no m4
          | cons a es =>
            obtain ⟨y2, ys2, ee, w1, w2⟩ := ms_cons m4
            cases ee
            obtain ⟨x1, e2, u1, u2⟩ := bindOk h1
            obtain ⟨zs, e3, u3, u4⟩ := bindOk u2
            exact ⟨nostar w1 (nobad u1) _ _, fun pos => nostars w2 u3⟩
        refine (sEs es C m4 s avs e1 h1).mono fun vs H1 z1 => ?_
        obtain ⟨G1, st1, s1, P, dd⟩ := z1
        obtain ⟨G2, g2, n2, s2, A, own, _⟩ := args_ok s1 P dd q
        have st2 : Stp Θ G H Θ G2 H1 := Frz.stp ⟨g2, fun a h => .inl (n2 a h)⟩ st1 fun a ha => (tads_at P a ha).2.1
        refine ⟨G2, os, r.1, r.2, A, h2, fun v G' H' B => ?_⟩
        obtain ⟨st3, s3, k3⟩ := ret_ok s2 A own (argL_len (argOs_l q)) B
        exact ⟨G', st2.trans st3, s3, k3.old fun _ z => st2.back s2 z⟩
    exact ⟨hE, fun b e' h => by
      obtain ⟨a, h1, h2⟩ := testOk h
      exact fallT (fun _ => rfl) (hE a e' h1) h2⟩
  | .bi o a, fl, X, x, C, hm, Θ, G, H, e, σ, s => by
    obtain ⟨p0, y, pos, rfl, m1, m2⟩ := m_bi hm
    have hE : ∀ av e', evE T.gc (run T.gc code n) (.bi o a) e = .ok av e' → wE X (.Call (.Name (biN o) p0) [y] [] pos) σ H (QE X.K Θ G H σ av e') := fun av e' h => by
      obtain ⟨x1, e1, h1, h⟩ := bindOk h
      obtain ⟨p, hp, h⟩ := oneOk h
      obtain ⟨z, h4, rfl, rfl⟩ := retOk h
      refine wE.by (pe_bi (gl_of m1) (mg_bi C (biN_mem o)) (nostar m2 (nobad h1) _ _)) ?_
      refine ((sE a C m2 s).1 x1 _ h1).mono fun v1 H1 z1 => ?_
      obtain ⟨G1, st1, s1, k1⟩ := z1
      exact bi_rd C.gd C.u C.calm st1 s1 k1 hp h4
    exact ⟨hE, fun b e' h => by
      obtain ⟨a, h1, h2⟩ := testOk h
      exact fallT (fun _ => rfl) (hE a e' h1) h2⟩
  | .isi a t, fl, X, x, C, hm, Θ, G, H, e, σ, s => by
    obtain ⟨p0, y, q0, pos, rfl, m1, m2, m3⟩ := m_isi hm
    have hE : ∀ av e', evE T.gc (run T.gc code n) (.isi a t) e = .ok av e' → wE X (.Call (.Name ("isinstance" : Str) p0) [y, .Name (tyN t) q0] [] pos) σ H (QE X.K Θ G H σ av e') := fun av e' h => by
      obtain ⟨x1, e1, h1, h⟩ := bindOk h
      obtain ⟨p, hp, h⟩ := oneOk h
      cases h
      refine wE.by (pe_isi (gl_of m1) (mg_bi C (by decide +kernel)) (gl_of m2) (mg_bi C (tyN_mem t)) (nostar m3 (nobad h1) _ _)) ?_
      refine ((sE a C m3 s).1 x1 _ h1).mono fun v1 H1 z1 => ?_
      obtain ⟨G1, st1, s1, k1⟩ := z1
      exact isi_rd st1 s1 k1 hp
    exact ⟨hE, fun b e' h => by
      obtain ⟨a, h1, h2⟩ := testOk h
      exact fallT (fun _ => rfl) (hE a e' h1) h2⟩
  | .lr1 a, fl, X, x, C, hm, Θ, G, H, e, σ, s => by
    obtain ⟨p0, q0, z, p1, pos, rfl, m1, m2, m3⟩ := m_lr1 hm
    have hE : ∀ av e', evE T.gc (run T.gc code n) (.lr1 a) e = .ok av e' → wE X (.Call (.Name ("list" : Str) p0) [.Call (.Name ("range" : Str) q0) [z] [] p1] [] pos) σ H (QE X.K Θ G H σ av e') := fun av e' h => by
      obtain ⟨x1, e1, h1, h⟩ := bindOk h
      split at h
      · rename_i i hp
        split at h
        · rename_i hb
          cases h
          refine wE.by (pe_listRg C.calm (gl_of m1) (mg_bi C (by decide +kernel)) (prg_1 (gl_of m2) (mg_bi C (by decide +kernel)) pe_w (nostar m3 (nobad h1) _ _))) ?_
          refine ((sE a C m3 s).1 x1 _ h1).mono fun v1 H1 z1 => ?_
          obtain ⟨G1, st1, s1, k1⟩ := z1
          rw [sizeLine_eq] at hb
          refine ⟨i, rp_int (k1.rp s1 hp), ⟨by omega, by omega, hb.2, by omega, by omega⟩, fun q hq => ?_⟩
          exact QE.lst st1 s1 (rgV_rp i) hq
        · cases h
      · cases h
    exact ⟨hE, fun b e' h => by
      obtain ⟨a, h1, h2⟩ := testOk h
      exact fallT (fun _ => rfl) (hE a e' h1) h2⟩
  | .me m a b, fl, X, x, C, hm, Θ, G, H, e, σ, s => by
    obtain ⟨o, ap, y, cp, rfl, m1, m2, m3, m4⟩ := m_me hm
    have hE : ∀ av e', evE T.gc (run T.gc code n) (.me m a b) e = .ok av e' → wE X (.Call (.Attribute o (meN m) ap) [y] [] cp) σ H (QE X.K Θ G H σ av e') := fun av e' h => by
      obtain ⟨x1, e1, h1, h⟩ := bindOk h
      split at h
      · rename_i t hp
        obtain ⟨y1, e2, h2, h⟩ := bindOk h
        obtain ⟨q, hq, h⟩ := oneOk h
        obtain ⟨z, h3, rfl, rfl⟩ := retOk h
        have hr : m ≠ .replace := by
          rintro rfl
          exact noO h3
        refine wE.by (pe_me m2 m1 (nostar m4 (nobad h2) _ _) hr) ?_
        refine ((sE a C m3 s).1 x1 e1 h1).mono fun v1 H1 z1 => ?_
        obtain ⟨G1, st1, s1, k1⟩ := z1
        have e3 := rp_str (k1.rp s1 hp)
        subst e3
        refine ⟨⟨t, rfl⟩, ?_⟩
        refine ((sE b C m4 s1).1 y1 _ h2).mono fun v2 H2 z2 => ?_
        obtain ⟨G2, st2, s2, k2⟩ := z2
        exact me_rd (st1.trans st2) s2 (k2.old fun _ z => st1.back s1 z) hq h3
      · cases h
    exact ⟨hE, fun b e' h => by
      obtain ⟨a, h1, h2⟩ := testOk h
      exact fallT (fun _ => rfl) (hE a e' h1) h2⟩
  | .lc ws t it ifs el, fl, X, x, C, hm, Θ, G, H, e, σ, s => by
    obtain ⟨elt, tg, iter, cs, scope, pos, rfl, m1, m2, m3, m4, m5, m6⟩ := m_lc hm
    have hE : ∀ av e', evE T.gc (run T.gc code n) (.lc ws t it ifs el) e = .ok av e' → wE X (.ListComp elt [⟨tg, iter, cs, 0⟩] scope pos) σ H (QE X.K Θ G H σ av e') := fun av e' h => by
      obtain ⟨ds, e0, h1, h⟩ := bindOk h
      by_cases hn : noOwn e0 ws = true
      · rw [if_pos hn] at h
        obtain ⟨rs, e1, h2, h⟩ := bindOk h
        cases h
        refine wE.by (pe_lc C.calm C.nd pi_w (blkOk_by m2) pg_b pt_b pe_b (nosetI m3 h1 _)) ?_
        rw [m1]
        exact lc_rd C m4 m1 (sI it C m3 s ds e0 h1) (fun s0 H0 A cl fp G H e e' σ b s5 h5 => sIf ifs (C.blk s0 H0 scope cl A fp) m5 _ _ _ _ _ _ s5 h5)
          (fun s0 H0 A cl fp G H e e' σ av s5 h5 => (sE el (C.blk s0 H0 scope cl A fp) m6 s5).1 av e' h5) hn h2
      · rw [if_neg hn] at h
        cases h
    exact ⟨hE, fun b e' h => by
      obtain ⟨a, h1, h2⟩ := testOk h
      exact fallT (fun _ => rfl) (hE a e' h1) h2⟩
  | .fs es, fl, X, x, C, hm, Θ, G, H, e, σ, s => by
    obtain ⟨xs, pos, rfl, hl, m1⟩ := m_fs hm
    have hE : ∀ av e', evE T.gc (run T.gc code n) (.fs es) e = .ok av e' → wE X (.JoinedStr xs pos) σ H (QE X.K Θ G H σ av e') := fun av e' h => by
      obtain ⟨y, e1, h1, h⟩ := bindOk h
      cases h
      rcases xs with _ | ⟨x1, _ | ⟨x2, xs⟩⟩
      · exact absurd hl (by decide)
      · exact absurd hl (by simp)
      · refine wE.by (pe_joined (pj_map (x1 :: x2 :: xs))) ?_
        exact sF es C m1 _ s y _ h1 _ fun H' G' st s' => QE.dat st s' (.str _)
    exact ⟨hE, fun b e' h => by
      obtain ⟨a, h1, h2⟩ := testOk h
      exact fallT (fun _ => rfl) (hE a e' h1) h2⟩
  | .fv a, fl, X, x, C, hm, Θ, G, H, e, σ, s => by
    obtain ⟨y, pos, rfl, m1⟩ := m_fv hm
    have hE : ∀ av e', evE T.gc (run T.gc code n) (.fv a) e = .ok av e' → wE X (.FormattedValue y (-1) none pos) σ H (QE X.K Θ G H σ av e') := fun av e' h => by
      obtain ⟨x1, e1, h1, h⟩ := bindOk h
      obtain ⟨p, hp, h⟩ := oneOk h
      obtain ⟨z, h4, rfl, rfl⟩ := retOk h
      refine wE.by (pe_fmt pe_w) ?_
      refine ((sE a C m1 s).1 x1 _ h1).mono fun v1 H1 z1 => ?_
      obtain ⟨G1, st1, s1, k1⟩ := z1
      cases p <;> try (exact noO h4)
      · rename_i i
        have h4 : (if smallInt i then some (toString i : Str) else none) = some z := h4
        by_cases hz : smallInt i = true
        · rw [if_pos hz] at h4
          cases h4
          exact .inr ⟨i, rp_int (k1.rp s1 hp), of_decide_eq_true hz, QE.dat st1 s1 (.str _)⟩
        · rw [if_neg hz] at h4
          cases h4
      · rename_i xx
        have h4 : (if xx.length ≤ sizeLine then some xx else none) = some z := h4
        by_cases hz : xx.length ≤ sizeLine
        · rw [if_pos hz] at h4
          cases h4
          exact .inl ⟨_, rp_str (k1.rp s1 hp), hz, QE.dat st1 s1 (.str _)⟩
        · rw [if_neg hz] at h4
          cases h4
    exact ⟨hE, fun b e' h => by
      obtain ⟨a, h1, h2⟩ := testOk h
      exact fallT (fun _ => rfl) (hE a e' h1) h2⟩
  | .fz a w, fl, X, x, C, hm, Θ, G, H, e, σ, s => by
    obtain ⟨y, sp, k, p, p', p2, p3, rfl, m1, m2, m3, m4, m5⟩ := m_fz hm
    have hE : ∀ av e', evE T.gc (run T.gc code n) (.fz a w) e = .ok av e' → wE X (.JoinedStr [.FormattedValue y (-1) (some (.JoinedStr [.Constant (.str sp) k p] p')) p2] p3) σ H (QE X.K Θ G H σ av e') := fun av e' h => by
      obtain ⟨x1, e1, h1, h⟩ := bindOk h
      split at h
      · rename_i i hp
        split at h
        · rename_i hb
          cases h
          refine wE.by (pe_fz m1 m2 m3 m4 pe_w) ?_
          refine ((sE a C m5 s).1 x1 _ h1).mono fun v1 H1 z1 => ?_
          obtain ⟨G1, st1, s1, k1⟩ := z1
          exact ⟨i, rp_int (k1.rp s1 hp), hb, QE.dat st1 s1 (.str _)⟩
        · cases h
      · cases h
    exact ⟨hE, fun b e' h => by
      obtain ⟨a, h1, h2⟩ := testOk h
      exact fallT (fun _ => rfl) (hE a e' h1) h2⟩
  | .bad, fl, X, x, C, hm, Θ, G, H, e, σ, s => by
    exact ⟨fun av e' h => (nomatch (show R.bad = R.ok av e' from h)), fun b e' h => (nomatch (show R.bad = R.ok b e' from h))⟩
theorem sEs : ∀ (es : CEs) {fl : Option Scope} {X : Cx} {xs : List Expr} (C : Ctx T code Dp n fl X) (hm : mEs T X.N fl X.env.scope es xs = true) {Θ : Ow} {G H : Hp} {e : Sl} {σ : L2.St}, Sts X.K Θ G H e σ →
    ∀ avs e', evEs T.gc (run T.gc code n) es e = .ok avs e' → tA X xs σ H (QA X.K Θ G H σ avs e')
  | .nil, fl, X, xs, C, hm, Θ, G, H, e, σ, s, avs, e', h => by
    rw [ms_nil hm]
    cases h
    exact ⟨G, Stp.refl, s, .nil, trivial⟩
  | .cons a es, fl, X, xs, C, hm, Θ, G, H, e, σ, s, avs, e', h => by
    obtain ⟨y, ys, rfl, m1, m2⟩ := ms_cons hm
    obtain ⟨x1, e1, h1, h⟩ := bindOk h
    obtain ⟨zs, e2, h2, h⟩ := bindOk h
    cases h
    refine wA.by (pa_cons pe_w pa_t (nostar m1 (nobad h1) _ _)) ?_
    refine ((sE a C m1 s).1 x1 e1 h1).mono fun v1 H1 z1 => ?_
    obtain ⟨G1, st1, s1, k1⟩ := z1
    refine (sEs es C m2 s1 zs _ h2).mono fun vs H2 z2 => ?_
    obtain ⟨G2, st2, s2, P, dd⟩ := z2
    refine ⟨G2, st1.trans st2, s2, .cons (k1.mono st2) (L2.Paired.mapP P fun _ _ k => k.old fun _ z => st1.back s1 z), fun p hp hq => ?_, dd⟩
    obtain ⟨_, _, _, ws, hw⟩ := tad_at k1 hp
    have := (tads_at P p hq).2.1
    rw [hw] at this
    cases this
theorem sF : ∀ (es : CEs) {fl : Option Scope} {X : Cx} {xs : List Expr} (C : Ctx T code Dp n fl X) (hm : mEs T X.N fl X.env.scope es xs = true) (acc : Str) {Θ : Ow} {G H : Hp} {e : Sl} {σ : L2.St}, Sts X.K Θ G H e σ →
    ∀ y e', evF T.gc (run T.gc code n) es acc e = .ok y e' → ∀ Q : Str → Hp → Prop, (∀ H' G', Stp Θ G H Θ G' H' → Sts X.K Θ G' H' e' σ → Q y H') → tJs (xs.map (wE X)) acc σ H Q
  | .nil, fl, X, xs, C, hm, acc, Θ, G, H, e, σ, s, y, e', h, Q, k => by
    rw [ms_nil hm]
    cases h
    exact k H G Stp.refl s
  | .cons a es, fl, X, xs, C, hm, acc, Θ, G, H, e, σ, s, y, e', h, Q, k => by
    obtain ⟨y1, ys, rfl, m1, m2⟩ := ms_cons hm
    obtain ⟨x1, e1, h1, h⟩ := bindOk h
    split at h
    · rename_i w hp
      split at h
      · rename_i hz
        refine ((sE a C m1 s).1 x1 e1 h1).mono fun v1 H1 z1 => ?_
        obtain ⟨G1, st1, s1, k1⟩ := z1
        refine ⟨w, rp_str (k1.rp s1 hp), hz, ?_⟩
        exact sF es C m2 _ s1 y e' h Q fun H' G' st s' => k H' G' (st1.trans st) s'
      · cases h
    · cases h
theorem sP : ∀ (c : CP) {fl : Option Scope} {X : Cx} {x : Option Expr} (C : Ctx T code Dp n fl X) (hm : mP T X.N fl X.env.scope c x = true) {Θ : Ow}, ∃ t, PO X x t ∧ ∀ (G H : Hp) (e e' : Sl) (o : Option Int) {σ : L2.St}, Sts X.K Θ G H e σ →
    evP T.gc (run T.gc code n) c e = .ok o e' → ∀ Q : Option Int → Hp → Prop, (∀ H' G', Stp Θ G H Θ G' H' → Sts X.K Θ G' H' e' σ → Q o H') → t σ H Q
  | .no, fl, X, x, C, hm, Θ => by
    cases x with
    | some _ => exact no hm
    | none =>
      refine ⟨_, po_none, fun G H e e' o σ s h Q k => ?_⟩
      cases h
      exact k H G Stp.refl s
  | .yes a, fl, X, x, C, hm, Θ => by
    cases x with
    | none => exact no hm
    | some x =>
      refine ⟨_, po_some pe_w, fun G H e e' o σ s h Q k => ?_⟩
      obtain ⟨x1, e1, h1, h⟩ := bindOk h
      split at h
      · rename_i i hp
        cases h
        refine ((sE a C hm s).1 x1 _ h1).mono fun v1 H1 z1 => ?_
        obtain ⟨G1, st1, s1, k1⟩ := z1
        exact ⟨i, rp_int (k1.rp s1 hp), k H1 G1 st1 s1⟩
      · cases h
theorem sIf : ∀ (c : CP) {fl : Option Scope} {X : Cx} {x : List Expr} (C : Ctx T code Dp n fl X) (hm : mIf T X.N fl X.env.scope c x = true) {Θ : Ow} (G H : Hp) (e e' : Sl) (σ : L2.St) (b : Bool), Sts X.K Θ G H e σ →
    evIf T.gc (run T.gc code n) c e = .ok b e' → ∃ t, PTs X x t ∧ ∀ Q : Bool → Hp → Prop, (∀ H' G', Stp Θ G H Θ G' H' → Sts X.K Θ G' H' e' σ → Q b H') → t σ H Q
  | .no, fl, X, x, C, hm, Θ, G, H, e, e', σ, b, s, h => by
    cases x with
    | cons _ _ => exact no hm
    | nil =>
      cases h
      exact ⟨_, pts_nil, fun Q k => k H G Stp.refl s⟩
  | .yes a, fl, X, x, C, hm, Θ, G, H, e, e', σ, b, s, h => by
    rcases x with _ | ⟨x, _ | ⟨x2, xs⟩⟩
    · exact no hm
    · refine ⟨_, pts_one pt_w, fun Q k => ?_⟩
      refine ((sE a C hm s).2 b e' h).mono fun v1 H1 z1 => ?_
      obtain ⟨rfl, G1, st1, s1⟩ := z1
      exact k H1 G1 st1 s1
    · exact no hm
theorem sI : ∀ (it : CI) {fl : Option Scope} {X : Cx} {x tg : Expr} (C : Ctx T code Dp n fl X) (hm : mI T X.N fl X.env.scope it x = true) {Θ : Ow} {G H : Hp} {e : Sl} {σ : L2.St}, Sts X.K Θ G H e σ →
    ∀ ds e', evI T.gc (run T.gc code n) it e = .ok ds e' → wI X tg x σ H (QI X.K Θ G H σ ds e')
  | .e a, fl, X, x, tg, C, hm, Θ, G, H, e, σ, s, ds, e', h => by
    obtain ⟨x1, e1, h1, h⟩ := bindOk h
    cases q : take x1 e1 with
    | none =>
      rw [q] at h
      cases h
    | some p =>
      obtain ⟨d, e2⟩ := p
      rw [q] at h
      obtain ⟨h2, rfl⟩ := ofOk h
      have hE := ((sE a C hm s).1 x1 e1 h1).sz
      cases d <;> try (exact noO h2)
      · rename_i xx
        refine wI.by (pi_str pe_w) (hE.mono fun v H1 z1 => ?_)
        obtain ⟨⟨G1, st1, s1, k1⟩, z2, z3⟩ := z1
        obtain ⟨G2, f2, s2, r2⟩ := take_ok s1 k1 q
        have h2 : (if xx.length ≤ sizeLine then some (xx.cps.toList.map fun c => PyData.str ⟨#[c]⟩) else none) = some ds := h2
        by_cases hz : xx.length ≤ sizeLine
        · rw [if_pos hz] at h2
          cases h2
          refine ⟨xx, rp_str r2, G2, f2.stp st1 fun a ha => (tad_at k1 (by simpa using ha)).2.1, s2, ?_, ?_⟩
          · exact wk_text
          · rw [List.length_map, Array.length_toList]
            exact hz
        · rw [if_neg hz] at h2
          cases h2
      · refine wI.by (pi_list pe_w) (hE.mono fun v H1 z1 => ?_)
        obtain ⟨⟨G1, st1, s1, k1⟩, z2, z3⟩ := z1
        obtain ⟨G2, f2, s2, r2⟩ := take_ok s1 k1 q
        cases h2
        cases r2 with
        | @lst a vs _ l1 l2 =>
          refine ⟨a, rfl, ⟨vs, s2.gh.seq l1⟩, G2, f2.stp st1 fun a ha => (tad_at k1 (by simpa using ha)).2.1, s2, wk_list l1 l2, ?_⟩
          rw [← l2.len]
          exact z2 a vs (s2.gh.seq l1)
      · refine wI.by (pi_tup pe_w) (hE.mono fun v H1 z1 => ?_)
        obtain ⟨⟨G1, st1, s1, k1⟩, z2, z3⟩ := z1
        obtain ⟨G2, f2, s2, r2⟩ := take_ok s1 k1 q
        cases h2
        cases r2 with
        | @tup a vs _ l1 l2 =>
          refine ⟨a, rfl, ⟨vs, Z.Same.sqt s2.gh l1⟩, G2, f2.stp st1 fun a ha => (tad_at k1 (by simpa using ha)).2.1, s2, wk_tup l1 l2, ?_⟩
          rw [← l2.len]
          exact z3 a vs (Z.Same.sqt s2.gh l1)
  | .r1 a, fl, X, x, tg, C, hm, Θ, G, H, e, σ, s, ds, e', h => by
    cases x <;> try (exact no hm)
    rename_i fn xs kws pos
    cases fn <;> try (exact no hm)
    rcases xs with _ | ⟨y, xs⟩ <;> try (exact no hm)
    rcases xs with _ | ⟨y2, xs⟩ <;> try (exact no hm)
    rcases kws with _ | ⟨k, kws⟩ <;> try (exact no hm)
    rename_i nm p0
    obtain ⟨m1, m2, m3⟩ := and3 hm
    have en : nm = ("range" : Str) := of_decide_eq_true m1
    subst en
    obtain ⟨x1, e1, h1, h⟩ := bindOk h
    split at h
    · rename_i i hp
      split at h
      · rename_i hb
        cases h
        have ns := nostar (fl := fl) m3 (nobad h1) X.env []
        refine wI.by (pi_range1 (gl_of m2) (mg_bi C (by decide +kernel)) (pa_cons pe_w pa_nil ns) ns) ?_
        refine ((sE a C m3 s).1 x1 _ h1).mono fun v1 H1 z1 => ?_
        obtain ⟨G1, st1, s1, k1⟩ := z1
        have hi := rp_int (k1.rp s1 hp)
        subst hi
        rw [sizeLine_eq] at hb
        refine ⟨i, rfl, hb.2, by omega, G1, st1, s1, wk_range, ?_⟩
        rw [range_len, sizeLine_eq]
        omega
      · cases h
    · cases h
  | .r2 a b, fl, X, x, tg, C, hm, Θ, G, H, e, σ, s, ds, e', h => by
    cases x <;> try (exact no hm)
    rename_i fn xs kws pos
    cases fn <;> try (exact no hm)
    rcases xs with _ | ⟨y, xs⟩ <;> try (exact no hm)
    rcases xs with _ | ⟨y2, xs⟩ <;> try (exact no hm)
    rcases xs with _ | ⟨y3, xs⟩ <;> try (exact no hm)
    rcases kws with _ | ⟨k, kws⟩ <;> try (exact no hm)
    rename_i nm p0
    obtain ⟨m1, m2, m3, m4⟩ := and4 hm
    have en : nm = ("range" : Str) := of_decide_eq_true m1
    subst en
    obtain ⟨x1, e1, h1, h⟩ := bindOk h
    obtain ⟨y1, e2, h2, h⟩ := bindOk h
    split at h
    · rename_i i j hp hq
      split at h
      · rename_i hb
        cases h
        have ns := nostar (fl := fl) m3 (nobad h1) X.env [y2]
        have ns2 := nostar (fl := fl) m4 (nobad h2) X.env []
        refine wI.by (pi_range2 (gl_of m2) (mg_bi C (by decide +kernel)) (pa_cons pe_w (pa_cons pe_w pa_nil ns2) ns) (by rw [ns, ns2]; rfl) ns2) ?_
        refine ((sE a C m3 s).1 x1 _ h1).mono fun v1 H1 z1 => ?_
        obtain ⟨G1, st1, s1, k1⟩ := z1
        refine ((sE b C m4 s1).1 y1 _ h2).mono fun v2 H2 z2 => ?_
        obtain ⟨G2, st2, s2, k2⟩ := z2
        have hi := rp_int ((k1.mono st2).rp s2 hp)
        have hj := rp_int (k2.rp s2 hq)
        subst hi hj
        rw [sizeLine_eq] at hb
        refine ⟨i, j, rfl, ⟨hb.1.1, hb.1.2, hb.2.1.1, hb.2.1.2⟩, G2, st1.trans st2, s2, wk_range, ?_⟩
        rw [range_len, sizeLine_eq]
        omega
      · cases h
    · cases h
end
end
end Z

/-! Z14: the evaluator speaks the truth about statements. -/
namespace Z
open PySem PySem.Spec PyProof.Rows L2
section
variable {T : Tb} {code : List FD} {Dp : PgT} {n : Nat} {fl : Option Scope} {X : Cx} {K : PySem.W.Frag} {ow : List Bool} {Θ Θ' Θ1 Θ2 : Ow} {G0 G G' G1 G2 H0 H H' H1 H2 : Hp} {e e' e0 e1 e2 : Sl} {σ σ' σ1 σ2 : L2.St} {av : AV} {v : V} {o : O} {d : D} {x : Expr} {b : Bool}
/-- what holds behind a piece of code -/
structure Nx (K : PySem.W.Frag) (ow : List Bool) (Θ : Ow) (G H : Hp) (σ : L2.St) (Θ' : Ow) (G' H' : Hp) (σ' : L2.St) (e' : Sl) : Prop where
  st : Stp Θ G H Θ' G' H'
  s : Sts K Θ' G' H' e' σ'
  own : ∀ i : Nat, ow[i]? = some true → σ'[i]? = σ[i]?
theorem Nx.trans (a : Nx K ow Θ G H σ Θ1 G1 H1 σ1 e1) (b : Nx K ow Θ1 G1 H1 σ1 Θ2 G2 H2 σ2 e2) : Nx K ow Θ G H σ Θ2 G2 H2 σ2 e2 :=
  ⟨a.st.trans b.st, b.s, fun i h => (b.own i h).trans (a.own i h)⟩
theorem Nx.refl (s : Sts K Θ G H e σ) : Nx K ow Θ G H σ Θ G H σ e := ⟨Stp.refl, s, fun _ _ => rfl⟩
theorem Nx.of (st : Stp Θ G H Θ G' H') (s : Sts K Θ G' H' e' σ) : Nx K ow Θ G H σ Θ G' H' σ e' := ⟨st, s, fun _ _ => rfl⟩
/-- a list handed back is the caller's alone -/
def Fresh (ow : List Bool) (Θ' : Ow) (H : Hp) (o : O) (v : V) : Prop := ∀ p xs, o = .ol xs → v = .ref p → (Θ' p = none ∧ H p = none) ∨ ∃ i : Nat, Θ' p = some i ∧ ow[i]? ≠ some true
def SQ (K : PySem.W.Frag) (ow : List Bool) (Θ : Ow) (G H : Hp) (σ : L2.St) : Fl → Ends → Prop
  | .nx e', D => ∀ Θ' G' H' σ', Nx K ow Θ G H σ Θ' G' H' σ' e' → D.nx σ' H'
  | .bk e', D => ∀ Θ' G' H' σ', Nx K ow Θ G H σ Θ' G' H' σ' e' → D.bk σ' H'
  | .ct e', D => ∀ Θ' G' H' σ', Nx K ow Θ G H σ Θ' G' H' σ' e' → D.ct σ' H'
  | .rt o e', D => ∀ Θ' G' H' σ' v, Nx K ow Θ G H σ Θ' G' H' σ' e' → RepO K G' H' o v → Fresh ow Θ' H o v → D.rt v H'
  | .bad, _ => False
theorem Fresh.back (st : Stp Θ G H Θ1 G1 H1) (s : Sts K Θ1 G1 H1 e1 σ1) (h : Fresh ow Θ' H1 o v) : Fresh ow Θ' H o v := fun p xs h1 h2 => by
  rcases h p xs h1 h2 with ⟨k1, k2⟩ | k
  · exact .inl ⟨k1, st.back s k2⟩
  · exact .inr k
theorem SQ.trans {f : Fl} {D : Ends} (q : SQ K ow Θ G H σ f D) (a : Nx K ow Θ G H σ Θ1 G1 H1 σ1 e1) : SQ K ow Θ1 G1 H1 σ1 f D := by
  cases f with
  | nx e' => exact fun Θ' G' H' σ' b => q _ _ _ _ (a.trans b)
  | bk e' => exact fun Θ' G' H' σ' b => q _ _ _ _ (a.trans b)
  | ct e' => exact fun Θ' G' H' σ' b => q _ _ _ _ (a.trans b)
  | rt o e' => exact fun Θ' G' H' σ' v b r f => q _ _ _ _ _ (a.trans b) r (f.back a.st a.s)
  | bad => exact q
theorem SQ.of {α : Type} {r : R α} {f : α → Sl → Fl} {D : Ends} (q : SQ K ow Θ G H σ (Fl.of r f) D) : ∃ a e1, r = .ok a e1 ∧ SQ K ow Θ G H σ (f a e1) D := by
  cases r with
  | ok a e1 => exact ⟨a, e1, rfl, q⟩
  | bad => exact False.elim q
/-! ### stores of things -/
theorem take_store {i : Nat} (s : Sts K Θ G H e σ) (k : AVok K Θ H0 G H σ (.tm o) v) (hi : i < e.length) :
    ∃ Θ', Sts K Θ' G H (e.set i (some o)) (σ.set i (some v)) ∧ (∀ a j, Θ a = some j → Θ' a = some j) ∧ (∀ a, Θ' a ≠ Θ a → tad (.tm o) v = some a) := by
  cases o with
  | d x => exact ⟨Θ, s.put k, fun _ _ h => h, fun a h => absurd rfl h⟩
  | ol xs =>
    obtain ⟨p, vs, rfl, k1, k2, k3, k4, k5⟩ := k
    refine ⟨fun a => if a = p then some i else Θ a, ⟨s.gh, fun a j h => ?_, by rw [List.length_set, List.length_set]; exact s.len, fun j u h => ?_⟩, fun a j h => ?_, fun a h => ?_⟩
    · by_cases z : a = p
      · subst z
        rw [k1]
        simp
      · have h : Θ a = some j := by simpa [z] using h
        exact s.th a j h
    · rw [join_set hi] at h
      by_cases z : j = i
      · subst z
        rw [if_pos rfl] at h
        cases h
        exact ⟨.ref p, by rw [List.getElem?_set_self (by rw [← s.len]; exact hi)], ⟨p, vs, rfl, k1, k2, k3⟩, fun q ys e1 e2 => by cases e2; simp⟩
      · rw [if_neg z] at h
        obtain ⟨w, h1, h2, h3⟩ := s.sl j u h
        refine ⟨w, by rw [List.getElem?_set_ne (Ne.symm z)]; exact h1, h2, fun q ys e1 e2 => ?_⟩
        have hq := h3 q ys e1 e2
        by_cases y : q = p
        · subst y
          rw [k4] at hq
          cases hq
        · simpa [y] using hq
    · by_cases z : a = p
      · subst z
        rw [k4] at h
        cases h
      · simpa [z] using h
    · by_cases z : a = p
      · subst z
        rfl
      · exact absurd (by simp [z]) h
theorem AVok.own {Θ' : Ow} {σ' : L2.St} (k : AVok K Θ H0 G H σ (.tm o) v) (h : ∀ p, tad (.tm o) v = some p → Θ' p = none) : AVok K Θ' H0 G H σ' (.tm o) v := by
  cases o with
  | d x => exact k
  | ol xs =>
    obtain ⟨p, vs, rfl, k1, k2, k3, k4, k5⟩ := k
    exact ⟨p, vs, rfl, k1, k2, k3, h p rfl, k5⟩
theorem Stp.own (st : Stp Θ G H Θ1 G1 H1) (m : ∀ a j, Θ1 a = some j → Θ2 a = some j) (h : ∀ a, Θ2 a ≠ Θ1 a → H a = none) : Stp Θ G H Θ2 G1 H1 := by
  refine ⟨st.g, fun a u q t => ?_, fun a i q => m a i (st.m a i q)⟩
  obtain ⟨h1, h2, h3⟩ := st.h a u q t
  refine ⟨h1, h2, ?_⟩
  by_cases z : Θ2 a = Θ1 a
  · rw [z]
    exact h3
  · have := h a z
    rw [q] at this
    cases this
theorem own_set {i : Nat} {w : Option V} (h : ow[i]? ≠ some true) : ∀ j : Nat, ow[j]? = some true → (σ.set i w)[j]? = σ[j]? := fun j hj => by
  rw [List.getElem?_set_ne]
  rintro rfl
  exact h hj
theorem setSs_ow : ∀ {is : List Nat} {os : List O} {e e' : Sl}, setSs ow is os e = some e' → ∀ i ∈ is, ow[i]? ≠ some true
  | [], _, _, _, _, i, hi => by cases hi
  | j :: is, [], _, _, h, i, hi => by cases h
  | j :: is, o :: os, e, e', h, i, hi => by
    have h : (match setS ow j o e with | some e => setSs ow is os e | none => none) = some e' := h
    cases q : setS ow j o e with
    | none =>
      rw [q] at h
      cases h
    | some e1 =>
      rw [q] at h
      rcases List.mem_cons.mp hi with rfl | hi
      · exact (setS_ok q).2.1
      · exact setSs_ow h i hi
theorem setT_ow {t : CT} (h : setT ow t d e = some e') : ∀ i ∈ tgSlots t, ow[i]? ≠ some true := by
  cases t with
  | nm j =>
    intro i hi
    have : i = j := by simpa [tgSlots] using hi
    subst this
    exact (setS_ok h).2.1
  | tp is =>
    unfold setT at h
    cases d <;> try (exact noO h)
    exact setSs_ow h
theorem putT_own {t : CT} {vs : List V} (h : setT ow t d e = some e') : ∀ i : Nat, ow[i]? = some true → (putT t d v vs σ)[i]? = σ[i]? := fun i hi => putT_at fun q => setT_ow h i q hi
/-! ### own lists changed -/
theorem Sts.wrOwn {i : Nat} {p : Addr} {xs ys : List D} {ws : List V} (s : Sts K Θ G H e σ) (h : (e[i]?).join = some (.ol xs)) (hp : σ[i]? = some (some (.ref p))) (r : RpA K G ws ys) : Sts K Θ G (upd H p (.lst ws)) (e.set i (some (.ol ys))) σ := by
  obtain ⟨v, h1, ⟨q, vs, rfl, k1, k2, k3⟩, h3⟩ := s.sl i _ h
  rw [hp] at h1
  cases h1
  have tp := h3 p xs rfl rfl
  have ne : ∀ a u, G a = some u → a ≠ p := fun a u q z => by
    subst z
    rw [k2] at q
    cases q
  refine ⟨fun a u q => by rw [upd_ne (ne a u q)]; exact s.gh a u q, fun a j q => ?_, by rw [List.length_set]; exact s.len, fun j u q => ?_⟩
  · by_cases z : a = p
    · subst z
      rw [upd_same]
      simp
    · rw [upd_ne z]
      exact s.th a j q
  · rw [join_set (join_lt h)] at q
    by_cases z : j = i
    · subst z
      rw [if_pos rfl] at q
      cases q
      exact ⟨.ref p, hp, ⟨p, ws, rfl, upd_same, k2, r⟩, fun q zs e1 e2 => by cases e2; exact tp⟩
    · rw [if_neg z] at q
      obtain ⟨w, m1, m2, m3⟩ := s.sl j u q
      refine ⟨w, m1, ?_, m3⟩
      cases u with
      | d x => exact m2
      | ol zs =>
        obtain ⟨a, us, rfl, n1, n2, n3⟩ := m2
        refine ⟨a, us, rfl, ?_, n2, n3⟩
        rw [upd_ne]
        · exact n1
        · intro z2
          subst z2
          have := m3 a zs rfl rfl
          rw [tp] at this
          exact z (Option.some.inj this).symm
theorem Stp.wrOwn {i : Nat} {p : Addr} {u : HO} (t : Θ p = some i) : Stp Θ G H Θ G (upd H p u) := by
  refine ⟨Same.refl _, fun a w h q => ⟨?_, rfl, q⟩, fun _ _ h => h⟩
  rw [upd_ne]
  · exact h
  · rintro rfl
    rw [t] at q
    cases q
/-- a slot emptied -/
theorem Sts.wiped {i : Nat} (s : Sts K Θ G H e σ) : Sts K Θ G H (e.set i none) σ := by
  refine ⟨s.gh, s.th, by rw [List.length_set]; exact s.len, fun j u q => ?_⟩
  by_cases hi : i < e.length
  · rw [join_set hi] at q
    split at q
    · cases q
    · exact s.sl j u q
  · rw [List.set_eq_of_length_le (by omega)] at q
    exact s.sl j u q
theorem retO_ok (s : Sts K Θ G1 H1 e σ) (st : Stp Θ G H Θ G1 H1) (k : AVok K Θ H G1 H1 σ av v) (h : retO ow av e = some (o, e')) : ∃ G2, Stp Θ G H Θ G2 H1 ∧ Sts K Θ G2 H1 e' σ ∧ RepO K G2 H1 o v ∧ Fresh ow Θ H o v := by
  cases av with
  | tm u =>
    have h' : (u, e) = (o, e') := Option.some.inj h
    cases h'
    refine ⟨G1, st, s, k.get s rfl, fun p xs h1 h2 => ?_⟩
    subst h1 h2
    obtain ⟨q, vs, e1, _, _, _, k4, k5⟩ := k
    cases e1
    exact .inl ⟨k4, k5⟩
  | pl i =>
    have h : (match (e[i]?).join with
      | some (.d x) => some (O.d x, e)
      | some (.ol xs) => if ow[i]? = some true then some (O.d (.list xs), e.set i (some (.d (.list xs)))) else some (.ol xs, e.set i none)
      | none => none) = some (o, e') := h
    cases q : (e[i]?).join with
    | none =>
      rw [q] at h
      cases h
    | some u =>
      rw [q] at h
      cases u with
      | d x =>
        have h' : (O.d x, e) = (o, e') := Option.some.inj h
        cases h'
        exact ⟨G1, st, s, k.get s q, fun p xs h1 h2 => (nomatch h1)⟩
      | ol xs =>
        by_cases z : ow[i]? = some true
        · have h : (if ow[i]? = some true then some (O.d (.list xs), e.set i (some (.d (.list xs)))) else some (.ol xs, e.set i none)) = some (o, e') := h
          rw [if_pos z] at h
          have h' : (O.d (.list xs), e.set i (some (.d (.list xs)))) = (o, e') := Option.some.inj h
          cases h'
          have ht : take (.pl i) e = some (.list xs, e.set i (some (.d (.list xs)))) := by
            show (match (e[i]?).join with
              | some (.d x) => some (x, e)
              | some (.ol xs) => some (.list xs, e.set i (some (.d (.list xs))))
              | none => none) = _
            rw [q]
          obtain ⟨G2, f2, s2, r2⟩ := take_ok s k ht
          exact ⟨G2, f2.stp st fun a ha => (nomatch ha), s2, r2, fun p xs h1 h2 => (nomatch h1)⟩
        · have h : (if ow[i]? = some true then some (O.d (.list xs), e.set i (some (.d (.list xs)))) else some (.ol xs, e.set i none)) = some (o, e') := h
          rw [if_neg z] at h
          have h' : (O.ol xs, e.set i none) = (o, e') := Option.some.inj h
          cases h'
          refine ⟨G1, st, s.wiped, k.get s q, fun p ys h1 h2 => .inr ⟨i, ?_, z⟩⟩
          subst h2
          obtain ⟨v', m1, m2, m3⟩ := s.sl i _ q
          have k' : σ[i]? = some (some (V.ref p)) := k
          rw [m1] at k'
          cases k'
          exact m3 p xs rfl rfl
/-! ### readings -/
theorem sw_any {l : Nat} {env : PySem.Env} {t : Option Expr} {N : List Str} {sc : Scope} {c : CE} (h : mE T N fl sc c x = true) (hc : c ≠ .bad) (hl : isLc x = false) : swapsWith x t l env = pure false := by
  cases x <;> first | rfl | skip
  · exact no (show false = true from (by simpa [isLc] using hl))
  all_goals (cases c <;> first | exact no h | exact absurd rfl hc)
end
end Z

/-! Z15: statements. -/
namespace Z
open PySem PySem.Spec PyProof.Rows L2
section
variable {T : Tb} {code : List FD} {Dp : PgT} {n : Nat} {fl : Option Scope} {X : Cx} {K : PySem.W.Frag} {ow : List Bool} {Θ Θ' Θ1 Θ2 : Ow} {G0 G G' G1 G2 H0 H H' H1 H2 : Hp} {e e' e0 e1 e2 : Sl} {σ σ' σ1 σ2 : L2.St} {av : AV} {v : V} {o : O} {d : D} {x : Expr} {b : Bool}
theorem swp_some {env : PySem.Env} {x y : Str} {p q pt pt2 : Pos} {kt k2 : Nat} {a b : Expr} (hk : env.scope.kind = .function) (hx : env.scope.names.lookup x = some .local) (hy : env.scope.names.lookup y = some .local) (hl : (p.line == q.line) = true) (hxy : x ≠ y)
    (h1 : ([a, b].any fun | .Starred .. => true | _ => false) = false) (h2 : [a, b].all (foldedForSure 8) = false) (h3 : [a, b].all (constantsAlone 8) = false) :
    swappedStores [.Tuple [.Name x p, .Name y q] kt pt] (.Tuple [a, b] k2 pt2) env = pure (some [x, y]) := by
  have kx : env.kindOf x = some .local := hx
  have ky : env.kindOf y = some .local := hy
  have hb : env.blockKind = .function := by unfold Env.blockKind; rw [hk]; rfl
  have hl2 : q.line = p.line := (beq_iff_eq.mp hl).symm
  have hd : [x, y].eraseDups.length = 2 := by
    rw [List.eraseDups_cons]
    simp [hxy, Ne.symm hxy, List.eraseDups_cons]
  unfold swappedStores
  simp only [hb]
  refine Eq.trans (if_neg (fun z => Bool.false_ne_true z)) ?_
  refine Eq.trans (if_neg (fun z => Bool.false_ne_true (h1.symm.trans z))) ?_
  have hn : ((([Expr.Name x p, Expr.Name y q] : List Expr).filterMap fun e => match e with
    | .Name id pos => if env.kindOf id == some .local && pos.line == ((([Expr.Name x p, Expr.Name y q] : List Expr).head?.map (·.pos.line)).getD 0) then some id else none
    | _ => none)) = [x, y] := by
    have e0 : ((([Expr.Name x p, Expr.Name y q] : List Expr).head?.map (·.pos.line)).getD 0) = p.line := rfl
    rw [e0]
    simp [List.filterMap_cons, List.filterMap_nil, kx, ky, hl2]
  generalize hg : List.filterMap _ _ = names
  have hh : names = [x, y] := hg.symm.trans hn
  subst hh
  have hd' : (([x, y].length != [Expr.Name x p, Expr.Name y q].length) || ([x, y].eraseDups.length != [x, y].length)) = false := by rw [hd]; rfl
  refine Eq.trans (if_neg (fun z => Bool.false_ne_true (hd'.symm.trans z))) ?_
  refine Eq.trans (if_neg (fun z => Bool.false_ne_true (h2.symm.trans z))) ?_
  exact Eq.trans (if_neg (fun z => Bool.false_ne_true (h3.symm.trans z))) rfl
theorem swp_none {env : PySem.Env} {ts xs : List Expr} {k k2 : Nat} {p p2 : Pos} (h0 : (xs.any fun | .Starred .. => true | _ => false) = false) (h : xs.all (foldedForSure 8) = true) : swappedStores [.Tuple ts k p] (.Tuple xs k2 p2) env = pure none := by
  unfold swappedStores
  simp only [h]
  split
  · rfl
  · split
    · rfl
    · split
      · rfl
      · rfl
theorem valO_tad {x1 : AV} (h : valO x1 e = some (o, e')) : tad (.tm o) v = tad x1 v := by
  cases x1 with
  | tm u =>
    have h' : (u, e) = (o, e') := Option.some.inj h
    cases h'
    rfl
  | pl i =>
    have h : (take (.pl i) e).map (fun p => (O.d p.1, p.2)) = some (o, e') := h
    cases q : take (.pl i) e with
    | none =>
      rw [q] at h
      cases h
    | some p =>
      rw [q] at h
      cases h
      cases v <;> rfl
theorem valOs_two {x1 x2 : AV} {o1 o2 : O} (h : valOs [x1, x2] e = some ([o1, o2], e')) : ∃ e1, valO x1 e = some (o1, e1) ∧ valO x2 e1 = some (o2, e') := by
  have h : (match valO x1 e with | some (x, e) => (match valOs [x2] e with | some (xs, e) => some (x :: xs, e) | none => none) | none => none) = some ([o1, o2], e') := h
  cases q1 : valO x1 e with
  | none =>
    rw [q1] at h
    cases h
  | some p =>
    obtain ⟨u1, e1⟩ := p
    rw [q1] at h
    have h : (match valOs [x2] e1 with | some (xs, e) => some (u1 :: xs, e) | none => none) = some ([o1, o2], e') := h
    have hh : valOs [x2] e1 = (match valO x2 e1 with | some (x, e) => some ([x], e) | none => none) := rfl
    rw [hh] at h
    cases q2 : valO x2 e1 with
    | none =>
      rw [q2] at h
      cases h
    | some p2 =>
      obtain ⟨u2, e2⟩ := p2
      rw [q2] at h
      cases h
      exact ⟨e1, rfl, q2⟩
theorem sLc (C : Ctx T code Dp n fl X) {ws : List Nat} {t : CT} {it : CI} {ifs : CP} {el : CE} (hm : mE T X.N fl X.env.scope (.lc ws t it ifs el) x = true) (s : Sts X.K Θ G H e σ) (h : evE T.gc (run T.gc code n) (.lc ws t it ifs el) e = .ok av e') :
    ∃ elt tg iter cs scope pos, x = .ListComp elt [⟨tg, iter, cs, 0⟩] scope pos ∧ blkC X.N X.env.scope scope (ownOf X.N scope) = true ∧ (∀ v, foldedSetIterable iter X.env v = pure v) ∧
      tLc (wI X tg iter) (gB X scope tg) (tB' X scope cs) (eB X scope elt) ((ownOf X.N scope).map (·.2)) σ H (QE X.K Θ G H σ av e') := by
  obtain ⟨elt, tg, iter, cs, scope, pos, rfl, m1, m2, m3, m4, m5, m6⟩ := m_lc hm
  obtain ⟨ds, e0, h1, h⟩ := bindOk h
  by_cases hn : noOwn e0 ws = true
  · rw [if_pos hn] at h
    obtain ⟨rs, e1, h2, h⟩ := bindOk h
    cases h
    refine ⟨elt, tg, iter, cs, scope, pos, rfl, m2, nosetI m3 h1 _, ?_⟩
    rw [m1]
    exact lc_rd C m4 m1 (sI it C m3 s ds e0 h1) (fun s0 H0 A cl fp G H e e' σ b s5 h5 => sIf ifs (C.blk s0 H0 scope cl A fp) m5 _ _ _ _ _ _ s5 h5)
      (fun s0 H0 A cl fp G H e e' σ av s5 h5 => (sE el (C.blk s0 H0 scope cl A fp) m6 s5).1 av e' h5) hn h2
  · rw [if_neg hn] at h
    cases h
theorem asg_fin {i : Nat} {D : Ends} (s1 : Sts K Θ G1 H1 e1 σ) (st1 : Stp Θ G H Θ G1 H1) (k1 : AVok K Θ H G1 H1 σ av v) (hv : valO av e1 = some (o, e2)) (hs : setS ow i o e2 = some e') (q : SQ K ow Θ G H σ (.nx e') D) : D.nx (σ.set i (some v)) H1 := by
  obtain ⟨G2, f2, s2, k2, _⟩ := valO_ok s1 k1 hv
  obtain ⟨hi, how, rfl⟩ := setS_ok hs
  obtain ⟨Θ', s3, m3, c3⟩ := take_store s2 k2 hi
  have st2 : Stp Θ G H Θ G2 H1 := f2.stp st1 fun a ha => (nomatch ha)
  exact q Θ' G2 H1 _ ⟨st2.own m3 fun a z => (tad_at k2 (c3 a z)).2.1, s3, own_set how⟩
/-- what a statement needs of its place -/
structure SC (T : Tb) (code : List FD) (Dp : PgT) (n : Nat) (X : Cx) : Prop where
  C : Ctx T code Dp n none X
  hk : X.env.scope.kind = .function
  po : PassesOwn (model X.prog X.w) X.A X.env X.xe
def gE (X : Cx) (tg : Expr) : TG := fun v σ H Q => ∃ t, PG X tg t ∧ t v σ H Q
theorem pg_e {tg : Expr} : PG X tg (gE X tg) := ⟨fun pins s σ H v u Q I r h => by
  obtain ⟨t, p, q⟩ := h
  exact p.run pins s σ H v u Q I r q⟩
theorem isLc_lc {N : List Str} {sc : Scope} {c : CE} (h : mE T N fl sc c x = true) (hc : c ≠ .bad) (hl : isLc x = true) : ∃ ws t it ifs el, c = .lc ws t it ifs el := by
  cases x <;> try (exact no hl)
  cases c <;> try (exact no h)
  · exact ⟨_, _, _, _, _, rfl⟩
  · exact absurd rfl hc
theorem two_par {i j : Nat} {x1 x2 : AV} {v w : V} {os : List O} {D : Ends} (hij : i ≠ j) (s1 : Sts K Θ G1 H1 e1 σ) (st1 : Stp Θ G H Θ G1 H1) (P : Paired (AVok K Θ H G1 H1 σ) [x1, x2] [v, w]) (dd : Dst [x1, x2] [v, w])
    (hv : valOs [x1, x2] e1 = some (os, e2)) (hs : setSs ow [i, j] os e2 = some e') (q : SQ K ow Θ G H σ (.nx e') D) : D.nx ((σ.set i (some v)).set j (some w)) H1 := by
  obtain ⟨G2, f2, s2, P2, ht⟩ := valOs_ok s1 P hv
  have st2 : Stp Θ G H Θ G2 H1 := f2.stp st1 fun a ha => (nomatch ha)
  cases P2 with
  | @cons o1 _ os1 _ k1 P2 =>
    cases P2 with
    | @cons o2 _ os2 _ k2 P2 =>
      cases P2
      have hs : (match setS ow i o1 e2 with | some e => setSs ow [j] [o2] e | none => none) = some e' := hs
      cases q1 : setS ow i o1 e2 with
      | none =>
        rw [q1] at hs
        cases hs
      | some e3 =>
        rw [q1] at hs
        have hs : (match setS ow j o2 e3 with | some e => setSs ow [] [] e | none => none) = some e' := hs
        cases q2 : setS ow j o2 e3 with
        | none =>
          rw [q2] at hs
          cases hs
        | some e4 =>
          rw [q2] at hs
          have hs : some e4 = some e' := hs
          cases hs
          obtain ⟨hi, how, rfl⟩ := setS_ok q1
          obtain ⟨hj, how2, rfl⟩ := setS_ok q2
          obtain ⟨Θ1, s3, m3, c3⟩ := take_store s2 k1 hi
          have dis : ∀ p, tad (.tm o1) v = some p → tad (.tm o2) w = some p → False := fun p z1 z2 => by
            obtain ⟨e5, b1, b2⟩ := valOs_two hv
            have t1 : tad (.tm o1) v = tad x1 v := valO_tad b1
            have t2 : tad (.tm o2) w = tad x2 w := valO_tad b2
            rw [t1] at z1
            rw [t2] at z2
            have := dd.1 p z1
            exact this (by show p ∈ (tad x2 w).toList ++ []; rw [z2]; simp)
          have k2' : AVok K Θ1 H G2 H1 (σ.set i (some v)) (.tm o2) w := k2.own fun p hp => by
            by_cases z : Θ1 p = Θ p
            · rw [z]
              exact (tad_at k2 hp).1
            · exact False.elim (dis p (c3 p z) hp)
          obtain ⟨Θ2, s4, m4, c4⟩ := take_store s3 k2' hj
          refine q Θ2 G2 H1 _ ⟨(st2.own m3 fun a z => (tad_at k1 (c3 a z)).2.1).own m4 fun a z => (tad_at k2 (c4 a z)).2.1, s4, fun l hl => ?_⟩
          rw [own_set how2 l hl, own_set how l hl]
end
end Z

/-! Z16: statements by their forms. -/
namespace Z
open PySem PySem.Spec PyProof.Rows L2
section
variable {T : Tb} {code : List FD} {Dp : PgT} {n : Nat} {fl : Option Scope} {X : Cx} {K : PySem.W.Frag} {ow : List Bool} {Θ Θ' Θ1 Θ2 : Ow} {G0 G G' G1 G2 H0 H H' H1 H2 : Hp} {e e' e0 e1 e2 : Sl} {σ σ' σ1 σ2 : L2.St} {av : AV} {v : V} {o : O} {d : D} {x : Expr} {b : Bool}
/-- the slot of a list -/
theorem Sts.own_at {i : Nat} {xs : List D} (s : Sts K Θ G H e σ) (h : (e[i]?).join = some (.ol xs)) : ∃ p vs, σ[i]? = some (some (V.ref p)) ∧ H p = some (.lst vs) ∧ G p = none ∧ RpA K G vs xs ∧ Θ p = some i := by
  obtain ⟨v, h1, ⟨p, vs, rfl, k1, k2, k3⟩, h3⟩ := s.sl i _ h
  exact ⟨p, vs, h1, k1, k2, k3, h3 p xs rfl rfl⟩
theorem isOwn_of {i : Nat} (h : isOwn ((e[i]?).join) = true) : ∃ xs, (e[i]?).join = some (.ol xs) := by
  cases q : (e[i]?).join with
  | none =>
    rw [q] at h
    cases h
  | some o =>
    rw [q] at h
    cases o with
    | d x => cases h
    | ol xs => exact ⟨xs, rfl⟩
theorem lcl_of {sc : Scope} {y : Str} (h : (match sc.names.lookup y with | some .local => true | _ => false) = true) : sc.names.lookup y = some .local := by
  split at h
  · assumption
  · cases h
theorem wI.mono {tg iter : Expr} {R R' : It → Hp → Prop} (h : wI X tg iter σ H R) (k : ∀ J H', R J H' → R' J H') : wI X tg iter σ H R' := fun pins s I =>
  thn (h pins s I) fun v s1 z => thn z fun itv s2 z => by
    obtain ⟨it, fp, tn, J, H1, e2, I2, Tn, st2, f2, q⟩ := z
    exact ⟨it, fp, tn, J, H1, e2, I2, Tn, st2, f2, k J H1 q⟩
theorem lc_mono {tg iter : Expr} {g : TG} {tt : TT} {te : TE} {ws : List Nat} {Q Q' : VK} (h : tLc (wI X tg iter) g tt te ws σ H Q) (k : ∀ v H', Q v H' → Q' v H') : tLc (wI X tg iter) g tt te ws σ H Q' :=
  wI.mono h fun J H1 r D hD => by
    obtain ⟨W, w0, w⟩ := r D hD
    exact ⟨W, w0, fun i m H z => (w i m H z).imp (fun z => ⟨z.1, k _ _ z.2⟩) id⟩
/-- the form of a loop's turn -/
theorem turnQ {f : Fl} {g : Sl → Fl} {D : Ends} {N : L2.St → Hp → Prop}
    (q : SQ K ow Θ G H σ (match f with | .nx e => g e | .ct e => g e | .bk e => .nx e | .rt o e => .rt o e | .bad => .bad) D)
    (k : ∀ Θ' G' H' σ' e', Nx K ow Θ G H σ Θ' G' H' σ' e' → SQ K ow Θ' G' H' σ' (g e') D → N σ' H') : SQ K ow Θ G H σ f { D with nx := N, ct := N, bk := D.nx } := by
  cases f with
  | nx e1 => exact fun Θ' G' H' σ' b => k _ _ _ _ _ b (SQ.trans q b)
  | ct e1 => exact fun Θ' G' H' σ' b => k _ _ _ _ _ b (SQ.trans q b)
  | bk e1 => exact fun Θ' G' H' σ' b => q _ _ _ _ b
  | rt o e1 => exact q
  | bad => exact q
theorem m_asg {N : List Str} {sc : Scope} {st : Stmt} {i : Nat} {a : CE} (hm : mS T N sc (.asg i a) st = true) : ∃ y p x pos, st = .Assign [.Name y p] x pos ∧ slotB N i y = true ∧ locB none sc y = true ∧ mE T N none sc a x = true := by
  rcases st <;> try (exact no hm)
  rename_i ts x pos
  rcases ts with _ | ⟨t, ts⟩ <;> try (exact no hm)
  cases t <;> try (exact no hm)
  rcases ts with _ | ⟨t2, ts⟩ <;> try (exact no hm)
  obtain ⟨m1, m2, m3⟩ := and3 hm
  exact ⟨_, _, _, _, rfl, m1, m2, m3⟩
theorem sw_lc {elt : Expr} {gs : List Comprehension} {scope : Scope} {pos py : Pos} {y : Str} {l : Nat} {env : PySem.Env} (hk : env.scope.kind = .function) :
    swapsWith (.ListComp elt gs scope pos) (some (.Name y py)) l env = pure (env.kindOf y == some .local && py.line == pos.line && !(scope.names.any fun (m, k) => m == y && (k == .local || k == .cell))) := by
  have hb : env.blockKind = .function := by
    unfold Env.blockKind
    rw [hk]
    rfl
  unfold swapsWith
  simp only [hb]
  rfl
theorem m_unp {N : List Str} {sc : Scope} {st : Stmt} {is : List Nat} {a : CE} (hm : mS T N sc (.unp is a) st = true) : ∃ ts k p x pos, st = .Assign [.Tuple ts k p] x pos ∧ unpB x = true ∧ tgB N none sc (.tp is) (.Tuple ts k p) = true ∧ mE T N none sc a x = true := by
  rcases st <;> try (exact no hm)
  rename_i ts x pos
  rcases ts with _ | ⟨t, ts⟩ <;> try (exact no hm)
  cases t <;> try (exact no hm)
  rcases ts with _ | ⟨t2, ts⟩ <;> try (exact no hm)
  obtain ⟨m1, m2, m3⟩ := and3 hm
  exact ⟨_, _, _, _, _, rfl, m1, m2, m3⟩
theorem m_asgT {N : List Str} {sc : Scope} {st : Stmt} {is : List Nat} {es : CEs} (hm : mS T N sc (.asgT is es) st = true) : ∃ i j y z p q kt pt a b k2 pt2 pos, is = [i, j] ∧ st = .Assign [.Tuple [.Name y p, .Name z q] kt pt] (.Tuple [a, b] k2 pt2) pos ∧
    N[i]? = some y ∧ N[j]? = some z ∧ i ≠ j ∧ y ≠ z ∧ (p.line == q.line) = true ∧ sc.names.lookup y = some .local ∧ sc.names.lookup z = some .local ∧
    ([a, b].any fun | .Starred .. => true | _ => false) = false ∧ [a, b].all (foldedForSure 8) = false ∧ [a, b].all (constantsAlone 8) = false ∧ mEs T N none sc es [a, b] = true := by
  rcases is with _ | ⟨i, is⟩ <;> try (exact no hm)
  rcases is with _ | ⟨j, is⟩ <;> try (exact no hm)
  rcases is with _ | ⟨l, is⟩ <;> try (exact no hm)
  rcases st <;> try (exact no hm)
  rename_i ts x pos
  rcases ts with _ | ⟨t, ts⟩ <;> try (exact no hm)
  cases t <;> try (exact no hm)
  rename_i us kt pt
  rcases us with _ | ⟨u1, us⟩ <;> try (exact no hm)
  cases u1 <;> try (exact no hm)
  rename_i y p
  rcases us with _ | ⟨u2, us⟩ <;> try (exact no hm)
  cases u2 <;> try (exact no hm)
  rename_i z q
  rcases us with _ | ⟨u3, us⟩ <;> try (exact no hm)
  rcases ts with _ | ⟨t2, ts⟩ <;> try (exact no hm)
  cases x <;> try (exact no hm)
  rename_i xs k2 pt2
  rcases xs with _ | ⟨a, xs⟩ <;> try (exact no hm)
  rcases xs with _ | ⟨b, xs⟩ <;> try (exact no hm)
  rcases xs with _ | ⟨c, xs⟩ <;> try (exact no hm)
  have hm : ((((((slotB N i y && slotB N j z) && (decide (i ≠ j) && decide (y ≠ z) && (p.line == q.line))) && lclB sc y) && lclB sc z) &&
      (!([a, b].any fun | .Starred .. => true | _ => false) && !([a, b].all (foldedForSure 8)) && !([a, b].all (constantsAlone 8)))) && mEs T N none sc es [a, b]) = true := hm
  obtain ⟨m1, m2, m3, m4, m5, m6, m7⟩ : _ ∧ _ ∧ _ ∧ _ ∧ _ ∧ _ ∧ _ := by
    simp only [Bool.and_eq_true] at hm
    obtain ⟨⟨⟨⟨⟨⟨m1, m2⟩, m3⟩, m4⟩, m5⟩, m6⟩, m7⟩ := hm
    exact ⟨m1, m2, m3, m4, m5, m6, m7⟩
  refine ⟨i, j, y, z, p, q, kt, pt, a, b, k2, pt2, pos, rfl, rfl, slot_of m1, slot_of m2, of_decide_eq_true m3.1.1, of_decide_eq_true m3.1.2, m3.2, lcl_of m4, lcl_of m5, ?_, ?_, ?_, m7⟩
  · exact Bool.not_eq_true' _ ▸ m6.1.1
  · exact Bool.not_eq_true' _ ▸ m6.1.2
  · exact Bool.not_eq_true' _ ▸ m6.2
theorem m_ex {N : List Str} {sc : Scope} {st : Stmt} {a : CE} (hm : mS T N sc (.ex a) st = true) : ∃ x pos, st = .Expr x pos ∧ isLc x = false ∧ mE T N none sc a x = true := by
  rcases st <;> try (exact no hm)
  obtain ⟨m1, m2⟩ := and2 hm
  exact ⟨_, _, rfl, by simpa using m1, m2⟩
theorem m_app {N : List Str} {sc : Scope} {st : Stmt} {i : Nat} {a : CE} (hm : mS T N sc (.app i a) st = true) : ∃ y p ap x cp pos, st = .Expr (.Call (.Attribute (.Name y p) ("append" : Str) ap) [x] [] cp) pos ∧ slotB N i y = true ∧ visB sc y = true ∧ plainName y = true ∧ (ap.endLine == cp.line) = true ∧ mE T N none sc a x = true := by
  rcases st <;> try (exact no hm)
  rename_i x pos
  cases x <;> try (exact no hm)
  rename_i f xs kws cp
  cases f <;> try (exact no hm)
  rename_i o m ap
  cases o <;> try (exact no hm)
  rcases xs with _ | ⟨x, xs⟩ <;> try (exact no hm)
  rcases xs with _ | ⟨x2, xs⟩ <;> try (exact no hm)
  rcases kws with _ | ⟨k, kws⟩ <;> try (exact no hm)
  obtain ⟨m1, m2, m3, m4, m5, m6⟩ := and6 hm
  have e := of_decide_eq_true m4
  subst e
  exact ⟨_, _, _, _, _, _, rfl, m1, m2, m3, m5, m6⟩
theorem m_sti {N : List Str} {sc : Scope} {st : Stmt} {i : Nat} {k a : CE} (hm : mS T N sc (.sti i k a) st = true) : ∃ y p ix sp x pos, st = .Assign [.Subscript (.Name y p) ix sp] x pos ∧ slotB N i y = true ∧ visB sc y = true ∧ plainName y = true ∧ isLc x = false ∧ mE T N none sc k ix = true ∧ mE T N none sc a x = true := by
  rcases st <;> try (exact no hm)
  rename_i ts x pos
  rcases ts with _ | ⟨t, ts⟩ <;> try (exact no hm)
  cases t <;> try (exact no hm)
  rename_i o ix sp
  cases o <;> try (exact no hm)
  rcases ts with _ | ⟨t2, ts⟩ <;> try (exact no hm)
  obtain ⟨m1, m2, m3, m4, m5, m6⟩ := and6 hm
  exact ⟨_, _, _, _, _, _, rfl, m1, m2, m3, by simpa using m4, m5, m6⟩
theorem m_aug {N : List Str} {sc : Scope} {st : Stmt} {i : Nat} {o : BOp} {a : CE} (hm : mS T N sc (.aug i o a) st = true) : ∃ y p op x pos, st = .AugAssign (.Name y p) op x pos ∧ slotB N i y = true ∧ locB none sc y = true ∧ bopB o op = true ∧ mE T N none sc a x = true := by
  rcases st <;> try (exact no hm)
  rename_i t op x pos
  cases t <;> try (exact no hm)
  obtain ⟨m1, m2, m3, m4⟩ := and4 hm
  exact ⟨_, _, _, _, _, rfl, m1, m2, m3, m4⟩
theorem m_ret {N : List Str} {sc : Scope} {st : Stmt} {a : CE} (hm : mS T N sc (.ret a) st = true) : ∃ x pos, st = .Return (some x) pos ∧ mE T N none sc a x = true := by
  rcases st <;> try (exact no hm)
  rename_i x pos
  cases x with
  | none => exact no hm
  | some x => exact ⟨_, _, rfl, hm⟩
theorem m_retN {N : List Str} {sc : Scope} {st : Stmt} (hm : mS T N sc .retN st = true) : ∃ pos, st = .Return none pos := by
  rcases st <;> try (exact no hm)
  rename_i x pos
  cases x with
  | none => exact ⟨_, rfl⟩
  | some x => exact no hm
theorem m_ifs {N : List Str} {sc : Scope} {st : Stmt} {t : CE} {a b : CSs} (hm : mS T N sc (.ifs t a b) st = true) : ∃ c x y pos, st = .If c x y pos ∧ mE T N none sc t c = true ∧ mSs T N sc a x = true ∧ mSs T N sc b y = true := by
  rcases st <;> try (exact no hm)
  obtain ⟨m1, m2, m3⟩ := and3 hm
  exact ⟨_, _, _, _, rfl, m1, m2, m3⟩
theorem m_for {N : List Str} {sc : Scope} {st : Stmt} {t : CT} {it : CI} {b : CSs} (hm : mS T N sc (.for t it b) st = true) : ∃ tg iter body pos, st = .For tg iter body [] pos ∧ tgB N none sc t tg = true ∧ mI T N none sc it iter = true ∧ mSs T N sc b body = true := by
  rcases st <;> try (exact no hm)
  rename_i tg iter body els pos
  rcases els with _ | ⟨z, els⟩ <;> try (exact no hm)
  obtain ⟨m1, m2, m3⟩ := and3 hm
  exact ⟨_, _, _, _, rfl, m1, m2, m3⟩
theorem m_whl {N : List Str} {sc : Scope} {st : Stmt} {t : CE} {b : CSs} (hm : mS T N sc (.whl t b) st = true) : ∃ c body pos, st = .While c body [] pos ∧ mE T N none sc t c = true ∧ mSs T N sc b body = true := by
  rcases st <;> try (exact no hm)
  rename_i c body els pos
  rcases els with _ | ⟨z, els⟩ <;> try (exact no hm)
  obtain ⟨m1, m2⟩ := and2 hm
  exact ⟨_, _, _, rfl, m1, m2⟩
theorem swn_unp {env : PySem.Env} {ts : List Expr} {k : Nat} {p : Pos} (h : unpB x = true) : swappedStores [.Tuple ts k p] x env = pure none := by
  cases x <;> first | rfl | skip
  rename_i xs k2 p2
  obtain ⟨h1, h2⟩ := and2 h
  exact swp_none ((Bool.not_eq_true' _).mp h1) h2
theorem sws_unp {env : PySem.Env} {ts : List Expr} {k : Nat} {p : Pos} {l : Nat} : swapsWithSole [.Tuple ts k p] x l env = pure false := by
  cases x <;> rfl
theorem sws_sub {env : PySem.Env} {o ix : Expr} {p : Pos} {l : Nat} : swapsWithSole [.Subscript o ix p] x l env = pure false := by
  cases x <;> rfl
theorem as_sub {env : PySem.Env} {o ix : Expr} {p : Pos} {N : List Str} {sc : Scope} {c : CE} (h : mE T N fl sc c ix = true) (hc : c ≠ .bad) : ∀ v, assign (.Subscript o ix p) env v = (do
    let ov ← holding [v] (eval o env)
    let iv ← holding [v, ov] (eval ix env)
    standAt p
    holding [v, ov, iv] (setItem ov iv v)
    release [v, ov, iv] []) := by
  intro v
  cases ix <;> first | rfl | skip
  all_goals (cases c <;> first | exact no h | exact absurd rfl hc)
theorem rp_ty {v : V} (h : ∃ p vs, v = V.ref p ∧ H p = some (.lst vs)) : tyV K "list" v H := by
  obtain ⟨p, vs, rfl, h⟩ := h
  exact .inl ⟨rfl, vs, SqL.of h⟩
def iW (X : Cx) (op : Operator) : TIp := fun x y H Q => ∀ pins s σ v u, Inv X pins σ H s → RelV x v → RelV y u → wpAny (model X.prog X.w) X.A (inplaceOp op v u) (EP X pins σ Q) X.xe s
theorem ip_w {op : Operator} : PIp X op (iW X op) := fun pins s σ H x y v u Q I r1 r2 h => h pins s σ v u I r1 r2
theorem iW.by {op : Operator} {r : TIp} {x y : V} {Q : VK} (o : PIp X op r) (h : r x y H Q) : iW X op x y H Q := fun pins s σ v u I r1 r2 => o pins s σ H x y v u Q I r1 r2 h
theorem aug_rd {o : BOp} {op : Operator} {v1 v2 : V} {p q r : D} {Q : VK} (r1 : Rp K H v1 p) (r2 : Rp K H v2 q) (hb : bopB o op = true) (h : augD o p q = some r) (k : ∀ z, (∀ G, Rp K G z r) → Q z H) : iW X op v1 v2 H Q := by
  cases o with
  | add =>
    cases op <;> try (exact no hb)
    cases p <;> try (exact noO h)
    · cases q <;> try (exact noO h)
      cases rp_int r1
      cases rp_int r2
      cases h
      exact iW.by ip_add ⟨_, _, rfl, rfl, k _ fun _ => .int _⟩
    · rename_i xx
      cases q <;> try (exact noO h)
      rename_i yy
      cases rp_str r1
      cases rp_str r2
      have h' : (if xx.length + yy.length ≤ sizeLine then some (PyData.str (xx ++ yy)) else none) = some r := h
      by_cases hz : xx.length + yy.length ≤ sizeLine
      · rw [if_pos hz] at h'
        cases h'
        exact iW.by iop_add_str ⟨_, _, rfl, rfl, hz, k _ fun _ => .str _⟩
      · rw [if_neg hz] at h'
        cases h'
  | sub =>
    cases op <;> try (exact no hb)
    cases p <;> try (exact noO h)
    cases q <;> try (exact noO h)
    cases rp_int r1
    cases rp_int r2
    cases h
    exact iW.by ip_sub ⟨_, _, rfl, rfl, k _ fun _ => .int _⟩
  | mul => exact noO h
  | fdiv => exact noO h
  | mod => exact noO h
  | pow => exact noO h
mutual
theorem sS : ∀ (c : CS) {X : Cx} {st : Stmt} (S : SC T code Dp n X) (hm : mS T X.N X.env.scope c st = true) {Θ : Ow} {G H : Hp} {e : Sl} {σ : L2.St}, Sts X.K Θ G H e σ →
    ∀ D : Ends, SQ X.K ow Θ G H σ (evS T.gc (run T.gc code n) ow c e) D → wS X st D σ H
  | .asg i a, X, st, S, hm, Θ, G, H, e, σ, s, D, q0 => by
    obtain ⟨y, p, x, pos, rfl, m1, m2, m4⟩ := m_asg hm
    obtain ⟨av, e1, h1, q1⟩ := q0.of
    cases hv : valO av e1 with
    | none =>
      rw [hv] at q1
      exact False.elim q1
    | some w =>
      obtain ⟨o, e2⟩ := w
      rw [hv] at q1
      have q2 : SQ X.K ow Θ G H σ (match setS ow i o e2 with | some e => .nx e | none => .bad) D := q1
      cases hs : setS ow i o e2 with
      | none =>
        rw [hs] at q2
        exact False.elim q2
      | some e3 =>
        rw [hs] at q2
        obtain ⟨l1, l2⟩ := loc_of S.C m2
        by_cases hl : isLc x = true
        · obtain ⟨ws, t, it, ifs, el, rfl⟩ := isLc_lc m4 (nobad h1) hl
          obtain ⟨elt, tg, iter, cs, scope, lpos, rfl, b1, b2, rd⟩ := sLc S.C m4 s h1
          cases hc : (X.env.kindOf y == some .local && p.line == lpos.line && !(scope.names.any fun (m, k) => m == y && (k == .local || k == .cell))) with
          | true =>
            obtain ⟨hy, _, _⟩ := and3 hc
            have hy : X.env.scope.names.lookup y = some .local := beq_iff_eq.mp hy
            refine wS.by (ps_setLc S.C.calm S.C.nd (slot_of m1) hy ((sw_lc S.hk).trans (congrArg _ hc)) pi_w (blkOk_by b1) pg_b pt_b pe_b b2) ?_
            exact lc_mono rd fun v1 H1 z1 => by
              obtain ⟨G1, st1, s1, k1⟩ := z1
              exact asg_fin s1 st1 k1 hv hs q2
          | false =>
            refine wS.by (ps_set S.C.nd (slot_of m1) l1 (pe_lc S.C.calm S.C.nd pi_w (blkOk_by b1) pg_b pt_b pe_b b2) ((sw_lc S.hk).trans (congrArg _ hc)) l2) ?_
            exact lc_mono rd fun v1 H1 z1 => by
              obtain ⟨G1, st1, s1, k1⟩ := z1
              exact asg_fin s1 st1 k1 hv hs q2
        · refine wS.by (ps_set S.C.nd (slot_of m1) l1 pe_w (sw_any m4 (nobad h1) (by simpa using hl)) l2) ?_
          refine ((sE a S.C m4 s).1 av e1 h1).mono fun v1 H1 z1 => ?_
          obtain ⟨G1, st1, s1, k1⟩ := z1
          exact asg_fin s1 st1 k1 hv hs q2
  | .asgT is es, X, st, S, hm, Θ, G, H, e, σ, s, D, q0 => by
    obtain ⟨i, j, y, z, p, q, kt, pt, a, b, k2, pt2, pos, rfl, rfl, m1, m2, m3, m4, m5, m6, m7, m8, m9, m10, m11⟩ := m_asgT hm
    obtain ⟨avs, e1, h1, q1⟩ := q0.of
    cases hv : valOs avs e1 with
    | none =>
      rw [hv] at q1
      exact False.elim q1
    | some w =>
      obtain ⟨os, e2⟩ := w
      rw [hv] at q1
      have q2 : SQ X.K ow Θ G H σ (match setSs ow [i, j] os e2 with | some e => .nx e | none => .bad) D := q1
      cases hs : setSs ow [i, j] os e2 with
      | none =>
        rw [hs] at q2
        exact False.elim q2
      | some e3 =>
        rw [hs] at q2
        refine wS.by (ps_par S.C.calm S.C.nd m1 m2 m3 m6 m7 pa_w (swp_some S.hk m6 m7 m5 m4 m8 m9 m10)) ?_
        refine wA.mono (sEs es S.C m11 s avs e1 h1) fun vs H1 z1 => ?_
        obtain ⟨G1, st1, s1, P, dd⟩ := z1
        have hl := lenEs m11 h1
        rcases avs with _ | ⟨x1, _ | ⟨x2, _ | ⟨x3, avs⟩⟩⟩
        · cases hl
        · cases hl
        · cases P with
          | @cons _ v1 _ _ k1 P =>
            cases P with
            | @cons _ v2 _ _ k2 P =>
              cases P
              exact ⟨v1, v2, rfl, two_par m3 s1 st1 (.cons k1 (.cons k2 .nil)) dd hv hs q2⟩
        · simp at hl
  | .unp is a, X, st, S, hm, Θ, G, H, e, σ, s, D, q0 => by
    obtain ⟨ts, k, p, x, pos, rfl, m1, m2, m3⟩ := m_unp hm
    obtain ⟨av, e1, h1, q1⟩ := q0.of
    cases hv : take av e1 with
    | none =>
      rw [hv] at q1
      exact False.elim q1
    | some w =>
      obtain ⟨d, e2⟩ := w
      rw [hv] at q1
      have q2 : SQ X.K ow Θ G H σ (match setT ow (.tp is) d e2 with | some e => .nx e | none => .bad) D := q1
      cases hs : setT ow (.tp is) d e2 with
      | none =>
        rw [hs] at q2
        exact False.elim q2
      | some e3 =>
        rw [hs] at q2
        refine wS.by (ps_asg pe_w pg_e sws_unp (swn_unp m1) rfl) ?_
        refine ((sE a S.C m3 s).1 av e1 h1).mono fun v1 H1 z1 => ?_
        obtain ⟨G1, st1, s1, k1⟩ := z1
        obtain ⟨G2, f2, s2, r2⟩ := take_ok s1 k1 hv
        obtain ⟨g, vs, pg, kk⟩ := tg_ok S.C m2 s2 r2 hs
        refine ⟨g, pg, kk _ fun s3 => ?_⟩
        exact q2 Θ G2 H1 _ ⟨f2.stp st1 fun a ha => (tad_at k1 (by simpa using ha)).2.1, s3, putT_own hs⟩
  | .ex a, X, st, S, hm, Θ, G, H, e, σ, s, D, q0 => by
    obtain ⟨x, pos, rfl, m1, m2⟩ := m_ex hm
    obtain ⟨av, e1, h1, q1⟩ := q0.of
    refine wS.by (ps_expr pe_w (sw_any m2 (nobad h1) m1)) ?_
    refine ((sE a S.C m2 s).1 av e1 h1).mono fun v1 H1 z1 => ?_
    obtain ⟨G1, st1, s1, k1⟩ := z1
    exact q1 _ _ _ _ (Nx.of st1 s1)
  | .app i a, X, st, S, hm, Θ, G, H, e, σ, s, D, q0 => by
    obtain ⟨y, p, ap, x, cp, pos, rfl, m1, m2, m3, m4, m5⟩ := m_app hm
    have q1 : SQ X.K ow Θ G H σ (if isOwn ((e[i]?).join) = true then Fl.of (evE T.gc (run T.gc code n) a e) fun x e => match take x e with
      | some (d, e) => match (e[i]?).join with
        | some (.ol xs) => if xs.length < sizeLine then .nx (e.set i (some (.ol (xs ++ [d])))) else .bad
        | _ => .bad
      | none => .bad
      else .bad) D := q0
    by_cases ho : isOwn ((e[i]?).join) = true
    · rw [if_pos ho] at q1
      obtain ⟨av, e1, h1, q2⟩ := q1.of
      cases hv : take av e1 with
      | none =>
        rw [hv] at q2
        exact False.elim q2
      | some w =>
        obtain ⟨d, e2⟩ := w
        rw [hv] at q2
        have q3 : SQ X.K ow Θ G H σ (match (e2[i]?).join with
          | some (.ol xs) => if xs.length < sizeLine then .nx (e2.set i (some (.ol (xs ++ [d])))) else .bad
          | _ => .bad) D := q2
        cases hx : (e2[i]?).join with
        | none =>
          rw [hx] at q3
          exact False.elim q3
        | some u =>
          rw [hx] at q3
          cases u with
          | d x => exact False.elim q3
          | ol xs =>
            have q4 : SQ X.K ow Θ G H σ (if xs.length < sizeLine then .nx (e2.set i (some (.ol (xs ++ [d])))) else .bad) D := q3
            by_cases hz : xs.length < sizeLine
            · rw [if_pos hz] at q4
              obtain ⟨ys, hy⟩ := isOwn_of ho
              obtain ⟨p0, vs0, a1, a2, a3, a4, a5⟩ := s.own_at hy
              obtain ⟨p1, p2, _⟩ := plain_of m3
              have ns := nostar (T := T) (fl := none) m5 (nobad h1) X.env []
              refine wS.by (ps_expr (pe_bm PySem.F.plainAttrs_list PySem.F.slot_list_append PySem.F.type_list_append mt_append (pe_var (slot_of m1) (vis_of m2) p1 p2) (pa_cons pe_w pa_nil ns) rfl (by rw [ns]; rfl) m4 ns rfl)) ?_
              refine ⟨.ref p0, a1, rp_ty ⟨p0, vs0, rfl, a2⟩, ?_⟩
              refine ((sE a S.C m5 s).1 av e1 h1).mono fun v1 H1 z1 => ?_
              obtain ⟨G1, st1, s1, k1⟩ := z1
              obtain ⟨G2, f2, s2, r2⟩ := take_ok s1 k1 hv
              obtain ⟨p3, vs3, b1, b2, b3, b4, b5⟩ := s2.own_at hx
              rw [a1] at b1
              cases b1
              refine ⟨_, vs3, v1, rfl, rfl, b2, by rw [b4.len]; exact hz, ?_⟩
              have st2 : Stp Θ G H Θ G2 H1 := f2.stp st1 fun a ha => (tad_at k1 (by simpa using ha)).2.1
              exact q4 Θ G2 _ _ ⟨st2.trans (Stp.wrOwn b5), s2.wrOwn hx a1 (b4.snoc r2), fun _ _ => rfl⟩
            · rw [if_neg hz] at q4
              exact False.elim q4
    · rw [if_neg ho] at q1
      exact False.elim q1
  | .sti i k a, X, st, S, hm, Θ, G, H, e, σ, s, D, q0 => by
    obtain ⟨y, p, ix, sp, x, pos, rfl, m1, m2, m3, m4, m5, m6⟩ := m_sti hm
    have qa : SQ X.K ow Θ G H σ (if isOwn ((e[i]?).join) = true then Fl.of (evE T.gc (run T.gc code n) a e) fun x e => Fl.of (evE T.gc (run T.gc code n) k e) fun y e => match y.dat e with
      | some (.int j) => match take x e with
        | some (d, e) => match (e[i]?).join with
          | some (.ol xs) => match ixN xs.length j with
            | some n => .nx (e.set i (some (.ol (xs.set n d))))
            | none => .bad
          | _ => .bad
        | none => .bad
      | _ => .bad
      else .bad) D := q0
    by_cases ho : isOwn ((e[i]?).join) = true
    case neg =>
      rw [if_neg ho] at qa
      exact False.elim qa
    rw [if_pos ho] at qa
    obtain ⟨ys, hy⟩ := isOwn_of ho
    obtain ⟨p0, vs0, c1, _, _, _, _⟩ := s.own_at hy
    obtain ⟨av, e1, h1, q1⟩ := qa.of
    obtain ⟨kv, e2, h2, q2⟩ := q1.of
    cases hk : kv.dat e2 with
    | none =>
      rw [hk] at q2
      exact False.elim q2
    | some kd =>
      rw [hk] at q2
      cases kd <;> try (exact False.elim q2)
      rename_i j
      have q3 : SQ X.K ow Θ G H σ (match take av e2 with
        | some (d, e) => match (e[i]?).join with
          | some (.ol xs) => match ixN xs.length j with
            | some n => .nx (e.set i (some (.ol (xs.set n d))))
            | none => .bad
          | _ => .bad
        | none => .bad) D := q2
      cases hv : take av e2 with
      | none =>
        rw [hv] at q3
        exact False.elim q3
      | some w =>
        obtain ⟨d, e3⟩ := w
        rw [hv] at q3
        have q4 : SQ X.K ow Θ G H σ (match (e3[i]?).join with
          | some (.ol xs) => match ixN xs.length j with
            | some n => .nx (e3.set i (some (.ol (xs.set n d))))
            | none => .bad
          | _ => .bad) D := q3
        cases hx : (e3[i]?).join with
        | none =>
          rw [hx] at q4
          exact False.elim q4
        | some u =>
          rw [hx] at q4
          cases u with
          | d x => exact False.elim q4
          | ol xs =>
            have q5 : SQ X.K ow Θ G H σ (match ixN xs.length j with
              | some n => .nx (e3.set i (some (.ol (xs.set n d))))
              | none => .bad) D := q4
            cases hn : ixN xs.length j with
            | none =>
              rw [hn] at q5
              exact False.elim q5
            | some l =>
              rw [hn] at q5
              obtain ⟨p1, p2, _⟩ := plain_of m3
              refine wS.by (ps_asg pe_w (pg_sub (pe_var (slot_of m1) (vis_of m2) p1 p2) pe_w set_list (as_sub (fl := none) m5 (nobad h2))) sws_sub rfl rfl) ?_
              refine ((sE a S.C m6 s).1 av e1 h1).mono fun v1 H1 z1 => ?_
              obtain ⟨G1, st1, s1, k1⟩ := z1
              refine ⟨_, c1, ?_⟩
              refine ((sE k S.C m5 s1).1 kv e2 h2).mono fun v2 H2 z2 => ?_
              obtain ⟨G2, st2, s2, k2⟩ := z2
              have st3 := st1.trans st2
              obtain ⟨G3, f3, s3, r3⟩ := take_ok s2 (k1.mono st2) hv
              obtain ⟨p3, vs3, b1, b2, b3, b4, b5⟩ := s3.own_at hx
              rw [c1] at b1
              cases b1
              refine ⟨_, vs3, j, l, rfl, rp_int (k2.rp s2 hk), b2, by rw [b4.len]; exact hn, ?_⟩
              have st4 : Stp Θ G H Θ G3 H2 := f3.stp st3 fun a ha => (tad_at (k1.mono st2) (by simpa using ha)).2.1
              exact q5 Θ G3 _ _ ⟨st4.trans (Stp.wrOwn b5), s3.wrOwn hx c1 (b4.set l r3), fun _ _ => rfl⟩
  | .aug i o a, X, st, S, hm, Θ, G, H, e, σ, s, D, q0 => by
    obtain ⟨y, p, op, x, pos, rfl, m1, m2, m3, m4⟩ := m_aug hm
    obtain ⟨l1, l2⟩ := loc_of S.C m2
    have qa : SQ X.K ow Θ G H σ (match (e[i]?).join with
      | some (.d _) => Fl.of (evE T.gc (run T.gc code n) a e) fun x e => match (e[i]?).join, x.dat e with
        | some (.d p), some q => match augD o p q with
          | some r => match setS ow i (.d r) e with
            | some e => .nx e
            | none => .bad
          | none => .bad
        | _, _ => .bad
      | _ => .bad) D := q0
    cases hy : (e[i]?).join with
    | none =>
      rw [hy] at qa
      exact False.elim qa
    | some u0 =>
      rw [hy] at qa
      cases u0 with
      | ol xs => exact False.elim qa
      | d d0 =>
        obtain ⟨v0, c1, _, _⟩ := s.sl i _ hy
        obtain ⟨av, e1, h1, q1⟩ := SQ.of (show SQ X.K ow Θ G H σ (Fl.of (evE T.gc (run T.gc code n) a e) _) D from qa)
        cases hx : (e1[i]?).join with
        | none =>
          rw [hx] at q1
          exact False.elim q1
        | some u =>
          cases hd : av.dat e1 with
          | none =>
            rw [hx, hd] at q1
            cases u <;> exact False.elim q1
          | some dq =>
            rw [hx, hd] at q1
            cases u with
            | ol xs => exact False.elim q1
            | d dp =>
              have q2 : SQ X.K ow Θ G H σ (match augD o dp dq with
                | some r => match setS ow i (.d r) e1 with
                  | some e => .nx e
                  | none => .bad
                | none => .bad) D := q1
              cases hr : augD o dp dq with
              | none =>
                rw [hr] at q2
                exact False.elim q2
              | some r =>
                rw [hr] at q2
                have q3 : SQ X.K ow Θ G H σ (match setS ow i (.d r) e1 with
                  | some e => .nx e
                  | none => .bad) D := q2
                cases hs : setS ow i (.d r) e1 with
                | none =>
                  rw [hs] at q3
                  exact False.elim q3
                | some e2 =>
                  rw [hs] at q3
                  refine wS.by (ps_aug S.C.nd (slot_of m1) l1 pe_w ip_w l2) ?_
                  refine ⟨v0, c1, ?_⟩
                  refine ((sE a S.C m4 s).1 av e1 h1).mono fun v1 H1 z1 => ?_
                  obtain ⟨G1, st1, s1, k1⟩ := z1
                  obtain ⟨vx, c2, c3, _⟩ := s1.sl i _ hx
                  rw [c1] at c2
                  cases c2
                  refine aug_rd (K := X.K) (Rp.mono s1.gh _ _ c3) (k1.rp s1 hd) m3 hr fun z hz => ?_
                  exact asg_fin (av := .tm (.d r)) (v := z) (o := .d r) s1 st1 (hz G1) rfl hs q3
  | .ret a, X, st, S, hm, Θ, G, H, e, σ, s, D, q0 => by
    obtain ⟨x, pos, rfl, m1⟩ := m_ret hm
    obtain ⟨av, e1, h1, q1⟩ := q0.of
    cases hv : retO ow av e1 with
    | none =>
      rw [hv] at q1
      exact False.elim q1
    | some w =>
      obtain ⟨o, e2⟩ := w
      rw [hv] at q1
      refine wS.by (ps_ret pe_w) ?_
      refine ((sE a S.C m1 s).1 av e1 h1).mono fun v1 H1 z1 => ?_
      obtain ⟨G1, st1, s1, k1⟩ := z1
      obtain ⟨G2, st2, s2, r2, f2⟩ := retO_ok s1 st1 k1 hv
      exact q1 _ _ _ _ _ (Nx.of st2 s2) r2 f2
  | .retN, X, st, S, hm, Θ, G, H, e, σ, s, D, q0 => by
    obtain ⟨pos, rfl⟩ := m_retN hm
    refine wS.by ps_retN ?_
    exact q0 _ _ _ _ _ (Nx.refl s) Rp.non fun p xs h => (nomatch h)
  | .ifs t a b, X, st, S, hm, Θ, G, H, e, σ, s, D, q0 => by
    obtain ⟨c, x, y, pos, rfl, m1, m2, m3⟩ := m_ifs hm
    obtain ⟨k, e1, h1, q1⟩ := q0.of
    refine wS.by (ps_if pt_w pss_w pss_w) ?_
    refine ((sE t S.C m1 s).2 k e1 h1).mono fun v1 H1 z1 => ?_
    obtain ⟨rfl, G1, st1, s1⟩ := z1
    have nx : Nx X.K ow Θ G H σ Θ G1 H1 σ e1 := Nx.of st1 s1
    cases v1 with
    | true => exact iteT (sSs a S m2 s1 D (SQ.trans (show SQ X.K ow Θ G H σ (evSs T.gc (run T.gc code n) ow a e1) D from q1) nx))
    | false => exact iteF (sSs b S m3 s1 D (SQ.trans (show SQ X.K ow Θ G H σ (evSs T.gc (run T.gc code n) ow b e1) D from q1) nx))
  | .for t it b, X, st, S, hm, Θ, G, H, e, σ, s, D, q0 => by
    obtain ⟨tg, iter, body, pos, rfl, m1, m2, m3⟩ := m_for hm
    obtain ⟨ds, e1, h1, q1⟩ := q0.of
    refine wS.by (ps_for S.po S.C.calm pi_w pg_e pss_w (nosetI m2 h1 _)) ?_
    refine wI.mono (sI it S.C m2 s ds e1 h1) fun J H1 z1 => ?_
    obtain ⟨G1, st1, s1, wk, hlen⟩ := z1
    refine ⟨fun i m σ' H' => m = ds.length - i ∧ i ≤ ds.length ∧ ∃ Θ' G' e', Nx X.K ow Θ G1 H1 σ Θ' G' H' σ' e' ∧
      SQ X.K ow Θ' G' H' σ' (forL (fun x e => match setT ow t x e with | some e => evSs T.gc (run T.gc code n) ow b e | none => .bad) (ds.drop i) e') D,
      ⟨ds.length, by simp, Nat.zero_le _, Θ, G1, e1, Nx.refl s1, SQ.trans (show SQ X.K ow Θ G H σ (forL _ (ds.drop 0) e1) D from q1) (Nx.of st1 s1)⟩, ?_⟩
    rintro i m σi Hi ⟨rfl, hi, Θi, Gi, ei, nxi, qi⟩
    obtain ⟨w1, w2, w3⟩ := wk Gi Hi nxi.st.g nxi.s.gh
    by_cases hlt : i < ds.length
    · refine .inr ⟨w1 i hlt, fun σ' H' => ∃ Θ' G' e', Nx X.K ow Θ G1 H1 σ Θ' G' H' σ' e' ∧
        SQ X.K ow Θ' G' H' σ' (forL (fun x e => match setT ow t x e with | some e => evSs T.gc (run T.gc code n) ow b e | none => .bad) (ds.drop (i + 1)) e') D, fun σ' H' h' => ⟨ds.length - (i + 1), by omega, rfl, hlt, h'⟩, fun x H2 hy => ?_⟩
      have hd : ds[i]? = some ds[i] := List.getElem?_eq_getElem hlt
      obtain ⟨G2, st2, s2, r2, kk⟩ := wk_step wk nxi.st.g nxi.s hd hy
      rw [List.drop_eq_getElem_cons hlt] at qi
      have q2 : SQ X.K ow Θi Gi Hi σi (match (match setT ow t ds[i] ei with | some e => evSs T.gc (run T.gc code n) ow b e | none => .bad) with
        | .nx e => forL (fun x e => match setT ow t x e with | some e => evSs T.gc (run T.gc code n) ow b e | none => .bad) (ds.drop (i + 1)) e
        | .ct e => forL (fun x e => match setT ow t x e with | some e => evSs T.gc (run T.gc code n) ow b e | none => .bad) (ds.drop (i + 1)) e
        | .bk e => .nx e
        | .rt o e => .rt o e
        | .bad => .bad) D := qi
      cases q3 : setT ow t ds[i] ei with
      | none =>
        rw [q3] at q2
        exact False.elim q2
      | some e5 =>
        rw [q3] at q2
        obtain ⟨g, vs, pg, k⟩ := tg_ok S.C m1 s2 r2 q3
        refine ⟨g, pg, k _ fun s3 => ?_⟩
        have nx2 : Nx X.K ow Θi Gi Hi σi Θi G2 H2 _ e5 := ⟨st2, s3, putT_own q3⟩
        exact sSs b S m3 s3 _ (turnQ (SQ.trans q2 nx2) fun Θ' G' H' σ' e' a q => ⟨Θ', G', e', (nxi.trans nx2).trans a, q⟩)
    · have ee : i = ds.length := by omega
      subst ee
      rw [List.drop_length] at qi
      exact .inl ⟨w2 _ (Nat.le_refl _), qi _ _ _ _ (Nx.refl nxi.s)⟩
  | .whl t b, X, st, S, hm, Θ, G, H, e, σ, s, D, q0 => by
    obtain ⟨c, body, pos, rfl, m1, m2⟩ := m_whl hm
    refine wS.by (ps_while S.po pt_w pss_w) ?_
    refine ⟨fun m σ' H' => ∃ Θ' G' e', Nx X.K ow Θ G H σ Θ' G' H' σ' e' ∧ SQ X.K ow Θ' G' H' σ' (whlL (fun e => evT T.gc (run T.gc code n) t e) (fun e => evSs T.gc (run T.gc code n) ow b e) m e') D,
      ⟨whileMost, Θ, G, e, Nx.refl s, q0⟩, ?_⟩
    rintro m σi Hi ⟨Θi, Gi, ei, nxi, qi⟩
    cases m with
    | zero => exact False.elim qi
    | succ m =>
      obtain ⟨k, e1, h1, q1⟩ := SQ.of (show SQ X.K ow Θi Gi Hi σi (Fl.of (evT T.gc (run T.gc code n) t ei) _) D from qi)
      refine ((sE t S.C m1 nxi.s).2 k e1 h1).mono fun v1 H1 z1 => ?_
      obtain ⟨rfl, G1, st1, s1⟩ := z1
      have nx1 : Nx X.K ow Θi Gi Hi σi Θi G1 H1 σi e1 := Nx.of st1 s1
      cases v1 with
      | false => exact iteF (q1 _ _ _ _ nx1)
      | true =>
        refine iteT ⟨fun σ' H' => ∃ Θ' G' e', Nx X.K ow Θ G H σ Θ' G' H' σ' e' ∧ SQ X.K ow Θ' G' H' σ' (whlL (fun e => evT T.gc (run T.gc code n) t e) (fun e => evSs T.gc (run T.gc code n) ow b e) m e') D,
          fun σ' H' h' => ⟨m, Nat.lt_succ_self _, h'⟩, ?_⟩
        have q2 : SQ X.K ow Θi Gi Hi σi (match evSs T.gc (run T.gc code n) ow b e1 with
          | .nx e => whlL (fun e => evT T.gc (run T.gc code n) t e) (fun e => evSs T.gc (run T.gc code n) ow b e) m e
          | .ct e => whlL (fun e => evT T.gc (run T.gc code n) t e) (fun e => evSs T.gc (run T.gc code n) ow b e) m e
          | .bk e => .nx e
          | .rt o e => .rt o e
          | .bad => .bad) D := q1
        exact sSs b S m2 s1 _ (turnQ (SQ.trans q2 nx1) fun Θ' G' H' σ' e' a q => ⟨Θ', G', e', (nxi.trans nx1).trans a, q⟩)
  | .brk, X, st, S, hm, Θ, G, H, e, σ, s, D, q0 => by
    rcases st <;> try (exact no hm)
    exact wS.by ps_break (q0 _ _ _ _ (Nx.refl s))
  | .cnt, X, st, S, hm, Θ, G, H, e, σ, s, D, q0 => by
    rcases st <;> try (exact no hm)
    exact wS.by ps_continue (q0 _ _ _ _ (Nx.refl s))
  | .pass, X, st, S, hm, Θ, G, H, e, σ, s, D, q0 => by
    rcases st <;> try (exact no hm)
    exact wS.by ps_pass (q0 _ _ _ _ (Nx.refl s))
  | .bad, X, st, S, hm, Θ, G, H, e, σ, s, D, q0 => False.elim q0
theorem sSs : ∀ (c : CSs) {X : Cx} {st : List Stmt} (S : SC T code Dp n X) (hm : mSs T X.N X.env.scope c st = true) {Θ : Ow} {G H : Hp} {e : Sl} {σ : L2.St}, Sts X.K Θ G H e σ →
    ∀ D : Ends, SQ X.K ow Θ G H σ (evSs T.gc (run T.gc code n) ow c e) D → wSs X st D σ H
  | .nil, X, st, S, hm, Θ, G, H, e, σ, s, D, q => by
    cases st with
    | cons _ _ => exact no hm
    | nil => exact wSs.by pss_nil (q _ _ _ _ (Nx.refl s))
  | .cons a r, X, st, S, hm, Θ, G, H, e, σ, s, D, q => by
    cases st with
    | nil => exact no hm
    | cons y ys =>
      obtain ⟨m1, m2⟩ := and2 hm
      refine wSs.by (pss_cons ps_w pss_w) ?_
      refine sS a S m1 s { D with nx := wSs X ys D } ?_
      have q : SQ X.K ow Θ G H σ (match evS T.gc (run T.gc code n) ow a e with
        | .nx e => evSs T.gc (run T.gc code n) ow r e
        | .rt o e => .rt o e
        | .bk e => .bk e
        | .ct e => .ct e
        | .bad => .bad) D := q
      cases h : evS T.gc (run T.gc code n) ow a e with
      | nx e1 =>
        rw [h] at q
        exact fun Θ' G' H' σ' b => sSs r S m2 b.s D (SQ.trans q b)
      | rt o e1 =>
        rw [h] at q
        exact q
      | bk e1 =>
        rw [h] at q
        exact q
      | ct e1 =>
        rw [h] at q
        exact q
      | bad =>
        rw [h] at q
        exact False.elim q
end
end
end Z

/-! Z17: every def keeps the core language's word. -/
namespace Z
open PySem PySem.Spec PyProof.Rows L2
section
variable {T : Tb} {code : List FD} {Dp : PgT} {n : Nat} {K : PySem.W.Frag} {G0 G G' G1 G2 H0 H H' H1 H2 : Hp} {e e' e0 e1 e2 : Sl} {σ σ' σ1 σ2 : L2.St} {os outs : List O} {vs : List V} {v : V} {o r : O}
theorem paired_at {α β : Type} {F : α → β → Prop} : ∀ {l : List α} {m : List β}, l.length = m.length → (∀ (i : Nat) (x : α) (y : β), l[i]? = some x → m[i]? = some y → F x y) → Paired F l m
  | [], [], _, _ => .nil
  | [], _ :: _, h, _ => by simp at h
  | _ :: _, [], h, _ => by simp at h
  | x :: l, y :: m, h, k => .cons (k 0 x y rfl rfl) (paired_at (by simpa using h) fun i a b p q => k (i + 1) a b (by simpa using p) (by simpa using q))
theorem outOs_len : ∀ {os : List O} {e : Sl} {outs : List O}, outOs os e = some outs → outs.length = os.length
  | [], e, outs, h => by
    have h' : some ([] : List O) = some outs := h
    cases h'
    rfl
  | a :: os, e, outs, h => by
    have h : (match outO a ((e[0]?).join), outOs os (e.drop 1) with | some x, some xs => some (x :: xs) | _, _ => none) = some outs := h
    cases q1 : outO a ((e[0]?).join) with
    | none =>
      rw [q1] at h
      cases h
    | some x =>
      cases q2 : outOs os (e.drop 1) with
      | none =>
        rw [q1, q2] at h
        cases h
      | some xs =>
        rw [q1, q2] at h
        cases h
        simp [outOs_len q2]
theorem outOs_at : ∀ {os : List O} {e : Sl} {outs : List O}, outOs os e = some outs → ∀ (i : Nat) (x a : O), outs[i]? = some x → os[i]? = some a → outO a ((e[i]?).join) = some x
  | [], e, outs, h, i, x, a, _, h2 => by simp at h2
  | b :: os, e, outs, h, i, x, a, h1, h2 => by
    have h : (match outO b ((e[0]?).join), outOs os (e.drop 1) with | some x, some xs => some (x :: xs) | _, _ => none) = some outs := h
    cases q1 : outO b ((e[0]?).join) with
    | none =>
      rw [q1] at h
      cases h
    | some y =>
      cases q2 : outOs os (e.drop 1) with
      | none =>
        rw [q1, q2] at h
        cases h
      | some xs =>
        rw [q1, q2] at h
        cases h
        cases i with
        | zero =>
          simp at h1 h2
          subst h1 h2
          exact q1
        | succ i =>
          have := outOs_at q2 i x a (by simpa using h1) (by simpa using h2)
          rw [List.getElem?_drop, Nat.add_comm] at this
          exact this
/-- whose the caller's lists are -/
noncomputable def own0 (os : List O) (vs : List V) : Ow := fun p => @dite _ (∃ (j : Nat) (xs : List D), os[j]? = some (O.ol xs) ∧ vs[j]? = some (V.ref p)) (Classical.propDecidable _) (fun h => some (Classical.choose h)) (fun _ => none)
theorem own0_some {p : Addr} {j : Nat} (h : own0 os vs p = some j) : ∃ xs, os[j]? = some (O.ol xs) ∧ vs[j]? = some (V.ref p) := by
  unfold own0 at h
  by_cases q : ∃ (j : Nat) (xs : List D), os[j]? = some (O.ol xs) ∧ vs[j]? = some (V.ref p)
  · rw [dif_pos q] at h
    have e := Option.some.inj h
    subst e
    exact Classical.choose_spec q
  · rw [dif_neg q] at h
    cases h
theorem own0_at (A : Z.Args K G H os vs) {p : Addr} {j : Nat} {xs : List D} (h1 : os[j]? = some (O.ol xs)) (h2 : vs[j]? = some (V.ref p)) : own0 os vs p = some j := by
  have q : ∃ (j : Nat) (xs : List D), os[j]? = some (O.ol xs) ∧ vs[j]? = some (V.ref p) := ⟨j, xs, h1, h2⟩
  cases w : own0 os vs p with
  | none =>
    unfold own0 at w
    rw [dif_pos q] at w
    cases w
  | some k =>
    obtain ⟨ys, k1, k2⟩ := own0_some w
    rw [A.dst k j p ys xs k1 h1 k2 h2]
theorem join_os {m i : Nat} {o : O} (h : ((os.map some ++ List.replicate m none)[i]?).join = some o) : os[i]? = some o := by
  by_cases hi : i < os.length
  · rw [List.getElem?_append_left (by simpa using hi), List.getElem?_map] at h
    cases q : os[i]? with
    | none =>
      rw [q] at h
      cases h
    | some x =>
      rw [q] at h
      exact h
  · rw [List.getElem?_append_right (by simpa using hi), List.getElem?_replicate] at h
    split at h <;> cases h
theorem start_at {N : List Str} {i : Nat} (h : vs[i]? = some v) : (L2.start N vs)[i]? = some (some v) := by
  have hi : i < vs.length := (List.getElem?_eq_some_iff.mp h).1
  unfold L2.start
  rw [List.getElem?_append_left (by simpa using hi), List.getElem?_map, h]
  rfl
theorem sts0 (A : Z.Args K G H os vs) {N : List Str} {m : Nat} (hm : m = N.length - vs.length) : Sts K (own0 os vs) G H (os.map some ++ List.replicate m none) (L2.start N vs) := by
  refine ⟨A.gh, fun a i h => ?_, ?_, fun i o h => ?_⟩
  · obtain ⟨xs, h1, h2⟩ := own0_some h
    obtain ⟨w, k1, k2⟩ := pairedAt A.rep h1
    rw [h2] at k1
    cases k1
    obtain ⟨p, us, e1, e2, _⟩ := k2
    cases e1
    rw [e2]
    simp
  · unfold L2.start
    rw [List.length_append, List.length_append, List.length_map, List.length_map, List.length_replicate, List.length_replicate, A.rep.length, hm]
  · have h' := join_os h
    obtain ⟨w, k1, k2⟩ := pairedAt A.rep h'
    refine ⟨w, start_at k1, k2, fun p xs e1 e2 => ?_⟩
    subst e1 e2
    exact own0_at A h' k1
theorem ow_at {i : Nat} {xs : List D} (h : os[i]? = some (.ol xs)) : (os.map ownO)[i]? = some true := by
  rw [List.getElem?_map, h]
  rfl
theorem ow_of {i : Nat} (h : (os.map ownO)[i]? = some true) : ∃ xs, os[i]? = some (.ol xs) := by
  rw [List.getElem?_map] at h
  cases q : os[i]? with
  | none =>
    rw [q] at h
    cases h
  | some o =>
    rw [q] at h
    cases o with
    | d x => cases h
    | ol xs => exact ⟨xs, rfl⟩
/-- what stands behind a body is what stands behind a call -/
theorem ret_of {Θ' : Ow} {N : List Str} (A : Z.Args K G H os vs) (nx : Nx K (os.map ownO) (own0 os vs) G H (L2.start N vs) Θ' G' H' σ' e') (ho : outOs os e' = some outs) (rv : RepO K G' H' r v) (fr : Fresh (os.map ownO) Θ' H r v) : Ret K G H os vs r outs v G' H' := by
  refine ⟨nx.st.g, nx.s.gh, fun a o h na => ?_, fun a ⟨j, xs, h1, h2⟩ => ?_, rv, fun p xs e1 e2 => ?_, ?_⟩
  · have t : own0 os vs a = none := by
      cases w : own0 os vs a with
      | none => rfl
      | some k =>
        obtain ⟨ys, k1, k2⟩ := own0_some w
        exact absurd ⟨k, ys, k1, k2⟩ na
    obtain ⟨k1, k2, _⟩ := nx.st.h a o h t
    exact ⟨k1, k2⟩
  · exact nx.s.th a j (nx.st.m a j (own0_at A h1 h2))
  · rcases fr p xs e1 e2 with ⟨_, h⟩ | ⟨i, h1, h2⟩
    · exact h
    · cases q : H p with
      | none => rfl
      | some o =>
        cases w : own0 os vs p with
        | none =>
          have := (nx.st.h p o q w).2.2
          rw [h1] at this
          cases this
        | some k =>
          have := nx.st.m p k w
          rw [h1] at this
          cases this
          obtain ⟨ys, k1, _⟩ := own0_some w
          exact absurd (ow_at k1) h2
  · refine paired_at ((outOs_len ho).trans A.rep.length) fun i x w h1 h2 => ?_
    have hl : i < os.length := by
      have := (List.getElem?_eq_some_iff.mp h1).1
      rw [outOs_len ho] at this
      exact this
    have ha := List.getElem?_eq_getElem hl
    have k := outOs_at ho i x _ h1 ha
    obtain ⟨w', b1, b2⟩ := pairedAt A.rep ha
    rw [h2] at b1
    cases b1
    cases q : os[i] with
    | d y =>
      rw [q] at k b2
      cases k
      exact Rp.mono nx.st.g y _ b2
    | ol ys =>
      rw [q] at k
      have k : (e'[i]?).join = some x := k
      obtain ⟨u, c1, c2, _⟩ := nx.s.sl i x k
      have ho : (os.map ownO)[i]? = some true := ow_at (by rw [ha, q])
      have := nx.own i ho
      rw [start_at h2, c1] at this
      cases this
      exact c2
theorem paired_len {α β : Type} {F : α → β → Prop} {l : List α} {m : List β} (h : Paired F l m) : l.length = m.length := h.length
theorem fnG_step {P : Program} {w : World} {mg : Str → Option Value} {base : Heap} (pg : PgOk T code Dp K mg) (ih : ∀ f, FnG P w K mg base T code Dp n f) (f : Nat) : FnG P w K mg base T code Dp (n + 1) f := by
  intro A outer s H args us vs Q hr hg e0 hb rv hsp
  obtain ⟨G, os, ro, outs, Ag, hrun, fin⟩ := hsp
  obtain ⟨fd, hc, hl⟩ := run_code hrun
  obtain ⟨name, qual, F, S, B, np, ns, m⟩ := pg.df f fd hc
  have hrun : (match fd.nt with | some g => if os.length = fd.np then g os else none | none => runF T.gc (run T.gc code n) fd os) = some (ro, outs) := by
    have h : (match code[f]? with | some fd => (match fd.nt with | some g => if os.length = fd.np then g os else none | none => runF T.gc (run T.gc code n) fd os) | none => none) = some (ro, outs) := hrun
    rw [hc] at h
    exact h
  cases hnt : fd.nt with
  | some g =>
    rw [hnt] at hrun
    have hrun : (if os.length = fd.np then g os else none) = some (ro, outs) := hrun
    rw [if_pos hl] at hrun
    exact pg.nt f fd g hc hnt P w base n ih A outer s H args us vs Q hr hg e0 hb rv ⟨G, os, ro, outs, Ag, hrun, fin⟩
  | none =>
  have m := m hnt
  rw [hnt] at hrun
  have hrun : runF T.gc (run T.gc code n) fd os = some (ro, outs) := hrun
  obtain ⟨oc, od, kV, doc, pm, an, cdv, ct, osl, hfd, lk, hcd⟩ := F.ex
  rw [hfd] at lk hb
  have lv : vs.length = (Dp.ps f).length := by
    have := paired_len Ag.rep
    omega
  have ups : ∀ b o, base.get? b = some o → s.heap.get? b = some o := fun b o e => (e0.bs b o e).1
  have inK : K.In s.heap := e0.mod.kin.keeps ups
  have par : ∀ y ∈ (Dp.ps f).zip us, (defScope (Dp.st f)).names.lookup y.1 = some .local ∨
      ((defScope (Dp.st f)).names.lookup y.1 = some .cell ∧ ((cellsFrom (s.heap.objs.size + 1) (defScope (Dp.st f)).names []).lookup y.1).isSome = true) := by
    rintro ⟨y, u⟩ hy
    rcases S.par y (List.of_mem_zip hy).1 with q | q
    · exact Or.inl q
    · exact Or.inr ⟨q, PySem.W.cellsFrom_some _ _ _ (Or.inl q)⟩
  refine codeAny_call_function (Room.depth hr) (inK _ _ lk) rfl S.co S.gen rfl (PySem.W.codeRec_of inK hcd) (hb _ _ _ _ ?_)
  refine wpAny_newFunctionEnv_cells S.kind par fun env he s1 x => ?_
  rw [he] at x ⊢
  refine ⟨(e0.mod.nolimit.keeps ups).keeps x.toInCall.keep, codeAny_func ?_⟩
  have I := inv_start (CX := CX0) (P := P) (w := w) (K := K) (mg := mg) (base := base) (N := Dp.N f) (E := E0) S hr.hd e0 lv rv x
  have C : Ctx T code Dp n none (cxOf CX0 P w K mg base (Dp.N f) qual (defScope (Dp.st f)) (Dp.addr f) cdv A outer s H E0).nox :=
    ⟨S.nd, rfl, rfl, Room.deeper hr _, hg, pg, ih⟩
  have SS : SC T code Dp n (cxOf CX0 P w K mg base (Dp.N f) qual (defScope (Dp.st f)) (Dp.addr f) cdv A outer s H E0).nox := ⟨C, S.kind, PassesOwn.never⟩
  have st0 : Sts K (own0 os vs) G H (os.map some ++ List.replicate (fd.ns - fd.np) none) (L2.start (Dp.N f) vs) := sts0 Ag (by rw [ns, np, lv])
  have body := sSs (ow := os.map ownO) fd.body SS m st0 { nx := fun _ H' => Q .non H', rt := Q } (by
    unfold runF at hrun
    split at hrun
    · cases q : evSs T.gc (run T.gc code n) (os.map ownO) fd.body (os.map some ++ List.replicate (fd.ns - fd.np) none) with
      | rt o e' =>
        rw [q] at hrun
        cases ho : outOs os e' with
        | none =>
          simp only [ho] at hrun
          cases hrun
        | some xs =>
          simp only [ho] at hrun
          cases hrun
          exact fun Θ' G' H' σ' v nx r1 r2 => fin v G' H' (ret_of Ag nx ho r1 r2)
      | nx e' =>
        rw [q] at hrun
        cases ho : outOs os e' with
        | none =>
          simp only [ho] at hrun
          cases hrun
        | some xs =>
          simp only [ho] at hrun
          cases hrun
          exact fun Θ' G' H' σ' nx => fin .non G' H' (ret_of Ag nx ho Rp.non fun p xs h => (nomatch h))
      | bk e' =>
        rw [q] at hrun
        cases hrun
      | ct e' =>
        rw [q] at hrun
        cases hrun
      | bad =>
        rw [q] at hrun
        cases hrun
    · cases hrun)
  have run1 := (PSs.nox (pss_w (X := (cxOf CX0 P w K mg base (Dp.N f) qual (defScope (Dp.st f)) (Dp.addr f) cdv A outer s H E0).nox) (sts := defBody (Dp.st f)))).run [] s1 (L2.start (Dp.N f) vs) H { nx := fun _ H' => Q .non H', rt := Q } I body
  refine wpAny_mono run1 (fun fl s' hs => ?_) fun e s' hs => hs
  cases fl with
  | next =>
    obtain ⟨σ', H', J, q⟩ := hs
    exact ⟨V.non, H', J.os, J.bare, J.base, J.hok, rfl, q⟩
  | ret u =>
    obtain ⟨v, σ', H', J, r1, q⟩ := hs
    exact ⟨v, H', J.os, J.bare, J.base, J.hok, r1, q⟩
  | brk =>
    obtain ⟨σ', H', J, q⟩ := hs
    exact q.elim
  | cont =>
    obtain ⟨σ', H', J, q⟩ := hs
    exact q.elim
theorem fnG_all {P : Program} {w : World} {mg : Str → Option Value} {base : Heap} (pg : PgOk T code Dp K mg) : ∀ n f, FnG P w K mg base T code Dp n f
  | 0, f => fun A outer s H args us vs Q hr hg e0 hb rv hsp => by
    obtain ⟨G, os, ro, outs, Ag, hrun, fin⟩ := hsp
    cases hrun
  | n + 1, f => fnG_step pg (fnG_all pg n) f
end
end Z

/-! Z18: the law's end. -/
namespace Z
open PySem PySem.Spec PyProof.Rows L2
section
variable {T : Tb} {code : List FD} {Dp : PgT} {n : Nat} {P : Program} {w : World} {K : PySem.W.Frag} {mg mb : Str → Option Value}
/-- what a law's call must come to -/
def Came (s1 : Shared) : Result → Shared → Prop := fun r t => r = .ok (.ret (.bool true)) ∧ OldK s1.heap t.heap ∧ t.os = s1.os ∧ AllBare t.gens
theorem ints_rp {H : Hp} : ∀ ns : List Int, RpA K H (ns.map V.int) (ns.map PyData.int)
  | [] => .nil
  | i :: ns => .cons (.int i) (ints_rp ns)
theorem end_in {f : Nat} {a : Addr} {x : Str} {s1 : Shared} {ns : List Int} {H : Hp} (pg : PgOk T code Dp K mg) (KX : K.In s1.heap) (hns : s1.heap.Ns mainGlobals mg) (hb : s1.heap.Ns builtinsNs mb) (hbb : ∀ y : Str, y ≠ "__name__" → mb y = bootBuiltins y)
    (hlim : s1.heap.NoLimit) (hg : s1.gens = #[]) (hr : Room n callerA) (hps : Dp.ps f = [x]) (hbind : ∀ (s : Shared) (u : Value), BindsTo s (Dp.fd f) ⟨[u], []⟩ [(x, u)])
    (hrun : ∃ outs, run T.gc code n f [.d (.list (ns.map PyData.int))] = some (.d (.bool true), outs))
    (hO : ∀ b, H b ≠ none → b = a ∧ K.lookup b = none ∧ (∃ o xs, H b = some (.frz o (.lst xs))) ∧ ∃ o its m, s1.heap.get? b = some o ∧ o.data = .seq its m) (hS : SqL K H a (ns.map V.int)) (hok : HOk P w H s1.heap) :
    codeAny (model P w) callerA (.call (.ref (Dp.addr f)) ⟨[.ref a], []⟩) (Came s1) s1 := by
  have up : ∀ {b : Addr} {o : Obj}, s1.heap.get? b = some o → H b = none → (hidT s1.heap H).get? b = some o := fun e z => hidT_get e z
  have free : ∀ {b : Addr} {o : Obj} {es : Array DictEntry} {m : Nat}, s1.heap.get? b = some o → o.data = .dict es m → H b = none := fun {b o es m} e z => by
    refine Classical.byContradiction fun q => ?_
    obtain ⟨_, _, _, o', its, m', e', z'⟩ := hO b q
    rw [e] at e'
    cases e'
    rw [z] at z'
    cases z'
  have names : ∀ {b : Addr} {m : Str → Option Value}, s1.heap.Ns b m → (hidT s1.heap H).Ns b m := by
    rintro b m ⟨o, es, ep, e, z, r⟩
    exact ⟨o, es, ep, up e (free e z), z, r⟩
  have inB : K.In (hidT s1.heap H) := fun b o e => up (KX b o e) (Classical.byContradiction fun q => by
    have := (hO b q).2.1
    rw [e] at this
    cases this)
  obtain ⟨mc, lim1, lim2⟩ := hlim
  have M : Mod K mg (hidT s1.heap H) := ⟨inB, names hns, ⟨mb, names hb, hbb⟩, ⟨mc, names lim1, lim2⟩⟩
  have e0 : Env0 P w K mg (hidT s1.heap H) callerA [] s1 H := ⟨rfl, M, fun b o e => of_hidT e, Nat.le_of_eq (hidT_size _ _), trivial, fun b hb => (nomatch hb), hok, .of_eq hg⟩
  obtain ⟨outs, hrun⟩ := hrun
  have sp : spZ K T.gc code n f [.ref a] H (fun v _ => v = .bl true) := by
    refine ⟨H, _, _, outs, ⟨Same.refl _, Paired.cons (F := RepO K H H) (a := O.d (.list (ns.map PyData.int))) (Rp.lst hS (ints_rp ns)) .nil, fun j k p xs ys h1 h2 => ?_⟩, hrun, fun v G' H' R => rp_bl (R.res)⟩
    cases j with
    | zero => cases h1
    | succ j => simp at h1
  have called := fnG_all (P := P) (w := w) (base := hidT s1.heap H) pg n f callerA [] s1 H ⟨[.ref a], []⟩ [.ref a] [.ref a] (fun v _ => v = .bl true) hr rfl e0 (by rw [hps]; exact hbind s1 (.ref a)) (.cons rfl .nil) sp
  refine codeAny_mono called fun r t h => ?_
  rcases r with e | fl
  · exact h.elim
  · cases fl <;> try (exact h.elim)
    rename_i u
    obtain ⟨v, H', os, bare, un, hok', rv, q⟩ := h
    obtain rfl : v = .bl true := q
    obtain rfl : u = Value.bool true := rv
    refine ⟨rfl, OldK.of_keep fun b o e => ?_, os, bare⟩
    by_cases q : H b = none
    · exact un.keep b o e q (fun z => nomatch z) (by simp)
    · obtain ⟨_, _, ⟨ob, xs, z⟩, _⟩ := hO b q
      obtain ⟨e1, _⟩ := hok b _ z
      obtain ⟨e2, _⟩ := hok' b _ (un.frzs b ob _ z)
      rw [e] at e1
      cases e1
      exact e2
theorem end_call {f : Nat} {a : Addr} {x : Str} {s1 : Shared} {vs : List Value} {ns : List Int} (pg : PgOk T code Dp K mg) (KX : K.In s1.heap) (hns : s1.heap.Ns mainGlobals mg) (hb : s1.heap.Ns builtinsNs mb) (hbb : ∀ y : Str, y ≠ "__name__" → mb y = bootBuiltins y)
    (hlim : s1.heap.NoLimit) (hg : s1.gens = #[]) (hr : Room n callerA) (hps : Dp.ps f = [x]) (hbind : ∀ (s : Shared) (u : Value), BindsTo s (Dp.fd f) ⟨[u], []⟩ [(x, u)])
    (hrun : ∃ outs, run T.gc code n f [.d (.list (ns.map PyData.int))] = some (.d (.bool true), outs))
    (ha : s1.heap.get? a = some { cls := .type "list", data := .seq vs.toArray }) (hi : IntsAre vs ns) (hl : ns.length ≤ sizeLine) :
    codeAny (model P w) callerA (.call (.ref (Dp.addr f)) ⟨[.ref a], []⟩) (Came s1) s1 := by
  have rv := vals_ints hi
  by_cases hk : ∃ o, K.lookup a = some o
  · obtain ⟨o, hk⟩ := hk
    have e := KX a o hk
    rw [ha] at e
    cases e
    refine end_in (H := fun _ => none) pg KX hns hb hbb hlim hg hr hps hbind hrun (fun b q => absurd rfl q) (.inr ⟨_, vs.toArray, _, hk, rfl, rfl, rfl, ?_, by simpa using rv⟩) fun b u q => nomatch (show (none : Option HO) = some u from q)
    rw [List.size_toArray, hi.length]
    exact hl
  · have hk : K.lookup a = none := by
      cases q : K.lookup a with
      | none => rfl
      | some o => exact absurd ⟨o, q⟩ hk
    have at1 : ∀ b : Addr, (if b = a then some (HO.frz { cls := .type "list", data := .seq vs.toArray } (.lst (ns.map V.int))) else none) ≠ none → b = a := fun b q => Classical.byContradiction fun z => q (if_neg z)
    refine end_in (H := fun b => if b = a then some (.frz { cls := .type "list", data := .seq vs.toArray } (.lst (ns.map V.int))) else none) pg KX hns hb hbb hlim hg hr hps hbind hrun (fun b q => ?_) (.inl (.inr ⟨{ cls := .type "list", data := .seq vs.toArray }, if_pos rfl⟩)) fun b u q => ?_
    · obtain rfl := at1 b q
      exact ⟨rfl, hk, ⟨_, _, if_pos rfl⟩, _, _, _, ha, rfl⟩
    · have z : b = a := at1 b (fun z => nomatch (show some u = none from q.symm.trans z))
      subst z
      have q' := (if_pos rfl).symm.trans q
      cases q'
      exact ⟨ha, by rw [List.length_map]; exact hl, vs, _, rv, ha⟩
end
/-- a law by its core text -/
theorem walkZ {l : PySem.W.OpenLaw} {m n f : Nat} {q : Program} {loose : List Str} {XP : (Str → Option Value) → Heap → Prop} {YP : World → Heap → Prop} {d : DefRec} {K : Params → PySem.W.Frag} {x : Str} {T : Tb} {code : List FD}
    (hn : l.most = some m) (hn2 : m ≤ sizeLine) (hdf : d.params.defaults = []) (hr : Room n callerA) (hY : ∀ (w : World) (h : Heap), YP w h → (K w.params).In h)
    (F : ∀ (w : World) (mg : Str → Option Value) (fa : Addr) (h : Heap), (K w.params).In h → h.Ns mainGlobals mg → mg d.name = some (.ref fa) →
      ∃ Dp : PgT, Dp.addr f = fa ∧ Dp.ps f = [x] ∧ (∀ (s : Shared) (u : Value), BindsTo s (Dp.fd f) ⟨[u], []⟩ [(x, u)]) ∧ PgOk T code Dp (K w.params) mg)
    (hrun : ∀ ns : List Int, ns.length ≤ m → ∃ outs, run T.gc code n f [.d (.list (ns.map PyData.int))] = some (.d (.bool true), outs)) :
    PySem.W.WalkO q loose XP YP l.row.toRowW d [] (fun f vs => PySem.call f vs) := by
  refine Att.attach_call hn hdf fun w s0 s1 mg mb fa o pm cd doc a vs ns G Y ho hd hcd hmg hobj hints hlen hg => ?_
  have inK := hY w _ Y
  obtain ⟨Dp, rfl, hps, hbind, pg⟩ := F w mg fa _ inK G.T.g hmg
  exact end_call pg inK G.T.g G.T.b G.T.builtins G.T.nolimit hg hr hps hbind (hrun ns hlen) hobj hints (Nat.le_trans hlen hn2)
end Z

/-! W1: the evaluator looked at from its end: what must hold so that the end is reached. Each rule is an equation; simp steps from the head alone. -/
namespace Z
open PySem L2
section
variable {gc : List (Str × D)} {Γ : Gm} {e e' : Sl} {a b c : CE} {es : CEs} {α β : Type} {x : AV} {o : O} {d p q : D} {i n : Nat} {ow : List Bool}
def R.wp (r : R α) (k : α → Sl → Prop) : Prop := match r with
  | .ok a e => k a e
  | .bad => False
def Wo (o : Option α) (k : α → Prop) : Prop := match o with
  | some a => k a
  | none => False
theorem wp_bind {r : R α} {f : α → Sl → R β} {k : β → Sl → Prop} : (r.bind f).wp k = r.wp fun a e => (f a e).wp k := by
  cases r <;> rfl
theorem wp_of {o : Option α} {k : α → Sl → Prop} : (R.of o e).wp k = Wo o fun a => k a e := by
  cases o <;> rfl
theorem wp_iff {r : R α} {k : α → Sl → Prop} : r.wp k ↔ ∃ a e, r = .ok a e ∧ k a e := by
  cases r with
  | ok a e => exact ⟨fun h => ⟨a, e, rfl, h⟩, fun ⟨_, _, h, k⟩ => by cases h; exact k⟩
  | bad => exact ⟨fun h => h.elim, fun ⟨_, _, h, _⟩ => nomatch h⟩
/-! slots -/
def lk (i : Nat) (e : Sl) (k : O → Prop) : Prop := Wo ((e[i]?).join) k
@[simp ↓] theorem lk_0 {o : O} {k} : lk 0 (some o :: e) k = k o := rfl
@[simp ↓] theorem lk_s {u : Option O} {k} : lk (i + 1) (u :: e) k = lk i e k := rfl
def lkd (i : Nat) (e : Sl) (k : D → Prop) : Prop := lk i e fun o => k o.dat
@[simp ↓] theorem lkd_d {x : D} {k} : lkd 0 (some (.d x) :: e) k = k x := rfl
@[simp ↓] theorem lkd_l {xs : List D} {k} : lkd 0 (some (.ol xs) :: e) k = k (.list xs) := rfl
@[simp ↓] theorem lkd_s {u : Option O} {k} : lkd (i + 1) (u :: e) k = lkd i e k := rfl
def dt (a : AV) (e : Sl) (k : D → Prop) : Prop := Wo (a.dat e) k
@[simp ↓] theorem dt_td {x : D} {k} : dt (.tm (.d x)) e k = k x := rfl
@[simp ↓] theorem dt_tl {xs : List D} {k} : dt (.tm (.ol xs)) e k = k (.list xs) := rfl
@[simp ↓] theorem dt_p {k} : dt (.pl i) e k = lkd i e k := by
  show Wo (((e[i]?).join).map O.dat) k = Wo ((e[i]?).join) fun o => k o.dat
  cases (e[i]?).join <;> rfl
def tk (a : AV) (e : Sl) (k : D → Sl → Prop) : Prop := Wo (take a e) fun p => k p.1 p.2
def tkp (i : Nat) (e : Sl) (k : D → Sl → Prop) : Prop := tk (.pl i) e k
@[simp ↓] theorem tk_d {x : D} {k} : tk (.tm (.d x)) e k = k x e := rfl
@[simp ↓] theorem tk_l {xs : List D} {k} : tk (.tm (.ol xs)) e k = k (.list xs) e := rfl
@[simp ↓] theorem tk_p {k} : tk (.pl i) e k = tkp i e k := rfl
@[simp ↓] theorem tkp_d {x : D} {k} : tkp 0 (some (.d x) :: e) k = k x (some (.d x) :: e) := rfl
@[simp ↓] theorem tkp_l {xs : List D} {k} : tkp 0 (some (.ol xs) :: e) k = k (.list xs) (some (.d (.list xs)) :: e) := rfl
@[simp ↓] theorem tkp_s {u : Option O} {k} : tkp (i + 1) (u :: e) k = tkp i e fun x e => k x (u :: e) := by
  unfold tkp tk
  show Wo (match (e[i]?).join with | some (.d x) => some (x, u :: e) | some (.ol xs) => some (.list xs, (u :: e).set (i + 1) (some (.d (.list xs)))) | none => none) _ =
    Wo (match (e[i]?).join with | some (.d x) => some (x, e) | some (.ol xs) => some (.list xs, e.set i (some (.d (.list xs)))) | none => none) _
  cases (e[i]?).join with
  | none => rfl
  | some o => cases o <;> rfl
def tks (as : List AV) (e : Sl) (k : List D → Sl → Prop) : Prop := Wo (takes as e) fun p => k p.1 p.2
@[simp ↓] theorem tks_n {k} : tks [] e k = k [] e := rfl
@[simp ↓] theorem tks_c {as : List AV} {k} : tks (x :: as) e k = tk x e fun d e => tks as e fun ds e => k (d :: ds) e := by
  unfold tks tk
  show Wo (match take x e with | some (y, e) => (match takes as e with | some (xs, e) => some (y :: xs, e) | none => none) | none => none) _ = _
  cases take x e with
  | none => rfl
  | some p =>
    obtain ⟨y, e1⟩ := p
    show Wo (match takes as e1 with | some (xs, e) => some (y :: xs, e) | none => none) _ = Wo (takes as e1) _
    cases takes as e1 <;> rfl
def vl (a : AV) (e : Sl) (k : O → Sl → Prop) : Prop := Wo (valO a e) fun p => k p.1 p.2
@[simp ↓] theorem vl_t {k} : vl (.tm o) e k = k o e := rfl
@[simp ↓] theorem vl_p {k} : vl (.pl i) e k = tkp i e fun x e => k (.d x) e := by
  unfold vl tkp tk
  show Wo ((take (.pl i) e).map fun p => (O.d p.1, p.2)) _ = _
  cases take (.pl i) e <;> rfl
def vls (as : List AV) (e : Sl) (k : List O → Sl → Prop) : Prop := Wo (valOs as e) fun p => k p.1 p.2
@[simp ↓] theorem vls_n {k} : vls [] e k = k [] e := rfl
@[simp ↓] theorem vls_c {as : List AV} {k} : vls (x :: as) e k = vl x e fun d e => vls as e fun ds e => k (d :: ds) e := by
  unfold vls vl
  show Wo (match valO x e with | some (y, e) => (match valOs as e with | some (xs, e) => some (y :: xs, e) | none => none) | none => none) _ = _
  cases valO x e with
  | none => rfl
  | some p =>
    obtain ⟨y, e1⟩ := p
    show Wo (match valOs as e1 with | some (xs, e) => some (y :: xs, e) | none => none) _ = Wo (valOs as e1) _
    cases valOs as e1 <;> rfl
def sto (ow : List Bool) (i : Nat) (o : O) (e : Sl) (k : Sl → Prop) : Prop := Wo (setS ow i o e) k
@[simp ↓] theorem sto_n0 {u : Option O} {k} : sto [] 0 o (u :: e) k = k (some o :: e) := by
  unfold sto setS
  rw [if_pos (by simp)]
  rfl
@[simp ↓] theorem sto_f0 {u : Option O} {k} : sto (false :: ow) 0 o (u :: e) k = k (some o :: e) := by
  unfold sto setS
  rw [if_pos (by simp)]
  rfl
theorem sto_s {w : Bool} {ow' : List Bool} {u : Option O} {k} (h : (w :: ow)[i + 1]? = ow'[i]?) : Wo (setS (w :: ow) (i + 1) o (u :: e)) k = Wo (setS ow' i o e) fun e => k (u :: e) := by
  unfold setS
  rw [h]
  by_cases q : i < e.length ∧ ow'[i]? ≠ some true
  · rw [if_pos q, if_pos ⟨by simpa using q.1, q.2⟩]
    rfl
  · rw [if_neg q, if_neg (fun z => q ⟨by simpa using z.1, z.2⟩)]
    rfl
@[simp ↓] theorem sto_cs {w : Bool} {u : Option O} {k} : sto (w :: ow) (i + 1) o (u :: e) k = sto ow i o e fun e => k (u :: e) := sto_s (by simp)
@[simp ↓] theorem sto_ns {u : Option O} {k} : sto [] (i + 1) o (u :: e) k = sto [] i o e fun e => k (u :: e) := by
  unfold sto setS
  by_cases q : i < e.length ∧ ([] : List Bool)[i]? ≠ some true
  · rw [if_pos q, if_pos ⟨by simpa using q.1, by simp⟩]
    rfl
  · rw [if_neg q, if_neg (fun z => q ⟨by simpa using z.1, by simp⟩)]
    rfl
def stos (ow : List Bool) (is : List Nat) (os : List O) (e : Sl) (k : Sl → Prop) : Prop := Wo (setSs ow is os e) k
@[simp ↓] theorem stos_n {k} : stos ow [] [] e k = k e := rfl
@[simp ↓] theorem stos_c {is : List Nat} {os : List O} {k} : stos ow (i :: is) (o :: os) e k = sto ow i o e fun e => stos ow is os e k := by
  unfold stos sto
  show Wo (match setS ow i o e with | some e => setSs ow is os e | none => none) k = _
  cases setS ow i o e <;> rfl
def stT (ow : List Bool) (t : CT) (d : D) (e : Sl) (k : Sl → Prop) : Prop := Wo (setT ow t d e) k
@[simp ↓] theorem stT_n {k} : stT ow (.nm i) d e k = sto ow i (.d d) e k := rfl
@[simp ↓] theorem stT_t {is : List Nat} {xs : List D} {k} : stT ow (.tp is) (.tuple xs) e k = stos ow is (xs.map O.d) e k := rfl
/-! operations -/
def Bn (o : BOp) (p q : D) (k : O → Prop) : Prop := Wo (binD o p q) k
@[simp ↓] theorem bn_add {i j : Int} {k} : Bn .add (.int i) (.int j) k = k (.d (.int (i + j))) := rfl
@[simp ↓] theorem bn_sub {i j : Int} {k} : Bn .sub (.int i) (.int j) k = k (.d (.int (i - j))) := rfl
theorem bn_cat {x y : Str} {k} (h : x.length + y.length ≤ sizeLine) : Bn .add (.str x) (.str y) k = k (.d (.str (x ++ y))) := by
  show Wo (if x.length + y.length ≤ sizeLine then some (O.d (.str (x ++ y))) else none) k = _
  rw [if_pos h]
  rfl
@[simp ↓] theorem bn_mul {i j : Int} {k} (h : (-(2 ^ 64) < i ∧ i < 2 ^ 64) ∨ (-(2 ^ 64) < j ∧ j < 2 ^ 64)) : Bn .mul (.int i) (.int j) k = k (.d (.int (i * j))) := by
  show Wo (if (-(2 ^ 64) < i ∧ i < 2 ^ 64) ∨ (-(2 ^ 64) < j ∧ j < 2 ^ 64) then some (O.d (.int (i * j))) else none) k = _
  rw [if_pos h]
  rfl
@[simp ↓] theorem bn_fdiv {i j : Int} {k} (h : 0 < j) (h2 : j < 1073741824) : Bn .fdiv (.int i) (.int j) k = k (.d (.int (i / j))) := by
  show Wo (if 0 < j ∧ j < 1073741824 then some (O.d (.int (i / j))) else none) k = _
  rw [if_pos ⟨h, h2⟩]
  rfl
@[simp ↓] theorem bn_mod {i j : Int} {k} (h : 0 < j) : Bn .mod (.int i) (.int j) k = k (.d (.int (i % j))) := by
  show Wo (if 0 < j then some (O.d (.int (i % j))) else none) k = _
  rw [if_pos h]
  rfl
theorem bn_pow {i j : Int} {k} (h : 0 ≤ j ∧ j ≤ 1000000 ∧ i.natAbs < 2 ^ 64) : Bn .pow (.int i) (.int j) k = k (.d (.int (i ^ j.toNat))) := by
  show Wo (if 0 ≤ j ∧ j ≤ 1000000 ∧ i.natAbs < 2 ^ 64 then some (O.d (.int (i ^ j.toNat))) else none) k = _
  rw [if_pos h]
  rfl
def Cm (o : COp) (p q : D) (k : Bool → Prop) : Prop := Wo (cmpD o p q) k
@[simp ↓] theorem cm_lt {i j : Int} {k} : Cm .lt (.int i) (.int j) k = k (decide (i < j)) := rfl
@[simp ↓] theorem cm_le {i j : Int} {k} : Cm .le (.int i) (.int j) k = k (decide (i ≤ j)) := rfl
@[simp ↓] theorem cm_gt {i j : Int} {k} : Cm .gt (.int i) (.int j) k = k (decide (j < i)) := rfl
@[simp ↓] theorem cm_ge {i j : Int} {k} : Cm .ge (.int i) (.int j) k = k (decide (j ≤ i)) := rfl
@[simp ↓] theorem cm_eqI {i j : Int} {k} : Cm .eq (.int i) (.int j) k = k (decide (i = j)) := rfl
@[simp ↓] theorem cm_eqS {x y : Str} {k} : Cm .eq (.str x) (.str y) k = k (decide (x = y)) := rfl
@[simp ↓] theorem cm_eqB {x y : Bool} {k} : Cm .eq (.bool x) (.bool y) k = k (decide (x = y)) := rfl
@[simp ↓] theorem cm_neI {i j : Int} {k} : Cm .ne (.int i) (.int j) k = k (!decide (i = j)) := rfl
@[simp ↓] theorem cm_neS {x y : Str} {k} : Cm .ne (.str x) (.str y) k = k (!decide (x = y)) := rfl
def Ix (p q : D) (k : D → Prop) : Prop := Wo (ixD p q) k
def At (xs : List D) (i : Int) (k : D → Prop) : Prop := Wo (atI xs i) k
@[simp ↓] theorem ix_l {xs : List D} {i : Int} {k} : Ix (.list xs) (.int i) k = At xs i k := rfl
@[simp ↓] theorem ix_t {xs : List D} {i : Int} {k} : Ix (.tuple xs) (.int i) k = At xs i k := rfl
@[simp ↓] theorem at_0 {x : D} {xs : List D} {k} : At (x :: xs) 0 k = k x := by
  unfold At atI ixN
  rw [if_pos (by decide), if_pos (by simp)]
  rfl
@[simp ↓] theorem at_1 {x y : D} {xs : List D} {k} : At (x :: y :: xs) 1 k = k y := by
  unfold At atI ixN
  rw [if_pos (by decide), if_pos (by simp; omega)]
  rfl
@[simp ↓] theorem at_2 {x y z : D} {xs : List D} {k} : At (x :: y :: z :: xs) 2 k = k z := by
  unfold At atI ixN
  rw [if_pos (by decide), if_pos (by simp; omega)]
  rfl
theorem at_nat {xs : List D} {j : Nat} {x : D} {k} (h : xs[j]? = some x) : At xs (j : Int) k = k x := by
  have hl := (List.getElem?_eq_some_iff.mp h).1
  unfold At atI ixN
  rw [if_pos (by omega), if_pos (by omega)]
  show Wo (xs[((j : Int)).toNat]?) k = _
  rw [Int.toNat_natCast, h]
  rfl
def Bt (o : Bi) (p : D) (k : O → Prop) : Prop := Wo (biD o p) k
@[simp ↓] theorem bt_lenL {xs : List D} {k} : Bt .len (.list xs) k = k (.d (.int xs.length)) := rfl
@[simp ↓] theorem bt_lenT {xs : List D} {k} : Bt .len (.tuple xs) k = k (.d (.int xs.length)) := rfl
@[simp ↓] theorem bt_listL {xs : List D} {k} : Bt .list (.list xs) k = k (.ol xs) := rfl
@[simp ↓] theorem bt_listT {xs : List D} {k} : Bt .list (.tuple xs) k = k (.ol xs) := rfl
@[simp ↓] theorem bt_tupL {xs : List D} {k} : Bt .tuple (.list xs) k = k (.d (.tuple xs)) := rfl
@[simp ↓] theorem bt_tupT {xs : List D} {k} : Bt .tuple (.tuple xs) k = k (.d (.tuple xs)) := rfl
@[simp ↓] theorem bt_int {i : Int} {k} : Bt .int (.int i) k = k (.d (.int i)) := rfl
theorem bt_any {bs : List Bool} {k} : Bt .any (.list (bs.map .bool)) k = k (.d (.bool (bs.any id))) := by
  have h : ∀ bs : List Bool, boolsOf (bs.map PyData.bool) = some bs := by
    intro bs
    induction bs with
    | nil => rfl
    | cons b bs ih => simp [boolsOf, ih]
  show Wo ((boolsOf (bs.map PyData.bool)).map fun bs => O.d (.bool (bs.any id))) k = _
  rw [h]
  rfl
theorem bt_all {bs : List Bool} {k} : Bt .all (.list (bs.map .bool)) k = k (.d (.bool (bs.all id))) := by
  have h : ∀ bs : List Bool, boolsOf (bs.map PyData.bool) = some bs := by
    intro bs
    induction bs with
    | nil => rfl
    | cons b bs ih => simp [boolsOf, ih]
  show Wo ((boolsOf (bs.map PyData.bool)).map fun bs => O.d (.bool (bs.all id))) k = _
  rw [h]
  rfl
theorem bt_strI {i : Int} {k} (h : smallInt i = true) : Bt .str (.int i) k = k (.d (.str (toString i))) := by
  show Wo (if smallInt i then some (O.d (.str (toString i))) else none) k = _
  rw [if_pos h]
  rfl
theorem bt_reprI {i : Int} {k} (h : smallInt i = true) : Bt .repr (.int i) k = k (.d (.str (toString i))) := by
  show Wo (if smallInt i then some (O.d (.str (toString i))) else none) k = _
  rw [if_pos h]
  rfl
theorem bt_reprS {x : Str} {k} (h : (reprText x).length ≤ sizeLine) : Bt .repr (.str x) k = k (.d (.str (reprText x))) := by
  show Wo (if (reprText x).length ≤ sizeLine then some (O.d (.str (reprText x))) else none) k = _
  rw [if_pos h]
  rfl
/-- a branch -/
def Br (c : Bool) (A B : Prop) : Prop := if c then A else B
@[simp ↓] theorem br_t {A B : Prop} : Br true A B = A := rfl
@[simp ↓] theorem br_f {A B : Prop} : Br false A B = B := by
  unfold Br
  exact if_neg (by simp)
@[simp ↓] theorem br_dt {p A B : Prop} [Decidable p] (h : p) : Br (decide p) A B = A := by
  unfold Br
  exact if_pos (decide_eq_true h)
@[simp ↓] theorem br_df {p A B : Prop} [Decidable p] (h : ¬ p) : Br (decide p) A B = B := by
  unfold Br
  exact if_neg (by simpa using h)
@[simp ↓] theorem br_n {c : Bool} {A B : Prop} : Br (!c) A B = Br c B A := by
  cases c <;> simp [Br]
theorem br_intro {c : Bool} {A B : Prop} (h1 : c = true → A) (h2 : c = false → B) : Br c A B := by
  cases c with
  | true => exact h1 rfl
  | false =>
    rw [br_f]
    exact h2 rfl
def Tb_ (d : D) (k : Bool → Prop) : Prop := match d with
  | .bool b => k b
  | _ => False
@[simp ↓] theorem tb_b {b : Bool} {k} : Tb_ (.bool b) k = k b := rfl
def In_ (d : D) (k : Int → Prop) : Prop := match d with
  | .int b => k b
  | _ => False
@[simp ↓] theorem in_i {b : Int} {k} : In_ (.int b) k = k b := rfl
def Is_ (d : D) (k : List D → Prop) : Prop := Wo (itemsOf d) k
@[simp ↓] theorem is_l {xs : List D} {k} : Is_ (.list xs) k = k xs := rfl
@[simp ↓] theorem is_t {xs : List D} {k} : Is_ (.tuple xs) k = k xs := rfl
@[simp ↓] theorem is_s {x : Str} {k} (h : x.length ≤ sizeLine) : Is_ (.str x) k = k (x.cps.toList.map fun c => .str ⟨#[c]⟩) := by
  show Wo (if x.length ≤ sizeLine then some (x.cps.toList.map fun c => PyData.str ⟨#[c]⟩) else none) k = _
  rw [if_pos h]
  rfl
/-! calls -/
def ao (as : List AV) (e : Sl) (u : List Nat) (k : List O → Prop) : Prop := if (ownIx e as).Nodup ∧ ∀ i ∈ ownIx e as, i ∉ u then Wo (argL e as) k else False
@[simp ↓] theorem ao_n {u : List Nat} {k} : ao [] e u k = k [] := by
  unfold ao
  rw [if_pos ⟨List.nodup_nil, fun _ h => nomatch h⟩]
  rfl
theorem argL_c {as : List AV} {k : List O → Prop} {f : AV} : Wo (argL e (f :: as)) k = Wo (argO e f) fun o => Wo (argL e as) fun os => k (o :: os) := by
  show Wo (match argO e f, argL e as with | some o, some os => some (o :: os) | _, _ => none) k = _
  cases argO e f with
  | none => rfl
  | some o => cases argL e as <;> rfl
@[simp ↓] theorem ao_td {as : List AV} {u : List Nat} {k} : ao (.tm (.d d) :: as) e u k = ao as e u fun os => k (.d d :: os) := by
  unfold ao
  rw [argL_c]
  rfl
@[simp ↓] theorem ao_tl {xs : List D} {as : List AV} {u : List Nat} {k} : ao (.tm (.ol xs) :: as) e u k = ao as e u fun os => k (.d (.list xs) :: os) := by
  unfold ao
  rw [argL_c]
  rfl
def aop (i : Nat) (o : O) (as : List AV) (e : Sl) (u : List Nat) (k : List O → Prop) : Prop := match o with
  | .d x => ao as e u fun os => k (.d x :: os)
  | .ol xs => i ∉ u ∧ ao as e (i :: u) fun os => k (.ol xs :: os)
@[simp ↓] theorem aop_d {as : List AV} {u : List Nat} {k} : aop i (.d d) as e u k = ao as e u fun os => k (.d d :: os) := rfl
@[simp ↓] theorem aop_l {xs : List D} {as : List AV} {u : List Nat} {k} (h : i ∉ u) : aop i (.ol xs) as e u k = ao as e (i :: u) fun os => k (.ol xs :: os) := by
  unfold aop
  simp [h]
@[simp ↓] theorem ao_p {as : List AV} {u : List Nat} {k} : ao (.pl i :: as) e u k = lk i e fun o => aop i o as e u k := by
  unfold ao lk
  have h1 : ownIx e (.pl i :: as) = if isOwn ((e[i]?).join) then i :: ownIx e as else ownIx e as := rfl
  have h2 : argO e (.pl i) = (e[i]?).join := rfl
  rw [argL_c, h1, h2]
  cases q : (e[i]?).join with
  | none =>
    simp [Wo]
  | some o =>
    cases o with
    | d x => rfl
    | ol xs =>
      show (if (i :: ownIx e as).Nodup ∧ (∀ j ∈ i :: ownIx e as, j ∉ u) then _ else False) = (i ∉ u ∧ ao as e (i :: u) fun os => k (.ol xs :: os))
      unfold ao
      by_cases z : i ∉ u
      · by_cases y : (ownIx e as).Nodup ∧ ∀ j ∈ ownIx e as, j ∉ i :: u
        · rw [if_pos y, if_pos]
          · simp [z, Wo]
          · refine ⟨List.nodup_cons.mpr ⟨fun h => y.2 i h List.mem_cons_self, y.1⟩, fun j hj => ?_⟩
            rcases List.mem_cons.mp hj with rfl | hj
            · exact z
            · exact fun h => y.2 j hj (List.mem_cons_of_mem _ h)
        · rw [if_neg y, if_neg]
          · simp
          · rintro ⟨h1, h2⟩
            obtain ⟨h3, h4⟩ := List.nodup_cons.mp h1
            refine y ⟨h4, fun j hj => ?_⟩
            rw [List.mem_cons, not_or]
            exact ⟨fun q => h3 (q ▸ hj), h2 j (List.mem_cons_of_mem _ hj)⟩
      · rw [if_neg]
        · simp [z]
        · rintro ⟨_, h2⟩
          exact z (h2 i List.mem_cons_self)
def po1 (a : AV) (oi o : O) (e : Sl) (k : Sl → Prop) : Prop := k (putO a oi o e)
@[simp ↓] theorem po1_d {a : AV} {k} : po1 a (.d d) o e k = k e := by
  cases a <;> rfl
@[simp ↓] theorem po1_t {u w : O} {k} : po1 (.tm w) u o e k = k e := by
  cases u <;> rfl
@[simp ↓] theorem po1_0 {xs : List D} {u : Option O} {k} : po1 (.pl 0) (.ol xs) o (u :: e) k = k (some o :: e) := rfl
@[simp ↓] theorem po1_s {xs : List D} {u : Option O} {k} : po1 (.pl (i + 1)) (.ol xs) o (u :: e) k = po1 (.pl i) (.ol xs) o e fun e => k (u :: e) := rfl
def po (as : List AV) (os outs : List O) (e : Sl) (k : Sl → Prop) : Prop := k (putOs as os outs e)
@[simp ↓] theorem po_n {os outs : List O} {k} : po [] os outs e k = k e := by
  unfold po putOs
  cases os <;> cases outs <;> rfl
@[simp ↓] theorem po_c {as : List AV} {u w : O} {os outs : List O} {k} : po (x :: as) (u :: os) (w :: outs) e k = po as os outs e fun e => po1 x u w e k := rfl
def Ca (Γ : Gm) (f : Nat) (os : List O) (k : O → List O → Prop) : Prop := Wo (Γ f os) fun r => k r.1 r.2
theorem ca_of {f : Nat} {os outs : List O} {r : O} {k} (h : Γ f os = some (r, outs)) : Ca Γ f os k = k r outs := by
  unfold Ca
  rw [h]
  rfl
/-! expressions -/
def We (gc : List (Str × D)) (Γ : Gm) (c : CE) (e : Sl) (k : AV → Sl → Prop) : Prop := (evE gc Γ c e).wp k
def Wes (gc : List (Str × D)) (Γ : Gm) (c : CEs) (e : Sl) (k : List AV → Sl → Prop) : Prop := (evEs gc Γ c e).wp k
def Wt (gc : List (Str × D)) (Γ : Gm) (c : CE) (e : Sl) (k : Bool → Sl → Prop) : Prop := (testV (evE gc Γ c e)).wp k
def Wp (gc : List (Str × D)) (Γ : Gm) (c : CP) (e : Sl) (k : Option Int → Sl → Prop) : Prop := (evP gc Γ c e).wp k
def Wf (gc : List (Str × D)) (Γ : Gm) (c : CP) (e : Sl) (k : Bool → Sl → Prop) : Prop := (evIf gc Γ c e).wp k
def Wi (gc : List (Str × D)) (Γ : Gm) (c : CI) (e : Sl) (k : List D → Sl → Prop) : Prop := (evI gc Γ c e).wp k
def Wj (gc : List (Str × D)) (Γ : Gm) (c : CEs) (acc : Str) (e : Sl) (k : Str → Sl → Prop) : Prop := (evF gc Γ c acc e).wp k
theorem wt_eq {k} : Wt gc Γ a e k = We gc Γ a e fun x e => dt x e fun d => Tb_ d fun b => k b e := by
  unfold Wt We testV
  rw [wp_bind]
  congr 1
  funext x e
  unfold dt
  cases x.dat e with
  | none => rfl
  | some d => cases d <;> rfl
@[simp ↓] theorem we_non {k} : We gc Γ .non e k = k (.tm (.d .none)) e := rfl
@[simp ↓] theorem we_bl {b : Bool} {k} : We gc Γ (.bl b) e k = k (.tm (.d (.bool b))) e := rfl
@[simp ↓] theorem we_int {i : Int} {k} : We gc Γ (.int i) e k = k (.tm (.d (.int i))) e := rfl
@[simp ↓] theorem we_str {s : Str} {k} : We gc Γ (.str s) e k = k (.tm (.d (.str s))) e := rfl
@[simp ↓] theorem we_v {k} : We gc Γ (.v i) e k = lk i e fun _ => k (.pl i) e := by
  unfold We lk
  show R.wp (match (e[i]?).join with | some _ => R.ok (AV.pl i) e | none => .bad) k = _
  cases (e[i]?).join <;> rfl
@[simp ↓] theorem we_gl {j : Nat} {k} : We gc Γ (.gl j) e k = Wo (gc[j]?) fun p => k (.tm (.d p.2)) e := by
  unfold We
  show R.wp (match gc[j]? with | some p => R.ok (AV.tm (.d p.2)) e | none => .bad) k = _
  cases gc[j]? <;> rfl
theorem dt2 {x y : AV} {f : D → D → R α} {k : α → Sl → Prop} : (match x.dat e, y.dat e with | some p, some q => f p q | _, _ => R.bad).wp k = dt x e fun p => dt y e fun q => (f p q).wp k := by
  unfold dt
  cases x.dat e with
  | none => rfl
  | some p => cases y.dat e <;> rfl
theorem dt1 {x : AV} {f : D → R α} {k : α → Sl → Prop} : (match x.dat e with | some p => f p | none => R.bad).wp k = dt x e fun p => (f p).wp k := by
  unfold dt
  cases x.dat e <;> rfl
@[simp ↓] theorem we_bin {o : BOp} {k} : We gc Γ (.bin o a b) e k = We gc Γ a e fun x e => We gc Γ b e fun y e => dt x e fun p => dt y e fun q => Bn o p q fun r => k (.tm r) e := by
  show R.wp ((evE gc Γ a e).bind fun x e => (evE gc Γ b e).bind fun y e => match x.dat e, y.dat e with
    | some p, some q => (R.of (binD o p q) e).bind fun r e => .ok (.tm r) e
    | _, _ => .bad) k = _
  simp only [wp_bind, dt2, wp_of]
  rfl
@[simp ↓] theorem we_neg {k} : We gc Γ (.neg a) e k = We gc Γ a e fun x e => dt x e fun p => In_ p fun i => k (.tm (.d (.int (-i)))) e := by
  show R.wp ((evE gc Γ a e).bind fun x e => match x.dat e with
    | some (.int i) => .ok (.tm (.d (.int (-i)))) e
    | _ => .bad) k = _
  rw [wp_bind]
  congr 1
  funext x e
  unfold dt
  cases x.dat e with
  | none => rfl
  | some d => cases d <;> rfl
@[simp ↓] theorem we_cmp {o : COp} {k} : We gc Γ (.cmp o a b) e k = We gc Γ a e fun x e => We gc Γ b e fun y e => dt x e fun p => dt y e fun q => Cm o p q fun r => k (.tm (.d (.bool r))) e := by
  show R.wp ((evE gc Γ a e).bind fun x e => (evE gc Γ b e).bind fun y e => match x.dat e, y.dat e with
    | some p, some q => (R.of (cmpD o p q) e).bind fun r e => .ok (.tm (.d (.bool r))) e
    | _, _ => .bad) k = _
  simp only [wp_bind, dt2, wp_of]
  rfl
@[simp ↓] theorem we_chn {o o' : COp} {k} : We gc Γ (.chn o o' a b c) e k = We gc Γ a e fun x e => We gc Γ b e fun y e => dt x e fun p => dt y e fun q => Cm o p q fun r => Br r (We gc Γ c e fun z e => dt y e fun q => dt z e fun u => Cm o' q u fun r => k (.tm (.d (.bool r))) e) (k (.tm (.d (.bool false))) e) := by
  show R.wp ((evE gc Γ a e).bind fun x e => (evE gc Γ b e).bind fun y e => match x.dat e, y.dat e with
    | some p, some q => (R.of (cmpD o p q) e).bind fun r e => if r then (evE gc Γ c e).bind fun z e => match y.dat e, z.dat e with
        | some q, some u => (R.of (cmpD o' q u) e).bind fun r e => .ok (.tm (.d (.bool r))) e
        | _, _ => .bad
      else .ok (.tm (.d (.bool false))) e
    | _, _ => .bad) k = _
  simp only [wp_bind, dt2, wp_of]
  show R.wp _ _ = R.wp _ _
  congr 1
  funext x e
  show R.wp _ _ = R.wp _ _
  congr 1
  funext y e
  congr 1
  funext p
  congr 1
  funext q
  show Wo _ _ = Wo _ _
  congr 1
  funext r
  cases r with
  | false => rfl
  | true =>
    show R.wp ((evE gc Γ c e).bind _) k = (evE gc Γ c e).wp _
    simp only [wp_bind, dt2, wp_of]
    rfl
@[simp ↓] theorem we_isN {k} : We gc Γ (.isN a) e k = We gc Γ a e fun x e => dt x e fun p => k (.tm (.d (.bool (isNoneD p)))) e := by
  show R.wp ((evE gc Γ a e).bind fun x e => match x.dat e with
    | some p => .ok (.tm (.d (.bool (isNoneD p)))) e
    | none => .bad) k = _
  simp only [wp_bind, dt1]
  rfl
@[simp ↓] theorem we_notN {k} : We gc Γ (.notN a) e k = We gc Γ a e fun x e => dt x e fun p => k (.tm (.d (.bool (!isNoneD p)))) e := by
  show R.wp ((evE gc Γ a e).bind fun x e => match x.dat e with
    | some p => .ok (.tm (.d (.bool (!isNoneD p)))) e
    | none => .bad) k = _
  simp only [wp_bind, dt1]
  rfl
@[simp ↓] theorem we_isB {b : Bool} {k} : We gc Γ (.isB a b) e k = We gc Γ a e fun x e => dt x e fun p => k (.tm (.d (.bool (isBoolD b p)))) e := by
  show R.wp ((evE gc Γ a e).bind fun x e => match x.dat e with
    | some p => .ok (.tm (.d (.bool (isBoolD b p)))) e
    | none => .bad) k = _
  simp only [wp_bind, dt1]
  rfl
theorem wp_if {c : Bool} {r1 r2 : R α} {k : α → Sl → Prop} : (if c then r1 else r2).wp k = Br c (r1.wp k) (r2.wp k) := by
  cases c <;> rfl
@[simp ↓] theorem we_and {k} : We gc Γ (.and a b) e k = Wt gc Γ a e fun c e => Br c (We gc Γ b e k) (k (.tm (.d (.bool false))) e) := by
  show R.wp ((testV (evE gc Γ a e)).bind fun c e => if c then evE gc Γ b e else .ok (.tm (.d (.bool false))) e) k = _
  simp only [wp_bind, wp_if]
  rfl
@[simp ↓] theorem we_or {k} : We gc Γ (.or a b) e k = Wt gc Γ a e fun c e => Br c (k (.tm (.d (.bool true))) e) (We gc Γ b e k) := by
  show R.wp ((testV (evE gc Γ a e)).bind fun c e => if c then .ok (.tm (.d (.bool true))) e else evE gc Γ b e) k = _
  simp only [wp_bind, wp_if]
  rfl
@[simp ↓] theorem we_not {k} : We gc Γ (.not a) e k = Wt gc Γ a e fun c e => k (.tm (.d (.bool (!c)))) e := by
  show R.wp ((testV (evE gc Γ a e)).bind fun c e => .ok (.tm (.d (.bool (!c)))) e) k = _
  simp only [wp_bind]
  rfl
@[simp ↓] theorem we_ifx {k} : We gc Γ (.ifx a b c) e k = Wt gc Γ a e fun t e => Br t (We gc Γ b e k) (We gc Γ c e k) := by
  show R.wp ((testV (evE gc Γ a e)).bind fun t e => if t then evE gc Γ b e else evE gc Γ c e) k = _
  simp only [wp_bind, wp_if]
  rfl
/-- tests step through and, or, not -/
@[simp ↓] theorem wt_and {k} : Wt gc Γ (.and a b) e k = Wt gc Γ a e fun c e => Br c (Wt gc Γ b e k) (k false e) := by
  rw [wt_eq, we_and]
  congr 1
  funext c e
  cases c with
  | true =>
    rw [br_t, br_t, wt_eq]
  | false =>
    rw [br_f, br_f]
    rfl
@[simp ↓] theorem wt_or {k} : Wt gc Γ (.or a b) e k = Wt gc Γ a e fun c e => Br c (k true e) (Wt gc Γ b e k) := by
  rw [wt_eq, we_or]
  congr 1
  funext c e
  cases c with
  | true =>
    rw [br_t, br_t]
    rfl
  | false =>
    rw [br_f, br_f, wt_eq]
@[simp ↓] theorem wt_not {k} : Wt gc Γ (.not a) e k = Wt gc Γ a e fun c e => k (!c) e := by
  rw [wt_eq, we_not]
  rfl
@[simp ↓] theorem wt_ifx {k} : Wt gc Γ (.ifx a b c) e k = Wt gc Γ a e fun t e => Br t (Wt gc Γ b e k) (Wt gc Γ c e k) := by
  rw [wt_eq, we_ifx]
  congr 1
  funext t e
  cases t with
  | true => rw [br_t, br_t, wt_eq]
  | false => rw [br_f, br_f, wt_eq]
@[simp ↓] theorem wt_bl {b : Bool} {k} : Wt gc Γ (.bl b) e k = k b e := rfl
@[simp ↓] theorem wt_v {k} : Wt gc Γ (.v i) e k = lkd i e fun d => Tb_ d fun b => k b e := by
  rw [wt_eq, we_v]
  unfold lkd lk
  cases q : (e[i]?).join with
  | none => rfl
  | some o =>
    show dt (.pl i) e _ = _
    rw [dt_p]
    unfold lkd lk
    rw [q]
@[simp ↓] theorem wt_cmp {o : COp} {k} : Wt gc Γ (.cmp o a b) e k = We gc Γ a e fun x e => We gc Γ b e fun y e => dt x e fun p => dt y e fun q => Cm o p q fun r => k r e := by
  rw [wt_eq, we_cmp]
  rfl
@[simp ↓] theorem wt_chn {o o' : COp} {k} : Wt gc Γ (.chn o o' a b c) e k = We gc Γ a e fun x e => We gc Γ b e fun y e => dt x e fun p => dt y e fun q => Cm o p q fun r => Br r (We gc Γ c e fun z e => dt y e fun q => dt z e fun u => Cm o' q u fun r => k r e) (k false e) := by
  rw [wt_eq, we_chn]
  rfl
@[simp ↓] theorem wt_isN {k} : Wt gc Γ (.isN a) e k = We gc Γ a e fun x e => dt x e fun p => k (isNoneD p) e := by
  rw [wt_eq, we_isN]
  rfl
@[simp ↓] theorem wt_notN {k} : Wt gc Γ (.notN a) e k = We gc Γ a e fun x e => dt x e fun p => k (!isNoneD p) e := by
  rw [wt_eq, we_notN]
  rfl
@[simp ↓] theorem wt_isB {b : Bool} {k} : Wt gc Γ (.isB a b) e k = We gc Γ a e fun x e => dt x e fun p => k (isBoolD b p) e := by
  rw [wt_eq, we_isB]
  rfl
@[simp ↓] theorem we_ix {k} : We gc Γ (.ix a b) e k = We gc Γ a e fun x e => We gc Γ b e fun y e => dt x e fun p => dt y e fun q => Ix p q fun r => k (.tm (.d r)) e := by
  show R.wp ((evE gc Γ a e).bind fun x e => (evE gc Γ b e).bind fun y e => match x.dat e, y.dat e with
    | some p, some q => (R.of (ixD p q) e).bind fun r e => .ok (.tm (.d r)) e
    | _, _ => .bad) k = _
  simp only [wp_bind, dt2, wp_of]
  rfl
@[simp ↓] theorem we_bi {o : Bi} {k} : We gc Γ (.bi o a) e k = We gc Γ a e fun x e => dt x e fun p => Bt o p fun r => k (.tm r) e := by
  show R.wp ((evE gc Γ a e).bind fun x e => match x.dat e with
    | some p => (R.of (biD o p) e).bind fun r e => .ok (.tm r) e
    | none => .bad) k = _
  simp only [wp_bind, dt1, wp_of]
  rfl
@[simp ↓] theorem we_isi {t : Ty} {k} : We gc Γ (.isi a t) e k = We gc Γ a e fun x e => dt x e fun p => k (.tm (.d (.bool (tyD t p)))) e := by
  show R.wp ((evE gc Γ a e).bind fun x e => match x.dat e with
    | some p => .ok (.tm (.d (.bool (tyD t p)))) e
    | none => .bad) k = _
  simp only [wp_bind, dt1]
  rfl
@[simp ↓] theorem wt_isi {t : Ty} {k} : Wt gc Γ (.isi a t) e k = We gc Γ a e fun x e => dt x e fun p => k (tyD t p) e := by
  rw [wt_eq, we_isi]
  rfl
@[simp ↓] theorem wt_bi {o : Bi} {k} : Wt gc Γ (.bi o a) e k = We gc Γ a e fun x e => dt x e fun p => Bt o p fun r => Tb_ r.dat fun b => k b e := by
  rw [wt_eq, we_bi]
  rfl
@[simp ↓] theorem wt_ix {k} : Wt gc Γ (.ix a b) e k = We gc Γ a e fun x e => We gc Γ b e fun y e => dt x e fun p => dt y e fun q => Ix p q fun r => Tb_ r fun b => k b e := by
  rw [wt_eq, we_ix]
  rfl
@[simp ↓] theorem we_tup {k} : We gc Γ (.tup es) e k = Wes gc Γ es e fun as e => tks as e fun ds e => k (.tm (.d (.tuple ds))) e := by
  show R.wp ((evEs gc Γ es e).bind fun avs e => match takes avs e with
    | some (ds, e) => .ok (.tm (.d (.tuple ds))) e
    | none => .bad) k = _
  rw [wp_bind]
  show R.wp _ _ = R.wp _ _
  congr 1
  funext as e
  unfold tks
  cases takes as e <;> rfl
@[simp ↓] theorem we_lst {k} : We gc Γ (.lst es) e k = Wes gc Γ es e fun as e => tks as e fun ds e => k (.tm (.ol ds)) e := by
  show R.wp ((evEs gc Γ es e).bind fun avs e => match takes avs e with
    | some (ds, e) => .ok (.tm (.ol ds)) e
    | none => .bad) k = _
  rw [wp_bind]
  show R.wp _ _ = R.wp _ _
  congr 1
  funext as e
  unfold tks
  cases takes as e <;> rfl
@[simp ↓] theorem wes_n0 {k} : Wes gc Γ .nil e k = k [] e := rfl
def Mt (m : Me) (p q : D) (k : O → Prop) : Prop := match p with
  | .str t => Wo (meD m (.str t) q) k
  | _ => False
def Rv (p : D) (k : Str → Prop) : Prop := match p with
  | .str t => k t
  | _ => False
@[simp ↓] theorem rv_s {t : Str} {k} : Rv (.str t) k = k t := rfl
@[simp ↓] theorem we_me {m : Me} {k} : We gc Γ (.me m a b) e k = We gc Γ a e fun x e => dt x e fun p => Rv p fun t => We gc Γ b e fun y e => dt y e fun q => Mt m (.str t) q fun r => k (.tm r) e := by
  show R.wp ((evE gc Γ a e).bind fun x e => match x.dat e with
    | some (.str t) => (evE gc Γ b e).bind fun y e => match y.dat e with
      | some q => (R.of (meD m (.str t) q) e).bind fun r e => .ok (.tm r) e
      | none => .bad
    | _ => .bad) k = _
  rw [wp_bind]
  show R.wp _ _ = R.wp _ _
  congr 1
  funext x e
  unfold dt
  cases x.dat e with
  | none => rfl
  | some p =>
    cases p <;> try rfl
    rename_i t
    show R.wp ((evE gc Γ b e).bind fun y e => match y.dat e with
      | some q => (R.of (meD m (.str t) q) e).bind fun r e => .ok (.tm r) e
      | none => .bad) k = We gc Γ b e _
    simp only [wp_bind, dt1, wp_of]
    rfl
def Fz (n : Nat) (p : D) (k : O → Prop) : Prop := match p with
  | .int i => (0 ≤ i ∧ i < 1000000000000000000) ∧ k (.d (.str (padZ n i)))
  | _ => False
@[simp ↓] theorem we_fz {n : Nat} {k} : We gc Γ (.fz a n) e k = We gc Γ a e fun x e => dt x e fun p => Fz n p fun r => k (.tm r) e := by
  show R.wp ((evE gc Γ a e).bind fun x e => match x.dat e with
    | some (.int i) => if 0 ≤ i ∧ i < 1000000000000000000 then .ok (.tm (.d (.str (padZ n i)))) e else .bad
    | _ => .bad) k = _
  rw [wp_bind]
  show R.wp _ _ = R.wp _ _
  congr 1
  funext x e
  unfold dt
  cases x.dat e with
  | none => rfl
  | some p =>
    cases p <;> try rfl
    rename_i i
    show R.wp (if 0 ≤ i ∧ i < 1000000000000000000 then .ok (.tm (.d (.str (padZ n i)))) e else .bad) k = (_ ∧ _)
    by_cases h : 0 ≤ i ∧ i < 1000000000000000000
    · rw [if_pos h, eq_true h, true_and]
      rfl
    · rw [if_neg h, eq_false h, false_and]
      rfl
theorem fz_i {n : Nat} {i : Int} {k} (h : 0 ≤ i ∧ i < 1000000000000000000) : Fz n (.int i) k = k (.d (.str (padZ n i))) := by
  show (_ ∧ _) = _
  rw [eq_true h, true_and]
theorem mt_join' {t : Str} {ys : List Str} {k} (h : (ys.map (·.length)).sum + ys.length * t.length ≤ 16777216) : Mt .join (.str t) (.list (ys.map .str)) k = k (.d (.str (Txt.join t ys))) := by
  have hs : ∀ ys : List Str, strsOf (ys.map PyData.str) = some ys := by
    intro ys
    induction ys with
    | nil => rfl
    | cons y ys ih => simp [strsOf, ih]
  show Wo (match strsOf (ys.map PyData.str) with
    | some ys => if (ys.map (·.length)).sum + ys.length * t.length ≤ 16777216 then some (O.d (.str (Txt.join t ys))) else none
    | none => none) k = _
  rw [hs]
  show Wo (if (ys.map (·.length)).sum + ys.length * t.length ≤ 16777216 then some (O.d (.str (Txt.join t ys))) else none) k = _
  rw [if_pos h]
  rfl
theorem mt_index' {t b : Str} {i : Nat} {r : List Nat} {k} (h : Builtin.Str.occurrences t b 0 t.length 1 = i :: r) : Mt .index (.str t) (.str b) k = k (.d (.int i)) := by
  show Wo (match Builtin.Str.occurrences t b 0 t.length 1 with
    | i :: _ => some (O.d (.int (i : Nat)))
    | [] => none) k = _
  rw [h]
  rfl
theorem bt_intS {x : Str} {n : Int} {k} (h : x.length ≤ 640) (q : PySem.intText? x = some n) : Bt .int (.str x) k = k (.d (.int n)) := by
  show Wo (if x.length ≤ 640 then (PySem.intText? x).map fun n => O.d (.int n) else none) k = _
  rw [if_pos h, q]
  rfl
@[simp ↓] theorem wes_n {k} : Wes gc Γ .nil e k = k [] e := rfl
@[simp ↓] theorem wes_c {k} : Wes gc Γ (.cons a es) e k = We gc Γ a e fun x e => Wes gc Γ es e fun xs e => k (x :: xs) e := by
  show R.wp ((evE gc Γ a e).bind fun x e => (evEs gc Γ es e).bind fun xs e => .ok (x :: xs) e) k = _
  simp only [wp_bind]
  rfl
@[simp ↓] theorem we_call {f : Nat} {k} : We gc Γ (.call f es) e k = Wes gc Γ es e fun as e => ao as e [] fun os => Ca Γ f os fun r outs => po as os outs e fun e => k (.tm r) e := by
  show R.wp ((evEs gc Γ es e).bind fun avs e => match argOs avs e with
    | some os => (R.of (Γ f os) e).bind fun r e => .ok (.tm r.1) (putOs avs os r.2 e)
    | none => .bad) k = _
  rw [wp_bind]
  show R.wp _ _ = R.wp _ _
  congr 1
  funext as e
  unfold ao argOs
  by_cases h : (ownIx e as).Nodup
  · rw [if_pos h, if_pos ⟨h, fun _ _ => by simp⟩]
    cases argL e as with
    | none => rfl
    | some os =>
      show R.wp ((R.of (Γ f os) e).bind _) k = Wo (Γ f os) _
      rw [wp_bind, wp_of]
      rfl
  · rw [if_neg h, if_neg (fun z => h z.1)]
    rfl
@[simp ↓] theorem wt_call {f : Nat} {k} : Wt gc Γ (.call f es) e k = Wes gc Γ es e fun as e => ao as e [] fun os => Ca Γ f os fun r outs => po as os outs e fun e => Tb_ r.dat fun b => k b e := by
  rw [wt_eq, we_call]
  rfl
@[simp ↓] theorem wp_no {k} : Wp gc Γ .no e k = k none e := rfl
@[simp ↓] theorem wp_yes {k} : Wp gc Γ (.yes a) e k = We gc Γ a e fun x e => dt x e fun p => In_ p fun i => k (some i) e := by
  show R.wp ((evE gc Γ a e).bind fun x e => match x.dat e with
    | some (.int i) => .ok (some i) e
    | _ => .bad) k = _
  rw [wp_bind]
  show R.wp _ _ = R.wp _ _
  congr 1
  funext x e
  unfold dt
  cases x.dat e with
  | none => rfl
  | some d => cases d <;> rfl
@[simp ↓] theorem wf_no {k} : Wf gc Γ .no e k = k true e := rfl
@[simp ↓] theorem wf_yes {k} : Wf gc Γ (.yes a) e k = Wt gc Γ a e k := rfl
def Sc (d : D) (lo hi : Option Int) (k : O → Prop) : Prop := Wo (slD d lo hi) k
@[simp ↓] theorem sc_l {xs : List D} {lo hi : Option Int} {k} : Sc (.list xs) lo hi k = k (.ol (cutL xs lo hi)) := rfl
@[simp ↓] theorem sc_s {x : Str} {lo hi : Option Int} {k} (h : x.length ≤ sizeLine) : Sc (.str x) lo hi k = k (.d (.str (cutS x lo hi))) := by
  show Wo (if x.length ≤ sizeLine then some (O.d (.str (cutS x lo hi))) else none) k = _
  rw [if_pos h]
  rfl
@[simp ↓] theorem we_sl {l h : CP} {k} : We gc Γ (.sl a l h) e k = We gc Γ a e fun x e => Wp gc Γ l e fun l e => Wp gc Γ h e fun h e => dt x e fun p => Sc p l h fun r => k (.tm r) e := by
  show R.wp ((evE gc Γ a e).bind fun x e => (evP gc Γ l e).bind fun l e => (evP gc Γ h e).bind fun h e => match x.dat e with
    | some p => (R.of (slD p l h) e).bind fun r e => .ok (.tm r) e
    | none => .bad) k = _
  simp only [wp_bind, dt1, wp_of]
  rfl
def Rg (lo hi : Int) (k : List D → Prop) : Prop := ((-(2 ^ 62) ≤ lo ∧ lo < 2 ^ 62) ∧ (-(2 ^ 62) ≤ hi ∧ hi < 2 ^ 62) ∧ hi - lo ≤ sizeLine) ∧ k (rangeD lo (hi - lo).toNat)
def Rg1 (n : Int) (k : List D → Prop) : Prop := (n ≤ sizeLine ∧ -(2 ^ 62) ≤ n) ∧ k (rangeD 0 n.toNat)
@[simp ↓] theorem we_lr1 {k} : We gc Γ (.lr1 a) e k = We gc Γ a e fun x e => dt x e fun p => In_ p fun n => Rg1 n fun ds => k (.tm (.ol ds)) e := by
  show R.wp ((evE gc Γ a e).bind fun x e => match x.dat e with
    | some (.int n) => if n ≤ sizeLine ∧ -(2 ^ 62) ≤ n then .ok (.tm (.ol (rangeD 0 n.toNat))) e else .bad
    | _ => .bad) k = _
  rw [wp_bind]
  show R.wp _ _ = R.wp _ _
  congr 1
  funext x e
  unfold dt
  cases x.dat e with
  | none => rfl
  | some d =>
    cases d <;> try rfl
    rename_i n
    show R.wp (if n ≤ sizeLine ∧ -(2 ^ 62) ≤ n then .ok (.tm (.ol (rangeD 0 n.toNat))) e else .bad) k = ((n ≤ sizeLine ∧ -(2 ^ 62) ≤ n) ∧ _)
    by_cases h : n ≤ sizeLine ∧ -(2 ^ 62) ≤ n
    · rw [if_pos h]
      simp only [h, and_self, true_and]
      rfl
    · rw [if_neg h]
      simp only [h, false_and]
      rfl
@[simp ↓] theorem wi_e {k} : Wi gc Γ (.e a) e k = We gc Γ a e fun x e => tk x e fun d e => Is_ d fun xs => k xs e := by
  show R.wp ((evE gc Γ a e).bind fun x e => match take x e with
    | some (d, e) => R.of (itemsOf d) e
    | none => .bad) k = _
  rw [wp_bind]
  show R.wp _ _ = R.wp _ _
  congr 1
  funext x e
  unfold tk
  cases take x e with
  | none => rfl
  | some p =>
    obtain ⟨d, e1⟩ := p
    show R.wp (R.of (itemsOf d) e1) k = Wo (itemsOf d) _
    cases itemsOf d <;> rfl
@[simp ↓] theorem wi_r1 {k} : Wi gc Γ (.r1 a) e k = We gc Γ a e fun x e => dt x e fun p => In_ p fun n => Rg1 n fun ds => k ds e := by
  show R.wp ((evE gc Γ a e).bind fun x e => match x.dat e with
    | some (.int n) => if n ≤ sizeLine ∧ -(2 ^ 62) ≤ n then .ok (rangeD 0 n.toNat) e else .bad
    | _ => .bad) k = _
  rw [wp_bind]
  show R.wp _ _ = R.wp _ _
  congr 1
  funext x e
  unfold dt
  cases x.dat e with
  | none => rfl
  | some d =>
    cases d <;> try rfl
    rename_i n
    show R.wp (if n ≤ sizeLine ∧ -(2 ^ 62) ≤ n then .ok (rangeD 0 n.toNat) e else .bad) k = ((n ≤ sizeLine ∧ -(2 ^ 62) ≤ n) ∧ _)
    by_cases h : n ≤ sizeLine ∧ -(2 ^ 62) ≤ n
    · rw [if_pos h]
      simp only [h, and_self, true_and]
      rfl
    · rw [if_neg h]
      simp only [h, false_and]
      rfl
@[simp ↓] theorem wi_r2 {k} : Wi gc Γ (.r2 a b) e k = We gc Γ a e fun x e => We gc Γ b e fun y e => dt x e fun p => In_ p fun n => dt y e fun q => In_ q fun m => Rg n m fun ds => k ds e := by
  show R.wp ((evE gc Γ a e).bind fun x e => (evE gc Γ b e).bind fun y e => match x.dat e, y.dat e with
    | some (.int n), some (.int m) => if (-(2 ^ 62) ≤ n ∧ n < 2 ^ 62) ∧ (-(2 ^ 62) ≤ m ∧ m < 2 ^ 62) ∧ m - n ≤ sizeLine then .ok (rangeD n (m - n).toNat) e else .bad
    | _, _ => .bad) k = _
  rw [wp_bind]
  show R.wp _ _ = R.wp _ _
  congr 1
  funext x e
  rw [wp_bind]
  show R.wp _ _ = R.wp _ _
  congr 1
  funext y e
  unfold dt
  cases x.dat e with
  | none => rfl
  | some d =>
    cases hy : y.dat e with
    | none => cases d <;> rfl
    | some d2 =>
      cases d <;> try rfl
      rename_i n
      cases d2 <;> try rfl
      rename_i m
      show R.wp (if (-(2 ^ 62) ≤ n ∧ n < 2 ^ 62) ∧ (-(2 ^ 62) ≤ m ∧ m < 2 ^ 62) ∧ m - n ≤ sizeLine then .ok (rangeD n (m - n).toNat) e else .bad) k = (_ ∧ _)
      by_cases h : (-(2 ^ 62) ≤ n ∧ n < 2 ^ 62) ∧ (-(2 ^ 62) ≤ m ∧ m < 2 ^ 62) ∧ m - n ≤ sizeLine
      · rw [if_pos h]
        show k _ _ = (_ ∧ k _ _)
        rw [eq_true h, true_and]
      · rw [if_neg h]
        show False = _
        rw [eq_false h, false_and]
def Fm (d : D) (k : Str → Prop) : Prop := Wo (fmtD d) k
theorem fm_i {i : Int} {k} (h : smallInt i = true) : Fm (.int i) k = k (toString i) := by
  show Wo (if smallInt i then some (toString i : Str) else none) k = _
  rw [if_pos h]
  rfl
@[simp ↓] theorem we_fv {k} : We gc Γ (.fv a) e k = We gc Γ a e fun x e => dt x e fun p => Fm p fun y => k (.tm (.d (.str y))) e := by
  show R.wp ((evE gc Γ a e).bind fun x e => match x.dat e with
    | some p => (R.of (fmtD p) e).bind fun y e => .ok (.tm (.d (.str y))) e
    | none => .bad) k = _
  simp only [wp_bind, dt1, wp_of]
  rfl
@[simp ↓] theorem we_fs {k} : We gc Γ (.fs es) e k = Wj gc Γ es Str.empty e fun x e => k (.tm (.d (.str x))) e := by
  show R.wp ((evF gc Γ es Str.empty e).bind fun x e => .ok (.tm (.d (.str x))) e) k = _
  rw [wp_bind]
  rfl
def Js (acc : Str) (d : D) (k : Str → Prop) : Prop := match d with
  | .str y => (acc ++ y).length ≤ sizeLine ∧ k (acc ++ y)
  | _ => False
@[simp ↓] theorem wj_n {acc : Str} {k} : Wj gc Γ .nil acc e k = k acc e := rfl
@[simp ↓] theorem wj_c {acc : Str} {k} : Wj gc Γ (.cons a es) acc e k = We gc Γ a e fun x e => dt x e fun d => Js acc d fun acc => Wj gc Γ es acc e k := by
  show R.wp ((evE gc Γ a e).bind fun x e => match x.dat e with
    | some (.str y) => if (acc ++ y).length ≤ sizeLine then evF gc Γ es (acc ++ y) e else .bad
    | _ => .bad) k = _
  rw [wp_bind]
  show R.wp _ _ = R.wp _ _
  congr 1
  funext x e
  unfold dt
  cases x.dat e with
  | none => rfl
  | some d =>
    cases d <;> try rfl
    rename_i y
    show R.wp (if (acc ++ y).length ≤ sizeLine then evF gc Γ es (acc ++ y) e else .bad) k = (_ ∧ _)
    by_cases h : (acc ++ y).length ≤ sizeLine
    · rw [if_pos h, eq_true h, true_and]
      rfl
    · rw [if_neg h, eq_false h, false_and]
      rfl
/-! comprehensions -/
def T1 (gc : List (Str × D)) (Γ : Gm) (ws : List Nat) (t : CT) (ifs : CP) (el : CE) (x : D) (e : Sl) (k : Option D → Sl → Prop) : Prop :=
  stT [] t x e fun e => Wf gc Γ ifs e fun c e => Br c (We gc Γ el e fun y e => tk y e fun d e => k (some d) (wipeE e ws)) (k none (wipeE e ws))
theorem turn_wp {ws : List Nat} {t : CT} {ifs : CP} {el : CE} {x : D} {k} : (turnL gc Γ ws t ifs el x e).wp k = T1 gc Γ ws t ifs el x e k := by
  unfold T1 turnL stT
  cases setT [] t x e with
  | none => rfl
  | some e =>
    show R.wp ((evIf gc Γ ifs e).bind _) k = R.wp _ _
    rw [wp_bind]
    congr 1
    funext c e
    rw [wp_if]
    congr 1
    rw [wp_bind]
    show R.wp _ _ = R.wp _ _
    congr 1
    funext y e
    unfold tk
    cases take y e <;> rfl
def Lc (gc : List (Str × D)) (Γ : Gm) (ws : List Nat) (t : CT) (ifs : CP) (el : CE) (xs : List D) (e : Sl) (k : List D → Sl → Prop) : Prop :=
  noOwn e ws = true ∧ (lcL (turnL gc Γ ws t ifs el) xs (wipeE e ws)).wp fun ds e1 => k ds (backE e e1 ws)
@[simp ↓] theorem we_lc {ws : List Nat} {t : CT} {it : CI} {ifs : CP} {el : CE} {k} : We gc Γ (.lc ws t it ifs el) e k = Wi gc Γ it e fun xs e => Lc gc Γ ws t ifs el xs e fun ds e => k (.tm (.ol ds)) e := by
  show R.wp ((evI gc Γ it e).bind fun xs e0 => if noOwn e0 ws then (lcL (turnL gc Γ ws t ifs el) xs (wipeE e0 ws)).bind fun ds e => .ok (.tm (.ol ds)) (backE e0 e ws) else .bad) k = _
  rw [wp_bind]
  show R.wp _ _ = R.wp _ _
  congr 1
  funext xs e
  unfold Lc
  by_cases h : noOwn e ws = true
  · rw [if_pos h, eq_true h, true_and, wp_bind]
    rfl
  · rw [if_neg h, eq_false h, false_and]
    rfl
theorem lcL_inv {body : D → Sl → R (Option D)} {P : Nat → List D → Sl → Prop} {k : List D → Sl → Prop} : ∀ (xs : List D) (j : Nat) (acc : List D) (e : Sl), P j acc e →
    (∀ i x acc e, xs[i]? = some x → P (j + i) acc e → (body x e).wp fun r e => P (j + i + 1) (acc ++ r.toList) e) → (∀ acc e, P (j + xs.length) acc e → k acc e) → (lcL body xs e).wp fun ds e => k (acc ++ ds) e
  | [], j, acc, e, h0, _, hk => by
    show k (acc ++ []) e
    rw [List.append_nil]
    exact hk acc e h0
  | x :: xs, j, acc, e, h0, hs, hk => by
    show R.wp ((body x e).bind fun r e => (lcL body xs e).bind fun rs e => .ok (r.toList ++ rs) e) _
    rw [wp_bind]
    obtain ⟨r, e1, h1, h2⟩ := wp_iff.mp (hs 0 x acc e rfl h0)
    rw [h1]
    show R.wp ((lcL body xs e1).bind _) _
    rw [wp_bind]
    have := lcL_inv (k := k) xs (j + 1) (acc ++ r.toList) e1 (by simpa using h2) (fun i y acc e hy hp => by
      have := hs (i + 1) y acc e (by simpa using hy) (by rw [show j + (i + 1) = j + 1 + i by omega]; exact hp)
      rw [show j + (i + 1) + 1 = j + 1 + i + 1 by omega] at this
      exact this) (fun acc e hp => hk acc e (by rw [List.length_cons, show j + (xs.length + 1) = j + 1 + xs.length by omega]; exact hp))
    obtain ⟨ds, e2, h3, h4⟩ := wp_iff.mp this
    rw [h3]
    show k (acc ++ (r.toList ++ ds)) e2
    rw [← List.append_assoc]
    exact h4
/-- a comprehension by an invariant: of what is behind i turns, of the slots (own names wiped) -/
theorem lc_inv {ws : List Nat} {t : CT} {ifs : CP} {el : CE} {xs : List D} {k : List D → Sl → Prop} (P : Nat → List D → Sl → Prop) (hn : noOwn e ws = true) (h0 : P 0 [] (wipeE e ws))
    (hs : ∀ i x acc e, xs[i]? = some x → P i acc e → T1 gc Γ ws t ifs el x e fun r e => P (i + 1) (acc ++ r.toList) e) (hk : ∀ acc e1, P xs.length acc e1 → k acc (backE e e1 ws)) : Lc gc Γ ws t ifs el xs e k := by
  refine ⟨hn, ?_⟩
  have := lcL_inv (body := turnL gc Γ ws t ifs el) (P := P) (k := fun ds e1 => k ds (backE e e1 ws)) xs 0 [] (wipeE e ws) h0 (fun i x acc e hx hp => by
    rw [turn_wp]
    simpa using hs i x acc e hx (by simpa using hp)) (fun acc e1 hp => hk acc e1 (by simpa using hp))
  simpa using this
/-! statements -/
def Fl.wp (f : Fl) (kn : Sl → Prop) (kr : O → Sl → Prop) (kb kc : Sl → Prop) : Prop := match f with
  | .nx e => kn e
  | .rt o e => kr o e
  | .bk e => kb e
  | .ct e => kc e
  | .bad => False
variable {kn kb kc : Sl → Prop} {kr : O → Sl → Prop}
def Ws (gc : List (Str × D)) (Γ : Gm) (ow : List Bool) (c : CS) (e : Sl) (kn : Sl → Prop) (kr : O → Sl → Prop) (kb kc : Sl → Prop) : Prop := (evS gc Γ ow c e).wp kn kr kb kc
def Wss (gc : List (Str × D)) (Γ : Gm) (ow : List Bool) (c : CSs) (e : Sl) (kn : Sl → Prop) (kr : O → Sl → Prop) (kb kc : Sl → Prop) : Prop := (evSs gc Γ ow c e).wp kn kr kb kc
theorem fl_of {r : R α} {f : α → Sl → Fl} : (Fl.of r f).wp kn kr kb kc = r.wp fun a e => (f a e).wp kn kr kb kc := by
  cases r <;> rfl
theorem fl_if {c : Bool} {f g : Fl} : (if c then f else g).wp kn kr kb kc = Br c (f.wp kn kr kb kc) (g.wp kn kr kb kc) := by
  cases c <;> rfl
@[simp ↓] theorem wss_n : Wss gc Γ ow .nil e kn kr kb kc = kn e := rfl
@[simp ↓] theorem wss_c {s : CS} {r : CSs} : Wss gc Γ ow (.cons s r) e kn kr kb kc = Ws gc Γ ow s e (fun e => Wss gc Γ ow r e kn kr kb kc) kr kb kc := by
  show Fl.wp (match evS gc Γ ow s e with
    | .nx e => evSs gc Γ ow r e
    | .rt o e => .rt o e
    | .bk e => .bk e
    | .ct e => .ct e
    | .bad => .bad) kn kr kb kc = Fl.wp _ _ _ _ _
  cases evS gc Γ ow s e <;> rfl
@[simp ↓] theorem ws_asg : Ws gc Γ ow (.asg i a) e kn kr kb kc = We gc Γ a e fun x e => vl x e fun o e => sto ow i o e kn := by
  show Fl.wp (Fl.of (evE gc Γ a e) fun x e => match valO x e with
    | some (o, e) => match setS ow i o e with
      | some e => .nx e
      | none => .bad
    | none => .bad) kn kr kb kc = R.wp _ _
  rw [fl_of]
  congr 1
  funext x e
  unfold vl sto
  cases valO x e with
  | none => rfl
  | some p =>
    obtain ⟨o, e1⟩ := p
    show Fl.wp (match setS ow i o e1 with | some e => .nx e | none => .bad) kn kr kb kc = Wo (setS ow i o e1) kn
    cases setS ow i o e1 <;> rfl
@[simp ↓] theorem ws_asgT {is : List Nat} : Ws gc Γ ow (.asgT is es) e kn kr kb kc = Wes gc Γ es e fun xs e => vls xs e fun os e => stos ow is os e kn := by
  show Fl.wp (Fl.of (evEs gc Γ es e) fun xs e => match valOs xs e with
    | some (os, e) => match setSs ow is os e with
      | some e => .nx e
      | none => .bad
    | none => .bad) kn kr kb kc = R.wp _ _
  rw [fl_of]
  congr 1
  funext xs e
  unfold vls stos
  cases valOs xs e with
  | none => rfl
  | some p =>
    obtain ⟨os, e1⟩ := p
    show Fl.wp (match setSs ow is os e1 with | some e => .nx e | none => .bad) kn kr kb kc = Wo (setSs ow is os e1) kn
    cases setSs ow is os e1 <;> rfl
@[simp ↓] theorem ws_unp {is : List Nat} : Ws gc Γ ow (.unp is a) e kn kr kb kc = We gc Γ a e fun x e => tk x e fun d e => stT ow (.tp is) d e kn := by
  show Fl.wp (Fl.of (evE gc Γ a e) fun x e => match take x e with
    | some (d, e) => match setT ow (.tp is) d e with
      | some e => .nx e
      | none => .bad
    | none => .bad) kn kr kb kc = R.wp _ _
  rw [fl_of]
  congr 1
  funext xs e
  unfold tk stT
  cases take xs e with
  | none => rfl
  | some p =>
    obtain ⟨d, e1⟩ := p
    show Fl.wp (match setT ow (.tp is) d e1 with | some e => .nx e | none => .bad) kn kr kb kc = Wo (setT ow (.tp is) d e1) kn
    cases setT ow (.tp is) d e1 <;> rfl
@[simp ↓] theorem ws_ex : Ws gc Γ ow (.ex a) e kn kr kb kc = We gc Γ a e fun _ e => kn e := by
  show Fl.wp (Fl.of (evE gc Γ a e) fun _ e => .nx e) kn kr kb kc = R.wp _ _
  rw [fl_of]
  rfl
def apd (i : Nat) (d : D) (e : Sl) (k : Sl → Prop) : Prop := match (e[i]?).join with
  | some (.ol xs) => xs.length < sizeLine ∧ k (e.set i (some (.ol (xs ++ [d]))))
  | _ => False
@[simp ↓] theorem apd_0 {xs : List D} {k} (h : xs.length < sizeLine) : apd 0 d (some (.ol xs) :: e) k = k (some (.ol (xs ++ [d])) :: e) := by
  show (xs.length < sizeLine ∧ _) = _
  rw [eq_true h, true_and]
  rfl
@[simp ↓] theorem apd_s {u : Option O} {k} : apd (i + 1) d (u :: e) k = apd i d e fun e => k (u :: e) := rfl
def own_ (i : Nat) (e : Sl) (A : Prop) : Prop := isOwn ((e[i]?).join) = true ∧ A
@[simp ↓] theorem own_0 {xs : List D} {A : Prop} : own_ 0 (some (.ol xs) :: e) A = A := by
  show (true = true ∧ A) = A
  simp
@[simp ↓] theorem own_s {u : Option O} {A : Prop} : own_ (i + 1) (u :: e) A = own_ i e A := rfl
@[simp ↓] theorem ws_app : Ws gc Γ ow (.app i a) e kn kr kb kc = own_ i e (We gc Γ a e fun x e => tk x e fun d e => apd i d e kn) := by
  show Fl.wp (if isOwn ((e[i]?).join) = true then Fl.of (evE gc Γ a e) fun x e => match take x e with
      | some (d, e) => match (e[i]?).join with
        | some (.ol xs) => if xs.length < sizeLine then .nx (e.set i (some (.ol (xs ++ [d])))) else .bad
        | _ => .bad
      | none => .bad
    else .bad) kn kr kb kc = (_ ∧ _)
  by_cases h : isOwn ((e[i]?).join) = true
  · rw [if_pos h, eq_true h, true_and, fl_of]
    show R.wp _ _ = R.wp _ _
    congr 1
    funext x e
    unfold tk apd
    cases take x e with
    | none => rfl
    | some p =>
      obtain ⟨d, e1⟩ := p
      show Fl.wp (match (e1[i]?).join with
        | some (.ol xs) => if xs.length < sizeLine then .nx (e1.set i (some (.ol (xs ++ [d])))) else .bad
        | _ => .bad) kn kr kb kc = (match (e1[i]?).join with
        | some (.ol xs) => xs.length < sizeLine ∧ kn (e1.set i (some (.ol (xs ++ [d]))))
        | _ => False)
      cases (e1[i]?).join with
      | none => rfl
      | some o =>
        cases o with
        | d x => rfl
        | ol xs =>
          show Fl.wp (if xs.length < sizeLine then .nx (e1.set i (some (.ol (xs ++ [d])))) else .bad) kn kr kb kc = (_ ∧ _)
          by_cases z : xs.length < sizeLine
          · rw [if_pos z, eq_true z, true_and]
            rfl
          · rw [if_neg z, eq_false z, false_and]
            rfl
  · rw [if_neg h, eq_false h, false_and]
    rfl
def sti_ (i : Nat) (j : Int) (d : D) (e : Sl) (k : Sl → Prop) : Prop := match (e[i]?).join with
  | some (.ol xs) => Wo (ixN xs.length j) fun n => k (e.set i (some (.ol (xs.set n d))))
  | _ => False
theorem sti_0 {xs : List D} {j : Int} {m : Nat} {k} (h : ixN xs.length j = some m) : sti_ 0 j d (some (.ol xs) :: e) k = k (some (.ol (xs.set m d)) :: e) := by
  show Wo (ixN xs.length j) _ = _
  rw [h]
  rfl
@[simp ↓] theorem sti_01 {x y : D} {xs : List D} {k} : sti_ 0 1 d (some (.ol (x :: y :: xs)) :: e) k = k (some (.ol (x :: d :: xs)) :: e) := sti_0 (m := 1) (by
  unfold ixN
  rw [if_pos (by decide), if_pos (by simp; omega)]
  rfl)
@[simp ↓] theorem sti_s {u : Option O} {j : Int} {k} : sti_ (i + 1) j d (u :: e) k = sti_ i j d e fun e => k (u :: e) := rfl
@[simp ↓] theorem ws_sti : Ws gc Γ ow (.sti i b a) e kn kr kb kc = own_ i e (We gc Γ a e fun x e => We gc Γ b e fun y e => dt y e fun j => In_ j fun j => tk x e fun d e => sti_ i j d e kn) := by
  show Fl.wp (if isOwn ((e[i]?).join) = true then Fl.of (evE gc Γ a e) fun x e => Fl.of (evE gc Γ b e) fun y e => match y.dat e with
      | some (.int j) => match take x e with
        | some (d, e) => match (e[i]?).join with
          | some (.ol xs) => match ixN xs.length j with
            | some n => .nx (e.set i (some (.ol (xs.set n d))))
            | none => .bad
          | _ => .bad
        | none => .bad
      | _ => .bad
    else .bad) kn kr kb kc = (_ ∧ _)
  by_cases h : isOwn ((e[i]?).join) = true
  · rw [if_pos h, eq_true h, true_and, fl_of]
    show R.wp _ _ = R.wp _ _
    congr 1
    funext x e
    rw [fl_of]
    show R.wp _ _ = R.wp _ _
    congr 1
    funext y e
    unfold dt
    cases y.dat e with
    | none => rfl
    | some yd =>
      cases yd <;> try rfl
      rename_i j
      show Fl.wp (match take x e with
        | some (d, e) => match (e[i]?).join with
          | some (.ol xs) => match ixN xs.length j with
            | some n => .nx (e.set i (some (.ol (xs.set n d))))
            | none => .bad
          | _ => .bad
        | none => .bad) kn kr kb kc = tk x e fun d e => sti_ i j d e kn
      unfold tk sti_
      cases take x e with
      | none => rfl
      | some p =>
        obtain ⟨d, e1⟩ := p
        show Fl.wp (match (e1[i]?).join with
          | some (.ol xs) => match ixN xs.length j with
            | some n => .nx (e1.set i (some (.ol (xs.set n d))))
            | none => .bad
          | _ => .bad) kn kr kb kc = (match (e1[i]?).join with
          | some (.ol xs) => Wo (ixN xs.length j) fun n => kn (e1.set i (some (.ol (xs.set n d))))
          | _ => False)
        cases (e1[i]?).join with
        | none => rfl
        | some o =>
          cases o with
          | d x => rfl
          | ol xs =>
            show Fl.wp (match ixN xs.length j with
              | some n => .nx (e1.set i (some (.ol (xs.set n d))))
              | none => .bad) kn kr kb kc = Wo (ixN xs.length j) _
            cases ixN xs.length j <;> rfl
  · rw [if_neg h, eq_false h, false_and]
    rfl
def rto (ow : List Bool) (a : AV) (e : Sl) (k : O → Sl → Prop) : Prop := Wo (retO ow a e) fun p => k p.1 p.2
@[simp ↓] theorem rto_t {k} : rto ow (.tm o) e k = k o e := rfl
def rtp (ow : List Bool) (i : Nat) (e : Sl) (k : O → Sl → Prop) : Prop := rto ow (.pl i) e k
@[simp ↓] theorem rto_p {k} : rto ow (.pl i) e k = rtp ow i e k := rfl
@[simp ↓] theorem rtp_d {k} : rtp ow 0 (some (.d d) :: e) k = k (.d d) (some (.d d) :: e) := rfl
@[simp ↓] theorem rtp_ln {xs : List D} {k} : rtp [] 0 (some (.ol xs) :: e) k = k (.ol xs) (none :: e) := rfl
@[simp ↓] theorem rtp_lf {xs : List D} {k} : rtp (false :: ow) 0 (some (.ol xs) :: e) k = k (.ol xs) (none :: e) := rfl
theorem rtp_s {w : Bool} {ow' : List Bool} {u : Option O} {k} (h : ow[i + 1]? = ow'[i]?) : rtp ow (i + 1) (u :: e) k = rtp ow' i e fun o e => k o (u :: e) := by
  unfold rtp rto
  show Wo (match (e[i]?).join with
    | some (.d x) => some (O.d x, u :: e)
    | some (.ol xs) => if ow[i + 1]? = some true then some (.d (.list xs), (u :: e).set (i + 1) (some (.d (.list xs)))) else some (.ol xs, (u :: e).set (i + 1) none)
    | none => none) _ = Wo (match (e[i]?).join with
    | some (.d x) => some (O.d x, e)
    | some (.ol xs) => if ow'[i]? = some true then some (.d (.list xs), e.set i (some (.d (.list xs)))) else some (.ol xs, e.set i none)
    | none => none) _
  rw [h]
  cases (e[i]?).join with
  | none => rfl
  | some o =>
    cases o with
    | d x => rfl
    | ol xs =>
      show Wo (if ow'[i]? = some true then _ else _) _ = Wo (if ow'[i]? = some true then _ else _) _
      by_cases z : ow'[i]? = some true
      · rw [if_pos z, if_pos z]
        rfl
      · rw [if_neg z, if_neg z]
        rfl
@[simp ↓] theorem rtp_cs {w : Bool} {u : Option O} {k} : rtp (w :: ow) (i + 1) (u :: e) k = rtp ow i e fun o e => k o (u :: e) := rtp_s (w := w) (by simp)
@[simp ↓] theorem rtp_ns {u : Option O} {k} : rtp [] (i + 1) (u :: e) k = rtp [] i e fun o e => k o (u :: e) := rtp_s (w := true) (by simp)
@[simp ↓] theorem ws_ret : Ws gc Γ ow (.ret a) e kn kr kb kc = We gc Γ a e fun x e => rto ow x e kr := by
  show Fl.wp (Fl.of (evE gc Γ a e) fun x e => match retO ow x e with
    | some (o, e) => .rt o e
    | none => .bad) kn kr kb kc = R.wp _ _
  rw [fl_of]
  congr 1
  funext x e
  unfold rto
  cases retO ow x e <;> rfl
@[simp ↓] theorem ws_retN : Ws gc Γ ow .retN e kn kr kb kc = kr (.d .none) e := rfl
@[simp ↓] theorem ws_brk : Ws gc Γ ow .brk e kn kr kb kc = kb e := rfl
@[simp ↓] theorem ws_cnt : Ws gc Γ ow .cnt e kn kr kb kc = kc e := rfl
@[simp ↓] theorem ws_pass : Ws gc Γ ow .pass e kn kr kb kc = kn e := rfl
@[simp ↓] theorem ws_ifs {s r : CSs} : Ws gc Γ ow (.ifs a s r) e kn kr kb kc = Wt gc Γ a e fun c e => Br c (Wss gc Γ ow s e kn kr kb kc) (Wss gc Γ ow r e kn kr kb kc) := by
  show Fl.wp (Fl.of (evT gc Γ a e) fun c e => if c then evSs gc Γ ow s e else evSs gc Γ ow r e) kn kr kb kc = R.wp _ _
  rw [fl_of]
  congr 1
  funext c e
  rw [fl_if]
  rfl
def Aug (o : BOp) (p q : D) (k : D → Prop) : Prop := Wo (augD o p q) k
@[simp ↓] theorem aug_add {i j : Int} {k} : Aug .add (.int i) (.int j) k = k (.int (i + j)) := rfl
theorem aug_cat {x y : Str} {k} (h : x.length + y.length ≤ sizeLine) : Aug .add (.str x) (.str y) k = k (.str (x ++ y)) := by
  show Wo (if x.length + y.length ≤ sizeLine then some (PyData.str (x ++ y)) else none) k = _
  rw [if_pos h]
  rfl
@[simp ↓] theorem aug_sub {i j : Int} {k} : Aug .sub (.int i) (.int j) k = k (.int (i - j)) := rfl
def lkq (i : Nat) (e : Sl) (k : D → Prop) : Prop := match (e[i]?).join with
  | some (.d x) => k x
  | _ => False
@[simp ↓] theorem lkq_0 {k} : lkq 0 (some (.d d) :: e) k = k d := rfl
@[simp ↓] theorem lkq_s {u : Option O} {k} : lkq (i + 1) (u :: e) k = lkq i e k := rfl
@[simp ↓] theorem ws_aug {o : BOp} : Ws gc Γ ow (.aug i o a) e kn kr kb kc = lkq i e fun _ => We gc Γ a e fun x e => lkq i e fun p => dt x e fun q => Aug o p q fun r => sto ow i (.d r) e kn := by
  show Fl.wp (match (e[i]?).join with
    | some (.d _) => Fl.of (evE gc Γ a e) fun x e => match (e[i]?).join, x.dat e with
      | some (.d p), some q => match augD o p q with
        | some r => match setS ow i (.d r) e with
          | some e => .nx e
          | none => .bad
        | none => .bad
      | _, _ => .bad
    | _ => .bad) kn kr kb kc = _
  unfold lkq
  cases (e[i]?).join with
  | none => rfl
  | some u0 =>
    cases u0 with
    | ol xs => rfl
    | d d0 =>
      show Fl.wp (Fl.of (evE gc Γ a e) _) kn kr kb kc = R.wp _ _
      rw [fl_of]
      congr 1
      funext x e
      unfold dt Aug sto
      cases (e[i]?).join with
      | none => rfl
      | some u =>
        cases x.dat e with
        | none => cases u <;> rfl
        | some q =>
          cases u with
          | ol xs => rfl
          | d p =>
            show Fl.wp (match augD o p q with
              | some r => match setS ow i (.d r) e with
                | some e => .nx e
                | none => .bad
              | none => .bad) kn kr kb kc = Wo (augD o p q) fun r => Wo (setS ow i (.d r) e) kn
            cases augD o p q with
            | none => rfl
            | some r =>
              show Fl.wp (match setS ow i (.d r) e with
                | some e => .nx e
                | none => .bad) kn kr kb kc = Wo (setS ow i (.d r) e) kn
              cases setS ow i (.d r) e <;> rfl
/-! loops -/
def Fr (gc : List (Str × D)) (Γ : Gm) (ow : List Bool) (t : CT) (b : CSs) (xs : List D) (e : Sl) (kn : Sl → Prop) (kr : O → Sl → Prop) : Prop :=
  (forL (fun x e => match setT ow t x e with | some e => evSs gc Γ ow b e | none => .bad) xs e).wp kn kr (fun _ => False) fun _ => False
theorem forL_ends {body : D → Sl → Fl} {kb' kc' : Sl → Prop} : ∀ (xs : List D) (e : Sl), (forL body xs e).wp kn kr kb kc = (forL body xs e).wp kn kr kb' kc'
  | [], _ => rfl
  | x :: xs, e => by
    unfold forL
    cases body x e with
    | nx e => exact forL_ends xs e
    | ct e => exact forL_ends xs e
    | bk e => rfl
    | rt o e => rfl
    | bad => rfl
@[simp ↓] theorem ws_for {t : CT} {it : CI} {s : CSs} : Ws gc Γ ow (.for t it s) e kn kr kb kc = Wi gc Γ it e fun xs e => Fr gc Γ ow t s xs e kn kr := by
  show Fl.wp (Fl.of (evI gc Γ it e) fun xs e => forL _ xs e) kn kr kb kc = R.wp _ _
  rw [fl_of]
  congr 1
  funext xs e
  exact forL_ends xs e
theorem forL_inv {body : D → Sl → Fl} {P : Nat → Sl → Prop} : ∀ (xs : List D) (j : Nat) (e : Sl), P j e →
    (∀ i x e, xs[i]? = some x → P (j + i) e → (body x e).wp (P (j + i + 1)) kr kn (P (j + i + 1))) → (∀ e, P (j + xs.length) e → kn e) → (forL body xs e).wp kn kr kb kc
  | [], j, e, h0, _, hk => hk e h0
  | x :: xs, j, e, h0, hs, hk => by
    have h1 := hs 0 x e rfl h0
    have rest : ∀ e1, P (j + 0 + 1) e1 → (forL body xs e1).wp kn kr kb kc := fun e1 h2 => forL_inv xs (j + 1) e1 (by simpa using h2) (fun i y e hy hp => by
      have := hs (i + 1) y e (by simpa using hy) (by rw [show j + (i + 1) = j + 1 + i by omega]; exact hp)
      rw [show j + (i + 1) + 1 = j + 1 + i + 1 by omega] at this
      exact this) (fun e hp => hk e (by rw [List.length_cons, show j + (xs.length + 1) = j + 1 + xs.length by omega]; exact hp))
    unfold forL
    cases q : body x e with
    | nx e1 =>
      rw [q] at h1
      exact rest e1 h1
    | ct e1 =>
      rw [q] at h1
      exact rest e1 h1
    | bk e1 =>
      rw [q] at h1
      exact h1
    | rt o e1 =>
      rw [q] at h1
      exact h1
    | bad =>
      rw [q] at h1
      exact h1
/-- a for by an invariant of the slots behind i turns -/
theorem fr_inv {t : CT} {s : CSs} {xs : List D} (P : Nat → Sl → Prop) (h0 : P 0 e) (hs : ∀ i x e, xs[i]? = some x → P i e → stT ow t x e fun e => Wss gc Γ ow s e (P (i + 1)) kr kn (P (i + 1))) (hk : ∀ e, P xs.length e → kn e) : Fr gc Γ ow t s xs e kn kr := by
  refine forL_inv (P := P) xs 0 e h0 (fun i x e hx hp => ?_) (fun e hp => hk e (by simpa using hp))
  have := hs i x e hx (by simpa using hp)
  unfold stT at this
  rw [Nat.zero_add]
  cases q : setT ow t x e with
  | none =>
    rw [q] at this
    exact this.elim
  | some e1 =>
    rw [q] at this
    exact this
def Wh (gc : List (Str × D)) (Γ : Gm) (ow : List Bool) (a : CE) (b : CSs) (m : Nat) (e : Sl) (kn : Sl → Prop) (kr : O → Sl → Prop) : Prop :=
  (whlL (fun e => evT gc Γ a e) (fun e => evSs gc Γ ow b e) m e).wp kn kr (fun _ => False) fun _ => False
theorem whlL_ends {t : Sl → R Bool} {body : Sl → Fl} {kb' kc' : Sl → Prop} : ∀ (m : Nat) (e : Sl), (whlL t body m e).wp kn kr kb kc = (whlL t body m e).wp kn kr kb' kc'
  | 0, _ => rfl
  | m + 1, e => by
    unfold whlL
    rw [fl_of, fl_of]
    congr 1
    funext c e
    cases c with
    | false => rfl
    | true =>
      simp only [if_true]
      cases body e with
      | nx e => exact whlL_ends m e
      | ct e => exact whlL_ends m e
      | bk e => rfl
      | rt o e => rfl
      | bad => rfl
@[simp ↓] theorem ws_whl {s : CSs} : Ws gc Γ ow (.whl a s) e kn kr kb kc = Wh gc Γ ow a s whileMost e kn kr := whlL_ends _ _
/-- a while by an invariant with a measure -/
theorem wh_inv {s : CSs} {P : Nat → Sl → Prop} (hs : ∀ m e, P m e → Wt gc Γ a e fun c e => Br c (Wss gc Γ ow s e (fun e => ∃ m', m' < m ∧ P m' e) kr kn (fun e => ∃ m', m' < m ∧ P m' e)) (kn e)) : ∀ (f m : Nat) (e : Sl), m < f → P m e → Wh gc Γ ow a s f e kn kr
  | 0, m, e, h, _ => absurd h (Nat.not_lt_zero _)
  | f + 1, m, e, h, hp => by
    have h1 := hs m e hp
    unfold Wh whlL
    rw [fl_of]
    obtain ⟨c, e1, h2, h3⟩ := wp_iff.mp h1
    show R.wp (testV (evE gc Γ a e)) _
    rw [h2]
    cases c with
    | false =>
      rw [br_f] at h3
      exact h3
    | true =>
      rw [br_t] at h3
      show Fl.wp (match evSs gc Γ ow s e1 with
        | .nx e => whlL _ _ f e
        | .ct e => whlL _ _ f e
        | .bk e => .nx e
        | .rt o e => .rt o e
        | .bad => .bad) kn kr _ _
      unfold Wss at h3
      cases q : evSs gc Γ ow s e1 with
      | nx e2 =>
        rw [q] at h3
        obtain ⟨m', h4, h5⟩ := h3
        exact wh_inv hs f m' e2 (by omega) h5
      | ct e2 =>
        rw [q] at h3
        obtain ⟨m', h4, h5⟩ := h3
        exact wh_inv hs f m' e2 (by omega) h5
      | bk e2 =>
        rw [q] at h3
        exact h3
      | rt o e2 =>
        rw [q] at h3
        exact h3
      | bad =>
        rw [q] at h3
        exact h3
/-! runs -/
def oo (os : List O) (e : Sl) (k : List O → Prop) : Prop := Wo (outOs os e) k
@[simp ↓] theorem oo_n {k} : oo [] e k = k [] := rfl
@[simp ↓] theorem oo_d {os : List O} {u : Option O} {k} : oo (.d d :: os) (u :: e) k = oo os e fun outs => k (.d d :: outs) := by
  unfold oo
  show Wo (match outO (.d d) (([u][0]?).join), outOs os e with | some x, some xs => some (x :: xs) | _, _ => none) k = _
  cases outOs os e <;> rfl
@[simp ↓] theorem oo_l {xs : List D} {os : List O} {k} : oo (.ol xs :: os) (some o :: e) k = oo os e fun outs => k (o :: outs) := by
  unfold oo
  show Wo (match (some o : Option O), outOs os e with | some x, some xs => some (x :: xs) | _, _ => none) k = _
  cases outOs os e <;> rfl
/-- a call's run by its body's end -/
theorem run_wp {code : List FD} {f : Nat} {fd : FD} {os : List O} {k : O → List O → Prop} (hc : code[f]? = some fd) (hl : fd.nt = none ∧ os.length = fd.np ∧ fd.np ≤ fd.ns)
    (h : Wss gc (run gc code n) (os.map ownO) fd.body (os.map some ++ List.replicate (fd.ns - fd.np) none) (fun e => oo os e fun outs => k (.d .none) outs) (fun o e => oo os e fun outs => k o outs) (fun _ => False) fun _ => False) :
    ∃ r outs, run gc code (n + 1) f os = some (r, outs) ∧ k r outs := by
  have h1 : run gc code (n + 1) f os = runF gc (run gc code n) fd os := by
    show (match code[f]? with | some fd => (match fd.nt with | some g => if os.length = fd.np then g os else none | none => runF gc (run gc code n) fd os) | none => none) = _
    rw [hc]
    show (match fd.nt with | some g => if os.length = fd.np then g os else none | none => runF gc (run gc code n) fd os) = _
    rw [hl.1]
  rw [h1]
  unfold runF
  rw [if_pos hl.2]
  unfold Wss at h
  cases q : evSs gc (run gc code n) (os.map ownO) fd.body (os.map some ++ List.replicate (fd.ns - fd.np) none) with
  | nx e =>
    rw [q] at h
    have h : Wo (outOs os e) fun outs => k (.d .none) outs := h
    cases q2 : outOs os e with
    | none =>
      rw [q2] at h
      exact h.elim
    | some outs =>
      rw [q2] at h
      exact ⟨_, _, by simp [q2], h⟩
  | rt o e =>
    rw [q] at h
    have h : Wo (outOs os e) fun outs => k o outs := h
    cases q2 : outOs os e with
    | none =>
      rw [q2] at h
      exact h.elim
    | some outs =>
      rw [q2] at h
      exact ⟨_, _, by simp [q2], h⟩
  | bk e =>
    rw [q] at h
    exact h.elim
  | ct e =>
    rw [q] at h
    exact h.elim
  | bad =>
    rw [q] at h
    exact h.elim
end
end Z

/-! W2: plain data: what may be compared and shown; how long the shown text is. -/
namespace Z
open PySem L2
mutual
/-- at most so long when shown -/
def mx : D → Nat
  | .none => 4
  | .bool _ => 5
  | .int _ => 1921
  | .str x => (reprText x).length
  | .list xs => mxs xs + 2
  | .tuple xs => mxs xs + 3
  | .dict _ => 0
def mxs : List D → Nat
  | [] => 0
  | x :: xs => mx x + 2 + mxs xs
end
def tot : List Str → Nat
  | [] => 0
  | t :: r => t.length + 2 + tot r
theorem from_len : ∀ (ts : List Str) (k : Nat) (acc : Str), (textFrom k acc ts).length ≤ acc.length + tot ts
  | [], k, acc => Nat.le_refl _
  | t :: r, k, acc => by
    have h := from_len r (k + 1) (acc ++ (if k > 0 then ", " else "" : String) ++ t)
    have e : (acc ++ (if k > 0 then ", " else "" : String) ++ t).length ≤ acc.length + 2 + t.length := by
      rw [Str.length_append, Str.length_append]
      split
      · exact Nat.le_refl _
      · show acc.length + 0 + t.length ≤ _
        omega
    show (textFrom (k + 1) (acc ++ (if k > 0 then ", " else "" : String) ++ t) r).length ≤ acc.length + (t.length + 2 + tot r)
    omega
theorem piled_tot : ∀ ts : List Str, piled ts ≤ tot ts
  | [] => by simp [piled, tot]
  | t :: r => by
    have := piled_tot r
    rw [piled_cons]
    simp only [tot]
    omega
theorem list_len (ts : List Str) : (listText ts).length ≤ tot ts + 2 := by
  have h := from_len ts 0 "["
  unfold listText
  rw [Str.length_append]
  have e1 : (("[" : String) : Str).length = 1 := rfl
  have e2 : (("]" : String) : Str).length = 1 := rfl
  omega
theorem tuple_len (ts : List Str) : (tupleText ts).length ≤ tot ts + 3 := by
  unfold tupleText
  rw [Str.length_append, Str.length_append]
  have e1 : (("(" : String) : Str).length = 1 := rfl
  have hj : (Str.join ", " ts).length ≤ tot ts := by
    cases ts with
    | nil => exact Nat.zero_le _
    | cons t r =>
      have h1 := join_length_add (t :: r) (by simp)
      have h2 := piled_tot (t :: r)
      omega
  have e2 : ((if ts.length == 1 then ",)" else ")" : String) : Str).length ≤ 2 := by
    split
    · exact Nat.le_refl _
    · decide
  omega
mutual
theorem mx_len : ∀ d : D, d.showable = true → d.canLay0 = true → d.shown.length ≤ mx d
  | .none, _, _ => by
    simp only [PyData.shown, mx]
    decide
  | .bool b, _, _ => by
    simp only [PyData.shown, mx]
    cases b <;> decide
  | .int i, h, _ => by
    simp only [PyData.showable, decide_eq_true_eq] at h
    simp only [PyData.shown, mx]
    exact PyProof.Rows.int_text_len_1921 h
  | .str x, _, _ => by
    simp only [PyData.shown, mx]
    exact Nat.le_refl _
  | .list xs, h, c => by
    simp only [PyData.showable] at h
    simp only [PyData.canLay0] at c
    simp only [PyData.shown, mx]
    exact Nat.le_trans (list_len _) (Nat.add_le_add_right (mxs_len xs h c) 2)
  | .tuple xs, h, c => by
    simp only [PyData.showable] at h
    simp only [PyData.canLay0] at c
    simp only [PyData.shown, mx]
    exact Nat.le_trans (tuple_len _) (Nat.add_le_add_right (mxs_len xs h c) 3)
  | .dict kvs, _, c => by
    simp only [PyData.canLay0] at c
    cases c
theorem mxs_len : ∀ xs : List D, PyData.showableAll xs = true → PyData.canLayAll0 xs = true → tot (PyData.shownAll xs) ≤ mxs xs
  | [], _, _ => Nat.le_refl _
  | x :: xs, h, c => by
    simp only [PyData.showableAll, Bool.and_eq_true] at h
    simp only [PyData.canLayAll0, Bool.and_eq_true] at c
    have h1 := mx_len x h.1 c.1
    have h2 := mxs_len xs h.2 c.2
    simp only [PyData.shownAll, tot, mxs]
    omega
end
/-- may be compared, shown, walked -/
structure Nice (d : D) (k m : Nat) : Prop where
  lay : d.canLay0 = true
  sho : d.showable = true
  dep : d.depth ≤ k
  siz : mx d ≤ m
theorem Nice.shaped {d : D} {k m : Nat} (h : Nice d k m) (hk : k ≤ 64) : PySem.SeqAt.shaped d = true := by
  unfold PySem.SeqAt.shaped
  rw [h.lay, Bool.true_and]
  exact decide_eq_true (Nat.le_trans h.dep hk)
theorem Nice.mono {d : D} {k m k' m' : Nat} (h : Nice d k m) (h1 : k ≤ k') (h2 : m ≤ m') : Nice d k' m' := ⟨h.lay, h.sho, Nat.le_trans h.dep h1, Nat.le_trans h.siz h2⟩
theorem bt_repr {d : D} {k m : Nat} {p} (h : Nice d k m) (hk : k ≤ 64) (hm : m ≤ sizeLine) (hd : (∃ xs, d = .list xs) ∨ ∃ xs, d = .tuple xs) : Bt .repr d p = p (.d (.str d.shown)) := by
  have hz : sizeOk d.shown.length = true := decide_eq_true (Nat.le_trans (mx_len d h.sho h.lay) (Nat.le_trans h.siz hm))
  have hd' : decide (d.depth ≤ 64) = true := decide_eq_true (Nat.le_trans h.dep hk)
  rcases hd with ⟨xs, rfl⟩ | ⟨xs, rfl⟩
  · show Wo (if PyData.canLay0 (.list xs) && PyData.showable (.list xs) && decide (PyData.depth (.list xs) ≤ 64) && sizeOk (PyData.shown (.list xs)).length then some (O.d (.str (PyData.shown (.list xs)))) else none) p = _
    rw [h.lay, h.sho, hd', hz]
    rfl
  · show Wo (if PyData.canLay0 (.tuple xs) && PyData.showable (.tuple xs) && decide (PyData.depth (.tuple xs) ≤ 64) && sizeOk (PyData.shown (.tuple xs)).length then some (O.d (.str (PyData.shown (.tuple xs)))) else none) p = _
    rw [h.lay, h.sho, hd', hz]
    rfl
theorem nice_none {k m : Nat} (hm : 4 ≤ m) : Nice .none k m := ⟨rfl, rfl, Nat.zero_le _, hm⟩
theorem nice_bool {b : Bool} {k m : Nat} (hm : 5 ≤ m) : Nice (.bool b) k m := ⟨rfl, rfl, Nat.zero_le _, hm⟩
theorem nice_int {i : Int} {k m : Nat} (h : smallInt i = true) (hm : 1921 ≤ m) : Nice (.int i) k m := ⟨rfl, h, Nat.zero_le _, hm⟩
theorem nice_all {xs : List D} {k m : Nat} (h : ∀ x ∈ xs, Nice x k m) : PyData.canLayAll0 xs = true ∧ PyData.showableAll xs = true ∧ PyData.depthAll xs ≤ k ∧ mxs xs ≤ (m + 2) * xs.length := by
  induction xs with
  | nil => exact ⟨rfl, rfl, Nat.zero_le _, Nat.zero_le _⟩
  | cons x xs ih =>
    obtain ⟨h1, h2, h3, h4⟩ := ih fun y hy => h y (List.mem_cons_of_mem _ hy)
    have hx := h x List.mem_cons_self
    refine ⟨?_, ?_, ?_, ?_⟩
    · simp only [PyData.canLayAll0, hx.lay, h1, Bool.and_self]
    · simp only [PyData.showableAll, hx.sho, h2, Bool.and_self]
    · simp only [PyData.depthAll]
      have := hx.dep
      omega
    · have := hx.siz
      simp only [mxs, List.length_cons]
      rw [Nat.mul_add, Nat.mul_one]
      omega
theorem nice_list {xs : List D} {k m M : Nat} (h : ∀ x ∈ xs, Nice x k m) (hM : (m + 2) * xs.length + 2 ≤ M) : Nice (.list xs) (k + 1) M := by
  obtain ⟨h1, h2, h3, h4⟩ := nice_all h
  refine ⟨by simpa [PyData.canLay0] using h1, by simpa [PyData.showable] using h2, ?_, ?_⟩
  · simp only [PyData.depth]
    omega
  · simp only [mx]
    omega
theorem nice_tuple {xs : List D} {k m M : Nat} (h : ∀ x ∈ xs, Nice x k m) (hM : (m + 2) * xs.length + 3 ≤ M) : Nice (.tuple xs) (k + 1) M := by
  obtain ⟨h1, h2, h3, h4⟩ := nice_all h
  refine ⟨by simpa [PyData.canLay0] using h1, by simpa [PyData.showable] using h2, ?_, ?_⟩
  · simp only [PyData.depth]
    omega
  · simp only [mx]
    omega
theorem small_of {i : Int} (h : i.natAbs < 2 ^ 1000) : smallInt i = true := by
  unfold smallInt
  refine decide_eq_true (Nat.lt_of_le_of_lt (m := 1000) ?_ (by decide))
  by_cases z : i.natAbs = 0
  · rw [z]
    decide
  · exact Nat.le_of_lt ((Nat.log2_lt z).mpr h)
/-! membership -/
def intL (xs : List Int) : List D := xs.map .int
def boolL (xs : List Bool) : List D := xs.map .bool
theorem any_int {i : Int} : ∀ xs : List Int, ((intL xs).any fun z => PyData.eqv z (.int i)) = decide (i ∈ xs)
  | [] => rfl
  | x :: xs => by
    have h := any_int (i := i) xs
    unfold intL at h ⊢
    rw [List.map_cons, List.any_cons, h]
    simp only [PyData.eqv, List.mem_cons]
    by_cases z : x = i
    · subst z
      simp
    · simp [z, Ne.symm z]
theorem any_bool {i : Bool} : ∀ xs : List Bool, ((boolL xs).any fun z => PyData.eqv z (.bool i)) = decide (i ∈ xs)
  | [] => rfl
  | x :: xs => by
    have h := any_bool (i := i) xs
    unfold boolL at h ⊢
    rw [List.map_cons, List.any_cons, h]
    simp only [PyData.eqv, List.mem_cons]
    by_cases z : x = i
    · subst z
      simp
    · simp [z, Ne.symm z]
theorem flat_ints (xs : List Int) : (intL xs).all flatD = true := by
  unfold intL
  rw [List.all_map, List.all_eq_true]
  intro x _
  rfl
theorem lay_ints : ∀ xs : List Int, PyData.canLayAll0 (intL xs) = true ∧ PyData.depthAll (intL xs) = 0
  | [] => ⟨rfl, rfl⟩
  | x :: xs => by
    obtain ⟨h1, h2⟩ := lay_ints xs
    unfold intL at h1 h2 ⊢
    rw [List.map_cons]
    simp only [PyData.canLayAll0, PyData.canLay0, PyData.depthAll, PyData.depth, h1, h2]
    exact ⟨rfl, rfl⟩
theorem lay_bools : ∀ xs : List Bool, PyData.canLayAll0 (boolL xs) = true ∧ PyData.depthAll (boolL xs) = 0
  | [] => ⟨rfl, rfl⟩
  | x :: xs => by
    obtain ⟨h1, h2⟩ := lay_bools xs
    unfold boolL at h1 h2 ⊢
    rw [List.map_cons]
    simp only [PyData.canLayAll0, PyData.canLay0, PyData.depthAll, PyData.depth, h1, h2]
    exact ⟨rfl, rfl⟩
theorem shaped_ints (xs : List Int) : PySem.SeqAt.shaped (.list (intL xs)) = true := by
  obtain ⟨h1, h2⟩ := lay_ints xs
  unfold PySem.SeqAt.shaped
  simp only [PyData.canLay0, PyData.depth, h1, h2]
  rfl
theorem shaped_bools (xs : List Bool) : PySem.SeqAt.shaped (.list (boolL xs)) = true := by
  obtain ⟨h1, h2⟩ := lay_bools xs
  unfold PySem.SeqAt.shaped
  simp only [PyData.canLay0, PyData.depth, h1, h2]
  rfl
@[simp ↓] theorem cm_inT {i : Int} {xs : List Int} {k} : Cm .inn (.int i) (.tuple (intL xs)) k = k (decide (i ∈ xs)) := by
  show Wo (if flatD (.int i) && (intL xs).all flatD then some ((intL xs).any fun z => PyData.eqv z (.int i)) else none) k = _
  rw [flat_ints, any_int]
  rfl
@[simp ↓] theorem cm_inL {i : Int} {xs : List Int} {k} : Cm .inn (.int i) (.list (intL xs)) k = k (decide (i ∈ xs)) := by
  show Wo (if PySem.SeqAt.shaped (.int i) && PySem.SeqAt.shaped (.list (intL xs)) then some ((intL xs).any fun z => PyData.eqv z (.int i)) else none) k = _
  rw [shaped_ints, any_int]
  rfl
@[simp ↓] theorem cm_ninL {i : Int} {xs : List Int} {k} : Cm .nin (.int i) (.list (intL xs)) k = k (!decide (i ∈ xs)) := by
  show Wo ((if PySem.SeqAt.shaped (.int i) && PySem.SeqAt.shaped (.list (intL xs)) then some ((intL xs).any fun z => PyData.eqv z (.int i)) else none).map (!·)) k = _
  rw [shaped_ints, any_int]
  rfl
@[simp ↓] theorem cm_inB {i : Bool} {xs : List Bool} {k} : Cm .inn (.bool i) (.list (boolL xs)) k = k (decide (i ∈ xs)) := by
  show Wo (if PySem.SeqAt.shaped (.bool i) && PySem.SeqAt.shaped (.list (boolL xs)) then some ((boolL xs).any fun z => PyData.eqv z (.bool i)) else none) k = _
  rw [shaped_bools, any_bool]
  rfl
@[simp ↓] theorem cm_ninB {i : Bool} {xs : List Bool} {k} : Cm .nin (.bool i) (.list (boolL xs)) k = k (!decide (i ∈ xs)) := by
  show Wo ((if PySem.SeqAt.shaped (.bool i) && PySem.SeqAt.shaped (.list (boolL xs)) then some ((boolL xs).any fun z => PyData.eqv z (.bool i)) else none).map (!·)) k = _
  rw [shaped_bools, any_bool]
  rfl
theorem eqv_nil {xs : List D} : PyData.eqvAll xs [] = decide (xs = []) := by
  cases xs with
  | nil => rfl
  | cons x xs => simp [PyData.eqvAll]
@[simp ↓] theorem cm_neN {xs : List Int} {k} : Cm .ne (.list (intL xs)) (.list []) k = k (!decide (xs = [])) := by
  show Wo ((if eqOk (.list (intL xs)) (.list []) then some (PyData.eqv (.list (intL xs)) (.list [])) else none).map (!·)) k = _
  have h : eqOk (.list (intL xs)) (.list []) = true := by
    unfold eqOk
    rw [shaped_ints]
    decide
  have h2 : PyData.eqv (.list (intL xs)) (.list []) = decide (xs = []) := by
    rw [PyData.eqv, eqv_nil]
    unfold intL
    simp
  rw [h, h2]
  rfl
@[simp ↓] theorem bt_anyB {bs : List Bool} {k} : Bt .any (.list (boolL bs)) k = k (.d (.bool (bs.any id))) := bt_any
@[simp ↓] theorem bt_allB {bs : List Bool} {k} : Bt .all (.list (boolL bs)) k = k (.d (.bool (bs.all id))) := bt_all
theorem R.wp_mono {α : Type} {r : R α} {k k' : α → Sl → Prop} (h : r.wp k) (m : ∀ a e, k a e → k' a e) : r.wp k' := by
  cases r with
  | ok a e => exact m a e h
  | bad => exact h
theorem T1_mono {gc : List (Str × D)} {Γ : Gm} {ws : List Nat} {t : CT} {ifs : CP} {el : CE} {x : D} {e : Sl} {k k' : Option D → Sl → Prop} (h : T1 gc Γ ws t ifs el x e k) (m : ∀ a e, k a e → k' a e) : T1 gc Γ ws t ifs el x e k' := by
  rw [← turn_wp] at h ⊢
  exact R.wp_mono h m
/-! values of any kind -/
@[simp ↓] theorem dt_t {o : O} {e : Sl} {k} : dt (.tm o) e k = k o.dat := by
  cases o <;> rfl
@[simp ↓] theorem tk_t {o : O} {e : Sl} {k} : tk (.tm o) e k = k o.dat e := by
  cases o <;> rfl
@[simp ↓] theorem lkd_o {o : O} {e : Sl} {k} : lkd 0 (some o :: e) k = k o.dat := by
  cases o <;> rfl
@[simp ↓] theorem ao_t {o : O} {as : List AV} {e : Sl} {u : List Nat} {k} : ao (.tm o :: as) e u k = ao as e u fun os => k (.d o.dat :: os) := by
  cases o <;> simp -implicitDefEqProofs [O.dat]
@[simp] theorem dat_d {d : D} : (O.d d).dat = d := rfl
@[simp] theorem dat_l {xs : List D} : (O.ol xs).dat = .list xs := rfl
/-- a comprehension that leaves the slots as they are -/
theorem lc_fm {gc : List (Str × D)} {Γ : Gm} {ws : List Nat} {t : CT} {ifs : CP} {el : CE} {xs : List D} {e : Sl} {k : List D → Sl → Prop} {α : Type} (zs : List α) (g : α → D) (f : α → Option D) (E0 : Sl)
    (hx : xs = zs.map g) (hE : wipeE e ws = E0) (hn : noOwn e ws = true) (hs : ∀ z ∈ zs, T1 gc Γ ws t ifs el (g z) E0 fun r e' => r = f z ∧ e' = E0) (hk : k (zs.filterMap f) (backE e E0 ws)) : Lc gc Γ ws t ifs el xs e k := by
  subst hx hE
  refine lc_inv (fun i acc e' => acc = (zs.take i).filterMap f ∧ e' = wipeE e ws) hn ⟨rfl, rfl⟩ ?_ ?_
  · rintro i x acc e' hx ⟨rfl, rfl⟩
    rw [List.getElem?_map] at hx
    cases q : zs[i]? with
    | none =>
      rw [q] at hx
      cases hx
    | some z =>
      rw [q] at hx
      cases hx
      have h := hs z (List.mem_of_getElem? q)
      refine T1_mono h fun r e' hr => ?_
      obtain ⟨rfl, rfl⟩ := hr
      refine ⟨?_, rfl⟩
      rw [List.take_add_one, q, List.filterMap_append]
      congr 1
  · rintro acc e1 ⟨rfl, rfl⟩
    rw [List.length_map, List.take_length]
    exact hk
theorem fm_some {α β : Type} {f : α → β} : ∀ zs : List α, (zs.filterMap fun z => some (f z)) = zs.map f
  | [] => rfl
  | z :: zs => by
    rw [List.filterMap_cons, fm_some zs]
    rfl
theorem fm_if {α β : Type} {p : α → Bool} {f : α → β} : ∀ zs : List α, (zs.filterMap fun z => if p z then some (f z) else none) = (zs.filter p).map f
  | [] => rfl
  | z :: zs => by
    rw [List.filterMap_cons, fm_if zs, List.filter_cons]
    cases h : p z <;> simp
theorem fm_bool {α : Type} {zs : List α} {f : α → Bool} : (zs.filterMap fun z => some (PyData.bool (f z))) = boolL (zs.map f) := by
  rw [fm_some, boolL, List.map_map]
  rfl
theorem fm_int {α : Type} {zs : List α} {f : α → Int} : (zs.filterMap fun z => some (PyData.int (f z))) = intL (zs.map f) := by
  rw [fm_some, intL, List.map_map]
  rfl
theorem fm_ifint {α : Type} {zs : List α} {p : α → Bool} {f : α → Int} : (zs.filterMap fun z => if p z then some (PyData.int (f z)) else none) = intL ((zs.filter p).map f) := by
  rw [fm_if, intL, List.map_map]
  rfl
theorem at_int {xs : List D} {i : Int} {x : D} {k} (h0 : 0 ≤ i) (h : xs[i.toNat]? = some x) : At xs i k = k x := by
  obtain ⟨j, rfl⟩ := Int.eq_ofNat_of_zero_le h0
  exact at_nat (by simpa using h)
theorem at_ints' {xs : List Int} {i : Int} {k} (h0 : 0 ≤ i) (h : i < xs.length) : At (intL xs) i k = k (.int ((xs[i.toNat]?).getD 0)) := by
  have hl : i.toNat < xs.length := by omega
  refine at_int h0 ?_
  unfold intL
  rw [List.getElem?_map, List.getElem?_eq_getElem hl]
  rfl
theorem at_bools {xs : List Bool} {i : Int} {k} (h0 : 0 ≤ i) (h : i < xs.length) : At (boolL xs) i k = k (.bool ((xs[i.toNat]?).getD false)) := by
  have hl : i.toNat < xs.length := by omega
  refine at_int h0 ?_
  unfold boolL
  rw [List.getElem?_map, List.getElem?_eq_getElem hl]
  rfl
theorem intL_len {xs : List Int} : (intL xs).length = xs.length := List.length_map _
theorem boolL_len {xs : List Bool} : (boolL xs).length = xs.length := List.length_map _
theorem intL_snoc {xs : List Int} {i : Int} : intL xs ++ [.int i] = intL (xs ++ [i]) := by
  unfold intL
  rw [List.map_append]
  rfl
theorem boolL_snoc {xs : List Bool} {i : Bool} : boolL xs ++ [.bool i] = boolL (xs ++ [i]) := by
  unfold boolL
  rw [List.map_append]
  rfl
theorem sizeL : (sizeLine : Int) = 16777216 := by rw [sizeLine_eq]; rfl
theorem sizeN : sizeLine = 16777216 := sizeLine_eq
theorem mem_range {lo : Int} {m i : Nat} {x : D} (h : (rangeD lo m)[i]? = some x) : i < m ∧ x = .int (lo + i) := range_get h
/-- an argument of either kind -/
def ownU (o : O) (i : Nat) (u : List Nat) : List Nat := match o with
  | .d _ => u
  | .ol _ => i :: u
@[simp ↓] theorem aop_o {i : Nat} {o : O} {as : List AV} {e : Sl} {u : List Nat} {k} (h : i ∉ u) : aop i o as e u k = ao as e (ownU o i u) fun os => k (o :: os) := by
  cases o with
  | d x => rfl
  | ol xs => exact aop_l h
@[simp] theorem ownU_mem {o : O} {i j : Nat} {u : List Nat} (h1 : ¬ j = i) (h2 : j ∉ u) : (j ∈ ownU o i u) = False := by
  cases o with
  | d x => exact eq_false h2
  | ol xs => exact eq_false (by simp [ownU, h1, h2])
@[simp ↓] theorem po1_same {o : O} {e : Sl} {k} : po1 (.pl 0) o o (some o :: e) k = k (some o :: e) := by
  cases o <;> rfl
@[simp ↓] theorem po1_os {i : Nat} {o w : O} {u : Option O} {e : Sl} {k} : po1 (.pl (i + 1)) o w (u :: e) k = po1 (.pl i) o w e fun e => k (u :: e) := by
  cases o <;> rfl
@[simp ↓] theorem oo_o {o : O} {os : List O} {e : Sl} {k} : oo (o :: os) (some o :: e) k = oo os e fun outs => k (o :: outs) := by
  cases o with
  | d x => exact oo_d
  | ol xs => exact oo_l
@[simp ↓] theorem rg1_nat {n : Nat} {k} (h : n ≤ 1000000) : Rg1 (n : Int) k = k (rangeD 0 n) := by
  unfold Rg1
  rw [sizeL, eq_true (by omega : (n : Int) ≤ 16777216 ∧ -(2 ^ 62) ≤ (n : Int)), true_and, Int.toNat_natCast]
@[simp ↓] theorem rg1_nat1 {n : Nat} {k} (h : n ≤ 1000000) : Rg1 ((n : Int) + 1) k = k (rangeD 0 (n + 1)) := by
  have := rg1_nat (n := n + 1) (k := k)
  unfold Rg1
  rw [sizeL, eq_true (by omega : (n : Int) + 1 ≤ 16777216 ∧ -(2 ^ 62) ≤ (n : Int) + 1), true_and]
  rfl
@[simp ↓] theorem rg_nat1 {n : Nat} {k} (h : n ≤ 1000000) : Rg 1 ((n : Int) + 1) k = k (rangeD 1 n) := by
  unfold Rg
  rw [sizeL, eq_true (by omega : ((-(2 ^ 62) ≤ (1 : Int) ∧ (1 : Int) < 2 ^ 62) ∧ (-(2 ^ 62) ≤ (n : Int) + 1 ∧ (n : Int) + 1 < 2 ^ 62) ∧ (n : Int) + 1 - 1 ≤ 16777216)), true_and, show ((n : Int) + 1 - 1).toNat = n by omega]
theorem range_map {lo : Int} {n : Nat} : rangeD lo n = (List.range n).map fun i : Nat => PyData.int (lo + i) := rfl
@[simp] theorem ownO_d {d : D} : ownO (.d d) = false := rfl
@[simp] theorem ownO_l {xs : List D} : ownO (.ol xs) = true := rfl
@[simp] theorem isOwn_n : isOwn none = false := rfl
@[simp] theorem isOwn_d {d : D} : isOwn (some (.d d)) = false := rfl
theorem boolL_one {n : Nat} {f : Nat → Bool} : boolL ((List.range n).map f) ++ [.bool (f n)] = boolL ((List.range (n + 1)).map f) := by
  rw [boolL_snoc, List.range_succ, List.map_append]
  rfl
theorem intL_one {n : Nat} {f : Nat → Int} : intL ((List.range n).map f) ++ [.int (f n)] = intL ((List.range (n + 1)).map f) := by
  rw [intL_snoc, List.range_succ, List.map_append]
  rfl
theorem nice_parts : ∀ {xs : List D} {k m : Nat}, PyData.canLayAll0 xs = true → PyData.showableAll xs = true → PyData.depthAll xs ≤ k → mxs xs ≤ m → (∀ x ∈ xs, Nice x k m) ∧ 2 * xs.length ≤ m
  | [], _, _, _, _, _, _ => ⟨fun _ h => (nomatch h), Nat.zero_le _⟩
  | x :: xs, k, m, h1, h2, h3, h4 => by
    simp only [PyData.canLayAll0, Bool.and_eq_true] at h1
    simp only [PyData.showableAll, Bool.and_eq_true] at h2
    simp only [PyData.depthAll] at h3
    simp only [mxs] at h4
    obtain ⟨i1, i2⟩ := nice_parts (xs := xs) (k := k) (m := m - (mx x + 2)) h1.2 h2.2 (by omega) (by omega)
    refine ⟨fun y hy => ?_, by simp only [List.length_cons]; omega⟩
    rcases List.mem_cons.mp hy with rfl | hy
    · exact ⟨h1.1, h2.1, by omega, by omega⟩
    · exact (i1 y hy).mono (Nat.le_refl _) (by omega)
theorem nice_items {xs : List D} {k m : Nat} (h : Nice (.list xs) k m ∨ Nice (.tuple xs) k m) : ∃ k', k = k' + 1 ∧ (∀ x ∈ xs, Nice x k' m) ∧ 2 * xs.length ≤ m := by
  rcases h with h | h
  · have h1 := h.lay
    have h2 := h.sho
    have h3 := h.dep
    have h4 := h.siz
    simp only [PyData.canLay0] at h1
    simp only [PyData.showable] at h2
    simp only [PyData.depth] at h3
    simp only [mx] at h4
    obtain ⟨i1, i2⟩ := nice_parts (k := k - 1) (m := m) h1 h2 (by omega) (by omega)
    exact ⟨k - 1, by omega, i1, i2⟩
  · have h1 := h.lay
    have h2 := h.sho
    have h3 := h.dep
    have h4 := h.siz
    simp only [PyData.canLay0] at h1
    simp only [PyData.showable] at h2
    simp only [PyData.depth] at h3
    simp only [mx] at h4
    obtain ⟨i1, i2⟩ := nice_parts (k := k - 1) (m := m) h1 h2 (by omega) (by omega)
    exact ⟨k - 1, by omega, i1, i2⟩
@[simp ↓] theorem tkp_o {o : O} {e : Sl} {k} : tkp 0 (some o :: e) k = k o.dat (some (.d o.dat) :: e) := by
  cases o <;> rfl
theorem range_ints {n : Nat} : rangeD 0 n = intL ((List.range n).map fun i : Nat => (i : Int)) := by
  unfold rangeD intL
  rw [List.map_map]
  apply List.map_congr_left
  intro i _
  simp
theorem nice_intL {xs : List Int} {m l : Nat} (h : ∀ x ∈ xs, -1000 ≤ x ∧ x ≤ 1000) (hl : xs.length ≤ l) (hm : 1923 * l + 3 ≤ m) : Nice (.list (intL xs)) 1 m ∧ Nice (.tuple (intL xs)) 1 m := by
  have hx : ∀ x ∈ intL xs, Nice x 0 1921 := fun x hx => by
    obtain ⟨i, hi, rfl⟩ := List.mem_map.mp hx
    have := h i hi
    refine nice_int (small_of (Nat.lt_of_le_of_lt (m := 1000) (by omega) ?_)) (Nat.le_refl _)
    exact Nat.lt_of_lt_of_le (m := 2 ^ 10) (by decide) (Nat.pow_le_pow_right (by decide) (by decide))
  have hll : (1921 + 2) * (intL xs).length ≤ 1923 * l := Nat.mul_le_mul_left _ (by rw [intL_len]; exact hl)
  exact ⟨nice_list hx (by omega), nice_tuple hx (by omega)⟩
theorem get_intL {l : List Int} {j : Nat} {x : D} (h : (intL l)[j]? = some x) : ∃ i, i ∈ l ∧ x = .int i := by
  unfold intL at h
  rw [List.getElem?_map] at h
  cases q : l[j]? with
  | none =>
    rw [q] at h
    cases h
  | some i =>
    rw [q] at h
    cases h
    exact ⟨i, List.mem_of_getElem? q, rfl⟩
theorem small_1000 {i : Int} (h1 : -1000 ≤ i) (h2 : i ≤ 1000) : smallInt i = true :=
  small_of (Nat.lt_of_le_of_lt (m := 1000) (by omega) (Nat.lt_of_lt_of_le (m := 2 ^ 10) (by decide) (Nat.pow_le_pow_right (by decide) (by decide))))
@[simp ↓] theorem at_intL0 {a : Int} {l : List Int} {k} : At (intL (a :: l)) 0 k = k (.int a) := at_0
end Z

/-! W3: texts as lists of signs. -/
namespace Z
open PySem L2
/-- the text of these signs -/
def S (l : List Nat) : Str := ⟨l.toArray⟩
theorem S_cps {l : List Nat} : (S l).cps.toList = l := by simp [S]
theorem S_len {l : List Nat} : (S l).length = l.length := by simp [S, Str.length]
theorem S_of (x : Str) : x = S x.cps.toList := by
  cases x
  simp [S]
theorem S_app {a b : List Nat} : S a ++ S b = S (a ++ b) := by
  have h : (S a ++ S b).cps.toList = a ++ b := by
    rw [Str.cps_append]
    simp [S]
  rw [S_of (S a ++ S b), h]
theorem S_inj {a b : List Nat} : (S a = S b) = (a = b) := by
  apply propext
  constructor
  · intro h
    rw [← S_cps (l := a), h, S_cps]
  · rintro rfl
    rfl
theorem S_cut {l : List Nat} {lo hi : Option Int} : cutS (S l) lo hi = S ((l.drop (HT.sIx l.length 0 lo)).take (HT.sIx l.length l.length hi - HT.sIx l.length 0 lo)) := by
  unfold cutS
  simp [S, Str.length]
theorem S_dec {a b : List Nat} : decide (S a = S b) = decide (a = b) := by
  by_cases h : a = b
  · subst h
    simp
  · have h2 : ¬ S a = S b := by
      rw [S_inj]
      exact h
    simp [h, h2]
@[simp ↓ high] theorem cm_eqSS {a b : List Nat} {k} : Cm .eq (.str (S a)) (.str (S b)) k = k (decide (a = b)) := by
  rw [cm_eqS, S_dec]
@[simp ↓ high] theorem cm_neSS {a b : List Nat} {k} : Cm .ne (.str (S a)) (.str (S b)) k = k (!decide (a = b)) := by
  rw [cm_neS, S_dec]
theorem ix_S {l : List Nat} {i : Nat} {k} (hz : l.length ≤ 16777216) (h : i < l.length) : Ix (.str (S l)) (.int (i : Int)) k = k (.str (S [(l[i]?).getD 0])) := by
  have e : (S l).cps.toList[i]? = some ((l[i]?).getD 0) := by
    rw [S_cps, List.getElem?_eq_getElem h]
    rfl
  have a : L2.atI (S l).cps.toList (i : Int) = some ((l[i]?).getD 0) := by
    unfold L2.atI L2.ixN
    rw [if_pos (by omega), if_pos (by rw [S_cps]; omega)]
    show (S l).cps.toList[((i : Int)).toNat]? = _
    rw [Int.toNat_natCast, e]
  show Wo (if (S l).length ≤ sizeLine then (L2.atI (S l).cps.toList (i : Int)).map fun c => PyData.str ⟨#[c]⟩ else none) k = _
  rw [if_pos (by rw [S_len, sizeN]; exact hz), a]
  rfl
@[simp ↓] theorem bt_lenS {l : List Nat} {k} (hz : l.length ≤ 16777216) : Bt .len (.str (S l)) k = k (.d (.int l.length)) := by
  show Wo (if (S l).length ≤ sizeLine then some (O.d (.int (S l).length)) else none) k = _
  rw [if_pos (by rw [S_len, sizeN]; exact hz), S_len]
  rfl
@[simp ↓] theorem bn_catS {a b : List Nat} {k} (hz : a.length + b.length ≤ 16777216) : Bn .add (.str (S a)) (.str (S b)) k = k (.d (.str (S (a ++ b)))) := by
  rw [bn_cat (by rw [S_len, S_len, sizeN]; exact hz), S_app]
@[simp ↓] theorem aug_catS {a b : List Nat} {k} (hz : a.length + b.length ≤ 16777216) : Aug .add (.str (S a)) (.str (S b)) k = k (.str (S (a ++ b))) := by
  rw [aug_cat (by rw [S_len, S_len, sizeN]; exact hz), S_app]
theorem sc_S {l : List Nat} {lo hi : Option Int} {k} (hz : l.length ≤ 16777216) : Sc (.str (S l)) lo hi k = k (.d (.str (S ((l.drop (HT.sIx l.length 0 lo)).take (HT.sIx l.length l.length hi - HT.sIx l.length 0 lo))))) := by
  rw [sc_s (by rw [S_len, sizeN]; exact hz), S_cut]
@[simp ↓ high] theorem is_S {l : List Nat} {k} (hz : l.length ≤ 16777216) : Is_ (.str (S l)) k = k (l.map fun c => .str (S [c])) := by
  rw [is_s (by rw [S_len, sizeN]; exact hz), S_cps]
  rfl
@[simp ↓] theorem bt_ordS {c : Nat} {k} : Bt .ord (.str (S [c])) k = k (.d (.int c)) := by
  show Wo (if (S [c]).length = 1 then some (O.d (.int ((S [c]).cps.getD 0 0 : Nat))) else none) k = _
  rw [if_pos (by rw [S_len]; rfl)]
  rfl
@[simp ↓] theorem cm_inS {c : Nat} {l : List Nat} {k} : Cm .inn (.str (S [c])) (.str (S l)) k = k (decide (c ∈ l)) := by
  show Wo (signIn (S [c]) (S l)) k = _
  unfold signIn
  rw [S_cps, S_cps]
  rfl
@[simp ↓] theorem cm_ninS {c : Nat} {l : List Nat} {k} : Cm .nin (.str (S [c])) (.str (S l)) k = k (!decide (c ∈ l)) := by
  show Wo ((signIn (S [c]) (S l)).map (!·)) k = _
  unfold signIn
  rw [S_cps, S_cps]
  rfl
theorem beqS {a b : List Nat} : (S a == S b) = decide (a = b) := by
  rw [← S_dec]
  rfl
/-- not in a pair of texts -/
@[simp ↓] theorem cm_nin2 {a b c : List Nat} {k} : Cm .nin (.str (S a)) (.tuple [.str (S b), .str (S c)]) k = k (!(decide (b = a) || decide (c = a))) := by
  show Wo ((if flatD (.str (S a)) && [PyData.str (S b), .str (S c)].all flatD then some ([PyData.str (S b), .str (S c)].any fun z => PyData.eqv z (.str (S a))) else none).map (!·)) k = _
  have h : ([PyData.str (S b), .str (S c)].any fun z => PyData.eqv z (.str (S a))) = (decide (b = a) || decide (c = a)) := by
    simp only [List.any_cons, List.any_nil, Bool.or_false, PyData.eqv, beqS]
  rw [h]
  rfl
theorem join_S {xs : List (List Nat)} : Str.join (S []) (xs.map S) = S xs.flatten := by
  have h : ∀ xs : List (List Nat), Str.join (S []) (xs.map S) = S xs.flatten := by
    intro xs
    induction xs with
    | nil => rfl
    | cons a xs ih =>
      cases xs with
      | nil =>
        show S a = S ([a].flatten)
        simp
      | cons b xs =>
        show S a ++ S [] ++ Str.join (S []) ((b :: xs).map S) = _
        rw [ih, S_app, S_app]
        simp
  exact h xs
theorem nice_S {l : List Nat} {k m : Nat} (h : ∀ c ∈ l, c < 128) (hm : 10 * l.length + 2 ≤ m) : Nice (.str (S l)) k m := by
  refine ⟨?_, rfl, Nat.zero_le _, ?_⟩
  · have e : PyData.canLay0 (.str (S l)) = (l.toArray.all (· < 0x110000)) := by
      simp only [PyData.canLay0]
      rfl
    rw [e, List.all_toArray, List.all_eq_true]
    intro c hc
    have := h c hc
    exact decide_eq_true (by omega)
  · simp only [mx]
    have := PySem.StrLaws.reprText_len (S l) (fun c hc => by
      rw [S_cps] at hc
      have := h c hc
      exact Nat.lt_trans this (by decide))
    rw [S_len] at this
    omega
end Z

namespace K92
open PySem PySem.Spec PyProof.Rows L2 Z
def nt_escaped (os : List O) : Option (O × List O) := match os with
  | [.d (.str x)] => if x.length ≤ 100000 then some (.d (.str (Txt.replace (Txt.replace x "\\" "\\\\") "\n" "\\n")), [.d (.str x)]) else none
  | _ => none
end K92
namespace K92
open PySem PySem.Spec PyProof.Rows L2 Z
def top (i : Nat) : Stmt := PySem.Challenge.pw_turnwise_k92_records_as_lines.main.body.getD i (.Pass ⟨0, 0, 0, 0⟩)
def gcs : List (Str × PyData) := [("MOST_CHECK", (.int 9973)), ("FIGURES", (.str "0123456789"))]
def tb : Tb := ⟨["escaped", "plain", "check_of", "record", "read_record", "appended", "_law_cell", "_law_digits", "_law_draw", "_law_pick", "_law_same", "_law_check", "_law_escaped", "_law_sealed", "_law_record", "_law_plain", "_law_read", "_law_signs", "_law_spoilt", "law"], gcs⟩
def c_escaped : FD := ⟨1, 1, .nil, some nt_escaped⟩
def c_plain : FD := ⟨1, 3, (.cons (.asg 1 (.str "")) (.cons (.asg 2 (.int 0)) (.cons (.whl (.cmp .lt (.v 2) (.bi .len (.v 0))) (.cons (.ifs (.cmp .eq (.ix (.v 0) (.v 2)) (.str "\n")) (.cons (.ret .non) .nil) .nil) (.cons (.ifs (.cmp .eq (.ix (.v 0) (.v 2)) (.str "\\")) (.cons (.ifs (.cmp .nin (.sl (.v 0) (.yes (.bin .add (.v 2) (.int 1))) (.yes (.bin .add (.v 2) (.int 2)))) (.tup (.cons (.str "\\") (.cons (.str "n") .nil)))) (.cons (.ret .non) .nil) .nil) (.cons (.aug 1 .add (.ifx (.cmp .eq (.ix (.v 0) (.bin .add (.v 2) (.int 1))) (.str "n")) (.str "\n") (.str "\\"))) (.cons (.aug 2 .add (.int 2)) .nil))) (.cons (.aug 1 .add (.ix (.v 0) (.v 2))) (.cons (.aug 2 .add (.int 1)) .nil))) .nil))) (.cons (.ret (.v 1)) .nil)))), none⟩
def c_check_of : FD := ⟨1, 3, (.cons (.asg 1 (.int 1)) (.cons (.for (.nm 2) (.e (.v 0)) (.cons (.asg 1 (.bin .mod (.bin .add (.bin .mul (.v 1) (.int 131)) (.bi .ord (.v 2))) (.gl 0))) .nil)) (.cons (.ret (.fz (.v 1) 4)) .nil))), none⟩
def c_record : FD := ⟨1, 2, (.cons (.asg 1 (.ifx (.cmp .eq (.ix (.v 0) (.int 0)) (.str "add")) (.bin .add (.str "+") (.call 0 (.cons (.ix (.v 0) (.int 1)) .nil))) (.bin .add (.str "-") (.bi .str (.ix (.v 0) (.int 1)))))) (.cons (.ret (.bin .add (.bin .add (.call 2 (.cons (.v 1) .nil)) (.v 1)) (.str "\n"))) .nil)), none⟩
def c_read_record : FD := ⟨2, 7, (.cons (.asg 2 (.v 1)) (.cons (.whl (.and (.cmp .lt (.v 2) (.bi .len (.v 0))) (.cmp .ne (.ix (.v 0) (.v 2)) (.str "\n"))) (.cons (.aug 2 .add (.int 1)) .nil)) (.cons (.asg 3 (.sl (.v 0) (.yes (.bin .add (.v 1) (.int 4))) (.yes (.v 2)))) (.cons (.ifs (.or (.cmp .ge (.v 2) (.bi .len (.v 0))) (.or (.cmp .eq (.bi .len (.v 3)) (.int 0)) (.cmp .ne (.sl (.v 0) (.yes (.v 1)) (.yes (.bin .add (.v 1) (.int 4)))) (.call 2 (.cons (.v 3) .nil))))) (.cons (.ret .non) .nil) .nil) (.cons (.ifs (.cmp .eq (.ix (.v 3) (.int 0)) (.str "+")) (.cons (.asg 4 (.call 1 (.cons (.sl (.v 3) (.yes (.int 1)) .no) .nil))) (.cons (.ret (.ifx (.notN (.v 4)) (.tup (.cons (.tup (.cons (.str "add") (.cons (.v 4) .nil))) (.cons (.bin .add (.v 2) (.int 1)) .nil))) .non)) .nil)) .nil) (.cons (.asg 5 (.sl (.v 3) (.yes (.int 1)) .no)) (.cons (.ifs (.or (.cmp .ne (.ix (.v 3) (.int 0)) (.str "-")) (.or (.not (.chn .le .le (.int 1) (.bi .len (.v 5)) (.int 4))) (.not (.bi .all (.lc [6] (.nm 6) (.e (.v 5)) .no (.cmp .inn (.v 6) (.gl 1))))))) (.cons (.ret .non) .nil) .nil) (.cons (.ifs (.and (.cmp .gt (.bi .len (.v 5)) (.int 1)) (.cmp .eq (.ix (.v 5) (.int 0)) (.str "0"))) (.cons (.ret .non) .nil) .nil) (.cons (.ret (.tup (.cons (.tup (.cons (.str "drop") (.cons (.bi .int (.v 5)) .nil))) (.cons (.bin .add (.v 2) (.int 1)) .nil)))) .nil))))))))), none⟩
def c_appended : FD := ⟨3, 3, (.cons (.ret (.bin .add (.sl (.v 0) .no (.yes (.v 1))) (.call 3 (.cons (.v 2) .nil)))) .nil), none⟩
def c__law_cell : FD := ⟨2, 2, (.cons (.ifs (.cmp .lt (.v 1) (.bi .len (.v 0))) (.cons (.ret (.ix (.v 0) (.v 1))) .nil) .nil) (.cons (.ret (.int 0)) .nil)), none⟩
def c__law_digits : FD := ⟨3, 8, (.cons (.asg 3 (.lst .nil)) (.cons (.for (.nm 4) (.r2 (.v 1) (.v 2)) (.cons (.asg 5 (.call 6 (.cons (.v 0) (.cons (.v 4) .nil)))) (.cons (.ifs (.cmp .lt (.v 5) (.int 0)) (.cons (.asg 5 (.bin .sub (.int 1) (.bin .mul (.int 2) (.v 5)))) .nil) .nil) (.cons (.ifs (.cmp .ge (.v 5) (.bin .pow (.int 10) (.int 18))) (.cons (.for (.nm 6) (.r1 (.int 60)) (.cons (.ifs (.cmp .gt (.v 5) (.int 0)) (.cons (.app 3 (.bin .mod (.bi .int (.v 5)) (.int 1000))) (.cons (.asg 5 (.bin .fdiv (.v 5) (.int 1000))) .nil)) .nil) .nil)) .nil) (.cons (.asg 7 (.bin .mod (.bi .int (.bin .add (.bin .add (.bin .mul (.v 5) (.int 48271)) (.bin .mul (.v 4) (.int 69621))) (.int 11))) (.int 2147483647))) (.cons (.for (.nm 6) (.r1 (.int 12)) (.cons (.asg 7 (.bin .mod (.bi .int (.bin .add (.bin .add (.bin .mul (.v 7) (.int 16807)) (.bin .mul (.int 7) (.v 6))) (.int 1))) (.int 2147483647))) (.cons (.app 3 (.bin .mod (.bi .int (.bin .fdiv (.v 7) (.int 997))) (.int 1000))) .nil))) .nil))) .nil)))) (.cons (.ret (.v 3)) .nil))), none⟩
def c__law_draw : FD := ⟨2, 2, (.cons (.sti 0 (.int 1) (.bin .add (.ix (.v 0) (.int 1)) (.int 1))) (.cons (.ifs (.cmp .gt (.ix (.v 0) (.int 1)) (.bi .len (.ix (.v 0) (.int 0)))) (.cons (.ret (.bin .mod (.bi .int (.bin .add (.bin .mul (.ix (.v 0) (.int 1)) (.int 7)) (.int 3))) (.v 1))) .nil) .nil) (.cons (.ret (.bin .mod (.bi .int (.ix (.ix (.v 0) (.int 0)) (.bin .sub (.ix (.v 0) (.int 1)) (.int 1)))) (.v 1))) .nil))), none⟩
def c__law_pick : FD := ⟨2, 2, (.cons (.ret (.ix (.v 1) (.bin .mod (.bi .int (.call 8 (.cons (.v 0) (.cons (.int 1000) .nil)))) (.bi .len (.v 1))))) .nil), none⟩
def c__law_same : FD := ⟨2, 3, (.cons (.ifs (.isN (.v 1)) (.cons (.ret (.isN (.v 0))) .nil) .nil) (.cons (.ifs (.isB (.v 1) true) (.cons (.ret (.isB (.v 0) true)) .nil) .nil) (.cons (.ifs (.isB (.v 1) false) (.cons (.ret (.isB (.v 0) false)) .nil) .nil) (.cons (.ifs (.isi (.v 1) .str) (.cons (.ret (.and (.isi (.v 0) .str) (.cmp .eq (.bi .repr (.v 0)) (.bi .repr (.v 1))))) .nil) .nil) (.cons (.ifs (.isi (.v 1) .int) (.cons (.ret (.and (.isi (.v 0) .int) (.and (.not (.isi (.v 0) .bool)) (.cmp .eq (.bi .repr (.v 0)) (.bi .repr (.v 1)))))) .nil) .nil) (.cons (.ifs (.or (.and (.isi (.v 1) .tuple) (.not (.isi (.v 0) .tuple))) (.and (.isi (.v 1) .list) (.not (.isi (.v 0) .list)))) (.cons (.ret (.bl false)) .nil) .nil) (.cons (.ifs (.cmp .ne (.bi .len (.v 0)) (.bi .len (.v 1))) (.cons (.ret (.bl false)) .nil) .nil) (.cons (.for (.nm 2) (.r1 (.bi .len (.v 1))) (.cons (.ifs (.not (.call 10 (.cons (.ix (.v 0) (.v 2)) (.cons (.ix (.v 1) (.v 2)) .nil)))) (.cons (.ret (.bl false)) .nil) .nil) .nil)) (.cons (.ret (.bl true)) .nil))))))))), none⟩
def c__law_check : FD := ⟨1, 3, (.cons (.asg 1 (.int 1)) (.cons (.for (.nm 2) (.e (.v 0)) (.cons (.asg 1 (.bin .mod (.bi .int (.bin .add (.bin .mul (.v 1) (.int 131)) (.bi .ord (.v 2)))) (.int 9973))) .nil)) (.cons (.ret (.sl (.bin .add (.str "000") (.bi .str (.v 1))) (.yes (.neg (.int 4))) .no)) .nil))), none⟩
def c__law_escaped : FD := ⟨1, 3, (.cons (.asg 1 (.str "")) (.cons (.for (.nm 2) (.e (.v 0)) (.cons (.asg 1 (.bin .add (.v 1) (.ifx (.cmp .eq (.v 2) (.str "\\")) (.str "\\\\") (.ifx (.cmp .eq (.v 2) (.str "\n")) (.str "\\n") (.v 2))))) .nil)) (.cons (.ret (.v 1)) .nil))), none⟩
def c__law_sealed : FD := ⟨1, 1, (.cons (.ret (.bin .add (.bin .add (.call 11 (.cons (.v 0) .nil)) (.v 0)) (.str "\n"))) .nil), none⟩
def c__law_record : FD := ⟨1, 1, (.cons (.ret (.call 13 (.cons (.ifx (.cmp .eq (.ix (.v 0) (.int 0)) (.str "add")) (.bin .add (.str "+") (.call 12 (.cons (.ix (.v 0) (.int 1)) .nil))) (.bin .add (.str "-") (.bi .str (.ix (.v 0) (.int 1))))) .nil))) .nil), none⟩
def c__law_plain : FD := ⟨1, 4, (.cons (.asg 1 (.str "")) (.cons (.asg 2 (.bl false)) (.cons (.for (.nm 3) (.e (.v 0)) (.cons (.ifs (.v 2) (.cons (.asg 1 (.bin .add (.v 1) (.ifx (.cmp .eq (.v 3) (.str "n")) (.str "\n") (.v 3)))) .nil) (.cons (.ifs (.cmp .ne (.v 3) (.str "\\")) (.cons (.asg 1 (.bin .add (.v 1) (.v 3))) .nil) .nil) .nil)) (.cons (.asg 2 (.and (.cmp .eq (.v 3) (.str "\\")) (.not (.v 2)))) .nil))) (.cons (.ret (.ifx (.and (.not (.v 2)) (.cmp .eq (.call 12 (.cons (.v 1) .nil)) (.v 0))) (.v 1) .non)) .nil)))), none⟩
def c__law_read : FD := ⟨2, 10, (.cons (.asg 3 (.lc [2] (.nm 2) (.r2 (.v 1) (.bi .len (.v 0))) (.yes (.cmp .eq (.ix (.v 0) (.v 2)) (.str "\n"))) (.v 2))) (.cons (.ifs (.cmp .eq (.v 3) (.lst .nil)) (.cons (.ret .non) .nil) .nil) (.cons (.asg 4 (.sl (.v 0) (.yes (.v 1)) (.yes (.ix (.v 3) (.int 0))))) (.cons (.ifs (.or (.cmp .lt (.bi .len (.v 4)) (.int 5)) (.or (.cmp .ne (.sl (.v 4) .no (.yes (.int 4))) (.call 11 (.cons (.sl (.v 4) (.yes (.int 4)) .no) .nil))) (.cmp .nin (.ix (.v 4) (.int 4)) (.str "+-")))) (.cons (.ret .non) .nil) .nil) (.cons (.ifs (.cmp .eq (.ix (.v 4) (.int 4)) (.str "+")) (.cons (.asg 5 (.call 15 (.cons (.sl (.v 4) (.yes (.int 5)) .no) .nil))) (.cons (.ret (.ifx (.notN (.v 5)) (.tup (.cons (.tup (.cons (.str "add") (.cons (.v 5) .nil))) (.cons (.bin .add (.ix (.v 3) (.int 0)) (.int 1)) .nil))) .non)) .nil)) .nil) (.cons (.asg 6 (.sl (.v 4) (.yes (.int 5)) .no)) (.cons (.asg 8 (.and (.chn .le .le (.int 1) (.bi .len (.v 6)) (.int 4)) (.cmp .eq (.lc [7] (.nm 7) (.e (.v 6)) (.yes (.cmp .nin (.v 7) (.str "0123456789"))) (.v 7)) (.lst .nil)))) (.cons (.ifs (.or (.not (.v 8)) (.and (.cmp .gt (.bi .len (.v 6)) (.int 1)) (.cmp .eq (.ix (.v 6) (.int 0)) (.str "0")))) (.cons (.ret .non) .nil) .nil) (.cons (.asg 9 (.int 0)) (.cons (.for (.nm 7) (.e (.v 6)) (.cons (.asg 9 (.bin .add (.bin .mul (.v 9) (.int 10)) (.me .index (.str "0123456789") (.v 7)))) .nil)) (.cons (.ret (.tup (.cons (.tup (.cons (.str "drop") (.cons (.v 9) .nil))) (.cons (.bin .add (.ix (.v 3) (.int 0)) (.int 1)) .nil)))) .nil))))))))))), none⟩
def c__law_signs : FD := ⟨1, 2, (.cons (.ret (.me .join (.str "") (.lc [1] (.nm 1) (.r1 (.call 9 (.cons (.v 0) (.cons (.lst (.cons (.int 0) (.cons (.int 1) (.cons (.int 3) (.cons (.int 6) (.cons (.int 10) .nil)))))) .nil)))) .no (.call 9 (.cons (.v 0) (.cons (.str "ab1 .:-n\\\\\n+") .nil)))))) .nil), none⟩
def c__law_spoilt : FD := ⟨2, 6, (.cons (.asg 2 (.ifx (.cmp .eq (.ix (.v 1) (.int 0)) (.str "add")) (.bin .add (.str "+") (.call 12 (.cons (.ix (.v 1) (.int 1)) .nil))) (.bin .add (.str "-") (.bi .str (.ix (.v 1) (.int 1)))))) (.cons (.asg 3 (.call 8 (.cons (.v 0) (.cons (.int 9) .nil)))) (.cons (.ifs (.cmp .eq (.v 3) (.int 0)) (.cons (.ret (.call 13 (.cons (.bin .add (.v 2) (.call 9 (.cons (.v 0) (.cons (.lst (.cons (.str "\\") (.cons (.str "\\x") (.cons (.str "0") (.cons (.str "-") (.cons (.str " ") .nil)))))) .nil)))) .nil))) .nil) .nil) (.cons (.ifs (.cmp .eq (.v 3) (.int 1)) (.cons (.ret (.call 13 (.cons (.call 9 (.cons (.v 0) (.cons (.lst (.cons (.str "") (.cons (.str "+") (.cons (.str "-") (.cons (.str "-0") (.cons (.str "-00") (.cons (.str "-07") (.cons (.str "-9999") (.cons (.str "-12345") (.cons (.str "*a") (.cons (.str "-1x") .nil))))))))))) .nil))) .nil))) .nil) .nil) (.cons (.ifs (.cmp .eq (.v 3) (.int 2)) (.cons (.ret (.bin .add (.call 11 (.cons (.v 2) .nil)) (.v 2))) .nil) .nil) (.cons (.ifs (.cmp .eq (.v 3) (.int 3)) (.cons (.ret (.bin .add (.bin .add (.sl (.call 11 (.cons (.v 2) .nil)) .no (.yes (.int 3))) (.v 2)) (.str "\n"))) .nil) .nil) (.cons (.ifs (.cmp .eq (.v 3) (.int 4)) (.cons (.ret (.sl (.call 13 (.cons (.v 2) .nil)) (.yes (.int 1)) .no)) .nil) .nil) (.cons (.ifs (.cmp .eq (.v 3) (.int 5)) (.cons (.ret (.bin .add (.bin .add (.call 11 (.cons (.bin .add (.v 2) (.str " ")) .nil)) (.v 2)) (.str "\n"))) .nil) .nil) (.cons (.ifs (.cmp .eq (.v 3) (.int 6)) (.cons (.ret (.call 9 (.cons (.v 0) (.cons (.lst (.cons (.str "") (.cons (.str "\n") (.cons (.str "0001\n") (.cons (.str "0001") (.cons (.bin .add (.call 11 (.cons (.str "+a") .nil)) (.str "+b\n")) .nil)))))) .nil)))) .nil) .nil) (.cons (.asg 4 (.call 13 (.cons (.v 2) .nil))) (.cons (.asg 5 (.call 8 (.cons (.v 0) (.cons (.bi .len (.v 4)) .nil)))) (.cons (.ret (.bin .add (.bin .add (.sl (.v 4) .no (.yes (.v 5))) (.call 9 (.cons (.v 0) (.cons (.lst (.cons (.str "") (.cons (.str "a") (.cons (.str "\n") (.cons (.str "7") (.cons (.str "\\") .nil)))))) .nil)))) (.sl (.v 4) (.yes (.bin .add (.v 5) (.int 1))) .no))) .nil)))))))))))), none⟩
def c_law : FD := ⟨1, 10, (.cons (.asg 1 (.lst (.cons (.call 7 (.cons (.v 0) (.cons (.int 0) (.cons (.int 60) .nil)))) (.cons (.int 0) .nil)))) (.cons (.for (.nm 2) (.r1 (.int 5)) (.cons (.asg 3 (.call 17 (.cons (.v 1) .nil))) (.cons (.ifs (.or (.not (.call 10 (.cons (.call 0 (.cons (.v 3) .nil)) (.cons (.call 12 (.cons (.v 3) .nil)) .nil)))) (.not (.call 10 (.cons (.call 1 (.cons (.call 12 (.cons (.v 3) .nil)) .nil)) (.cons (.v 3) .nil))))) (.cons (.ret (.bl false)) .nil) .nil) (.cons (.ifs (.or (.not (.call 10 (.cons (.call 1 (.cons (.v 3) .nil)) (.cons (.call 15 (.cons (.v 3) .nil)) .nil)))) (.not (.call 10 (.cons (.call 2 (.cons (.v 3) .nil)) (.cons (.call 11 (.cons (.v 3) .nil)) .nil))))) (.cons (.ret (.bl false)) .nil) .nil) (.cons (.asg 4 (.call 9 (.cons (.v 1) (.cons (.lst (.cons (.tup (.cons (.str "add") (.cons (.v 3) .nil))) (.cons (.tup (.cons (.str "drop") (.cons (.call 9 (.cons (.v 1) (.cons (.lst (.cons (.int 0) (.cons (.int 7) (.cons (.int 10) (.cons (.int 999) (.cons (.int 9999) .nil)))))) .nil))) .nil))) .nil))) .nil)))) (.cons (.asg 5 (.call 14 (.cons (.v 4) .nil))) (.cons (.asgT [6, 7] (.cons (.call 17 (.cons (.v 1) .nil)) (.cons (.call 17 (.cons (.v 1) .nil)) .nil))) (.cons (.ifs (.or (.not (.call 10 (.cons (.call 3 (.cons (.v 4) .nil)) (.cons (.v 5) .nil)))) (.not (.call 10 (.cons (.call 4 (.cons (.bin .add (.bin .add (.v 6) (.v 5)) (.v 7)) (.cons (.bi .len (.v 6)) .nil))) (.cons (.tup (.cons (.v 4) (.cons (.bin .add (.bi .len (.v 6)) (.bi .len (.v 5))) .nil))) .nil))))) (.cons (.ret (.bl false)) .nil) .nil) (.cons (.ifs (.not (.call 10 (.cons (.call 5 (.cons (.bin .add (.v 6) (.v 7)) (.cons (.bi .len (.v 6)) (.cons (.v 4) .nil)))) (.cons (.bin .add (.v 6) (.v 5)) .nil)))) (.cons (.ret (.bl false)) .nil) .nil) (.cons (.for (.nm 8) (.r1 (.int 4)) (.cons (.asg 9 (.bin .add (.bin .add (.v 6) (.call 18 (.cons (.v 1) (.cons (.v 4) .nil)))) (.v 7))) (.cons (.ifs (.not (.call 10 (.cons (.call 4 (.cons (.v 9) (.cons (.bi .len (.v 6)) .nil))) (.cons (.call 16 (.cons (.v 9) (.cons (.bi .len (.v 6)) .nil))) .nil)))) (.cons (.ret (.bl false)) .nil) .nil) .nil))) (.cons (.ifs (.or (.notN (.call 4 (.cons (.bin .add (.v 6) (.sl (.v 5) .no (.yes (.call 8 (.cons (.v 1) (.cons (.bi .len (.v 5)) .nil)))))) (.cons (.bi .len (.v 6)) .nil)))) (.notN (.call 4 (.cons (.v 5) (.cons (.bi .len (.v 5)) .nil))))) (.cons (.ret (.bl false)) .nil) .nil) .nil))))))))))) (.cons (.ret (.and (.call 10 (.cons (.call 2 (.cons (.str "") .nil)) (.cons (.str "0001") .nil))) (.and (.call 10 (.cons (.call 2 (.cons (.str "a") .nil)) (.cons (.str "0228") .nil))) (.call 10 (.cons (.call 3 (.cons (.tup (.cons (.str "drop") (.cons (.int 3) .nil))) .nil)) (.cons (.bin .add (.call 11 (.cons (.str "-3") .nil)) (.str "-3\n")) .nil)))))) .nil))), none⟩
def code : List FD := [c_escaped, c_plain, c_check_of, c_record, c_read_record, c_appended, c__law_cell, c__law_digits, c__law_draw, c__law_pick, c__law_same, c__law_check, c__law_escaped, c__law_sealed, c__law_record, c__law_plain, c__law_read, c__law_signs, c__law_spoilt, c_law]
def nms : List (List Str) := [["text"],
  ["text", "found", "at"],
  ["text", "found", "sign"],
  ["deed", "body"],
  ["text", "at", "end", "body", "told", "figures", "sign"],
  ["text", "at", "deed"],
  ["script", "k"],
  ["script", "first", "last", "digits", "k", "cell", "turn", "seed"],
  ["box", "many"],
  ["box", "row"],
  ["told", "due", "k"],
  ["text", "mark", "sign"],
  ["text", "found", "sign"],
  ["body"],
  ["deed"],
  ["text", "found", "marked", "sign"],
  ["text", "at", "k", "ends", "row", "told", "figures", "sign", "fine", "number"],
  ["box", "k"],
  ["box", "deed", "body", "kind", "row", "at"],
  ["script", "box", "turn", "text", "deed", "row", "junk", "tail", "step", "bent"]]
def prm : List (List Str) := [["text"], ["text"], ["text"], ["deed"], ["text", "at"], ["text", "at", "deed"], ["script", "k"], ["script", "first", "last"], ["box", "many"], ["box", "row"], ["told", "due"], ["text"], ["text"], ["body"], ["deed"], ["text"], ["text", "at"], ["box"], ["box", "deed"], ["script"]]
def sts : List Stmt := [top 3, top 4, top 5, top 6, top 7, top 8, top 10, top 11, top 12, top 13, top 14, top 15, top 16, top 17, top 18, top 19, top 20, top 21, top 22, top 23]
theorem s_0 : FnScope (nms.getD 0 []) (prm.getD 0 []) (defScope (top 3)) := ⟨rfl, rfl, rfl, by decide +kernel, rfl, by decide +kernel, by decide +kernel⟩
theorem m_1 : mSs tb (nms.getD 1 []) (defScope (top 4)) c_plain.body (defBody (top 4)) = true := by decide +kernel
theorem s_1 : FnScope (nms.getD 1 []) (prm.getD 1 []) (defScope (top 4)) := ⟨rfl, rfl, rfl, by decide +kernel, rfl, by decide +kernel, by decide +kernel⟩
theorem m_2 : mSs tb (nms.getD 2 []) (defScope (top 5)) c_check_of.body (defBody (top 5)) = true := by decide +kernel
theorem s_2 : FnScope (nms.getD 2 []) (prm.getD 2 []) (defScope (top 5)) := ⟨rfl, rfl, rfl, by decide +kernel, rfl, by decide +kernel, by decide +kernel⟩
theorem m_3 : mSs tb (nms.getD 3 []) (defScope (top 6)) c_record.body (defBody (top 6)) = true := by decide +kernel
theorem s_3 : FnScope (nms.getD 3 []) (prm.getD 3 []) (defScope (top 6)) := ⟨rfl, rfl, rfl, by decide +kernel, rfl, by decide +kernel, by decide +kernel⟩
theorem m_4 : mSs tb (nms.getD 4 []) (defScope (top 7)) c_read_record.body (defBody (top 7)) = true := by decide +kernel
theorem s_4 : FnScope (nms.getD 4 []) (prm.getD 4 []) (defScope (top 7)) := ⟨rfl, rfl, rfl, by decide +kernel, rfl, by decide +kernel, by decide +kernel⟩
theorem m_5 : mSs tb (nms.getD 5 []) (defScope (top 8)) c_appended.body (defBody (top 8)) = true := by decide +kernel
theorem s_5 : FnScope (nms.getD 5 []) (prm.getD 5 []) (defScope (top 8)) := ⟨rfl, rfl, rfl, by decide +kernel, rfl, by decide +kernel, by decide +kernel⟩
theorem m_6 : mSs tb (nms.getD 6 []) (defScope (top 10)) c__law_cell.body (defBody (top 10)) = true := by decide +kernel
theorem s_6 : FnScope (nms.getD 6 []) (prm.getD 6 []) (defScope (top 10)) := ⟨rfl, rfl, rfl, by decide +kernel, rfl, by decide +kernel, by decide +kernel⟩
theorem m_7 : mSs tb (nms.getD 7 []) (defScope (top 11)) c__law_digits.body (defBody (top 11)) = true := by decide +kernel
theorem s_7 : FnScope (nms.getD 7 []) (prm.getD 7 []) (defScope (top 11)) := ⟨rfl, rfl, rfl, by decide +kernel, rfl, by decide +kernel, by decide +kernel⟩
theorem m_8 : mSs tb (nms.getD 8 []) (defScope (top 12)) c__law_draw.body (defBody (top 12)) = true := by decide +kernel
theorem s_8 : FnScope (nms.getD 8 []) (prm.getD 8 []) (defScope (top 12)) := ⟨rfl, rfl, rfl, by decide +kernel, rfl, by decide +kernel, by decide +kernel⟩
theorem m_9 : mSs tb (nms.getD 9 []) (defScope (top 13)) c__law_pick.body (defBody (top 13)) = true := by decide +kernel
theorem s_9 : FnScope (nms.getD 9 []) (prm.getD 9 []) (defScope (top 13)) := ⟨rfl, rfl, rfl, by decide +kernel, rfl, by decide +kernel, by decide +kernel⟩
theorem m_10 : mSs tb (nms.getD 10 []) (defScope (top 14)) c__law_same.body (defBody (top 14)) = true := by decide +kernel
theorem s_10 : FnScope (nms.getD 10 []) (prm.getD 10 []) (defScope (top 14)) := ⟨rfl, rfl, rfl, by decide +kernel, rfl, by decide +kernel, by decide +kernel⟩
theorem m_11 : mSs tb (nms.getD 11 []) (defScope (top 15)) c__law_check.body (defBody (top 15)) = true := by decide +kernel
theorem s_11 : FnScope (nms.getD 11 []) (prm.getD 11 []) (defScope (top 15)) := ⟨rfl, rfl, rfl, by decide +kernel, rfl, by decide +kernel, by decide +kernel⟩
theorem m_12 : mSs tb (nms.getD 12 []) (defScope (top 16)) c__law_escaped.body (defBody (top 16)) = true := by decide +kernel
theorem s_12 : FnScope (nms.getD 12 []) (prm.getD 12 []) (defScope (top 16)) := ⟨rfl, rfl, rfl, by decide +kernel, rfl, by decide +kernel, by decide +kernel⟩
theorem m_13 : mSs tb (nms.getD 13 []) (defScope (top 17)) c__law_sealed.body (defBody (top 17)) = true := by decide +kernel
theorem s_13 : FnScope (nms.getD 13 []) (prm.getD 13 []) (defScope (top 17)) := ⟨rfl, rfl, rfl, by decide +kernel, rfl, by decide +kernel, by decide +kernel⟩
theorem m_14 : mSs tb (nms.getD 14 []) (defScope (top 18)) c__law_record.body (defBody (top 18)) = true := by decide +kernel
theorem s_14 : FnScope (nms.getD 14 []) (prm.getD 14 []) (defScope (top 18)) := ⟨rfl, rfl, rfl, by decide +kernel, rfl, by decide +kernel, by decide +kernel⟩
theorem m_15 : mSs tb (nms.getD 15 []) (defScope (top 19)) c__law_plain.body (defBody (top 19)) = true := by decide +kernel
theorem s_15 : FnScope (nms.getD 15 []) (prm.getD 15 []) (defScope (top 19)) := ⟨rfl, rfl, rfl, by decide +kernel, rfl, by decide +kernel, by decide +kernel⟩
theorem m_16 : mSs tb (nms.getD 16 []) (defScope (top 20)) c__law_read.body (defBody (top 20)) = true := by decide +kernel
theorem s_16 : FnScope (nms.getD 16 []) (prm.getD 16 []) (defScope (top 20)) := ⟨rfl, rfl, rfl, by decide +kernel, rfl, by decide +kernel, by decide +kernel⟩
theorem m_17 : mSs tb (nms.getD 17 []) (defScope (top 21)) c__law_signs.body (defBody (top 21)) = true := by decide +kernel
theorem s_17 : FnScope (nms.getD 17 []) (prm.getD 17 []) (defScope (top 21)) := ⟨rfl, rfl, rfl, by decide +kernel, rfl, by decide +kernel, by decide +kernel⟩
theorem m_18 : mSs tb (nms.getD 18 []) (defScope (top 22)) c__law_spoilt.body (defBody (top 22)) = true := by decide +kernel
theorem s_18 : FnScope (nms.getD 18 []) (prm.getD 18 []) (defScope (top 22)) := ⟨rfl, rfl, rfl, by decide +kernel, rfl, by decide +kernel, by decide +kernel⟩
theorem m_19 : mSs tb (nms.getD 19 []) (defScope (top 23)) c_law.body (defBody (top 23)) = true := by decide +kernel
theorem s_19 : FnScope (nms.getD 19 []) (prm.getD 19 []) (defScope (top 23)) := ⟨rfl, rfl, rfl, by decide +kernel, rfl, by decide +kernel, by decide +kernel⟩
end K92

namespace K92
open PySem PySem.Spec PyProof.Rows L2 Z CwR
def spEsc : Sp := fun vs H Q _ => ∃ x : Str, vs = [.str x] ∧ x.length ≤ 100000 ∧ Q (.str (Txt.replace (Txt.replace x "\\" "\\\\") "\n" "\\n")) H
theorem ok_escaped {P : Program} {w : World} {K : PySem.W.Frag} {mg : Str → Option Value} {base : Heap} {Dp : PgT} {n : Nat} {f : Addr} {fd : FuncData} {T : Tb} {code : List FD} (F : Fun K "escaped" "escaped" (top 3) f fd) (h1 : Dp.fd 0 = fd) (h2 : Dp.addr 0 = f) (h3 : Dp.ps 0 = [("text" : Str)])
    (ih : ∀ f', FnG P w K mg base T code Dp n f') : FnN P w K mg base Dp (n + 1) 0 nt_escaped := by
  intro A outer s H args us vs Q hr hg e0 hb rv hsp
  obtain ⟨oc, od, kV, doc, pm, an, cdv, ct, osl, rfl, lk, hcd⟩ := F.ex
  have G := fn_ofT (CX := CX0) (P := P) (w := w) (mg := mg) (base := base) (k := n) (sp := spEsc) lk hcd s_0 (by decide +kernel) (by decide) (fun vs H Q E h => by
    obtain ⟨x, rfl, _⟩ := h
    rfl) (fun A outer s H vs Q E hr h => by
    obtain ⟨x, rfl, hz, q⟩ := h
    refine ⟨_, psst_one (pst_ret (pet_replT (pet_replC (pe_var (i := 0) rfl (.inl rfl)))) ), ?_⟩
    have l1 := TK.replace_len x "\\" "\\\\"
    have z1 : (("\\\\" : String) : Str).length = 2 := by decide +kernel
    have z2 : (("\\n" : String) : Str).length = 2 := by decide +kernel
    rw [z1] at l1
    exact ⟨_, rfl, x, rfl, by rw [z1]; omega, _, rfl, by rw [z2]; omega, q⟩)
  obtain ⟨G0, os, ro, outs, Ag, hrun, fin⟩ := hsp
  rw [h1, h3] at hb
  rw [h2]
  refine G.run A outer s H args us vs Q E0 hr e0 hb rv ?_
  unfold nt_escaped at hrun
  split at hrun
  · rename_i x
    split at hrun
    · rename_i hz
      cases hrun
      cases Ag.rep with
      | @cons _ v _ _ r1 r2 =>
        cases r2
        have ev : v = .str x := rp_str r1
        subst ev
        exact ⟨x, rfl, hz, fin _ G0 H ⟨L2.Same.refl _, Ag.gh, fun a o h _ => ⟨h, rfl⟩, fun a ⟨j, xs, k1, k2⟩ => by cases j <;> simp at k1, Rp.str _, fun p xs h => (nomatch h), .cons (Rp.str x) .nil⟩⟩
    · cases hrun
  · cases hrun
end K92

namespace K92
open PySem Z L2
def bx (ds : List Int) (c : Nat) : List D := [.list (intL ds), .int c]
def dr (ds : List Int) (c : Nat) (many : Int) : Int := if (ds.length : Int) < c + 1 then ((c + 1) * 7 + 3) % many else (ds[c]?).getD 0 % many
theorem dr_lo {ds : List Int} {c : Nat} {many : Int} (h : 0 < many) : 0 ≤ dr ds c many := by
  unfold dr
  split <;> exact Int.emod_nonneg _ (by omega)
theorem dr_hi {ds : List Int} {c : Nat} {many : Int} (h : 0 < many) : dr ds c many < many := by
  unfold dr
  split <;> exact Int.emod_lt_of_pos _ h
theorem at_ints {xs : List Int} {j : Nat} {k} (h : j < xs.length) : At (intL xs) (j : Int) k = k (.int xs[j]) := at_nat (by unfold intL; rw [List.getElem?_map, List.getElem?_eq_getElem h]; rfl)
theorem ev_draw (n : Nat) (ds : List Int) (c : Nat) (many : Int) (hm : 0 < many) : run gcs code (n + 1) 8 [.ol (bx ds c), .d (.int many)] = some (.d (.int (dr ds c many)), [.ol (bx ds (c + 1)), .d (.int many)]) := by
  obtain ⟨r, outs, h, rfl, rfl⟩ : ∃ r outs, run gcs code (n + 1) 8 [.ol (bx ds c), .d (.int many)] = some (r, outs) ∧ r = .d (.int (dr ds c many)) ∧ outs = [.ol (bx ds (c + 1)), .d (.int many)] := by
    refine run_wp rfl ⟨rfl, rfl, by decide⟩ ?_
    simp -implicitDefEqProofs [c__law_draw, ownO, bx, hm, intL_len, dr]
    by_cases h : (ds.length : Int) < c + 1
    · simp -implicitDefEqProofs [h]
      intro z
      omega
    · have h2 : c < ds.length := by omega
      simp -implicitDefEqProofs [h, at_ints h2, hm, h2]
  exact h
@[simp ↓] theorem ca_draw {n : Nat} {ds : List Int} {c : Nat} {many : Int} {k} (hm : 0 < many) : Ca (run gcs code (n + 1)) 8 [.ol (bx ds c), .d (.int many)] k = k (.d (.int (dr ds c many))) [.ol (bx ds (c + 1)), .d (.int many)] := ca_of (ev_draw n ds c many hm)
@[simp ↓] theorem ca_cell {n : Nat} {ns : List Int} {j : Nat} {k} : Ca (run gcs code (n + 1)) 6 [.d (.list (intL ns)), .d (.int j)] k = k (.d (.int ((ns[j]?).getD 0))) [.d (.list (intL ns)), .d (.int j)] := by
  obtain ⟨r, outs, h, rfl, rfl⟩ : ∃ r outs, run gcs code (n + 1) 6 [.d (.list (intL ns)), .d (.int j)] = some (r, outs) ∧ r = .d (.int ((ns[j]?).getD 0)) ∧ outs = [.d (.list (intL ns)), .d (.int j)] := by
    refine run_wp rfl ⟨rfl, rfl, by decide⟩ ?_
    simp -implicitDefEqProofs [c__law_cell, ownO, intL_len]
    by_cases h : j < ns.length
    · simp -implicitDefEqProofs [h, at_ints h]
    · simp -implicitDefEqProofs [h]
  exact ca_of h
/-- the digits: ints -/
theorem ev_digits (n : Nat) (ns : List Int) : ∃ ds : List Int, run gcs code (n + 2) 7 [.d (.list (intL ns)), .d (.int 0), .d (.int 60)] = some (.ol (intL ds), [.d (.list (intL ns)), .d (.int 0), .d (.int 60)]) := by
  obtain ⟨r, outs, h, ⟨ds, rfl⟩, rfl⟩ : ∃ r outs, run gcs code (n + 2) 7 [.d (.list (intL ns)), .d (.int 0), .d (.int 60)] = some (r, outs) ∧ (∃ ds, r = .ol (intL ds)) ∧ outs = [.d (.list (intL ns)), .d (.int 0), .d (.int 60)] := by
    refine run_wp rfl ⟨rfl, rfl, by decide⟩ ?_
    simp -implicitDefEqProofs [c__law_digits, ownO, Rg, sizeL]
    refine fr_inv (fun i e => ∃ (ds : List Int) (a b c d : Option O), ds.length ≤ 60 * i ∧ e = [some (.d (.list (intL ns))), some (.d (.int 0)), some (.d (.int 60)), some (.ol (intL ds)), a, b, c, d]) ⟨[], _, _, _, _, by simp, rfl⟩ ?_ ?_
    · rintro i x e hx ⟨ds, a, b, c, d, hd, rfl⟩
      obtain ⟨hi, rfl⟩ := mem_range hx
      have pw : ∀ k, Bn .pow (.int 10) (.int 18) k = k (.d (.int 1000000000000000000)) := fun k => bn_pow (by decide)
      simp -implicitDefEqProofs [Rg1, sizeL, pw]
      refine br_intro (fun _ => ?_) (fun _ => ?_)
      all_goals
        refine br_intro (fun _ => ?_) (fun _ => ?_)
        · refine fr_inv (fun j e => ∃ (ds2 : List Int) (cell : Int) (t u : Option O), ds2.length ≤ ds.length + j ∧ e = [some (.d (.list (intL ns))), some (.d (.int 0)), some (.d (.int 60)), some (.ol (intL ds2)), some (.d (.int i)), some (.d (.int cell)), t, u]) ⟨ds, _, _, _, by simp, rfl⟩ ?_ ?_
          · rintro j x e hx ⟨ds2, cell, t, u, hd2, rfl⟩
            obtain ⟨hj, rfl⟩ := mem_range hx
            have hz : (intL ds2).length < sizeLine := by rw [intL_len, sizeN]; omega
            simp -implicitDefEqProofs [hz]
            refine br_intro (fun _ => ?_) (fun _ => ?_)
            · exact ⟨ds2 ++ [cell % 1000], by simp; omega, intL_snoc⟩
            · exact ⟨ds2, by omega, rfl⟩
          · rintro e ⟨ds2, cell, t, u, hd2, rfl⟩
            rw [range_len] at hd2
            exact ⟨ds2, by omega, _, _, _, _, rfl⟩
        · refine fr_inv (fun j e => ∃ (ds2 : List Int) (cell : Int) (t : Option O) (u : Int), ds2.length ≤ ds.length + j ∧ e = [some (.d (.list (intL ns))), some (.d (.int 0)), some (.d (.int 60)), some (.ol (intL ds2)), some (.d (.int i)), some (.d (.int cell)), t, some (.d (.int u))]) ⟨ds, _, _, _, by simp, rfl⟩ ?_ ?_
          · rintro j x e hx ⟨ds2, cell, t, u, hd2, rfl⟩
            obtain ⟨hj, rfl⟩ := mem_range hx
            have hz : (intL ds2).length < sizeLine := by rw [intL_len, sizeN]; omega
            simp -implicitDefEqProofs [hz]
            exact ⟨ds2 ++ [(u * 16807 + 7 * (j : Int) + 1) % 2147483647 / 997 % 1000], by simp; omega, intL_snoc⟩
          · rintro e ⟨ds2, cell, t, u, hd2, rfl⟩
            rw [range_len] at hd2
            exact ⟨ds2, by omega, _, _, _, _, rfl⟩
    · rintro e ⟨ds, a, b, c, d, hd, rfl⟩
      simp -implicitDefEqProofs
      exact ⟨ds, rfl⟩
  exact ⟨ds, h⟩
theorem ev_of {n f : Nat} {os : List O} {r : O} {outs : List O} (h : ∃ r' outs', run gcs code n f os = some (r', outs') ∧ r' = r ∧ outs' = outs) : run gcs code n f os = some (r, outs) := by
  obtain ⟨r', outs', h, rfl, rfl⟩ := h
  exact h
/-! the sum of a text -/
def chk (l : List Nat) : Nat := l.foldl (fun m c => (m * 131 + c) % 9973) 1
theorem chk_lt (l : List Nat) : chk l < 9973 := by
  have h : ∀ (l : List Nat) (m : Nat), m < 9973 → l.foldl (fun m c => (m * 131 + c) % 9973) m < 9973 := by
    intro l
    induction l with
    | nil => exact fun m h => h
    | cons c l ih => exact fun m h => ih _ (Nat.mod_lt _ (by decide))
  exact h l 1 (by decide)
theorem chk_snoc {l : List Nat} {c : Nat} : chk (l ++ [c]) = (chk l * 131 + c) % 9973 := by
  unfold chk
  rw [List.foldl_append]
  rfl
def dg (m : Nat) : List Nat := (Nat.toDigits 10 m).map Char.toNat
theorem str_nat {m : Nat} : Str.ofString (toString (m : Int)) = S (dg m) := PyProof.Rows.text_ofNat m
theorem dg_len {m : Nat} : (dg m).length = (Nat.toDigits 10 m).length := List.length_map _
/-- four figures -/
def fig (m : Nat) : List Nat := List.replicate (4 - (dg m).length) 48 ++ dg m
def cs (l : List Nat) : List Nat := fig (chk l)
theorem pad_fig {m : Nat} : padZ 4 (m : Int) = S (fig m) := by
  unfold padZ fig
  rw [str_nat, Int.natAbs_natCast, ← dg_len]
  exact S_app
theorem dg_in {m : Nat} (h : m < 9973) : 1 ≤ (dg m).length ∧ (dg m).length ≤ 4 := by
  rw [dg_len]
  exact ⟨PyProof.Rows.tDigits_len_ge 10 m, PyProof.Rows.digits10_le (by decide) (by omega)⟩
theorem fig_len {m : Nat} (h : m < 9973) : (fig m).length = 4 := by
  have := dg_in h
  unfold fig
  rw [List.length_append, List.length_replicate]
  omega
theorem last4 {m : Nat} (h : m < 9973) : (([48, 48, 48] ++ dg m).drop ((dg m).length - 1)) = fig m := by
  have := dg_in h
  unfold fig
  have e : (dg m).length = 1 ∨ (dg m).length = 2 ∨ (dg m).length = 3 ∨ (dg m).length = 4 := by omega
  rcases e with e | e | e | e <;> rw [e] <;> simp [List.replicate]
theorem gc_most {k : Str × PyData → Prop} : Wo (gcs[0]?) k = k ("MOST_CHECK", .int 9973) := rfl
theorem gc_figs {k : Str × PyData → Prop} : Wo (gcs[1]?) k = k ("FIGURES", .str (S [48, 49, 50, 51, 52, 53, 54, 55, 56, 57])) := by
  have h : (Str.ofString "0123456789") = S [48, 49, 50, 51, 52, 53, 54, 55, 56, 57] := by decide +kernel
  show k ("FIGURES", .str (Str.ofString "0123456789")) = _
  rw [h]
theorem emod_nat {a b c : Nat} : ((a : Int) * 131 + (b : Int)) % 9973 = (((a * 131 + b) % 9973 : Nat) : Int) := by omega
theorem get_signs {l : List Nat} {i : Nat} {x : D} (hx : (l.map fun c => PyData.str (S [c]))[i]? = some x) : ∃ c, l[i]? = some c ∧ x = .str (S [c]) := by
  rw [List.getElem?_map] at hx
  cases q : l[i]? with
  | none =>
    rw [q] at hx
    cases hx
  | some c =>
    rw [q] at hx
    cases hx
    exact ⟨c, rfl, rfl⟩
theorem take_one {l : List Nat} {i c : Nat} (hc : l[i]? = some c) : l.take (i + 1) = l.take i ++ [c] := by
  rw [List.take_add_one, hc]
  rfl
theorem ca_check {n : Nat} {l : List Nat} {k} (hl : l.length ≤ 1000000) : Ca (run gcs code (n + 1)) 2 [.d (.str (S l))] k = k (.d (.str (S (cs l)))) [.d (.str (S l))] := by
  refine ca_of (ev_of (run_wp rfl ⟨rfl, rfl, by decide⟩ ?_))
  simp -implicitDefEqProofs [c_check_of, show l.length ≤ 16777216 by omega]
  refine fr_inv (fun i e => ∃ x2, e = [some (.d (.str (S l))), some (.d (.int (chk (l.take i)))), x2]) ⟨none, rfl⟩ ?_ ?_
  · rintro i x e hx hP
    obtain ⟨c, hc, rfl⟩ := get_signs hx
    obtain ⟨x2, rfl⟩ := hP
    rw [take_one hc, chk_snoc]
    simp -implicitDefEqProofs [gc_most, emod_nat]
  · rintro e ⟨x2, rfl⟩
    rw [List.length_map, List.take_length]
    have hf := fun k => fz_i (n := 4) (i := (chk l : Int)) (k := k) ⟨by omega, by have := chk_lt l; omega⟩
    simp -implicitDefEqProofs [hf, pad_fig]
    rfl
theorem small_nat {m : Nat} (h : m < 10000) : Z.smallInt (m : Int) = true := small_of (by rw [Int.natAbs_natCast]; exact Nat.lt_of_lt_of_le (m := 2 ^ 14) (by omega) (Nat.pow_le_pow_right (by decide) (by decide)))
theorem ca_lcheck {n : Nat} {l : List Nat} {k} (hl : l.length ≤ 1000000) : Ca (run gcs code (n + 1)) 11 [.d (.str (S l))] k = k (.d (.str (S (cs l)))) [.d (.str (S l))] := by
  refine ca_of (ev_of (run_wp rfl ⟨rfl, rfl, by decide⟩ ?_))
  simp -implicitDefEqProofs [c__law_check, show l.length ≤ 16777216 by omega]
  refine fr_inv (fun i e => ∃ x2, e = [some (.d (.str (S l))), some (.d (.int (chk (l.take i)))), x2]) ⟨none, rfl⟩ ?_ ?_
  · rintro i x e hx hP
    obtain ⟨c, hc, rfl⟩ := get_signs hx
    obtain ⟨x2, rfl⟩ := hP
    rw [take_one hc, chk_snoc]
    simp -implicitDefEqProofs [emod_nat]
  · rintro e ⟨x2, rfl⟩
    rw [List.length_map, List.take_length]
    have d := dg_in (chk_lt l)
    have e0 : Str.ofString "000" = S [48, 48, 48] := by decide +kernel
    have s1 : ∀ k, Bt .str (.int (chk l : Int)) k = k (.d (.str (S (dg (chk l))))) := fun k => by
      rw [bt_strI (small_nat (Nat.lt_trans (chk_lt l) (by decide))), str_nat]
    simp -implicitDefEqProofs [e0, s1, show 3 + (dg (chk l)).length ≤ 16777216 by omega]
    rw [sc_S (by simp; omega)]
    have l4 := last4 (chk_lt l)
    generalize hd : dg (chk l) = ds at d l4 ⊢
    have h1 : HT.sIx (48 :: 48 :: 48 :: ds).length 0 (some (-4)) = ds.length - 1 := by
      simp only [HT.sIx]
      rw [if_pos (by decide)]
      simp only [List.length_cons]
      omega
    have h2 : HT.sIx (48 :: 48 :: 48 :: ds).length (48 :: 48 :: 48 :: ds).length none = ds.length + 3 := by simp [HT.sIx]
    rw [h1, h2, List.take_of_length_le (by simp only [List.length_drop, List.length_cons]; omega)]
    show O.d (.str (S (([48, 48, 48] ++ ds).drop (ds.length - 1)))) = _
    rw [l4]
    rfl
/-! escapes -/
def esc1 (c : Nat) : List Nat := if c = 92 then [92, 92] else if c = 10 then [92, 110] else [c]
def esc (l : List Nat) : List Nat := l.flatMap esc1
def plainL : List Nat → Option (List Nat)
  | [] => some []
  | 10 :: _ => none
  | [92] => none
  | 92 :: c :: r => if c = 92 ∨ c = 110 then (plainL r).map ((if c = 110 then 10 else 92) :: ·) else none
  | c :: r => (plainL r).map (c :: ·)
theorem esc_len (l : List Nat) : (esc l).length ≤ 2 * l.length := by
  unfold esc
  induction l with
  | nil => exact Nat.le_refl _
  | cons c l ih =>
    rw [List.flatMap_cons, List.length_append, List.length_cons]
    have : (esc1 c).length ≤ 2 := by
      unfold esc1
      split
      · exact Nat.le_refl _
      · split
        · exact Nat.le_refl _
        · simp
    omega
theorem esc_snoc {l : List Nat} {c : Nat} : esc (l ++ [c]) = esc l ++ esc1 c := by
  unfold esc
  rw [List.flatMap_append]
  simp
theorem plain_esc : ∀ l : List Nat, plainL (esc l) = some l
  | [] => rfl
  | c :: l => by
    have ih := plain_esc l
    show plainL (esc1 c ++ esc l) = _
    unfold esc1
    by_cases h1 : c = 92
    · subst h1
      show (plainL (esc l)).map (92 :: ·) = _
      rw [ih]
      rfl
    · rw [if_neg h1]
      by_cases h2 : c = 10
      · subst h2
        show (plainL (esc l)).map (10 :: ·) = _
        rw [ih]
        rfl
      · rw [if_neg h2]
        show plainL (c :: esc l) = _
        have e : plainL (c :: esc l) = (plainL (esc l)).map (c :: ·) := by
          rw [plainL]
          · exact fun h => h2 h
          · exact fun h _ => h1 h
          · exact fun c' r h _ => h1 h
        rw [e, ih]
        rfl
theorem no_nl (l : List Nat) : 10 ∉ esc l := by
  unfold esc
  rw [List.mem_flatMap]
  rintro ⟨c, _, h⟩
  unfold esc1 at h
  split at h
  · simp at h
  · split at h
    · simp at h
    · rename_i h1 h2
      have : c = 10 := by
        have := List.mem_singleton.mp h
        exact this.symm
      exact h2 this
theorem repl_one {a : Nat} {z : List Nat} : ∀ l : List Nat, PySem.StrLaws.replL [a] z l = l.flatMap fun c => if c = a then z else [c]
  | [] => PySem.StrLaws.replL_nil
  | c :: l => by
    by_cases h : c = a
    · subst h
      rw [PySem.StrLaws.replL_hit (by simp) (by simp)]
      show z ++ PySem.StrLaws.replL [c] z l = _
      rw [repl_one l, List.flatMap_cons, if_pos rfl]
    · rw [PySem.StrLaws.replL_miss (by simpa using h), repl_one l, List.flatMap_cons, if_neg h]
      rfl
theorem lit_bs : Str.ofString "\\" = S [92] := by decide +kernel
theorem lit_bb : Str.ofString "\\\\" = S [92, 92] := by decide +kernel
theorem lit_nl : Str.ofString "\n" = S [10] := by decide +kernel
theorem lit_bn : Str.ofString "\\n" = S [92, 110] := by decide +kernel
theorem lit_n : Str.ofString "n" = S [110] := by decide +kernel
theorem lit_e : Str.ofString "" = S [] := by decide +kernel
theorem esc_repl {l : List Nat} : Txt.replace (Txt.replace (S l) "\\" "\\\\") "\n" "\\n" = S (esc l) := by
  rw [S_of (Txt.replace (Txt.replace (S l) "\\" "\\\\") "\n" "\\n"), PySem.StrLaws.replace_list (by decide +kernel), PySem.StrLaws.replace_list (by decide +kernel), lit_bs, lit_bb, lit_nl, lit_bn]
  simp only [S_cps]
  rw [repl_one, repl_one, List.flatMap_assoc]
  congr 1
  unfold esc
  congr 1
  funext c
  unfold esc1
  by_cases h1 : c = 92
  · subst h1
    rfl
  · rw [if_neg h1, if_neg h1]
    by_cases h2 : c = 10
    · subst h2
      rfl
    · simp [h2]
theorem ca_esc {n : Nat} {l : List Nat} {k} (hl : l.length ≤ 100000) : Ca (run gcs code (n + 1)) 0 [.d (.str (S l))] k = k (.d (.str (S (esc l)))) [.d (.str (S l))] := by
  refine ca_of ?_
  show (if [O.d (.str (S l))].length = 1 then nt_escaped [.d (.str (S l))] else none) = _
  rw [if_pos (show [O.d (.str (S l))].length = 1 from rfl)]
  show (if (S l).length ≤ 100000 then some (O.d (.str (Txt.replace (Txt.replace (S l) "\\" "\\\\") "\n" "\\n")), [O.d (.str (S l))]) else none) = _
  rw [if_pos (by rw [S_len]; exact hl), esc_repl]
theorem ca_lesc {n : Nat} {l : List Nat} {k} (hl : l.length ≤ 100000) : Ca (run gcs code (n + 1)) 12 [.d (.str (S l))] k = k (.d (.str (S (esc l)))) [.d (.str (S l))] := by
  refine ca_of (ev_of (run_wp rfl ⟨rfl, rfl, by decide⟩ ?_))
  simp -implicitDefEqProofs [c__law_escaped, show l.length ≤ 16777216 by omega]
  refine fr_inv (fun i e => i ≤ l.length ∧ ∃ x2, e = [some (.d (.str (S l))), some (.d (.str (S (esc (l.take i))))), x2]) ⟨Nat.zero_le _, none, by rw [lit_e]; rfl⟩ ?_ ?_
  · rintro i x e hx hP
    obtain ⟨c, hc, rfl⟩ := get_signs hx
    obtain ⟨hi, x2, rfl⟩ := hP
    have hi2 : i < l.length := (List.getElem?_eq_some_iff.mp hc).1
    have el := esc_len (l.take i)
    have tl : (l.take i).length ≤ 100000 := by rw [List.length_take]; omega
    have z1 : (esc (l.take i)).length + 1 ≤ 16777216 := by omega
    have z2 : (esc (l.take i)).length + 2 ≤ 16777216 := by omega
    rw [take_one hc, esc_snoc]
    simp -implicitDefEqProofs [lit_bs, lit_bb, lit_nl, lit_bn, z1, z2]
    refine br_intro (fun h => ?_) (fun h => br_intro (fun h2 => ?_) (fun h2 => ?_))
    · have h := of_decide_eq_true h
      subst h
      exact ⟨hi2, rfl⟩
    · have h2 := of_decide_eq_true h2
      subst h2
      exact ⟨hi2, rfl⟩
    · have h := of_decide_eq_false h
      have h2 := of_decide_eq_false h2
      refine ⟨hi2, ?_⟩
      unfold esc1
      rw [if_neg h, if_neg h2]
  · rintro e ⟨hi, x2, rfl⟩
    rw [List.length_map, List.take_length]
    simp -implicitDefEqProofs
def optS : Option (List Nat) → D
  | some x => .str (S x)
  | none => .none
theorem plain_some : ∀ {l x : List Nat}, plainL l = some x → esc x = l
  | l, x, h => by
    induction l using plainL.induct generalizing x with
    | case1 =>
      rw [plainL] at h
      cases h
      rfl
    | case2 r =>
      rw [plainL] at h
      cases h
    | case3 =>
      rw [plainL] at h
      cases h
    | case4 c r hc ih =>
      rw [plainL, if_pos hc] at h
      cases q : plainL r with
      | none =>
        rw [q] at h
        cases h
      | some y =>
        rw [q] at h
        cases h
        have := ih y q
        rcases hc with rfl | rfl
        · show esc1 92 ++ esc y = _
          rw [this]
          rfl
        · show esc1 10 ++ esc y = _
          rw [this]
          rfl
    | case5 c r hc =>
      rw [plainL, if_neg hc] at h
      cases h
    | case6 c r h1 h2 h3 ih =>
      rw [plainL] at h
      · cases q : plainL r with
        | none =>
          rw [q] at h
          cases h
        | some y =>
          rw [q] at h
          cases h
          have := ih y q
          show esc1 c ++ esc y = _
          rw [this]
          have c1 : c ≠ 10 := fun z => h1 z
          have c2 : c ≠ 92 := fun z => by
            subst z
            cases r with
            | nil => exact h2 rfl rfl
            | cons d r => exact h3 d r rfl rfl
          unfold esc1
          rw [if_neg c2, if_neg c1]
          rfl
      · exact h1
      · exact h2
      · exact h3
theorem slice1 {l : List Nat} {i : Nat} {k} (hz : l.length ≤ 16777216) (hi : i < l.length) : Sc (.str (S l)) (some ((i : Int) + 1)) (some ((i : Int) + 2)) k = k (.d (.str (S ((l.drop (i + 1)).take 1)))) := by
  rw [sc_S hz, show (i : Int) + 1 = ((i + 1 : Nat) : Int) by omega, show (i : Int) + 2 = ((i + 2 : Nat) : Int) by omega, HT.sIx_nat, HT.sIx_nat]
  rw [Nat.min_eq_left (show i + 1 ≤ l.length by omega)]
  congr 4
  by_cases h : i + 2 ≤ l.length
  · rw [Nat.min_eq_left h]
    congr 1
    omega
  · have e : l.drop (i + 1) = [] := List.drop_eq_nil_of_le (by omega)
    rw [e]
    simp
theorem ix_S1 {l : List Nat} {i : Nat} {k} (hz : l.length ≤ 16777216) (h : i + 1 < l.length) : Ix (.str (S l)) (.int ((i : Int) + 1)) k = k (.str (S [(l[i + 1]?).getD 0])) := by
  rw [show (i : Int) + 1 = ((i + 1 : Nat) : Int) by omega]
  exact ix_S hz h
theorem ca_plain {n : Nat} {l : List Nat} {k} (hl : l.length ≤ 100000) : Ca (run gcs code (n + 1)) 1 [.d (.str (S l))] k = k (.d (optS (plainL l))) [.d (.str (S l))] := by
  refine ca_of (ev_of (run_wp rfl ⟨rfl, rfl, by decide⟩ ?_))
  have z0 : l.length ≤ 16777216 := by omega
  simp -implicitDefEqProofs [c_plain, lit_e]
  refine wh_inv (P := fun m e => ∃ (i : Nat) (acc : List Nat), i ≤ l.length ∧ m = l.length - i ∧ acc.length ≤ i ∧ plainL l = (plainL (l.drop i)).map (acc ++ ·) ∧ e = [some (.d (.str (S l))), some (.d (.str (S acc))), some (.d (.int i))])
    ?_ whileMost l.length _ (by unfold whileMost; omega) ⟨0, [], Nat.zero_le _, rfl, Nat.le_refl _, by simp, rfl⟩
  rintro m e ⟨i, acc, hi, rfl, ha, hp, rfl⟩
  simp -implicitDefEqProofs [z0]
  refine br_intro (fun h => ?_) (fun h => ?_)
  · have h : i < l.length := by simpa using h
    have ix := fun k => ix_S (k := k) z0 h
    have sl := fun k => slice1 (k := k) z0 h
    have hd : l.drop i = (l[i]?).getD 0 :: l.drop (i + 1) := by
      rw [List.drop_eq_getElem_cons h, List.getElem?_eq_getElem h]
      rfl
    rw [hd] at hp
    have za : acc.length + 1 ≤ 16777216 := by omega
    simp -implicitDefEqProofs [ix, lit_nl, lit_bs, lit_n, sl]
    generalize (l[i]?).getD 0 = c at hp ⊢
    refine br_intro (fun h1 => ?_) (fun h1 => br_intro (fun h2 => ?_) (fun h2 => ?_))
    · have h1 := of_decide_eq_true h1
      subst h1
      rw [hp, plainL]
      rfl
    · have h2 := of_decide_eq_true h2
      subst h2
      refine br_intro (fun h3 => ?_) (fun h3 => ?_)
      · simp only [Bool.or_eq_true, decide_eq_true_eq] at h3
        have h4 : i + 1 < l.length := by
          refine Classical.byContradiction fun z => ?_
          rw [List.drop_eq_nil_of_le (by omega)] at h3
          simp at h3
        have hd2 : l.drop (i + 1) = (l[i + 1]?).getD 0 :: l.drop (i + 2) := by
          rw [List.drop_eq_getElem_cons h4, List.getElem?_eq_getElem h4]
          rfl
        have ix1 := fun k => ix_S1 (k := k) z0 h4
        rw [hd2] at hp h3
        simp -implicitDefEqProofs [ix1, za]
        generalize (l[i + 1]?).getD 0 = d at hp h3 ⊢
        have hdd : d = 92 ∨ d = 110 := by
          rcases h3 with h3 | h3
          · left
            simpa using h3.symm
          · right
            simpa using h3.symm
        rw [plainL, if_pos hdd] at hp
        refine br_intro (fun h5 => ?_) (fun h5 => ?_)
        · have h5 := of_decide_eq_true h5
          refine ⟨l.length - (i + 2), by omega, i + 2, by omega, rfl, acc ++ [10], by simp; omega, ?_, rfl, by omega⟩
          rw [hp, if_pos h5]
          cases plainL (l.drop (i + 2)) <;> simp
        · have h5 := of_decide_eq_false h5
          refine ⟨l.length - (i + 2), by omega, i + 2, by omega, rfl, acc ++ [92], by simp; omega, ?_, rfl, by omega⟩
          rw [hp, if_neg h5]
          cases plainL (l.drop (i + 2)) <;> simp
      · simp only [Bool.or_eq_false_iff, decide_eq_false_iff_not] at h3
        have e : plainL (92 :: l.drop (i + 1)) = none := by
          cases q : l.drop (i + 1) with
          | nil => rw [plainL]
          | cons d r =>
            rw [q] at h3
            rw [plainL, if_neg]
            rintro (rfl | rfl)
            · exact h3.1 (by simp)
            · exact h3.2 (by simp)
        rw [hp, e]
        rfl
    · have h1 := of_decide_eq_false h1
      have h2 := of_decide_eq_false h2
      simp -implicitDefEqProofs [za]
      have e : plainL (c :: l.drop (i + 1)) = (plainL (l.drop (i + 1))).map (c :: ·) := by
        rw [plainL]
        · exact fun z => h1 z
        · exact fun z _ => h2 z
        · exact fun d r z _ => h2 z
      refine ⟨l.length - (i + 1), by omega, i + 1, by omega, rfl, acc ++ [c], by simp; omega, ?_, rfl, by omega⟩
      rw [hp, e]
      cases plainL (l.drop (i + 1)) <;> simp
  · have h : ¬ i < l.length := by simpa using h
    have e0 : l.drop i = [] := List.drop_eq_nil_of_le (by omega)
    rw [e0] at hp
    rw [hp]
    simp -implicitDefEqProofs [plainL, optS]
theorem ev_same0 (n k m : Nat) (d : D) (o : O) (h : Nice d k m) (hm : m ≤ 1000000) (ho : o.dat = d) (ih : ∀ x, (∃ k', k = k' + 1 ∧ Nice x k' m) → run gcs code n 10 [.d x, .d x] = some (.d (.bool true), [.d x, .d x])) : run gcs code (n + 1) 10 [o, .d d] = some (.d (.bool true), [o, .d d]) := by
  refine ev_of (run_wp rfl ⟨rfl, rfl, by decide⟩ ?_)
  have hz : sizeLine = 16777216 := sizeN
  cases d with
  | none =>
    simp -implicitDefEqProofs [c__law_same, ho, isNoneD]
  | bool b =>
    cases b <;> simp -implicitDefEqProofs [c__law_same, ho, isNoneD, isBoolD]
  | int i =>
    have hi : Z.smallInt i = true := h.sho
    have br := fun k => bt_reprI (k := k) hi
    simp -implicitDefEqProofs [c__law_same, ho, isNoneD, isBoolD, tyD, br]
  | str x =>
    have br := fun k => bt_reprS (x := x) (k := k) (by have := h.siz; simp only [mx] at this; omega)
    simp -implicitDefEqProofs [c__law_same, ho, isNoneD, isBoolD, tyD, br]
  | list xs =>
    obtain ⟨k', rfl, hx, hl⟩ := nice_items (.inl h)
    simp -implicitDefEqProofs [c__law_same, ho, isNoneD, isBoolD, tyD, show xs.length ≤ 1000000 by omega]
    refine fr_inv (fun i e => ∃ x3, e = [some o, some (.d (.list xs)), x3]) ⟨_, rfl⟩ ?_ ?_
    · rintro i x e hx' ⟨x3, rfl⟩
      obtain ⟨hi, rfl⟩ := mem_range hx'
      have ai := fun k => at_nat (k := k) (List.getElem?_eq_getElem hi)
      have ca := fun k => ca_of (k := k) (ih _ ⟨_, rfl, hx _ (List.getElem_mem hi)⟩)
      simp -implicitDefEqProofs [ho, ai, ca]
    · rintro e ⟨x3, rfl⟩
      simp -implicitDefEqProofs
  | tuple xs =>
    obtain ⟨k', rfl, hx, hl⟩ := nice_items (.inr h)
    simp -implicitDefEqProofs [c__law_same, ho, isNoneD, isBoolD, tyD, show xs.length ≤ 1000000 by omega]
    refine fr_inv (fun i e => ∃ x3, e = [some o, some (.d (.tuple xs)), x3]) ⟨_, rfl⟩ ?_ ?_
    · rintro i x e hx' ⟨x3, rfl⟩
      obtain ⟨hi, rfl⟩ := mem_range hx'
      have ai := fun k => at_nat (k := k) (List.getElem?_eq_getElem hi)
      have ca := fun k => ca_of (k := k) (ih _ ⟨_, rfl, hx _ (List.getElem_mem hi)⟩)
      simp -implicitDefEqProofs [ho, ai, ca]
    · rintro e ⟨x3, rfl⟩
      simp -implicitDefEqProofs
  | dict kvs =>
    have := h.lay
    simp only [PyData.canLay0] at this
    cases this
theorem ev_same {m : Nat} (hm : m ≤ 1000000) : ∀ (k n : Nat) {d : D} {o : O}, Nice d k m → o.dat = d → run gcs code (n + k + 1) 10 [o, .d d] = some (.d (.bool true), [o, .d d])
  | 0, n, d, o, h, ho => ev_same0 (n + 0) 0 m d o h hm ho fun x hx => by
    obtain ⟨k', h1, _⟩ := hx
    cases h1
  | k + 1, n, d, o, h, ho => ev_same0 (n + (k + 1)) (k + 1) m d o h hm ho fun x hx => by
    obtain ⟨k', h1, h2⟩ := hx
    cases h1
    exact ev_same hm k n h2 rfl
theorem ca_same {n : Nat} {d : D} {o : O} {k} (h : Nice d 2 1000000) (ho : o.dat = d) : Ca (run gcs code (n + 3)) 10 [o, .d d] k = k (.d (.bool true)) [o, .d d] := ca_of (ev_same (m := 1000000) (by omega) 2 n h ho)
/-! the law's own reading of escapes -/
def rawL : List Nat → List Nat × Bool → List Nat × Bool
  | [], p => p
  | c :: r, p => rawL r (if p.2 then (p.1 ++ [if c = 110 then 10 else c], false) else if c = 92 then (p.1, true) else (p.1 ++ [c], false))
theorem raw_plain : ∀ {l x : List Nat} (acc : List Nat), plainL l = some x → rawL l (acc, false) = (acc ++ x, false)
  | l, x, acc, h => by
    induction l using plainL.induct generalizing x acc with
    | case1 =>
      rw [plainL] at h
      cases h
      simp [rawL]
    | case2 r =>
      rw [plainL] at h
      cases h
    | case3 =>
      rw [plainL] at h
      cases h
    | case4 c r hc ih =>
      rw [plainL, if_pos hc] at h
      cases q : plainL r with
      | none =>
        rw [q] at h
        cases h
      | some y =>
        rw [q] at h
        cases h
        rcases hc with rfl | rfl
        · show rawL r (acc ++ [92], false) = _
          rw [ih y (acc ++ [92]) q]
          simp
        · show rawL r (acc ++ [10], false) = _
          rw [ih y (acc ++ [10]) q]
          simp
    | case5 c r hc =>
      rw [plainL, if_neg hc] at h
      cases h
    | case6 c r h1 h2 h3 ih =>
      rw [plainL] at h
      · cases q : plainL r with
        | none =>
          rw [q] at h
          cases h
        | some y =>
          rw [q] at h
          cases h
          have c2 : c ≠ 92 := fun z => by
            subst z
            cases r with
            | nil => exact h2 rfl rfl
            | cons d r => exact h3 d r rfl rfl
          unfold rawL
          rw [if_neg (by simp), if_neg c2, ih y (acc ++ [c]) q]
          simp
      · exact h1
      · exact h2
      · exact h3
theorem raw_snoc {c : Nat} : ∀ {l : List Nat} {p : List Nat × Bool}, rawL (l ++ [c]) p = (if (rawL l p).2 then ((rawL l p).1 ++ [if c = 110 then 10 else c], false) else if c = 92 then ((rawL l p).1, true) else ((rawL l p).1 ++ [c], false))
  | [], p => rfl
  | d :: l, p => by
    show rawL (l ++ [c]) _ = _
    rw [raw_snoc]
    rfl
theorem raw_len : ∀ {l : List Nat} {p : List Nat × Bool}, (rawL l p).1.length ≤ p.1.length + l.length
  | [], p => Nat.le_refl _
  | d :: l, p => by
    have h := raw_len (l := l) (p := if p.2 then (p.1 ++ [if d = 110 then 10 else d], false) else if d = 92 then (p.1, true) else (p.1 ++ [d], false))
    show (rawL l _).1.length ≤ _
    refine Nat.le_trans h ?_
    rw [List.length_cons]
    split
    · simp
      omega
    · split
      · show p.1.length + l.length ≤ _
        omega
      · simp
        omega
theorem ca_lplain {n : Nat} {l : List Nat} {k} (hl : l.length ≤ 100000) : Ca (run gcs code (n + 2)) 15 [.d (.str (S l))] k = k (.d (optS (plainL l))) [.d (.str (S l))] := by
  refine ca_of (ev_of (run_wp rfl ⟨rfl, rfl, by decide⟩ ?_))
  have z0 : l.length ≤ 16777216 := by omega
  simp -implicitDefEqProofs [c__law_plain, lit_e, z0]
  refine fr_inv (fun i e => i ≤ l.length ∧ ∃ x3, e = [some (.d (.str (S l))), some (.d (.str (S (rawL (l.take i) ([], false)).1))), some (.d (.bool (rawL (l.take i) ([], false)).2)), x3]) ⟨Nat.zero_le _, none, rfl⟩ ?_ ?_
  · rintro i x e hx hP
    obtain ⟨c, hc, rfl⟩ := get_signs hx
    have hi2 : i < l.length := (List.getElem?_eq_some_iff.mp hc).1
    have rl := raw_len (l := l.take i) (p := ([], false))
    rw [List.length_take] at rl
    have rs := raw_snoc (c := c) (l := l.take i) (p := ([], false))
    rw [← take_one hc] at rs
    obtain ⟨hi, x3, rfl⟩ := hP
    rw [rs]
    generalize rawL (l.take i) ([], false) = p at rl ⊢
    obtain ⟨f, b⟩ := p
    have z1 : f.length + 1 ≤ 16777216 := by simp at rl; omega
    cases b with
    | true =>
      simp -implicitDefEqProofs [lit_n, lit_nl, lit_bs, z1]
      clear rs
      have hi3 : i + 1 ≤ l.length := hi2
      by_cases h1 : c = 110 <;> by_cases h2 : c = 92 <;> simp [Br, h1, h2, hi3]
    | false =>
      simp -implicitDefEqProofs [lit_n, lit_nl, lit_bs, z1]
      clear rs
      have hi3 : i + 1 ≤ l.length := hi2
      by_cases h2 : c = 92 <;> simp [Br, h2, hi3]
  · rintro e ⟨hi, x3, rfl⟩
    rw [List.length_map, List.take_length]
    have rl := raw_len (l := l) (p := ([], false))
    cases hp : plainL l with
    | some y =>
      rw [raw_plain [] hp]
      have e1 := plain_some hp
      have yl : y.length ≤ 100000 := by
        rw [raw_plain [] hp] at rl
        simp at rl
        omega
      have ce := fun k => ca_lesc (n := n) (l := y) (k := k) yl
      simp -implicitDefEqProofs [ce, e1, optS]
    | none =>
      generalize hg : rawL l ([], false) = p at rl ⊢
      obtain ⟨f, b⟩ := p
      have fl : f.length ≤ 100000 := by simp at rl; omega
      have ce := fun k => ca_lesc (n := n) (l := f) (k := k) fl
      have ne : ¬ esc f = l := by
        rintro rfl
        rw [plain_esc] at hp
        cases hp
      cases b <;> simp -implicitDefEqProofs [ce, ne, optS]
/-! draws of rows -/
theorem dr_nat {ds : List Int} {c : Nat} {many : Nat} (h : 0 < many) : ∃ q : Nat, dr ds c many = q ∧ q < many := by
  have h1 := dr_lo (ds := ds) (c := c) (many := (many : Int)) (by omega)
  have h2 := dr_hi (ds := ds) (c := c) (many := (many : Int)) (by omega)
  exact ⟨(dr ds c many).toNat, by omega, by omega⟩
theorem ev_pickS (n : Nat) (ds : List Int) (c : Nat) {l : List Nat} (h : 0 < l.length) (hz : l.length ≤ 1000) : ∃ d, d ∈ l ∧ run gcs code (n + 2) 9 [.ol (bx ds c), .d (.str (S l))] = some (.d (.str (S [d])), [.ol (bx ds (c + 1)), .d (.str (S l))]) := by
  obtain ⟨q, hq, _⟩ := dr_nat (ds := ds) (c := c) (many := 1000) (by decide)
  have hj : q % l.length < l.length := Nat.mod_lt _ h
  refine ⟨(l[q % l.length]?).getD 0, by rw [List.getElem?_eq_getElem hj]; exact List.getElem_mem hj, ev_of (run_wp rfl ⟨rfl, rfl, by decide⟩ ?_)⟩
  have ix : ∀ k, Ix (.str (S l)) (.int ((q : Int) % (l.length : Int))) k = k (.str (S [(l[q % l.length]?).getD 0])) := fun k => by
    rw [show (q : Int) % (l.length : Int) = ((q % l.length : Nat) : Int) by omega]
    exact ix_S (show l.length ≤ 16777216 by omega) hj
  have hq : dr ds c 1000 = q := hq
  simp -implicitDefEqProofs [c__law_pick, hq, show l.length ≤ 16777216 by omega, h, ix]
theorem ev_pickL (n : Nat) (ds : List Int) (c : Nat) {xs : List D} (h : 0 < xs.length) (hz : xs.length ≤ 1000) : ∃ d, d ∈ xs ∧ run gcs code (n + 2) 9 [.ol (bx ds c), .d (.list xs)] = some (.d d, [.ol (bx ds (c + 1)), .d (.list xs)]) := by
  obtain ⟨q, hq, _⟩ := dr_nat (ds := ds) (c := c) (many := 1000) (by decide)
  have hj : q % xs.length < xs.length := Nat.mod_lt _ h
  refine ⟨xs[q % xs.length], List.getElem_mem hj, ev_of (run_wp rfl ⟨rfl, rfl, by decide⟩ ?_)⟩
  have ix : ∀ k, At xs ((q : Int) % (xs.length : Int)) k = k xs[q % xs.length] := fun k => by
    rw [show (q : Int) % (xs.length : Int) = ((q % xs.length : Nat) : Int) by omega]
    exact at_nat (List.getElem?_eq_getElem hj)
  have hq : dr ds c 1000 = q := hq
  simp -implicitDefEqProofs [c__law_pick, hq, h, ix]
/-! records -/
inductive Dd where
  | add (t : List Nat)
  | drop (m : Nat)
def deedD : Dd → D
  | .add t => .tuple [.str (S [97, 100, 100]), .str (S t)]
  | .drop m => .tuple [.str (S [100, 114, 111, 112]), .int m]
def bodyL : Dd → List Nat
  | .add t => 43 :: esc t
  | .drop m => 45 :: dg m
def sealL (b : List Nat) : List Nat := cs b ++ b ++ [10]
def Dd.ok : Dd → Prop
  | .add t => t.length ≤ 1000
  | .drop m => m < 10000
theorem lit_add : Str.ofString "add" = S [97, 100, 100] := by decide +kernel
theorem lit_drop : Str.ofString "drop" = S [100, 114, 111, 112] := by decide +kernel
theorem lit_plus : Str.ofString "+" = S [43] := by decide +kernel
theorem lit_minus : Str.ofString "-" = S [45] := by decide +kernel
theorem dg_in4 {m : Nat} (h : m < 10000) : 1 ≤ (dg m).length ∧ (dg m).length ≤ 4 := by
  rw [dg_len]
  exact ⟨PyProof.Rows.tDigits_len_ge 10 m, PyProof.Rows.digits10_le (by decide) (by omega)⟩
theorem body_len {d : Dd} (h : d.ok) : (bodyL d).length ≤ 2001 := by
  cases d with
  | add t =>
    have := esc_len t
    have h : t.length ≤ 1000 := h
    simp only [bodyL, List.length_cons]
    omega
  | drop m =>
    have := dg_in4 h
    simp only [bodyL, List.length_cons]
    omega
theorem cs_len {l : List Nat} : (cs l).length = 4 := fig_len (chk_lt l)
theorem seal_len {b : List Nat} : (sealL b).length = b.length + 5 := by
  unfold sealL
  simp [cs_len]
  omega
theorem ca_seal {n : Nat} {b : List Nat} {k} (h : b.length ≤ 10000) : Ca (run gcs code (n + 2)) 13 [.d (.str (S b))] k = k (.d (.str (S (sealL b)))) [.d (.str (S b))] := by
  refine ca_of (ev_of (run_wp rfl ⟨rfl, rfl, by decide⟩ ?_))
  have cc := fun k => ca_lcheck (n := n) (l := b) (k := k) (by omega)
  have z1 : 4 + b.length ≤ 16777216 := by omega
  have z2 : 4 + b.length + 1 ≤ 16777216 := by omega
  simp -implicitDefEqProofs [c__law_sealed, cc, cs_len, lit_nl, z1, z2, sealL]
theorem ca_record {n : Nat} {d : Dd} {k} (h : d.ok) : Ca (run gcs code (n + 2)) 3 [.d (deedD d)] k = k (.d (.str (S (sealL (bodyL d))))) [.d (deedD d)] := by
  refine ca_of (ev_of (run_wp rfl ⟨rfl, rfl, by decide⟩ ?_))
  have hb := body_len h
  have cc := fun k => ca_check (n := n) (l := bodyL d) (k := k) (by omega)
  have z1 : 4 + (bodyL d).length ≤ 16777216 := by omega
  have z2 : 4 + (bodyL d).length + 1 ≤ 16777216 := by omega
  cases d with
  | add t =>
    have h : t.length ≤ 1000 := h
    have el := esc_len t
    have ce := fun k => ca_esc (n := n) (l := t) (k := k) (by omega)
    have z3 : 1 + (esc t).length ≤ 16777216 := by omega
    simp only [bodyL] at cc z1 z2 hb ⊢
    simp -implicitDefEqProofs [c_record, deedD, lit_add, lit_plus, ce, z3]
    rw [cc]
    generalize 43 :: esc t = b at z1 z2 ⊢
    simp -implicitDefEqProofs [cs_len, lit_nl, sealL, z1, z2]
  | drop m =>
    have dl := dg_in4 h
    have z3 : 1 + (dg m).length ≤ 16777216 := by omega
    have s1 : ∀ k, Bt .str (.int (m : Int)) k = k (.d (.str (S (dg m)))) := fun k => by
      rw [bt_strI (small_nat h), str_nat]
    simp only [bodyL] at cc z1 z2 hb ⊢
    simp -implicitDefEqProofs [c_record, deedD, lit_add, lit_minus, s1, z3]
    rw [cc]
    generalize 45 :: dg m = b at z1 z2 ⊢
    simp -implicitDefEqProofs [cs_len, lit_nl, sealL, z1, z2]
theorem ca_lrecord {n : Nat} {d : Dd} {k} (h : d.ok) : Ca (run gcs code (n + 3)) 14 [.d (deedD d)] k = k (.d (.str (S (sealL (bodyL d))))) [.d (deedD d)] := by
  refine ca_of (ev_of (run_wp rfl ⟨rfl, rfl, by decide⟩ ?_))
  have hb := body_len h
  have cc := fun k => ca_seal (n := n) (b := bodyL d) (k := k) (by omega)
  cases d with
  | add t =>
    have h : t.length ≤ 1000 := h
    have el := esc_len t
    have ce := fun k => ca_lesc (n := n + 1) (l := t) (k := k) (by omega)
    have z3 : 1 + (esc t).length ≤ 16777216 := by omega
    simp only [bodyL] at cc ⊢
    simp -implicitDefEqProofs [c__law_record, deedD, lit_add, lit_plus, ce, z3]
    rw [cc]
    simp -implicitDefEqProofs
  | drop m =>
    have dl := dg_in4 h
    have z3 : 1 + (dg m).length ≤ 16777216 := by omega
    have s1 : ∀ k, Bt .str (.int (m : Int)) k = k (.d (.str (S (dg m)))) := fun k => by
      rw [bt_strI (small_nat h), str_nat]
    simp only [bodyL] at cc ⊢
    simp -implicitDefEqProofs [c__law_record, deedD, lit_add, lit_minus, s1, z3]
    rw [cc]
    simp -implicitDefEqProofs
theorem ca_appended {n : Nat} {d : Dd} {l : List Nat} {a : Nat} {k} (h : d.ok) (hl : l.length ≤ 10000) (ha : a ≤ l.length) : Ca (run gcs code (n + 3)) 5 [.d (.str (S l)), .d (.int a), .d (deedD d)] k = k (.d (.str (S (l.take a ++ sealL (bodyL d))))) [.d (.str (S l)), .d (.int a), .d (deedD d)] := by
  refine ca_of (ev_of (run_wp rfl ⟨rfl, rfl, by decide⟩ ?_))
  have hb := body_len h
  have cc := fun k => ca_record (n := n) (d := d) (k := k) h
  have sl : ∀ k, Sc (.str (S l)) none (some (a : Int)) k = k (.d (.str (S (l.take a)))) := fun k => by
    rw [sc_S (by omega), HT.sIx_nat, HT.sIx_none, Nat.min_eq_left ha]
    simp
  have z1 : min a l.length + ((bodyL d).length + 5) ≤ 16777216 := by omega
  simp -implicitDefEqProofs [c_appended, cc, sl, seal_len, z1]
theorem ev_signs (n : Nat) (ds : List Int) (c : Nat) : ∃ (l : List Nat) (c' : Nat), l.length ≤ 10 ∧ (∀ x ∈ l, x < 128) ∧ run gcs code (n + 3) 17 [.ol (bx ds c)] = some (.d (.str (S l)), [.ol (bx ds c')]) := by
  obtain ⟨r, outs, h, l, c', h1, h2, rfl, rfl⟩ : ∃ r outs, run gcs code (n + 3) 17 [.ol (bx ds c)] = some (r, outs) ∧ ∃ (l : List Nat) (c' : Nat), l.length ≤ 10 ∧ (∀ x ∈ l, x < 128) ∧ r = .d (.str (S l)) ∧ outs = [.ol (bx ds c')] := by
    refine run_wp rfl ⟨rfl, rfl, by decide⟩ ?_
    obtain ⟨d, hd, hp⟩ := ev_pickL n ds c (xs := [.int 0, .int 1, .int 3, .int 6, .int 10]) (by decide) (by decide)
    obtain ⟨m, hm, rfl⟩ : ∃ m : Nat, m ≤ 10 ∧ d = .int m := by
      simp only [List.mem_cons, List.not_mem_nil, or_false] at hd
      rcases hd with rfl | rfl | rfl | rfl | rfl
      · exact ⟨0, by decide, rfl⟩
      · exact ⟨1, by decide, rfl⟩
      · exact ⟨3, by decide, rfl⟩
      · exact ⟨6, by decide, rfl⟩
      · exact ⟨10, by decide, rfl⟩
    have cp := fun k => ca_of (k := k) hp
    simp -implicitDefEqProofs [c__law_signs, cp, show m ≤ 1000000 by omega, lit_e]
    refine lc_inv (fun i acc e => ∃ (zs : List Nat) (c2 : Nat), acc = zs.map (fun z => PyData.str (S [z])) ∧ zs.length = i ∧ (∀ z ∈ zs, z < 128) ∧ e = [some (.ol (bx ds c2)), none]) rfl ⟨[], c + 1, rfl, rfl, fun _ h => (nomatch h), rfl⟩ ?_ ?_
    · rintro i x acc e hx hP
      obtain ⟨hi, rfl⟩ := mem_range hx
      obtain ⟨zs, c2, rfl, hz, hz2, rfl⟩ := hP
      obtain ⟨d, hd, hq⟩ := ev_pickS n ds c2 (l := [97, 98, 49, 32, 46, 58, 45, 110, 92, 92, 10, 43]) (by decide) (by decide)
      have cq := fun k => ca_of (k := k) hq
      have la : Str.ofString "ab1 .:-n\\\\\n+" = S [97, 98, 49, 32, 46, 58, 45, 110, 92, 92, 10, 43] := by decide +kernel
      have d128 : d < 128 := by
        have : ∀ d ∈ [97, 98, 49, 32, 46, 58, 45, 110, 92, 92, 10, 43], d < 128 := by decide
        exact this d hd
      simp -implicitDefEqProofs [T1, wipeE, la, cq]
      refine ⟨zs ++ [d], by simp, by simp [hz], fun z h => ?_, _, rfl⟩
      rcases List.mem_append.mp h with h | h
      · exact hz2 z h
      · have : z = d := by simpa using h
        omega
    · rintro acc e1 ⟨zs, c2, rfl, hz, hz2, rfl⟩
      rw [range_len] at hz
      have e1 : zs.map (fun z => PyData.str (S [z])) = ((zs.map fun z => [z]).map S).map PyData.str := by simp
      have ones : ∀ zs : List Nat, (zs.map fun _ => 1).sum = zs.length := fun zs => by
        induction zs with
        | nil => rfl
        | cons z zs ih => simp [ih]; omega
      rw [e1, mt_join' (by simp [S_len, Function.comp_def, ones]; omega)]
      show oo _ _ _
      simp -implicitDefEqProofs [backE]
      refine ⟨zs, by omega, hz2, ?_, _, rfl⟩
      have j := join_S (xs := zs.map fun z => [z])
      have fl : (zs.map fun z => [z]).flatten = zs := by
        clear j e1 hz hz2
        induction zs with
        | nil => rfl
        | cons z zs ih => simp [ih]
      rw [fl, List.map_map] at j
      rw [← j]
      exact PySem.StrLaws.glued_eq_join _ _
  exact ⟨l, c', h1, h2, h⟩
/-! reading a record: what both come to -/
theorem lit_zero : Str.ofString "0" = S [48] := by decide +kernel
def figs : List Nat := [48, 49, 50, 51, 52, 53, 54, 55, 56, 57]
def figsOk (f : List Nat) : Bool := decide (1 ≤ f.length) && decide (f.length ≤ 4) && f.all (fun c => decide (c ∈ figs)) && !(decide (1 < f.length) && decide (f.head? = some 48))
def numL (f : List Nat) : Nat := f.foldl (fun m c => m * 10 + (c - 48)) 0
def rowD (row : List Nat) (e : Nat) : D :=
  if row.length < 5 ∨ row.take 4 ≠ cs (row.drop 4) then .none else
    match row.drop 4 with
    | 43 :: r => (match plainL r with
      | some x => .tuple [.tuple [.str (S [97, 100, 100]), .str (S x)], .int ((e : Int) + 1)]
      | none => .none)
    | 45 :: f => if figsOk f then .tuple [.tuple [.str (S [100, 114, 111, 112]), .int (numL f)], .int ((e : Int) + 1)] else .none
    | _ => .none
/-- e: the first line's end at or behind a, or the text's end -/
def endL (l : List Nat) (a : Nat) : Nat := a + (l.drop a).findIdx (fun c => decide (c = 10))
def readL (l : List Nat) (a : Nat) : D := if endL l a < l.length then rowD ((l.take (endL l a)).drop a) (endL l a) else .none
theorem end_at {l : List Nat} {a i : Nat} (ha : a ≤ i) (hi : i ≤ l.length) (hn : ∀ j, a ≤ j → j < i → (l[j]?).getD 0 ≠ 10) (he : i = l.length ∨ (l[i]?).getD 0 = 10) : endL l a = i := by
  unfold endL
  by_cases h : i < l.length
  · have h10 : (l[i]?).getD 0 = 10 := by
      rcases he with he | he
      · omega
      · exact he
    have hl : i - a < (l.drop a).length := by rw [List.length_drop]; omega
    have e : (l.drop a).findIdx (fun c => decide (c = 10)) = i - a := by
      rw [List.findIdx_eq hl]
      refine ⟨?_, fun j hj => ?_⟩
      · rw [List.getElem_drop]
        have : a + (i - a) = i := by omega
        simp only [this]
        rw [List.getElem?_eq_getElem h] at h10
        exact decide_eq_true h10
      · rw [List.getElem_drop]
        have hj2 : a + j < l.length := by omega
        have := hn (a + j) (by omega) (by omega)
        rw [List.getElem?_eq_getElem hj2] at this
        exact decide_eq_false this
    rw [e]
    omega
  · have e : (l.drop a).findIdx (fun c => decide (c = 10)) = (l.drop a).length := by
      rw [List.findIdx_eq_length]
      intro x hx
      obtain ⟨j, hj, rfl⟩ := List.getElem_of_mem hx
      rw [List.length_drop] at hj
      rw [List.getElem_drop]
      have hj2 : a + j < l.length := by omega
      have := hn (a + j) (by omega) (by omega)
      rw [List.getElem?_eq_getElem hj2] at this
      exact decide_eq_false this
    rw [e, List.length_drop]
    omega
theorem sc_nat {l : List Nat} {a b : Nat} {k} (hz : l.length ≤ 16777216) (hb : b ≤ l.length) : Sc (.str (S l)) (some (a : Int)) (some (b : Int)) k = k (.d (.str (S ((l.take b).drop a)))) := by
  rw [sc_S hz, HT.sIx_nat, HT.sIx_nat, Nat.min_eq_left hb]
  congr 4
  by_cases h : a ≤ l.length
  · rw [Nat.min_eq_left h, List.drop_take]
  · rw [Nat.min_eq_right (by omega), List.drop_eq_nil_of_le (Nat.le_refl _), List.drop_eq_nil_of_le (by rw [List.length_take]; omega)]
    simp
theorem sc_from {l : List Nat} {a : Nat} {k} (hz : l.length ≤ 16777216) : Sc (.str (S l)) (some (a : Int)) none k = k (.d (.str (S (l.drop a)))) := by
  rw [sc_S hz, HT.sIx_nat, HT.sIx_none]
  congr 4
  by_cases h : a ≤ l.length
  · rw [Nat.min_eq_left h]
    exact List.take_of_length_le (by rw [List.length_drop]; omega)
  · rw [Nat.min_eq_right (by omega), List.drop_eq_nil_of_le (Nat.le_refl _), List.drop_eq_nil_of_le (by omega)]
    simp
theorem ca_read {n : Nat} {l : List Nat} {a : Nat} {k} (hl : l.length ≤ 100000) (ha : a ≤ l.length) : Ca (run gcs code (n + 2)) 4 [.d (.str (S l)), .d (.int a)] k = k (.d (readL l a)) [.d (.str (S l)), .d (.int a)] := by
  refine ca_of (ev_of (run_wp rfl ⟨rfl, rfl, by decide⟩ ?_))
  have z0 : l.length ≤ 16777216 := by omega
  simp -implicitDefEqProofs [c_read_record]
  refine wh_inv (P := fun m e => ∃ i : Nat, a ≤ i ∧ i ≤ l.length ∧ (∀ j, a ≤ j → j < i → (l[j]?).getD 0 ≠ 10) ∧ m = l.length - i ∧ e = [some (.d (.str (S l))), some (.d (.int a)), some (.d (.int i)), none, none, none, none])
    ?_ whileMost (l.length - a) _ (by unfold whileMost; omega) ⟨a, Nat.le_refl _, ha, fun j h1 h2 => absurd h2 (by omega), rfl, rfl⟩
  rintro m e ⟨i, ai, il, hn, rfl, rfl⟩
  simp -implicitDefEqProofs [z0]
  refine br_intro (fun h => ?_) (fun h => ?_)
  · have h : i < l.length := by simpa using h
    have ix := fun k => ix_S (k := k) z0 h
    simp -implicitDefEqProofs [ix, lit_nl]
    refine br_intro (fun h2 => ?_) (fun h2 => ?_)
    · have h10 := of_decide_eq_true h2
      have e : endL l a = i := end_at ai il hn (.inr h10)
      have sc : ∀ k, Sc (.str (S l)) (some ((a : Int) + 4)) (some (i : Int)) k = k (.d (.str (S ((l.take i).drop (a + 4))))) := fun k => by
        rw [show (a : Int) + 4 = ((a + 4 : Nat) : Int) by omega]
        exact sc_nat z0 il
      have er : readL l a = rowD ((l.take i).drop a) i := by
        unfold readL
        rw [e, if_pos h]
      have eb : (l.take i).drop (a + 4) = ((l.take i).drop a).drop 4 := by
        rw [List.drop_drop]
      have bl : ((l.take i).drop (a + 4)).length = i - (a + 4) := by
        rw [List.length_drop, List.length_take]
        omega
      have rl : ((l.take i).drop a).length = i - a := by
        rw [List.length_drop, List.length_take]
        omega
      have zb : ((l.take i).drop (a + 4)).length ≤ 16777216 := by omega
      by_cases h5 : i ≤ a + 4
      · have b0 : (l.take i).drop (a + 4) = [] := List.drop_eq_nil_of_le (by rw [List.length_take]; omega)
        rw [sc, b0]
        simp -implicitDefEqProofs [show ¬ l.length ≤ i by omega]
        rw [er]
        unfold rowD
        rw [if_pos (.inl (by omega))]
      · have s4 : ∀ k, Sc (.str (S l)) (some (a : Int)) (some ((a : Int) + 4)) k = k (.d (.str (S (((l.take i).drop a).take 4)))) := fun k => by
          rw [show (a : Int) + 4 = ((a + 4 : Nat) : Int) by omega, sc_nat z0 (by omega)]
          congr 4
          rw [List.take_drop, List.take_take, Nat.min_eq_left (by omega)]
        have cc := fun k => ca_check (n := n) (l := (l.take i).drop (a + 4)) (k := k) (by omega)
        have bn : 1 ≤ ((l.take i).drop (a + 4)).length := by omega
        generalize (l.take i).drop (a + 4) = b at sc eb bl zb cc bn ⊢
        generalize (l.take i).drop a = row at er eb rl s4 ⊢
        rw [sc]
        simp -implicitDefEqProofs [show ¬ l.length ≤ i by omega, zb, s4, cc, show ¬ b.length = 0 by omega, show ¬ b = [] by intro q; rw [q] at bn; simp at bn]
        cases b with
        | nil => exact absurd bn (by simp)
        | cons c f =>
          have i0 : ∀ k, Ix (.str (S (c :: f))) (.int 0) k = k (.str (S [c])) := fun k => ix_S (i := 0) (k := k) zb (by simp)
          have s1 : ∀ k, Sc (.str (S (c :: f))) (some 1) none k = k (.d (.str (S f))) := fun k => sc_from (a := 1) (k := k) zb
          have fl : f.length ≤ 100000 := by simp at bl; omega
          have cp := fun k => ca_plain (n := n) (l := f) (k := k) fl
          have fz : f.length ≤ 16777216 := by omega
          simp -implicitDefEqProofs [i0, s1, cp, lit_plus, lit_minus, fz]
          have rd : readL l a = rowD row i := er
          have r5 : ¬ row.length < 5 := by omega
          refine br_intro (fun k1 => ?_) (fun k1 => ?_)
          · have k1 := of_decide_eq_true k1
            have hrow : ¬ (row.length < 5 ∨ row.take 4 ≠ cs (row.drop 4)) := by
              rw [← eb]
              rintro (q | q)
              · exact r5 q
              · exact q k1
            refine br_intro (fun k2 => ?_) (fun k2 => ?_)
            · have k2 := of_decide_eq_true k2
              subst k2
              rw [rd]
              unfold rowD
              rw [if_neg hrow, ← eb]
              show Br (isNoneD (optS (plainL f))) (PyData.none = (match plainL f with | some x => _ | none => _)) (_ = (match plainL f with | some x => _ | none => _))
              cases plainL f with
              | none =>
                refine Eq.mpr br_t ?_
                rfl
              | some y =>
                rw [lit_add]
                refine Eq.mpr br_f ?_
                rfl
            · have k2 := of_decide_eq_false k2
              have rn : c ≠ 45 ∨ figsOk f = false → rowD row i = .none := by
                intro q
                unfold rowD
                rw [if_neg hrow, ← eb]
                split
                · rename_i r hr
                  cases hr
                  exact absurd rfl k2
                · rename_i r hr
                  cases hr
                  rcases q with q | q
                  · exact absurd rfl q
                  · rw [q]
                    rfl
                · rfl
              refine br_intro (fun k3 => ?_) (fun k3 => ?_)
              · have k3 := of_decide_eq_true k3
                subst k3
                have bad : figsOk f = false → (PyData.none = readL l a) := fun q => by rw [rd, rn (.inr q)]
                refine br_intro (fun k4 => br_intro (fun k5 => ?_) (fun k5 => ?_)) (fun k4 => ?_)
                · have k4 : 1 ≤ f.length := by have := of_decide_eq_true k4; omega
                  have k5 : f.length ≤ 4 := by have := of_decide_eq_true k5; omega
                  refine lc_fm f (fun c : Nat => PyData.str (S [c])) (fun c : Nat => some (.bool (decide (c ∈ figs)))) _ rfl rfl rfl ?_ ?_
                  · intro z hz
                    simp -implicitDefEqProofs [T1, wipeE, gc_figs, figs]
                  rw [fm_bool]
                  simp -implicitDefEqProofs [backE, wipeE, fz]
                  have nz : f ≠ [] := by
                    rintro rfl
                    simp at k4
                  have good : figsOk f = true → ∀ (P : Prop), (PyData.tuple [.tuple [.str (Str.ofString "drop"), .int (numL f)], .int ((i : Int) + 1)] = readL l a → P) → P := fun q P hP => hP (by
                    rw [rd]
                    unfold rowD
                    rw [if_neg hrow, ← eb]
                    show _ = (if figsOk f then _ else _)
                    rw [q, lit_drop]
                    rfl)
                  have bi : (∀ c ∈ f, c ∈ figs) → ∀ k, Bt .int (.str (S f)) k = k (.d (.int (numL f))) := fun q k => by
                    refine bt_intS (by rw [S_len]; omega) ?_
                    have h1 : PySem.NumText.AllDigits (S f).cps.toList := by
                      rw [S_cps]
                      intro c hc
                      have := q c hc
                      have w : ∀ c ∈ figs, 48 ≤ c ∧ c ≤ 57 := by decide
                      exact w c this
                    rw [PySem.intText_digits h1 (by rw [S_cps]; exact nz) (by rw [S_len]; omega), S_cps]
                    rfl
                  refine br_intro (fun k6 => ?_) (fun k6 => ?_)
                  · have k6' : ∀ c ∈ f, c ∈ figs := by simpa using k6
                    have i0f : ∀ k, Ix (.str (S f)) (.int 0) k = k (.str (S [(f[0]?).getD 0])) := fun k => ix_S (i := 0) (k := k) fz (by omega)
                    rw [bi k6', i0f, lit_zero]
                    have hh : (f[0]?).getD 0 = 48 ↔ f.head? = some 48 := by
                      cases f with
                      | nil => exact absurd rfl nz
                      | cons c r => simp
                    simp -implicitDefEqProofs
                    refine br_intro (fun k7 => br_intro (fun k8 => ?_) (fun k8 => ?_)) (fun k7 => ?_)
                    · have k7 := of_decide_eq_true k7
                      have k8 := of_decide_eq_true k8
                      refine bad ?_
                      unfold figsOk
                      rw [decide_eq_true (show 1 < f.length by omega), decide_eq_true (hh.mp k8)]
                      simp
                    · have k8 := of_decide_eq_false k8
                      refine good ?_ _ id
                      unfold figsOk
                      rw [decide_eq_false (fun q => k8 (hh.mpr q)), k6, decide_eq_true k4, decide_eq_true k5]
                      simp
                    · have k7 := of_decide_eq_false k7
                      refine good ?_ _ id
                      unfold figsOk
                      rw [decide_eq_false (show ¬ 1 < f.length by omega), k6, decide_eq_true k4, decide_eq_true k5]
                      simp
                  · exact bad (by unfold figsOk; rw [k6]; simp)
                · have k5 := of_decide_eq_false k5
                  exact bad (by unfold figsOk; rw [decide_eq_false (show ¬ f.length ≤ 4 by omega)]; simp)
                · have k4 := of_decide_eq_false k4
                  exact bad (by unfold figsOk; rw [decide_eq_false (show ¬ 1 ≤ f.length by omega)]; simp)
              · have k3 := of_decide_eq_false k3
                rw [rd, rn (.inl k3)]
          · have k1 := of_decide_eq_false k1
            rw [rd]
            unfold rowD
            rw [if_pos (.inr (by rw [← eb]; exact k1))]
    · refine ⟨l.length - (i + 1), by omega, i + 1, by omega, by omega, fun j h3 h4 => ?_, rfl, by omega⟩
      by_cases h5 : j = i
      · subst h5
        exact of_decide_eq_false h2
      · exact hn j h3 (by omega)
  · have h : ¬ i < l.length := by simpa using h
    have e : endL l a = i := end_at ai il hn (.inl (by omega))
    have sc : ∀ k, Sc (.str (S l)) (some ((a : Int) + 4)) (some (i : Int)) k = k (.d (.str (S ((l.take i).drop (a + 4))))) := fun k => by
      rw [show (a : Int) + 4 = ((a + 4 : Nat) : Int) by omega]
      exact sc_nat z0 il
    simp -implicitDefEqProofs [sc, show l.length ≤ i by omega]
    unfold readL
    rw [e, if_neg h]
end K92

namespace K92
open PySem Z L2
/-! the law's own reading -/
theorem cm_eqE {ds : List D} {k} (h : PySem.SeqAt.shaped (.list ds) = true) : Cm .eq (.list ds) (.list []) k = k (decide (ds = [])) := by
  show Wo (if eqOk (.list ds) (.list []) then some (PyData.eqv (.list ds) (.list [])) else none) k = _
  have h1 : eqOk (.list ds) (.list []) = true := by
    unfold eqOk
    rw [h]
    decide
  rw [h1, PyData.eqv, eqv_nil]
  rfl
theorem shaped_signs {zs : List Nat} (h : ∀ c ∈ zs, c < 128) (hz : zs.length ≤ 100000) : PySem.SeqAt.shaped (.list (zs.map fun c => PyData.str (S [c]))) = true :=
  (nice_list (k := 0) (m := 12) (M := 1000000000) (fun x hx => by
    obtain ⟨c, hc, rfl⟩ := List.mem_map.mp hx
    exact nice_S (fun d hd => by
      have : d = c := by simpa using hd
      subst this
      exact h _ hc) (by simp)) (by rw [List.length_map]; omega)).shaped (by decide)
/-- the places of line ends from a on -/
def endsL (l : List Nat) (a : Nat) : List Nat := (List.range (l.length - a)).filter fun j => decide ((l[a + j]?).getD 0 = 10)
theorem ends_nil {l : List Nat} {a : Nat} (ha : a ≤ l.length) (h : endsL l a = []) : endL l a = l.length := by
  refine end_at ha (Nat.le_refl _) (fun j h1 h2 z => ?_) (.inl rfl)
  have : j - a ∈ endsL l a := by
    unfold endsL
    rw [List.mem_filter]
    exact ⟨List.mem_range.mpr (by omega), decide_eq_true (by rw [show a + (j - a) = j by omega]; exact z)⟩
  rw [h] at this
  cases this
theorem ends_cons {l : List Nat} {a i : Nat} {r : List Nat} (ha : a ≤ l.length) (h : endsL l a = i :: r) : endL l a = a + i ∧ a + i < l.length := by
  have hm : i ∈ endsL l a := by rw [h]; exact List.mem_cons_self
  unfold endsL at hm
  rw [List.mem_filter, List.mem_range] at hm
  have h10 := of_decide_eq_true hm.2
  refine ⟨end_at (by omega) (by omega) (fun j h1 h2 z => ?_) (.inr h10), by omega⟩
  have hf := List.head?_filter (p := fun j => decide ((l[a + j]?).getD 0 = 10)) (l := List.range (l.length - a))
  have e : (List.filter (fun j => decide ((l[a + j]?).getD 0 = 10)) (List.range (l.length - a))) = i :: r := h
  rw [e] at hf
  have hf := hf.symm
  rw [List.head?_cons, List.find?_range_eq_some] at hf
  have := hf.2.2 (j - a) (by omega)
  simp [show a + (j - a) = j by omega, z] at this
theorem fig_index {c : Nat} (h : c ∈ figs) {k} : Mt .index (.str (S figs)) (.str (S [c])) k = k (.d (.int ((c - 48 : Nat) : Int))) := by
  have h1 : ∃ r, Builtin.Str.occurrences (S figs) (S [c]) 0 (S figs).length 1 = (c - 48) :: r := by
    have w : ∀ c ∈ figs, (Builtin.Str.occurrences (S figs) (S [c]) 0 (S figs).length 1).head? = some (c - 48) := by decide +kernel
    have := w c h
    cases q : Builtin.Str.occurrences (S figs) (S [c]) 0 (S figs).length 1 with
    | nil =>
      rw [q] at this
      cases this
    | cons x r =>
      rw [q] at this
      cases this
      exact ⟨r, rfl⟩
  obtain ⟨r, h1⟩ := h1
  exact mt_index' h1
theorem numL_snoc {f : List Nat} {c : Nat} : numL (f ++ [c]) = numL f * 10 + (c - 48) := by
  unfold numL
  rw [List.foldl_append]
  rfl
def tailD (b : List Nat) (e : Nat) : D := match b with
  | 43 :: r => (match plainL r with
    | some x => .tuple [.tuple [.str (S [97, 100, 100]), .str (S x)], .int ((e : Int) + 1)]
    | none => .none)
  | 45 :: f => if figsOk f then .tuple [.tuple [.str (S [100, 114, 111, 112]), .int (numL f)], .int ((e : Int) + 1)] else .none
  | _ => .none
theorem tailD_bad {c : Nat} {f : List Nat} {e : Nat} (h1 : c ≠ 43) (h2 : c ≠ 45 ∨ figsOk f = false) : tailD (c :: f) e = .none := by
  unfold tailD
  split
  · rename_i h
    cases h
    exact absurd rfl h1
  · rename_i h
    cases h
    rcases h2 with h2 | h2
    · exact absurd rfl h2
    · rw [h2]
      rfl
  · rfl
theorem ca_lread {n : Nat} {l : List Nat} {a : Nat} {k} (hl : l.length ≤ 10000) (ha : a ≤ l.length) (hc : ∀ c ∈ l, c < 128) : Ca (run gcs code (n + 3)) 16 [.d (.str (S l)), .d (.int a)] k = k (.d (readL l a)) [.d (.str (S l)), .d (.int a)] := by
  refine ca_of (ev_of (run_wp rfl ⟨rfl, rfl, by decide⟩ ?_))
  have z0 : l.length ≤ 16777216 := by omega
  have rg : ∀ k, Rg (a : Int) (l.length : Int) k = k (rangeD a (l.length - a)) := fun k => by
    unfold Rg
    rw [eq_true (show (-(2 ^ 62) ≤ (a : Int) ∧ (a : Int) < 2 ^ 62) ∧ (-(2 ^ 62) ≤ (l.length : Int) ∧ (l.length : Int) < 2 ^ 62) ∧ (l.length : Int) - (a : Int) ≤ (sizeLine : Nat) by rw [sizeN]; omega), true_and]
    congr 2
    omega
  simp -implicitDefEqProofs [c__law_read, z0, rg]
  refine lc_fm (List.range (l.length - a)) (fun j : Nat => PyData.int ((a : Int) + (j : Nat))) (fun j : Nat => if decide ((l[a + j]?).getD 0 = 10) then some (.int ((a : Int) + (j : Nat))) else none) _ rfl rfl rfl ?_ ?_
  · intro j hj
    have hj : a + j < l.length := by have := List.mem_range.mp hj; omega
    have ix : ∀ k, Ix (.str (S l)) (.int ((a : Int) + (j : Nat))) k = k (.str (S [(l[a + j]?).getD 0])) := fun k => by
      rw [show (a : Int) + (j : Nat) = ((a + j : Nat) : Int) by omega]
      exact ix_S z0 hj
    simp -implicitDefEqProofs [T1, wipeE, ix, lit_nl]
    by_cases q : (l[a + j]?).getD 0 = 10
    · simp [q, Br]
    · simp [q, Br]
  rw [fm_ifint]
  have em : (List.filter (fun j => decide ((l[a + j]?).getD 0 = 10)) (List.range (l.length - a))) = endsL l a := rfl
  rw [em]
  have hsh : PySem.SeqAt.shaped (.list (intL ((endsL l a).map fun j : Nat => (a : Int) + (j : Nat)))) = true := shaped_ints _
  have eqn := fun k => cm_eqE (k := k) hsh
  cases he : endsL l a with
  | nil =>
    have h1 := ends_nil ha he
    rw [he] at eqn
    simp -implicitDefEqProofs [backE, wipeE, intL]
    have eqn' : ∀ k, Cm .eq (.list []) (.list []) k = k true := eqn
    simp -implicitDefEqProofs [eqn']
    unfold readL
    rw [h1, if_neg (Nat.lt_irrefl _)]
  | cons i r =>
    obtain ⟨h1, h2⟩ := ends_cons ha he
    rw [he] at eqn
    have eqn' : ∀ k, Cm .eq (.list (PyData.int ((a : Int) + (i : Nat)) :: intL (r.map fun j : Nat => (a : Int) + (j : Nat)))) (.list []) k = k false := eqn
    have ei : intL ((i :: r).map fun j : Nat => (a : Int) + (j : Nat)) = PyData.int ((a + i : Nat) : Int) :: intL (r.map fun j : Nat => (a : Int) + (j : Nat)) := rfl
    have eqn' : ∀ k, Cm .eq (.list (PyData.int ((a + i : Nat) : Int) :: intL (r.map fun j : Nat => (a : Int) + (j : Nat)))) (.list []) k = k false := eqn'
    rw [ei]
    generalize intL (r.map fun j : Nat => (a : Int) + (j : Nat)) = rr at eqn' ⊢
    have sc : ∀ k, Sc (.str (S l)) (some (a : Int)) (some ((a + i : Nat) : Int)) k = k (.d (.str (S ((l.take (a + i)).drop a)))) := fun k => sc_nat z0 (by omega)
    have er : readL l a = rowD ((l.take (a + i)).drop a) (a + i) := by
      unfold readL
      rw [h1, if_pos h2]
    have rc : ∀ c ∈ (l.take (a + i)).drop a, c < 128 := fun c h => hc c (List.mem_of_mem_take (List.mem_of_mem_drop h))
    have rl : ((l.take (a + i)).drop a).length = i := by
      rw [List.length_drop, List.length_take]
      omega
    rw [er]
    generalize (l.take (a + i)).drop a = row at sc rl rc ⊢
    generalize a + i = e at sc eqn' ⊢
    have zr : row.length ≤ 16777216 := by omega
    simp -implicitDefEqProofs [backE, wipeE, eqn', sc, zr]
    refine br_intro (fun h5 => ?_) (fun h5 => ?_)
    · have h5 := of_decide_eq_true h5
      unfold rowD
      rw [if_pos (.inl (by omega))]
    have h5 : 5 ≤ row.length := by have := of_decide_eq_false h5; omega
    have r5 : ¬ row.length < 5 := by omega
    have s4 : ∀ k, Sc (.str (S row)) none (some (4 : Int)) k = k (.d (.str (S (row.take 4)))) := fun k => by
      rw [sc_S zr, HT.sIx_none, show ((4 : Int)) = ((4 : Nat) : Int) by rfl, HT.sIx_nat, Nat.min_eq_left (by omega)]
      simp
    have s4b : ∀ k, Sc (.str (S row)) (some (4 : Int)) none k = k (.d (.str (S (row.drop 4)))) := fun k => sc_from (a := 4) zr
    have s5 : ∀ k, Sc (.str (S row)) (some (5 : Int)) none k = k (.d (.str (S (row.drop 5)))) := fun k => sc_from (a := 5) zr
    have i4 : ∀ k, Ix (.str (S row)) (.int 4) k = k (.str (S [(row[4]?).getD 0])) := fun k => ix_S (i := 4) (k := k) zr (by omega)
    have hd4 : row.drop 4 = (row[4]?).getD 0 :: row.drop 5 := by
      rw [List.drop_eq_getElem_cons (by omega), List.getElem?_eq_getElem (by omega)]
      rfl
    have ck := fun k => ca_lcheck (n := n + 1) (l := row.drop 4) (k := k) (by rw [List.length_drop]; omega)
    have cp := fun k => ca_lplain (n := n) (l := row.drop 5) (k := k) (by rw [List.length_drop]; omega)
    have fc : ∀ c ∈ row.drop 5, c < 128 := fun c h => rc c (List.mem_of_mem_drop h)
    have fl : (row.drop 5).length ≤ 10000 := by rw [List.length_drop]; omega
    have e0 : Str.ofString "+-" = S [43, 45] := by decide +kernel
    have ef : Str.ofString "0123456789" = S figs := by decide +kernel
    simp -implicitDefEqProofs [s4, s4b, ck, i4, e0, lit_plus, s5, cp]
    have rr1 : rowD row e = if row.take 4 ≠ cs (row.drop 4) then .none else rowD row e := by
      by_cases q : row.take 4 ≠ cs (row.drop 4)
      · rw [if_pos q]
        unfold rowD
        rw [if_pos (.inr q)]
      · rw [if_neg q]
    have rr2 : row.take 4 = cs (row.drop 4) → rowD row e = tailD (row.drop 4) e := fun q => by
      unfold rowD
      rw [if_neg (by
        rintro (z | z)
        · exact r5 z
        · exact z q)]
      rfl
    rw [hd4] at rr2
    generalize (row[4]?).getD 0 = c at rr2 hd4 ⊢
    generalize row.drop 5 = f at cp rr2 fc fl hd4 ⊢
    have fz : f.length ≤ 16777216 := by omega
    refine br_intro (fun k1 => ?_) (fun k1 => ?_)
    · have k1 := of_decide_eq_true k1
      rw [rr2 (k1.trans (by rw [hd4]))]
      refine br_intro (fun k2 => br_intro (fun k3 => ?_) (fun k3 => ?_)) (fun k2 => ?_)
      · have k3 := of_decide_eq_true k3
        subst k3
        show Br (isNoneD (optS (plainL f))) (PyData.none = (match plainL f with | some x => _ | none => _)) (_ = (match plainL f with | some x => _ | none => _))
        cases plainL f with
        | none =>
          refine Eq.mpr br_t ?_
          rfl
        | some y =>
          rw [lit_add]
          refine Eq.mpr br_f ?_
          rfl
      · have k3 := of_decide_eq_false k3
        have c45 : c = 45 := by
          simp [k3] at k2
          exact k2
        subst c45
        have bad : figsOk f = false → (PyData.none = tailD (45 :: f) e) := fun q => (tailD_bad (by decide) (.inr q)).symm
        have good : figsOk f = true → PyData.tuple [.tuple [.str (Str.ofString "drop"), .int (numL f)], .int ((e : Int) + 1)] = tailD (45 :: f) e := fun q => by
          rw [lit_drop]
          show _ = (if figsOk f then _ else _)
          rw [q]
          rfl
        simp -implicitDefEqProofs [fz]
        refine br_intro (fun k4 => br_intro (fun k5 => ?_) (fun k5 => ?_)) (fun k4 => ?_)
        · have k4 : 1 ≤ f.length := by have := of_decide_eq_true k4; omega
          have k5 : f.length ≤ 4 := by have := of_decide_eq_true k5; omega
          refine lc_fm f (fun c : Nat => PyData.str (S [c])) (fun c : Nat => if (!decide (c ∈ figs)) then some (.str (S [c])) else none) _ rfl rfl rfl ?_ ?_
          · intro z hz
            simp -implicitDefEqProofs [T1, wipeE, ef]
            by_cases q : z ∈ figs
            · simp [q, Br]
            · simp [q, Br]
          rw [fm_if]
          have sh : PySem.SeqAt.shaped (.list ((f.filter fun c => !decide (c ∈ figs)).map fun c => PyData.str (S [c]))) = true := shaped_signs (fun c h => fc c (List.mem_filter.mp h).1) (Nat.le_trans (List.length_filter_le ..) (by omega))
          rw [cm_eqE sh]
          have hall : (((f.filter fun c => !decide (c ∈ figs)).map fun c => PyData.str (S [c])) = []) = ∀ c ∈ f, c ∈ figs := by
            apply propext
            rw [List.map_eq_nil_iff, List.filter_eq_nil_iff]
            simp
          have i0f : ∀ k, Ix (.str (S f)) (.int 0) k = k (.str (S [(f[0]?).getD 0])) := fun k => ix_S (i := 0) (k := k) fz (by omega)
          have hh : (f[0]?).getD 0 = 48 ↔ f.head? = some 48 := by
            cases f with
            | nil => simp at k4
            | cons c r => simp
          simp -implicitDefEqProofs [hall, backE, wipeE, fz, i0f, lit_zero]
          have loop : (∀ c ∈ f, c ∈ figs) → ∀ (x7 x8 : Option O) (kn : Sl → Prop) (kr : O → Sl → Prop), (∀ y, kn [some (.d (.str (S l))), some (.d (.int a)), none, some (.ol (.int e :: rr)), some (.d (.str (S row))), none, some (.d (.str (S f))), y, x8, some (.d (.int (numL f)))]) →
              Fr gcs (run gcs code (n + 2)) [false, false] (.nm 7) (.cons (.asg 9 (.bin .add (.bin .mul (.v 9) (.int 10)) (.me .index (.str (Str.ofString "0123456789")) (.v 7)))) .nil) (f.map fun c => PyData.str (S [c]))
                [some (.d (.str (S l))), some (.d (.int a)), none, some (.ol (.int e :: rr)), some (.d (.str (S row))), none, some (.d (.str (S f))), x7, x8, some (.d (.int 0))] kn kr := by
            intro hall x7 x8 kn kr hP
            refine fr_inv (fun i e1 => ∃ x, e1 = [some (.d (.str (S l))), some (.d (.int a)), none, some (.ol (.int e :: rr)), some (.d (.str (S row))), none, some (.d (.str (S f))), x, x8, some (.d (.int (numL (f.take i))))]) ⟨x7, rfl⟩ ?_ ?_
            · rintro i x e1 hx hP1
              obtain ⟨c, hc1, rfl⟩ := get_signs hx
              have cf := hall c (List.mem_of_getElem? hc1)
              obtain ⟨y, rfl⟩ := hP1
              have fi := fun k => fig_index (c := c) cf (k := k)
              rw [take_one hc1, numL_snoc]
              simp -implicitDefEqProofs [ef, fi]
            · rintro e1 ⟨y, rfl⟩
              rw [List.length_map, List.take_length]
              exact hP y
          refine br_intro (fun k6 => ?_) (fun k6 => ?_)
          · have k6 : ∀ c ∈ f, c ∈ figs := of_decide_eq_true k6
            have fa : (f.all fun c => decide (c ∈ figs)) = true := by simpa using k6
            refine br_intro (fun k7 => br_intro (fun k8 => ?_) (fun k8 => ?_)) (fun k7 => ?_)
            · have k7 := of_decide_eq_true k7
              have k8 := of_decide_eq_true k8
              refine bad ?_
              unfold figsOk
              rw [decide_eq_true (show 1 < f.length by omega), decide_eq_true (hh.mp k8)]
              simp
            · have k8 := of_decide_eq_false k8
              refine loop k6 _ _ _ _ fun y => ?_
              simp -implicitDefEqProofs
              refine good ?_
              unfold figsOk
              rw [decide_eq_false (fun q => k8 (hh.mpr q)), fa, decide_eq_true k4, decide_eq_true k5]
              simp
            · have k7 := of_decide_eq_false k7
              refine loop k6 _ _ _ _ fun y => ?_
              simp -implicitDefEqProofs
              refine good ?_
              unfold figsOk
              rw [decide_eq_false (show ¬ 1 < f.length by omega), fa, decide_eq_true k4, decide_eq_true k5]
              simp
          · have k6 := of_decide_eq_false k6
            refine bad ?_
            have fa : (f.all fun c => decide (c ∈ figs)) = false := by
              cases q : (f.all fun c => decide (c ∈ figs)) with
              | false => rfl
              | true => exact absurd (by simpa using q) k6
            unfold figsOk
            rw [fa]
            simp
        · have k5 := of_decide_eq_false k5
          exact bad (by unfold figsOk; rw [decide_eq_false (show ¬ f.length ≤ 4 by omega)]; simp)
        · have k4 := of_decide_eq_false k4
          exact bad (by unfold figsOk; rw [decide_eq_false (show ¬ 1 ≤ f.length by omega)]; simp)
      · have : c ≠ 43 ∧ c ≠ 45 := by simpa using k2
        exact (tailD_bad this.1 (.inl this.2)).symm
    · have k1 := of_decide_eq_false k1
      rw [rr1, if_pos k1]
end K92

namespace K92
open PySem Z L2
/-! spoilt records -/
def Asc (l : List Nat) : Prop := ∀ x ∈ l, x < 128
theorem asc_app {a b : List Nat} (h1 : Asc a) (h2 : Asc b) : Asc (a ++ b) := fun x h => (List.mem_append.mp h).elim (h1 x) (h2 x)
theorem asc_take {a : List Nat} {n : Nat} (h : Asc a) : Asc (a.take n) := fun x q => h x (List.mem_of_mem_take q)
theorem asc_drop {a : List Nat} {n : Nat} (h : Asc a) : Asc (a.drop n) := fun x q => h x (List.mem_of_mem_drop q)
theorem asc_dg (m : Nat) : Asc (dg m) := by
  intro x h
  unfold dg at h
  obtain ⟨c, hc, rfl⟩ := List.mem_map.mp h
  have := Nat.isDigit_of_mem_toDigits (by decide) (by decide) hc
  have := Char.isDigit_iff_toNat.mp this
  have e : ('9' : Char).toNat = 57 := rfl
  omega
theorem asc_fig (m : Nat) : Asc (fig m) := asc_app (fun x h => by
  have := List.eq_of_mem_replicate h
  omega) (asc_dg m)
theorem asc_cs (l : List Nat) : Asc (cs l) := asc_fig _
theorem asc_esc {l : List Nat} (h : Asc l) : Asc (esc l) := by
  intro x hx
  unfold esc at hx
  obtain ⟨c, hc, h2⟩ := List.mem_flatMap.mp hx
  have := h c hc
  unfold esc1 at h2
  split at h2
  · simp at h2
    omega
  · split at h2
    · simp at h2
      omega
    · have : x = c := by simpa using h2
      omega
def Dd.asc : Dd → Prop
  | .add t => Asc t
  | .drop _ => True
theorem asc_body {d : Dd} (h : d.asc) : Asc (bodyL d) := by
  cases d with
  | add t =>
    intro x hx
    rcases List.mem_cons.mp hx with rfl | hx
    · decide
    · exact asc_esc h x hx
  | drop m =>
    intro x hx
    rcases List.mem_cons.mp hx with rfl | hx
    · decide
    · exact asc_dg m x hx
theorem asc_seal {b : List Nat} (h : Asc b) : Asc (sealL b) := asc_app (asc_app (asc_cs b) h) (by intro x h; simp at h; omega)
theorem ev_pickW (n : Nat) (ds : List Int) (c : Nat) {ss : List Str} (ws : List (List Nat)) (he : ss = ws.map S) (h : 0 < ws.length) (hz : ws.length ≤ 1000) : ∃ w ∈ ws, ∀ k, Ca (run gcs code (n + 2)) 9 [.ol (bx ds c), .d (.list (ss.map .str))] k = k (.d (.str (S w))) [.ol (bx ds (c + 1)), .d (.list (ss.map .str))] := by
  subst he
  obtain ⟨d, hd, e⟩ := ev_pickL n ds c (xs := (ws.map S).map PyData.str) (by simpa using h) (by simpa using hz)
  obtain ⟨s, hs, rfl⟩ := List.mem_map.mp hd
  obtain ⟨w, hw, rfl⟩ := List.mem_map.mp hs
  exact ⟨w, hw, fun k => ca_of e⟩
def W0 : List (List Nat) := [[92], [92, 120], [48], [45], [32]]
def W1 : List (List Nat) := [[], [43], [45], [45, 48], [45, 48, 48], [45, 48, 55], [45, 57, 57, 57, 57], [45, 49, 50, 51, 52, 53], [42, 97], [45, 49, 120]]
def W6 : List (List Nat) := [[], [10], [48, 48, 48, 49, 10], [48, 48, 48, 49], cs [43, 97] ++ [43, 98, 10]]
def W7 : List (List Nat) := [[], [97], [10], [55], [92]]
theorem w_all {ws : List (List Nat)} (h : (ws.all fun w => decide (w.length ≤ 10) && w.all fun x => decide (x < 128)) = true) : ∀ w ∈ ws, w.length ≤ 10 ∧ Asc w := fun w hw => by
  have := List.all_eq_true.mp h w hw
  simp only [Bool.and_eq_true, decide_eq_true_eq, List.all_eq_true] at this
  exact this
theorem l0 : Str.ofString "\\x" = S [92, 120] := by decide +kernel
theorem l2 : Str.ofString " " = S [32] := by decide +kernel
theorem l3 : Str.ofString "-0" = S [45, 48] := by decide +kernel
theorem l4 : Str.ofString "-00" = S [45, 48, 48] := by decide +kernel
theorem l5 : Str.ofString "-07" = S [45, 48, 55] := by decide +kernel
theorem l6 : Str.ofString "-9999" = S [45, 57, 57, 57, 57] := by decide +kernel
theorem l7 : Str.ofString "-12345" = S [45, 49, 50, 51, 52, 53] := by decide +kernel
theorem l8 : Str.ofString "*a" = S [42, 97] := by decide +kernel
theorem l9 : Str.ofString "-1x" = S [45, 49, 120] := by decide +kernel
theorem l10 : Str.ofString "0001\n" = S [48, 48, 48, 49, 10] := by decide +kernel
theorem l11 : Str.ofString "0001" = S [48, 48, 48, 49] := by decide +kernel
theorem l12 : Str.ofString "+a" = S [43, 97] := by decide +kernel
theorem l13 : Str.ofString "+b\n" = S [43, 98, 10] := by decide +kernel
theorem l14 : Str.ofString "a" = S [97] := by decide +kernel
theorem l15 : Str.ofString "7" = S [55] := by decide +kernel
theorem ev_spoilt (n : Nat) (ds : List Int) (c : Nat) {d : Dd} (hd : d.ok) (ha : d.asc) : ∃ (b : List Nat) (c' : Nat), b.length ≤ 3000 ∧ Asc b ∧ run gcs code (n + 4) 18 [.ol (bx ds c), .d (deedD d)] = some (.d (.str (S b)), [.ol (bx ds c'), .d (deedD d)]) := by
  obtain ⟨r, outs, h, b, c', h1, h2, rfl, rfl⟩ : ∃ r outs, run gcs code (n + 4) 18 [.ol (bx ds c), .d (deedD d)] = some (r, outs) ∧ ∃ (b : List Nat) (c' : Nat), b.length ≤ 3000 ∧ Asc b ∧ r = .d (.str (S b)) ∧ outs = [.ol (bx ds c'), .d (deedD d)] := by
    refine run_wp rfl ⟨rfl, rfl, by decide⟩ ?_
    have hb := body_len hd
    have hba := asc_body ha
    obtain ⟨q, hq, q9⟩ := dr_nat (ds := ds) (c := c) (many := 9) (by decide)
    have hq : dr ds c 9 = q := hq
    have ca := fun k => ca_lcheck (n := n + 2) (l := [43, 97]) (k := k) (by simp)
    obtain ⟨w0, m0, p0⟩ := ev_pickW (n + 1) ds (c + 1) W0 rfl (by decide) (by decide)
    obtain ⟨w1, m1, p1⟩ := ev_pickW (n + 1) ds (c + 1) W1 rfl (by decide) (by decide)
    obtain ⟨w6, m6, p6⟩ := ev_pickW (n + 1) ds (c + 1) W6 rfl (by decide) (by decide)
    obtain ⟨w7, m7, p7⟩ := ev_pickW (n + 1) ds (c + 2) W7 rfl (by decide) (by decide)
    have g0 := w_all (ws := W0) (by decide) w0 m0
    have g1 := w_all (ws := W1) (by decide) w1 m1
    have g6 := w_all (ws := W6) (by decide +kernel) w6 m6
    have g7 := w_all (ws := W7) (by decide) w7 m7
    clear m0 m1 m6 m7
    simp only [W0, W1, W6, W7, List.map] at p0 p1 p6 p7
    have cc := fun k => ca_lcheck (n := n + 2) (l := bodyL d) (k := k) (by omega)
    have cc2 := fun k => ca_lcheck (n := n + 2) (l := bodyL d ++ [32]) (k := k) (by simp; omega)
    have se := fun k => ca_seal (n := n + 1) (b := bodyL d) (k := k) (by omega)
    have se0 := fun k => ca_seal (n := n + 1) (b := bodyL d ++ w0) (k := k) (by simp; omega)
    have se1 := fun k => ca_seal (n := n + 1) (b := w1) (k := k) (by omega)
    have sl := seal_len (b := bodyL d)
    have sa := asc_seal hba
    have z1 : (bodyL d).length + 1 ≤ 16777216 := by omega
    have z2 : (bodyL d).length + w0.length ≤ 16777216 := by omega
    have z4 : 4 + (bodyL d).length ≤ 16777216 := by omega
    have z5 : 4 + (bodyL d).length + 1 ≤ 16777216 := by omega
    have z6 : 3 + (bodyL d).length ≤ 16777216 := by omega
    have z7 : 3 + (bodyL d).length + 1 ≤ 16777216 := by omega
    have L := @l0
    have zc : 4 + 3 ≤ 16777216 := by decide
    have b32 : Asc [32] := by intro x h; simp at h; omega
    have b10 : Asc [10] := by intro x h; simp at h; omega
    have r3 : ∀ k, Sc (.str (S (cs (bodyL d)))) none (some (3 : Int)) k = k (.d (.str (S ((cs (bodyL d)).take 3)))) := fun k => by
      rw [sc_S (by rw [cs_len]; decide), HT.sIx_none, show ((3 : Int)) = ((3 : Nat) : Int) by rfl, HT.sIx_nat, cs_len]
      simp
    have r1 : ∀ k, Sc (.str (S (sealL (bodyL d)))) (some (1 : Int)) none k = k (.d (.str (S ((sealL (bodyL d)).drop 1)))) := fun k => sc_from (a := 1) (by omega)
    obtain ⟨p, hp, hp2⟩ := dr_nat (ds := ds) (c := c + 1) (many := (sealL (bodyL d)).length) (by omega)
    have pl : 0 < ((sealL (bodyL d)).length : Int) := by omega
    have s7 : ∀ k, Sc (.str (S (sealL (bodyL d)))) none (some (p : Int)) k = k (.d (.str (S ((sealL (bodyL d)).take p)))) := fun k => by
      rw [sc_S (by omega), HT.sIx_none, HT.sIx_nat, Nat.min_eq_left (by omega)]
      simp
    have s8 : ∀ k, Sc (.str (S (sealL (bodyL d)))) (some ((p : Int) + 1)) none k = k (.d (.str (S ((sealL (bodyL d)).drop (p + 1))))) := fun k => by
      rw [show (p : Int) + 1 = ((p + 1 : Nat) : Int) by omega]
      exact sc_from (by omega)
    have dl : ((sealL (bodyL d)).drop (p + 1)).length = (sealL (bodyL d)).length - (p + 1) := List.length_drop
    have tl : ((sealL (bodyL d)).take p).length = p := by rw [List.length_take, Nat.min_eq_left (by omega)]
    have z8 : (sealL (bodyL d)).length ≤ 16777216 := by omega
    have fin : ∀ (b : List Nat) (y : Nat), b.length ≤ 3000 → Asc b → ∃ b', b'.length ≤ 3000 ∧ Asc b' ∧ O.d (.str (S b)) = .d (.str (S b')) ∧ ∃ x, bx ds y = bx ds x := fun b y h1 h2 => ⟨b, h1, h2, rfl, y, rfl⟩
    have pl2 : 0 < (sealL (bodyL d)).length := by omega
    have z9 : p + w7.length ≤ 16777216 := by omega
    have z10 : p + w7.length + ((sealL (bodyL d)).length - (p + 1)) ≤ 16777216 := by omega
    have cd := fun k => ca_draw (n := n + 2) (ds := ds) (c := c + 1) (k := k) pl
    rw [hp] at cd
    have fin' : ∀ (b : List Nat) (y : Nat), b.length ≤ 3000 → Asc b → ∃ b', b'.length ≤ 3000 ∧ Asc b' ∧ S b = S b' ∧ ∃ x, bx ds y = bx ds x := fun b y h1 h2 => ⟨b, h1, h2, rfl, y, rfl⟩
    cases d with
    | add t =>
      have h : t.length ≤ 1000 := hd
      have el := esc_len t
      have ce := fun k => ca_lesc (n := n + 2) (l := t) (k := k) (by omega)
      have z3 : 1 + (esc t).length ≤ 16777216 := by omega
      simp only [bodyL] at cc cc2 se se0 hb hba z1 z2 z4 z5 z6 z7 z8 sl sa r3 r1 hp hp2 pl pl2 z10 cd s7 s8 dl tl ⊢
      simp -implicitDefEqProofs [c__law_spoilt, deedD, lit_add, lit_plus, ce, z3, hq, l0, l2, l3, l4, l5, l6, l7, l8, l9, l10, l11, l12, l13, l14, l15, lit_e, lit_minus, lit_zero, lit_nl, lit_bs, p0, p1, cc, se, ca]
      generalize PyData.tuple [PyData.str (S [97, 100, 100]), PyData.str (S t)] = dt
      generalize 43 :: esc t = body at cc cc2 se se0 hb hba z1 z2 z4 z5 z6 z7 z8 sl sa r3 r1 hp hp2 pl pl2 z10 cd s7 s8 dl tl ⊢
      have cl := cs_len (l := body)
      have cl2 := cs_len (l := [43, 97])
      have ab := asc_cs body
      have ab2 := asc_cs (body ++ [32])
      have cl3 := cs_len (l := body ++ [32])
      have sw0 := seal_len (b := body ++ w0)
      have sw1 := seal_len (b := w1)
      have aw0 := asc_seal (asc_app hba g0.2)
      have aw1 := asc_seal g1.2
      generalize sealL body = row at *
      have tp : min p row.length = p := Nat.min_eq_left (by omega)
      simp -implicitDefEqProofs [cd, se0, se1, z2, z4, z6, cs_len, r3, r1, z1, cc2, z5, z7, p6, hp, pl, pl2, s7, s8, p7, z8, tl, dl, z9, z10, tp]
      rw [List.length_append] at sw0
      have q2 : (cs body ++ body).length ≤ 3000 := by rw [List.length_append]; omega
      have q3 : ((cs body).take 3 ++ (body ++ [10])).length ≤ 3000 := by rw [List.length_append, List.length_append, List.length_take, List.length_singleton]; omega
      have q5 : (cs (body ++ [32]) ++ (body ++ [10])).length ≤ 3000 := by rw [List.length_append, List.length_append, List.length_singleton]; omega
      have q8 : (row.take p ++ (w7 ++ row.drop (p + 1))).length ≤ 3000 := by rw [List.length_append, List.length_append, tl, dl]; omega
      refine br_intro (fun _ => fin' _ _ (by omega) aw0) fun _ => ?_
      refine br_intro (fun _ => fin' _ _ (by omega) aw1) fun _ => ?_
      refine br_intro (fun _ => fin' _ _ q2 (asc_app ab hba)) fun _ => ?_
      refine br_intro (fun _ => fin' _ _ q3 (asc_app (asc_take ab) (asc_app hba b10))) fun _ => ?_
      refine br_intro (fun _ => ?_) fun _ => ?_
      · rw [← List.drop_one]
        exact fin' _ _ (by rw [List.length_drop]; omega) (asc_drop sa)
      refine br_intro (fun _ => fin' _ _ q5 (asc_app ab2 (asc_app hba b10))) fun _ => ?_
      refine br_intro (fun _ => fin' _ _ (by omega) g6.2) fun _ => ?_
      exact fin' _ _ q8 (asc_app (asc_take sa) (asc_app g7.2 (asc_drop sa)))
    | drop m =>
      have dl0 := dg_in4 hd
      have z3 : 1 + (dg m).length ≤ 16777216 := by omega
      have s1 : ∀ k, Bt .str (.int (m : Int)) k = k (.d (.str (S (dg m)))) := fun k => by
        rw [bt_strI (small_nat hd), str_nat]
      simp only [bodyL] at cc cc2 se se0 hb hba z1 z2 z4 z5 z6 z7 z8 sl sa r3 r1 hp hp2 pl pl2 z10 cd s7 s8 dl tl ⊢
      simp -implicitDefEqProofs [c__law_spoilt, deedD, lit_add, lit_plus, s1, z3, hq, l0, l2, l3, l4, l5, l6, l7, l8, l9, l10, l11, l12, l13, l14, l15, lit_e, lit_minus, lit_zero, lit_nl, lit_bs, p0, p1, cc, se, ca]
      generalize PyData.tuple [PyData.str (S [100, 114, 111, 112]), PyData.int (m : Int)] = dt
      generalize 45 :: dg m = body at cc cc2 se se0 hb hba z1 z2 z4 z5 z6 z7 z8 sl sa r3 r1 hp hp2 pl pl2 z10 cd s7 s8 dl tl ⊢
      have cl := cs_len (l := body)
      have cl2 := cs_len (l := [43, 97])
      have ab := asc_cs body
      have ab2 := asc_cs (body ++ [32])
      have cl3 := cs_len (l := body ++ [32])
      have sw0 := seal_len (b := body ++ w0)
      have sw1 := seal_len (b := w1)
      have aw0 := asc_seal (asc_app hba g0.2)
      have aw1 := asc_seal g1.2
      generalize sealL body = row at *
      have tp : min p row.length = p := Nat.min_eq_left (by omega)
      simp -implicitDefEqProofs [cd, se0, se1, z2, z4, z6, cs_len, r3, r1, z1, cc2, z5, z7, p6, hp, pl, pl2, s7, s8, p7, z8, tl, dl, z9, z10, tp]
      rw [List.length_append] at sw0
      have q2 : (cs body ++ body).length ≤ 3000 := by rw [List.length_append]; omega
      have q3 : ((cs body).take 3 ++ (body ++ [10])).length ≤ 3000 := by rw [List.length_append, List.length_append, List.length_take, List.length_singleton]; omega
      have q5 : (cs (body ++ [32]) ++ (body ++ [10])).length ≤ 3000 := by rw [List.length_append, List.length_append, List.length_singleton]; omega
      have q8 : (row.take p ++ (w7 ++ row.drop (p + 1))).length ≤ 3000 := by rw [List.length_append, List.length_append, tl, dl]; omega
      refine br_intro (fun _ => fin' _ _ (by omega) aw0) fun _ => ?_
      refine br_intro (fun _ => fin' _ _ (by omega) aw1) fun _ => ?_
      refine br_intro (fun _ => fin' _ _ q2 (asc_app ab hba)) fun _ => ?_
      refine br_intro (fun _ => fin' _ _ q3 (asc_app (asc_take ab) (asc_app hba b10))) fun _ => ?_
      refine br_intro (fun _ => ?_) fun _ => ?_
      · rw [← List.drop_one]
        exact fin' _ _ (by rw [List.length_drop]; omega) (asc_drop sa)
      refine br_intro (fun _ => fin' _ _ q5 (asc_app ab2 (asc_app hba b10))) fun _ => ?_
      refine br_intro (fun _ => fin' _ _ (by omega) g6.2) fun _ => ?_
      exact fin' _ _ q8 (asc_app (asc_take sa) (asc_app g7.2 (asc_drop sa)))
  exact ⟨b, c', h1, h2, h⟩
end K92

namespace K92
open PySem Z L2
theorem nice_s {l : List Nat} (h : Asc l) (hl : l.length ≤ 20000) {k : Nat} : Nice (.str (S l)) k 200002 := nice_S h (by omega)
theorem esc_le (x : List Nat) : x.length ≤ (esc x).length := by
  unfold esc
  induction x with
  | nil => exact Nat.zero_le _
  | cons c x ih =>
    rw [List.flatMap_cons, List.length_append, List.length_cons]
    have : 1 ≤ (esc1 c).length := by
      unfold esc1
      split
      · decide
      · split
        · decide
        · simp
    omega
theorem asc_unesc {x : List Nat} (h : Asc (esc x)) : Asc x := by
  intro c hc
  by_cases h1 : c = 92
  · omega
  · by_cases h2 : c = 10
    · omega
    · refine h c ?_
      unfold esc
      exact List.mem_flatMap.mpr ⟨c, hc, by unfold esc1; rw [if_neg h1, if_neg h2]; simp⟩
theorem nice_opt {l : List Nat} (h : Asc l) (hl : l.length ≤ 20000) {k : Nat} : Nice (optS (plainL l)) k 200002 := by
  cases q : plainL l with
  | none => exact nice_none (by decide)
  | some x =>
    have e := plain_some q
    have hx := esc_le x
    rw [e] at hx
    rw [← e] at h
    exact nice_s (asc_unesc h) (by omega)
theorem nice_add {x : List Nat} (h : Asc x) (hl : x.length ≤ 20000) : Nice (.tuple [.str (S [97, 100, 100]), .str (S x)]) 1 400100 :=
  nice_tuple (k := 0) (m := 200002) (fun y hy => by
    simp only [List.mem_cons, List.not_mem_nil, or_false] at hy
    rcases hy with rfl | rfl
    · exact nice_s (by unfold Asc; decide) (by decide)
    · exact nice_s h hl) (by simp)
theorem nice_drop {m : Nat} (h : m < 10000) : Nice (.tuple [.str (S [100, 114, 111, 112]), .int m]) 1 400100 :=
  nice_tuple (k := 0) (m := 200002) (fun y hy => by
    simp only [List.mem_cons, List.not_mem_nil, or_false] at hy
    rcases hy with rfl | rfl
    · exact nice_s (by unfold Asc; decide) (by decide)
    · exact nice_int (small_nat h) (by decide)) (by simp)
theorem nice_pair {d : D} {e : Int} (h : Nice d 1 400100) (he : Z.smallInt e = true) : Nice (.tuple [d, .int e]) 2 1000000 :=
  nice_tuple (k := 1) (m := 400100) (fun y hy => by
    simp only [List.mem_cons, List.not_mem_nil, or_false] at hy
    rcases hy with rfl | rfl
    · exact h
    · exact nice_int he (by decide)) (by simp)
theorem small_e {e : Nat} (h : e ≤ 100000) : Z.smallInt ((e : Int) + 1) = true := small_of (by
  rw [show (e : Int) + 1 = ((e + 1 : Nat) : Int) by omega, Int.natAbs_natCast]
  exact Nat.lt_of_lt_of_le (m := 2 ^ 20) (by omega) (Nat.pow_le_pow_right (by decide) (by decide)))
theorem numL_lt : ∀ {f : List Nat}, f.length ≤ 4 → (∀ c ∈ f, c ∈ figs) → numL f < 10000 := by
  intro f hl hc
  have w : ∀ c ∈ figs, c - 48 ≤ 9 := by decide
  have h : ∀ c ∈ f, c - 48 ≤ 9 := fun c q => w c (hc c q)
  match f, hl, h with
  | [], _, _ => decide
  | [a], _, h =>
    have := h a (by simp)
    simp only [numL, List.foldl]
    omega
  | [a, b], _, h =>
    have := h a (by simp)
    have := h b (by simp)
    simp only [numL, List.foldl]
    omega
  | [a, b, c], _, h =>
    have := h a (by simp)
    have := h b (by simp)
    have := h c (by simp)
    simp only [numL, List.foldl]
    omega
  | [a, b, c, d], _, h =>
    have := h a (by simp)
    have := h b (by simp)
    have := h c (by simp)
    have := h d (by simp)
    simp only [numL, List.foldl]
    omega
  | _ :: _ :: _ :: _ :: _ :: _, hl, _ => simp at hl
theorem nice_row {row : List Nat} {e : Nat} (h : Asc row) (hl : row.length ≤ 20000) (he : e ≤ 100000) : Nice (rowD row e) 2 1000000 := by
  unfold rowD
  split
  · exact nice_none (by decide)
  · split
    · rename_i r hr
      have ra : Asc r := fun x hx => asc_drop (n := 4) h x (by rw [hr]; exact List.mem_cons_of_mem _ hx)
      have rl : r.length ≤ 20000 := by
        have := congrArg List.length hr
        rw [List.length_drop, List.length_cons] at this
        omega
      split
      · rename_i x hx
        have e1 := plain_some hx
        have hxl := esc_le x
        rw [e1] at hxl
        rw [← e1] at ra
        exact nice_pair (nice_add (asc_unesc ra) (by omega)) (small_e he)
      · exact nice_none (by decide)
    · rename_i f hf
      split
      · rename_i hk
        unfold figsOk at hk
        simp only [Bool.and_eq_true, decide_eq_true_eq, List.all_eq_true] at hk
        exact nice_pair (nice_drop (numL_lt hk.1.1.2 hk.1.2)) (small_e he)
      · exact nice_none (by decide)
    · exact nice_none (by decide)
theorem nice_read {l : List Nat} {a : Nat} (h : Asc l) (hl : l.length ≤ 20000) : Nice (readL l a) 2 1000000 := by
  unfold readL
  split
  · exact nice_row (asc_drop (asc_take h)) (by rw [List.length_drop, List.length_take]; omega) (by omega)
  · exact nice_none (by decide)
/-! what is read where a record stands -/
def Dd.good : Dd → Prop
  | .add t => t.length ≤ 1000 ∧ Asc t
  | .drop m => m < 10000 ∧ figsOk (dg m) = true ∧ numL (dg m) = m
theorem Dd.good.ok {d : Dd} (h : d.good) : d.ok := by
  cases d with
  | add t => exact h.1
  | drop m => exact h.1
theorem Dd.good.asc {d : Dd} (h : d.good) : d.asc := by
  cases d with
  | add t => exact h.2
  | drop m => trivial
theorem nl_dg (m : Nat) : 10 ∉ dg m := by
  intro h
  unfold dg at h
  obtain ⟨c, hc, e⟩ := List.mem_map.mp h
  have := Nat.isDigit_of_mem_toDigits (by decide) (by decide) hc
  have := Char.isDigit_iff_toNat.mp this
  have e : ('0' : Char).toNat = 48 := rfl
  omega
theorem nl_body (d : Dd) : 10 ∉ bodyL d := by
  cases d with
  | add t =>
    intro h
    rcases List.mem_cons.mp h with h | h
    · cases h
    · exact no_nl t h
  | drop m =>
    intro h
    rcases List.mem_cons.mp h with h | h
    · cases h
    · exact nl_dg m h
theorem nl_cs (l : List Nat) : 10 ∉ cs l := by
  intro h
  rcases List.mem_append.mp h with h | h
  · have := List.eq_of_mem_replicate h
    omega
  · exact nl_dg _ h
theorem read_good {d : Dd} (h : d.good) (j t : List Nat) : readL (j ++ sealL (bodyL d) ++ t) j.length = .tuple [deedD d, .int ((j.length : Int) + ((sealL (bodyL d)).length : Nat))] := by
  have hr : sealL (bodyL d) = (cs (bodyL d) ++ bodyL d) ++ [10] := rfl
  have cl := cs_len (l := bodyL d)
  have nl : 10 ∉ cs (bodyL d) ++ bodyL d := by
    intro q
    rcases List.mem_append.mp q with q | q
    · exact nl_cs _ q
    · exact nl_body _ q
  have rl : (cs (bodyL d) ++ bodyL d).length = 4 + (bodyL d).length := by rw [List.length_append, cl]
  have e : endL (j ++ sealL (bodyL d) ++ t) j.length = j.length + (4 + (bodyL d).length) := by
    refine end_at (by omega) (by rw [hr]; simp; omega) (fun k h1 h2 z => ?_) (.inr ?_)
    · rw [hr, List.append_assoc, List.getElem?_append_right h1, List.append_assoc, List.getElem?_append_left (by omega)] at z
      have hk : k - j.length < (cs (bodyL d) ++ bodyL d).length := by omega
      rw [List.getElem?_eq_getElem hk] at z
      refine nl ?_
      have z : (cs (bodyL d) ++ bodyL d)[k - j.length] = 10 := z
      rw [← z]
      exact List.getElem_mem hk
    · rw [hr, List.append_assoc, List.getElem?_append_right (by omega), List.append_assoc, List.getElem?_append_right (by omega)]
      rw [rl, show j.length + (4 + (bodyL d).length) - j.length - (4 + (bodyL d).length) = 0 by omega]
      rfl
  have tk : ((j ++ sealL (bodyL d) ++ t).take (j.length + (4 + (bodyL d).length))).drop j.length = cs (bodyL d) ++ bodyL d := by
    rw [List.append_assoc, List.take_length_add_append, List.drop_left, hr, List.append_assoc, List.take_left' rl]
  unfold readL
  rw [e, if_pos (by rw [hr]; simp; omega), tk]
  unfold rowD
  have t4 : (cs (bodyL d) ++ bodyL d).take 4 = cs (bodyL d) := List.take_left' cl
  have d4 : (cs (bodyL d) ++ bodyL d).drop 4 = bodyL d := List.drop_left' cl
  rw [t4, d4]
  have b1 : 1 ≤ (bodyL d).length := by
    cases d <;> simp [bodyL]
  rw [if_neg (by
    rintro (q | q)
    · omega
    · exact q rfl)]
  have el : ((j.length : Int) + ((sealL (bodyL d)).length : Nat)) = (((j.length + (4 + (bodyL d).length) : Nat) : Int) + 1) := by
    rw [seal_len]
    omega
  rw [el]
  generalize j.length + (4 + (bodyL d).length) = e
  cases d with
  | add x =>
    show (match plainL (esc x) with | some x => _ | none => _) = _
    rw [plain_esc]
    rfl
  | drop m =>
    show (if figsOk (dg m) then _ else _) = _
    rw [h.2.1]
    show PyData.tuple [.tuple [_, .int (numL (dg m))], _] = _
    rw [h.2.2]
    rfl
theorem read_cut {d : Dd} {p : Nat} (hp : p < (sealL (bodyL d)).length) (j : List Nat) (hj : True) : readL (j ++ (sealL (bodyL d)).take p) j.length = .none := by
  have hr : sealL (bodyL d) = (cs (bodyL d) ++ bodyL d) ++ [10] := rfl
  have sl := seal_len (b := bodyL d)
  have cl := cs_len (l := bodyL d)
  have nl : 10 ∉ cs (bodyL d) ++ bodyL d := by
    intro q
    rcases List.mem_append.mp q with q | q
    · exact nl_cs _ q
    · exact nl_body _ q
  have tk : (sealL (bodyL d)).take p = (cs (bodyL d) ++ bodyL d).take p := by
    rw [hr, List.take_append_of_le_length (by rw [List.length_append]; omega)]
  rw [tk]
  unfold readL
  rw [if_neg]
  rw [end_at (i := (j ++ (cs (bodyL d) ++ bodyL d).take p).length) (by simp) (Nat.le_refl _) (fun k h1 h2 z => ?_) (.inl rfl)]
  · exact Nat.lt_irrefl _
  · rw [List.getElem?_append_right h1] at z
    rw [List.length_append] at h2
    have hk : k - j.length < ((cs (bodyL d) ++ bodyL d).take p).length := by omega
    rw [List.getElem?_eq_getElem hk] at z
    refine nl ?_
    have z : ((cs (bodyL d) ++ bodyL d).take p)[k - j.length] = 10 := z
    rw [← z]
    exact List.mem_of_mem_take (List.getElem_mem hk)
theorem read_end (l : List Nat) : readL l l.length = .none := by
  unfold readL
  rw [if_neg]
  rw [end_at (i := l.length) (Nat.le_refl _) (Nat.le_refl _) (fun k h1 h2 => by omega) (.inl rfl)]
  exact Nat.lt_irrefl _
end K92

namespace K92
open PySem Z L2
theorem figs_ok : ∀ m ∈ [0, 7, 10, 999, 9999], figsOk (dg m) = true ∧ numL (dg m) = m := by decide +kernel
theorem sl5 : rangeD 0 5 = rangeD 0 5 := rfl
theorem ev_law (n : Nat) (ns : List Int) : ∃ outs, run gcs code (n + 6) 19 [.d (.list (intL ns))] = some (.d (.bool true), outs) := by
  obtain ⟨r, outs, h, rfl⟩ : ∃ r outs, run gcs code (n + 6) 19 [.d (.list (intL ns))] = some (r, outs) ∧ r = .d (.bool true) := by
    refine run_wp rfl ⟨rfl, rfl, by decide⟩ ?_
    obtain ⟨ds, hds⟩ := ev_digits (n + 3) ns
    have cdg := fun k => ca_of (k := k) hds
    have r5 : ∀ k, Rg1 5 k = k (rangeD 0 5) := fun k => by
      unfold Rg1
      rw [eq_true (show (5 : Int) ≤ (sizeLine : Nat) ∧ -(2 ^ 62) ≤ (5 : Int) by rw [sizeN]; decide), true_and]
      rfl
    simp -implicitDefEqProofs [c_law, cdg, r5]
    refine fr_inv (fun i e => ∃ (c : Nat) (x2 x3 x4 x5 x6 x7 x8 x9 : Option O), e = [some (.d (.list (intL ns))), some (.ol (bx ds c)), x2, x3, x4, x5, x6, x7, x8, x9]) ⟨0, _, _, _, _, _, _, _, _, rfl⟩ ?_ ?_
    · rintro i x e hx hP
      obtain ⟨hi, rfl⟩ := mem_range hx
      obtain ⟨c, x2, x3, x4, x5, x6, x7, x8, x9, rfl⟩ := hP
      obtain ⟨l, c1, ll, la, e1⟩ := ev_signs (n + 2) ds c
      have la : Asc l := la
      have cs1 := fun k => ca_of (k := k) e1
      have cesc := fun k => ca_esc (n := n + 4) (l := l) (k := k) (by omega)
      have clesc := fun k => ca_lesc (n := n + 4) (l := l) (k := k) (by omega)
      have el := esc_len l
      have cpl := fun k => ca_plain (n := n + 4) (l := esc l) (k := k) (by omega)
      have cpl2 := fun k => ca_plain (n := n + 4) (l := l) (k := k) (by omega)
      have clpl := fun k => ca_lplain (n := n + 3) (l := l) (k := k) (by omega)
      have cck := fun k => ca_check (n := n + 4) (l := l) (k := k) (by omega)
      have clck := fun k => ca_lcheck (n := n + 4) (l := l) (k := k) (by omega)
      have sm1 : ∀ k, Ca (run gcs code (n + 5)) 10 [.d (.str (S (esc l))), .d (.str (S (esc l)))] k = k (.d (.bool true)) [.d (.str (S (esc l))), .d (.str (S (esc l)))] := fun k => ca_same (n := n + 2) ((nice_s (asc_esc la) (by omega)).mono (Nat.le_refl _) (by decide)) rfl
      have sm2 : ∀ k, Ca (run gcs code (n + 5)) 10 [.d (.str (S l)), .d (.str (S l))] k = k (.d (.bool true)) [.d (.str (S l)), .d (.str (S l))] := fun k => ca_same (n := n + 2) ((nice_s la (by omega)).mono (Nat.le_refl _) (by decide)) rfl
      have sm3 : ∀ k, Ca (run gcs code (n + 5)) 10 [.d (optS (plainL l)), .d (optS (plainL l))] k = k (.d (.bool true)) [.d (optS (plainL l)), .d (optS (plainL l))] := fun k => ca_same (n := n + 2) ((nice_opt la (by omega)).mono (Nat.le_refl _) (by decide)) rfl
      have sm4 : ∀ k, Ca (run gcs code (n + 5)) 10 [.d (.str (S (cs l))), .d (.str (S (cs l)))] k = k (.d (.bool true)) [.d (.str (S (cs l))), .d (.str (S (cs l)))] := fun k => ca_same (n := n + 2) ((nice_s (asc_cs l) (by rw [cs_len]; decide)).mono (Nat.le_refl _) (by decide)) rfl
      have pe : optS (plainL (esc l)) = .str (S l) := by rw [plain_esc]; rfl
      obtain ⟨d0, hd0, e2⟩ := ev_pickL (n + 3) ds c1 (xs := [.int 0, .int 7, .int 10, .int 999, .int 9999]) (by decide) (by decide)
      obtain ⟨m, hm, rfl⟩ : ∃ m : Nat, m ∈ [0, 7, 10, 999, 9999] ∧ d0 = .int m := by
        simp only [List.mem_cons, List.not_mem_nil, or_false] at hd0
        rcases hd0 with rfl | rfl | rfl | rfl | rfl
        · exact ⟨0, by simp, rfl⟩
        · exact ⟨7, by simp, rfl⟩
        · exact ⟨10, by simp, rfl⟩
        · exact ⟨999, by simp, rfl⟩
        · exact ⟨9999, by simp, rfl⟩
      have cs2 := fun k => ca_of (k := k) e2
      have m4 : m < 10000 := by
        have : ∀ m ∈ [0, 7, 10, 999, 9999], m < 10000 := by decide
        exact this m hm
      obtain ⟨d1, hd1, e3⟩ := ev_pickL (n + 3) ds (c1 + 1) (xs := [.tuple [.str (S [97, 100, 100]), .str (S l)], .tuple [.str (S [100, 114, 111, 112]), .int m]]) (by simp) (by simp)
      obtain ⟨d, hd, dl, rfl⟩ : ∃ d : Dd, d.good ∧ (bodyL d).length ≤ 21 ∧ d1 = deedD d := by
        simp only [List.mem_cons, List.not_mem_nil, or_false] at hd1
        rcases hd1 with rfl | rfl
        · exact ⟨.add l, ⟨by omega, la⟩, by simp [bodyL]; omega, rfl⟩
        · exact ⟨.drop m, ⟨m4, figs_ok m hm⟩, by have := dg_in4 m4; simp [bodyL]; omega, rfl⟩
      have cs3 := fun k => ca_of (k := k) e3
      have cr := fun k => ca_lrecord (n := n + 2) (k := k) hd.ok
      have cr2 := fun k => ca_record (n := n + 3) (k := k) hd.ok
      obtain ⟨j, c2, jl, ja, e4⟩ := ev_signs (n + 2) ds (c1 + 1 + 1)
      have ja : Asc j := ja
      have cs4 := fun k => ca_of (k := k) e4
      obtain ⟨t, c3, tl, ta, e5⟩ := ev_signs (n + 2) ds c2
      have ta : Asc t := ta
      have cs5 := fun k => ca_of (k := k) e5
      have sl := seal_len (b := bodyL d)
      have sa := asc_seal (asc_body hd.asc)
      have rg := read_good hd j t
      have crd := fun k => ca_read (n := n + 3) (l := j ++ (sealL (bodyL d) ++ t)) (a := j.length) (k := k) (by simp; omega) (by simp)
      rw [List.append_assoc] at rg
      rw [rg] at crd
      have cap := fun k => ca_appended (n := n + 2) (l := j ++ t) (a := j.length) (k := k) hd.ok (by simp; omega) (by simp)
      rw [List.take_left] at cap
      have jle : j.length ≤ 16777216 := by omega
      have row20 : (sealL (bodyL d)).length ≤ 26 := by omega
      have sm5 : ∀ k, Ca (run gcs code (n + 5)) 10 [.d (.str (S (sealL (bodyL d)))), .d (.str (S (sealL (bodyL d))))] k = k (.d (.bool true)) [.d (.str (S (sealL (bodyL d)))), .d (.str (S (sealL (bodyL d))))] := fun k => ca_same (n := n + 2) ((nice_s sa (by omega)).mono (Nat.le_refl _) (by decide)) rfl
      have ro := nice_read (a := j.length) (asc_app ja (asc_app sa ta)) (by simp; omega)
      rw [rg] at ro
      have sm6 := fun k => ca_same (n := n + 2) (k := k) (o := .d _) ro rfl
      have sm7 := fun k => ca_same (n := n + 2) (k := k) (o := .d _) ((nice_s (asc_app ja sa) (by simp; omega) (k := 2)).mono (Nat.le_refl _) (by decide)) rfl
      obtain ⟨p, hp, hp2⟩ : ∃ p : Nat, True ∧ True := ⟨0, trivial, trivial⟩
      have z1 : j.length + (sealL (bodyL d)).length ≤ 16777216 := by omega
      have z2 : j.length + (sealL (bodyL d)).length + t.length ≤ 16777216 := by omega
      have z3 : j.length + t.length ≤ 16777216 := by omega
      have z4 : (sealL (bodyL d)).length ≤ 16777216 := by omega
      have r4 : ∀ k, Rg1 4 k = k (rangeD 0 4) := fun k => by
        unfold Rg1
        rw [eq_true (show (4 : Int) ≤ (sizeLine : Nat) ∧ -(2 ^ 62) ≤ (4 : Int) by rw [sizeN]; decide), true_and]
        rfl
      simp -implicitDefEqProofs [cs1, cesc, clesc, cpl, cpl2, clpl, cck, clck, sm1, sm2, sm3, sm4, pe, cs2, cs3, lit_add, lit_drop, cr, cr2, cs4, cs5, sm5, z1, z2, z3, jle, crd, z4, sm6, cap, sm7, r4]
      have dl2 := sl
      refine fr_inv (fun i2 e => ∃ (c4 : Nat) (x8 x9 : Option O), e = [some (.d (.list (intL ns))), some (.ol (bx ds c4)), some (.d (.int i)), some (.d (.str (S l))), some (.d (deedD d)), some (.d (.str (S (sealL (bodyL d))))), some (.d (.str (S j))), some (.d (.str (S t))), x8, x9]) ⟨_, _, _, rfl⟩ ?_ ?_
      · rintro i2 x e hx hP
        obtain ⟨hi2, rfl⟩ := mem_range hx
        obtain ⟨c4, y8, y9, rfl⟩ := hP
        obtain ⟨b, c5, bl, ba, e6⟩ := ev_spoilt (n + 1) ds c4 hd.ok hd.asc
        have cs6 := fun k => ca_of (k := k) e6
        have bt := asc_app ja (asc_app ba ta)
        have crd2 := fun k => ca_read (n := n + 3) (l := j ++ (b ++ t)) (a := j.length) (k := k) (by simp; omega) (by simp)
        have clrd2 := fun k => ca_lread (n := n + 2) (l := j ++ (b ++ t)) (a := j.length) (k := k) (by simp; omega) (by simp) bt
        have nr := nice_read (a := j.length) bt (by simp; omega)
        generalize readL (j ++ (b ++ t)) j.length = rd at nr crd2 clrd2
        have sm8 : ∀ k, Ca (run gcs code (n + 5)) 10 [.d rd, .d rd] k = k (.d (.bool true)) [.d rd, .d rd] := fun k => ca_same (n := n + 2) (k := k) (o := .d _) nr rfl
        have z5 : j.length + b.length ≤ 16777216 := by omega
        have z6 : j.length + b.length + t.length ≤ 16777216 := by omega
        have z7 : j.length + (b.length + t.length) ≤ 16777216 := by omega
        simp -implicitDefEqProofs [cs6, z5, z6, z7, crd2, clrd2, sm8, jle]
        exact ⟨_, rfl⟩
      · rintro e ⟨c4, y8, y9, rfl⟩
        have pl : 0 < ((sealL (bodyL d)).length : Int) := by omega
        obtain ⟨p, hp, hp2⟩ := dr_nat (ds := ds) (c := c4) (many := (sealL (bodyL d)).length) (by omega)
        have cd := fun k => ca_draw (n := n + 4) (ds := ds) (c := c4) (k := k) pl
        rw [hp] at cd
        have s7 : ∀ k, Sc (.str (S (sealL (bodyL d)))) none (some (p : Int)) k = k (.d (.str (S ((sealL (bodyL d)).take p)))) := fun k => by
          rw [sc_S (by omega), HT.sIx_none, HT.sIx_nat, Nat.min_eq_left (by omega)]
          simp
        have tl2 : ((sealL (bodyL d)).take p).length = p := by rw [List.length_take, Nat.min_eq_left (by omega)]
        have tp : min p (sealL (bodyL d)).length = p := Nat.min_eq_left (by omega)
        have crd3 := fun k => ca_read (n := n + 3) (l := j ++ (sealL (bodyL d)).take p) (a := j.length) (k := k) (by simp; omega) (by simp)
        rw [read_cut hp2 j trivial] at crd3
        have crd4 := fun k => ca_read (n := n + 3) (l := sealL (bodyL d)) (a := (sealL (bodyL d)).length) (k := k) (by omega) (Nat.le_refl _)
        rw [read_end] at crd4
        have z8 : j.length + p ≤ 16777216 := by omega
        simp -implicitDefEqProofs [cd, s7, tp, tl2, z8, z4, jle, crd3, crd4, isNoneD]
        exact ⟨_, rfl⟩
    · rintro e ⟨c, x2, x3, x4, x5, x6, x7, x8, x9, rfl⟩
      have k0 := fun k => ca_check (n := n + 4) (l := []) (k := k) (by decide)
      have k1 := fun k => ca_check (n := n + 4) (l := [97]) (k := k) (by decide)
      have k2 := fun k => ca_lcheck (n := n + 4) (l := [45, 51]) (k := k) (by decide)
      have g3 : Dd.good (.drop 3) := ⟨by decide, by decide +kernel, by decide +kernel⟩
      have k3 := fun k => ca_record (n := n + 3) (k := k) g3.ok
      have e0 : cs [] = [48, 48, 48, 49] := by decide +kernel
      have e1 : cs [97] = [48, 50, 50, 56] := by decide +kernel
      have e2 : sealL (bodyL (.drop 3)) = cs [45, 51] ++ [45, 51, 10] := by decide +kernel
      rw [e0] at k0
      rw [e1] at k1
      rw [e2] at k3
      have e3 : deedD (.drop 3) = .tuple [.str (S [100, 114, 111, 112]), .int 3] := rfl
      rw [e3] at k3
      have q1 : Str.ofString "0001" = S [48, 48, 48, 49] := by decide +kernel
      have q2 : Str.ofString "0228" = S [48, 50, 50, 56] := by decide +kernel
      have q3 : Str.ofString "-3" = S [45, 51] := by decide +kernel
      have q4 : Str.ofString "-3\n" = S [45, 51, 10] := by decide +kernel
      have q5 : Str.ofString "a" = S [97] := by decide +kernel
      have sa := fun k => ca_same (n := n + 2) (k := k) (o := .d _) ((nice_s (l := [48, 48, 48, 49]) (by unfold Asc; decide) (by decide) (k := 2)).mono (Nat.le_refl _) (by decide)) rfl
      have sb := fun k => ca_same (n := n + 2) (k := k) (o := .d _) ((nice_s (l := [48, 50, 50, 56]) (by unfold Asc; decide) (by decide) (k := 2)).mono (Nat.le_refl _) (by decide)) rfl
      have sc := fun k => ca_same (n := n + 2) (k := k) (o := .d _) ((nice_s (l := cs [45, 51] ++ [45, 51, 10]) (asc_app (asc_cs _) (by unfold Asc; decide)) (by rw [List.length_append, cs_len]; decide) (k := 2)).mono (Nat.le_refl _) (by decide)) rfl
      have cl := cs_len (l := [45, 51])
      have cz : (cs [45, 51]).length + 3 ≤ 16777216 := by omega
      simp -implicitDefEqProofs [k0, k1, k2, k3, q1, q2, q3, q4, q5, lit_e, lit_drop, sa, sb, sc, cz]
  exact ⟨outs, h⟩
theorem law_true : ∀ ns : List Int, ns.length ≤ 63 → ∃ outs, run gcs code 60 19 [.d (.list (ns.map .int))] = some (.d (.bool true), outs) := fun ns _ => ev_law 54 ns
end K92

namespace K92
open PySem PySem.Spec PyProof.Rows L2 Z
theorem all_mk {K : PySem.W.Frag} {h : Heap} {mg : Str → Option Value} {fa f0 f1 f2 f3 f4 f5 f6 f7 f8 f9 f10 f11 f12 f13 f14 f15 f16 f17 f18 f19 : Addr} (X : K.In h) (G : h.Ns mainGlobals mg) (hfa : mg "law" = some (.ref fa))
    {od0 an0 od1 an1 od2 an2 od3 an3 od4 an4 od5 an5 od6 an6 od7 an7 od8 an8 od9 an9 od10 an10 od11 an11 od12 an12 od13 an13 od14 an14 od15 an15 od16 an16 od17 an17 od18 an18 od19 an19 : Option Addr} {sl0 sl1 sl2 sl3 sl4 sl5 sl6 sl7 sl8 sl9 sl10 sl11 sl12 sl13 sl14 sl15 sl16 sl17 sl18 sl19 : Array (Option Value)} {oc0 kV0 dc0 pm0 cd0 ct0 oc1 kV1 dc1 pm1 cd1 ct1 oc2 kV2 dc2 pm2 cd2 ct2 oc3 kV3 dc3 pm3 cd3 ct3 oc4 kV4 dc4 pm4 cd4 ct4 oc5 kV5 dc5 pm5 cd5 ct5 oc6 kV6 dc6 pm6 cd6 ct6 oc7 kV7 dc7 pm7 cd7 ct7 oc8 kV8 dc8 pm8 cd8 ct8 oc9 kV9 dc9 pm9 cd9 ct9 oc10 kV10 dc10 pm10 cd10 ct10 oc11 kV11 dc11 pm11 cd11 ct11 oc12 kV12 dc12 pm12 cd12 ct12 oc13 kV13 dc13 pm13 cd13 ct13 oc14 kV14 dc14 pm14 cd14 ct14 oc15 kV15 dc15 pm15 cd15 ct15 oc16 kV16 dc16 pm16 cd16 ct16 oc17 kV17 dc17 pm17 cd17 ct17 oc18 kV18 dc18 pm18 cd18 ct18 oc19 kV19 dc19 pm19 cd19 ct19 : Value}
    (a0 : PySem.W.nsIn K mainGlobals "escaped" = some (some (.ref f0))) (l0 : K.lookup f0 = some ⟨oc0, od0, .func (PySem.W.fnOf "escaped" "escaped" (defArgs (top 3)) (defBody (top 3)) (defScope (top 3)) .none kV0 dc0 pm0 an0 cd0 ct0), sl0⟩)
    (c0 : PySem.W.codeIn K cd0 "escaped" = true) (k0 : PySem.W.keepIn K (.ref f0) = true)
    (a1 : PySem.W.nsIn K mainGlobals "plain" = some (some (.ref f1))) (l1 : K.lookup f1 = some ⟨oc1, od1, .func (PySem.W.fnOf "plain" "plain" (defArgs (top 4)) (defBody (top 4)) (defScope (top 4)) .none kV1 dc1 pm1 an1 cd1 ct1), sl1⟩)
    (c1 : PySem.W.codeIn K cd1 "plain" = true) (k1 : PySem.W.keepIn K (.ref f1) = true)
    (a2 : PySem.W.nsIn K mainGlobals "check_of" = some (some (.ref f2))) (l2 : K.lookup f2 = some ⟨oc2, od2, .func (PySem.W.fnOf "check_of" "check_of" (defArgs (top 5)) (defBody (top 5)) (defScope (top 5)) .none kV2 dc2 pm2 an2 cd2 ct2), sl2⟩)
    (c2 : PySem.W.codeIn K cd2 "check_of" = true) (k2 : PySem.W.keepIn K (.ref f2) = true)
    (a3 : PySem.W.nsIn K mainGlobals "record" = some (some (.ref f3))) (l3 : K.lookup f3 = some ⟨oc3, od3, .func (PySem.W.fnOf "record" "record" (defArgs (top 6)) (defBody (top 6)) (defScope (top 6)) .none kV3 dc3 pm3 an3 cd3 ct3), sl3⟩)
    (c3 : PySem.W.codeIn K cd3 "record" = true) (k3 : PySem.W.keepIn K (.ref f3) = true)
    (a4 : PySem.W.nsIn K mainGlobals "read_record" = some (some (.ref f4))) (l4 : K.lookup f4 = some ⟨oc4, od4, .func (PySem.W.fnOf "read_record" "read_record" (defArgs (top 7)) (defBody (top 7)) (defScope (top 7)) .none kV4 dc4 pm4 an4 cd4 ct4), sl4⟩)
    (c4 : PySem.W.codeIn K cd4 "read_record" = true) (k4 : PySem.W.keepIn K (.ref f4) = true)
    (a5 : PySem.W.nsIn K mainGlobals "appended" = some (some (.ref f5))) (l5 : K.lookup f5 = some ⟨oc5, od5, .func (PySem.W.fnOf "appended" "appended" (defArgs (top 8)) (defBody (top 8)) (defScope (top 8)) .none kV5 dc5 pm5 an5 cd5 ct5), sl5⟩)
    (c5 : PySem.W.codeIn K cd5 "appended" = true) (k5 : PySem.W.keepIn K (.ref f5) = true)
    (a6 : PySem.W.nsIn K mainGlobals "_law_cell" = some (some (.ref f6))) (l6 : K.lookup f6 = some ⟨oc6, od6, .func (PySem.W.fnOf "_law_cell" "_law_cell" (defArgs (top 10)) (defBody (top 10)) (defScope (top 10)) .none kV6 dc6 pm6 an6 cd6 ct6), sl6⟩)
    (c6 : PySem.W.codeIn K cd6 "_law_cell" = true) (k6 : PySem.W.keepIn K (.ref f6) = true)
    (a7 : PySem.W.nsIn K mainGlobals "_law_digits" = some (some (.ref f7))) (l7 : K.lookup f7 = some ⟨oc7, od7, .func (PySem.W.fnOf "_law_digits" "_law_digits" (defArgs (top 11)) (defBody (top 11)) (defScope (top 11)) .none kV7 dc7 pm7 an7 cd7 ct7), sl7⟩)
    (c7 : PySem.W.codeIn K cd7 "_law_digits" = true) (k7 : PySem.W.keepIn K (.ref f7) = true)
    (a8 : PySem.W.nsIn K mainGlobals "_law_draw" = some (some (.ref f8))) (l8 : K.lookup f8 = some ⟨oc8, od8, .func (PySem.W.fnOf "_law_draw" "_law_draw" (defArgs (top 12)) (defBody (top 12)) (defScope (top 12)) .none kV8 dc8 pm8 an8 cd8 ct8), sl8⟩)
    (c8 : PySem.W.codeIn K cd8 "_law_draw" = true) (k8 : PySem.W.keepIn K (.ref f8) = true)
    (a9 : PySem.W.nsIn K mainGlobals "_law_pick" = some (some (.ref f9))) (l9 : K.lookup f9 = some ⟨oc9, od9, .func (PySem.W.fnOf "_law_pick" "_law_pick" (defArgs (top 13)) (defBody (top 13)) (defScope (top 13)) .none kV9 dc9 pm9 an9 cd9 ct9), sl9⟩)
    (c9 : PySem.W.codeIn K cd9 "_law_pick" = true) (k9 : PySem.W.keepIn K (.ref f9) = true)
    (a10 : PySem.W.nsIn K mainGlobals "_law_same" = some (some (.ref f10))) (l10 : K.lookup f10 = some ⟨oc10, od10, .func (PySem.W.fnOf "_law_same" "_law_same" (defArgs (top 14)) (defBody (top 14)) (defScope (top 14)) .none kV10 dc10 pm10 an10 cd10 ct10), sl10⟩)
    (c10 : PySem.W.codeIn K cd10 "_law_same" = true) (k10 : PySem.W.keepIn K (.ref f10) = true)
    (a11 : PySem.W.nsIn K mainGlobals "_law_check" = some (some (.ref f11))) (l11 : K.lookup f11 = some ⟨oc11, od11, .func (PySem.W.fnOf "_law_check" "_law_check" (defArgs (top 15)) (defBody (top 15)) (defScope (top 15)) .none kV11 dc11 pm11 an11 cd11 ct11), sl11⟩)
    (c11 : PySem.W.codeIn K cd11 "_law_check" = true) (k11 : PySem.W.keepIn K (.ref f11) = true)
    (a12 : PySem.W.nsIn K mainGlobals "_law_escaped" = some (some (.ref f12))) (l12 : K.lookup f12 = some ⟨oc12, od12, .func (PySem.W.fnOf "_law_escaped" "_law_escaped" (defArgs (top 16)) (defBody (top 16)) (defScope (top 16)) .none kV12 dc12 pm12 an12 cd12 ct12), sl12⟩)
    (c12 : PySem.W.codeIn K cd12 "_law_escaped" = true) (k12 : PySem.W.keepIn K (.ref f12) = true)
    (a13 : PySem.W.nsIn K mainGlobals "_law_sealed" = some (some (.ref f13))) (l13 : K.lookup f13 = some ⟨oc13, od13, .func (PySem.W.fnOf "_law_sealed" "_law_sealed" (defArgs (top 17)) (defBody (top 17)) (defScope (top 17)) .none kV13 dc13 pm13 an13 cd13 ct13), sl13⟩)
    (c13 : PySem.W.codeIn K cd13 "_law_sealed" = true) (k13 : PySem.W.keepIn K (.ref f13) = true)
    (a14 : PySem.W.nsIn K mainGlobals "_law_record" = some (some (.ref f14))) (l14 : K.lookup f14 = some ⟨oc14, od14, .func (PySem.W.fnOf "_law_record" "_law_record" (defArgs (top 18)) (defBody (top 18)) (defScope (top 18)) .none kV14 dc14 pm14 an14 cd14 ct14), sl14⟩)
    (c14 : PySem.W.codeIn K cd14 "_law_record" = true) (k14 : PySem.W.keepIn K (.ref f14) = true)
    (a15 : PySem.W.nsIn K mainGlobals "_law_plain" = some (some (.ref f15))) (l15 : K.lookup f15 = some ⟨oc15, od15, .func (PySem.W.fnOf "_law_plain" "_law_plain" (defArgs (top 19)) (defBody (top 19)) (defScope (top 19)) .none kV15 dc15 pm15 an15 cd15 ct15), sl15⟩)
    (c15 : PySem.W.codeIn K cd15 "_law_plain" = true) (k15 : PySem.W.keepIn K (.ref f15) = true)
    (a16 : PySem.W.nsIn K mainGlobals "_law_read" = some (some (.ref f16))) (l16 : K.lookup f16 = some ⟨oc16, od16, .func (PySem.W.fnOf "_law_read" "_law_read" (defArgs (top 20)) (defBody (top 20)) (defScope (top 20)) .none kV16 dc16 pm16 an16 cd16 ct16), sl16⟩)
    (c16 : PySem.W.codeIn K cd16 "_law_read" = true) (k16 : PySem.W.keepIn K (.ref f16) = true)
    (a17 : PySem.W.nsIn K mainGlobals "_law_signs" = some (some (.ref f17))) (l17 : K.lookup f17 = some ⟨oc17, od17, .func (PySem.W.fnOf "_law_signs" "_law_signs" (defArgs (top 21)) (defBody (top 21)) (defScope (top 21)) .none kV17 dc17 pm17 an17 cd17 ct17), sl17⟩)
    (c17 : PySem.W.codeIn K cd17 "_law_signs" = true) (k17 : PySem.W.keepIn K (.ref f17) = true)
    (a18 : PySem.W.nsIn K mainGlobals "_law_spoilt" = some (some (.ref f18))) (l18 : K.lookup f18 = some ⟨oc18, od18, .func (PySem.W.fnOf "_law_spoilt" "_law_spoilt" (defArgs (top 22)) (defBody (top 22)) (defScope (top 22)) .none kV18 dc18 pm18 an18 cd18 ct18), sl18⟩)
    (c18 : PySem.W.codeIn K cd18 "_law_spoilt" = true) (k18 : PySem.W.keepIn K (.ref f18) = true)
    (a19 : PySem.W.nsIn K mainGlobals "law" = some (some (.ref f19))) (l19 : K.lookup f19 = some ⟨oc19, od19, .func (PySem.W.fnOf "law" "law" (defArgs (top 23)) (defBody (top 23)) (defScope (top 23)) .none kV19 dc19 pm19 an19 cd19 ct19), sl19⟩)
    (c19 : PySem.W.codeIn K cd19 "law" = true) (k19 : PySem.W.keepIn K (.ref f19) = true)
    (z0 : PySem.W.nsIn K mainGlobals "len" = some none) (z1 : PySem.W.nsIn K mainGlobals "list" = some none) (z2 : PySem.W.nsIn K mainGlobals "tuple" = some none) (z3 : PySem.W.nsIn K mainGlobals "any" = some none) (z4 : PySem.W.nsIn K mainGlobals "all" = some none) (z5 : PySem.W.nsIn K mainGlobals "int" = some none) (z6 : PySem.W.nsIn K mainGlobals "str" = some none) (z7 : PySem.W.nsIn K mainGlobals "repr" = some none) (z8 : PySem.W.nsIn K mainGlobals "ord" = some none) (z9 : PySem.W.nsIn K mainGlobals "isinstance" = some none) (z10 : PySem.W.nsIn K mainGlobals "range" = some none) (z11 : PySem.W.nsIn K mainGlobals "bool" = some none) (z12 : PySem.W.nsIn K mainGlobals "dict" = some none)
    {g0 : Value} (y0 : PySem.W.nsIn K mainGlobals "MOST_CHECK" = some (some g0)) (w0 : ∃ t, g0 = .int ((gcs.getD 0 ("", .none)).2 |> (fun d => match d with | .int i => i | _ => 0)) t)
    {g1 : Value} (y1 : PySem.W.nsIn K mainGlobals "FIGURES" = some (some g1)) (w1 : ∃ t, g1 = .str ((gcs.getD 1 ("", .none)).2 |> (fun d => match d with | .str i => i | _ => "")) t)
    : ∃ Dp : PgT, Dp.addr 19 = fa ∧ Dp.ps 19 = [("script" : Str)] ∧ (∀ (s : Shared) (u : Value), BindsTo s (Dp.fd 19) ⟨[u], []⟩ [("script", u)]) ∧ PgOk tb code Dp K mg := by
  have e := hfa.symm.trans (PySem.W.mg_of X G a19)
  cases e
  have F0 := fun_mk (st := top 3) l0 c0 k0
  have b0 := F0.binds (ps := prm.getD 0 []) fun _ _ _ _ _ _ us hl => match us, hl with | [_], _ => rfl
  have F1 := fun_mk (st := top 4) l1 c1 k1
  have b1 := F1.binds (ps := prm.getD 1 []) fun _ _ _ _ _ _ us hl => match us, hl with | [_], _ => rfl
  have F2 := fun_mk (st := top 5) l2 c2 k2
  have b2 := F2.binds (ps := prm.getD 2 []) fun _ _ _ _ _ _ us hl => match us, hl with | [_], _ => rfl
  have F3 := fun_mk (st := top 6) l3 c3 k3
  have b3 := F3.binds (ps := prm.getD 3 []) fun _ _ _ _ _ _ us hl => match us, hl with | [_], _ => rfl
  have F4 := fun_mk (st := top 7) l4 c4 k4
  have b4 := F4.binds (ps := prm.getD 4 []) fun _ _ _ _ _ _ us hl => match us, hl with | [_, _], _ => rfl
  have F5 := fun_mk (st := top 8) l5 c5 k5
  have b5 := F5.binds (ps := prm.getD 5 []) fun _ _ _ _ _ _ us hl => match us, hl with | [_, _, _], _ => rfl
  have F6 := fun_mk (st := top 10) l6 c6 k6
  have b6 := F6.binds (ps := prm.getD 6 []) fun _ _ _ _ _ _ us hl => match us, hl with | [_, _], _ => rfl
  have F7 := fun_mk (st := top 11) l7 c7 k7
  have b7 := F7.binds (ps := prm.getD 7 []) fun _ _ _ _ _ _ us hl => match us, hl with | [_, _, _], _ => rfl
  have F8 := fun_mk (st := top 12) l8 c8 k8
  have b8 := F8.binds (ps := prm.getD 8 []) fun _ _ _ _ _ _ us hl => match us, hl with | [_, _], _ => rfl
  have F9 := fun_mk (st := top 13) l9 c9 k9
  have b9 := F9.binds (ps := prm.getD 9 []) fun _ _ _ _ _ _ us hl => match us, hl with | [_, _], _ => rfl
  have F10 := fun_mk (st := top 14) l10 c10 k10
  have b10 := F10.binds (ps := prm.getD 10 []) fun _ _ _ _ _ _ us hl => match us, hl with | [_, _], _ => rfl
  have F11 := fun_mk (st := top 15) l11 c11 k11
  have b11 := F11.binds (ps := prm.getD 11 []) fun _ _ _ _ _ _ us hl => match us, hl with | [_], _ => rfl
  have F12 := fun_mk (st := top 16) l12 c12 k12
  have b12 := F12.binds (ps := prm.getD 12 []) fun _ _ _ _ _ _ us hl => match us, hl with | [_], _ => rfl
  have F13 := fun_mk (st := top 17) l13 c13 k13
  have b13 := F13.binds (ps := prm.getD 13 []) fun _ _ _ _ _ _ us hl => match us, hl with | [_], _ => rfl
  have F14 := fun_mk (st := top 18) l14 c14 k14
  have b14 := F14.binds (ps := prm.getD 14 []) fun _ _ _ _ _ _ us hl => match us, hl with | [_], _ => rfl
  have F15 := fun_mk (st := top 19) l15 c15 k15
  have b15 := F15.binds (ps := prm.getD 15 []) fun _ _ _ _ _ _ us hl => match us, hl with | [_], _ => rfl
  have F16 := fun_mk (st := top 20) l16 c16 k16
  have b16 := F16.binds (ps := prm.getD 16 []) fun _ _ _ _ _ _ us hl => match us, hl with | [_, _], _ => rfl
  have F17 := fun_mk (st := top 21) l17 c17 k17
  have b17 := F17.binds (ps := prm.getD 17 []) fun _ _ _ _ _ _ us hl => match us, hl with | [_], _ => rfl
  have F18 := fun_mk (st := top 22) l18 c18 k18
  have b18 := F18.binds (ps := prm.getD 18 []) fun _ _ _ _ _ _ us hl => match us, hl with | [_, _], _ => rfl
  have F19 := fun_mk (st := top 23) l19 c19 k19
  have b19 := F19.binds (ps := prm.getD 19 []) fun _ _ _ _ _ _ us hl => match us, hl with | [_], _ => rfl
  refine ⟨⟨fun j => [f0, f1, f2, f3, f4, f5, f6, f7, f8, f9, f10, f11, f12, f13, f14, f15, f16, f17, f18, fa].getD j 0, fun j => [PySem.W.fnOf "escaped" "escaped" (defArgs (top 3)) (defBody (top 3)) (defScope (top 3)) .none kV0 dc0 pm0 an0 cd0 ct0, PySem.W.fnOf "plain" "plain" (defArgs (top 4)) (defBody (top 4)) (defScope (top 4)) .none kV1 dc1 pm1 an1 cd1 ct1, PySem.W.fnOf "check_of" "check_of" (defArgs (top 5)) (defBody (top 5)) (defScope (top 5)) .none kV2 dc2 pm2 an2 cd2 ct2, PySem.W.fnOf "record" "record" (defArgs (top 6)) (defBody (top 6)) (defScope (top 6)) .none kV3 dc3 pm3 an3 cd3 ct3, PySem.W.fnOf "read_record" "read_record" (defArgs (top 7)) (defBody (top 7)) (defScope (top 7)) .none kV4 dc4 pm4 an4 cd4 ct4, PySem.W.fnOf "appended" "appended" (defArgs (top 8)) (defBody (top 8)) (defScope (top 8)) .none kV5 dc5 pm5 an5 cd5 ct5, PySem.W.fnOf "_law_cell" "_law_cell" (defArgs (top 10)) (defBody (top 10)) (defScope (top 10)) .none kV6 dc6 pm6 an6 cd6 ct6, PySem.W.fnOf "_law_digits" "_law_digits" (defArgs (top 11)) (defBody (top 11)) (defScope (top 11)) .none kV7 dc7 pm7 an7 cd7 ct7, PySem.W.fnOf "_law_draw" "_law_draw" (defArgs (top 12)) (defBody (top 12)) (defScope (top 12)) .none kV8 dc8 pm8 an8 cd8 ct8, PySem.W.fnOf "_law_pick" "_law_pick" (defArgs (top 13)) (defBody (top 13)) (defScope (top 13)) .none kV9 dc9 pm9 an9 cd9 ct9, PySem.W.fnOf "_law_same" "_law_same" (defArgs (top 14)) (defBody (top 14)) (defScope (top 14)) .none kV10 dc10 pm10 an10 cd10 ct10, PySem.W.fnOf "_law_check" "_law_check" (defArgs (top 15)) (defBody (top 15)) (defScope (top 15)) .none kV11 dc11 pm11 an11 cd11 ct11, PySem.W.fnOf "_law_escaped" "_law_escaped" (defArgs (top 16)) (defBody (top 16)) (defScope (top 16)) .none kV12 dc12 pm12 an12 cd12 ct12, PySem.W.fnOf "_law_sealed" "_law_sealed" (defArgs (top 17)) (defBody (top 17)) (defScope (top 17)) .none kV13 dc13 pm13 an13 cd13 ct13, PySem.W.fnOf "_law_record" "_law_record" (defArgs (top 18)) (defBody (top 18)) (defScope (top 18)) .none kV14 dc14 pm14 an14 cd14 ct14, PySem.W.fnOf "_law_plain" "_law_plain" (defArgs (top 19)) (defBody (top 19)) (defScope (top 19)) .none kV15 dc15 pm15 an15 cd15 ct15, PySem.W.fnOf "_law_read" "_law_read" (defArgs (top 20)) (defBody (top 20)) (defScope (top 20)) .none kV16 dc16 pm16 an16 cd16 ct16, PySem.W.fnOf "_law_signs" "_law_signs" (defArgs (top 21)) (defBody (top 21)) (defScope (top 21)) .none kV17 dc17 pm17 an17 cd17 ct17, PySem.W.fnOf "_law_spoilt" "_law_spoilt" (defArgs (top 22)) (defBody (top 22)) (defScope (top 22)) .none kV18 dc18 pm18 an18 cd18 ct18, PySem.W.fnOf "law" "law" (defArgs (top 23)) (defBody (top 23)) (defScope (top 23)) .none kV19 dc19 pm19 an19 cd19 ct19].getD j (PySem.W.fnOf "law" "law" (defArgs (top 23)) (defBody (top 23)) (defScope (top 23)) .none kV19 dc19 pm19 an19 cd19 ct19), fun j => nms.getD j [], fun j => prm.getD j [], fun j => sts.getD j (.Pass ⟨0, 0, 0, 0⟩)⟩, rfl, rfl, fun s v => .of_eq rfl, ⟨?_, ?_, ?_, ?_, ?_⟩⟩
  · intro f x hx
    match f, hx with
    | 0, hx => cases (show some ("escaped" : Str) = some x from hx); exact ⟨PySem.W.mg_of X G a0, k0⟩
    | 1, hx => cases (show some ("plain" : Str) = some x from hx); exact ⟨PySem.W.mg_of X G a1, k1⟩
    | 2, hx => cases (show some ("check_of" : Str) = some x from hx); exact ⟨PySem.W.mg_of X G a2, k2⟩
    | 3, hx => cases (show some ("record" : Str) = some x from hx); exact ⟨PySem.W.mg_of X G a3, k3⟩
    | 4, hx => cases (show some ("read_record" : Str) = some x from hx); exact ⟨PySem.W.mg_of X G a4, k4⟩
    | 5, hx => cases (show some ("appended" : Str) = some x from hx); exact ⟨PySem.W.mg_of X G a5, k5⟩
    | 6, hx => cases (show some ("_law_cell" : Str) = some x from hx); exact ⟨PySem.W.mg_of X G a6, k6⟩
    | 7, hx => cases (show some ("_law_digits" : Str) = some x from hx); exact ⟨PySem.W.mg_of X G a7, k7⟩
    | 8, hx => cases (show some ("_law_draw" : Str) = some x from hx); exact ⟨PySem.W.mg_of X G a8, k8⟩
    | 9, hx => cases (show some ("_law_pick" : Str) = some x from hx); exact ⟨PySem.W.mg_of X G a9, k9⟩
    | 10, hx => cases (show some ("_law_same" : Str) = some x from hx); exact ⟨PySem.W.mg_of X G a10, k10⟩
    | 11, hx => cases (show some ("_law_check" : Str) = some x from hx); exact ⟨PySem.W.mg_of X G a11, k11⟩
    | 12, hx => cases (show some ("_law_escaped" : Str) = some x from hx); exact ⟨PySem.W.mg_of X G a12, k12⟩
    | 13, hx => cases (show some ("_law_sealed" : Str) = some x from hx); exact ⟨PySem.W.mg_of X G a13, k13⟩
    | 14, hx => cases (show some ("_law_record" : Str) = some x from hx); exact ⟨PySem.W.mg_of X G a14, k14⟩
    | 15, hx => cases (show some ("_law_plain" : Str) = some x from hx); exact ⟨PySem.W.mg_of X G a15, k15⟩
    | 16, hx => cases (show some ("_law_read" : Str) = some x from hx); exact ⟨PySem.W.mg_of X G a16, k16⟩
    | 17, hx => cases (show some ("_law_signs" : Str) = some x from hx); exact ⟨PySem.W.mg_of X G a17, k17⟩
    | 18, hx => cases (show some ("_law_spoilt" : Str) = some x from hx); exact ⟨PySem.W.mg_of X G a18, k18⟩
    | 19, hx => cases (show some ("law" : Str) = some x from hx); exact ⟨PySem.W.mg_of X G a19, k19⟩
    | j + 20, hx => cases (show none = some x from hx)
  · intro f fd hx
    match f, hx with
    | 0, hx => cases (show some c_escaped = some fd from hx); exact ⟨_, _, F0, s_0, b0, rfl, rfl, fun h => (nomatch h)⟩
    | 1, hx => cases (show some c_plain = some fd from hx); exact ⟨_, _, F1, s_1, b1, rfl, rfl, fun _ => m_1⟩
    | 2, hx => cases (show some c_check_of = some fd from hx); exact ⟨_, _, F2, s_2, b2, rfl, rfl, fun _ => m_2⟩
    | 3, hx => cases (show some c_record = some fd from hx); exact ⟨_, _, F3, s_3, b3, rfl, rfl, fun _ => m_3⟩
    | 4, hx => cases (show some c_read_record = some fd from hx); exact ⟨_, _, F4, s_4, b4, rfl, rfl, fun _ => m_4⟩
    | 5, hx => cases (show some c_appended = some fd from hx); exact ⟨_, _, F5, s_5, b5, rfl, rfl, fun _ => m_5⟩
    | 6, hx => cases (show some c__law_cell = some fd from hx); exact ⟨_, _, F6, s_6, b6, rfl, rfl, fun _ => m_6⟩
    | 7, hx => cases (show some c__law_digits = some fd from hx); exact ⟨_, _, F7, s_7, b7, rfl, rfl, fun _ => m_7⟩
    | 8, hx => cases (show some c__law_draw = some fd from hx); exact ⟨_, _, F8, s_8, b8, rfl, rfl, fun _ => m_8⟩
    | 9, hx => cases (show some c__law_pick = some fd from hx); exact ⟨_, _, F9, s_9, b9, rfl, rfl, fun _ => m_9⟩
    | 10, hx => cases (show some c__law_same = some fd from hx); exact ⟨_, _, F10, s_10, b10, rfl, rfl, fun _ => m_10⟩
    | 11, hx => cases (show some c__law_check = some fd from hx); exact ⟨_, _, F11, s_11, b11, rfl, rfl, fun _ => m_11⟩
    | 12, hx => cases (show some c__law_escaped = some fd from hx); exact ⟨_, _, F12, s_12, b12, rfl, rfl, fun _ => m_12⟩
    | 13, hx => cases (show some c__law_sealed = some fd from hx); exact ⟨_, _, F13, s_13, b13, rfl, rfl, fun _ => m_13⟩
    | 14, hx => cases (show some c__law_record = some fd from hx); exact ⟨_, _, F14, s_14, b14, rfl, rfl, fun _ => m_14⟩
    | 15, hx => cases (show some c__law_plain = some fd from hx); exact ⟨_, _, F15, s_15, b15, rfl, rfl, fun _ => m_15⟩
    | 16, hx => cases (show some c__law_read = some fd from hx); exact ⟨_, _, F16, s_16, b16, rfl, rfl, fun _ => m_16⟩
    | 17, hx => cases (show some c__law_signs = some fd from hx); exact ⟨_, _, F17, s_17, b17, rfl, rfl, fun _ => m_17⟩
    | 18, hx => cases (show some c__law_spoilt = some fd from hx); exact ⟨_, _, F18, s_18, b18, rfl, rfl, fun _ => m_18⟩
    | 19, hx => cases (show some c_law = some fd from hx); exact ⟨_, _, F19, s_19, b19, rfl, rfl, fun _ => m_19⟩
    | j + 20, hx => cases (show none = some fd from hx)
  · intro f fd g hx hg
    match f, hx with
    | 0, hx => cases (show some c_escaped = some fd from hx); cases hg; exact fun P w base n ih => ok_escaped F0 rfl rfl rfl ih
    | 1, hx => cases (show some c_plain = some fd from hx); cases hg
    | 2, hx => cases (show some c_check_of = some fd from hx); cases hg
    | 3, hx => cases (show some c_record = some fd from hx); cases hg
    | 4, hx => cases (show some c_read_record = some fd from hx); cases hg
    | 5, hx => cases (show some c_appended = some fd from hx); cases hg
    | 6, hx => cases (show some c__law_cell = some fd from hx); cases hg
    | 7, hx => cases (show some c__law_digits = some fd from hx); cases hg
    | 8, hx => cases (show some c__law_draw = some fd from hx); cases hg
    | 9, hx => cases (show some c__law_pick = some fd from hx); cases hg
    | 10, hx => cases (show some c__law_same = some fd from hx); cases hg
    | 11, hx => cases (show some c__law_check = some fd from hx); cases hg
    | 12, hx => cases (show some c__law_escaped = some fd from hx); cases hg
    | 13, hx => cases (show some c__law_sealed = some fd from hx); cases hg
    | 14, hx => cases (show some c__law_record = some fd from hx); cases hg
    | 15, hx => cases (show some c__law_plain = some fd from hx); cases hg
    | 16, hx => cases (show some c__law_read = some fd from hx); cases hg
    | 17, hx => cases (show some c__law_signs = some fd from hx); cases hg
    | 18, hx => cases (show some c__law_spoilt = some fd from hx); cases hg
    | 19, hx => cases (show some c_law = some fd from hx); cases hg
    | j + 20, hx => cases (show none = some fd from hx)
  · intro x hx
    have hx : x ∈ (["len", "list", "tuple", "any", "all", "int", "str", "repr", "ord", "isinstance", "range", "bool", "dict"] : List Str) := hx
    simp only [List.mem_cons, List.not_mem_nil, or_false] at hx
    rcases hx with rfl | rfl | rfl | rfl | rfl | rfl | rfl | rfl | rfl | rfl | rfl | rfl | rfl
    · exact PySem.W.mg_none_of X G z0
    · exact PySem.W.mg_none_of X G z1
    · exact PySem.W.mg_none_of X G z2
    · exact PySem.W.mg_none_of X G z3
    · exact PySem.W.mg_none_of X G z4
    · exact PySem.W.mg_none_of X G z5
    · exact PySem.W.mg_none_of X G z6
    · exact PySem.W.mg_none_of X G z7
    · exact PySem.W.mg_none_of X G z8
    · exact PySem.W.mg_none_of X G z9
    · exact PySem.W.mg_none_of X G z10
    · exact PySem.W.mg_none_of X G z11
    · exact PySem.W.mg_none_of X G z12
  · intro k p hp
    match k, hp with
    | 0, hp =>
      cases (show some _ = some p from hp)
      obtain ⟨t, rfl⟩ := w0
      exact ⟨_, .int _, PySem.W.mg_of X G y0, ⟨t, rfl⟩, fun G => .int _⟩
    | 1, hp =>
      cases (show some _ = some p from hp)
      obtain ⟨t, rfl⟩ := w1
      exact ⟨_, .str _, PySem.W.mg_of X G y1, ⟨t, rfl⟩, fun G => .str _⟩
    | j + 2, hp => cases (show none = some p from hp)
end K92
open PySem PySem.W PyProof.Rows in
set_option maxRecDepth 100000 in
set_option maxHeartbeats 0 in
theorem PySem.Challenge.cw_turnwise_k92_records_as_lines_holds : PySem.Challenge.rw_turnwise_k92_records_as_lines.Holds := by
  w_on; o_law; k_head; (case hw => w_witness2)
  k_fill
  refine Z.walkZ (l := PySem.Challenge.rw_turnwise_k92_records_as_lines) (m := 63) (n := 60) (f := 19) (x := "script") (T := K92.tb) (code := K92.code) rfl (by decide) rfl ⟨rfl, by decide, by decide⟩ (fun w h Y => PySem.W.kIn_of Y) ?F K92.law_true
  case F =>
    intro w mg fa h KX G hmg
    refine' K92.all_mk KX G hmg ?a0 ?l0 ?c0 ?k0 ?a1 ?l1 ?c1 ?k1 ?a2 ?l2 ?c2 ?k2 ?a3 ?l3 ?c3 ?k3 ?a4 ?l4 ?c4 ?k4 ?a5 ?l5 ?c5 ?k5 ?a6 ?l6 ?c6 ?k6 ?a7 ?l7 ?c7 ?k7 ?a8 ?l8 ?c8 ?k8 ?a9 ?l9 ?c9 ?k9 ?a10 ?l10 ?c10 ?k10 ?a11 ?l11 ?c11 ?k11 ?a12 ?l12 ?c12 ?k12 ?a13 ?l13 ?c13 ?k13 ?a14 ?l14 ?c14 ?k14 ?a15 ?l15 ?c15 ?k15 ?a16 ?l16 ?c16 ?k16 ?a17 ?l17 ?c17 ?k17 ?a18 ?l18 ?c18 ?k18 ?a19 ?l19 ?c19 ?k19 ?z0 ?z1 ?z2 ?z3 ?z4 ?z5 ?z6 ?z7 ?z8 ?z9 ?z10 ?z11 ?z12 ?y0 ?w0 ?y1 ?w1
    (case a0 => k_is)
    (case l0 => k_is)
    (case c0 => k_is)
    (case k0 => k_is)
    (case a1 => k_is)
    (case l1 => k_is)
    (case c1 => k_is)
    (case k1 => k_is)
    (case a2 => k_is)
    (case l2 => k_is)
    (case c2 => k_is)
    (case k2 => k_is)
    (case a3 => k_is)
    (case l3 => k_is)
    (case c3 => k_is)
    (case k3 => k_is)
    (case a4 => k_is)
    (case l4 => k_is)
    (case c4 => k_is)
    (case k4 => k_is)
    (case a5 => k_is)
    (case l5 => k_is)
    (case c5 => k_is)
    (case k5 => k_is)
    (case a6 => k_is)
    (case l6 => k_is)
    (case c6 => k_is)
    (case k6 => k_is)
    (case a7 => k_is)
    (case l7 => k_is)
    (case c7 => k_is)
    (case k7 => k_is)
    (case a8 => k_is)
    (case l8 => k_is)
    (case c8 => k_is)
    (case k8 => k_is)
    (case a9 => k_is)
    (case l9 => k_is)
    (case c9 => k_is)
    (case k9 => k_is)
    (case a10 => k_is)
    (case l10 => k_is)
    (case c10 => k_is)
    (case k10 => k_is)
    (case a11 => k_is)
    (case l11 => k_is)
    (case c11 => k_is)
    (case k11 => k_is)
    (case a12 => k_is)
    (case l12 => k_is)
    (case c12 => k_is)
    (case k12 => k_is)
    (case a13 => k_is)
    (case l13 => k_is)
    (case c13 => k_is)
    (case k13 => k_is)
    (case a14 => k_is)
    (case l14 => k_is)
    (case c14 => k_is)
    (case k14 => k_is)
    (case a15 => k_is)
    (case l15 => k_is)
    (case c15 => k_is)
    (case k15 => k_is)
    (case a16 => k_is)
    (case l16 => k_is)
    (case c16 => k_is)
    (case k16 => k_is)
    (case a17 => k_is)
    (case l17 => k_is)
    (case c17 => k_is)
    (case k17 => k_is)
    (case a18 => k_is)
    (case l18 => k_is)
    (case c18 => k_is)
    (case k18 => k_is)
    (case a19 => k_is)
    (case l19 => k_is)
    (case c19 => k_is)
    (case k19 => k_is)
    (case z0 => k_is)
    (case z1 => k_is)
    (case z2 => k_is)
    (case z3 => k_is)
    (case z4 => k_is)
    (case z5 => k_is)
    (case z6 => k_is)
    (case z7 => k_is)
    (case z8 => k_is)
    (case z9 => k_is)
    (case z10 => k_is)
    (case z11 => k_is)
    (case z12 => k_is)
    (case y0 => k_is)
    (case w0 => exact ⟨_, rfl⟩)
    (case y1 => k_is)
    (case w1 => exact ⟨_, rfl⟩)
#print axioms PySem.Challenge.cw_turnwise_k92_records_as_lines_holds

