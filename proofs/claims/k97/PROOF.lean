import PyProof.Rows.All
import Wide.All
import OpenK.AllK
import Wide.FinOn
import HandS.ForMost
import PyProof.Rows.StrIntSpec
import HandS.Replace
import HandS.ReplaceDef
import HandS.ReplaceLit
import HandS.ReplaceList
import HandS.Deep
import HandS.Conv
import HandS.FStr
import HandS.Style
import HandS.IsInst
import HandS.More
import HandS.RaiseMore
import HandS.Exc
import HandS.TryOnly
import HandS.ExcInit
import HandS.ExcField
import HandS.ExcIs
import KE.KExcSuper
import KE.KExcIs
import PyProof.ReprRoads
import HandS.WordsExc
import KE.IntTextLaws
import PySem.Challenge.RW_turnwise_k97_orders_read_and_written
set_option Elab.async false
set_option linter.all false
set_option maxRecDepth 100000
set_option maxHeartbeats 8000000
/-! Y1: plain data over the abstract heap, owned lists, the core language and what it is worth. -/
namespace Y
open PySem PySem.Spec PyProof.Rows L2
abbrev D := PyData

/-! ### what stands for a datum -/
def keyD : Key → D
  | .inl i => .int i
  | .inr x => .str x
mutual
inductive Rp (K : PySem.W.Frag) (G : Hp) : V → D → Prop
  | non : Rp K G .non .none
  | bl (b : Bool) : Rp K G (.bl b) (.bool b)
  | int (i : Int) : Rp K G (.int i) (.int i)
  | str (x : Str) : Rp K G (.str x) (.str x)
  | lst {a : Addr} {xs : List V} {ds : List D} : SqL K G a xs → RpA K G xs ds → Rp K G (.ref a) (.list ds)
  | tup {a : Addr} {xs : List V} {ds : List D} : SqT K G a xs → RpA K G xs ds → Rp K G (.ref a) (.tuple ds)
  | dct {a : Addr} {kvs : List (Key × V)} {ds : List (D × D)} : Rd G a (.dK kvs) → RpK K G kvs ds → Rp K G (.ref a) (.dict ds)
inductive RpA (K : PySem.W.Frag) (G : Hp) : List V → List D → Prop
  | nil : RpA K G [] []
  | cons {v : V} {vs : List V} {d : D} {ds : List D} : Rp K G v d → RpA K G vs ds → RpA K G (v :: vs) (d :: ds)
inductive RpK (K : PySem.W.Frag) (G : Hp) : List (Key × V) → List (D × D) → Prop
  | nil : RpK K G [] []
  | cons {k : Key} {v : V} {r : List (Key × V)} {d : D} {ds : List (D × D)} : Rp K G v d → RpK K G r ds → RpK K G ((k, v) :: r) ((keyD k, d) :: ds)
end
theorem Same.sqt {K : PySem.W.Frag} {H H' : Hp} {a : Addr} {xs : List V} (e : Same H H') (h : SqT K H a xs) : SqT K H' a xs := by
  rcases h with (h | ⟨o, h⟩) | h
  · exact .inl (.inl (e _ _ h))
  · exact .inl (.inr ⟨o, e _ _ h⟩)
  · exact .inr h
theorem Same.rd {H H' : Hp} {a : Addr} {u : HO} (e : Same H H') (h : Rd H a u) : Rd H' a u := by
  rcases h with h | ⟨o, h⟩
  · exact .inl (e _ _ h)
  · exact .inr ⟨o, e _ _ h⟩
section
variable {K : PySem.W.Frag} {G G' : Hp}
mutual
theorem Rp.mono (e : Same G G') : ∀ (d : D) (v : V), Rp K G v d → Rp K G' v d
  | .none, _, h => by cases h; exact .non
  | .bool b, _, h => by cases h; exact .bl b
  | .int i, _, h => by cases h; exact .int i
  | .str x, _, h => by cases h; exact .str x
  | .list ds, _, h => by
    cases h with
    | lst a b => exact .lst (e.seq a) (RpA.mono e ds _ b)
  | .tuple ds, _, h => by
    cases h with
    | tup a b => exact .tup (Y.Same.sqt e a) (RpA.mono e ds _ b)
  | .dict ds, _, h => by
    cases h with
    | dct a b => exact .dct (Y.Same.rd e a) (RpK.mono e ds _ b)
theorem RpA.mono (e : Same G G') : ∀ (ds : List D) (vs : List V), RpA K G vs ds → RpA K G' vs ds
  | [], _, h => by cases h; exact .nil
  | d :: ds, _, h => by
    cases h with
    | cons a b => exact .cons (Rp.mono e d _ a) (RpA.mono e ds _ b)
theorem RpK.mono (e : Same G G') : ∀ (ds : List (D × D)) (vs : List (Key × V)), RpK K G vs ds → RpK K G' vs ds
  | [], _, h => by cases h; exact .nil
  | (c, d) :: ds, _, h => by
    cases h with
    | cons a b => exact .cons (Rp.mono e d _ a) (RpK.mono e ds _ b)
end
mutual
theorem Rp.dp : ∀ (d : D) (v : V), Rp K G v d → d.canLay0 = true → Dp K G v d
  | .none, _, h, _ => by cases h; exact .non
  | .bool b, _, h, _ => by cases h; exact .bl b
  | .int i, _, h, _ => by cases h; exact .int i
  | .str x, _, h, _ => by cases h; exact .str x
  | .list ds, _, h, c => by
    cases h with
    | lst a b => exact .lst a (RpA.dp ds _ b (by simpa [PyData.canLay0] using c))
  | .tuple ds, _, h, c => by
    cases h with
    | tup a b => exact .tup a (RpA.dp ds _ b (by simpa [PyData.canLay0] using c))
  | .dict ds, _, h, c => by simp [PyData.canLay0] at c
theorem RpA.dp : ∀ (ds : List D) (vs : List V), RpA K G vs ds → PyData.canLayAll0 ds = true → DpAll K G vs ds
  | [], _, h, _ => by cases h; exact .nil
  | d :: ds, _, h, c => by
    cases h with
    | cons a b =>
      have c' : d.canLay0 = true ∧ PyData.canLayAll0 ds = true := by simpa [PyData.canLayAll0] using c
      exact .cons (Rp.dp d _ a c'.1) (RpA.dp ds _ b c'.2)
end
theorem RpA.len : ∀ {vs : List V} {ds : List D}, RpA K G vs ds → vs.length = ds.length
  | _, _, .nil => rfl
  | _, _, .cons _ b => congrArg (· + 1) (RpA.len b)
theorem RpA.get : ∀ {vs : List V} {ds : List D} {i : Nat} {d : D}, RpA K G vs ds → ds[i]? = some d → ∃ v, vs[i]? = some v ∧ Rp K G v d
  | _, _, i, d, .nil, e => by simp at e
  | _, _, 0, d, .cons a _, e => by simp at e; subst e; exact ⟨_, rfl, a⟩
  | _, _, i + 1, d, .cons _ b, e => by
    obtain ⟨v, h1, h2⟩ := RpA.get (i := i) b (by simpa using e)
    exact ⟨v, by simpa using h1, h2⟩
theorem RpA.getV : ∀ {vs : List V} {ds : List D} {i : Nat} {v : V}, RpA K G vs ds → vs[i]? = some v → ∃ d, ds[i]? = some d ∧ Rp K G v d
  | _, _, i, d, .nil, e => by simp at e
  | _, _, 0, d, .cons a _, e => by simp at e; subst e; exact ⟨_, rfl, a⟩
  | _, _, i + 1, d, .cons _ b, e => by
    obtain ⟨v, h1, h2⟩ := RpA.getV (i := i) b (by simpa using e)
    exact ⟨v, by simpa using h1, h2⟩
theorem RpA.app : ∀ {vs ws : List V} {ds es : List D}, RpA K G vs ds → RpA K G ws es → RpA K G (vs ++ ws) (ds ++ es)
  | _, _, _, _, .nil, h => h
  | _, _, _, _, .cons a b, h => .cons a (RpA.app b h)
theorem RpA.snoc {vs : List V} {v : V} {ds : List D} {d : D} (h : RpA K G vs ds) (r : Rp K G v d) : RpA K G (vs ++ [v]) (ds ++ [d]) := h.app (.cons r .nil)
theorem RpA.set : ∀ {vs : List V} {ds : List D} (i : Nat) {v : V} {d : D}, RpA K G vs ds → Rp K G v d → RpA K G (vs.set i v) (ds.set i d)
  | _, _, _, _, _, .nil, _ => .nil
  | _, _, 0, _, _, .cons _ b, r => .cons r b
  | _, _, i + 1, _, _, .cons a b, r => .cons a (RpA.set i b r)
theorem RpA.take : ∀ {vs : List V} {ds : List D} (n : Nat), RpA K G vs ds → RpA K G (vs.take n) (ds.take n)
  | _, _, 0, _ => .nil
  | _, _, _ + 1, .nil => .nil
  | _, _, n + 1, .cons a b => .cons a (RpA.take n b)
theorem RpA.drop : ∀ {vs : List V} {ds : List D} (n : Nat), RpA K G vs ds → RpA K G (vs.drop n) (ds.drop n)
  | _, _, 0, h => h
  | _, _, _ + 1, .nil => .nil
  | _, _, n + 1, .cons a b => RpA.drop n b
theorem Same.new {H : Hp} {p : Addr} {o : HO} (h : H p = none) : Same H (upd H p o) := fun b x e => by
  rw [upd_ne (ne_of_none e h)]
  exact e
end
end Y

/-! Y2: the core language, what it is worth, and its match with the given text. -/
namespace Y
open PySem PySem.Spec PyProof.Rows L2

/-- what a slot holds: a datum; a list, a dict that this slot alone has; an object of an own class, its attributes in a fixed order -/
inductive O where
  | d (x : D)
  | ol (xs : List D)
  | od (kvs : List (D × D))
  | ob (c : Nat) (fs : List O)
  /-- an attribute that is not there yet -/
  | un
  /-- not to be looked at for now -/
  | hid
def O.dat : O → Option D
  | .d x => some x
  | .ol xs => some (.list xs)
  | .od kvs => some (.dict kvs)
  | _ => none
abbrev Sl := List (Option O)
/-- what an expression comes to: a slot's thing, an own attribute of the object in a slot, or a new one -/
inductive AV where
  | pl (i : Nat)
  | pf (i c k : Nat)
  | tm (o : O)
/-- an exception: its class, its attributes -/
structure Ex where
  c : Nat
  fs : List D
inductive R (α : Type) where
  | ok (a : α) (e : Sl)
  | exc (x : Ex) (e : Sl)
  | bad
@[inline] def R.bind {α β : Type} (r : R α) (f : α → Sl → R β) : R β := match r with
  | .ok a e => f a e
  | .exc x e => .exc x e
  | .bad => .bad
def R.of {α : Type} (o : Option α) (e : Sl) : R α := match o with
  | some a => .ok a e
  | none => .bad
/-- where nothing may be raised -/
def R.nox {α : Type} (r : R α) : R α := match r with
  | .ok a e => .ok a e
  | _ => .bad
/-- what a call comes to -/
inductive Rs where
  | v (o : O)
  | x (x : Ex)

inductive BOp where | add | sub | mul | fdiv | mod | pow
inductive COp where | eq | ne | lt | le | gt | ge | inn | nin
inductive Ty where | str | int | bool | list | tuple | dict
inductive Bi where | len | list | tuple | any | all | int | str | repr | ord
inductive Me where | join | split | replace | index
inductive CT where
  | nm (i : Nat)
  | tp (is : List Nat)
mutual
inductive CE where
  | non | bl (b : Bool) | int (i : Int) | str (s : Str)
  | v (i : Nat)
  | fld (i c k : Nat)
  | gl (k : Nat)
  | bin (o : BOp) (a b : CE)
  | neg (a : CE)
  | cmp (o : COp) (a b : CE)
  | chn (o o' : COp) (a b c : CE)
  | isN (a : CE) | notN (a : CE) | isB (a : CE) (b : Bool)
  | and (a b : CE) | or (a b : CE) | not (a : CE)
  | ifx (t a b : CE)
  | tup (es : CEs) | lst (es : CEs)
  | ix (a i : CE)
  | sl (a : CE) (lo hi : CP)
  | call (f : Nat) (es : CEs)
  | bi (b : Bi) (a : CE)
  | isi (a : CE) (t : Ty)
  | lr1 (a : CE)
  | me (m : Me) (a b : CE)
  | lix (a b : CE)
  | lc (ws : List Nat) (t : CT) (it : CI) (ifs : CP) (el : CE)
  | fs (es : CEs)
  | fv (a : CE)
  | fz (a : CE) (n : Nat)
  | bad
inductive CP where
  | no
  | yes (a : CE)
inductive CEs where
  | nil
  | cons (a : CE) (es : CEs)
inductive CI where
  | e (a : CE)
  | r1 (a : CE)
  | r2 (a b : CE)
  | en (a : CE)
end
/-- what a handler gives back -/
inductive HX where
  | d (x : D)
  | fld (c k : Nat)
  | tup (a b : HX)
  | isi (cs : List Nat) (nm : Str) (a b : HX)
def HX.ev (x : Ex) : HX → Option D
  | .d y => some y
  | .fld c k => if x.c = c then x.fs[k]? else none
  | .tup a b => match a.ev x, b.ev x with
    | some p, some q => some (.tuple [p, q])
    | _, _ => none
  | .isi cs _ a b => if x.c ∈ cs then a.ev x else b.ev x
mutual
inductive CS where
  | asg (i : Nat) (a : CE)
  | asgT (is : List Nat) (es : CEs)
  | unp (is : List Nat) (a : CE)
  | ex (a : CE)
  | app (i : Nat) (a : CE)
  | ins (i : Nat) (k a : CE)
  | rse (c : Nat) (es : CEs)
  | tryR (b : CSs) (cs : List Nat) (nm : Str) (i : Option Nat) (h : HX)
  | sti (i : Nat) (ix a : CE)
  | aug (i : Nat) (o : BOp) (a : CE)
  | ret (a : CE) | retN
  | ifs (t : CE) (a b : CSs)
  | for (t : CT) (it : CI) (b : CSs)
  | whl (t : CE) (b : CSs)
  | brk | cnt | pass
  | bad
inductive CSs where
  | nil
  | cons (a : CS) (r : CSs)
end

/-! ### operations on data -/
def sizeOk (n : Nat) : Bool := decide (n ≤ sizeLine)
def binD : BOp → D → D → Option O
  | .add, .int i, .int j => some (.d (.int (i + j)))
  | .add, .str x, .str y => if x.length + y.length ≤ sizeLine then some (.d (.str (x ++ y))) else none
  | .add, .list xs, .list ys => if xs.length + ys.length ≤ sizeLine then some (.ol (xs ++ ys)) else none
  | .sub, .int i, .int j => some (.d (.int (i - j)))
  | .mul, .int i, .int j => if (-(2 ^ 64) < i ∧ i < 2 ^ 64) ∨ (-(2 ^ 64) < j ∧ j < 2 ^ 64) then some (.d (.int (i * j))) else none
  | .fdiv, .int i, .int j => if 0 < j ∧ j < 1073741824 then some (.d (.int (i / j))) else none
  | .mod, .int i, .int j => if 0 < j then some (.d (.int (i % j))) else none
  | .pow, .int i, .int j => if 0 ≤ j ∧ j ≤ 1000000 ∧ i.natAbs < 2 ^ 64 then some (.d (.int (i ^ j.toNat))) else none
  | _, _, _ => none
def augD : BOp → D → D → Option D
  | .add, .int i, .int j => some (.int (i + j))
  | .add, .str x, .str y => if x.length + y.length ≤ sizeLine then some (.str (x ++ y)) else none
  | .sub, .int i, .int j => some (.int (i - j))
  | _, _, _ => none
/-- data that may be compared at any depth -/
def eqOk (a b : D) : Bool := PySem.SeqAt.shaped a && PySem.SeqAt.shaped b
def eqD : D → D → Option Bool
  | .int i, .int j => some (decide (i = j))
  | .str x, .str y => some (decide (x = y))
  | .bool a, .bool b => some (decide (a = b))
  | a, b => if eqOk a b then some (PyData.eqv a b) else none
/-- is a text within another one: one sign alone -/
def signIn (x y : Str) : Option Bool := match x.cps.toList with
  | [c] => some (decide (c ∈ y.cps.toList))
  | _ => none
def flatD : D → Bool
  | .none | .bool _ | .int _ | .str _ => true
  | _ => false
def inD (x : D) : D → Option Bool
  | .list ys => if PySem.SeqAt.shaped x && PySem.SeqAt.shaped (.list ys) then some (ys.any fun z => PyData.eqv z x) else none
  | .tuple ys => if flatD x && ys.all flatD then some (ys.any fun z => PyData.eqv z x) else none
  | .str y => match x with
    | .str z => signIn z y
    | _ => none
  | _ => none
def cmpD : COp → D → D → Option Bool
  | .eq, a, b => eqD a b
  | .ne, a, b => (eqD a b).map (!·)
  | .lt, .int i, .int j => some (decide (i < j))
  | .le, .int i, .int j => some (decide (i ≤ j))
  | .gt, .int i, .int j => some (decide (j < i))
  | .ge, .int i, .int j => some (decide (j ≤ i))
  | .inn, a, b => inD a b
  | .nin, a, b => (inD a b).map (!·)
  | _, _, _ => none
def isNoneD : D → Bool
  | .none => true
  | _ => false
def isBoolD (b : Bool) : D → Bool
  | .bool c => c == b
  | _ => false
def ixD : D → D → Option D
  | .list xs, .int i => atI xs i
  | .tuple xs, .int i => atI xs i
  | .str x, .int i => if x.length ≤ sizeLine then (atI x.cps.toList i).map fun c => .str ⟨#[c]⟩ else none
  | _, _ => none
def cutL {α : Type} (xs : List α) (lo hi : Option Int) : List α := (xs.drop (HT.sIx xs.length 0 lo)).take (HT.sIx xs.length xs.length hi - HT.sIx xs.length 0 lo)
def slD : D → Option Int → Option Int → Option O
  | .list xs, lo, hi => some (.ol (cutL xs lo hi))
  | .str x, lo, hi => if x.length ≤ sizeLine then some (.d (.str (cutS x lo hi))) else none
  | _, _, _ => none
def boolsOf : List D → Option (List Bool)
  | [] => some []
  | .bool b :: r => (boolsOf r).map (b :: ·)
  | _ :: _ => none
def strsOf : List D → Option (List Str)
  | [] => some []
  | .str b :: r => (strsOf r).map (b :: ·)
  | _ :: _ => none
def smallInt (i : Int) : Bool := decide (i.natAbs.log2 < 1920)
def biD : Bi → D → Option O
  | .len, .list xs => some (.d (.int xs.length))
  | .len, .tuple xs => some (.d (.int xs.length))
  | .len, .str x => if x.length ≤ sizeLine then some (.d (.int x.length)) else none
  | .list, .list xs => some (.ol xs)
  | .list, .tuple xs => some (.ol xs)
  | .tuple, .list xs => some (.d (.tuple xs))
  | .tuple, .tuple xs => some (.d (.tuple xs))
  | .any, .list xs => (boolsOf xs).map fun bs => .d (.bool (bs.any id))
  | .all, .list xs => (boolsOf xs).map fun bs => .d (.bool (bs.all id))
  | .int, .int i => some (.d (.int i))
  | .int, .str x => if x.length ≤ 640 then (PySem.intText? x).map fun n => .d (.int n) else none
  | .str, .int i => if smallInt i then some (.d (.str (toString i))) else none
  | .str, .str x => some (.d (.str x))
  | .repr, .int i => if smallInt i then some (.d (.str (toString i))) else none
  | .repr, .str x => if (reprText x).length ≤ sizeLine then some (.d (.str (reprText x))) else none
  | .repr, .list xs => if PyData.canLay0 (.list xs) && PyData.showable (.list xs) && decide (PyData.depth (.list xs) ≤ 64) && sizeOk (PyData.shown (.list xs)).length then some (.d (.str (PyData.shown (.list xs)))) else none
  | .repr, .tuple xs => if PyData.canLay0 (.tuple xs) && PyData.showable (.tuple xs) && decide (PyData.depth (.tuple xs) ≤ 64) && sizeOk (PyData.shown (.tuple xs)).length then some (.d (.str (PyData.shown (.tuple xs)))) else none
  | .ord, .str x => if x.length = 1 then some (.d (.int (x.cps.getD 0 0 : Nat))) else none
  | _, _ => none
def tyD : Ty → D → Bool
  | .str, .str _ => true
  | .int, .int _ => true
  | .int, .bool _ => true
  | .bool, .bool _ => true
  | .list, .list _ => true
  | .tuple, .tuple _ => true
  | .dict, .dict _ => true
  | _, _ => false
def meD : Me → D → D → Option O
  | .join, .str a, .list xs => match strsOf xs with
    | some ys => if (ys.map (·.length)).sum + ys.length * a.length ≤ 16777216 then some (.d (.str (Txt.join a ys))) else none
    | none => none
  | .split, .str a, .str b => if (b.length == 0) = false ∧ a.length + 2 ≤ sizeLine then some (.ol ((Txt.split a b).map .str)) else none
  | .index, .str a, .str b => match Builtin.Str.occurrences a b 0 a.length 1 with
    | i :: _ => some (.d (.int (i : Nat)))
    | [] => none
  | _, _, _ => none
/-- the first place of an equal one -/
def idxD (q : D) : List D → Option Nat
  | [] => none
  | z :: r => if PyData.eqv z q then some 0 else (idxD q r).map (· + 1)
def lixD : D → D → Option D
  | .list xs, q => if PySem.SeqAt.shaped (.list xs) && PySem.SeqAt.shaped q then (idxD q xs).map fun (n : Nat) => .int n else none
  | _, _ => none
def fmtD : D → Option Str
  | .str x => if x.length ≤ sizeLine then some x else none
  | .int i => if smallInt i then some (toString i) else none
  | _ => none

/-- a number by a written width, zeros ahead -/
def padZ (n : Nat) (i : Int) : Str := ⟨(List.replicate (n - (Nat.toDigits 10 i.natAbs).length) 48).toArray⟩ ++ Str.ofString (toString i)
/-! ### slots -/
def AV.get (e : Sl) : AV → Option O
  | .pl i => (e[i]?).join
  | .pf i c k => match (e[i]?).join with
    | some (.ob c' fs) => if c' = c then fs[k]? else none
    | _ => none
  | .tm o => some o
def AV.dat (e : Sl) (a : AV) : Option D := (a.get e).bind O.dat
/-- as a datum that stays: a slot's own list or dict is so from now on -/
def take (a : AV) (e : Sl) : Option (D × Sl) := match a with
  | .tm o => o.dat.map fun x => (x, e)
  | .pl i => match (e[i]?).join with
    | some (.d x) => some (x, e)
    | some (.ol xs) => some (.list xs, e.set i (some (.d (.list xs))))
    | some (.od kvs) => some (.dict kvs, e.set i (some (.d (.dict kvs))))
    | _ => none
  | .pf i c k => match (e[i]?).join with
    | some (.ob c' fs) => if c' = c then match fs[k]? with
        | some (.d x) => some (x, e)
        | some (.ol xs) => some (.list xs, e.set i (some (.ob c' (fs.set k (.d (.list xs))))))
        | some (.od kvs) => some (.dict kvs, e.set i (some (.ob c' (fs.set k (.d (.dict kvs))))))
        | _ => none
      else none
    | _ => none
def takes : List AV → Sl → Option (List D × Sl)
  | [], e => some ([], e)
  | a :: r, e => match take a e with
    | some (x, e) => match takes r e with
      | some (xs, e) => some (x :: xs, e)
      | none => none
    | none => none
/-- an own attribute of an object is a datum from now on -/
def settle (a : AV) (e : Sl) : Option (AV × Sl) := match a with
  | .pf _ _ _ => (take a e).map fun p => (.tm (.d p.1), p.2)
  | a => some (a, e)
/-- for a store: a new thing as it is, a slot's as a datum -/
def valO (a : AV) (e : Sl) : Option (O × Sl) := match a with
  | .tm o => some (o, e)
  | a => (take a e).map fun p => (.d p.1, p.2)
def valOs : List AV → Sl → Option (List O × Sl)
  | [], e => some ([], e)
  | a :: r, e => match valO a e with
    | some (x, e) => match valOs r e with
      | some (xs, e) => some (x :: xs, e)
      | none => none
    | none => none
def isOwn : Option O → Bool
  | some (.ol _) => true
  | some (.od _) => true
  | some (.ob _ _) => true
  | _ => false
def isOl : Option O → Bool
  | some (.ol _) => true
  | _ => false
def isHid : Option O → Bool
  | some .hid => true
  | _ => false
/-- ow: which parameters' things are the caller's; such a name is not stored anew -/
def setS (ow : List Bool) (i : Nat) (o : O) (e : Sl) : Option Sl :=
  if i < e.length ∧ ow[i]? ≠ some true then some (e.set i (some o)) else none
def setSs (ow : List Bool) : List Nat → List O → Sl → Option Sl
  | [], [], e => some e
  | i :: is, o :: os, e => match setS ow i o e with
    | some e => setSs ow is os e
    | none => none
  | _, _, _ => none
def setT (ow : List Bool) (t : CT) (x : D) (e : Sl) : Option Sl := match t with
  | .nm i => setS ow i (.d x) e
  | .tp is => match x with
    | .tuple xs => setSs ow is (xs.map O.d) e
    | _ => none
/-- the arguments of a call: own things of slots go as they are, each once -/
def ownIx (e : Sl) : List AV → List Nat
  | [] => []
  | .pl i :: r => if isOwn ((e[i]?).join) then i :: ownIx e r else ownIx e r
  | _ :: r => ownIx e r
def argO (e : Sl) : AV → Option O
  | .tm o => o.dat.map O.d
  | .pl i => match (e[i]?).join with
    | some .hid => none
    | some .un => none
    | o => o
  | .pf _ _ _ => none
def argL (e : Sl) : List AV → Option (List O)
  | [] => some []
  | a :: r => match argO e a, argL e r with
    | some o, some os => some (o :: os)
    | _, _ => none
def argOs (avs : List AV) (e : Sl) : Option (List O) := if (ownIx e avs).Nodup then argL e avs else none
def putO (a : AV) (oi o : O) (e : Sl) : Sl := match a with
  | .pl i => if isOwn (some oi) then e.set i (some o) else e
  | _ => e
def putOs : List AV → List O → List O → Sl → Sl
  | a :: r, oi :: ois, o :: os, e => putO a oi o (putOs r ois os e)
  | _, _, _, e => e
def wipeE (e : Sl) : List Nat → Sl
  | [] => e
  | i :: r => (wipeE e r).set i none
def noOwn (e : Sl) (ws : List Nat) : Bool := ws.all fun i => !isOwn ((e[i]?).join) && !isHid ((e[i]?).join)
def backE (e0 e : Sl) (ws : List Nat) : Sl := ws.foldl (fun e i => e.set i ((e0[i]?).join)) e
/-- the attribute in use is out of sight -/
def hide (a : AV) (e : Sl) : Option Sl := match a with
  | .pf i c k => match (e[i]?).join with
    | some (.ob c' fs) => if c' = c ∧ k < fs.length then some (e.set i (some (.ob c' (fs.set k .hid)))) else none
    | _ => none
  | _ => some e
def unhide (a : AV) (e0 e : Sl) : Option Sl := match a with
  | .pf i c k => match (e0[i]?).join, (e[i]?).join with
    | some (.ob c0 fs0), some (.ob c' fs) => if c0 = c ∧ c' = c then match fs0[k]?, fs[k]? with
        | some o, some .hid => some (e.set i (some (.ob c' (fs.set k o))))
        | _, _ => none
      else none
    | _, _ => none
  | _ => some e
def hidB (x : AV) (e0 : Sl) (f : Sl → R AV) : R AV := match x with
  | .pf i c k => match hide (.pf i c k) e0 with
    | some e1 => match f e1 with
      | .ok y e2 => match unhide (.pf i c k) e0 e2 with
        | some e3 => .ok y e3
        | none => .bad
      | _ => .bad
    | none => .bad
  | _ => f e0
def intOf : Option D → Option Int
  | some (.int i) => some i
  | _ => none
def itemsOf : D → Option (List D)
  | .list xs => some xs
  | .tuple xs => some xs
  | .str x => if x.length ≤ sizeLine then some (x.cps.toList.map fun c => .str ⟨#[c]⟩) else none
  | _ => none
def rangeD (lo : Int) (n : Nat) : List D := (List.range n).map fun i => .int (lo + (i : Nat))
/-- a comprehension's turns -/
def lcL (body : D → Sl → R (Option D)) : List D → Sl → R (List D)
  | [], e => .ok [] e
  | x :: xs, e => (body x e).nox.bind fun r e => (lcL body xs e).bind fun rs e => .ok (r.toList ++ rs) e
/-! ### what an expression is worth -/
abbrev Gm := Nat → List O → Option (Rs × List O)
def R.call (r : Option (Rs × List O)) (g : List O → Sl) : R AV := match r with
  | some (.v o, outs) => .ok (.tm o) (g outs)
  | some (.x x, outs) => .exc x (g outs)
  | none => .bad
def R.set {α : Type} (a : AV) (e : Sl) (f : AV → Sl → R α) : R α := match settle a e with
  | some (a, e) => f a e
  | none => .bad
variable (gc : List (Str × D)) (Γ : Gm)
def testV (r : R AV) : R Bool := r.bind fun x e => match x.dat e with
  | some (.bool b) => .ok b e
  | _ => .bad
mutual
def evE : CE → Sl → R AV
  | .non, e => .ok (.tm (.d .none)) e
  | .bl b, e => .ok (.tm (.d (.bool b))) e
  | .int i, e => .ok (.tm (.d (.int i))) e
  | .str s, e => .ok (.tm (.d (.str s))) e
  | .v i, e => match (e[i]?).join with
    | some _ => .ok (.pl i) e
    | none => .bad
  | .gl k, e => match gc[k]? with
    | some p => .ok (.tm (.d p.2)) e
    | none => .bad
  | .fld i c k, e => match (e[i]?).join with
    | some (.ob c' fs) => if c' = c then match fs[k]? with
        | some (.d x) => .ok (.tm (.d x)) e
        | some (.ol _) => .ok (.pf i c k) e
        | some (.od _) => .ok (.pf i c k) e
        | _ => .bad
      else .bad
    | _ => .bad
  | .bin o a b, e => (evE a e).bind fun x e => (hidB x e fun e => evE b e).bind fun y e => match x.dat e, y.dat e with
    | some p, some q => (R.of (binD o p q) e).bind fun r e => .ok (.tm r) e
    | _, _ => .bad
  | .neg a, e => (evE a e).bind fun x e => match x.dat e with
    | some (.int i) => .ok (.tm (.d (.int (-i)))) e
    | _ => .bad
  | .cmp o a b, e => (evE a e).bind fun x e => R.set x e fun x e => (evE b e).bind fun y e => match x.dat e, y.dat e with
    | some p, some q => (R.of (cmpD o p q) e).bind fun r e => .ok (.tm (.d (.bool r))) e
    | _, _ => .bad
  | .chn o o' a b c, e => (evE a e).bind fun x e => R.set x e fun x e => (evE b e).bind fun y e => R.set y e fun y e => match x.dat e, y.dat e with
    | some p, some q => (R.of (cmpD o p q) e).bind fun r e => if r then (evE c e).bind fun z e => match y.dat e, z.dat e with
        | some q, some u => (R.of (cmpD o' q u) e).bind fun r e => .ok (.tm (.d (.bool r))) e
        | _, _ => .bad
      else .ok (.tm (.d (.bool false))) e
    | _, _ => .bad
  | .isN a, e => (evE a e).bind fun x e => match x.dat e with
    | some p => .ok (.tm (.d (.bool (isNoneD p)))) e
    | none => .bad
  | .notN a, e => (evE a e).bind fun x e => match x.dat e with
    | some p => .ok (.tm (.d (.bool (!isNoneD p)))) e
    | none => .bad
  | .isB a b, e => (evE a e).bind fun x e => match x.dat e with
    | some p => .ok (.tm (.d (.bool (isBoolD b p)))) e
    | none => .bad
  | .and a b, e => (testV (evE a e)).bind fun c e => if c then evE b e else .ok (.tm (.d (.bool false))) e
  | .or a b, e => (testV (evE a e)).bind fun c e => if c then .ok (.tm (.d (.bool true))) e else evE b e
  | .not a, e => (testV (evE a e)).bind fun c e => .ok (.tm (.d (.bool (!c)))) e
  | .ifx t a b, e => (testV (evE t e)).bind fun c e => if c then evE a e else evE b e
  | .tup es, e => (evEs es e).bind fun avs e => match takes avs e with
    | some (ds, e) => .ok (.tm (.d (.tuple ds))) e
    | none => .bad
  | .lst es, e => (evEs es e).bind fun avs e => match takes avs e with
    | some (ds, e) => .ok (.tm (.ol ds)) e
    | none => .bad
  | .ix a i, e => (evE a e).bind fun x e => (hidB x e fun e => evE i e).bind fun y e => match x.dat e, y.dat e with
    | some p, some q => (R.of (ixD p q) e).bind fun r e => .ok (.tm (.d r)) e
    | _, _ => .bad
  | .sl a lo hi, e => (evE a e).bind fun x e => R.set x e fun x e => (evP lo e).bind fun l e => (evP hi e).bind fun h e => match x.dat e with
    | some p => (R.of (slD p l h) e).bind fun r e => .ok (.tm r) e
    | none => .bad
  | .call f es, e => (evEs es e).bind fun avs e => match argOs avs e with
    | some os => R.call (Γ f os) fun outs => putOs avs os outs e
    | none => .bad
  | .bi b a, e => (evE a e).bind fun x e => match x.dat e with
    | some p => (R.of (biD b p) e).bind fun r e => .ok (.tm r) e
    | none => .bad
  | .isi a t, e => (evE a e).bind fun x e => match x.dat e with
    | some p => .ok (.tm (.d (.bool (tyD t p)))) e
    | none => .bad
  | .lr1 a, e => (evE a e).bind fun x e => match x.dat e with
    | some (.int n) => if n ≤ sizeLine ∧ -(2 ^ 62) ≤ n then .ok (.tm (.ol (rangeD 0 n.toNat))) e else .bad
    | _ => .bad
  | .me m a b, e => (evE a e).bind fun x e => match x.dat e with
    | some (.str t) => (evE b e).bind fun y e => match y.dat e with
      | some q => (R.of (meD m (.str t) q) e).bind fun r e => .ok (.tm r) e
      | none => .bad
    | _ => .bad
  | .lix a b, e => (evE a e).bind fun x e => R.set x e fun x e => match x.dat e with
    | some (.list _) => (evE b e).bind fun y e => match x.dat e, y.dat e with
      | some p, some q => (R.of (lixD p q) e).bind fun r e => .ok (.tm (.d r)) e
      | _, _ => .bad
    | _ => .bad
  | .lc ws t it ifs el, e => (evI it e).bind fun xs e0 => if noOwn e0 ws then
      (lcL (fun x e => match setT [] t x e with
        | some e => (evIf ifs e).bind fun c e => if c then (evE el e).bind fun y e => match take y e with
            | some (d, e) => .ok (some d) (wipeE e ws)
            | none => .bad
          else .ok none (wipeE e ws)
        | none => .bad) xs (wipeE e0 ws)).bind fun ds e => .ok (.tm (.ol ds)) (backE e0 e ws)
    else .bad
  | .fs es, e => (evF es Str.empty e).bind fun x e => .ok (.tm (.d (.str x))) e
  | .fv a, e => (evE a e).bind fun x e => match x.dat e with
    | some p => (R.of (fmtD p) e).bind fun y e => .ok (.tm (.d (.str y))) e
    | none => .bad
  | .fz a n, e => (evE a e).bind fun x e => match x.dat e with
    | some (.int i) => if 0 ≤ i ∧ i < 1000000000000000000 then .ok (.tm (.d (.str (padZ n i)))) e else .bad
    | _ => .bad
  | .bad, _ => .bad
def evEs : CEs → Sl → R (List AV)
  | .nil, e => .ok [] e
  | .cons a es, e => (evE a e).bind fun x e => R.set x e fun x e => (evEs es e).bind fun xs e => .ok (x :: xs) e
def evF : CEs → Str → Sl → R Str
  | .nil, acc, e => .ok acc e
  | .cons a es, acc, e => (evE a e).bind fun x e => match x.dat e with
    | some (.str y) => if (acc ++ y).length ≤ sizeLine then evF es (acc ++ y) e else .bad
    | _ => .bad
def evP : CP → Sl → R (Option Int)
  | .no, e => .ok none e
  | .yes a, e => (evE a e).bind fun x e => match x.dat e with
    | some (.int i) => .ok (some i) e
    | _ => .bad
def evIf : CP → Sl → R Bool
  | .no, e => .ok true e
  | .yes a, e => testV (evE a e)
def evI : CI → Sl → R (List D)
  | .en a, e => (evE a e).bind fun x e => match take x e with
    | some (.list xs, e) => .ok (xs.mapIdx fun i y => .tuple [.int (i : Nat), y]) e
    | _ => .bad
  | .e a, e => (evE a e).bind fun x e => match take x e with
    | some (d, e) => R.of (itemsOf d) e
    | none => .bad
  | .r1 a, e => (evE a e).bind fun x e => match x.dat e with
    | some (.int n) => if n ≤ sizeLine ∧ -(2 ^ 62) ≤ n then .ok (rangeD 0 n.toNat) e else .bad
    | _ => .bad
  | .r2 a b, e => (evE a e).bind fun x e => R.set x e fun x e => (evE b e).bind fun y e => match x.dat e, y.dat e with
    | some (.int n), some (.int m) => if (-(2 ^ 62) ≤ n ∧ n < 2 ^ 62) ∧ (-(2 ^ 62) ≤ m ∧ m < 2 ^ 62) ∧ m - n ≤ sizeLine then .ok (rangeD n (m - n).toNat) e else .bad
    | _, _ => .bad
end
def evT (a : CE) (e : Sl) : R Bool := testV (evE gc Γ a e)

/-! ### what a statement does -/
inductive Fl where
  | nx (e : Sl)
  | rt (o : O) (e : Sl)
  | bk (e : Sl)
  | ct (e : Sl)
  | ex (x : Ex) (e : Sl)
  | bad
def Fl.of {α : Type} (r : R α) (f : α → Sl → Fl) : Fl := match r with
  | .ok a e => f a e
  | .exc x e => .ex x e
  | .bad => .bad
def forL (body : D → Sl → Fl) : List D → Sl → Fl
  | [], e => .nx e
  | x :: xs, e => match body x e with
    | .nx e => forL body xs e
    | .ct e => forL body xs e
    | .bk e => .nx e
    | .rt o e => .rt o e
    | .ex x e => .ex x e
    | .bad => .bad
def whlL (test : Sl → R Bool) (body : Sl → Fl) : Nat → Sl → Fl
  | 0, _ => .bad
  | n + 1, e => Fl.of (test e) fun c e => if c then match body e with
      | .nx e => whlL test body n e
      | .ct e => whlL test body n e
      | .bk e => .nx e
      | .rt o e => .rt o e
      | .ex x e => .ex x e
      | .bad => .bad
    else .nx e
def retO (ow : List Bool) (a : AV) (e : Sl) : Option (O × Sl) := match a with
  | .tm o => some (o, e)
  | .pl i => match (e[i]?).join with
    | some (.d x) => some (.d x, e)
    | some .hid => none
    | some .un => none
    | some o => if ow[i]? = some true then (take (.pl i) e).map (fun p => (.d p.1, p.2)) else some (o, e.set i none)
    | none => none
  | .pf i c k => (take (.pf i c k) e).map fun p => (.d p.1, p.2)
/-- an exception's attributes -/
def exArgs (ds : List D) : Bool := ds.all fun d => match d with
  | .int i => decide (i.natAbs.log2 < 1920) && decide ((toString i : Str).length ≤ 10000000)
  | .str x => decide (x.length ≤ 10000000)
  | _ => false
/-- turns of a while, at most -/
def whileMost : Nat := 2 ^ 40
def R.setF (a : AV) (e : Sl) (f : AV → Sl → Fl) : Fl := match settle a e with
  | some (a, e) => f a e
  | none => .bad
mutual
def evS (ow : List Bool) : CS → Sl → Fl
  | .asg i a, e => Fl.of (evE gc Γ a e) fun x e => match valO x e with
    | some (o, e) => match setS ow i o e with
      | some e => .nx e
      | none => .bad
    | none => .bad
  | .asgT is es, e => Fl.of (evEs gc Γ es e) fun xs e => match valOs xs e with
    | some (os, e) => match setSs ow is os e with
      | some e => .nx e
      | none => .bad
    | none => .bad
  | .unp is a, e => Fl.of (evE gc Γ a e) fun x e => match take x e with
    | some (d, e) => match setT ow (.tp is) d e with
      | some e => .nx e
      | none => .bad
    | none => .bad
  | .ex a, e => Fl.of (evE gc Γ a e) fun _ e => .nx e
  | .app i a, e => if isOl ((e[i]?).join) then Fl.of (evE gc Γ a e) fun x e => match take x e with
      | some (d, e) => match (e[i]?).join with
        | some (.ol xs) => if xs.length < sizeLine then .nx (e.set i (some (.ol (xs ++ [d])))) else .bad
        | _ => .bad
      | none => .bad
    else .bad
  | .ins i k a, e => if isOl ((e[i]?).join) then Fl.of (evE gc Γ k e) fun y e => R.setF y e fun y e => Fl.of (evE gc Γ a e) fun x e => match y.dat e with
      | some (.int j) => match take x e with
        | some (d, e) => match (e[i]?).join with
          | some (.ol xs) => if xs.length < sizeLine ∧ 0 ≤ j ∧ j < 2 ^ 63 then .nx (e.set i (some (.ol (xs.take j.toNat ++ [d] ++ xs.drop j.toNat)))) else .bad
          | _ => .bad
        | none => .bad
      | _ => .bad
    else .bad
  | .rse c es, e => Fl.of (evEs gc Γ es e) fun xs e => match takes xs e with
    | some (ds, e) => if exArgs ds then .ex ⟨c, ds⟩ e else .bad
    | none => .bad
  | .tryR b cs _ i h, e => match evSs ow b e with
    | .ex x e => if x.c ∈ cs then (match i with
        | some j => if j < e.length ∧ ow[j]? ≠ some true ∧ (e[j]?).join.isNone then (match h.ev x with
          | some d => .rt (.d d) e
          | none => .bad) else .bad
        | none => match h.ev x with
          | some d => .rt (.d d) e
          | none => .bad)
      else .ex x e
    | f => f
  | .sti i k a, e => if isOl ((e[i]?).join) then Fl.of (evE gc Γ a e) fun x e => R.setF x e fun x e => Fl.of (evE gc Γ k e) fun y e => match y.dat e with
      | some (.int j) => match take x e with
        | some (d, e) => match (e[i]?).join with
          | some (.ol xs) => match ixN xs.length j with
            | some n => .nx (e.set i (some (.ol (xs.set n d))))
            | none => .bad
          | _ => .bad
        | none => .bad
      | _ => .bad
    else .bad
  | .aug i o a, e => match (e[i]?).join with
    | some (.d _) => Fl.of (evE gc Γ a e) fun x e => match (e[i]?).join, x.dat e with
      | some (.d p), some q => match augD o p q with
        | some r => match setS ow i (.d r) e with
          | some e => .nx e
          | none => .bad
        | none => .bad
      | _, _ => .bad
    | _ => .bad
  | .ret a, e => Fl.of (evE gc Γ a e) fun x e => match retO ow x e with
    | some (o, e) => .rt o e
    | none => .bad
  | .retN, e => .rt (.d .none) e
  | .ifs t a b, e => Fl.of (evT gc Γ t e) fun c e => if c then evSs ow a e else evSs ow b e
  | .for t it b, e => Fl.of (evI gc Γ it e) fun xs e => forL (fun x e => match setT ow t x e with
      | some e => evSs ow b e
      | none => .bad) xs e
  | .whl t b, e => whlL (fun e => evT gc Γ t e) (fun e => evSs ow b e) whileMost e
  | .brk, e => .bk e
  | .cnt, e => .ct e
  | .pass, e => .nx e
  | .bad, _ => .bad
def evSs (ow : List Bool) : CSs → Sl → Fl
  | .nil, e => .nx e
  | .cons a r, e => match evS ow a e with
    | .nx e => evSs ow r e
    | .rt o e => .rt o e
    | .bk e => .bk e
    | .ct e => .ct e
    | .ex x e => .ex x e
    | .bad => .bad
end

/-! ### the program -/
def ownO (o : O) : Bool := isOwn (some o)
structure FD where
  np : Nat
  ns : Nat
  body : CSs
  /-- a def whose promise is proved by hand -/
  nt : Option (List O → Option (O × List O)) := none
  /-- no def, but a class: its number, its __init__, how many attributes it has -/
  mak : Option (Nat × Nat × Nat) := none
/-- a call's own things behind it: those handed in as data as they were -/
def outO (a : O) (r : Option O) : Option O := if ownO a then (match r with
  | some .hid => none
  | some .un => none
  | r => r) else some a
def outOs : List O → Sl → Option (List O)
  | [], _ => some []
  | a :: r, e => match outO a ((e[0]?).join), outOs r (e.drop 1) with
    | some x, some xs => some (x :: xs)
    | _, _ => none
def runF (fd : FD) (os : List O) : Option (Rs × List O) :=
  if os.length = fd.np ∧ fd.np ≤ fd.ns then
    match evSs gc Γ (os.map ownO) fd.body (os.map some ++ List.replicate (fd.ns - fd.np) none) with
    | .rt o e => (outOs os e).map fun xs => (.v o, xs)
    | .nx e => (outOs os e).map fun xs => (.v (.d .none), xs)
    | .ex x e => (outOs os e).map fun xs => (.x x, xs)
    | _ => none
  else none
end Y

/-! Y3: the match of the core language with the given text. -/
namespace Y
open PySem PySem.Spec PyProof.Rows L2

def run (gc : List (Str × D)) (code : List FD) : Nat → Gm
  | 0 => fun _ _ => none
  | n + 1 => fun f os => match code[f]? with
    | some fd => match fd.mak with
      | some (c, g, m) => if os.length = fd.np then match run gc code n g (.ob c (List.replicate m .un) :: os) with
          | some (.v (.d .none), o :: outs) => some (.v o, outs)
          | _ => none
        else none
      | none => match fd.nt with
        | some g => if os.length = fd.np then (g os).map fun r => (.v r.1, r.2) else none
        | none => runF gc (run gc code n) fd os
    | none => none

/-- the names of the program that the match looks at -/
structure Tb where
  fn : List Str
  gc : List (Str × D)
  /-- the classes' attributes -/
  cs : List (List Str) := []
  /-- the methods: of which class, by which name -/
  ms : List (Option (Nat × Str)) := []
  /-- the exceptions: names, attributes -/
  xs : List (Str × List Str) := []
  /-- the classes of exceptions that are asked for: those below them -/
  xh : List (Str × List Nat) := []
def plainName (x : Str) : Bool := !(x == ("__debug__" : Str)) && !(x == ("__classdict__" : Str)) && !(x == ("__name__" : Str))
def visB (sc : Scope) (x : Str) : Bool := match sc.names.lookup x with
  | some .local => true
  | some .cell => true
  | some .free => true
  | _ => false
def glB (sc : Scope) (x : Str) : Bool := match sc.names.lookup x with
  | some .globalImplicit => true
  | _ => false
/-- may be stored here; fl: the block's own written scope, none for a def -/
def locB (fl : Option Scope) (sc : Scope) (x : Str) : Bool := match sc.names.lookup x with
  | some .local => true
  | some .cell => match fl with
    | none => true
    | some s => match s.names.lookup x with
      | some .cell => true
      | _ => false
  | _ => false
def fnOf (fl : Option Scope) : Str → Bool := match fl with
  | none => fun _ => true
  | some s => fun x => s.names.lookup x == some .cell
def slotB (N : List Str) (i : Nat) (x : Str) : Bool := decide (N[i]? = some x)
def bopB : BOp → Operator → Bool
  | .add, .Add => true | .sub, .Sub => true | .mul, .Mult => true | .fdiv, .FloorDiv => true | .mod, .Mod => true | .pow, .Pow => true
  | _, _ => false
def copB : COp → CmpOp → Bool
  | .eq, .Eq => true | .ne, .NotEq => true | .lt, .Lt => true | .le, .LtE => true | .gt, .Gt => true | .ge, .GtE => true | .inn, .In => true | .nin, .NotIn => true
  | _, _ => false
def biN : Bi → Str
  | .len => "len" | .list => "list" | .tuple => "tuple" | .any => "any" | .all => "all" | .int => "int" | .str => "str" | .repr => "repr" | .ord => "ord"
def tyN : Ty → Str
  | .str => "str" | .int => "int" | .bool => "bool" | .list => "list" | .tuple => "tuple" | .dict => "dict"
def meN : Me → Str
  | .join => "join" | .split => "split" | .replace => "replace" | .index => "index"
def ownOf (N : List Str) (scope : Scope) : List (Str × Nat) := scope.names.filterMap fun y => match y.2 with
  | .local => if y.1 ∈ N then some (y.1, N.idxOf y.1) else none
  | .cell => if y.1 ∈ N then some (y.1, N.idxOf y.1) else none
  | _ => none
def tgB (N : List Str) (fl : Option Scope) (sc : Scope) : CT → Expr → Bool
  | .nm i, .Name x _ => slotB N i x && locB fl sc x
  | .tp is, .Tuple es _ _ => go is es
  | _, _ => false
where go : List Nat → List Expr → Bool
  | [], [] => true
  | i :: is, .Name x _ :: es => slotB N i x && locB fl sc x && go is es
  | _, _ => false
/-- a receiver whose method is looked up plainly -/
def recvB : Expr → Bool
  | .Constant .. => true
  | .Name .. => true
  | _ => false
def nbB : CE → Bool
  | .bad => false
  | _ => true
def nbEs : CEs → Bool
  | .nil => true
  | .cons a r => nbB a && nbEs r
/-- enumerate is unpacked at once -/
def enOk : CI → Expr → Bool
  | .en _, .Tuple .. => true
  | .en _, _ => false
  | _, _ => true
variable (T : Tb) (N : List Str)
mutual
def mE (fl : Option Scope) (sc : Scope) : CE → Expr → Bool
  | .non, .Constant .none _ _ => true
  | .bl b, .Constant (.bool c) _ _ => b == c
  | .int i, .Constant (.int j) _ _ => i == j
  | .str s, .Constant (.str t) _ _ => decide (s = t)
  | .v i, .Name x _ => slotB N i x && visB sc x && plainName x
  | .fld i c k, .Attribute (.Name x _) f _ => slotB N i x && visB sc x && plainName x && (match T.cs[c]? with | some l => decide (l[k]? = some f) | none => false)
  | .gl k, .Name x _ => (match T.gc[k]? with | some p => decide (p.1 = x) | none => false) && glB sc x && plainName x
  | .bin o a b, .BinOp l op r _ => bopB o op && mE fl sc a l && mE fl sc b r
  | .neg a, .UnaryOp .USub x _ => mE fl sc a x
  | .cmp o a b, .Compare l [op] [r] _ => copB o op && mE fl sc a l && (nbB b && mE fl sc b r)
  | .chn o o' a b c, .Compare l [op, op'] [m, r] _ => copB o op && copB o' op' && mE fl sc a l && mE fl sc b m && (nbB c && mE fl sc c r)
  | .isN a, .Compare l [.Is] [.Constant .none _ _] _ => mE fl sc a l
  | .notN a, .Compare l [.IsNot] [.Constant .none _ _] _ => mE fl sc a l
  | .isB a b, .Compare l [.Is] [.Constant (.bool c) _ _] _ => b == c && mE fl sc a l
  | .and a b, .BoolOp .And (x :: y :: r) pos => mE fl sc a x && (match r with
      | [] => mE fl sc b y
      | z :: r => mE fl sc b (.BoolOp .And (y :: z :: r) pos))
  | .or a b, .BoolOp .Or (x :: y :: r) pos => mE fl sc a x && (match r with
      | [] => mE fl sc b y
      | z :: r => mE fl sc b (.BoolOp .Or (y :: z :: r) pos))
  | .not a, .UnaryOp .Not x _ => mE fl sc a x
  | .ifx t a b, .IfExp t' a' b' _ => mE fl sc t t' && mE fl sc a a' && mE fl sc b b'
  | .tup es, .Tuple xs _ _ => decide (xs.length ≤ 1000) && mEs fl sc es xs
  | .lst es, .List xs _ => decide (xs.length ≤ 1000) && mEs fl sc es xs
  | .ix a i, .Subscript l r _ => mE fl sc a l && (nbB i && mE fl sc i r)
  | .sl a lo hi, .Subscript l (.Slice lo' hi' none _) _ => mE fl sc a l && mP fl sc lo lo' && mP fl sc hi hi'
  | .call f es, .Call (.Name x _) xs [] _ => decide (T.fn[f]? = some x ∧ x ≠ "") && glB sc x && plainName x && (nbEs es && mEs fl sc es xs)
  | .bi b a, .Call (.Name x _) [y] [] _ => decide (biN b = x) && glB sc x && mE fl sc a y
  | .isi a t, .Call (.Name x _) [y, .Name z _] [] _ => decide (x = ("isinstance" : Str)) && glB sc x && decide (tyN t = z) && glB sc z && mE fl sc a y
  | .lr1 a, .Call (.Name x _) [.Call (.Name y _) [z] [] _] [] _ => decide (x = ("list" : Str)) && glB sc x && decide (y = ("range" : Str)) && glB sc y && mE fl sc a z
  | .me m a b, .Call (.Attribute o x ap) [y] [] cp => (match m with | .replace => false | _ => true) && decide (meN m = x) && (ap.endLine == cp.line) && recvB o && mE fl sc a o && (nbB b && mE fl sc b y)
  | .lix a b, .Call (.Attribute o x ap) [y] [] cp => decide (x = ("index" : Str)) && (ap.endLine == cp.line) && recvB o && mE fl sc a o && (nbB b && mE fl sc b y)
  | .lc ws t it ifs el, .ListComp elt [⟨tg, iter, cs, 0⟩] scope _ => decide ((ownOf N scope).map (·.2) = ws) && blkC N sc scope (ownOf N scope) && mI fl sc it iter && (tgB N (some scope) (relS scope sc) t tg && enOk it tg) &&
      mIf (some scope) (relS scope sc) ifs cs && mE (some scope) (relS scope sc) el elt
  | .fs es, .JoinedStr xs _ => decide (2 ≤ xs.length) && mEs fl sc es xs
  | .fz a n, .JoinedStr [.FormattedValue x c (some (.JoinedStr [.Constant (.str sp) _ _] _)) _] _ => decide (c = -1) && (PyProof.Rows.intSpecOk sp && PyProof.Rows.intSpecZeroOf sp && decide (PyProof.Rows.intSpecWidthOf sp = n) && decide (sp.length ≤ 100)) && mE fl sc a x
  | .fv a, .FormattedValue x c none _ => decide (c = -1) && mE fl sc a x
  | .bad, _ => true
  | _, _ => false
def mEs (fl : Option Scope) (sc : Scope) : CEs → List Expr → Bool
  | .nil, [] => true
  | .cons a es, x :: xs => mE fl sc a x && mEs fl sc es xs
  | _, _ => false
def mP (fl : Option Scope) (sc : Scope) : CP → Option Expr → Bool
  | .no, none => true
  | .yes a, some x => mE fl sc a x
  | _, _ => false
def mIf (fl : Option Scope) (sc : Scope) : CP → List Expr → Bool
  | .no, [] => true
  | .yes a, [x] => mE fl sc a x
  | _, _ => false
def mI (fl : Option Scope) (sc : Scope) : CI → Expr → Bool
  | .e a, x => mE fl sc a x
  | .en a, .Call (.Name x _) [y] [] _ => decide (x = ("enumerate" : Str)) && glB sc x && mE fl sc a y
  | .r1 a, .Call (.Name x _) [y] [] _ => decide (x = ("range" : Str)) && glB sc x && mE fl sc a y
  | .r2 a b, .Call (.Name x _) [y, z] [] _ => decide (x = ("range" : Str)) && glB sc x && mE fl sc a y && nbB b && mE fl sc b z
  | _, _ => false
end
/-- one line: the name is stored by the comprehension itself -/
def isLc : Expr → Bool
  | .ListComp .. => true
  | _ => false
def unpB : Expr → Bool
  | .Tuple xs _ _ => !(xs.any fun | .Starred .. => true | _ => false) && xs.all (foldedForSure 8)
  | .ListComp .. => false
  | _ => true
def lclB (sc : Scope) (x : Str) : Bool := match sc.names.lookup x with
  | some .local => true
  | _ => false
/-- a constant -/
def constD : D → Expr → Bool
  | .none, .Constant .none _ _ => true
  | .bool b, .Constant (.bool c) _ _ => b == c
  | .int i, .Constant (.int j) _ _ => i == j
  | .str x, .Constant (.str y) _ _ => decide (x = y)
  | _, _ => false
/-- what a handler gives back; n: the error's name -/
def mH (sc : Scope) (n : Option Str) : HX → Expr → Bool
  | .d x, e => constD x e
  | .fld c k, .Attribute (.Name x _) f _ => decide (n = some x) && plainName x && (match T.xs[c]? with | some p => decide (p.2[k]? = some f) | none => false)
  | .tup a b, .Tuple [x, y] _ _ => mH sc n a x && mH sc n b y
  | .isi cs nm a b, .IfExp (.Call (.Name i _) [.Name x _, .Name z _] [] _) p q _ => decide (i = ("isinstance" : Str)) && glB sc i && decide (n = some x) && plainName x && decide (z = nm) && glB sc z && plainName z && decide (T.xh.lookup nm = some cs) && mH sc n a p && mH sc n b q
  | _, _ => false
mutual
def mS (sc : Scope) : CS → Stmt → Bool
  | .asg i a, .Assign [.Name x p] e _ => slotB N i x && locB none sc x && mE T N none sc a e
  | .asgT [i, j] es, .Assign [.Tuple [.Name x p, .Name y q] _ _] (.Tuple [a, b] _ _) _ => slotB N i x && slotB N j y && (decide (i ≠ j) && decide (x ≠ y) && (p.line == q.line)) && lclB sc x && lclB sc y &&
      (!([a, b].any fun | .Starred .. => true | _ => false) && !([a, b].all (foldedForSure 8)) && !([a, b].all (constantsAlone 8))) && mEs T N none sc es [a, b]
  | .unp is a, .Assign [.Tuple ts k p] e _ => unpB e && tgB N none sc (.tp is) (.Tuple ts k p) && mE T N none sc a e
  | .ex a, .Expr e _ => !isLc e && mE T N none sc a e
  | .app i a, .Expr (.Call (.Attribute (.Name x _) m ap) [y] [] cp) _ => slotB N i x && visB sc x && plainName x && decide (m = ("append" : Str)) && (ap.endLine == cp.line) && mE T N none sc a y
  | .ins i k a, .Expr (.Call (.Attribute (.Name x _) m ap) [z, y] [] cp) _ => slotB N i x && visB sc x && plainName x && decide (m = ("insert" : Str)) && (ap.endLine == cp.line) && (mE T N none sc k z && nbB a && mE T N none sc a y)
  | .rse c es, .Raise (some (.Call (.Name x _) xs [] _)) none _ => (match T.xs[c]? with | some p => decide (p.1 = x) && decide (p.2.length = xs.length) && decide (xs ≠ []) | none => false) && glB sc x && plainName x && (nbEs es && mEs T N none sc es xs)
  | .tryR b cs nm i h, .Try body [.ExceptHandler (some (.Name x _)) n [.Return (some r) _] _] [] [] _ => decide (x = nm) && glB sc x && plainName x && decide (T.xh.lookup nm = some cs) && mSs sc b body && mH T sc n h r && (match i, n with
      | some j, some y => slotB N j y && lclB sc y
      | none, none => true
      | _, _ => false)
  | .sti i k a, .Assign [.Subscript (.Name x _) ix _] e _ => slotB N i x && visB sc x && plainName x && !isLc e && (nbB k && mE T N none sc k ix) && mE T N none sc a e
  | .aug i o a, .AugAssign (.Name x _) op e _ => slotB N i x && locB none sc x && bopB o op && mE T N none sc a e
  | .ret a, .Return (some e) _ => mE T N none sc a e
  | .retN, .Return none _ => true
  | .ifs t a b, .If c x y _ => mE T N none sc t c && mSs sc a x && mSs sc b y
  | .for t it b, .For tg iter body [] _ => (tgB N none sc t tg && enOk it tg) && mI T N none sc it iter && mSs sc b body
  | .whl t b, .While c body [] _ => mE T N none sc t c && mSs sc b body
  | .brk, .Break _ => true
  | .cnt, .Continue _ => true
  | .pass, .Pass _ => true
  | .bad, _ => true
  | _, _ => false
def mSs (sc : Scope) : CSs → List Stmt → Bool
  | .nil, [] => true
  | .cons a r, x :: xs => mS sc a x && mSs sc r xs
  | _, _ => false
end
end Y

/-! Y4: readings that are the runs themselves; slots and heaps. -/
namespace Y
open PySem PySem.Spec PyProof.Rows L2

/-! ### a piece of text by its own run -/
section
variable {X : Cx} {e : Expr} {es : List Expr} {st : Stmt} {sts : List Stmt} {σ : L2.St} {H : Hp}
def wE (X : Cx) (e : Expr) : TE := fun σ H Q => ∀ pins s, Inv X pins σ H s → wpAny (model X.prog X.w) X.A (eval e X.env) (EP X pins σ Q) X.xe s
def wT (X : Cx) (e : Expr) : TT := fun σ H Q => ∀ pins s, Inv X pins σ H s → wpAny (model X.prog X.w) X.A (isTrue e X.env (eval e X.env)) (TP X pins σ Q) X.xe s
def wW (X : Cx) (e : Expr) : TT := fun σ H Q => ∀ (whole : Sem Value) pins s, Inv X pins σ H s → wpAny (model X.prog X.w) X.A (isTrue e X.env whole) (TP X pins σ Q) X.xe s
def wA (X : Cx) (es : List Expr) : TA := fun σ H Q => ∀ pos pins s, Inv X pins σ H s → wpAny (model X.prog X.w) X.A (spliced (backTo pos (starEach es X.env))) (AP X pins σ Q) X.xe s
def wS (X : Cx) (st : Stmt) : TS := fun D σ H => ∀ pins s, Inv X pins σ H s → wpAny (model X.prog X.w) X.A (exec st X.env) (SP X pins D) X.xe s
def wSs (X : Cx) (st : List Stmt) : TS := fun D σ H => ∀ pins s, Inv X pins σ H s → wpAny (model X.prog X.w) X.A (execs st X.env) (SP X pins D) X.xe s
theorem pe_w : PE X e (wE X e) := ⟨fun pins s σ H Q I h => h pins s I⟩
theorem pt_w : PT X e (wT X e) := ⟨fun pins s σ H Q I h => h pins s I⟩
theorem pw_w : PW X e (wW X e) := ⟨fun wh pins s σ H Q I h => h wh pins s I⟩
theorem pa_w : PA X es (wA X es) := ⟨fun pos pins s σ H Q I h => h pos pins s I⟩
theorem ps_w : PS X st (wS X st) := ⟨fun pins s σ H D I h => h pins s I⟩
theorem pss_w : PSs X sts (wSs X sts) := ⟨fun pins s σ H D I h => h pins s I⟩
theorem wE.by {t : TE} {Q : VK} (p : PE X e t) (h : t σ H Q) : wE X e σ H Q := fun pins s I => p.run pins s σ H Q I h
theorem wT.by {t : TT} {Q : Bool → Hp → Prop} (p : PT X e t) (h : t σ H Q) : wT X e σ H Q := fun pins s I => p.run pins s σ H Q I h
theorem wW.by {t : TT} {Q : Bool → Hp → Prop} (p : PW X e t) (h : t σ H Q) : wW X e σ H Q := fun wh pins s I => p.run wh pins s σ H Q I h
theorem wA.by {t : TA} {Q : List V → Hp → Prop} (p : PA X es t) (h : t σ H Q) : wA X es σ H Q := fun pos pins s I => p.run pos pins s σ H Q I h
theorem wS.by {t : TS} {D : Ends} (p : PS X st t) (h : t D σ H) : wS X st D σ H := fun pins s I => p.run pins s σ H D I h
theorem wSs.by {t : TS} {D : Ends} (p : PSs X sts t) (h : t D σ H) : wSs X sts D σ H := fun pins s I => p.run pins s σ H D I h
theorem wE.mono {Q Q' : VK} (h : wE X e σ H Q) (k : ∀ v H', Q v H' → Q' v H') : wE X e σ H Q' := fun pins s I =>
  thn (h pins s I) fun u s' z => by
    obtain ⟨v, H', I', r, q⟩ := z
    exact ⟨v, H', I', r, k v H' q⟩
theorem wT.mono {Q Q' : Bool → Hp → Prop} (h : wT X e σ H Q) (k : ∀ v H', Q v H' → Q' v H') : wT X e σ H Q' := fun pins s I =>
  thn (h pins s I) fun b s' z => by
    obtain ⟨H', I', q⟩ := z
    exact ⟨H', I', k b H' q⟩
theorem wW.mono {Q Q' : Bool → Hp → Prop} (h : wW X e σ H Q) (k : ∀ v H', Q v H' → Q' v H') : wW X e σ H Q' := fun wh pins s I =>
  thn (h wh pins s I) fun b s' z => by
    obtain ⟨H', I', q⟩ := z
    exact ⟨H', I', k b H' q⟩
theorem wA.mono {Q Q' : List V → Hp → Prop} (h : wA X es σ H Q) (k : ∀ v H', Q v H' → Q' v H') : wA X es σ H Q' := fun pos pins s I =>
  thn (h pos pins s I) fun us s' z => by
    obtain ⟨vs, H', I', r, q⟩ := z
    exact ⟨vs, H', I', r, k vs H' q⟩
theorem wW.t {Q : Bool → Hp → Prop} (h : wW X e σ H Q) : wT X e σ H Q := fun pins s I => h _ pins s I
end

/-! ### slots, owners, the frozen heap -/
/-- the slot, and the part of its thing: itself, an object's own dict, its attributes from 2 on -/
abbrev Ow := Addr → Option (Nat × Nat)
abbrev Tau := Addr → Option Nat
abbrev Cls := List (Addr × List Str)
def Tof (Θ : Ow) (i : Nat) : Tau := fun p => (Θ p).bind fun q => if q.1 = i then some q.2 else none
theorem tof_some {Θ : Ow} {i k : Nat} {p : Addr} : Tof Θ i p = some k ↔ Θ p = some (i, k) := by
  unfold Tof
  cases q : Θ p with
  | none => simp
  | some w =>
    obtain ⟨j, m⟩ := w
    simp only [Option.bind_some]
    by_cases z : j = i
    · subst z
      simp
    · simp [z]
/-- a thing that is no object -/
def RepF (K : PySem.W.Frag) (G H : Hp) (Z : Addr → Prop) : O → V → Prop
  | .d x, v => Rp K G v x
  | .ol xs, v => ∃ p vs, v = .ref p ∧ H p = some (.lst vs) ∧ G p = none ∧ RpA K G vs xs ∧ Z p
  | .od kvs, v => ∃ p us, v = .ref p ∧ H p = some (.dK us) ∧ G p = none ∧ RpK K G us kvs ∧ Z p
  | _, _ => False
def unC : List O → Nat
  | [] => 0
  | .un :: r => unC r + 1
  | _ :: r => unC r
/-- an attribute -/
def FldR (K : PySem.W.Frag) (G H : Hp) (τ : Tau) (η : Nat → Option V) (nvs : List (Str × V)) (k : Nat) (nm : Str) : O → Prop
  | .un => nvs.lookup nm = none
  | .hid => ∃ w, nvs.lookup nm = some w ∧ η k = some w
  | o => ∃ w, nvs.lookup nm = some w ∧ RepF K G H (fun p => τ p = some (k + 2)) o w
structure ObW (K : PySem.W.Frag) (Cs : Cls) (G H : Hp) (τ : Tau) (η : Nat → Option V) (c : Nat) (fs : List O) (a dx C : Addr) (nms : List Str) (nvs : List (Str × V)) : Prop where
  cs : Cs[c]? = some (C, nms)
  nd : nms.Nodup
  few : nms.length ≤ 900
  ha : H a = some (.ins C dx nvs)
  hd : H dx = some (.own a)
  ga : G a = none
  gd : G dx = none
  ta : τ a = some 0
  td : τ dx = some 1
  ln : fs.length = nms.length
  sz : nvs.length + unC fs ≤ nms.length
  fl : ∀ k nm o, nms[k]? = some nm → fs[k]? = some o → FldR K G H τ η nvs k nm o
def RepO (K : PySem.W.Frag) (Cs : Cls) (G H : Hp) (τ : Tau) (η : Nat → Option V) : O → V → Prop
  | .ob c fs, v => ∃ a dx C nms nvs, v = .ref a ∧ ObW K Cs G H τ η c fs a dx C nms nvs
  | .hid, _ => True
  | o, v => RepF K G H (fun p => τ p = some 0) o v
structure Sts (K : PySem.W.Frag) (Cs : Cls) (hv : Nat → Nat → Option V) (Θ : Ow) (G H : Hp) (e : Sl) (σ : L2.St) : Prop where
  gh : Same G H
  th : ∀ a q, Θ a = some q → H a ≠ none
  len : e.length = σ.length
  sl : ∀ i o, (e[i]?).join = some o → ∃ v, σ[i]? = some (some v) ∧ RepO K Cs G H (Tof Θ i) (hv i) o v
structure Stp (Θ : Ow) (G H : Hp) (Θ' : Ow) (G' H' : Hp) : Prop where
  g : Same G G'
  h : ∀ a o, H a = some o → Θ a = none → H' a = some o ∧ G' a = G a ∧ Θ' a = none
  m : ∀ a q, Θ a = some q → Θ' a = some q
section
variable {K : PySem.W.Frag} {Cs : Cls} {hv hv' : Nat → Nat → Option V} {Θ Θ' Θ1 Θ2 : Ow} {τ τ' : Tau} {η η' : Nat → Option V} {G G' G1 G2 H H0 H' H1 H2 : Hp} {e e' : Sl} {σ σ' : L2.St} {av : AV} {v : V} {o : O} {d : D} {Z Z' : Addr → Prop}
theorem RepF.mono (g : Same G G') (k : ∀ p, Z p → H' p = H p ∧ G' p = G p ∧ Z' p) : ∀ {o : O} {v : V}, RepF K G H Z o v → RepF K G' H' Z' o v
  | .d x, v, h => Rp.mono g x v h
  | .ol xs, v, h => by
    obtain ⟨p, vs, h1, h2, h3, h4, h5⟩ := h
    obtain ⟨k1, k2, k3⟩ := k p h5
    exact ⟨p, vs, h1, by rw [k1]; exact h2, by rw [k2]; exact h3, RpA.mono g xs vs h4, k3⟩
  | .od kvs, v, h => by
    obtain ⟨p, vs, h1, h2, h3, h4, h5⟩ := h
    obtain ⟨k1, k2, k3⟩ := k p h5
    exact ⟨p, vs, h1, by rw [k1]; exact h2, by rw [k2]; exact h3, RpK.mono g kvs vs h4, k3⟩
  | .ob _ _, _, h => h.elim
  | .un, _, h => h.elim
  | .hid, _, h => h.elim
theorem FldR.mono {nvs nvs' : List (Str × V)} {k : Nat} {nm : Str} (hn : nvs'.lookup nm = nvs.lookup nm) (he : ∀ w, η k = some w → η' k = some w) (g : Same G G') (kk : ∀ p, τ p = some (k + 2) → H' p = H p ∧ G' p = G p ∧ τ' p = some (k + 2)) :
    ∀ {o : O}, FldR K G H τ η nvs k nm o → FldR K G' H' τ' η' nvs' k nm o
  | .un, h => hn.trans h
  | .hid, ⟨w, h1, h2⟩ => ⟨w, hn.trans h1, he w h2⟩
  | .d x, ⟨w, h1, h2⟩ => ⟨w, hn.trans h1, RepF.mono g kk h2⟩
  | .ol x, ⟨w, h1, h2⟩ => ⟨w, hn.trans h1, RepF.mono g kk h2⟩
  | .od x, ⟨w, h1, h2⟩ => ⟨w, hn.trans h1, RepF.mono g kk h2⟩
  | .ob _ _, ⟨w, h1, h2⟩ => h2.elim
theorem ObW.mono {c : Nat} {fs : List O} {a dx C : Addr} {nms : List Str} {nvs : List (Str × V)} (h : ObW K Cs G H τ η c fs a dx C nms nvs) (he : ∀ k w, η k = some w → η' k = some w) (g : Same G G')
    (k : ∀ p m, τ p = some m → H' p = H p ∧ G' p = G p ∧ τ' p = some m) : ObW K Cs G' H' τ' η' c fs a dx C nms nvs where
  cs := h.cs
  nd := h.nd
  few := h.few
  ha := by rw [(k a 0 h.ta).1]; exact h.ha
  hd := by rw [(k dx 1 h.td).1]; exact h.hd
  ga := by rw [(k a 0 h.ta).2.1]; exact h.ga
  gd := by rw [(k dx 1 h.td).2.1]; exact h.gd
  ta := (k a 0 h.ta).2.2
  td := (k dx 1 h.td).2.2
  ln := h.ln
  sz := h.sz
  fl := fun j nm o h1 h2 => FldR.mono rfl (he j) g (fun p q => k p _ q) (h.fl j nm o h1 h2)
theorem RepO.mono (he : ∀ k w, η k = some w → η' k = some w) (g : Same G G') (k : ∀ p m, τ p = some m → H' p = H p ∧ G' p = G p ∧ τ' p = some m) : ∀ {o : O} {v : V}, RepO K Cs G H τ η o v → RepO K Cs G' H' τ' η' o v
  | .d x, v, h => Rp.mono g x v h
  | .ol xs, v, h => RepF.mono (o := .ol xs) g (fun p q => k p 0 q) h
  | .od xs, v, h => RepF.mono (o := .od xs) g (fun p q => k p 0 q) h
  | .ob c fs, v, ⟨a, dx, C, nms, nvs, h1, h2⟩ => ⟨a, dx, C, nms, nvs, h1, h2.mono he g k⟩
  | .un, _, h => h.elim
  | .hid, _, h => h
theorem Stp.refl : Stp Θ G H Θ G H := ⟨Same.refl _, fun _ _ h t => ⟨h, rfl, t⟩, fun _ _ h => h⟩
theorem Stp.trans (a : Stp Θ G H Θ1 G1 H1) (b : Stp Θ1 G1 H1 Θ2 G2 H2) : Stp Θ G H Θ2 G2 H2 :=
  ⟨a.g.trans b.g, fun p o h t => by
    obtain ⟨h1, g1, t1⟩ := a.h p o h t
    obtain ⟨h2, g2, t2⟩ := b.h p o h1 t1
    exact ⟨h2, g2.trans g1, t2⟩, fun p i h => b.m p i (a.m p i h)⟩
theorem Stp.dom (a : Stp Θ G H Θ' G' H') (s : Sts K Cs hv Θ' G' H' e σ) {p : Addr} (h : H p ≠ none) : H' p ≠ none := by
  cases q : H p with
  | none => exact absurd q h
  | some o =>
    cases t : Θ p with
    | none =>
      rw [(a.h p o q t).1]
      simp
    | some i => exact s.th p i (a.m p i t)
theorem Stp.back (a : Stp Θ G H Θ' G' H') (s : Sts K Cs hv Θ' G' H' e σ) {p : Addr} (h : H' p = none) : H p = none := by
  cases q : H p with
  | none => rfl
  | some o => exact absurd h (a.dom s (by rw [q]; simp))
theorem Sts.noOw (s : Sts K Cs hv Θ G H e σ) {p : Addr} (h : H p = none) : Θ p = none := by
  cases t : Θ p with
  | none => rfl
  | some i => exact absurd h (s.th p i t)
theorem Sts.noG (s : Sts K Cs hv Θ G H e σ) {p : Addr} (h : H p = none) : G p = none := by
  cases q : G p with
  | none => rfl
  | some o =>
    rw [s.gh p o q] at h
    cases h
/-- what the slots have stays as it is -/
theorem Sts.step (s : Sts K Cs hv Θ G H e σ) (g : Same G G') (gh : Same G' H') (th : ∀ a q, Θ' a = some q → H' a ≠ none) (k : ∀ p q, Θ p = some q → H' p = H p ∧ G' p = G p ∧ Θ' p = some q) : Sts K Cs hv Θ' G' H' e σ := by
  refine ⟨gh, th, s.len, fun i o q => ?_⟩
  obtain ⟨v, h1, h2⟩ := s.sl i o q
  refine ⟨v, h1, h2.mono (fun _ _ z => z) g fun p m z => ?_⟩
  obtain ⟨k1, k2, k3⟩ := k p (i, m) (tof_some.mp z)
  exact ⟨k1, k2, tof_some.mpr k3⟩
/-- one slot alone changes -/
theorem Sts.change {i : Nat} {u : Option O} (s : Sts K Cs hv Θ G H e σ) (g : Same G G') (gh : Same G' H') (th : ∀ a q, Θ' a = some q → H' a ≠ none) (k : ∀ p j m, Θ p = some (j, m) → j ≠ i → H' p = H p ∧ G' p = G p ∧ Θ' p = some (j, m))
    (hl : σ'.length = σ.length) (hs : ∀ j, j ≠ i → σ'[j]? = σ[j]?) (he : ∀ j, j ≠ i → hv' j = hv j) (r : ∀ o, i < e.length → u = some o → ∃ v, σ'[i]? = some (some v) ∧ RepO K Cs G' H' (Tof Θ' i) (hv' i) o v) : Sts K Cs hv' Θ' G' H' (e.set i u) σ' := by
  refine ⟨gh, th, by rw [List.length_set, hl]; exact s.len, fun j o q => ?_⟩
  by_cases hi : i < e.length
  · by_cases z : j = i
    · subst z
      rw [List.getElem?_set_self hi] at q
      exact r o hi q
    · rw [List.getElem?_set_ne (Ne.symm z)] at q
      obtain ⟨v, h1, h2⟩ := s.sl j o q
      refine ⟨v, (hs j z).trans h1, ?_⟩
      rw [he j z]
      refine h2.mono (fun _ _ z => z) g fun p m w => ?_
      obtain ⟨k1, k2, k3⟩ := k p j m (tof_some.mp w) z
      exact ⟨k1, k2, tof_some.mpr k3⟩
  · rw [List.set_eq_of_length_le (by omega)] at q
    have hj : j < e.length := by
      cases w : e[j]? with
      | none =>
        rw [w] at q
        cases q
      | some x => exact (List.getElem?_eq_some_iff.mp w).1
    have z : j ≠ i := by omega
    obtain ⟨v, h1, h2⟩ := s.sl j o q
    refine ⟨v, (hs j z).trans h1, ?_⟩
    rw [he j z]
    refine h2.mono (fun _ _ z => z) g fun p m w => ?_
    obtain ⟨k1, k2, k3⟩ := k p j m (tof_some.mp w) z
    exact ⟨k1, k2, tof_some.mpr k3⟩
theorem rp_dict {us : List (Key × V)} {kvs : List (D × D)} {p : Addr} (h : H p = some (.dK us)) (r : RpK K H us kvs) : Rp K H (.ref p) (.dict kvs) := .dct (.inl h) r
theorem RepF.full (g : Same G H) : ∀ {o : O} {v : V}, RepF K G H Z o v → o.dat = some d → Rp K H v d
  | .d x, v, h, e => by
    cases e
    exact Rp.mono g _ v h
  | .ol xs, v, h, e => by
    cases e
    obtain ⟨p, vs, rfl, hp, _, r, _⟩ := h
    exact .lst (SqL.of hp) (RpA.mono g xs vs r)
  | .od xs, v, h, e => by
    cases e
    obtain ⟨p, vs, rfl, hp, _, r, _⟩ := h
    exact rp_dict hp (RpK.mono g xs vs r)
  | .ob _ _, _, h, _ => h.elim
  | .un, _, h, _ => h.elim
  | .hid, _, h, _ => h.elim
theorem RepO.full (g : Same G H) : ∀ {o : O} {v : V}, RepO K Cs G H τ η o v → o.dat = some d → Rp K H v d
  | .d x, v, h, e => RepF.full (K := K) (G := G) (H := H) (Z := fun _ => True) (o := .d x) g h e
  | .ol xs, v, h, e => RepF.full (o := .ol xs) g h e
  | .od xs, v, h, e => RepF.full (o := .od xs) g h e
  | .ob _ _, _, h, e => by cases e
  | .un, _, h, _ => h.elim
  | .hid, _, h, e => by cases e
/-- what av is, the value v standing for it; H0: the heap ahead, in which a new thing was not; U: the new thing's places -/
def AVok (K : PySem.W.Frag) (Cs : Cls) (Θ : Ow) (H0 G H : Hp) (σ : L2.St) (U : Addr → Prop) : AV → V → Prop
  | .pl i, v => σ[i]? = some (some v)
  | .pf i c k, v => ∃ a C dx nvs nms nm, σ[i]? = some (some (.ref a)) ∧ H a = some (.ins C dx nvs) ∧ Cs[c]? = some (C, nms) ∧ nms[k]? = some nm ∧ nvs.lookup nm = some v
  | .tm o, v => ∃ τ, RepO K Cs G H τ (fun _ => none) o v ∧ ∀ p m, τ p = some m → U p ∧ Θ p = none ∧ H0 p = none ∧ ∃ u, H p = some u
def AV.isPf : AV → Bool
  | .pf _ _ _ => true
  | _ => false
variable {U U' : Addr → Prop}
theorem AVok.dat (r : Rp K G v d) : AVok K Cs Θ H0 G H σ U (.tm (.d d)) v := ⟨fun _ => none, r, fun _ _ z => nomatch z⟩
theorem Sts.obj {i c : Nat} {fs : List O} (s : Sts K Cs hv Θ G H e σ) (h : (e[i]?).join = some (.ob c fs)) : ∃ a dx C nms nvs, σ[i]? = some (some (.ref a)) ∧ ObW K Cs G H (Tof Θ i) (hv i) c fs a dx C nms nvs := by
  obtain ⟨v, h1, a, dx, C, nms, nvs, rfl, h2⟩ := s.sl i _ h
  exact ⟨a, dx, C, nms, nvs, h1, h2⟩
theorem pf_get {i c k : Nat} (h : (AV.pf i c k).get e = some o) : ∃ fs, (e[i]?).join = some (.ob c fs) ∧ fs[k]? = some o := by
  have h : (match (e[i]?).join with
    | some (.ob c' fs) => if c' = c then fs[k]? else none
    | _ => none) = some o := h
  cases q : (e[i]?).join with
  | none =>
    rw [q] at h
    cases h
  | some u =>
    rw [q] at h
    cases u <;> try (cases h)
    rename_i c' fs
    have h : (if c' = c then fs[k]? else none) = some o := h
    by_cases z : c' = c
    · subst z
      rw [if_pos rfl] at h
      exact ⟨fs, rfl, h⟩
    · rw [if_neg z] at h
      cases h
/-- the attribute that is meant -/
theorem Sts.field {i c k : Nat} {fs : List O} (s : Sts K Cs hv Θ G H e σ) (a : AVok K Cs Θ H0 G H σ U (.pf i c k) v) (h : (e[i]?).join = some (.ob c fs)) (hk : fs[k]? = some o) :
    ∃ p dx C nms nvs nm, σ[i]? = some (some (.ref p)) ∧ ObW K Cs G H (Tof Θ i) (hv i) c fs p dx C nms nvs ∧ nms[k]? = some nm ∧ nvs.lookup nm = some v ∧ FldR K G H (Tof Θ i) (hv i) nvs k nm o := by
  obtain ⟨p, C, dx, nvs, nms, nm, h1, h2, h3, h4, h5⟩ := a
  obtain ⟨p', dx', C', nms', nvs', k1, W⟩ := s.obj h
  rw [h1] at k1
  cases k1
  have e1 := W.ha
  rw [h2] at e1
  cases e1
  have e2 := W.cs
  rw [h3] at e2
  cases e2
  exact ⟨p, dx, C, nms, nvs, nm, h1, W, h4, h5, W.fl k nm o h4 hk⟩
theorem FldR.flat {nvs : List (Str × V)} {k : Nat} {nm : Str} (h : FldR K G H τ η nvs k nm o) (hn : nvs.lookup nm = some v) (hd : o.dat = some d) : RepF K G H (fun p => τ p = some (k + 2)) o v := by
  cases o <;> try (cases hd)
  all_goals
    obtain ⟨w, h1, h2⟩ := h
    rw [hn] at h1
    cases h1
    exact h2
theorem AVok.rp (s : Sts K Cs hv Θ G H e σ) (a : AVok K Cs Θ H0 G H σ U av v) (h : av.dat e = some d) : Rp K H v d := by
  unfold AV.dat at h
  cases q : av.get e with
  | none =>
    rw [q] at h
    cases h
  | some o =>
    rw [q] at h
    have h : o.dat = some d := h
    cases av with
    | pl i =>
      obtain ⟨w, h1, h2⟩ := s.sl i o q
      have a' : σ[i]? = some (some v) := a
      rw [h1] at a'
      cases a'
      exact h2.full s.gh h
    | pf i c k =>
      obtain ⟨fs, q1, q2⟩ := pf_get q
      obtain ⟨p, dx, C, nms, nvs, nm, _, _, _, k5, k6⟩ := s.field a q1 q2
      exact (k6.flat k5 h).full s.gh h
    | tm u =>
      have q' : u = o := Option.some.inj q
      subst q'
      obtain ⟨τ, r, _⟩ := a
      exact r.full s.gh h
theorem rp_list {xs : List D} (h : Rp K H v (.list xs)) : ∃ p vs, v = .ref p ∧ SqL K H p vs ∧ RpA K H vs xs := by
  cases h with
  | lst a b => exact ⟨_, _, rfl, a, b⟩
/-- a list or a tuple: what it has are data of the frozen heap -/
theorem RepF.lst {xs : List D} (g : Same G H) : ∀ {o : O} {v : V}, RepF K G H Z o v → o.dat = some (.list xs) → ∃ p vs, v = .ref p ∧ SqL K H p vs ∧ RpA K G vs xs
  | .d x, v, h, e => by
    cases e
    cases h with
    | lst r1 r2 => exact ⟨_, _, rfl, g.seq r1, r2⟩
  | .ol ys, v, h, e => by
    cases e
    obtain ⟨p, vs, rfl, hp, _, r, _⟩ := h
    exact ⟨p, vs, rfl, SqL.of hp, r⟩
  | .od _, _, h, e => by cases e
  | .ob _ _, _, h, _ => h.elim
  | .un, _, h, _ => h.elim
  | .hid, _, h, _ => h.elim
theorem RepF.tup {xs : List D} (g : Same G H) : ∀ {o : O} {v : V}, RepF K G H Z o v → o.dat = some (.tuple xs) → ∃ p vs, v = .ref p ∧ SqT K G p vs ∧ RpA K G vs xs
  | .d x, v, h, e => by
    cases e
    cases h with
    | tup r1 r2 => exact ⟨_, _, rfl, r1, r2⟩
  | .ol ys, v, h, e => by cases e
  | .od _, _, h, e => by cases e
  | .ob _ _, _, h, _ => h.elim
  | .un, _, h, _ => h.elim
  | .hid, _, h, _ => h.elim
theorem RepF.dct {kvs : List (D × D)} (g : Same G H) : ∀ {o : O} {v : V}, RepF K G H Z o v → o.dat = some (.dict kvs) → ∃ p us, v = .ref p ∧ Rd H p (.dK us) ∧ RpK K G us kvs
  | .d x, v, h, e => by
    cases e
    cases h with
    | dct r1 r2 => exact ⟨_, _, rfl, Y.Same.rd g r1, r2⟩
  | .ol ys, v, h, e => by cases e
  | .od ys, v, h, e => by
    cases e
    obtain ⟨p, vs, rfl, hp, _, r, _⟩ := h
    exact ⟨p, vs, rfl, .inl hp, r⟩
  | .ob _ _, _, h, _ => h.elim
  | .un, _, h, _ => h.elim
  | .hid, _, h, _ => h.elim
theorem RepO.flat : ∀ {o : O} {v : V}, RepO K Cs G H τ η o v → o.dat = some d → RepF K G H (fun p => τ p = some 0) o v
  | .d x, v, h, e => h
  | .ol xs, v, h, e => h
  | .od xs, v, h, e => h
  | .ob _ _, _, h, e => by cases e
  | .un, _, h, _ => h.elim
  | .hid, _, h, e => by cases e
theorem AVok.flat (s : Sts K Cs hv Θ G H e σ) (a : AVok K Cs Θ H0 G H σ U av v) (h : av.dat e = some d) : ∃ o Z, o.dat = some d ∧ RepF K G H Z o v := by
  unfold AV.dat at h
  cases q : av.get e with
  | none =>
    rw [q] at h
    cases h
  | some o =>
    rw [q] at h
    have h : o.dat = some d := h
    refine ⟨o, ?_⟩
    cases av with
    | pl i =>
      obtain ⟨w, h1, h2⟩ := s.sl i o q
      have a' : σ[i]? = some (some v) := a
      rw [h1] at a'
      cases a'
      exact ⟨_, h, h2.flat h⟩
    | pf i c k =>
      obtain ⟨fs, q1, q2⟩ := pf_get q
      obtain ⟨p, dx, C, nms, nvs, nm, _, _, _, k5, k6⟩ := s.field a q1 q2
      exact ⟨_, h, k6.flat k5 h⟩
    | tm u =>
      have q' : u = o := Option.some.inj q
      subst q'
      obtain ⟨τ, r, _⟩ := a
      exact ⟨_, h, r.flat h⟩
theorem AVok.lst {xs : List D} (s : Sts K Cs hv Θ G H e σ) (a : AVok K Cs Θ H0 G H σ U av v) (h : av.dat e = some (.list xs)) : ∃ p vs, v = .ref p ∧ SqL K H p vs ∧ RpA K G vs xs := by
  obtain ⟨o, Z, h1, h2⟩ := a.flat s h
  exact h2.lst s.gh h1
theorem AVok.tup {xs : List D} (s : Sts K Cs hv Θ G H e σ) (a : AVok K Cs Θ H0 G H σ U av v) (h : av.dat e = some (.tuple xs)) : ∃ p vs, v = .ref p ∧ SqT K G p vs ∧ RpA K G vs xs := by
  obtain ⟨o, Z, h1, h2⟩ := a.flat s h
  exact h2.tup s.gh h1
theorem AVok.dct {kvs : List (D × D)} (s : Sts K Cs hv Θ G H e σ) (a : AVok K Cs Θ H0 G H σ U av v) (h : av.dat e = some (.dict kvs)) : ∃ p us, v = .ref p ∧ Rd H p (.dK us) ∧ RpK K G us kvs := by
  obtain ⟨o, Z, h1, h2⟩ := a.flat s h
  exact h2.dct s.gh h1
theorem AVok.mono (p : Stp Θ G H Θ' G' H') (hn : av.isPf = false) (a : AVok K Cs Θ H0 G H σ U av v) : AVok K Cs Θ' H0 G' H' σ U av v := by
  cases av with
  | pl i => exact a
  | pf i c k => cases hn
  | tm o =>
    obtain ⟨τ, r, q⟩ := a
    refine ⟨τ, r.mono (fun _ _ z => z) p.g fun b m z => ?_, fun b m z => ?_⟩
    · obtain ⟨q1, q2, q3, u, q4⟩ := q b m z
      obtain ⟨k1, k2, _⟩ := p.h b u q4 q2
      exact ⟨k1.trans q4.symm, k2, z⟩
    · obtain ⟨q1, q2, q3, u, q4⟩ := q b m z
      obtain ⟨k1, _, k3⟩ := p.h b u q4 q2
      exact ⟨q1, k3, q3, u, k1⟩
theorem AVok.old (k : ∀ a, H1 a = none → H0 a = none) (a : AVok K Cs Θ H1 G H σ U av v) : AVok K Cs Θ H0 G H σ U av v := by
  cases av with
  | pl i => exact a
  | pf i c k => exact a
  | tm o =>
    obtain ⟨τ, r, q⟩ := a
    refine ⟨τ, r, fun b m z => ?_⟩
    obtain ⟨q1, q2, q3, q4⟩ := q b m z
    exact ⟨q1, q2, k b q3, q4⟩
theorem AVok.imp (k : ∀ p, U p → U' p) (a : AVok K Cs Θ H0 G H σ U av v) : AVok K Cs Θ H0 G H σ U' av v := by
  cases av with
  | pl i => exact a
  | pf i c k => exact a
  | tm o =>
    obtain ⟨τ, r, q⟩ := a
    refine ⟨τ, r, fun b m z => ?_⟩
    obtain ⟨q1, q2, q3, q4⟩ := q b m z
    exact ⟨k b q1, q2, q3, q4⟩
/-- a new object is laid -/
theorem Sts.laid {p : Addr} {u : HO} (s : Sts K Cs hv Θ G H e σ) (h : H p = none) : Sts K Cs hv Θ G (upd H p u) e σ := by
  have nw := s.noOw h
  have ne : ∀ a q, Θ a = some q → a ≠ p := fun a q z w => by
    subst w
    rw [nw] at z
    cases z
  refine s.step (Same.refl _) (s.gh.trans (Same.new h)) (fun a q t => ?_) fun a q t => ⟨upd_ne (ne a q t), rfl, t⟩
  rw [upd_ne (ne a q t)]
  exact s.th a q t
theorem Stp.laid {p : Addr} {u : HO} (h : H p = none) : Stp Θ G H Θ G (upd H p u) := ⟨Same.refl _, fun a o q t => ⟨Same.new h a o q, rfl, t⟩, fun _ _ t => t⟩
/-- a new object is laid that stays as it is: a tuple -/
theorem Sts.froz {p : Addr} {u : HO} (s : Sts K Cs hv Θ G H e σ) (h : H p = none) : Sts K Cs hv Θ (upd G p u) (upd H p u) e σ := by
  have nw := s.noOw h
  have hg := s.noG h
  have ne : ∀ a q, Θ a = some q → a ≠ p := fun a q z w => by
    subst w
    rw [nw] at z
    cases z
  refine s.step (Same.new hg) (fun a o q => ?_) (fun a q t => ?_) fun a q t => ⟨upd_ne (ne a q t), upd_ne (ne a q t), t⟩
  · by_cases z : a = p
    · subst z
      rw [upd_same] at q ⊢
      exact q
    · rw [upd_ne z] at q ⊢
      exact s.gh a o q
  · rw [upd_ne (ne a q t)]
    exact s.th a q t
theorem Stp.froz {p : Addr} {u : HO} (gh : Same G H) (h : H p = none) : Stp Θ G H Θ (upd G p u) (upd H p u) := by
  have hg : G p = none := by
    cases q : G p with
    | none => rfl
    | some o =>
      rw [gh p o q] at h
      cases h
  exact ⟨Same.new hg, fun a o q t => ⟨Same.new h a o q, upd_ne (ne_of_none q h), t⟩, fun _ _ t => t⟩
/-- a thing that no slot has stays as it is from now on -/
theorem Sts.keep {p : Addr} {u : HO} (s : Sts K Cs hv Θ G H e σ) (h : H p = some u) (hg : G p = none) (no : Θ p = none) : Sts K Cs hv Θ (upd G p u) H e σ := by
  refine s.step (Same.new hg) (fun a o q => ?_) s.th fun a q t => ⟨rfl, upd_ne (fun w => ?_), t⟩
  · by_cases z : a = p
    · subst z
      rw [upd_same] at q
      rw [h]
      exact q
    · rw [upd_ne z] at q
      exact s.gh a o q
  · subst w
    rw [no] at t
    cases t
end
end Y

/-! Y5: taking, storing, hiding. -/
namespace Y
open PySem PySem.Spec PyProof.Rows L2
section
variable {K : PySem.W.Frag} {Cs : Cls} {hv hv' : Nat → Nat → Option V} {Θ Θ' Θ1 Θ2 : Ow} {τ τ' : Tau} {η η' : Nat → Option V} {G0 G G' G1 G2 H H0 H' H1 H2 : Hp} {e e' : Sl} {σ σ' : L2.St} {av : AV} {v : V} {o : O} {d : D} {Z Z' : Addr → Prop} {U U' : Addr → Prop} {avs : List AV} {vs : List V}
theorem join_set {i j : Nat} {o : Option O} (h : i < e.length) : (((e.set i o)[j]?).join) = if j = i then o else (e[j]?).join := by
  by_cases z : j = i
  · subst z
    rw [if_pos rfl, List.getElem?_set_self h]
    rfl
  · rw [if_neg z, List.getElem?_set_ne (Ne.symm z)]
theorem join_lt {i : Nat} {o : O} (h : (e[i]?).join = some o) : i < e.length := by
  cases q : e[i]? with
  | none =>
    rw [q] at h
    cases h
  | some u => exact (List.getElem?_eq_some_iff.mp q).1
theorem unC_set : ∀ {fs : List O} {k : Nat} {o' : O}, fs[k]? ≠ some .un → o' ≠ .un → unC (fs.set k o') = unC fs
  | [], _, _, _, _ => rfl
  | a :: r, 0, o', h1, h2 => by
    have h1 : a ≠ .un := fun z => h1 (by rw [z]; rfl)
    show unC (o' :: r) = unC (a :: r)
    have e1 : ∀ x : O, x ≠ .un → unC (x :: r) = unC r := fun x hx => by cases x <;> first | rfl | exact absurd rfl hx
    rw [e1 _ h2, e1 _ h1]
  | a :: r, k + 1, o', h1, h2 => by
    have ih := unC_set (fs := r) (k := k) (o' := o') (by simpa using h1) h2
    show unC (a :: r.set k o') = unC (a :: r)
    cases a <;> simp [unC, ih]
theorem unC_fill : ∀ {fs : List O} {k : Nat} {o' : O}, fs[k]? = some .un → o' ≠ .un → unC (fs.set k o') + 1 = unC fs
  | [], k, _, h, _ => by simp at h
  | a :: r, 0, o', h1, h2 => by
    have h1 : a = .un := by simpa using h1
    subst h1
    show unC (o' :: r) + 1 = unC r + 1
    cases o' <;> first | rfl | exact absurd rfl h2
  | a :: r, k + 1, o', h1, h2 => by
    have ih := unC_fill (fs := r) (k := k) (o' := o') (by simpa using h1) h2
    show unC (a :: r.set k o') + 1 = unC (a :: r)
    cases a <;> simp [unC] <;> omega
/-- one attribute is looked at anew -/
theorem ObW.put {c k : Nat} {fs : List O} {a dx C : Addr} {nms : List Str} {nvs : List (Str × V)} {o' : O} (W : ObW K Cs G H τ η c fs a dx C nms nvs) (g : Same G G') (hk : ∀ p m, τ p = some m → m ≠ k + 2 → H' p = H p ∧ G' p = G p ∧ τ' p = some m)
    (he : ∀ j w, j ≠ k → η j = some w → η' j = some w) (h1 : fs[k]? ≠ some .un) (h2 : o' ≠ .un) (new : ∀ nm, nms[k]? = some nm → k < fs.length → FldR K G' H' τ' η' nvs k nm o') : ObW K Cs G' H' τ' η' c (fs.set k o') a dx C nms nvs where
  cs := W.cs
  nd := W.nd
  few := W.few
  ha := by rw [(hk a 0 W.ta (by omega)).1]; exact W.ha
  hd := by rw [(hk dx 1 W.td (by omega)).1]; exact W.hd
  ga := by rw [(hk a 0 W.ta (by omega)).2.1]; exact W.ga
  gd := by rw [(hk dx 1 W.td (by omega)).2.1]; exact W.gd
  ta := (hk a 0 W.ta (by omega)).2.2
  td := (hk dx 1 W.td (by omega)).2.2
  ln := by rw [List.length_set]; exact W.ln
  sz := by rw [unC_set h1 h2]; exact W.sz
  fl := fun j nm o hn ho => by
    by_cases z : j = k
    · subst z
      have hl : j < fs.length := by
        have := (List.getElem?_eq_some_iff.mp ho).1
        rw [List.length_set] at this
        exact this
      rw [List.getElem?_set_self hl] at ho
      cases ho
      exact new nm hn hl
    · rw [List.getElem?_set_ne (Ne.symm z)] at ho
      exact FldR.mono rfl (fun w => he j w z) g (fun p q => hk p _ q (by omega)) (W.fl j nm o hn ho)
structure Frz (Θ : Ow) (G G' : Hp) (U : Addr → Prop) : Prop where
  g : Same G G'
  n : ∀ a, G' a ≠ G a → U a ∨ Θ a ≠ none
theorem Frz.refl : Frz Θ G G U := ⟨Same.refl _, fun _ h => absurd rfl h⟩
theorem Frz.stp (f : Frz Θ G G' U) (st : Stp Θ' G0 H0 Θ G H) (h : ∀ p, U p → H0 p = none) : Stp Θ' G0 H0 Θ G' H :=
  ⟨st.g.trans f.g, fun a o q t => by
    obtain ⟨h1, h2, h3⟩ := st.h a o q t
    refine ⟨h1, ?_, h3⟩
    by_cases z : G' a = G a
    · exact z.trans h2
    · rcases f.n a z with w | w
      · rw [h a w] at q
        cases q
      · exact absurd h3 w, st.m⟩
theorem same_dict {p : Addr} {u : HO} (h : H p = some u) (g : Same G H) : Same (upd G p u) H := fun a o q => by
  by_cases z : a = p
  · subst z
    rw [upd_same] at q
    rw [h]
    exact q
  · rw [upd_ne z] at q
    exact g a o q
/-- a slot's own thing at p is a datum from now on -/
theorem Sts.dry {i : Nat} {p : Addr} {u : HO} {m : Nat} {o' : O} (s : Sts K Cs hv Θ G H e σ) (hi : i < e.length) (hp : H p = some u) (hg : G p = none) (ht : Θ p = some (i, m)) (hs : σ[i]? = some (some v)) (r : RepO K Cs (upd G p u) H (Tof Θ i) (hv i) o' v) :
    Sts K Cs hv Θ (upd G p u) H (e.set i (some o')) σ := by
  refine s.change (i := i) (Same.new hg) (same_dict hp s.gh) s.th (fun q j k h z => ⟨rfl, upd_ne (fun w => ?_), h⟩) rfl (fun _ _ => rfl) (fun _ _ => rfl) fun o _ e => ?_
  · subst w
    rw [ht] at h
    cases h
    exact z rfl
  · cases e
    exact ⟨v, hs, r⟩
theorem Frz.one {p : Addr} {u : HO} (hg : G p = none) (h : U p ∨ Θ p ≠ none) : Frz Θ G (upd G p u) U := ⟨Same.new hg, fun a z => by
  by_cases w : a = p
  · subst w
    exact h
  · exact absurd (upd_ne w) z⟩
theorem take_ok (s : Sts K Cs hv Θ G H e σ) (a : AVok K Cs Θ H0 G H σ U av v) (h : take av e = some (d, e')) : ∃ G', Frz Θ G G' U ∧ Sts K Cs hv Θ G' H e' σ ∧ Rp K G' v d := by
  cases av with
  | tm o =>
    obtain ⟨τ, r, q⟩ := a
    have h : (o.dat.map fun x => (x, e)) = some (d, e') := h
    cases o <;> try (cases h)
    · exact ⟨G, Frz.refl, s, r⟩
    · rename_i xs
      obtain ⟨p, ws, rfl, h2, h3, h4, h5⟩ := r
      obtain ⟨q1, q2, q3, _⟩ := q p 0 h5
      exact ⟨upd G p (.lst ws), Frz.one h3 (.inl q1), s.keep h2 h3 q2, .lst (SqL.of upd_same) (RpA.mono (Same.new h3) xs ws h4)⟩
    · rename_i xs
      obtain ⟨p, ws, rfl, h2, h3, h4, h5⟩ := r
      obtain ⟨q1, q2, q3, _⟩ := q p 0 h5
      exact ⟨upd G p (.dK ws), Frz.one h3 (.inl q1), s.keep h2 h3 q2, rp_dict upd_same (RpK.mono (Same.new h3) xs ws h4)⟩
  | pl i =>
    have a : σ[i]? = some (some v) := a
    have h : (match (e[i]?).join with
      | some (.d x) => some (x, e)
      | some (.ol xs) => some (.list xs, e.set i (some (.d (.list xs))))
      | some (.od kvs) => some (.dict kvs, e.set i (some (.d (.dict kvs))))
      | _ => none) = some (d, e') := h
    cases q : (e[i]?).join with
    | none =>
      rw [q] at h
      cases h
    | some u =>
      rw [q] at h
      obtain ⟨w, k1, k2⟩ := s.sl i u q
      rw [a] at k1
      cases k1
      cases u <;> try (cases h)
      · exact ⟨G, Frz.refl, s, k2⟩
      · rename_i xs
        obtain ⟨p, ws, rfl, h2, h3, h4, h5⟩ := k2
        have ht := tof_some.mp h5
        have rr : Rp K (upd G p (.lst ws)) (.ref p) (.list xs) := .lst (SqL.of upd_same) (RpA.mono (Same.new h3) xs ws h4)
        exact ⟨upd G p (.lst ws), Frz.one h3 (.inr (by rw [ht]; simp)), s.dry (o' := .d (.list xs)) (join_lt q) h2 h3 ht a rr, rr⟩
      · rename_i xs
        obtain ⟨p, ws, rfl, h2, h3, h4, h5⟩ := k2
        have ht := tof_some.mp h5
        have rr : Rp K (upd G p (.dK ws)) (.ref p) (.dict xs) := rp_dict upd_same (RpK.mono (Same.new h3) xs ws h4)
        exact ⟨upd G p (.dK ws), Frz.one h3 (.inr (by rw [ht]; simp)), s.dry (o' := .d (.dict xs)) (join_lt q) h2 h3 ht a rr, rr⟩
  | pf i c k =>
    have h : (match (e[i]?).join with
      | some (.ob c' fs) => if c' = c then match fs[k]? with
          | some (.d x) => some (x, e)
          | some (.ol xs) => some (.list xs, e.set i (some (.ob c' (fs.set k (.d (.list xs))))))
          | some (.od kvs) => some (.dict kvs, e.set i (some (.ob c' (fs.set k (.d (.dict kvs))))))
          | _ => none
        else none
      | _ => none) = some (d, e') := h
    cases q : (e[i]?).join with
    | none =>
      rw [q] at h
      cases h
    | some u =>
      rw [q] at h
      cases u <;> try (cases h)
      rename_i c' fs
      have h : (if c' = c then match fs[k]? with
          | some (.d x) => some (x, e)
          | some (.ol xs) => some (.list xs, e.set i (some (.ob c' (fs.set k (.d (.list xs))))))
          | some (.od kvs) => some (.dict kvs, e.set i (some (.ob c' (fs.set k (.d (.dict kvs))))))
          | _ => none
        else none) = some (d, e') := h
      by_cases z : c' = c
      · subst z
        rw [if_pos rfl] at h
        cases qk : fs[k]? with
        | none =>
          rw [qk] at h
          cases h
        | some u =>
          rw [qk] at h
          obtain ⟨p, dx, C, nms, nvs, nm, f1, W, f2, f3, f4⟩ := s.field a q qk
          rcases u with x | xs | xs | ⟨c2, fs2⟩ | _ | _ <;> try (exact nomatch (show (none : Option (D × Sl)) = some (d, e') from h))
          · cases h
            have := f4.flat f3 rfl
            exact ⟨G, Frz.refl, s, this⟩
          · cases h
            obtain ⟨b, ws, rfl, h2, h3, h4, h5⟩ := f4.flat f3 rfl
            have ht := tof_some.mp h5
            have rr : Rp K (upd G b (.lst ws)) (.ref b) (.list xs) := .lst (SqL.of upd_same) (RpA.mono (Same.new h3) xs ws h4)
            refine ⟨upd G b (.lst ws), Frz.one h3 (.inr (by rw [ht]; simp)), s.dry (v := .ref p) (o' := .ob c' (fs.set k (.d (.list xs)))) (join_lt q) h2 h3 ht f1 ⟨p, dx, C, nms, nvs, rfl, ?_⟩, rr⟩
            refine W.put (Same.new h3) (fun y m hy hm => ⟨rfl, upd_ne (fun w => ?_), hy⟩) (fun _ _ _ z => z) (by rw [qk]; simp) (by simp) fun nm' hn _ => ?_
            · subst w
              rw [h5] at hy
              cases hy
              exact hm rfl
            · rw [f2] at hn
              cases hn
              exact ⟨_, f3, rr⟩
          · cases h
            obtain ⟨b, ws, rfl, h2, h3, h4, h5⟩ := f4.flat f3 rfl
            have ht := tof_some.mp h5
            have rr : Rp K (upd G b (.dK ws)) (.ref b) (.dict xs) := rp_dict upd_same (RpK.mono (Same.new h3) xs ws h4)
            refine ⟨upd G b (.dK ws), Frz.one h3 (.inr (by rw [ht]; simp)), s.dry (v := .ref p) (o' := .ob c' (fs.set k (.d (.dict xs)))) (join_lt q) h2 h3 ht f1 ⟨p, dx, C, nms, nvs, rfl, ?_⟩, rr⟩
            refine W.put (Same.new h3) (fun y m hy hm => ⟨rfl, upd_ne (fun w => ?_), hy⟩) (fun _ _ _ z => z) (by rw [qk]; simp) (by simp) fun nm' hn _ => ?_
            · subst w
              rw [h5] at hy
              cases hy
              exact hm rfl
            · rw [f2] at hn
              cases hn
              exact ⟨_, f3, rr⟩
      · rw [if_neg z] at h
        cases h
/-- things in a row, apart from each other -/
inductive AVs (K : PySem.W.Frag) (Cs : Cls) (Θ : Ow) (H0 G H : Hp) (σ : L2.St) : List AV → List V → (Addr → Prop) → Prop
  | nil {U : Addr → Prop} : AVs K Cs Θ H0 G H σ [] [] U
  | cons {a : AV} {v : V} {r : List AV} {vs : List V} {U1 U2 U : Addr → Prop} : AVok K Cs Θ H0 G H σ U1 a v → a.isPf = false → AVs K Cs Θ H0 G H σ r vs U2 → (∀ p, U1 p → ¬ U2 p) → (∀ p, U1 p → U p) → (∀ p, U2 p → U p) → (∀ p, U1 p → Θ p = none ∧ H0 p = none ∧ ∃ u, H p = some u) →
      AVs K Cs Θ H0 G H σ (a :: r) (v :: vs) U
theorem AVs.length : ∀ {avs : List AV} {vs : List V} {U : Addr → Prop}, AVs K Cs Θ H0 G H σ avs vs U → avs.length = vs.length
  | _, _, _, .nil => rfl
  | _, _, _, .cons _ _ h _ _ _ _ => congrArg (· + 1) h.length
/-- what a thing has for itself -/
def Own (K : PySem.W.Frag) (Cs : Cls) (Θ : Ow) (H0 G H : Hp) : AV → V → Addr → Prop
  | .tm o, v, p => Θ p = none ∧ H0 p = none ∧ ∃ u, H p = some u
  | _, _, _ => False
/-- more is frozen -/
theorem AVok.more (a : AVok K Cs Θ H0 G H σ U av v) (g : Same G G') (n : ∀ p, U p → G' p = G p) : AVok K Cs Θ H0 G' H σ U av v := by
  cases av with
  | pl i => exact a
  | pf i c k => exact a
  | tm o =>
    obtain ⟨τ, r, q⟩ := a
    exact ⟨τ, r.mono (fun _ _ z => z) g fun p m z => ⟨rfl, n p (q p m z).1, z⟩, q⟩
theorem AVs.more : ∀ {avs : List AV} {vs : List V} {U : Addr → Prop}, AVs K Cs Θ H0 G H σ avs vs U → Same G G' → (∀ p, U p → Θ p = none → H0 p = none → G' p = G p) → AVs K Cs Θ H0 G' H σ avs vs U
  | _, _, _, .nil, _, _ => .nil
  | _, _, _, .cons h1 h2 h3 h4 h5 h6 h7, g, n => .cons (h1.more g fun p hp => n p (h5 p hp) (h7 p hp).1 (h7 p hp).2.1) h2 (h3.more g fun p hp => n p (h6 p hp)) h4 h5 h6 h7
theorem AVs.mono (p : Stp Θ G H Θ' G' H') : ∀ {avs : List AV} {vs : List V} {U : Addr → Prop}, AVs K Cs Θ H0 G H σ avs vs U → AVs K Cs Θ' H0 G' H' σ avs vs U
  | _, _, _, .nil => .nil
  | _, _, _, .cons h1 h2 h3 h4 h5 h6 h7 => .cons (h1.mono p h2) h2 (h3.mono p) h4 h5 h6 fun q hq => by
    obtain ⟨k1, k2, u, k3⟩ := h7 q hq
    obtain ⟨m1, _, m3⟩ := p.h q u k3 k1
    exact ⟨m3, k2, u, m1⟩
theorem AVs.old (k : ∀ a, H1 a = none → H0 a = none) : ∀ {avs : List AV} {vs : List V} {U : Addr → Prop}, AVs K Cs Θ H1 G H σ avs vs U → AVs K Cs Θ H0 G H σ avs vs U
  | _, _, _, .nil => .nil
  | _, _, _, .cons h1 h2 h3 h4 h5 h6 h7 => .cons (h1.old k) h2 (h3.old k) h4 h5 h6 fun q hq => ⟨(h7 q hq).1, k q (h7 q hq).2.1, (h7 q hq).2.2⟩
theorem takes_ok : ∀ {avs : List AV} {vs : List V} {U : Addr → Prop} {G : Hp} {e e' : Sl} {ds : List D}, Sts K Cs hv Θ G H e σ → AVs K Cs Θ H0 G H σ avs vs U → takes avs e = some (ds, e') →
    ∃ G', Frz Θ G G' (fun p => U p ∧ Θ p = none ∧ H0 p = none) ∧ Sts K Cs hv Θ G' H e' σ ∧ RpA K G' vs ds
  | _, _, U, G, e, e', ds, s, .nil, h => by
    have h' : (([] : List D), e) = (ds, e') := Option.some.inj h
    obtain ⟨rfl, rfl⟩ := Prod.mk.inj h'
    exact ⟨G, Frz.refl, s, .nil⟩
  | a :: r, v :: vs, U, G, e, e', ds, s, .cons (U1 := U1) (U2 := U2) a1 hn a2 h4 h5 h6 h7, h => by
    unfold takes at h
    cases q : take a e with
    | none => simp [q] at h
    | some p =>
      obtain ⟨x, e1⟩ := p
      simp only [q] at h
      obtain ⟨G1, f1, s1, r1⟩ := take_ok s a1 q
      cases q2 : takes r e1 with
      | none => simp [q2] at h
      | some p =>
        obtain ⟨xs, e2⟩ := p
        simp only [q2, Option.some.injEq, Prod.mk.injEq] at h
        obtain ⟨rfl, rfl⟩ := h
        obtain ⟨G2, f2, s2, r2⟩ := takes_ok s1 (a2.more f1.g fun p hp ht _ => by
          refine Classical.byContradiction fun z => ?_
          rcases f1.n p z with w | w
          · exact h4 p w hp
          · exact w ht) q2
        refine ⟨G2, ⟨f1.g.trans f2.g, fun b hb => ?_⟩, s2, .cons (Rp.mono f2.g x v r1) r2⟩
        by_cases z : G2 b = G1 b
        · rcases f1.n b (by rw [← z]; exact hb) with w | w
          · exact .inl ⟨h5 b w, (h7 b w).1, (h7 b w).2.1⟩
          · exact .inr w
        · rcases f2.n b z with w | w
          · exact .inl ⟨h6 b w.1, w.2⟩
          · exact .inr w
/-- an own attribute is a datum from now on -/
theorem settle_ok {av' : AV} (s : Sts K Cs hv Θ G H e σ) (a : AVok K Cs Θ H0 G H σ U av v) (h : settle av e = some (av', e')) : ∃ G', Frz Θ G G' (fun _ => False) ∧ Sts K Cs hv Θ G' H e' σ ∧ AVok K Cs Θ H0 G' H σ U av' v ∧ av'.isPf = false := by
  cases av with
  | pl i =>
    have h : (AV.pl i, e) = (av', e') := Option.some.inj h
    obtain ⟨rfl, rfl⟩ := Prod.mk.inj h
    exact ⟨G, Frz.refl, s, a, rfl⟩
  | tm o =>
    have h : (AV.tm o, e) = (av', e') := Option.some.inj h
    obtain ⟨rfl, rfl⟩ := Prod.mk.inj h
    exact ⟨G, Frz.refl, s, a, rfl⟩
  | pf i c k =>
    have h : ((take (.pf i c k) e).map fun p => (AV.tm (.d p.1), p.2)) = some (av', e') := h
    cases q : take (.pf i c k) e with
    | none =>
      rw [q] at h
      cases h
    | some p =>
      obtain ⟨x, e1⟩ := p
      rw [q] at h
      have h : (AV.tm (.d x), e1) = (av', e') := Option.some.inj h
      obtain ⟨rfl, rfl⟩ := Prod.mk.inj h
      obtain ⟨G1, f1, s1, r1⟩ := take_ok (H0 := H0) (U := fun _ => False) s (av := .pf i c k) a q
      exact ⟨G1, f1, s1, AVok.dat r1, rfl⟩
/-- a new thing stays ours, a slot's is frozen -/
theorem valO_ok (s : Sts K Cs hv Θ G H e σ) (a : AVok K Cs Θ H0 G H σ U av v) (h : valO av e = some (o, e')) : ∃ G', Frz Θ G G' (fun _ => False) ∧ Sts K Cs hv Θ G' H e' σ ∧ AVok K Cs Θ H0 G' H σ U (.tm o) v := by
  have tk : ∀ av, av ≠ .tm o → (∀ u, av ≠ .tm u) → AVok K Cs Θ H0 G H σ U av v → ((take av e).map fun p => (O.d p.1, p.2)) = some (o, e') → ∃ G', Frz Θ G G' (fun _ => False) ∧ Sts K Cs hv Θ G' H e' σ ∧ AVok K Cs Θ H0 G' H σ U (.tm o) v := fun av _ hu a h => by
    cases q : take av e with
    | none =>
      rw [q] at h
      cases h
    | some p =>
      obtain ⟨x, e1⟩ := p
      rw [q] at h
      have h : (O.d x, e1) = (o, e') := Option.some.inj h
      obtain ⟨rfl, rfl⟩ := Prod.mk.inj h
      have a2 : AVok K Cs Θ H0 G H σ (fun _ => False) av v := by
        cases av with
        | pl i => exact a
        | pf i c k => exact a
        | tm u => exact absurd rfl (hu u)
      obtain ⟨G1, f1, s1, r1⟩ := take_ok s a2 q
      exact ⟨G1, f1, s1, AVok.dat r1⟩
  cases av with
  | tm u =>
    have h' : (u, e) = (o, e') := Option.some.inj h
    obtain ⟨rfl, rfl⟩ := Prod.mk.inj h'
    exact ⟨G, Frz.refl, s, a⟩
  | pl i => exact tk (.pl i) (by simp) (by simp) a h
  | pf i c k => exact tk (.pf i c k) (by simp) (by simp) a h
theorem valOs_ok : ∀ {avs : List AV} {vs : List V} {U : Addr → Prop} {G : Hp} {e e' : Sl} {os : List O}, Sts K Cs hv Θ G H e σ → AVs K Cs Θ H0 G H σ avs vs U → valOs avs e = some (os, e') →
    ∃ G', Frz Θ G G' (fun _ => False) ∧ Sts K Cs hv Θ G' H e' σ ∧ AVs K Cs Θ H0 G' H σ (os.map AV.tm) vs U
  | _, _, U, G, e, e', os, s, .nil, h => by
    have h' : (([] : List O), e) = (os, e') := Option.some.inj h
    obtain ⟨rfl, rfl⟩ := Prod.mk.inj h'
    exact ⟨G, Frz.refl, s, .nil⟩
  | a :: r, v :: vs, U, G, e, e', os, s, .cons a1 hn a2 h4 h5 h6 h7, h => by
    unfold valOs at h
    cases q : valO a e with
    | none => simp [q] at h
    | some p =>
      obtain ⟨x, e1⟩ := p
      simp only [q] at h
      obtain ⟨G1, f1, s1, r1⟩ := valO_ok s a1 q
      cases q2 : valOs r e1 with
      | none => simp [q2] at h
      | some p =>
        obtain ⟨xs, e2⟩ := p
        simp only [q2, Option.some.injEq, Prod.mk.injEq] at h
        obtain ⟨rfl, rfl⟩ := h
        have keep : ∀ {G1 G2 : Hp} {p : Addr}, Frz Θ G1 G2 (fun _ => False) → Θ p = none → G2 p = G1 p := fun {G1 G2 p} f t => by
          refine Classical.byContradiction fun z => ?_
          rcases f.n p z with w | w
          · exact w
          · exact w t
        obtain ⟨G2, f2, s2, r2⟩ := valOs_ok s1 (a2.more f1.g fun p _ ht _ => keep f1 ht) q2
        refine ⟨G2, ⟨f1.g.trans f2.g, fun b hb => ?_⟩, s2, .cons (r1.more f2.g fun p hp => keep f2 (h7 p hp).1) rfl r2 h4 h5 h6 h7⟩
        by_cases z : G2 b = G1 b
        · exact f1.n b (by rw [← z]; exact hb)
        · exact f2.n b z
end
end Y

/-! Y6: what is out of sight; handing over, and what comes back. -/
namespace Y
open PySem PySem.Spec PyProof.Rows L2
section
variable {K : PySem.W.Frag} {Cs : Cls} {hv hv' : Nat → Nat → Option V} {Θ Θ' Θ1 Θ2 : Ow} {τ τ' : Tau} {η η' : Nat → Option V} {G0 G G' G1 G2 H H0 H' H1 H2 : Hp} {e e' e1 e2 e3 : Sl} {σ σ' : L2.St} {av : AV} {v : V} {o r : O} {d : D} {Z Z' : Addr → Prop} {U U' : Addr → Prop} {avs : List AV} {vs : List V} {os outs : List O} {i c k : Nat}
open Classical in
/-- .. without the attribute that is out of sight -/
noncomputable def drp (Θ : Ow) (i k : Nat) (v : V) : Ow := fun q => if v = .ref q ∧ Θ q = some (i, k + 2) then none else Θ q
open Classical in
noncomputable def bck (Θ Θ2 : Ow) (i k : Nat) (v : V) : Ow := fun q => if v = .ref q ∧ Θ q = some (i, k + 2) then some (i, k + 2) else Θ2 q
def hvs (hv : Nat → Nat → Option V) (i k : Nat) (v : V) : Nat → Nat → Option V := fun j m => if j = i ∧ m = k then some v else hv j m
theorem drp_le {q : Addr} {w : Nat × Nat} (h : drp Θ i k v q = some w) : Θ q = some w := by
  unfold drp at h
  split at h
  · cases h
  · exact h
theorem drp_none {q : Addr} (h : Θ q = none) : drp Θ i k v q = none := by
  unfold drp
  split
  · rfl
  · exact h
theorem hide_inv (h : hide (.pf i c k) e = some e1) : ∃ fs, (e[i]?).join = some (.ob c fs) ∧ k < fs.length ∧ e1 = e.set i (some (.ob c (fs.set k .hid))) := by
  have h1 : (match (e[i]?).join with
    | some (.ob c' fs) => if c' = c ∧ k < fs.length then some (e.set i (some (.ob c' (fs.set k .hid)))) else none
    | _ => none) = some e1 := h
  cases q : (e[i]?).join with
  | none =>
    rw [q] at h1
    cases h1
  | some u =>
    rw [q] at h1
    rcases u with x | xs | xs | ⟨c2, fs2⟩ | _ | _ <;> try (exact nomatch (show (none : Option Sl) = some e1 from h1))
    have h2 : (if c2 = c ∧ k < fs2.length then some (e.set i (some (.ob c2 (fs2.set k .hid)))) else none) = some e1 := h1
    by_cases z : c2 = c ∧ k < fs2.length
    · rw [if_pos z] at h2
      have h3 := Option.some.inj h2
      rw [z.1] at h3
      exact ⟨fs2, by rw [z.1], z.2, h3.symm⟩
    · rw [if_neg z] at h2
      cases h2
theorem unhide_inv (h : unhide (.pf i c k) e e2 = some e3) : ∃ fs0 fs o, (e[i]?).join = some (.ob c fs0) ∧ (e2[i]?).join = some (.ob c fs) ∧ fs0[k]? = some o ∧ fs[k]? = some .hid ∧ e3 = e2.set i (some (.ob c (fs.set k o))) := by
  have h1 : (match (e[i]?).join, (e2[i]?).join with
    | some (.ob c0 fs0), some (.ob c' fs) => if c0 = c ∧ c' = c then match fs0[k]?, fs[k]? with
        | some o, some .hid => some (e2.set i (some (.ob c' (fs.set k o))))
        | _, _ => none
      else none
    | _, _ => none) = some e3 := h
  cases q : (e[i]?).join with
  | none =>
    rw [q] at h1
    cases h1
  | some u =>
    rw [q] at h1
    rcases u with x | xs | xs | ⟨c0, fs0⟩ | _ | _ <;> try (exact nomatch (show (none : Option Sl) = some e3 from h1))
    cases q2 : (e2[i]?).join with
    | none =>
      rw [q2] at h1
      cases h1
    | some u2 =>
      rw [q2] at h1
      rcases u2 with x | xs | xs | ⟨c1, fs⟩ | _ | _ <;> try (exact nomatch (show (none : Option Sl) = some e3 from h1))
      have h2 : (if c0 = c ∧ c1 = c then match fs0[k]?, fs[k]? with
        | some o, some .hid => some (e2.set i (some (.ob c1 (fs.set k o))))
        | _, _ => none
      else none) = some e3 := h1
      by_cases z : c0 = c ∧ c1 = c
      · rw [if_pos z] at h2
        cases q3 : fs0[k]? with
        | none =>
          rw [q3] at h2
          cases h2
        | some o =>
          rw [q3] at h2
          cases q4 : fs[k]? with
          | none =>
            rw [q4] at h2
            cases h2
          | some w =>
            rw [q4] at h2
            rcases w with x | xs | xs | ⟨c3, fs3⟩ | _ | _ <;> try (exact nomatch (show (none : Option Sl) = some e3 from h2))
            have h3 : e2.set i (some (.ob c1 (fs.set k o))) = e3 := Option.some.inj h2
            refine ⟨fs0, fs, o, by rw [z.1], by rw [z.2], q3, q4, ?_⟩
            rw [← h3, z.2]
      · rw [if_neg z] at h2
        cases h2
theorem hide_ok (s : Sts K Cs hv Θ G H e σ) (a : AVok K Cs Θ H0 G H σ U (.pf i c k) v) (h : hide (.pf i c k) e = some e1) : Sts K Cs (hvs hv i k v) (drp Θ i k v) G H e1 σ := by
  obtain ⟨fs, q, hk, rfl⟩ := hide_inv h
  have qk : fs[k]? = some fs[k] := List.getElem?_eq_getElem hk
  obtain ⟨p, dx, C, nms, nvs, nm, f1, W, f2, f3, f4⟩ := s.field a q qk
  refine s.change (i := i) (Same.refl _) s.gh (fun a q t => s.th a q (drp_le t)) (fun p j m t z => ⟨rfl, rfl, ?_⟩) rfl (fun _ _ => rfl) (fun j z => ?_) fun o _ e => ?_
  · unfold drp
    rw [if_neg]
    · exact t
    · rintro ⟨_, w⟩
      rw [t] at w
      cases w
      exact z rfl
  · funext m
    unfold hvs
    rw [if_neg (fun w => z w.1)]
  · cases e
    refine ⟨.ref p, f1, p, dx, C, nms, nvs, rfl, ?_⟩
    refine W.put (Same.refl _) (fun y m hy hm => ⟨rfl, rfl, tof_some.mpr ?_⟩) (fun j w z hw => ?_) (fun z => ?_) (by simp) fun nm' hn _ => ?_
    · unfold drp
      have hy := tof_some.mp hy
      rw [if_neg]
      · exact hy
      · rintro ⟨_, w⟩
        rw [hy] at w
        cases w
        exact hm rfl
    · unfold hvs
      rw [if_neg (fun w => z w.2)]
      exact hw
    · rw [qk] at z
      have z : fs[k] = O.un := Option.some.inj z
      rw [z] at f4
      have f4 : nvs.lookup nm = none := f4
      rw [f3] at f4
      cases f4
    · rw [f2] at hn
      cases hn
      exact ⟨v, f3, by unfold hvs; rw [if_pos ⟨rfl, rfl⟩]⟩
theorem unhide_ok (s : Sts K Cs hv Θ G H e σ) (a : AVok K Cs Θ H0 G H σ U (.pf i c k) v) (st : Stp (drp Θ i k v) G H Θ2 G2 H2) (s2 : Sts K Cs (hvs hv i k v) Θ2 G2 H2 e2 σ) (h : unhide (.pf i c k) e e2 = some e3) :
    Stp Θ G H (bck Θ Θ2 i k v) G2 H2 ∧ Sts K Cs hv (bck Θ Θ2 i k v) G2 H2 e3 σ ∧ (∀ q, Θ2 q = none → H q = none → bck Θ Θ2 i k v q = none) ∧ AVok K Cs (bck Θ Θ2 i k v) H0 G2 H2 σ U (.pf i c k) v := by
  obtain ⟨fs0, fs, o, q1, q2, q3, q4, rfl⟩ := unhide_inv h
  obtain ⟨p, dx, C, nms, nvs, nm, f1, W, f2, f3, f4⟩ := s.field a q1 q3
  obtain ⟨p2, dx2, C2, nms2, nvs2, g1, W2⟩ := s2.obj q2
  rw [f1] at g1
  cases g1
  have e1 := W2.cs
  rw [W.cs] at e1
  cases e1
  obtain ⟨w, l1, l2⟩ : FldR K G2 H2 (Tof Θ2 i) (hvs hv i k v i) nvs2 k nm .hid := W2.fl k nm _ f2 q4
  have ew : w = v := by
    unfold hvs at l2
    rw [if_pos ⟨rfl, rfl⟩] at l2
    exact (Option.some.inj l2).symm
  subst ew
  have spec : ∀ q, w = .ref q → Θ q = some (i, k + 2) → Θ2 q = none := fun q z1 z2 => by
    have hd : drp Θ i k w q = none := by
      unfold drp
      rw [if_pos ⟨z1, z2⟩]
    cases z3 : H q with
    | none => exact absurd z3 (s.th q _ z2)
    | some u => exact (st.h q u z3 hd).2.2
  have up : ∀ q u, Θ2 q = some u → bck Θ Θ2 i k w q = some u := fun q u z => by
    unfold bck
    rw [if_neg]
    · exact z
    · rintro ⟨z1, z2⟩
      rw [spec q z1 z2] at z
      cases z
  refine ⟨⟨st.g, fun b u hb ht => ?_, fun b u ht => ?_⟩, ?_, fun q z1 z2 => ?_, ⟨p, C, dx2, nvs2, nms, nm, f1, W2.ha, W2.cs, f2, l1⟩⟩
  · obtain ⟨m1, m2, m3⟩ := st.h b u hb (drp_none ht)
    refine ⟨m1, m2, ?_⟩
    unfold bck
    rw [if_neg]
    · exact m3
    · rintro ⟨_, z2⟩
      rw [ht] at z2
      cases z2
  · by_cases z : w = .ref b ∧ Θ b = some (i, k + 2)
    · unfold bck
      rw [if_pos z, ← z.2]
      exact ht
    · refine up b u (st.m b u ?_)
      unfold drp
      rw [if_neg z]
      exact ht
  · have thb : ∀ b u, bck Θ Θ2 i k w b = some u → H2 b ≠ none := fun b u z => by
      by_cases y : w = .ref b ∧ Θ b = some (i, k + 2)
      · have hd : drp Θ i k w b = none := by
          unfold drp
          rw [if_pos y]
        cases z3 : H b with
        | none => exact absurd z3 (s.th b _ y.2)
        | some u =>
          rw [(st.h b u z3 hd).1]
          simp
      · unfold bck at z
        rw [if_neg y] at z
        exact s2.th b u z
    refine s2.change (i := i) (Same.refl _) s2.gh thb (fun q j m t z => ⟨rfl, rfl, up q _ t⟩) rfl (fun _ _ => rfl) (fun j z => ?_) fun u _ ee => ?_
    · funext m
      unfold hvs
      rw [if_neg (fun y => z y.1)]
    · cases ee
      refine ⟨.ref p, f1, p, dx2, C, nms, nvs2, rfl, ?_⟩
      refine W2.put (Same.refl _) (fun y m hy hm => ⟨rfl, rfl, tof_some.mpr (up y _ (tof_some.mp hy))⟩) (fun j w' z hw => ?_) (by rw [q4]; simp) (fun z => ?_) fun nm' hn _ => ?_
      · unfold hvs at hw
        rw [if_neg (fun y => z y.2)] at hw
        exact hw
      · subst z
        have f4 : nvs.lookup nm = none := f4
        rw [f3] at f4
        cases f4
      · rw [f2] at hn
        cases hn
        have flat : ∀ {o : O}, RepF K G H (fun p => Tof Θ i p = some (k + 2)) o w → RepF K G2 H2 (fun p => Tof (bck Θ Θ2 i k w) i p = some (k + 2)) o w := fun {o} r => by
          rcases o with x | xs | xs | ⟨c1, fs⟩ | _ | _
          · exact Rp.mono st.g x w r
          · obtain ⟨b, ws, rfl, h2, h3, h4, h5⟩ := r
            have ht := tof_some.mp h5
            have hd : drp Θ i k (.ref b) b = none := by
              unfold drp
              rw [if_pos ⟨rfl, ht⟩]
            obtain ⟨m1, m2, m3⟩ := st.h b _ h2 hd
            exact ⟨b, ws, rfl, m1, by rw [m2]; exact h3, RpA.mono st.g xs ws h4, tof_some.mpr (by unfold bck; rw [if_pos ⟨rfl, ht⟩])⟩
          · obtain ⟨b, ws, rfl, h2, h3, h4, h5⟩ := r
            have ht := tof_some.mp h5
            have hd : drp Θ i k (.ref b) b = none := by
              unfold drp
              rw [if_pos ⟨rfl, ht⟩]
            obtain ⟨m1, m2, m3⟩ := st.h b _ h2 hd
            exact ⟨b, ws, rfl, m1, by rw [m2]; exact h3, RpK.mono st.g xs ws h4, tof_some.mpr (by unfold bck; rw [if_pos ⟨rfl, ht⟩])⟩
          · exact r.elim
          · exact r.elim
          · exact r.elim
        rcases o with x | xs | xs | ⟨c1, fs⟩ | _ | _
        · obtain ⟨w', y1, y2⟩ := f4
          rw [f3] at y1
          cases y1
          exact ⟨_, l1, flat (o := .d x) y2⟩
        · obtain ⟨w', y1, y2⟩ := f4
          rw [f3] at y1
          cases y1
          exact ⟨_, l1, flat (o := .ol xs) y2⟩
        · obtain ⟨w', y1, y2⟩ := f4
          rw [f3] at y1
          cases y1
          exact ⟨_, l1, flat (o := .od xs) y2⟩
        · obtain ⟨w', y1, y2⟩ := f4
          exact y2.elim
        · have f4 : nvs.lookup nm = none := f4
          rw [f3] at f4
          cases f4
        · obtain ⟨w', y1, y2⟩ := f4
          rw [f3] at y1
          cases y1
          exact ⟨_, l1, y2⟩
  · unfold bck
    rw [if_neg]
    · exact z1
    · rintro ⟨_, y⟩
      exact absurd z2 (s.th q _ y)
end
end Y

/-! Y6b: handing over, and what comes back. -/
namespace Y
open PySem PySem.Spec PyProof.Rows L2
/-- the arguments as the callee finds them -/
structure Args (K : PySem.W.Frag) (Cs : Cls) (hv : Nat → Nat → Option V) (Θ : Ow) (G H : Hp) (os : List O) (vs : List V) : Prop where
  s : Sts K Cs hv Θ G H (os.map some) (vs.map some)
  ow : ∀ p j k, Θ p = some (j, k) → ∃ o, os[j]? = some o ∧ ownO o = true
/-- the classes of exceptions: where, the attributes -/
structure ExOk (K : PySem.W.Frag) (Xs : Cls) (G H : Hp) (x : Ex) (cls : Value) (d : Option Addr) : Prop where
  ex : ∃ C nms, Xs[x.c]? = some (C, nms) ∧ cls = .ref C ∧ x.fs.length = nms.length ∧ (nms ≠ [] → ∃ dd nvs, d = some dd ∧ H dd = some (.xd nvs) ∧ ∀ (k : Nat) (nm : Str) (y : D), nms[k]? = some nm → x.fs[k]? = some y → ∃ w, nvs.lookup nm = some w ∧ Rp K G w y)
  dd : ∀ a, d = some a → ∃ nvs, H a = some (.xd nvs)
/-- what stands behind a call -/
def Ret (K : PySem.W.Frag) (Cs : Cls) (hv : Nat → Nat → Option V) (Θ : Ow) (G H : Hp) (os : List O) (vs : List V) (r : O) (outs : List O) (v : V) (G' H' : Hp) : Prop :=
  ∃ Θ' τ, Stp Θ G H Θ' G' H' ∧ Sts K Cs hv Θ' G' H' (outs.map some) (vs.map some) ∧ RepO K Cs G' H' τ (fun _ => none) r v ∧
    ∀ p m, τ p = some m → H p = none ∧ (∃ u, H' p = some u) ∧ ∀ j k, Θ' p = some (j, k) → ∀ o, os[j]? = some o → ownO o = false
def RetX (K : PySem.W.Frag) (Cs Xs : Cls) (hv : Nat → Nat → Option V) (Θ : Ow) (G H : Hp) (os : List O) (vs : List V) (x : Ex) (outs : List O) (cls : Value) (d : Option Addr) (G' H' : Hp) : Prop :=
  ∃ Θ', Stp Θ G H Θ' G' H' ∧ Sts K Cs hv Θ' G' H' (outs.map some) (vs.map some) ∧ ExOk K Xs G' H' x cls d
section
variable {K : PySem.W.Frag} {Cs : Cls} {hv hv' : Nat → Nat → Option V} {Θ Θ' Θ1 Θ2 : Ow} {τ τ' : Tau} {η η' : Nat → Option V} {G0 G G' G1 G2 H H0 H' H1 H2 : Hp} {e e' e1 e2 e3 : Sl} {σ σ' : L2.St} {av : AV} {v : V} {o r : O} {d : D} {Z Z' : Addr → Prop} {U U' : Addr → Prop} {avs : List AV} {vs : List V} {os outs : List O} {i c k : Nat}
def ixOf (i : Nat) : List AV → List O → Option Nat
  | .pl k :: r, o :: os => if k = i ∧ ownO o = true then some 0 else (ixOf i r os).map (· + 1)
  | _ :: r, _ :: os => (ixOf i r os).map (· + 1)
  | _, _ => none
theorem ixOf_step {a : AV} {r : List AV} {o : O} {os : List O} (h : ¬ (a = .pl i ∧ ownO o = true)) : ixOf i (a :: r) (o :: os) = (ixOf i r os).map (· + 1) := by
  cases a with
  | pl k =>
    show (if k = i ∧ ownO o = true then some 0 else (ixOf i r os).map (· + 1)) = _
    rw [if_neg]
    rintro ⟨rfl, z⟩
    exact h ⟨rfl, z⟩
  | pf i c k => rfl
  | tm o => rfl
theorem ixOf_some : ∀ {avs : List AV} {os : List O} {j : Nat}, ixOf i avs os = some j → avs[j]? = some (.pl i) ∧ ∃ o, os[j]? = some o ∧ ownO o = true
  | [], os, j, h => by
    have h : none = some j := h
    cases h
  | a :: r, [], j, h => by
    cases a <;> (have h : none = some j := h; cases h)
  | a :: r, o :: os, j, h => by
    by_cases z : a = .pl i ∧ ownO o = true
    · obtain ⟨rfl, z2⟩ := z
      have h : (if i = i ∧ ownO o = true then some 0 else (ixOf i r os).map (· + 1)) = some j := h
      rw [if_pos ⟨rfl, z2⟩] at h
      cases h
      exact ⟨rfl, o, rfl, z2⟩
    · rw [ixOf_step z] at h
      cases q : ixOf i r os with
      | none =>
        rw [q] at h
        cases h
      | some m =>
        rw [q] at h
        cases h
        obtain ⟨h1, o', h2, h3⟩ := ixOf_some q
        exact ⟨by simpa using h1, o', by simpa using h2, h3⟩
theorem argL_cons {a : AV} {r : List AV} (h : argL e (a :: r) = some os) : ∃ o os', os = o :: os' ∧ argO e a = some o ∧ argL e r = some os' := by
  unfold argL at h
  cases h1 : argO e a with
  | none => simp [h1] at h
  | some x =>
    cases h2 : argL e r with
    | none => simp [h1, h2] at h
    | some xs =>
      simp only [h1, h2, Option.some.injEq] at h
      exact ⟨x, xs, h.symm, rfl, rfl⟩
theorem argO_own {a : AV} (h : argO e a = some o) (ho : ownO o = true) : ∃ i, a = .pl i ∧ (e[i]?).join = some o := by
  cases a with
  | tm u =>
    have h : u.dat.map O.d = some o := h
    cases q : u.dat with
    | none =>
      rw [q] at h
      cases h
    | some d =>
      rw [q] at h
      cases h
      cases ho
  | pf i c k => cases h
  | pl i =>
    refine ⟨i, rfl, ?_⟩
    have h : (match (e[i]?).join with
      | some .hid => none
      | some .un => none
      | o => o) = some o := h
    split at h
    · cases h
    · cases h
    · exact h
theorem argO_pl (h : argO e (.pl i) = some o) : (e[i]?).join = some o ∧ o ≠ .hid ∧ o ≠ .un := by
  have h : (match (e[i]?).join with
    | some .hid => none
    | some .un => none
    | o => o) = some o := h
  split at h
  · cases h
  · cases h
  · rename_i h1 h2
    refine ⟨h, ?_, ?_⟩
    · rintro rfl
      exact h1 h
    · rintro rfl
      exact h2 h
theorem ownIx_cons {a : AV} {r : List AV} (ha : argO e a = some o) : ownIx e (a :: r) = (match a with | .pl i => if ownO o = true then i :: ownIx e r else ownIx e r | _ => ownIx e r) := by
  cases a with
  | tm u => rfl
  | pf i c k => rfl
  | pl i =>
    obtain ⟨h1, _, _⟩ := argO_pl ha
    show (if isOwn ((e[i]?).join) then i :: ownIx e r else ownIx e r) = _
    rw [h1]
    rfl
theorem ownIx_mem : ∀ {avs : List AV} {os : List O} {j : Nat}, argL e avs = some os → avs[j]? = some (.pl i) → os[j]? = some o → ownO o = true → i ∈ ownIx e avs
  | [], os, j, _, h, _, _ => by simp at h
  | a :: r, os, j, h, h1, h2, h3 => by
    obtain ⟨u, us, rfl, k1, k2⟩ := argL_cons h
    rw [ownIx_cons k1]
    cases j with
    | zero =>
      simp at h1 h2
      subst h1 h2
      simp [h3]
    | succ j =>
      have ih := ownIx_mem (j := j) k2 (by simpa using h1) (by simpa using h2) h3
      cases a with
      | tm u => exact ih
      | pf i c k => exact ih
      | pl m =>
        by_cases z : ownO u = true
        · simp only [z, if_true]
          exact List.mem_cons_of_mem _ ih
        · simp only [z]
          exact ih
theorem ixOf_at : ∀ {avs : List AV} {os : List O} {j : Nat}, (ownIx e avs).Nodup → argL e avs = some os → avs[j]? = some (.pl i) → os[j]? = some o → ownO o = true → ixOf i avs os = some j
  | [], os, j, _, _, h, _, _ => by simp at h
  | a :: r, os, j, nd, h, h1, h2, h3 => by
    obtain ⟨u, us, rfl, k1, k2⟩ := argL_cons h
    have nd0 := nd
    rw [ownIx_cons k1] at nd
    have nd' : (ownIx e r).Nodup := by
      cases a with
      | tm u => exact nd
      | pf i c k => exact nd
      | pl m =>
        by_cases z : ownO u = true
        · simp only [z, if_true] at nd
          exact (List.nodup_cons.mp nd).2
        · simp only [z] at nd
          exact nd
    cases j with
    | zero =>
      simp at h1 h2
      subst h1 h2
      show (if i = i ∧ ownO _ = true then some 0 else _) = _
      rw [if_pos ⟨rfl, h3⟩]
    | succ j =>
      have ih := ixOf_at (j := j) nd' k2 (by simpa using h1) (by simpa using h2) h3
      have m := ownIx_mem (j := j) k2 (by simpa using h1) (by simpa using h2) h3
      rw [ixOf_step, ih]
      · rfl
      · rintro ⟨rfl, z⟩
        simp only [z, if_true] at nd
        exact (List.nodup_cons.mp nd).1 m
/-- whose things are whose, as the callee sees it -/
def cal (Θ : Ow) (avs : List AV) (os : List O) : Ow := fun p => (Θ p).bind fun q => (ixOf q.1 avs os).map fun j => (j, q.2)
theorem cal_some {p : Addr} {j m : Nat} : cal Θ avs os p = some (j, m) ↔ ∃ i, Θ p = some (i, m) ∧ ixOf i avs os = some j := by
  unfold cal
  cases q : Θ p with
  | none => simp
  | some w =>
    obtain ⟨i, m'⟩ := w
    simp only [Option.bind_some]
    cases z : ixOf i avs os with
    | none =>
      simp only [Option.map_none]
      constructor
      · intro h
        cases h
      · rintro ⟨i', h1, h2⟩
        cases h1
        rw [z] at h2
        cases h2
    | some j' =>
      simp only [Option.map_some, Option.some.injEq, Prod.mk.injEq]
      constructor
      · rintro ⟨rfl, rfl⟩
        exact ⟨i, ⟨rfl, rfl⟩, z⟩
      · rintro ⟨i', ⟨rfl, rfl⟩, h2⟩
        rw [z] at h2
        cases h2
        exact ⟨rfl, rfl⟩
theorem cal_none {p : Addr} (h : Θ p = none) : cal Θ avs os p = none := by
  unfold cal
  rw [h]
  rfl
def hvc (hv : Nat → Nat → Option V) (avs : List AV) : Nat → Nat → Option V := fun j => match avs[j]? with
  | some (.pl i) => hv i
  | _ => fun _ => none
def ArgR (K : PySem.W.Frag) (G : Hp) (σ : L2.St) : AV → V → Prop
  | .tm o, v => ∀ d, o.dat = some d → Rp K G v d
  | .pl i, v => σ[i]? = some (some v)
  | .pf _ _ _, _ => False
theorem ArgR.mono (g : Same G G') : ∀ {a : AV} {v : V}, ArgR K G σ a v → ArgR K G' σ a v
  | .tm o, v, h => fun d hd => Rp.mono g d v (h d hd)
  | .pl i, v, h => h
  | .pf _ _ _, v, h => h
theorem frzT : ∀ {avs : List AV} {vs : List V} {U : Addr → Prop} {G : Hp}, Sts K Cs hv Θ G H e σ → AVs K Cs Θ H0 G H σ avs vs U →
    ∃ G', Frz Θ G G' (fun p => U p ∧ Θ p = none ∧ H0 p = none) ∧ Sts K Cs hv Θ G' H e σ ∧ ∀ (j : Nat) (a : AV) (v : V), avs[j]? = some a → vs[j]? = some v → ArgR K G' σ a v
  | _, _, U, G, s, .nil => ⟨G, Frz.refl, s, fun j a v h => by simp at h⟩
  | a :: r, v :: vs, U, G, s, .cons (U1 := U1) (U2 := U2) a1 hn a2 h4 h5 h6 h7 => by
    have step : ∃ G1, Frz Θ G G1 U1 ∧ Sts K Cs hv Θ G1 H e σ ∧ ArgR K G1 σ a v := by
      cases a with
      | pl i => exact ⟨G, Frz.refl, s, a1⟩
      | pf i c k => cases hn
      | tm o =>
        cases q : o.dat with
        | none => exact ⟨G, Frz.refl, s, fun d hd => by rw [q] at hd; cases hd⟩
        | some d =>
          obtain ⟨G1, f1, s1, r1⟩ := take_ok (d := d) (e' := e) s a1 (by show (o.dat.map fun x => (x, e)) = _; rw [q]; rfl)
          exact ⟨G1, f1, s1, fun d' hd => by rw [q] at hd; cases hd; exact r1⟩
    obtain ⟨G1, f1, s1, r1⟩ := step
    obtain ⟨G2, f2, s2, r2⟩ := frzT s1 (a2.more f1.g fun p hp ht _ => by
      refine Classical.byContradiction fun z => ?_
      rcases f1.n p z with w | w
      · exact h4 p w hp
      · exact w ht)
    refine ⟨G2, ⟨f1.g.trans f2.g, fun b hb => ?_⟩, s2, fun j b w hb hw => ?_⟩
    · by_cases z : G2 b = G1 b
      · rcases f1.n b (by rw [← z]; exact hb) with w | w
        · exact .inl ⟨h5 b w, (h7 b w).1, (h7 b w).2.1⟩
        · exact .inr w
      · rcases f2.n b z with w | w
        · exact .inl ⟨h6 b w.1, w.2⟩
        · exact .inr w
    · cases j with
      | zero =>
        simp at hb hw
        subst hb hw
        exact r1.mono f2.g
      | succ j => exact r2 j b w (by simpa using hb) (by simpa using hw)
theorem argL_at : ∀ {avs : List AV} {os : List O}, argL e avs = some os → ∀ (j : Nat) (o : O), os[j]? = some o → ∃ a, avs[j]? = some a ∧ argO e a = some o
  | [], os, h, j, o, q => by
    have h' : ([] : List O) = os := Option.some.inj h
    subst h'
    simp at q
  | a :: r, os, h, j, o, q => by
    obtain ⟨u, us, rfl, k1, k2⟩ := argL_cons h
    cases j with
    | zero =>
      simp at q
      subst q
      exact ⟨a, rfl, k1⟩
    | succ j =>
      obtain ⟨b, m1, m2⟩ := argL_at k2 j o (by simpa using q)
      exact ⟨b, by simpa using m1, m2⟩
theorem argL_len : ∀ {avs : List AV} {os : List O}, argL e avs = some os → os.length = avs.length
  | [], os, h => by
    have h' : ([] : List O) = os := Option.some.inj h
    subst h'
    rfl
  | a :: r, os, h => by
    obtain ⟨u, us, rfl, k1, k2⟩ := argL_cons h
    simp [argL_len k2]
theorem map_some_at {α : Type} {l : List α} {j : Nat} {x : α} (h : ((l.map some)[j]?).join = some x) : l[j]? = some x := by
  rw [List.getElem?_map] at h
  cases q : l[j]? with
  | none =>
    rw [q] at h
    cases h
  | some y =>
    rw [q] at h
    exact h
theorem at_map_some {α : Type} {l : List α} {j : Nat} {x : α} (h : l[j]? = some x) : (l.map some)[j]? = some (some x) := by
  rw [List.getElem?_map, h]
  rfl
theorem args_ok (s : Sts K Cs hv Θ G H e σ) (P : AVs K Cs Θ H0 G H σ avs vs U) (h : argOs avs e = some os) :
    ∃ G', Frz Θ G G' (fun p => U p ∧ Θ p = none ∧ H0 p = none) ∧ Sts K Cs hv Θ G' H e σ ∧ Args K Cs (hvc hv avs) (cal Θ avs os) G' H os vs ∧ (ownIx e avs).Nodup ∧ argL e avs = some os ∧
      (∀ (j i : Nat) (v : V), avs[j]? = some (AV.pl i) → vs[j]? = some v → σ[i]? = some (some v)) := by
  unfold argOs at h
  split at h
  · rename_i nd
    obtain ⟨G1, f1, s1, r1⟩ := frzT s P
    have lo := argL_len h
    have lv := P.length
    refine ⟨G1, f1, s1, ⟨⟨s1.gh, fun a q t => ?_, by rw [List.length_map, List.length_map]; omega, fun j o q => ?_⟩, fun p j k t => ?_⟩, nd, h, fun j i v ha hv => r1 j _ v ha hv⟩
    · obtain ⟨j, m⟩ := q
      obtain ⟨i, t1, _⟩ := cal_some.mp t
      exact s1.th a _ t1
    · have q := map_some_at q
      obtain ⟨a, ha, ho⟩ := argL_at h j o q
      have hj : j < vs.length := by
        have := (List.getElem?_eq_some_iff.mp q).1
        omega
      have hv := List.getElem?_eq_getElem hj
      refine ⟨vs[j], at_map_some hv, ?_⟩
      have rr := r1 j a _ ha hv
      cases a with
      | tm u =>
        have ho : u.dat.map O.d = some o := ho
        cases w : u.dat with
        | none =>
          rw [w] at ho
          cases ho
        | some dd =>
          rw [w] at ho
          cases ho
          exact rr dd w
      | pf i c k => exact rr.elim
      | pl i =>
        obtain ⟨k1, k2, k3⟩ := argO_pl ho
        obtain ⟨w, m1, m2⟩ := s1.sl i o k1
        have rr : σ[i]? = some (some vs[j]) := rr
        rw [rr] at m1
        cases m1
        by_cases ow : ownO o = true
        · have ix := ixOf_at nd h ha q ow
          refine m2.mono (fun k w z => ?_) (Same.refl _) fun p m z => ⟨rfl, rfl, tof_some.mpr (cal_some.mpr ⟨i, tof_some.mp z, ix⟩)⟩
          unfold hvc
          rw [ha]
          exact z
        · rcases o with x | xs | xs | ⟨c1, fs⟩ | _ | _
          · exact m2
          · exact absurd rfl ow
          · exact absurd rfl ow
          · exact absurd rfl ow
          · exact absurd rfl k3
          · exact absurd rfl k2
    · obtain ⟨i, _, t2⟩ := cal_some.mp t
      exact (ixOf_some t2).2
  · cases h
theorem putOs_len : ∀ {avs : List AV} {os outs : List O} {e : Sl}, (putOs avs os outs e).length = e.length
  | [], _, _, _ => by simp [putOs]
  | a :: r, [], _, _ => by simp [putOs]
  | a :: r, o :: os, [], _ => by simp [putOs]
  | a :: r, o :: os, x :: outs, e => by
    show (putO a o x (putOs r os outs e)).length = e.length
    have ih := putOs_len (avs := r) (os := os) (outs := outs) (e := e)
    unfold putO
    split
    · split
      · rw [List.length_set, ih]
      · exact ih
    · exact ih
theorem putOs_at : ∀ {avs : List AV} {os outs : List O} {i : Nat} {u : O}, outs.length = os.length → os.length = avs.length → ((putOs avs os outs e)[i]?).join = some u → i < e.length →
    ((e[i]?).join = some u ∧ ixOf i avs os = none) ∨ ∃ (j : Nat), ixOf i avs os = some j ∧ outs[j]? = some u
  | [], os, outs, i, u, _, _, h, _ => by
    left
    simp only [putOs] at h
    refine ⟨h, ?_⟩
    unfold ixOf
    rfl
  | a :: r, [], outs, i, u, _, l, h, _ => by simp at l
  | a :: r, o :: os, [], i, u, l, _, h, _ => by simp at l
  | a :: r, o :: os, x :: outs, i, u, l1, l2, h, hl => by
    have h : ((putO a o x (putOs r os outs e))[i]?).join = some u := h
    have rest : ((putOs r os outs e)[i]?).join = some u → ¬ (a = .pl i ∧ ownO o = true) → ((e[i]?).join = some u ∧ ixOf i (a :: r) (o :: os) = none) ∨ ∃ (j : Nat), ixOf i (a :: r) (o :: os) = some j ∧ (x :: outs)[j]? = some u := fun h1 hn => by
      rcases putOs_at (by simpa using l1) (by simpa using l2) h1 hl with ⟨k1, k2⟩ | ⟨j, k1, k2⟩
      · refine .inl ⟨k1, ?_⟩
        rw [ixOf_step hn, k2]
        rfl
      · refine .inr ⟨j + 1, ?_, by simpa using k2⟩
        rw [ixOf_step hn, k1]
        rfl
    cases a with
    | tm w => exact rest h (fun z => nomatch z.1)
    | pf i c k => exact rest h (fun z => nomatch z.1)
    | pl k =>
      have h : ((if ownO o = true then (putOs r os outs e).set k (some x) else putOs r os outs e)[i]?).join = some u := h
      by_cases hk : ownO o = true
      · rw [if_pos hk] at h
        by_cases hkl : k < (putOs r os outs e).length
        · rw [join_set hkl] at h
          by_cases z : i = k
          · subst z
            rw [if_pos rfl] at h
            cases h
            refine .inr ⟨0, ?_, rfl⟩
            show (if i = i ∧ ownO o = true then some 0 else _) = _
            rw [if_pos ⟨rfl, hk⟩]
          · rw [if_neg z] at h
            exact rest h fun w => z (by injection w.1 with w; exact w.symm)
        · rw [List.set_eq_of_length_le (by omega)] at h
          refine rest h fun w => ?_
          have w := w.1
          injection w with w
          subst w
          rw [putOs_len] at hkl
          exact hkl hl
      · rw [if_neg hk] at h
        exact rest h fun w => hk w.2
/-- behind a call -/
theorem back_ok (s : Sts K Cs hv Θ G H e σ) (A : Args K Cs (hvc hv avs) (cal Θ avs os) G H os vs) (la : argL e avs = some os)
    (hs : ∀ (j i : Nat) (v : V), avs[j]? = some (AV.pl i) → vs[j]? = some v → σ[i]? = some (some v)) (st : Stp (cal Θ avs os) G H Θ' G' H') (so : Sts K Cs (hvc hv avs) Θ' G' H' (outs.map some) (vs.map some)) :
    ∃ Θ2, Stp Θ G H Θ2 G' H' ∧ Sts K Cs hv Θ2 G' H' (putOs avs os outs e) σ ∧ ∀ p, H p = none → (∀ j k, Θ' p = some (j, k) → ∀ o, os[j]? = some o → ownO o = false) → Θ2 p = none := by
  have ll : outs.length = os.length := by
    have h1 := so.len
    have h2 := A.s.len
    simp only [List.length_map] at h1 h2
    omega
  have lo := argL_len la
  have cn : ∀ p i m, Θ p = some (i, m) → ixOf i avs os = none → cal Θ avs os p = none := fun p i m t z => by
    unfold cal
    rw [t]
    simp [z]
  let Θ2 : Ow := fun p => if H p = none then (Θ' p).bind fun q => (avs[q.1]?).bind fun a => match a, os[q.1]? with
    | .pl i, some o => if ownO o = true then some (i, q.2) else none
    | _, _ => none
    else Θ p
  have old : ∀ p, H p ≠ none → Θ2 p = Θ p := fun p z => by
    show (if H p = none then _ else Θ p) = _
    rw [if_neg z]
  have stp : Stp Θ G H Θ2 G' H' := ⟨st.g, fun a o h t => by
    obtain ⟨m1, m2, m3⟩ := st.h a o h (cal_none t)
    exact ⟨m1, m2, by rw [old a (by rw [h]; simp)]; exact t⟩, fun a q t => by rw [old a (s.th a q t)]; exact t⟩
  have new : ∀ p j m i o, H p = none → Θ' p = some (j, m) → avs[j]? = some (.pl i) → os[j]? = some o → ownO o = true → Θ2 p = some (i, m) := fun p j m i o h1 h2 h3 h4 h5 => by
    show (if H p = none then _ else Θ p) = _
    rw [if_pos h1, h2]
    simp only [Option.bind_some, h3, h4, h5, if_true]
  have th2 : ∀ a q, Θ2 a = some q → H' a ≠ none := fun a q t => by
    by_cases z : H a = none
    · have t : (if H a = none then _ else Θ a) = some q := t
      rw [if_pos z] at t
      cases w : Θ' a with
      | none =>
        rw [w] at t
        cases t
      | some y => exact so.th a y w
    · rw [old a z] at t
      obtain ⟨i, m⟩ := q
      cases hix : ixOf i avs os with
      | none =>
        cases ho : H a with
        | none => exact absurd ho z
        | some o =>
          rw [(st.h a o ho (cn a i m t hix)).1]
          simp
      | some j => exact so.th a (j, m) (st.m a (j, m) (cal_some.mpr ⟨i, t, hix⟩))
  refine ⟨Θ2, stp, ⟨so.gh, th2, by rw [putOs_len]; exact s.len, fun i u h => ?_⟩, fun p h1 h2 => ?_⟩
  · have hl : i < e.length := by
      have := join_lt h
      rw [putOs_len] at this
      exact this
    rcases putOs_at ll lo h hl with ⟨k1, k2⟩ | ⟨j, k1, k2⟩
    · obtain ⟨v', m1, m2⟩ := s.sl i u k1
      refine ⟨v', m1, m2.mono (fun _ _ z => z) st.g fun p m z => ?_⟩
      have z := tof_some.mp z
      cases ho : H p with
      | none => exact absurd ho (s.th p _ z)
      | some o =>
        obtain ⟨n1, n2, _⟩ := st.h p o ho (cn p i m z k2)
        exact ⟨n1, n2, tof_some.mpr (by rw [old p (by rw [ho]; simp)]; exact z)⟩
    · obtain ⟨a1, o, a2, a3⟩ := ixOf_some k1
      obtain ⟨w, b1, b2⟩ := so.sl j u (by rw [at_map_some k2]; rfl)
      have b1 : vs[j]? = some w := map_some_at (by rw [b1]; rfl)
      have sw := hs j i w a1 b1
      refine ⟨w, sw, b2.mono (fun k y z => ?_) (Same.refl _) fun p m z => ⟨rfl, rfl, tof_some.mpr ?_⟩⟩
      · unfold hvc at z
        rw [a1] at z
        exact z
      · have z := tof_some.mp z
        by_cases hn : H p = none
        · exact new p j m i o hn z a1 a2 a3
        · rw [old p hn]
          cases ho : H p with
          | none => exact absurd ho hn
          | some oo =>
            cases hc : cal Θ avs os p with
            | none =>
              rw [(st.h p oo ho hc).2.2] at z
              cases z
            | some q =>
              obtain ⟨j', m'⟩ := q
              have := st.m p _ hc
              rw [z] at this
              cases this
              obtain ⟨i', t1, t2⟩ := cal_some.mp hc
              obtain ⟨t3, _⟩ := ixOf_some t2
              rw [a1] at t3
              cases t3
              exact t1
  · show (if H p = none then _ else Θ p) = _
    rw [if_pos h1]
    cases w : Θ' p with
    | none => rfl
    | some q =>
      obtain ⟨j, m⟩ := q
      simp only [Option.bind_some]
      cases ha : avs[j]? with
      | none => rfl
      | some a =>
        simp only [Option.bind_some]
        cases a with
        | tm u => rfl
        | pf i c k => rfl
        | pl i =>
          cases hoj : os[j]? with
          | none => rfl
          | some o =>
            simp only [h2 j m w o hoj]
            rfl
end
end Y

/-! Y7: what a match says of the text. -/
namespace Y
open PySem PySem.Spec PyProof.Rows L2
section
variable {T : Tb} {N : List Str} {fl : Option Scope} {sc : Scope} {x : Expr}
theorem no {p : Prop} (h : false = true) : p := nomatch h
theorem m_non (h : mE T N fl sc .non x = true) : ∃ k pos, x = .Constant .none k pos := by
  cases x <;> first | exact no h | skip
  rename_i c k pos
  cases c <;> first | exact no h | exact ⟨_, _, rfl⟩
theorem m_bl {b : Bool} (h : mE T N fl sc (.bl b) x = true) : ∃ k pos, x = .Constant (.bool b) k pos := by
  cases x <;> first | exact no h | skip
  rename_i c k pos
  cases c <;> first | exact no h | skip
  rename_i d
  have h' : (b == d) = true := h
  rw [beq_iff_eq] at h'
  subst h'
  exact ⟨_, _, rfl⟩
theorem m_int {i : Int} (h : mE T N fl sc (.int i) x = true) : ∃ k pos, x = .Constant (.int i) k pos := by
  cases x <;> first | exact no h | skip
  rename_i c k pos
  cases c <;> first | exact no h | skip
  rename_i d
  have h' : (i == d) = true := h
  rw [beq_iff_eq] at h'
  subst h'
  exact ⟨_, _, rfl⟩
theorem m_str {i : Str} (h : mE T N fl sc (.str i) x = true) : ∃ k pos, x = .Constant (.str i) k pos := by
  cases x <;> first | exact no h | skip
  rename_i c k pos
  cases c <;> first | exact no h | skip
  rename_i d
  have h' : decide (i = d) = true := h
  have h' := of_decide_eq_true h'
  subst h'
  exact ⟨_, _, rfl⟩
theorem and3 {a b c : Bool} (h : (a && b && c) = true) : a = true ∧ b = true ∧ c = true := by
  simpa [Bool.and_eq_true, and_assoc] using h
theorem and2 {a b : Bool} (h : (a && b) = true) : a = true ∧ b = true := by
  simpa [Bool.and_eq_true] using h
theorem and4 {a b c d : Bool} (h : (a && b && c && d) = true) : a = true ∧ b = true ∧ c = true ∧ d = true := by
  simpa [Bool.and_eq_true, and_assoc] using h
theorem and5 {a b c d f : Bool} (h : (a && b && c && d && f) = true) : a = true ∧ b = true ∧ c = true ∧ d = true ∧ f = true := by
  simpa [Bool.and_eq_true, and_assoc] using h
theorem and6 {a b c d f g : Bool} (h : (a && b && c && d && f && g) = true) : a = true ∧ b = true ∧ c = true ∧ d = true ∧ f = true ∧ g = true := by
  simpa [Bool.and_eq_true, and_assoc] using h
theorem m_v {i : Nat} (h : mE T N fl sc (.v i) x = true) : ∃ y pos, x = .Name y pos ∧ slotB N i y = true ∧ visB sc y = true ∧ plainName y = true := by
  cases x <;> first | exact no h | skip
  rename_i y pos
  obtain ⟨h1, h2, h3⟩ := and3 h
  exact ⟨y, pos, rfl, h1, h2, h3⟩
theorem m_gl {k : Nat} (h : mE T N fl sc (.gl k) x = true) : ∃ y pos d, x = .Name y pos ∧ T.gc[k]? = some (y, d) ∧ glB sc y = true ∧ plainName y = true := by
  cases x <;> first | exact no h | skip
  rename_i y pos
  obtain ⟨h1, h2, h3⟩ := and3 h
  cases q : T.gc[k]? with
  | none =>
    rw [q] at h1
    cases h1
  | some p =>
    rw [q] at h1
    have e := of_decide_eq_true h1
    obtain ⟨a, d⟩ := p
    have e : a = y := e
    subst e
    exact ⟨a, pos, d, rfl, rfl, h2, h3⟩
theorem m_fld {i c k : Nat} (h : mE T N fl sc (.fld i c k) x = true) : ∃ y p f pos l, x = .Attribute (.Name y p) f pos ∧ slotB N i y = true ∧ visB sc y = true ∧ plainName y = true ∧ T.cs[c]? = some l ∧ l[k]? = some f := by
  cases x <;> try (exact no h)
  rename_i o f pos
  cases o <;> try (exact no h)
  obtain ⟨h1, h2, h3, h4⟩ := and4 h
  cases q : T.cs[c]? with
  | none =>
    rw [q] at h4
    exact no h4
  | some l =>
    rw [q] at h4
    exact ⟨_, _, _, _, l, rfl, h1, h2, h3, rfl, of_decide_eq_true h4⟩
theorem m_bin {o : BOp} {a b : CE} (h : mE T N fl sc (.bin o a b) x = true) : ∃ l op r pos, x = .BinOp l op r pos ∧ bopB o op = true ∧ mE T N fl sc a l = true ∧ mE T N fl sc b r = true := by
  cases x <;> first | exact no h | skip
  obtain ⟨h1, h2, h3⟩ := and3 h
  exact ⟨_, _, _, _, rfl, h1, h2, h3⟩
theorem m_neg {a : CE} (h : mE T N fl sc (.neg a) x = true) : ∃ l pos, x = .UnaryOp .USub l pos ∧ mE T N fl sc a l = true := by
  cases x <;> first | exact no h | skip
  rename_i op l pos
  cases op <;> first | exact no h | exact ⟨_, _, rfl, h⟩
theorem m_not {a : CE} (h : mE T N fl sc (.not a) x = true) : ∃ l pos, x = .UnaryOp .Not l pos ∧ mE T N fl sc a l = true := by
  cases x <;> first | exact no h | skip
  rename_i op l pos
  cases op <;> first | exact no h | exact ⟨_, _, rfl, h⟩
theorem m_cmp {o : COp} {a b : CE} (h : mE T N fl sc (.cmp o a b) x = true) : ∃ l op r pos, x = .Compare l [op] [r] pos ∧ copB o op = true ∧ mE T N fl sc a l = true ∧ b ≠ .bad ∧ mE T N fl sc b r = true := by
  cases x <;> first | exact no h | skip
  rename_i l ops rs pos
  rcases ops with _ | ⟨op, _ | ⟨op2, ops⟩⟩
  · exact no h
  · rcases rs with _ | ⟨r, _ | ⟨r2, rs⟩⟩
    · exact no h
    · obtain ⟨h1, h2, h3⟩ := and3 h
      obtain ⟨h3, h4⟩ := and2 h3
      exact ⟨_, _, _, _, rfl, h1, h2, (by rintro rfl; exact no h3), h4⟩
    · exact no h
  · exact no h
theorem m_chn {o o' : COp} {a b c : CE} (h : mE T N fl sc (.chn o o' a b c) x = true) :
    ∃ l op op' m r pos, x = .Compare l [op, op'] [m, r] pos ∧ copB o op = true ∧ copB o' op' = true ∧ mE T N fl sc a l = true ∧ mE T N fl sc b m = true ∧ c ≠ .bad ∧ mE T N fl sc c r = true := by
  cases x <;> first | exact no h | skip
  rename_i l ops rs pos
  rcases ops with _ | ⟨op, _ | ⟨op2, _ | ⟨op3, ops⟩⟩⟩ <;> first | exact no h | skip
  rcases rs with _ | ⟨r, _ | ⟨r2, _ | ⟨r3, rs⟩⟩⟩ <;> first | exact no h | skip
  obtain ⟨h1, h2, h3, h4, h5⟩ := and5 h
  obtain ⟨h5, h6⟩ := and2 h5
  exact ⟨_, _, _, _, _, _, rfl, h1, h2, h3, h4, (by rintro rfl; exact no h5), h6⟩
theorem m_isN {a : CE} (h : mE T N fl sc (.isN a) x = true) : ∃ l k p pos, x = .Compare l [.Is] [.Constant .none k p] pos ∧ mE T N fl sc a l = true := by
  cases x <;> try (exact no h)
  rename_i l ops rs pos
  rcases ops with _ | ⟨op, ops⟩ <;> try (exact no h)
  cases op <;> try (exact no h)
  rcases ops with _ | ⟨op2, ops⟩ <;> try (exact no h)
  rcases rs with _ | ⟨r, rs⟩ <;> try (exact no h)
  cases r <;> try (exact no h)
  rename_i c k p
  cases c <;> try (exact no h)
  rcases rs with _ | ⟨r2, rs⟩ <;> try (exact no h)
  exact ⟨_, _, _, _, rfl, h⟩
theorem m_notN {a : CE} (h : mE T N fl sc (.notN a) x = true) : ∃ l k p pos, x = .Compare l [.IsNot] [.Constant .none k p] pos ∧ mE T N fl sc a l = true := by
  cases x <;> try (exact no h)
  rename_i l ops rs pos
  rcases ops with _ | ⟨op, ops⟩ <;> try (exact no h)
  cases op <;> try (exact no h)
  rcases ops with _ | ⟨op2, ops⟩ <;> try (exact no h)
  rcases rs with _ | ⟨r, rs⟩ <;> try (exact no h)
  cases r <;> try (exact no h)
  rename_i c k p
  cases c <;> try (exact no h)
  rcases rs with _ | ⟨r2, rs⟩ <;> try (exact no h)
  exact ⟨_, _, _, _, rfl, h⟩
theorem m_isB {a : CE} {b : Bool} (h : mE T N fl sc (.isB a b) x = true) : ∃ l k p pos, x = .Compare l [.Is] [.Constant (.bool b) k p] pos ∧ mE T N fl sc a l = true := by
  cases x <;> try (exact no h)
  rename_i l ops rs pos
  rcases ops with _ | ⟨op, ops⟩ <;> try (exact no h)
  cases op <;> try (exact no h)
  rcases ops with _ | ⟨op2, ops⟩ <;> try (exact no h)
  rcases rs with _ | ⟨r, rs⟩ <;> try (exact no h)
  cases r <;> try (exact no h)
  rename_i c k p
  cases c <;> try (exact no h)
  rcases rs with _ | ⟨r2, rs⟩ <;> try (exact no h)
  rename_i d
  obtain ⟨h1, h2⟩ := and2 (show (b == d && mE T N fl sc a l) = true from h)
  rw [beq_iff_eq] at h1
  subst h1
  exact ⟨_, _, _, _, rfl, h2⟩
/-- what stands behind the first operand -/
def tailB (op : BoolOp) (pos : Pos) : List Expr → Expr
  | [y] => y
  | ys => .BoolOp op ys pos
theorem m_and {a b : CE} (h : mE T N fl sc (.and a b) x = true) : ∃ p y r pos, x = .BoolOp .And (p :: y :: r) pos ∧ mE T N fl sc a p = true ∧ mE T N fl sc b (tailB .And pos (y :: r)) = true := by
  cases x <;> try (exact no h)
  rename_i op vs pos
  cases op <;> try (exact no h)
  rcases vs with _ | ⟨p, vs⟩ <;> try (exact no h)
  rcases vs with _ | ⟨y, r⟩ <;> try (exact no h)
  rcases r with _ | ⟨z, r⟩
  · obtain ⟨h1, h2⟩ := and2 h
    exact ⟨p, y, [], pos, rfl, h1, h2⟩
  · obtain ⟨h1, h2⟩ := and2 h
    exact ⟨p, y, z :: r, pos, rfl, h1, h2⟩
theorem m_or {a b : CE} (h : mE T N fl sc (.or a b) x = true) : ∃ p y r pos, x = .BoolOp .Or (p :: y :: r) pos ∧ mE T N fl sc a p = true ∧ mE T N fl sc b (tailB .Or pos (y :: r)) = true := by
  cases x <;> try (exact no h)
  rename_i op vs pos
  cases op <;> try (exact no h)
  rcases vs with _ | ⟨p, vs⟩ <;> try (exact no h)
  rcases vs with _ | ⟨y, r⟩ <;> try (exact no h)
  rcases r with _ | ⟨z, r⟩
  · obtain ⟨h1, h2⟩ := and2 h
    exact ⟨p, y, [], pos, rfl, h1, h2⟩
  · obtain ⟨h1, h2⟩ := and2 h
    exact ⟨p, y, z :: r, pos, rfl, h1, h2⟩
theorem m_ifx {t a b : CE} (h : mE T N fl sc (.ifx t a b) x = true) : ∃ t' a' b' pos, x = .IfExp t' a' b' pos ∧ mE T N fl sc t t' = true ∧ mE T N fl sc a a' = true ∧ mE T N fl sc b b' = true := by
  cases x <;> try (exact no h)
  obtain ⟨h1, h2, h3⟩ := and3 h
  exact ⟨_, _, _, _, rfl, h1, h2, h3⟩
theorem m_tup {es : CEs} (h : mE T N fl sc (.tup es) x = true) : ∃ xs k pos, x = .Tuple xs k pos ∧ xs.length ≤ 1000 ∧ mEs T N fl sc es xs = true := by
  cases x <;> try (exact no h)
  obtain ⟨h1, h2⟩ := and2 h
  exact ⟨_, _, _, rfl, of_decide_eq_true h1, h2⟩
theorem m_lst {es : CEs} (h : mE T N fl sc (.lst es) x = true) : ∃ xs pos, x = .List xs pos ∧ xs.length ≤ 1000 ∧ mEs T N fl sc es xs = true := by
  cases x <;> try (exact no h)
  obtain ⟨h1, h2⟩ := and2 h
  exact ⟨_, _, rfl, of_decide_eq_true h1, h2⟩
theorem m_ix {a i : CE} (h : mE T N fl sc (.ix a i) x = true) : ∃ l r pos, x = .Subscript l r pos ∧ mE T N fl sc a l = true ∧ i ≠ .bad ∧ mE T N fl sc i r = true := by
  cases x <;> try (exact no h)
  obtain ⟨h1, h2⟩ := and2 h
  obtain ⟨h2, h3⟩ := and2 h2
  exact ⟨_, _, _, rfl, h1, (by rintro rfl; exact no h2), h3⟩
theorem m_sl {a : CE} {lo hi : CP} (h : mE T N fl sc (.sl a lo hi) x = true) : ∃ l lo' hi' p pos, x = .Subscript l (.Slice lo' hi' none p) pos ∧ mE T N fl sc a l = true ∧ mP T N fl sc lo lo' = true ∧ mP T N fl sc hi hi' = true := by
  cases x <;> try (exact no h)
  rename_i l r pos
  cases r <;> try (exact no h)
  rename_i lo' hi' st p
  cases st <;> try (exact no h)
  obtain ⟨h1, h2, h3⟩ := and3 h
  exact ⟨_, _, _, _, _, rfl, h1, h2, h3⟩
theorem m_call {f : Nat} {es : CEs} (h : mE T N fl sc (.call f es) x = true) : ∃ y p xs pos, x = .Call (.Name y p) xs [] pos ∧ (T.fn[f]? = some y ∧ y ≠ "") ∧ glB sc y = true ∧ plainName y = true ∧ nbEs es = true ∧ mEs T N fl sc es xs = true := by
  cases x <;> try (exact no h)
  rename_i fn xs kws pos
  cases fn <;> try (exact no h)
  rcases kws with _ | ⟨k, kws⟩ <;> try (exact no h)
  obtain ⟨h1, h2, h3, h4⟩ := and4 h
  obtain ⟨h4, h5⟩ := and2 h4
  exact ⟨_, _, _, _, rfl, of_decide_eq_true h1, h2, h3, h4, h5⟩
theorem m_bi {b : Bi} {a : CE} (h : mE T N fl sc (.bi b a) x = true) : ∃ p y pos, x = .Call (.Name (biN b) p) [y] [] pos ∧ glB sc (biN b) = true ∧ mE T N fl sc a y = true := by
  cases x <;> try (exact no h)
  rename_i fn xs kws pos
  cases fn <;> try (exact no h)
  rcases xs with _ | ⟨y, xs⟩ <;> try (exact no h)
  rcases xs with _ | ⟨y2, xs⟩ <;> try (exact no h)
  rcases kws with _ | ⟨k, kws⟩ <;> try (exact no h)
  rename_i z p
  obtain ⟨h1, h2, h3⟩ := and3 h
  have e : biN b = z := of_decide_eq_true h1
  subst e
  exact ⟨_, _, _, rfl, h2, h3⟩
theorem m_isi {a : CE} {t : Ty} (h : mE T N fl sc (.isi a t) x = true) : ∃ p y q pos, x = .Call (.Name ("isinstance" : Str) p) [y, .Name (tyN t) q] [] pos ∧ glB sc ("isinstance" : Str) = true ∧ glB sc (tyN t) = true ∧ mE T N fl sc a y = true := by
  cases x <;> try (exact no h)
  rename_i fn xs kws pos
  cases fn <;> try (exact no h)
  rcases xs with _ | ⟨y, xs⟩ <;> try (exact no h)
  rcases xs with _ | ⟨y2, xs⟩ <;> try (exact no h)
  cases y2 <;> try (exact no h)
  rcases xs with _ | ⟨y3, xs⟩ <;> try (exact no h)
  rcases kws with _ | ⟨k, kws⟩ <;> try (exact no h)
  rename_i n p z q
  obtain ⟨h1, h2, h3, h4, h5⟩ := and5 h
  have e : n = ("isinstance" : Str) := of_decide_eq_true h1
  have e2 : tyN t = z := of_decide_eq_true h3
  subst e
  subst e2
  exact ⟨_, _, _, _, rfl, h2, h4, h5⟩
theorem m_lr1 {a : CE} (h : mE T N fl sc (.lr1 a) x = true) : ∃ p q z p1 pos, x = .Call (.Name ("list" : Str) p) [.Call (.Name ("range" : Str) q) [z] [] p1] [] pos ∧ glB sc ("list" : Str) = true ∧ glB sc ("range" : Str) = true ∧ mE T N fl sc a z = true := by
  cases x <;> try (exact no h)
  rename_i fn xs kws pos
  cases fn <;> try (exact no h)
  rcases xs with _ | ⟨y, xs⟩ <;> try (exact no h)
  cases y <;> try (exact no h)
  rename_i fn2 xs2 kws2 pos2
  cases fn2 <;> try (exact no h)
  rcases xs2 with _ | ⟨z, xs2⟩ <;> try (exact no h)
  rcases xs2 with _ | ⟨z2, xs2⟩ <;> try (exact no h)
  rcases kws2 with _ | ⟨k, kws2⟩ <;> try (exact no h)
  rcases xs with _ | ⟨y2, xs⟩ <;> try (exact no h)
  rcases kws with _ | ⟨k, kws⟩ <;> try (exact no h)
  obtain ⟨h1, h2, h3, h4, h5⟩ := and5 h
  have e := of_decide_eq_true h1
  have e2 := of_decide_eq_true h3
  subst e
  subst e2
  exact ⟨_, _, _, _, _, rfl, h2, h4, h5⟩
theorem m_fz {a : CE} {n : Nat} (h : mE T N fl sc (.fz a n) x = true) : ∃ y sp k p p' p2 p3, x = .JoinedStr [.FormattedValue y (-1) (some (.JoinedStr [.Constant (.str sp) k p] p')) p2] p3 ∧
    PyProof.Rows.intSpecOk sp = true ∧ PyProof.Rows.intSpecZeroOf sp = true ∧ PyProof.Rows.intSpecWidthOf sp = n ∧ sp.length ≤ 100 ∧ mE T N fl sc a y = true := by
  cases x <;> try (exact no h)
  rename_i vs p3
  rcases vs with _ | ⟨v, vs⟩ <;> try (exact no h)
  cases v <;> try (exact no h)
  rename_i y c f p2
  cases f <;> try (exact no h)
  rename_i f
  cases f <;> try (exact no h)
  rename_i us p'
  rcases us with _ | ⟨u, us⟩ <;> try (exact no h)
  cases u <;> try (exact no h)
  rename_i cc k p
  cases cc <;> try (exact no h)
  rename_i sp
  rcases us with _ | ⟨u2, us⟩ <;> try (exact no h)
  rcases vs with _ | ⟨v2, vs⟩ <;> try (exact no h)
  obtain ⟨h1, h2, h3⟩ := and3 h
  obtain ⟨h4, h5, h6, h7⟩ := and4 h2
  have e := of_decide_eq_true h1
  subst e
  exact ⟨_, _, _, _, _, _, _, rfl, h4, h5, of_decide_eq_true h6, of_decide_eq_true h7, h3⟩
theorem m_me {m : Me} {a b : CE} (h : mE T N fl sc (.me m a b) x = true) : ∃ o ap y cp, x = .Call (.Attribute o (meN m) ap) [y] [] cp ∧ (ap.endLine == cp.line) = true ∧ recvB o = true ∧ mE T N fl sc a o = true ∧ b ≠ .bad ∧ mE T N fl sc b y = true ∧ m ≠ .replace := by
  cases x <;> try (exact no h)
  rename_i fn xs kws pos
  cases fn <;> try (exact no h)
  rename_i o nm ap
  rcases xs with _ | ⟨y, xs⟩ <;> try (exact no h)
  rcases xs with _ | ⟨y2, xs⟩ <;> try (exact no h)
  rcases kws with _ | ⟨k, kws⟩ <;> try (exact no h)
  obtain ⟨h0, h1, h2, h3, h4, h5⟩ := and6 h
  obtain ⟨h5, h6⟩ := and2 h5
  have hb : b ≠ .bad := by rintro rfl; exact no h5
  have e : meN m = nm := of_decide_eq_true h1
  subst e
  exact ⟨_, _, _, _, rfl, h2, h3, h4, hb, h6, by rintro rfl; exact no h0⟩
theorem m_lix {a b : CE} (h : mE T N fl sc (.lix a b) x = true) : ∃ o ap y cp, x = .Call (.Attribute o ("index" : Str) ap) [y] [] cp ∧ (ap.endLine == cp.line) = true ∧ recvB o = true ∧ mE T N fl sc a o = true ∧ b ≠ .bad ∧ mE T N fl sc b y = true := by
  cases x <;> try (exact no h)
  rename_i fn xs kws pos
  cases fn <;> try (exact no h)
  rename_i o nm ap
  rcases xs with _ | ⟨y, xs⟩ <;> try (exact no h)
  rcases xs with _ | ⟨y2, xs⟩ <;> try (exact no h)
  rcases kws with _ | ⟨k, kws⟩ <;> try (exact no h)
  obtain ⟨h1, h2, h3, h4, h5⟩ := and5 h
  obtain ⟨h5, h6⟩ := and2 h5
  have hb : b ≠ .bad := by rintro rfl; exact no h5
  have e : nm = ("index" : Str) := of_decide_eq_true h1
  subst e
  exact ⟨_, _, _, _, rfl, h2, h3, h4, hb, h6⟩
theorem m_lc {ws : List Nat} {t : CT} {it : CI} {ifs : CP} {el : CE} (h : mE T N fl sc (.lc ws t it ifs el) x = true) :
    ∃ elt tg iter cs scope pos, x = .ListComp elt [⟨tg, iter, cs, 0⟩] scope pos ∧ (ownOf N scope).map (·.2) = ws ∧ blkC N sc scope (ownOf N scope) = true ∧ mI T N fl sc it iter = true ∧
      tgB N (some scope) (relS scope sc) t tg = true ∧ mIf T N (some scope) (relS scope sc) ifs cs = true ∧ mE T N (some scope) (relS scope sc) el elt = true ∧ enOk it tg = true := by
  cases x <;> try (exact no h)
  rename_i elt gs scope pos
  rcases gs with _ | ⟨g, gs⟩ <;> try (exact no h)
  obtain ⟨tg, iter, cs, as⟩ := g
  rcases gs with _ | ⟨g2, gs⟩
  · by_cases e : as = 0
    · subst e
      obtain ⟨h1, h2, h3, h4, h5, h6⟩ := and6 h
      obtain ⟨h4, h7⟩ := and2 h4
      exact ⟨_, _, _, _, _, _, rfl, of_decide_eq_true h1, h2, h3, h4, h5, h6, h7⟩
    · rcases as with as | as
      · rcases as with _ | as
        · exact absurd rfl e
        · exact no h
      · exact no h
  · rcases as with as | as
    · rcases as with _ | as <;> exact no h
    · exact no h
theorem m_fs {es : CEs} (h : mE T N fl sc (.fs es) x = true) : ∃ xs pos, x = .JoinedStr xs pos ∧ 2 ≤ xs.length ∧ mEs T N fl sc es xs = true := by
  cases x <;> try (exact no h)
  obtain ⟨h1, h2⟩ := and2 h
  exact ⟨_, _, rfl, of_decide_eq_true h1, h2⟩
theorem m_fv {a : CE} (h : mE T N fl sc (.fv a) x = true) : ∃ y pos, x = .FormattedValue y (-1) none pos ∧ mE T N fl sc a y = true := by
  cases x <;> try (exact no h)
  rename_i y c f pos
  cases f <;> try (exact no h)
  obtain ⟨h1, h2⟩ := and2 h
  have e := of_decide_eq_true h1
  subst e
  exact ⟨_, _, rfl, h2⟩
theorem ms_nil {xs : List Expr} (h : mEs T N fl sc .nil xs = true) : xs = [] := by
  cases xs with
  | nil => rfl
  | cons _ _ => exact no h
theorem ms_cons {a : CE} {es : CEs} {xs : List Expr} (h : mEs T N fl sc (.cons a es) xs = true) : ∃ y ys, xs = y :: ys ∧ mE T N fl sc a y = true ∧ mEs T N fl sc es ys = true := by
  cases xs with
  | nil => exact no h
  | cons y ys =>
    obtain ⟨h1, h2⟩ := and2 h
    exact ⟨y, ys, rfl, h1, h2⟩
end
end Y

/-! Y7a: further rules. -/
namespace Y
open PySem PySem.Spec PyProof.Rows L2
section
open PySem.P PySem.Calls
theorem list_add_any (l : Addr) (items : Array Value) (n : Nat) (sl : Array (Option Value)) (b : Addr) (items2 : Array Value) (n2 : Nat) (sl2 : Array (Option Value)) (hc0 : items.size + items2.size ≤ sizeLine) :
    Meets (Builtin.«list.__add__» ⟨[.ref l, .ref b], []⟩) (fun _ R s => s.heap.get? l = some { cls := .type "list", dict := none, data := .seq items n, slots := sl } ∧ s.heap.get? b = some { cls := .type "list", dict := none, data := .seq items2 n2, slots := sl2 } ∧ R (.ok (.ret (Value.ref s.heap.objs.size))) { s with heap := s.heap.push { cls := Value.type "list", data := Data.seq (items ++ items2) }, toks := s.toks }) :=
  .of_wp fun prog w A R s h => by obtain ⟨hp, g, d, tk, os⟩ := s; obtain ⟨hl, hb, h⟩ := h; have f1 := AutoSeq1.idx_int; have f2 := AutoSeq1.sub_tuple_tuple; have f3 := AutoSeq1.sub_list_list; have f4 := AutoSeq1.sub_tuple_list; have f5 := AutoSeq1.sub_list_tuple; wp_walk using wpAny_loadPart' hl, wpAny_loadPart' hb; exact ⟨_, rfl, h⟩
theorem add_listP {prog : Program} {w : World} {A : Around} {E : Value → Shared → Prop} {s : Shared} {l b : Addr} {its its2 : Array Value} {Q : Value → Shared → Prop} (hl : PlainL s.heap l its) (hb : PlainL s.heap b its2)
    (h : Q (.ref s.heap.objs.size) { s with heap := s.heap.push { cls := .type "list", data := .seq (its ++ its2) } }) (hsz : its.size + its2.size ≤ sizeLine) : wpAny (model prog w) A (binaryOp .Add (.ref l) (.ref b)) Q E s := by
  obtain ⟨⟨c1, d1, a1, s1⟩, n1, e1, r1, r2, r3⟩ := hl
  obtain ⟨⟨c2, d2, a2, s2⟩, n2, e2, q1, q2, q3⟩ := hb
  simp only at r1 r2 r3 q1 q2 q3
  subst r1 r2 r3 q1 q2 q3
  exact PySem.concat_meets ⟨_, e1, rfl⟩ ⟨_, e2, rfl⟩ PySem.noFill_list_add PySem.seq_list_add PySem.F.slot_list_add PySem.F.entry_list_add (PySem.F.args_list_add_2 _ _) (list_add_any l its n1 s1 b its2 n2 s2 hsz) ⟨e1, e2, h⟩
end
/-- list + list -/
def rCatP (K : PySem.W.Frag) : R2 := fun x y H Q => ∃ l b xs zs, x = .ref l ∧ y = .ref b ∧ SqL K H l xs ∧ SqL K H b zs ∧ xs.length + zs.length ≤ sizeLine ∧ ∀ p, H p = none → Q (.ref p) (upd H p (.lst (xs ++ zs)))
theorem op_catP {X : Cx} : OpR X (binaryOp .Add) (rCatP X.K) := by
  intro pins s σ H x y v u Q I rx ry h
  obtain ⟨l, b, xs, zs, rfl, rfl, hH, hB, hz, q⟩ := h
  cases rx
  cases ry
  obtain ⟨its, r, e, hl⟩ := I.list hH
  obtain ⟨its2, r2, e2, hl2⟩ := I.list hB
  have l1 := r.length
  have l2 := r2.length
  refine add_listP e e2 ?_ (by rw [List.size_toArray, List.size_toArray]; omega)
  have ea : its.toArray ++ its2.toArray = (its ++ its2).toArray := by simp
  rw [ea]
  exact ⟨.ref _, _, I.lnew (t' := s.toks) (r.append r2) (by rw [List.length_append]; omega), rfl, q _ I.fresh⟩
end Y

/-! YX: own exceptions: asked for their class, made. -/
namespace Y
open PySem PySem.Spec PyProof.Rows L2
/-- isinstance(e, c), e the exception that the suite holds -/
def rIsD (K : PySem.W.Frag) (D a : Addr) (d : Option Addr) : List V → Hp → VK → Prop := fun xs H Q => ∃ (c : V) (cv : Value) (b : Bool), xs = [.ref a, c] ∧ (∀ dd, d = some dd → ∃ fs, H dd = some (.xd fs)) ∧ (∀ u, RelV c u → u = cv) ∧ PySem.W.kitOne K (.ref D) cv = some b ∧ Q (.bl b) H
theorem call_isD {X : Cx} {a D : Addr} {d : Option Addr} {oe : Obj} {pn : List (Addr × Obj)} (C : ExcC X.K D) (hz : Zc (.ref D) d oe) (hf : ∃ vs, oe.data = .fields vs) : CallR (X.suite a ((a, oe) :: pn)) (.builtin "isinstance") (rIsD X.K D a d) := by
  intro pins s σ H xs us Q I r h
  obtain ⟨c, cv, b, rfl, hd, hcv, e, q⟩ := h
  cases r with
  | cons rx rr =>
    cases rr with
    | cons rt rr =>
      cases rr
      cases rx
      have ec := hcv _ rt
      subst ec
      obtain ⟨hget, _⟩ := I.pin (a, oe) (List.mem_append.mpr (.inl List.mem_cons_self))
      obtain ⟨vs, hv⟩ := hf
      have hcl : (PySem.W.clsIn X.K D).isSome = true := by
        obtain ⟨cd, hc, _⟩ := PySem.W.any_some C.hd
        rw [hc]
        rfl
      have J : ∃ odx, PySem.W.InstAt s.heap a oe D odx := by
        obtain ⟨oc, od, oda, osl⟩ := oe
        obtain ⟨h1, h2⟩ := hz
        dsimp only at h1 h2 hv
        subst h1 h2 hv
        cases od with
        | none => exact ⟨none, hget, rfl, rfl, trivial⟩
        | some dd =>
          obtain ⟨fs, hfs⟩ := hd dd rfl
          have hx : ObjOk X.prog X.w H s.heap dd (.xd fs) := I.hok dd _ hfs
          obtain ⟨mA, hns, hr⟩ := hx
          obtain ⟨od, ho, hl⟩ := lookIn_ns hns
          exact ⟨some od, hget, rfl, rfl, ho⟩
      obtain ⟨odx, J⟩ := J
      exact PySem.W.kia_one (PySem.W.kitx_exc (od := odx) hcl C.hg C.hk C.hs C.ha C.hn C.ht C.hm) I.kIn J e (fun z => nomatch z) fun tk => ⟨.bl b, H, I.kept (t' := tk) fun _ _ z => z, rfl, q⟩
end Y

/-! YE: own exceptions whose __init__ says super().__init__(f'..') and keeps what it is given. -/
namespace Y
open PySem PySem.Spec PySem.Calls L2
section
variable {P : Program} {w : World} {K : PySem.W.Frag} {mg : Str → Option Value} {base : Heap} {qual : Str} {scope : Scope} {f C cc cda : Addr} {cd : Value} {A : Around} {outer : List PySem.Env} {s s1 : Shared} {H : Hp} {x1 : Str}
/-- the place of such a body -/
def cxE (P : Program) (w : World) (K : PySem.W.Frag) (mg : Str → Option Value) (base : Heap) (N : List Str) (qual : Str) (scope : Scope) (f : Addr) (cd : Value) (cc : Addr) (A : Around) (outer : List PySem.Env) (s : Shared) (H : Hp) (xe : Value → Shared → Prop) : Cx where
  prog := P
  w := w
  K := K
  mg := mg
  base := base
  A := A.deeper (PySem.W.ksEnv qual scope s.heap.objs.size f cd cc)
  N := N
  s_0 := s
  H_0 := H
  env := PySem.W.ksEnv qual scope s.heap.objs.size f cd cc
  outer := outer
  stack := PySem.W.ksEnv qual scope s.heap.objs.size f cd cc :: outer
  ex := []
  calm := true
  fn := fun _ => false
  pn := []
  xe := xe
theorem cell_one {x : Str} {c : Addr} (h : ([(("__class__" : Str), cc)]).lookup x = some c) : x = "__class__" ∧ c = cc := by
  rw [List.lookup_cons] at h
  split at h
  · rename_i z
    cases h
    exact ⟨beq_iff_eq.mp z, rfl⟩
  · cases h
theorem inv_startE {xe : Value → Shared → Prop} {h0 : Heap} {tk : Nat} {v0 v1 : V} {u0 u1 : Value} {cl : Value} {cld : Option Addr} {csl : Array (Option Value)} {D : Addr}
    (hk : scope.kind = .function) (hn : ∀ x, scope.names.lookup x = some .cell ∨ scope.names.lookup x = some .free → x = "__class__") (hl0 : scope.names.lookup ("self" : Str) = some .local) (hl1 : scope.names.lookup x1 = some .local) (hne : ("self" : Str) ≠ x1)
    (hcell : K.lookup cc = some ⟨cl, cld, .cell (some (.ref D)), csl⟩) (hd : A.handled = none) (e0 : Env0 P w K mg base A outer s H) (r0 : RelV v0 u0) (r1 : RelV v1 u1)
    (hns : h0.Ns s.heap.objs.size (fun y => ([(("self" : Str), u0), (x1, u1)]).reverse.lookup y)) (hkp : ∀ b o, s.heap.get? b = some o → h0.get? b = some o) :
    Inv (cxE P w K mg base ["self", x1] qual scope f cd cc A outer s H xe) [] [some v0, some v1] H { s with heap := h0, toks := tk } := by
  have noA : ∀ b : Addr, b ∉ (cxE P w K mg base ["self", x1] qual scope f cd cc A outer s H xe).ex := fun b z => absurd (show b ∈ ([] : List Addr) from z) (by simp)
  have hb : base.get? cc = some ⟨cl, cld, .cell (some (.ref D)), csl⟩ := e0.mod.kin _ _ hcell
  obtain ⟨hs, hf⟩ := e0.bs _ _ hb
  refine ⟨⟨e0.mod, hk, rfl, rfl, Nat.le_refl _, fun y z c h1 h2 => ?_, fun y hy => ?_, fun y c h _ => (nomatch h), fun _ => hd, Around.frames_deeper e0.frames, .inr ⟨rfl, rfl⟩, fun b z => absurd z (noA b), e0.bs, e0.bsz, fun b _ _ => noA b, fun b z => absurd z (noA b), e0.funs, e0.frf⟩,
    rfl, e0.bare, Un.kept hkp, ⟨_, hns, fun i y v h1 h2 h3 => ?_⟩, fun y c h => ?_, e0.hok.fresh (Nat.le_refl _), fun y c h => ?_, fun p hp => absurd (show p ∈ ([] : List (Addr × Obj)) from hp) (by simp), e0.hok.kept hkp, rfl⟩
  · exact (cell_one h1).1.trans (cell_one h2).1.symm
  · have := hn y hy
    subst this
    exact ⟨cc, rfl⟩
  · match i, h1, h2 with
    | 0, h1, h2 =>
      cases h1
      cases h2
      refine ⟨u0, r0, .inl ⟨hl0, ?_⟩⟩
      show List.lookup (PySem.Str.ofString "self") ([(x1, u1), (("self" : Str), u0)] : List (Str × Value)) = some u0
      rw [List.lookup_cons, (beq_eq_false_iff_ne).mpr hne]
      rfl
    | 1, h1, h2 =>
      cases h1
      cases h2
      refine ⟨u1, r1, .inl ⟨hl1, ?_⟩⟩
      show List.lookup x1 ([(x1, u1), (("self" : Str), u0)] : List (Str × Value)) = some u1
      rw [List.lookup_cons, beq_self_eq_true]
    | i + 2, h1, h2 => cases h1
  · obtain ⟨rfl, rfl⟩ := cell_one h
    exact ⟨_, _, hkp _ _ hs, rfl⟩
  · obtain ⟨rfl, rfl⟩ := cell_one h
    exact hf
/-- an attribute of an exception -/
def exV : V → Bool
  | .int i => decide (i.natAbs.log2 < 1920) && decide ((toString i : Str).length ≤ 10000000)
  | .str x => decide (x.length ≤ 10000000)
  | _ => false
def spE (C : Addr) (x1 : Str) : Sp := fun vs H Q _ => ∃ a v, vs = [.ref a, v] ∧ exV v = true ∧ H a = some (exo a C none) ∧ ∀ dx, H dx = none → dx ≠ a → Q .non (upd (upd H dx (exd dx [(x1, v)])) a (exo a C (some dx)))
theorem method_plain {o : Expr} {name : Str} {apos pos : Pos} {args : List Expr} {env : PySem.Env} (hfew : methodCallForm (args.length + ([] : List Keyword).length) (backTo pos (starEach args env)) (backToKw pos (keywordEach [] env)) = true) (hline : (apos.endLine == pos.line) = true) :
    eval (.Call (.Attribute o name apos) args [] pos) env = (do
      let ov ← attributeBase o name env (eval o env)
      standAt apos.atName
      let (f, first) ← holding [ov] (getMethod ov name (do return (← importBound o env).getD true))
      callWith pos f first (backTo pos (starEach args env)) []) := by
  rw [arm_eval_Call]
  unfold methodCall calleeOf methodCallPos
  rw [hfew, hline]
  rfl
/-- what is known of such a class -/
structure ExI (K : PySem.W.Frag) (C f cc cda : Addr) (x1 t : Str) (kk : Nat) (qual : Str) (scope : Scope) (file : Str) : Prop where
  oex : OexC K C
  sup : ∃ cd, PySem.W.clsIn K C = some cd ∧ PySem.W.alongIn K "__init__" ((cd.mro.dropWhile (· != .ref C)).drop 1) = some (some (.builtin "ValueError.__init__"))
  sub : PySem.W.mroIn K C (.ref C) = some true
  subV : PySem.W.subIn K (.ref C) (.type "ValueError") = some true
  opq : PySem.W.nsIn K cStatics "thirdparty.any" = some none
  nos : PySem.W.nsIn K mainGlobals "super" = some none
  fld : PySem.W.findIn K (.ref C) x1 = some none
  cell : ∃ cl cld csl, K.lookup cc = some ⟨cl, cld, .cell (some (.ref C)), csl⟩
  cod : ∃ ccl cdd vs ccs tf, K.lookup cda = some ⟨ccl, cdd, .fields vs, ccs⟩ ∧ vs[2]? = some (.str file tf)
  kind : scope.kind = .function
  free : ∀ x, scope.names.lookup x = some .cell ∨ scope.names.lookup x = some .free → x = "__class__"
  slf : scope.names.lookup ("self" : Str) = some .local
  par : scope.names.lookup x1 = some .local
  sps : scope.names.lookup ("super" : Str) = some .globalImplicit
  cls : scope.names.lookup ("__class__" : Str) = some .free
  ne : ("self" : Str) ≠ x1
  nd : (x1 == ("__debug__" : Str)) = false ∧ (x1 == ("__classdict__" : Str)) = false
  few : t.length ≤ 1000
theorem upd_exo {a : Addr} {C : Addr} (h : H a = some (exo a C none)) : upd H a (exo a C none) = H := by
  funext b
  by_cases hb : b = a
  · rw [hb, upd_same, h]
  · rw [upd_ne hb]
theorem mg_superE (e : ExI K C f cc cda x1 t kk qual scope file) (kin : K.In base) (g : base.Ns mainGlobals mg) : mg "super" = none := PySem.W.mg_none_of kin g e.nos
theorem initE {bs : List Stmt} {t : Str} {kk : Nat} {file : Str} {p0 p1 p2 p3 p4 p5 p6 p7 p8 q1 q2 q3 q4 : Pos} {name : Str} {params : Arguments} {dV kV doc pm ct oc : Value} {an od : Option Addr} {osl : Array (Option Value)} {ar : Arg}
    (e : ExI K C f cc cda x1 t kk qual scope file) (lk : K.lookup f = some ⟨oc, od, .func (PySem.W.ksFn name qual params bs scope dV kV doc pm an (.ref cda) ct cc), osl⟩) (hcd : PySem.W.codeIn K (.ref cda) qual = true)
    (hbs : bs = [.Expr (.Call (.Attribute (.Call (.Name "super" p0) [] [] p1) "__init__" p2) [.JoinedStr [.Constant (.str t) kk q1, .FormattedValue (.Name x1 q2) (-1) none q3] q4] [] p3) p4, .Assign [.Attribute (.Name "self" p5) x1 p6] (.Name x1 p7) p8])
    (hp : (params.posonlyargs ++ params.args).head? = some ar) (har : ar.arg = "self") (hco : scope.isCoroutine = false) (hgen : scope.isGenerator = false) (hcells : ∀ x ∈ scope.names, x.2 ≠ .cell)
    (hline : (p2.endLine == p3.line) = true) (hfile : ((P.main.file : Str) == file) = true) (htop : (P.main.scope.names.lookup ("super" : Str)).isSome = false) :
    FnOk P w K mg base CX0 1 f (PySem.W.ksFn name qual params bs scope dV kV doc pm an (.ref cda) ct cc) ["self", x1] (spE C x1) := by
  subst hbs
  refine ⟨fun vs H Q E h => by obtain ⟨a, v, rfl, _⟩ := h; rfl, fun A outer s H args us vs Q E hr e0 hb rv hsp => ?_⟩
  obtain ⟨a, v, rfl, hv, ha, k⟩ := hsp
  obtain ⟨u0, u1, rfl, r0, r1⟩ := rv.two
  have ups : ∀ b o, base.get? b = some o → s.heap.get? b = some o := fun b o z => (e0.bs b o z).1
  have inK : K.In s.heap := e0.mod.kin.keeps ups
  obtain ⟨cl, cld, csl, hcell⟩ := e.cell
  refine PySem.ks_codeAny_call_defAt (Room.depth hr) (inK _ _ lk) rfl (e0.mod.nolimit.keeps ups) (PySem.W.codeRec_of inK hcd) rfl hb hcells (fun y hy => ?_) (fun h0 hns hkp => ?_) hco hgen e.kind
  · have hy : y ∈ [(("self" : Str), u0), (x1, u1)] := hy
    rcases List.mem_cons.mp hy with rfl | hy
    · exact e.slf
    · rcases List.mem_cons.mp hy with rfl | hy
      · exact e.par
      · cases hy
  have I := inv_startE (P := P) (w := w) (mg := mg) (qual := qual) (f := f) (cd := .ref cda) (x1 := x1) (tk := s.toks + 2)
    (xe := fun er s' => wpAny (model P w) (A.deeper (PySem.W.ksEnv qual scope s.heap.objs.size f (.ref cda) cc)) (leaving (PySem.W.ksEnv qual scope s.heap.objs.size f (.ref cda) cc) er) (fun _ s'' => CR CX0 outer P w H s Q E (.error er) s'') (fun e' s'' => CR CX0 outer P w H s Q E (.error e') s'') s')
    e.kind e.free e.slf e.par e.ne hcell hr.hd e0 r0 r1 hns hkp
  have L0 : u0 = Value.ref a := r0
  subst L0
  obtain ⟨ccl, cdd, cvs, ccs, tf, hcode, hvs⟩ := e.cod
  obtain ⟨cdat, hcls, halong⟩ := e.sup
  have X1 := I.kIn
  obtain ⟨t1, hx⟩ := exo_at I.hok ha
  obtain ⟨oD, hD1, hD2⟩ : ∃ oD, h0.get? C = some oD ∧ oD.data = .cls cdat := by
    unfold PySem.W.clsIn at hcls
    split at hcls
    · rename_i c d cd' sl ho
      cases hcls
      exact ⟨_, X1 _ _ ho, rfl⟩
    · cases hcls
  obtain ⟨mb, hmb1, hmb2⟩ := e0.mod.blt
  have bk : ∀ b o, base.get? b = some o → h0.get? b = some o := fun b o z => hkp b o (ups b o z)
  have hint : interactive (PySem.W.ksEnv qual scope s.heap.objs.size f (.ref cda) cc) = false := by
    unfold interactive
    simp [e.kind]
  show PySem.wpAt (model P w) (A.deeper (PySem.W.ksEnv qual scope s.heap.objs.size f (.ref cda) cc)) (.func _ (PySem.W.ksEnv qual scope s.heap.objs.size f (.ref cda) cc)) (execs _ (PySem.W.ksEnv qual scope s.heap.objs.size f (.ref cda) cc)) _ _ _
  refine PySem.ks_wpAt_execs_cons ?_
  refine PySem.ks_wpAt_Expr_any (hi := hint) ?_
  refine PySem.ks_wpAt_MethodCall (he := method_plain (by rfl) hline) ?_
  refine PySem.ks_wpAt_super_base (env := PySem.W.ksEnv qual scope s.heap.objs.size f (.ref cda) cc) (show scope.names.lookup _ = _ from e.sps) (show scope.names.lookup _ = _ from e.cls) (by decide) rfl (X1 _ _ lk) rfl hp rfl (X1 _ _ hcode) rfl hvs hfile htop ?_
  refine PySem.W.ks_loadName_global e.kind e.sps (loadGlobal_builtin (e0.mod.glob.keeps bk) (mg_superE e e0.mod.kin e0.mod.glob) (hmb1.keeps bk) ((hmb2 _ (by decide)).trans (by decide +kernel)) ⟨rfl, ?_⟩)
  refine wpAny_loadName_free e.kind e.cls rfl ⟨_, X1 _ _ hcell, rfl⟩ ?_
  rw [har]
  refine wpAny_loadName_local e.kind e.slf hns (v := .ref a) ?_ ?_
  · show List.lookup (PySem.Str.ofString "self") ([(x1, u1), (("self" : Str), Value.ref a)] : List (Str × Value)) = _
    rw [List.lookup_cons, (beq_eq_false_iff_ne).mpr e.ne]
    rfl
  refine PySem.ks_wpAny_isType_cls hD1 hD2 ⟨rfl, ?_⟩
  refine PySem.ks_wpAny_call_super hD1 hD2 hx rfl (fun c z => (nomatch z)) (PySem.W.looks_mroIn X1 e.sub) (fun h1 e1 k1 => ?_)
  have I1 := I.kept (t' := s.toks + 2) (h' := h1) fun b ob q => k1 b ob q
  have J1 : PySem.W.InstAt h1 a ({ cls := .ref C, dict := none, data := .fields #[.ref t1, .none, .none, .none, .bool false, .none] } : Obj) C none := ⟨k1 _ _ hx, rfl, rfl, trivial⟩
  refine PySem.W.kxs_getMethod PySem.W.kxs_ValueError e1 (PySem.W.looks_opaque I1.kIn e.opq) (l₀ := cdat.mro) (fun A Q E s k q => wpAny_bind ((PySem.W.looks_clsIn I1.kIn hcls) A _ E s k (wpAny_pure q))) rfl I1.kIn halong (J1.type.andThen (PySem.W.looks_subIn I1.kIn e.subV)) (PySem.W.ks_ne I1.kIn J1 hcls) (by decide) ?_
  have I2 := (I1.kept (t' := s.toks + 2 + 1) (h' := h1.push (PySem.W.kxs_mw "ValueError.__init__" a)) fun b ob q => Heap.get?_push_of_some _ q).pins_of (pins' := [(h1.objs.size, PySem.W.kxs_mw "ValueError.__init__" a)]) (fun p hp => by
    rcases List.mem_cons.mp hp with rfl | hp
    · exact ⟨Heap.get?_push_at rfl rfl, I1.hok.fresh (Nat.le_refl _), Nat.ne_of_gt I1.lt, I1.nofs (Nat.le_refl _), fun v z => (nomatch z)⟩
    · cases hp)
  have hu0 : base.get? h1.objs.size = none := by
    cases z : base.get? h1.objs.size with
    | none => rfl
    | some o => exact absurd (Heap.lt_size (k1 _ _ (bk _ _ z))) (Nat.lt_irrefl _)
  have hA := pa_cons (X := (cxE P w K mg base ["self", x1] qual scope f (.ref cda) cc A outer s H (fun er s' => wpAny (model P w) (A.deeper (PySem.W.ksEnv qual scope s.heap.objs.size f (.ref cda) cc)) (leaving (PySem.W.ksEnv qual scope s.heap.objs.size f (.ref cda) cc) er) (fun _ s'' => CR CX0 outer P w H s Q E (.error er) s'') (fun e' s'' => CR CX0 outer P w H s Q E (.error e') s'') s')))
    (pe_joined (pos := q4) (.cons (pe_str (x := t) (j := kk) (pos := q1)) (.cons (pe_fmt (pos := q3) (pe_var (i := 1) (x := x1) (pos := q2) rfl (.inl e.par) e.nd.1 e.nd.2)) .nil))) pa_nil rfl
  refine PySem.W.kxs_callWith1 (h₀ := base) (L := s.heap.objs.size) (news := [(h1.objs.size, PySem.W.kxs_mw "ValueError.__init__" a)]) (x := a) (i := "ValueError.__init__") (fun p hp => ?_) List.mem_cons_self (thn (hA.run p3 _ _ _ _ (fun vs H1 => ∃ y, vs = [V.str y] ∧ H1 = H) I2 ?_) fun us s3 hq => ?_)
  · rcases List.mem_cons.mp hp with rfl | hp
    · exact ⟨Heap.get?_push_at rfl rfl, Nat.ne_of_gt I1.lt, hu0⟩
    · cases hp
  · have hz : sizeLine = 16777216 := sizeLine_eq
    have ht := e.few
    have e0' : (Str.empty ++ t).length = t.length := by
      rw [Str.length_append]
      exact Nat.zero_add _
    refine ⟨t, rfl, by rw [e0', hz]; omega, v, rfl, ?_⟩
    cases v <;> try (exact Bool.noConfusion (show false = true from hv))
    · rename_i i
      have hv : (decide (i.natAbs.log2 < 1920) && decide ((toString i : Str).length ≤ 10000000)) = true := hv
      simp only [Bool.and_eq_true, decide_eq_true_eq] at hv
      refine .inr ⟨i, rfl, hv.1, _, rfl, ?_, _, rfl, rfl⟩
      rw [Str.length_append, e0', hz]
      omega
    · rename_i y
      have hv : decide (y.length ≤ 10000000) = true := hv
      have hv := of_decide_eq_true hv
      refine .inl ⟨y, rfl, by rw [hz]; omega, _, rfl, ?_, _, rfl, rfl⟩
      rw [Str.length_append, e0', hz]
      omega
  obtain ⟨vs, H3, I3, r3, y, rfl, rfl⟩ := hq
  have hu3 := (I3.pin (h1.objs.size, PySem.W.kxs_mw "ValueError.__init__" a) (List.mem_append_right _ List.mem_cons_self)).1
  refine ⟨hu3, ?_⟩
  obtain ⟨nm, q, N', bs', bm, sn, sub, ab, col, dd, k0, k1', k2, k3, k5, hC, hbm⟩ := e.oex.cls
  obtain ⟨t3, he3⟩ := exo_at I3.hok ha
  have hC3 := I3.kIn _ _ hC
  have hus : us.length ≤ sizeLine := by
    have := r3.length
    rw [sizeLine_eq]
    simp at this
    omega
  obtain ⟨hp3, g3, d3, tk3, os3⟩ := s3
  refine wpAny_call (codeAny_of_tree ?_)
  show wpAny _ (Around.in1 _) (callAny (.ref h1.objs.size) ⟨us, []⟩) _ _ _
  simp only [callAny]
  refine wpAny_bind (wpAny_load hu3 ?_)
  simp only [PySem.W.kxs_mw, show (Value.type "method-wrapper" == Value.type "method" || Value.type "method-wrapper" == Value.type "builtin_function_or_method" || Value.type "method-wrapper" == Value.type "method-wrapper") = true by decide, if_true]
  refine PySem.W.KFB.if_so (by decide) ?_
  refine wpAny_bind (PySem.W.check_bound_init PySem.F.excBase_ValueError.toExcCallFacts hC3 he3 rfl ?_)
  refine wpAny_bind (wpAny_pure (wpAny_pure ?_))
  refine ⟨PySem.plainId_quiet PySem.F.excBase_ValueError.init.plain _, codeAny_builtin PySem.F.excBase_ValueError.initEntry ?_⟩
  refine PySem.W.exc_init_tree (cls := .ref C) (t0 := t3) (dv := none) (c2 := .none) (c3 := .none) (b4 := .bool false) he3 hus fun h4 kk4 hx4 ht4 => ?_
  have J := I3.write (t' := tk3) (x := a) (e := a) (o := exo a C none) (by rw [ha]; exact True.intro) (.inl rfl) kk4 ⟨_, hx4⟩ (exo_ok hx4)
  have eu : upd _ a (exo a C none) = _ := upd_exo ha
  rw [eu] at J
  refine wpAt_of_wpAny (wpAny_mono ((pss_cons (ps_ost (pos := p8) (p' := p6) (pe_var (i := 0) (x := "self") (pos := p5) rfl (.inl e.slf)) (pe_var (i := 1) (x := x1) (pos := p7) rfl (.inl e.par) e.nd.1 e.nd.2)) pss_nil).run _ _ _ _ { nx := fun _ H' => Q .non H', rt := fun _ _ => False } J ?_) (fun fl s' hs => ?_) fun e s' z => z)
  · exact ⟨v, rfl, _, rfl, a, C, rfl, e.oex, e.fld, .inl ⟨ha, fun dx hd ne => k dx hd ne⟩⟩
  · cases fl with
    | next =>
      obtain ⟨σ', H', J, q⟩ := hs
      exact ⟨V.non, H', J.os, J.bare, J.base, J.hok, rfl, q⟩
    | ret u =>
      obtain ⟨v, σ', H', J, r1, q⟩ := hs
      exact q.elim
    | brk =>
      obtain ⟨σ', H', J, q⟩ := hs
      exact q.elim
    | cont =>
      obtain ⟨σ', H', J, q⟩ := hs
      exact q.elim
theorem rsE {X : Cx} {nmx : Str} {fd : FuncData} {e0 : Expr} {es : List Expr} {pp pos : Pos} (T : OexC X.K C) (iC : PySem.W.findIn X.K (.ref C) "__init__" = some (some (.ref f))) (tI : PySem.W.typeIn X.K (.ref f) = some (.type "function"))
    (F1 : FnOk X.prog X.w X.K X.mg X.base CX0 1 f fd ["self", x1] (spE C x1)) (hr : Room 2 X.A) (hb : Binds X.K fd ["self", x1] []) (hg : Gl X nmx) (hm : X.mg nmx = some (.ref C)) (hdb : (nmx == ("__debug__" : Str)) = false)
    (hs : starEach (e0 :: es) X.env = (false, eval e0 X.env) :: starEach es X.env) (hp : (backTo pos (starEach es X.env)).any (·.1) = false) :
    PMk X (.Call (.Name nmx pp) (e0 :: es) [] pos) (fun σ H Q => wA X (e0 :: es) σ H fun vs H1 => vs.length = 1 ∧ vs.all exV = true ∧ ∀ d fs, H1 d = none → (∀ (k : Nat) (nm : Str), [x1][k]? = some nm → fs.lookup nm = vs[k]?) → Q (.ref C) (some d) (upd H1 d (.xd fs))) := by
  intro pins s σ H Q I h
  refine pmk_oex (dvs := []) (ds := []) T iC tI F1 hr hb .nil pass0 hg hm pa_w hdb hs hp pins s σ H Q I ?_
  refine wA.mono h fun vs H1 z => ?_
  obtain ⟨hl, hv, k⟩ := z
  rcases vs with _ | ⟨v, _ | ⟨v2, vs⟩⟩
  · cases hl
  · refine ⟨by show 1 ≤ 1000; decide, fun a ha => ⟨a, v, rfl, by simpa using hv, upd_same, fun dx hd ne => ⟨rfl, dx, [(x1, v)], upd_same, ?_, ?_, ?_⟩⟩⟩
    · rw [upd_ne ne, upd_same]
    · rw [upd_ne ne] at hd
      exact hd
    · rw [upd_ne ne] at hd
      have eh : upd (del (upd (upd (upd H1 a (exo a C none)) dx (exd dx [(x1, v)])) a (exo a C (some dx))) a) dx (.xd [(x1, v)]) = upd H1 dx (.xd [(x1, v)]) := by
        funext b
        by_cases hb : b = dx
        · rw [hb, upd_same, upd_same]
        · rw [upd_ne hb, upd_ne hb]
          by_cases hba : b = a
          · rw [hba, del_same, ha]
          · rw [del_ne hba, upd_ne hba, upd_ne hb, upd_ne hba]
      rw [eh]
      refine k dx _ hd fun j nm hj => ?_
      match j, hj with
      | 0, hj =>
        cases hj
        show List.lookup x1 [(x1, v)] = _
        rw [List.lookup_cons, beq_self_eq_true]
        rfl
      | j + 1, hj => cases hj
  · simp at hl
end
end Y

/-! Y8: the operations' readings. -/
namespace Y
open PySem PySem.Spec PyProof.Rows L2
section
variable {X : Cx}
def rW (X : Cx) (f : Value → Value → Sem Value) : R2 := fun x y H Q => ∀ pins s σ v u, Inv X pins σ H s → RelV x v → RelV y u → wpAny (model X.prog X.w) X.A (f v u) (EP X pins σ Q) X.xe s
theorem opr_w {f : Value → Value → Sem Value} : OpR X f (rW X f) := fun pins s σ H x y v u Q I r1 r2 h => h pins s σ v u I r1 r2
theorem rW.by {f : Value → Value → Sem Value} {r : R2} {x y : V} {H : Hp} {Q : VK} (o : OpR X f r) (h : r x y H Q) : rW X f x y H Q := fun pins s σ v u I r1 r2 => o pins s σ H x y v u Q I r1 r2 h
theorem rW.mono {f : Value → Value → Sem Value} {x y : V} {H : Hp} {Q Q' : VK} (h : rW X f x y H Q) (k : ∀ v H', Q v H' → Q' v H') : rW X f x y H Q' := fun pins s σ v u I r1 r2 =>
  thn (h pins s σ v u I r1 r2) fun u s' z => by
    obtain ⟨v, H', I', r, q⟩ := z
    exact ⟨v, H', I', r, k v H' q⟩
def cW (X : Cx) (f : Value) : List V → Hp → VK → Prop := fun xs H Q => ∀ pins s σ us, Inv X pins σ H s → Vals xs us → wpAny (model X.prog X.w) X.A (call f us) (EP X pins σ Q) X.xe s
theorem callr_w {f : Value} : CallR X f (cW X f) := fun pins s σ H xs us Q I r h => h pins s σ us I r
theorem cW.by {f : Value} {r : List V → Hp → VK → Prop} {xs : List V} {H : Hp} {Q : VK} (o : CallR X f r) (h : r xs H Q) : cW X f xs H Q := fun pins s σ us I q => o pins s σ H xs us Q I q h
end
theorem noO {α : Type} {a : α} {p : Prop} (h : none = some a) : p := nomatch h
/-- the end of an expression: what it comes to, the slots behind it -/
def QE (K : PySem.W.Frag) (Cs : Cls) (hv : Nat → Nat → Option V) (Θ : Ow) (G H : Hp) (σ : L2.St) (av : AV) (e' : Sl) : VK := fun v H' =>
  ∃ G' Θ' U, Stp Θ G H Θ' G' H' ∧ Sts K Cs hv Θ' G' H' e' σ ∧ AVok K Cs Θ' H G' H' σ U av v ∧ ∀ p, U p → Θ' p = none ∧ H p = none ∧ ∃ u, H' p = some u
section
variable {K : PySem.W.Frag} {Cs : Cls} {hv : Nat → Nat → Option V} {U U1 U2 : Addr → Prop} {Θ Θ0 Θ1 Θ2 Θ' : Ow} {G0 G G' H0 H H' : Hp} {e e' : Sl} {σ : L2.St} {av : AV} {v v1 v2 : V} {o : O} {d p q : D} {xs : List D} {a1 a2 : AV}
theorem QE.dat (st : Stp Θ0 G0 H0 Θ G H) (s : Sts K Cs hv Θ G H e σ) (r : Rp K G v d) : QE K Cs hv Θ0 G0 H0 σ (.tm (.d d)) e v H := ⟨G, Θ, fun _ => False, st, s, AVok.dat r, fun _ z => z.elim⟩
theorem QE.lst {vs : List V} {a : Addr} (st : Stp Θ0 G0 H0 Θ G H) (s : Sts K Cs hv Θ G H e σ) (r : RpA K G vs xs) (h : H a = none) : QE K Cs hv Θ0 G0 H0 σ (.tm (.ol xs)) e (.ref a) (upd H a (.lst vs)) := by
  refine ⟨G, Θ, fun p => p = a, st.trans (Stp.laid h), s.laid h, ⟨fun p => if p = a then some 0 else none, ⟨a, vs, rfl, upd_same, s.noG h, r, if_pos rfl⟩, fun p m z => ?_⟩, fun p z => ?_⟩
  · by_cases w : p = a
    · subst w
      exact ⟨rfl, s.noOw h, st.back s h, _, upd_same⟩
    · have z : (if p = a then some 0 else none) = some m := z
      rw [if_neg w] at z
      cases z
  · have z : p = a := z
    subst z
    exact ⟨s.noOw h, st.back s h, _, upd_same⟩
theorem QE.dct {us : List (Key × V)} {kvs : List (D × D)} {a : Addr} (st : Stp Θ0 G0 H0 Θ G H) (s : Sts K Cs hv Θ G H e σ) (r : RpK K G us kvs) (h : H a = none) : QE K Cs hv Θ0 G0 H0 σ (.tm (.od kvs)) e (.ref a) (upd H a (.dK us)) := by
  refine ⟨G, Θ, fun p => p = a, st.trans (Stp.laid h), s.laid h, ⟨fun p => if p = a then some 0 else none, ⟨a, us, rfl, upd_same, s.noG h, r, if_pos rfl⟩, fun p m z => ?_⟩, fun p z => ?_⟩
  · by_cases w : p = a
    · subst w
      exact ⟨rfl, s.noOw h, st.back s h, _, upd_same⟩
    · have z : (if p = a then some 0 else none) = some m := z
      rw [if_neg w] at z
      cases z
  · have z : p = a := z
    subst z
    exact ⟨s.noOw h, st.back s h, _, upd_same⟩
theorem QE.tup {vs : List V} {a : Addr} (st : Stp Θ0 G0 H0 Θ G H) (s : Sts K Cs hv Θ G H e σ) (r : RpA K G vs xs) (h : H a = none) : QE K Cs hv Θ0 G0 H0 σ (.tm (.d (.tuple xs))) e (.ref a) (upd H a (.tup vs)) :=
  ⟨upd G a (.tup vs), Θ, fun _ => False, st.trans (Stp.froz s.gh h), s.froz h, AVok.dat (Rp.tup (SqT.of upd_same) (RpA.mono (Same.new (s.noG h)) xs vs r)), fun _ z => z.elim⟩
theorem rp_int {i : Int} (h : Rp K H v (.int i)) : v = .int i := by cases h; rfl
theorem rp_str {x : Str} (h : Rp K H v (.str x)) : v = .str x := by cases h; rfl
theorem rp_bl {b : Bool} (h : Rp K H v (.bool b)) : v = .bl b := by cases h; rfl
/-- a + b and its like -/
theorem bin_rd {X : Cx} {b : BOp} {op : Operator} (st : Stp Θ0 G0 H0 Θ G H) (s : Sts X.K Cs hv Θ G H e σ) (k1 : AVok X.K Cs Θ H0 G H σ U1 a1 v1) (k2 : AVok X.K Cs Θ H0 G H σ U2 a2 v2)
    (h1 : a1.dat e = some p) (h2 : a2.dat e = some q) (hb : bopB b op = true) (h : binD b p q = some o) : rW X (binaryOp op) v1 v2 H (QE X.K Cs hv Θ0 G0 H0 σ (.tm o) e) := by
  have r1 := k1.rp s h1
  have r2 := k2.rp s h2
  cases b with
  | add =>
    cases op <;> try (exact no hb)
    cases p <;> try (exact noO h)
    · cases q <;> try (exact noO h)
      cases rp_int r1
      cases rp_int r2
      cases h
      exact rW.by op_add ⟨_, _, rfl, rfl, QE.dat st s (.int _)⟩
    · cases q <;> try (exact noO h)
      cases rp_str r1
      cases rp_str r2
      simp only [binD] at h
      split at h
      · cases h
        exact rW.by op_add_str ⟨_, _, rfl, rfl, by assumption, QE.dat st s (.str _)⟩
      · cases h
    · cases q <;> try (exact noO h)
      obtain ⟨a1, vs1, rfl, l1, m1⟩ := k1.lst s h1
      obtain ⟨a2, vs2, rfl, l2, m2⟩ := k2.lst s h2
      simp only [binD] at h
      split at h
      · rename_i hz
        cases h
        exact rW.by op_catP ⟨_, _, _, _, rfl, rfl, l1, l2, by rw [← m1.len, ← m2.len] at hz; exact hz, fun p hp => QE.lst st s (m1.app m2) hp⟩
      · cases h
  | sub =>
    cases op <;> try (exact no hb)
    cases p <;> try (exact noO h)
    cases q <;> try (exact noO h)
    cases rp_int r1
    cases rp_int r2
    cases h
    exact rW.by op_sub ⟨_, _, rfl, rfl, QE.dat st s (.int _)⟩
  | mul =>
    cases op <;> try (exact no hb)
    cases p <;> try (exact noO h)
    cases q <;> try (exact noO h)
    cases rp_int r1
    cases rp_int r2
    simp only [binD] at h
    split at h
    · cases h
      exact rW.by op_mul ⟨_, _, rfl, rfl, by assumption, QE.dat st s (.int _)⟩
    · cases h
  | fdiv =>
    cases op <;> try (exact no hb)
    cases p <;> try (exact noO h)
    cases q <;> try (exact noO h)
    cases rp_int r1
    cases rp_int r2
    simp only [binD] at h
    split at h
    · cases h
      exact rW.by op_fdiv ⟨_, _, rfl, rfl, by assumption, QE.dat st s (.int _)⟩
    · cases h
  | mod =>
    cases op <;> try (exact no hb)
    cases p <;> try (exact noO h)
    cases q <;> try (exact noO h)
    cases rp_int r1
    cases rp_int r2
    simp only [binD] at h
    split at h
    · cases h
      exact rW.by op_mod ⟨_, _, rfl, rfl, by assumption, QE.dat st s (.int _)⟩
    · cases h
  | pow =>
    cases op <;> try (exact no hb)
    cases p <;> try (exact noO h)
    cases q <;> try (exact noO h)
    cases rp_int r1
    cases rp_int r2
    simp only [binD] at h
    split at h
    · cases h
      exact rW.by op_pow ⟨_, _, rfl, rfl, by assumption, QE.dat st s (.int _)⟩
    · cases h
theorem one_of {x : Str} {c : Nat} (h : x.cps.toList = [c]) : x = ⟨#[c]⟩ := by
  obtain ⟨a⟩ := x
  have h' : a.toList = [c] := h
  have : a = #[c] := by
    apply Array.toList_inj.mp
    exact h'
  rw [this]
theorem flat_eq {x y : V} {a b : D} (h1 : Rp K H x a) (h2 : Rp K H y b) (f1 : flatD a = true) (f2 : flatD b = true) : eqV x y = PyData.eqv a b ∧ flatV x = true ∧ flatV y = true := by
  cases a <;> try (exact no f1)
  all_goals
    cases b <;> try (exact no f2)
    all_goals
      cases h1
      cases h2
      exact ⟨by simp [eqV, PyData.eqv], rfl, rfl⟩
theorem flat_any {x : V} {a : D} (h1 : Rp K H x a) (f1 : flatD a = true) : ∀ {vs : List V} {ds : List D}, RpA K H vs ds → ds.all flatD = true → vs.all flatV = true ∧ inV x vs = ds.any fun z => PyData.eqv z a
  | _, _, .nil, _ => ⟨rfl, rfl⟩
  | v :: vs, d :: ds, .cons r1 r2, f => by
    rw [List.all_cons, Bool.and_eq_true] at f
    obtain ⟨e1, e2⟩ := flat_any h1 f1 r2 f.2
    obtain ⟨g1, g2, g3⟩ := flat_eq r1 h1 f.1 f1
    refine ⟨by rw [List.all_cons, g2, e1]; rfl, ?_⟩
    unfold inV at e2 ⊢
    rw [List.any_cons, List.any_cons, g1, e2]
theorem in_rd {X : Cx} {Hk : Hp} {r : Bool} (hr : X.A.units + 65 < cLine) (st : Stp Θ0 G0 H0 Θ G H) (s : Sts X.K Cs hv Θ G H e σ) (k1 : AVok X.K Cs Θ Hk G H σ U1 a1 v1) (k2 : AVok X.K Cs Θ Hk G H σ U2 a2 v2)
    (h1 : a1.dat e = some p) (h2 : a2.dat e = some q) (h : inD p q = some r) :
    rW X (compareOp .In) v1 v2 H (QE X.K Cs hv Θ0 G0 H0 σ (.tm (.d (.bool r))) e) ∧ rW X (compareOp .NotIn) v1 v2 H (QE X.K Cs hv Θ0 G0 H0 σ (.tm (.d (.bool (!r)))) e) := by
  have r1 := k1.rp s h1
  have r2 := k2.rp s h2
  cases q <;> try (exact noO h)
  · -- a text
    rename_i y
    cases p <;> try (exact noO h)
    rename_i x
    have h' : signIn x y = some r := h
    unfold signIn at h'
    split at h'
    · rename_i c hc
      cases h'
      cases rp_str r1
      cases rp_str r2
      have hx := one_of hc
      subst hx
      exact ⟨rW.by op_in_sign ⟨c, y, rfl, rfl, QE.dat st s (.bl _)⟩, rW.by op_notIn_sign ⟨c, y, rfl, rfl, QE.dat st s (.bl _)⟩⟩
    · cases h'
  · -- a list
    rename_i ys
    simp only [inD] at h
    split at h
    · rename_i hs
      obtain ⟨s1, s2⟩ := and2 hs
      cases h
      have d1 := Rp.dp p v1 r1 (SeqAt.canLay_of_shaped s1)
      have d2 := Rp.dp (.list ys) v2 r2 (SeqAt.canLay_of_shaped s2)
      exact ⟨rW.by (op_inD hr) ⟨p, ys, d1, d2, s1, s2, QE.dat st s (.bl _)⟩, rW.by (op_notInD hr) ⟨p, ys, d1, d2, s1, s2, QE.dat st s (.bl _)⟩⟩
    · cases h
  · -- a tuple
    rename_i ys
    simp only [inD] at h
    split at h
    · rename_i hs
      obtain ⟨s1, s2⟩ := and2 hs
      cases h
      cases r2 with
      | @tup a vs _ t1 t2 =>
        obtain ⟨f1, f2⟩ := flat_any r1 s1 t2 s2
        have fx : flatV v1 = true := (flat_eq r1 r1 s1 s1).2.1
        refine ⟨rW.by op_in_seq ⟨a, vs, rfl, .inr t1, fx, f1, ?_⟩, rW.by op_notIn_seq ⟨a, vs, rfl, .inr t1, fx, f1, ?_⟩⟩
        · rw [if_neg Bool.false_ne_true, f2]
          exact QE.dat st s (.bl _)
        · rw [if_pos rfl, f2]
          exact QE.dat st s (.bl _)
    · cases h
theorem eq_rd {X : Cx} {Hk : Hp} {r : Bool} (hr : X.A.units + 65 < cLine) (st : Stp Θ0 G0 H0 Θ G H) (s : Sts X.K Cs hv Θ G H e σ) (k1 : AVok X.K Cs Θ Hk G H σ U1 a1 v1) (k2 : AVok X.K Cs Θ Hk G H σ U2 a2 v2)
    (h1 : a1.dat e = some p) (h2 : a2.dat e = some q) (h : eqD p q = some r) :
    rW X (compareOp .Eq) v1 v2 H (QE X.K Cs hv Θ0 G0 H0 σ (.tm (.d (.bool r))) e) ∧ rW X (compareOp .NotEq) v1 v2 H (QE X.K Cs hv Θ0 G0 H0 σ (.tm (.d (.bool (!r)))) e) := by
  have r1 := k1.rp s h1
  have r2 := k2.rp s h2
  have deep : (if eqOk p q then some (PyData.eqv p q) else none) = some r → rW X (compareOp .Eq) v1 v2 H (QE X.K Cs hv Θ0 G0 H0 σ (.tm (.d (.bool r))) e) ∧ rW X (compareOp .NotEq) v1 v2 H (QE X.K Cs hv Θ0 G0 H0 σ (.tm (.d (.bool (!r)))) e) := fun h => by
    split at h
    · rename_i hs
      obtain ⟨s1, s2⟩ := and2 hs
      cases h
      have d1 := Rp.dp p v1 r1 (SeqAt.canLay_of_shaped s1)
      have d2 := Rp.dp q v2 r2 (SeqAt.canLay_of_shaped s2)
      exact ⟨rW.by (op_eqD (by omega)) ⟨p, q, d1, d2, s1, s2, QE.dat st s (.bl _)⟩, rW.by (op_neD (by omega)) ⟨p, q, d1, d2, s1, s2, QE.dat st s (.bl _)⟩⟩
    · cases h
  have flat : ∀ {x y : V}, v1 = x → v2 = y → scal x y = true → r = decide (x = y) → rW X (compareOp .Eq) v1 v2 H (QE X.K Cs hv Θ0 G0 H0 σ (.tm (.d (.bool r))) e) ∧ rW X (compareOp .NotEq) v1 v2 H (QE X.K Cs hv Θ0 G0 H0 σ (.tm (.d (.bool (!r)))) e) := fun {x y} e1 e2 sc hd => by
    subst e1 e2 hd
    exact ⟨rW.by op_eq ⟨sc, QE.dat st s (.bl _)⟩, rW.by op_ne ⟨sc, QE.dat st s (.bl _)⟩⟩
  cases p <;> cases q <;> try (exact deep h)
  · rename_i a b
    refine flat (rp_str r1) (rp_str r2) rfl ?_
    have h' : some (decide (a = b)) = some r := h
    cases h'
    by_cases e : a = b
    · subst e
      simp
    · simp [e]
/-- a < b and its like -/
theorem cmp_rd {X : Cx} {Hk : Hp} {c : COp} {op : CmpOp} {r : Bool} (hr : X.A.units + 65 < cLine) (st : Stp Θ0 G0 H0 Θ G H) (s : Sts X.K Cs hv Θ G H e σ) (k1 : AVok X.K Cs Θ Hk G H σ U1 a1 v1) (k2 : AVok X.K Cs Θ Hk G H σ U2 a2 v2)
    (h1 : a1.dat e = some p) (h2 : a2.dat e = some q) (hb : copB c op = true) (h : cmpD c p q = some r) : rW X (compareOp op) v1 v2 H (QE X.K Cs hv Θ0 G0 H0 σ (.tm (.d (.bool r))) e) := by
  have r1 := k1.rp s h1
  have r2 := k2.rp s h2
  cases c with
  | eq =>
    cases op <;> try (exact no hb)
    exact (eq_rd hr st s k1 k2 h1 h2 h).1
  | ne =>
    cases op <;> try (exact no hb)
    have h' : (eqD p q).map (!·) = some r := h
    cases z : eqD p q with
    | none =>
      rw [z] at h'
      cases h'
    | some b =>
      rw [z] at h'
      cases h'
      exact (eq_rd hr st s k1 k2 h1 h2 z).2
  | inn =>
    cases op <;> try (exact no hb)
    exact (in_rd hr st s k1 k2 h1 h2 h).1
  | nin =>
    cases op <;> try (exact no hb)
    have h' : (inD p q).map (!·) = some r := h
    cases z : inD p q with
    | none =>
      rw [z] at h'
      cases h'
    | some b =>
      rw [z] at h'
      cases h'
      exact (in_rd hr st s k1 k2 h1 h2 z).2
  | lt =>
    cases op <;> try (exact no hb)
    cases p <;> try (exact noO h)
    cases q <;> try (exact noO h)
    cases rp_int r1
    cases rp_int r2
    cases h
    exact rW.by op_lt ⟨_, _, rfl, rfl, QE.dat st s (.bl _)⟩
  | le =>
    cases op <;> try (exact no hb)
    cases p <;> try (exact noO h)
    cases q <;> try (exact noO h)
    cases rp_int r1
    cases rp_int r2
    cases h
    exact rW.by op_le ⟨_, _, rfl, rfl, QE.dat st s (.bl _)⟩
  | gt =>
    cases op <;> try (exact no hb)
    cases p <;> try (exact noO h)
    cases q <;> try (exact noO h)
    cases rp_int r1
    cases rp_int r2
    cases h
    exact rW.by op_gt ⟨_, _, rfl, rfl, QE.dat st s (.bl _)⟩
  | ge =>
    cases op <;> try (exact no hb)
    cases p <;> try (exact noO h)
    cases q <;> try (exact noO h)
    cases rp_int r1
    cases rp_int r2
    cases h
    exact rW.by op_ge ⟨_, _, rfl, rfl, QE.dat st s (.bl _)⟩
end
end Y

/-! ZF: a number laid out by a written width, the number being small. -/
namespace Y
open PySem Builtin Float PyProof.Rows
section
variable {prog : Program} {w : World} {A : Around} {E : Value → Shared → Prop} {s : Shared}
theorem fz_field {a : Int} {t : Tok} {sp : Str} {f : FormatSpec} {Q : Value → Shared → Prop} (small : a.natAbs.log2 < 1920) (lt : a.natAbs < 10 ^ 4300) (hp : parseFormatSpec sp.cps.toList "int" 62 = .ok f) (ne : (sp.length == 0) = false)
    (asc : ((sp.cps.toList.drop 1).any (· ≥ 128) || (sp.cps.getD 0 0 ≥ 128 && !([60, 62, 61, 94] : List Nat).contains (sp.cps.getD 1 0))) = false) (good : intSpecGood sp f = true)
    (q : IntSpecFacts f a → Q (.str (intSpecText f a) (s.toks + 1)) { s with toks := s.toks + 1 + 1 }) (size : sp.length ≤ sizeLine) : wpAny (model prog w) A (formatField (.int a t) sp) Q E s := by
  unfold intSpecGood at good
  simp only [Bool.and_eq_true] at good
  obtain ⟨⟨⟨⟨⟨⟨g1, g2⟩, g3⟩, g4⟩, g5⟩, g6⟩, g7⟩ := good
  have g1 := beq_iff_eq.mp g1
  have g2 := Option.isNone_iff_eq_none.mp g2
  have g3 : f.noNeg0 = false := by simpa using g3
  have g4 : f.alt = false := by simpa using g4
  have g5 : f.width.getD 0 ≤ 100000 := by simpa using g5
  have g6 := Option.isNone_iff_eq_none.mp g6
  have g7 := Option.isNone_iff_eq_none.mp g7
  have q1 := q (intSpecFacts a g6 g7)
  have d1 : (Nat.toDigits 10 a.natAbs).length ≤ 4300 := by
    have z := (Nat.length_repr_le_iff (n := a.natAbs) (by decide : 0 < 4300)).mpr lt
    rwa [← String.length_toList, Nat.toList_repr] at z
  have d2 : (intSpecText f a).length ≤ sizeLine := by
    rw [intSpecText_length a g6 g7, sizeLine_eq]
    clear lt q q1
    split <;> omega
  show wpAny _ _ (holding [Value.int a t] (pyFormat (Value.int a t) sp)) Q E s
  apply wpAny_holding
  unfold pyFormat
  refine (wpAny_bind (wpAny_mkStr ?_ size))
  refine (wpAny_bind (m := callSpecial? (Value.int a t) (Str.ofString "__format__") [Value.str sp s.toks]) (wpAny_callSpecial?_slot (name := Str.ofString "__format__") (typeIs_int _ a t) slot_int_format ?_))
  refine (wpAny_call (codeAny_call_builtin slot_int_format.plain entry_int_format (slot_int_format.check _ _ _ _ _ _ _ _ (typeIs_int _ a t) (args_int_format _ _) ?_)))
  unfold Builtin.«int.__format__»
  simp only [selfAndOne, noKeywords, Builtin.Int.intOfSelf, asInt?, asStr?, List.isEmpty_nil, if_true, pure_bind, bind_pure, bind_assoc, ne, asc, Bool.false_eq_true, if_false, show (Value.str sp s.toks == Value.none) = false from rfl]
  refine (wpAny_bind (wpAny_typeNameOf (T := "str") (typeIs_str _ _ _) (by decide) fun _ => ?_))
  refine (wpAny_bind (wpAny_typeNameOfCut_int ?_))
  simp only [hp, g1]
  rw [if_pos (by decide)]
  show (wpAny _ _ (if _ then _ else _) _ _ _)
  rw [if_neg (by simp [g2])]
  show (wpAny _ _ (if _ then _ else _) _ _ _)
  rw [if_neg (by simp [g3])]
  show (wpAny _ _ (if _ then _ else _) _ _ _)
  rw [if_neg (by decide)]
  show wpAny _ _ (do let r ← Builtin.overDigitLimit? a; _) _ _ _
  rw [PyProof.Rows.overDigitLimit_small small]
  refine (wpAny_bind (wpAny_pure ?_))
  show (wpAny _ _ (if _ then _ else _) _ _ _)
  rw [if_neg (by simpa using (show ¬ (f.width.getD 0 > 100000) by omega))]
  show (wpAny _ _ (retStr _) _ _ _)
  unfold retStr
  refine (wpAny_bind (wpAny_mkStr (wpAny_pure ?_) ?two))
  case two =>
    simp only [g4, Bool.false_eq_true, if_false, show ((10 : Nat) == 10) = true by decide, if_true]
    conv => lhs; arg 1; whnf
    simp only [intSpecText, intField', g6, g7, g4, Bool.false_eq_true, if_false, show ((10 : Nat) == 10) = true by decide, if_true] at d2 ⊢
    exact d2
  dsimp only
  refine (wpAny_bind (wpAny_isInstance (typeIs_str _ _ _) isSubtype_str_str (wpAny_pure ?_)))
  simp only [g4, Bool.false_eq_true, if_false, show ((10 : Nat) == 10) = true by decide, if_true]
  conv => arg 1; arg 1; whnf
  simp only [intSpecText, intField', g6, g7, g4, Bool.false_eq_true, if_false, show ((10 : Nat) == 10) = true by decide, if_true] at q1 ⊢
  exact q1
end
end Y
namespace Y
open PySem PySem.Spec PyProof.Rows L2
def tFz (n : Nat) (te : TE) : TE := fun σ H Q => te σ H fun x H1 => ∃ i : Int, x = .int i ∧ (0 ≤ i ∧ i < 1000000000000000000) ∧ Q (.str (padZ n i)) H1
theorem pe_fz {X : Cx} {e : Expr} {te : TE} {sp : Str} {n k : Nat} {p p' p2 p3 : Pos} (ok : intSpecOk sp = true) (zero : intSpecZeroOf sp = true) (wide : intSpecWidthOf sp = n) (hl : sp.length ≤ 100) (he : PE X e te) :
    PE X (.JoinedStr [.FormattedValue e (-1) (some (.JoinedStr [.Constant (.str sp) k p] p')) p2] p3) (tFz n te) := by
  refine ⟨fun pins s σ H Q I h => wpAny_JoinedStr_one (wpAny_FormattedValue_spec (thn (he.run pins s σ H _ I h) fun v s1 z => ?_))⟩
  obtain ⟨x, H1, I1, r1, i, rfl, ⟨h0, h1⟩, q⟩ := z
  obtain ⟨t, rfl⟩ := r1
  refine wpAny_JoinedStr_one (Calls.Constant_str ⟨sp, _, rfl, ?_⟩)
  unfold intSpecOk at ok
  unfold intSpecZeroOf at zero
  unfold intSpecWidthOf at wide
  cases hp : Builtin.Float.parseFormatSpec sp.cps.toList "int" 62 with
  | error m =>
    rw [hp] at ok
    simp at ok
  | ok f =>
    rw [hp] at ok zero wide
    simp only [Bool.and_eq_true] at ok
    obtain ⟨⟨ne, asc⟩, good⟩ := ok
    simp only [Bool.not_eq_true'] at ne asc
    simp only [Bool.and_eq_true, beq_iff_eq] at zero
    have parts := good
    unfold intSpecGood at parts
    simp only [Bool.and_eq_true] at parts
    have g6 := Option.isNone_iff_eq_none.mp parts.1.2
    have g7 := Option.isNone_iff_eq_none.mp parts.2
    have na : i.natAbs < 2 ^ 60 := by omega
    have small : i.natAbs.log2 < 1920 := by
      by_cases z : i.natAbs = 0
      · rw [z]
        decide
      · exact Nat.lt_trans ((Nat.log2_lt z).mpr na) (by decide)
    have e : padZ n i = intSpecText f i := by
      rw [intSpecText_zero g6 g7 zero.1 zero.2 h0]
      unfold padZ
      rw [← wide]
    rw [e] at q
    exact fz_field small (Nat.lt_of_lt_of_le na (by decide +kernel)) hp ne asc good (fun F => ⟨.str (intSpecText f i), H1, (I1.tok _).tok _, ⟨_, rfl⟩, q⟩) (by rw [sizeLine_eq]; omega)
end Y

/-! Y9: built-in functions. -/
namespace Y
open PySem PySem.Spec PyProof.Rows L2
section
variable {K : PySem.W.Frag} {Cs : Cls} {hv : Nat → Nat → Option V} {U U1 U2 : Addr → Prop} {Θ Θ0 Θ1 Θ2 Θ' : Ow} {G0 G G' H0 H H' : Hp} {e e' : Sl} {σ : L2.St} {av : AV} {v v1 v2 : V} {o : O} {p q : D} {xs : List D} {a1 a2 : AV}
def biV : Bi → Value
  | .len => .builtin "len" | .list => .type "list" | .tuple => .type "tuple" | .any => .builtin "any" | .all => .builtin "all" | .int => .type "int" | .str => .type "str" | .repr => .builtin "repr" | .ord => .builtin "ord"
theorem boot_bi (b : Bi) : bootBuiltins (biN b) = some (biV b) := by
  cases b <;> decide +kernel
theorem bools_of : ∀ {vs : List V} {ds : List D} {bs : List Bool}, RpA K G vs ds → boolsOf ds = some bs → vs = bs.map V.bl
  | _, _, bs, .nil, h => by
    have h' : ([] : List Bool) = bs := Option.some.inj h
    subst h'
    rfl
  | v :: vs, d :: ds, bs, .cons r1 r2, h => by
    cases d <;> try (exact noO h)
    rename_i b
    have h' : (boolsOf ds).map (b :: ·) = some bs := h
    cases q : boolsOf ds with
    | none =>
      rw [q] at h'
      cases h'
    | some cs =>
      rw [q] at h'
      cases h'
      rw [rp_bl r1, bools_of r2 q]
      rfl
theorem strs_of : ∀ {vs : List V} {ds : List D} {bs : List Str}, RpA K G vs ds → strsOf ds = some bs → vs = bs.map V.str
  | _, _, bs, .nil, h => by
    have h' : ([] : List Str) = bs := Option.some.inj h
    subst h'
    rfl
  | v :: vs, d :: ds, bs, .cons r1 r2, h => by
    cases d <;> try (exact noO h)
    rename_i b
    have h' : (strsOf ds).map (b :: ·) = some bs := h
    cases q : strsOf ds with
    | none =>
      rw [q] at h'
      cases h'
    | some cs =>
      rw [q] at h'
      cases h'
      rw [rp_str r1, strs_of r2 q]
      rfl
theorem rpa_strs {H : Hp} : ∀ ys : List Str, RpA K H (ys.map V.str) (ys.map PyData.str)
  | [] => .nil
  | y :: ys => .cons (.str y) (rpa_strs ys)
/-- repr of data at any depth -/
theorem repr_rd {X : Cx} {d : D} {a : Addr} {Q : VK} (hg : X.A.guards = some []) (hu : X.A.units + 65 < cLine) (r : Rp X.K H (.ref a) d) (c : d.canLay0 = true) (hs : d.showable = true) (dp : d.depth ≤ 64) (hz : d.shown.length ≤ sizeLine) (q : Q (.str d.shown) H) :
    cW X (.builtin "repr") [.ref a] H Q := fun pins s σ us I rv => by
  obtain ⟨u, rfl, ru⟩ := vals1 rv
  obtain rfl : u = Value.ref a := ru
  obtain ⟨as, rd⟩ := Dp.reads I d (.ref a) (.ref a) (Rp.dp d _ r c) rfl
  refine repr_of_reads' (h₀ := s.heap) rd hs (fun z => absurd z (by rw [PyData.hasDict_of_canLay d c]; simp)) hg (by omega) (fun _ _ e => e) (fun h' u tk hk => ?_) hz
  exact ⟨.str d.shown, H, I.kept (t' := tk) hk, ⟨u, rfl⟩, q⟩
theorem bi_rd {X : Cx} {b : Bi} (hg : X.A.guards = some []) (hu : X.A.units + 65 < cLine) (hc : X.calm = true) (st : Stp Θ0 G0 H0 Θ G H) (s : Sts X.K Cs hv Θ G H e σ) (k1 : AVok X.K Cs Θ H0 G H σ U1 a1 v1)
    (h1 : a1.dat e = some p) (h : biD b p = some o) : cW X (biV b) [v1] H (QE X.K Cs hv Θ0 G0 H0 σ (.tm o) e) := by
  have r1 := k1.rp s h1
  cases b with
  | len =>
    cases p <;> try (exact noO h)
    · cases rp_str r1
      simp only [biD] at h
      split at h
      · cases h
        exact cW.by call_len_str ⟨_, rfl, by assumption, QE.dat st s (.int _)⟩
      · cases h
    · obtain ⟨a, vs, rfl, l1, l2⟩ := k1.lst s h1
      cases h
      refine cW.by call_len_seq ⟨a, vs, rfl, .inl l1, ?_⟩
      rw [l2.len]
      exact QE.dat st s (.int _)
    · obtain ⟨a, vs, rfl, l1, l2⟩ := k1.tup s h1
      cases h
      refine cW.by call_len_seq ⟨a, vs, rfl, .inr (Y.Same.sqt s.gh l1), ?_⟩
      rw [l2.len]
      exact QE.dat st s (.int _)
  | list =>
    cases p <;> try (exact noO h)
    · obtain ⟨a, vs, rfl, l1, l2⟩ := k1.lst s h1
      cases h
      exact cW.by call_list_of ⟨a, vs, rfl, .inl l1, fun l hl => QE.lst st s l2 hl⟩
    · obtain ⟨a, vs, rfl, l1, l2⟩ := k1.tup s h1
      cases h
      exact cW.by call_list_of ⟨a, vs, rfl, .inr (Y.Same.sqt s.gh l1), fun l hl => QE.lst st s l2 hl⟩
  | tuple =>
    cases p <;> try (exact noO h)
    · obtain ⟨a, vs, rfl, l1, l2⟩ := k1.lst s h1
      cases h
      exact cW.by call_tuple_of ⟨a, vs, rfl, .inl ⟨l1, fun l hl => QE.tup st s l2 hl⟩⟩
    · obtain ⟨a, vs, rfl, l1, l2⟩ := k1.tup s h1
      cases h
      exact cW.by call_tuple_of ⟨a, vs, rfl, .inr ⟨Y.Same.sqt s.gh l1, QE.dat st s (.tup l1 l2)⟩⟩
  | any =>
    cases p <;> try (exact noO h)
    rename_i ys
    obtain ⟨a, vs, rfl, l1, l2⟩ := k1.lst s h1
    have h' : (boolsOf ys).map (fun bs => O.d (.bool (bs.any id))) = some o := h
    cases z : boolsOf ys with
    | none =>
      rw [z] at h'
      cases h'
    | some bs =>
      rw [z] at h'
      cases h'
      have e := bools_of l2 z
      subst e
      exact cW.by (cr_any hc) ⟨a, bs, rfl, l1, QE.dat st s (.bl _)⟩
  | all =>
    cases p <;> try (exact noO h)
    rename_i ys
    obtain ⟨a, vs, rfl, l1, l2⟩ := k1.lst s h1
    have h' : (boolsOf ys).map (fun bs => O.d (.bool (bs.all id))) = some o := h
    cases z : boolsOf ys with
    | none =>
      rw [z] at h'
      cases h'
    | some bs =>
      rw [z] at h'
      cases h'
      have e := bools_of l2 z
      subst e
      exact cW.by (cr_all hc) ⟨a, bs, rfl, l1, QE.dat st s (.bl _)⟩
  | int =>
    cases p <;> try (exact noO h)
    · cases rp_int r1
      cases h
      exact cW.by call_int1 (.inl ⟨_, rfl, QE.dat st s (.int _)⟩)
    · rename_i xx
      cases rp_str r1
      have h' : (if xx.length ≤ 640 then (PySem.intText? xx).map fun n => O.d (.int n) else none) = some o := h
      by_cases hz : xx.length ≤ 640
      · rw [if_pos hz] at h'
        cases q : PySem.intText? xx with
        | none =>
          rw [q] at h'
          cases h'
        | some n =>
          rw [q] at h'
          cases h'
          exact cW.by call_int_str ⟨xx, n, rfl, q, hz, QE.dat st s (.int _)⟩
      · rw [if_neg hz] at h'
        cases h'
  | str =>
    cases p <;> try (exact noO h)
    · cases rp_int r1
      simp only [biD] at h
      split at h
      · cases h
        rename_i hs
        exact cW.by call_str_int ⟨_, rfl, of_decide_eq_true hs, QE.dat st s (.str _)⟩
      · cases h
    · cases rp_str r1
      cases h
      exact cW.by SkE.call_str_str ⟨_, rfl, QE.dat st s (.str _)⟩
  | repr =>
    cases p <;> try (exact noO h)
    · cases rp_int r1
      simp only [biD] at h
      split at h
      · cases h
        rename_i hs
        intro pins s' σ' us I rv
        obtain ⟨u, rfl, t, rfl⟩ := vals1 rv
        exact PySem.P.repr_of_int (of_decide_eq_true hs) ⟨.str _, H, I.tok _, ⟨_, rfl⟩, QE.dat st s (.str _)⟩
      · cases h
    · cases rp_str r1
      simp only [biD] at h
      split at h
      · cases h
        rename_i hs
        intro pins s' σ' us I rv
        obtain ⟨u, rfl, t, rfl⟩ := vals1 rv
        exact PySem.P.repr_of_str ⟨.str _, H, I.tok _, ⟨_, rfl⟩, QE.dat st s (.str _)⟩ hs
      · cases h
    · rename_i ys
      obtain ⟨a, vs, rfl, _⟩ := k1.lst s h1
      simp only [biD] at h
      split at h
      · rename_i hs
        obtain ⟨h1, h2, h3, h4⟩ := and4 hs
        cases h
        exact repr_rd hg hu r1 h1 h2 (of_decide_eq_true h3) (of_decide_eq_true h4) (QE.dat st s (.str _))
      · cases h
    · rename_i ys
      obtain ⟨a, vs, rfl, _⟩ := k1.tup s h1
      simp only [biD] at h
      split at h
      · rename_i hs
        obtain ⟨h1, h2, h3, h4⟩ := and4 hs
        cases h
        exact repr_rd hg hu r1 h1 h2 (of_decide_eq_true h3) (of_decide_eq_true h4) (QE.dat st s (.str _))
      · cases h
  | ord =>
    cases p <;> try (exact noO h)
    cases rp_str r1
    simp only [biD] at h
    split at h
    · cases h
      exact cW.by call_ord ⟨_, rfl, by assumption, QE.dat st s (.int _)⟩
    · cases h
/-- the call of a built-in by its name -/
theorem pe_bi {X : Cx} {b : Bi} {y : Expr} {p pos : Pos} (hg : Gl X (biN b)) (hm : X.mg (biN b) = none) (hs : starEach [y] X.env = (false, eval y X.env) :: starEach [] X.env) : PE X (.Call (.Name (biN b) p) [y] [] pos) (tCB (cW X (biV b)) (tCons (wE X y) tNil)) := by
  have ha : PA X [y] (tCons (wE X y) tNil) := pa_cons pe_w pa_nil hs
  cases b with
  | len => exact pe_callB callr_w hg hm (boot_bi .len) ha (by decide +kernel) (by decide +kernel) hs rfl
  | list => exact pe_callTy callr_w hg hm (boot_bi .list) ha (by decide +kernel) (by decide +kernel) hs rfl
  | tuple => exact pe_callTy callr_w hg hm (boot_bi .tuple) ha (by decide +kernel) (by decide +kernel) hs rfl
  | any => exact pe_callB callr_w hg hm (boot_bi .any) ha (by decide +kernel) (by decide +kernel) hs rfl
  | all => exact pe_callB callr_w hg hm (boot_bi .all) ha (by decide +kernel) (by decide +kernel) hs rfl
  | int => exact pe_callTy callr_w hg hm (boot_bi .int) ha (by decide +kernel) (by decide +kernel) hs rfl
  | str => exact pe_callTy callr_w hg hm (boot_bi .str) ha (by decide +kernel) (by decide +kernel) hs rfl
  | repr => exact pe_callB callr_w hg hm (boot_bi .repr) ha (by decide +kernel) (by decide +kernel) hs rfl
  | ord => exact pe_callB callr_w hg hm (boot_bi .ord) ha (by decide +kernel) (by decide +kernel) hs rfl
/-! ### isinstance -/
def tyS : Ty → String
  | .str => "str" | .int => "int" | .bool => "bool" | .list => "list" | .tuple => "tuple" | .dict => "dict"
def dTy : D → String
  | .none => "NoneType" | .bool _ => "bool" | .int _ => "int" | .str _ => "str" | .list _ => "list" | .tuple _ => "tuple" | .dict _ => "dict"
theorem boot_ty (t : Ty) : bootBuiltins (tyN t) = some (.type (tyS t)) := by
  cases t <;> decide +kernel
inductive DK where | non | bl | int | str | lst | tup | dct
def dkS : DK → String
  | .non => "NoneType" | .bl => "bool" | .int => "int" | .str => "str" | .lst => "list" | .tup => "tuple" | .dct => "dict"
def dkT : Ty → DK → Bool
  | .str, .str => true
  | .int, .int => true
  | .int, .bl => true
  | .bool, .bl => true
  | .list, .lst => true
  | .tuple, .tup => true
  | .dict, .dct => true
  | _, _ => false
theorem kit_dk (t : Ty) (d : DK) : kitB (dkS d) (tyS t) = some (dkT t d) := by
  cases t <;> cases d <;> decide +kernel
theorem kit_dt (t : Ty) (d : D) : kitB (dTy d) (tyS t) = some (tyD t d) := by
  cases d with
  | none => cases t <;> exact kit_dk _ .non
  | bool b => cases t <;> exact kit_dk _ .bl
  | int b => cases t <;> exact kit_dk _ .int
  | str b => cases t <;> exact kit_dk _ .str
  | list b => cases t <;> exact kit_dk _ .lst
  | tuple b => cases t <;> exact kit_dk _ .tup
  | dict b => cases t <;> exact kit_dk _ .dct
theorem tyx_of {v : V} {d : D} (r : Rp K H v d) : TyX K H v (.type (dTy d)) := by
  cases r with
  | non => exact .base .non
  | bl b => exact .base (.bl b)
  | int i => exact .base (.int i)
  | str x => exact .base (.str x)
  | lst a b =>
    rcases a with (a | ⟨o, a⟩) | ⟨o, its, n, a, c, _⟩
    · exact .base (.lst a)
    · exact .base (.frz a)
    · exact .kList a c
  | tup a b =>
    rcases a with (a | ⟨o, a⟩) | ⟨o, its, n, a, c, _⟩
    · exact .base (.tup a)
    · exact .fTuple a
    · exact .kTuple a c
  | dct a b =>
    rcases a with a | ⟨o, a⟩
    · exact .base (.dK a)
    · exact .fDict a
theorem isi_rd {X : Cx} {t : Ty} (st : Stp Θ0 G0 H0 Θ G H) (s : Sts X.K Cs hv Θ G H e σ) (k1 : AVok X.K Cs Θ H0 G H σ U1 a1 v1) (h1 : a1.dat e = some p) : rIsi X.K [v1, .ty (tyS t)] H (QE X.K Cs hv Θ0 G0 H0 σ (.tm (.d (.bool (tyD t p)))) e) :=
  ⟨v1, .ty (tyS t), _, _, tyD t p, rfl, .ty _, tyx_of (k1.rp s h1), kit_ty (kit_dt t p), QE.dat st s (.bl _)⟩
theorem pe_isi {X : Cx} {t : Ty} {y : Expr} {p q pos : Pos} (hg : Gl X "isinstance") (hm : X.mg "isinstance" = none) (hg2 : Gl X (tyN t)) (hm2 : X.mg (tyN t) = none) (hs : starEach [y, .Name (tyN t) q] X.env = (false, eval y X.env) :: starEach [.Name (tyN t) q] X.env) :
    PE X (.Call (.Name "isinstance" p) [y, .Name (tyN t) q] [] pos) (tCB (rIsi X.K) (tCons (wE X y) (tCons (tC (.ty (tyS t))) tNil))) := by
  have hn : tyN t ≠ "__name__" := by cases t <;> decide +kernel
  have hd : (tyN t == ("__debug__" : Str)) = false := by cases t <;> decide +kernel
  exact pe_callB call_isi hg hm (by decide +kernel) (pa_cons pe_w (pa_cons (pe_bltn hg2 hm2 (boot_ty t) rfl hn hd) pa_nil) hs) (by decide +kernel) (by decide +kernel) hs rfl
/-! ### is None, is True -/
theorem isnone_v {v : V} {d : D} (r : Rp K H v d) : decide (v = .non) = isNoneD d := by
  cases r <;> rfl
def rIsBl (b : Bool) : R2 := fun x y H Q => y = .bl b ∧ Q (.bl (decide (x = .bl b))) H
theorem op_isBv {X : Cx} {b : Bool} : OpR X (compareOp .Is) (rIsBl b) := by
  intro pins s σ H x y v u Q I rx ry h
  obtain ⟨rfl, q⟩ := h
  obtain rfl : u = Value.bool b := ry
  have other : ∀ {v : Value}, plainIs v (.bool b) = true → v ≠ .bool b → decide (x = .bl b) = false → wpAny (model X.prog X.w) X.A (compareOp .Is v (.bool b)) (EP X pins σ Q) X.xe s := fun h1 h2 h3 => by
    rw [h3] at q
    exact wpAny_is_other h1 h2 ⟨.bl false, H, I, rfl, q⟩
  cases x with
  | bl a =>
    obtain rfl : v = Value.bool a := rx
    by_cases e : a = b
    · subst e
      exact wpAny_is_self rfl ⟨.bl true, H, I, rfl, by simpa using q⟩
    · exact wpAny_is_other rfl (fun z => e (Value.bool.inj z)) ⟨.bl false, H, I, rfl, by simpa [e] using q⟩
  | non =>
    obtain rfl : v = Value.none := rx
    exact other rfl (fun z => nomatch z) rfl
  | int i =>
    obtain ⟨t, rfl⟩ := rx
    exact other rfl (fun z => nomatch z) rfl
  | str i =>
    obtain ⟨t, rfl⟩ := rx
    exact other rfl (fun z => nomatch z) rfl
  | byt i =>
    obtain ⟨t, rfl⟩ := rx
    exact other rfl (fun z => nomatch z) rfl
  | flt i =>
    obtain ⟨t, rfl⟩ := rx
    exact other rfl (fun z => nomatch z) rfl
  | ref a =>
    obtain rfl : v = Value.ref a := rx
    exact other rfl (fun z => nomatch z) rfl
  | ty n =>
    obtain rfl : v = Value.type n := rx
    exact other rfl (fun z => nomatch z) rfl
theorem isbool_v {v : V} {d : D} {b : Bool} (r : Rp K H v d) : decide (v = .bl b) = isBoolD b d := by
  cases r <;> try rfl
  rename_i c
  show decide (V.bl c = V.bl b) = (c == b)
  exact dec_bl
/-- methods of texts: one argument -/
def mR (X : Cx) : Me → V → List V → Hp → VK → Prop
  | .join => fun x xs H Q => ∃ a p, ∃ ys : List Str, x = .str a ∧ xs = [.ref p] ∧ (SqL X.K H p (ys.map V.str) ∨ SqT X.K H p (ys.map V.str)) ∧ (ys.map (·.length)).sum + ys.length * a.length ≤ 16777216 ∧ Q (.str (Txt.join a ys)) H
  | .split => fun x xs H Q => ∃ a b, x = .str a ∧ xs = [.str b] ∧ (b.length == 0) = false ∧ a.length + 2 ≤ sizeLine ∧ rNewStrs (Txt.split a b) H Q
  | .index => fun x xs H Q => ∃ a b i rest, x = .str a ∧ xs = [.str b] ∧ Builtin.Str.occurrences a b 0 a.length 1 = i :: rest ∧ Q (.int (i : Nat)) H
  | .replace => fun _ _ _ _ => False
theorem pe_me {X : Cx} {m : Me} {o y : Expr} {ap pos : Pos} (ho : recvB o = true) (hl : (ap.endLine == pos.line) = true) (hs : starEach [y] X.env = (false, eval y X.env) :: starEach [] X.env) (hm : m ≠ .replace) :
    PE X (.Call (.Attribute o (meN m) ap) [y] [] pos) (tM1 (mR X m) (wE X o) (wE X y)) := by
  have hb : attributeBase o (meN m) X.env (eval o X.env) = eval o X.env := by
    cases o <;> first | rfl | exact no ho
  cases m with
  | join => exact pe_m1 PySem.F.slot_str_join PySem.F.type_str_join mt_join pe_w pe_w hs hb hl
  | split => exact pe_m1 PySem.F.slot_str_split PySem.F.type_str_split mt_split pe_w pe_w hs hb hl
  | index => exact pe_m1 PySem.F.slot_str_index PySem.F.type_str_index mt_sindex pe_w pe_w hs hb hl
  | replace => exact absurd rfl hm
theorem me_rd {X : Cx} {m : Me} {a : Str} {q : D} {a2 : AV} {v2 : V} (st : Stp Θ0 G0 H0 Θ G H) (s : Sts X.K Cs hv Θ G H e σ) (k2 : AVok X.K Cs Θ H0 G H σ U2 a2 v2)
    (h2 : a2.dat e = some q) (h : meD m (.str a) q = some o) : mR X m (.str a) [v2] H (QE X.K Cs hv Θ0 G0 H0 σ (.tm o) e) := by
  have r2 := k2.rp s h2
  cases m with
  | replace => exact noO h
  | join =>
    cases q <;> try (exact noO h)
    rename_i xs
    have h' : (match strsOf xs with
      | some ys => if (ys.map (·.length)).sum + ys.length * a.length ≤ 16777216 then some (O.d (.str (Txt.join a ys))) else none
      | none => none) = some o := h
    cases w : strsOf xs with
    | none =>
      rw [w] at h'
      cases h'
    | some ys =>
      rw [w] at h'
      have h' : (if (ys.map (·.length)).sum + ys.length * a.length ≤ 16777216 then some (O.d (.str (Txt.join a ys))) else none) = some o := h'
      by_cases hz : (ys.map (·.length)).sum + ys.length * a.length ≤ 16777216
      · rw [if_pos hz] at h'
        cases h'
        obtain ⟨b, vs, rfl, l1, l2⟩ := k2.lst s h2
        have e := strs_of l2 w
        subst e
        exact ⟨a, b, ys, rfl, rfl, .inl l1, hz, QE.dat st s (.str _)⟩
      · rw [if_neg hz] at h'
        cases h'
  | split =>
    cases q <;> try (exact noO h)
    rename_i b
    have h' : (if (b.length == 0) = false ∧ a.length + 2 ≤ sizeLine then some (O.ol ((Txt.split a b).map PyData.str)) else none) = some o := h
    by_cases hz : (b.length == 0) = false ∧ a.length + 2 ≤ sizeLine
    · rw [if_pos hz] at h'
      cases h'
      exact ⟨a, b, rfl, by rw [rp_str r2], hz.1, hz.2, fun l hl => QE.lst st s (rpa_strs _) hl⟩
    · rw [if_neg hz] at h'
      cases h'
  | index =>
    cases q <;> try (exact noO h)
    rename_i b
    have h' : (match Builtin.Str.occurrences a b 0 a.length 1 with
      | i :: _ => some (O.d (.int (i : Nat)))
      | [] => none) = some o := h
    cases w : Builtin.Str.occurrences a b 0 a.length 1 with
    | nil =>
      rw [w] at h'
      cases h'
    | cons i rest =>
      rw [w] at h'
      cases h'
      exact ⟨a, b, i, rest, rfl, by rw [rp_str r2], w, QE.dat st s (.int _)⟩
/-! ### list.index -/
theorem idxD_some {q : D} : ∀ {xs : List D} {n : Nat}, idxD q xs = some n → ∃ z, xs[n]? = some z ∧ PyData.eqv z q = true ∧ ∀ (m : Nat) (z' : D), m < n → xs[m]? = some z' → PyData.eqv z' q = false
  | [], n, h => by cases h
  | x :: xs, n, h => by
    unfold idxD at h
    split at h
    · rename_i hx
      cases h
      exact ⟨x, rfl, hx, fun m z' hm => absurd hm (by omega)⟩
    · rename_i hx
      cases w : idxD q xs with
      | none =>
        rw [w] at h
        cases h
      | some k =>
        rw [w] at h
        cases h
        obtain ⟨z, h1, h2, h3⟩ := idxD_some w
        refine ⟨z, by simpa using h1, h2, fun m z' hm hz => ?_⟩
        cases m with
        | zero =>
          have hz : some x = some z' := hz
          cases hz
          simpa using hx
        | succ m => exact h3 m z' (by show m < k; have hm : m + 1 < k + 1 := hm; omega) (by simpa using hz)
theorem tyL {a : Addr} {vs : List V} (h : SqL K H a vs) : tyV K "list" (.ref a) H := .inl ⟨rfl, vs, h⟩
theorem lix_rd {X : Cx} {z : D} (hr : X.A.units + 65 < cLine) (st : Stp Θ0 G0 H0 Θ G H) (s : Sts X.K Cs hv Θ G H e σ) (k2 : AVok X.K Cs Θ H0 G H σ U2 a2 v2) {xs : List D} {v1 : V}
    (r1 : Rp X.K H v1 (.list xs)) (h2 : a2.dat e = some q) (h : lixD (.list xs) q = some z) : rIndexD X.K v1 [v2] H (QE X.K Cs hv Θ0 G0 H0 σ (.tm (.d z)) e) := by
  have r2 := k2.rp s h2
  simp only [lixD] at h
  split at h
  · rename_i hs
    obtain ⟨s1, s2⟩ := and2 hs
    cases w : idxD q xs with
    | none =>
      rw [w] at h
      cases h
    | some n =>
      rw [w] at h
      cases h
      obtain ⟨y, w1, w2, w3⟩ := idxD_some w
      have d1 := Rp.dp _ v1 r1 (SeqAt.canLay_of_shaped s1)
      have d2 := Rp.dp q v2 r2 (SeqAt.canLay_of_shaped s2)
      cases r1 with
      | @lst a vs _ l1 l2 => exact ⟨a, v2, q, xs, n, y, rfl, rfl, d1, d2, s1, s2, w1, w2, w3, QE.dat st s (.int _)⟩
  · cases h
def tLix (K : PySem.W.Frag) (to te : TE) : TE := fun σ H Q => to σ H fun x H1 => tyV K "list" x H1 ∧ te σ H1 fun y H2 => rIndexD K x [y] H2 Q
theorem pe_lix {X : Cx} {o y : Expr} {ap pos : Pos} (hu : X.A.units + 65 < cLine) (ho : recvB o = true) (hl : (ap.endLine == pos.line) = true) (hs : starEach [y] X.env = (false, eval y X.env) :: starEach [] X.env) :
    PE X (.Call (.Attribute o ("index" : Str) ap) [y] [] pos) (tLix X.K (wE X o) (wE X y)) := by
  have hb : attributeBase o ("index" : Str) X.env (eval o X.env) = eval o X.env := by
    cases o <;> first | rfl | exact no ho
  exact pe_bm PySem.F.plainAttrs_list PySem.F.slot_list_index PySem.F.type_list_index (mt_indexD hu) pe_w (pa_cons pe_w pa_nil hs) hb (by rw [hs]; rfl) hl hs rfl
end
end Y

/-! Y10: what an expression comes to: the evaluator speaks the truth. -/
namespace Y
open PySem PySem.Spec PyProof.Rows L2
/-! ### the program's facts -/
structure PgT where
  addr : Nat → Addr
  fd : Nat → FuncData
  N : Nat → List Str
  ps : Nat → List Str
  st : Nat → Stmt
  /-- own classes, their attributes -/
  cs : Cls := []
  /-- classes of exceptions, their attributes -/
  xs : Cls := []
  /-- what is asked of the whole program -/
  okP : Program → Prop := fun _ => True
def biNames : List Str := [biN .len, biN .list, biN .tuple, biN .any, biN .all, biN .int, biN .str, biN .repr, biN .ord, "isinstance", "range", "bool", "dict", "enumerate"]
/-- a call's promise: what the core language says of it -/
def spZ (K : PySem.W.Frag) (Cs Xs : Cls) (gc : List (Str × D)) (code : List FD) (n f : Nat) (vs : List V) (H : Hp) (Q : VK) (E : XK) : Prop :=
  ∃ G hv Θ os rs outs, Y.Args K Cs hv Θ G H os vs ∧ run gc code n f os = some (rs, outs) ∧ match rs with
    | .v r => ∀ v G' H', Ret K Cs hv Θ G H os vs r outs v G' H' → Q v H'
    | .x x => ∀ cls d G' H', RetX K Cs Xs hv Θ G H os vs x outs cls d G' H' → E cls d H'
def FnG (P : Program) (w : World) (K : PySem.W.Frag) (mg : Str → Option Value) (base : Heap) (T : Tb) (code : List FD) (Dp : PgT) (n f : Nat) : Prop :=
  (∀ fd, code[f]? = some fd → fd.mak = none) → ∀ (A : Around) (outer : List PySem.Env) (s : Shared) (H : Hp) (args : PySem.Args) (us : List Value) (vs : List V) (Q : VK) (E : XK), Room (n + 2) A → A.guards = some [] → Env0 P w K mg base A outer s H →
    BindsTo s (Dp.fd f) args ((Dp.ps f).zip us) → Vals vs us → spZ K Dp.cs Dp.xs T.gc code n f vs H Q E → codeAny (model P w) A (.call (.ref (Dp.addr f)) args) (CR (L2.CX P w) outer P w H s Q E) s
/-- a promise proved by hand -/
def FnN (P : Program) (w : World) (K : PySem.W.Frag) (mg : Str → Option Value) (base : Heap) (Dp : PgT) (n f : Nat) (g : List O → Option (O × List O)) : Prop :=
  ∀ (A : Around) (outer : List PySem.Env) (s : Shared) (H : Hp) (args : PySem.Args) (us : List Value) (vs : List V) (Q : VK) (E : XK), Room (n + 2) A → A.guards = some [] → Env0 P w K mg base A outer s H →
    BindsTo s (Dp.fd f) args ((Dp.ps f).zip us) → Vals vs us → (∃ G hv Θ os r outs, Y.Args K Dp.cs hv Θ G H os vs ∧ g os = some (r, outs) ∧ ∀ v G' H', Ret K Dp.cs hv Θ G H os vs r outs v G' H' → Q v H') → codeAny (model P w) A (.call (.ref (Dp.addr f)) args) (CR (L2.CX P w) outer P w H s Q E) s
structure PgOk (T : Tb) (code : List FD) (Dp : PgT) (K : PySem.W.Frag) (mg : Str → Option Value) : Prop where
  fn : ∀ (f : Nat) (x : Str) (fd : FD), T.fn[f]? = some x → x ≠ ("" : Str) → code[f]? = some fd → fd.mak = none → mg x = some (.ref (Dp.addr f)) ∧ PySem.W.keepIn K (.ref (Dp.addr f)) = true
  df : ∀ f fd, code[f]? = some fd → fd.mak = none → ∃ name qual, Fun K name qual (Dp.st f) (Dp.addr f) (Dp.fd f) ∧ FnScope (Dp.N f) (Dp.ps f) (defScope (Dp.st f)) ∧ Binds K (Dp.fd f) (Dp.ps f) [] ∧
    fd.np = (Dp.ps f).length ∧ fd.ns = (Dp.N f).length ∧ (fd.nt = none → mSs T (Dp.N f) (defScope (Dp.st f)) fd.body (defBody (Dp.st f)) = true)
  nt : ∀ f fd g, code[f]? = some fd → fd.nt = some g → fd.mak = none → ∀ (P : Program) (w : World) (base : Heap) (n : Nat), (∀ m, m ≤ n → ∀ f', FnG P w K mg base T code Dp m f') → FnN P w K mg base Dp (n + 1) f g
  bi : ∀ x ∈ biNames, mg x = none
  ln : T.fn.length ≤ code.length
  /-- for now: no makers -/
  nomk : ∀ (f : Nat) (fd : FD), code[f]? = some fd → fd.mak = none
  /-- the exceptions that are raised -/
  rs : ∀ (c : Nat) (p : Str × List Str), T.xs[c]? = some p → ∃ C, Dp.xs[c]? = some (C, p.2) ∧ ∀ (X : Cx), X.K = K → X.mg = mg → Dp.okP X.prog → Room 2 X.A → ∀ (e : Expr) (es : List Expr) (pp pos : Pos), Gl X p.1 →
    starEach (e :: es) X.env = (false, eval e X.env) :: starEach es X.env → (backTo pos (starEach es X.env)).any (·.1) = false → p.2 ≠ [] →
    PMk X (.Call (.Name p.1 pp) (e :: es) [] pos) (fun σ H Q => wA X (e :: es) σ H fun vs H1 => vs.length = p.2.length ∧ vs.all exV = true ∧ ∀ d fs, H1 d = none → (∀ (k : Nat) (nm : Str), p.2[k]? = some nm → fs.lookup nm = vs[k]?) → Q (.ref C) (some d) (upd H1 d (.xd fs)))
  /-- the classes that are asked for -/
  xh : ∀ (nm : Str) (cs : List Nat), T.xh.lookup nm = some cs → ∃ Cn, mg nm = some (.ref Cn) ∧ ∀ (c : Nat) (C : Addr) (nms : List Str), Dp.xs[c]? = some (C, nms) → PySem.W.exmOne K (.ref C) (.ref Cn) = some (decide (c ∈ cs)) ∧ PySem.W.kitOne K (.ref C) (.ref Cn) = some (decide (c ∈ cs))
  xf : ∀ (c : Nat) (C : Addr) (nms : List Str), Dp.xs[c]? = some (C, nms) → XfC K C ∧ ExcC K C ∧ ∀ nm ∈ nms, PySem.W.findIn K (.ref C) nm = some none
  gc : ∀ (k : Nat) (p : Str × D), T.gc[k]? = some p → ∃ u v, mg p.1 = some u ∧ RelV v u ∧ ∀ G, Rp K G v p.2
  /-- own classes -/
  cl : ∀ (c : Nat) (l : List Str), T.cs[c]? = some l → ∃ C, Dp.cs[c]? = some (C, l) ∧ L2.Cls K C ∧ (∀ nm ∈ l, NoAttr K C nm) ∧ l.Nodup ∧ l.length ≤ 900
  /-- their methods -/
  me : ∀ (f c : Nat) (m : Str), T.ms[f]? = some (some (c, m)) → ∃ (l : List Str) (C : Addr), T.cs[c]? = some l ∧ Dp.cs[c]? = some (C, l) ∧ Meth K C m (Dp.addr f) ∧ m ∉ l ∧ ∃ fd : FD, code[f]? = some fd ∧ fd.mak = none
  /-- their making -/
  mak : ∀ (f : Nat) (x : Str) (fd : FD) (c g m : Nat), T.fn[f]? = some x → code[f]? = some fd → fd.mak = some (c, g, m) → ∃ (C : Addr) (l : List Str) (gd : FD), T.cs[c]? = some l ∧ Dp.cs[c]? = some (C, l) ∧ l.length = m ∧ Mk K C (Dp.addr g) ∧ mg x = some (.ref C) ∧ code[g]? = some gd ∧ gd.mak = none ∧ gd.np = fd.np + 1
structure Ctx (T : Tb) (code : List FD) (Dp : PgT) (n : Nat) (fl : Option Scope) (W : WX) (X : Cx) : Prop where
  nd : X.N.Nodup
  fn : X.fn = fnOf fl
  calm : X.calm = true
  hr : Room (n + 2) X.A
  gd : X.A.guards = some []
  pg : PgOk T code Dp X.K X.mg
  okp : Dp.okP X.prog
  fs : ∀ m, m ≤ n → ∀ f, FnG X.prog X.w X.K X.mg X.base T code Dp m f
  tk : Takes X W
section
variable {T : Tb} {code : List FD} {Dp : PgT} {n : Nat} {fl : Option Scope} {W : WX} {X : Cx} {K : PySem.W.Frag} {Cs Xs : Cls} {hv : Nat → Nat → Option V} {U U' : Addr → Prop} {Θ Θ0 Θ1 Θ2 Θ' : Ow} {G0 G G' G1 G2 H0 H H' H1 H2 : Hp} {e e' e0 : Sl} {σ σ' : L2.St} {av : AV} {v : V} {o : O} {d : D}
theorem Ctx.blk (C : Ctx T code Dp n fl W X) (s : Shared) (H : Hp) (scope : Scope) (cl : List (Str × Addr)) (A : Addr) (fp : List Addr) : Ctx T code Dp n (some scope) (fun _ _ _ _ => False) (X.blk s H scope (compEnvC scope cl A X.env) fp) :=
  ⟨C.nd, rfl, C.calm, C.hr, C.gd, C.pg, C.okp, C.fs, takes0⟩
theorem Ctx.u (C : Ctx T code Dp n fl W X) : X.A.units + 65 < cLine := by
  have := C.hr.un
  omega
theorem gl_of {x : Str} (h : glB X.env.scope x = true) : Gl X x := by
  unfold glB at h
  split at h
  · assumption
  · cases h
theorem vis_of {x : Str} (h : visB X.env.scope x = true) : Vis X.env.scope x := by
  unfold visB at h
  split at h
  · exact .inl (by assumption)
  · exact .inr (.inl (by assumption))
  · exact .inr (.inr (by assumption))
  · cases h
theorem slot_of {N : List Str} {i : Nat} {x : Str} (h : slotB N i x = true) : N[i]? = some x := of_decide_eq_true h
theorem plain_of {x : Str} (h : plainName x = true) : (x == ("__debug__" : Str)) = false ∧ (x == ("__classdict__" : Str)) = false ∧ (x == ("__name__" : Str)) = false := by
  obtain ⟨h1, h2, h3⟩ := and3 h
  exact ⟨by simpa using h1, by simpa using h2, by simpa using h3⟩
theorem bindOk {α β : Type} {r : R α} {f : α → Sl → R β} {b : β} (h : r.bind f = .ok b e') : ∃ a e1, r = .ok a e1 ∧ f a e1 = .ok b e' := by
  cases r with
  | ok a e1 => exact ⟨a, e1, rfl, h⟩
  | exc x e1 => cases h
  | bad => cases h
theorem ofOk {α : Type} {o : Option α} {a : α} (h : R.of o e = .ok a e') : o = some a ∧ e' = e := by
  cases o with
  | none => cases h
  | some b =>
    cases h
    exact ⟨rfl, rfl⟩
theorem testOk {r : R AV} {b : Bool} (h : testV r = .ok b e') : ∃ x, r = .ok x e' ∧ x.dat e' = some (.bool b) := by
  obtain ⟨x, e1, h1, h2⟩ := bindOk h
  split at h2
  · cases h2
    exact ⟨x, h1, by assumption⟩
  · cases h2
theorem nostar {N : List Str} {sc : Scope} {c : CE} {x : Expr} (h : mE T N fl sc c x = true) (hc : c ≠ .bad) : ∀ env es, starEach (x :: es) env = (false, eval x env) :: starEach es env := by
  intro env es
  cases x <;> first | rfl | skip
  cases c <;> first | exact no h | exact absurd rfl hc
theorem noset {N : List Str} {sc : Scope} {c : CE} {x : Expr} (h : mE T N fl sc c x = true) (hc : c ≠ .bad) : ∀ env v, foldedSetIterable x env v = pure v := by
  intro env v
  cases x <;> first | rfl | skip
  cases c <;> first | exact no h | exact absurd rfl hc
theorem noslice {N : List Str} {sc : Scope} {c : CE} {x : Expr} (h : mE T N fl sc c x = true) (hc : c ≠ .bad) : PlainIx x := by
  intro o i
  cases x <;> first | rfl | skip
  cases c <;> first | exact no h | exact absurd rfl hc
theorem nomark' {N : List Str} {sc : Scope} {c : CE} {x : Expr} (op : CmpOp) (h : mE T N fl sc c x = true) (hc : c ≠ .bad) : behindInMarks op x = false := by
  cases x <;> first | rfl | skip
  cases c <;> first | exact no h | exact absurd rfl hc
theorem nobad {Γ : Gm} {gc : List (Str × D)} {c : CE} (h : evE gc Γ c e ≠ .bad) : c ≠ .bad := by
  rintro rfl
  exact h rfl
theorem not_bad {α : Type} {r : R α} {a : α} (h : r = .ok a e') : r ≠ .bad := by
  rw [h]
  simp
theorem nostars {N : List Str} {sc : Scope} {env : PySem.Env} : ∀ {es : CEs} {xs : List Expr} {pos : Pos}, mEs T N fl sc es xs = true → nbEs es = true → (backTo pos (starEach xs env)).any (·.1) = false
  | .nil, xs, pos, h, _ => by
    rw [ms_nil h]
    rfl
  | .cons a es, xs, pos, h, q => by
    obtain ⟨y, ys, rfl, h1, h2⟩ := ms_cons h
    obtain ⟨q1, q2⟩ := and2 q
    rw [nostar h1 (fun z => by rw [z] at q1; exact no q1)]
    exact nostars h2 q2
/-- the end of a test; of several; of what is walked -/
def QT (K : PySem.W.Frag) (Cs : Cls) (hv : Nat → Nat → Option V) (Θ : Ow) (G H : Hp) (σ : L2.St) (b : Bool) (e' : Sl) : Bool → Hp → Prop := fun c H' => c = b ∧ ∃ G' Θ', Stp Θ G H Θ' G' H' ∧ Sts K Cs hv Θ' G' H' e' σ
def QA (K : PySem.W.Frag) (Cs : Cls) (hv : Nat → Nat → Option V) (Θ : Ow) (G H : Hp) (σ : L2.St) (avs : List AV) (e' : Sl) : List V → Hp → Prop := fun vs H' => ∃ G' Θ' U, Stp Θ G H Θ' G' H' ∧ Sts K Cs hv Θ' G' H' e' σ ∧ AVs K Cs Θ' H G' H' σ avs vs U ∧ ∀ p, U p → H p = none
/-- an exception is in the air -/
def XQ (K : PySem.W.Frag) (Cs Xs : Cls) (hv : Nat → Nat → Option V) (Θ : Ow) (G H : Hp) (σ : L2.St) (x : Ex) (e' : Sl) (cls : Value) (d : Option Addr) (H' : Hp) : Prop := ∃ G' Θ', Stp Θ G H Θ' G' H' ∧ Sts K Cs hv Θ' G' H' e' σ ∧ ExOk K Xs G' H' x cls d
def ExK (K : PySem.W.Frag) (Cs Xs : Cls) (hv : Nat → Nat → Option V) (W : WX) (Θ : Ow) (G H : Hp) (σ : L2.St) : Ex → Sl → Prop := fun x e' => ∀ cls d H', XQ K Cs Xs hv Θ G H σ x e' cls d H' → W cls d σ H'
theorem ExK.step {x : Ex} (st : Stp Θ G H Θ1 G1 H1) (h : ExK K Cs Xs hv W Θ G H σ x e') : ExK K Cs Xs hv W Θ1 G1 H1 σ x e' := fun cls d H' z => by
  obtain ⟨G', Θ', s1, s2, s3⟩ := z
  exact h cls d H' ⟨G', Θ', st.trans s1, s2, s3⟩
/-- what must hold of what something comes to -/
def RQ {α : Type} (ok : α → Sl → Prop) (ex : Ex → Sl → Prop) : R α → Prop
  | .ok a e => ok a e
  | .exc x e => ex x e
  | .bad => False
theorem RQ.bind {α β : Type} {ok : β → Sl → Prop} {ex : Ex → Sl → Prop} {r : R α} {f : α → Sl → R β} (h : RQ ok ex (r.bind f)) : RQ (fun a e => RQ ok ex (f a e)) ex r := by
  cases r <;> exact h
theorem RQ.imp {α : Type} {ok ok' : α → Sl → Prop} {ex ex' : Ex → Sl → Prop} {r : R α} (h : RQ ok ex r) (k1 : ∀ a e, ok a e → ok' a e) (k2 : ∀ x e, ex x e → ex' x e) : RQ ok' ex' r := by
  cases r with
  | ok a e => exact k1 a e h
  | exc x e => exact k2 x e h
  | bad => exact h
theorem RQ.of {α : Type} {ok : α → Sl → Prop} {ex : Ex → Sl → Prop} {o : Option α} (h : RQ ok ex (R.of o e)) : ∃ a, o = some a ∧ ok a e := by
  cases o with
  | none => exact h.elim
  | some a => exact ⟨a, rfl, h⟩
theorem RQ.nb {α : Type} {ok : α → Sl → Prop} {ex : Ex → Sl → Prop} {r : R α} (h : RQ ok ex r) : r ≠ .bad := by
  rintro rfl
  exact h
theorem RQ.set {α : Type} {ok : α → Sl → Prop} {ex : Ex → Sl → Prop} {a : AV} {f : AV → Sl → R α} (h : RQ ok ex (R.set a e f)) : ∃ a' e', settle a e = some (a', e') ∧ RQ ok ex (f a' e') := by
  unfold R.set at h
  cases q : settle a e with
  | none =>
    rw [q] at h
    exact h.elim
  | some p =>
    obtain ⟨a', e'⟩ := p
    rw [q] at h
    exact ⟨a', e', rfl, h⟩
theorem RQ.dat1 {α : Type} {ok : α → Sl → Prop} {ex : Ex → Sl → Prop} {x1 : AV} {f : D → R α} (h : RQ ok ex (match x1.dat e with | some p => f p | none => R.bad)) : ∃ p, x1.dat e = some p ∧ RQ ok ex (f p) := by
  cases hp : x1.dat e with
  | none =>
    rw [hp] at h
    exact h.elim
  | some p =>
    rw [hp] at h
    exact ⟨p, rfl, h⟩
theorem RQ.dat2 {α : Type} {ok : α → Sl → Prop} {ex : Ex → Sl → Prop} {x1 y1 : AV} {f : D → D → R α} (h : RQ ok ex (match x1.dat e, y1.dat e with | some p, some q => f p q | _, _ => R.bad)) : ∃ p q, x1.dat e = some p ∧ y1.dat e = some q ∧ RQ ok ex (f p q) := by
  cases hp : x1.dat e with
  | none =>
    rw [hp] at h
    exact h.elim
  | some p =>
    cases hq : y1.dat e with
    | none =>
      rw [hp, hq] at h
      exact h.elim
    | some q =>
      rw [hp, hq] at h
      exact ⟨p, q, rfl, rfl, h⟩
/-- a walked thing gives out these data -/
def Wk (K : PySem.W.Frag) (G0 : Hp) (ds : List D) (J : It) : Prop := ∀ (G H : Hp), Same G0 G → Same G H → (∀ i, i < ds.length → J.go i H) ∧ (∀ i, ds.length ≤ i → J.stop i H) ∧
  ∀ i x H' d, ds[i]? = some d → J.yld i H x H' → ∃ G', Same G G' ∧ Same G' H' ∧ (∀ a o, H a = some o → H' a = some o ∧ G' a = G a) ∧ Rp K G' x d
theorem wk_list {ds : List D} {a : Addr} {vs : List V} (h : SqL K G0 a vs) (r : RpA K G0 vs ds) : Wk K G0 ds (Itl K a) := fun G H g gh => by
  have hh : SqL K H a vs := gh.seq (g.seq h)
  refine ⟨fun i hi => ?_, fun i hi => ⟨vs, hh, by rw [r.len]; exact hi⟩, fun i x H' d hd hy => ?_⟩
  · obtain ⟨x, h1, _⟩ := r.get (List.getElem?_eq_getElem hi)
    exact ⟨vs, x, hh, h1⟩
  · obtain ⟨rfl, hy⟩ := hy
    obtain ⟨y, h1, h2⟩ := r.get hd
    have h3 := hy vs hh
    rw [h1] at h3
    have h3 : y = x := Option.some.inj h3
    subst h3
    exact ⟨G, Same.refl _, gh, fun a o q => ⟨q, rfl⟩, Rp.mono g d y h2⟩
theorem wk_tup {ds : List D} {a : Addr} {vs : List V} (h : SqT K G0 a vs) (r : RpA K G0 vs ds) : Wk K G0 ds (Itt K a) := fun G H g gh => by
  have hh : SqT K H a vs := Y.Same.sqt gh (Y.Same.sqt g h)
  refine ⟨fun i hi => ?_, fun i hi => ⟨vs, hh, by rw [r.len]; exact hi⟩, fun i x H' d hd hy => ?_⟩
  · obtain ⟨x, h1, _⟩ := r.get (List.getElem?_eq_getElem hi)
    exact ⟨vs, x, hh, h1⟩
  · obtain ⟨rfl, hy⟩ := hy
    obtain ⟨y, h1, h2⟩ := r.get hd
    have h3 := hy vs hh
    rw [h1] at h3
    have h3 : y = x := Option.some.inj h3
    subst h3
    exact ⟨G, Same.refl _, gh, fun a o q => ⟨q, rfl⟩, Rp.mono g d y h2⟩
theorem range_get {lo : Int} {m i : Nat} {d : D} (h : (rangeD lo m)[i]? = some d) : i < m ∧ d = .int (lo + i) := by
  unfold rangeD at h
  rw [List.getElem?_map] at h
  cases q : (List.range m)[i]? with
  | none =>
    rw [q] at h
    cases h
  | some j =>
    rw [q] at h
    obtain ⟨h1, h2⟩ := List.getElem?_eq_some_iff.mp q
    rw [List.getElem_range] at h2
    subst h2
    cases h
    exact ⟨by simpa using h1, rfl⟩
theorem range_len {lo : Int} {m : Nat} : (rangeD lo m).length = m := by
  unfold rangeD
  rw [List.length_map, List.length_range]
theorem wk_range {lo : Int} {m : Nat} : Wk K G0 (rangeD lo m) (Itr lo m) := fun G H g gh => by
  refine ⟨fun i hi => by rw [range_len] at hi; exact hi, fun i hi => by rw [range_len] at hi; exact hi, fun i x H' d hd hy => ?_⟩
  obtain ⟨rfl, rfl⟩ := hy
  obtain ⟨_, rfl⟩ := range_get hd
  exact ⟨G, Same.refl _, gh, fun a o q => ⟨q, rfl⟩, .int _⟩
theorem wk_text {x : Str} : Wk K G0 (x.cps.toList.map fun c => .str ⟨#[c]⟩) (Its x) := fun G H g gh => by
  refine ⟨fun i hi => (show i < x.cps.size by simpa using hi), fun i hi => (show x.cps.size ≤ i by simpa using hi), fun i v H' d hd hy => ?_⟩
  obtain ⟨rfl, c, hc, rfl⟩ := hy
  rw [List.getElem?_map] at hd
  have hc' : x.cps.toList[i]? = some c := by simpa using hc
  rw [hc'] at hd
  cases hd
  exact ⟨G, Same.refl _, gh, fun a o q => ⟨q, rfl⟩, .str _⟩
theorem wk_enum {ds : List D} {a : Addr} {vs : List V} (h : SqL K G0 a vs) (r : RpA K G0 vs ds) : Wk K G0 (ds.mapIdx fun i y => .tuple [.int (i : Nat), y]) (Ite K a) := fun G H g gh => by
  have hh : SqL K H a vs := gh.seq (g.seq h)
  refine ⟨fun i hi => ?_, fun i hi => ⟨vs, hh, by rw [r.len]; simpa using hi⟩, fun i x H' d hd hy => ?_⟩
  · have hi : i < ds.length := by simpa using hi
    obtain ⟨x, h1, _⟩ := r.get (List.getElem?_eq_getElem hi)
    exact ⟨vs, x, hh, h1⟩
  · obtain ⟨p, y, rfl, hp, rfl, hy⟩ := hy
    rw [List.getElem?_mapIdx] at hd
    cases q : ds[i]? with
    | none =>
      rw [q] at hd
      cases hd
    | some z =>
      rw [q] at hd
      cases hd
      obtain ⟨w, h1, h2⟩ := r.get q
      have h3 := hy vs hh
      rw [h1] at h3
      have h3 : w = y := Option.some.inj h3
      subst h3
      have gn : G p = none := by
        cases t : G p with
        | none => rfl
        | some o =>
          have := gh p o t
          rw [hp] at this
          cases this
      have r2 : Rp K G w z := Rp.mono g z w h2
      refine ⟨upd G p (.tup [.int (i : Nat), w]), Same.new gn, fun b o t => ?_, fun b o t => ?_, ?_⟩
      · by_cases zb : b = p
        · subst zb
          rw [upd_same] at t ⊢
          exact t
        · rw [upd_ne zb] at t ⊢
          exact gh b o t
      · have zb : b ≠ p := fun zz => by
          rw [zz, hp] at t
          cases t
        exact ⟨by rw [upd_ne zb]; exact t, upd_ne zb⟩
      · exact .tup (SqT.of upd_same) (.cons (.int _) (.cons (Rp.mono (Same.new gn) z w r2) .nil))
/-- a walked thing's own run -/
def wI (X : Cx) (tg iter : Expr) : TI := fun σ H R => ∀ pins s, Inv X pins σ H s → wpAny (model X.prog X.w) X.A (eval iter X.env) (fun v s1 => wpAny (model X.prog X.w) X.A (pyIter v) (PIE X pins σ tg R) X.xe s1) X.xe s
theorem pi_w {tg iter : Expr} : PI X tg iter (wI X tg iter) := ⟨fun pins s σ H R I h => h pins s I⟩
theorem wI.by {tg iter : Expr} {wi : TI} {R : It → Hp → Prop} (p : PI X tg iter wi) (h : wi σ H R) : wI X tg iter σ H R := fun pins s I => p.run pins s σ H R I h
def QI (K : PySem.W.Frag) (Cs : Cls) (hv : Nat → Nat → Option V) (Θ : Ow) (G H : Hp) (σ : L2.St) (ds : List D) (e' : Sl) : It → Hp → Prop := fun J H' => ∃ G' Θ', Stp Θ G H Θ' G' H' ∧ Sts K Cs hv Θ' G' H' e' σ ∧ Wk K G' ds J ∧ ds.length ≤ sizeLine
/-! ### stores -/
theorem Sts.put {i : Nat} (s : Sts K Cs hv Θ G H e σ) (r : Rp K G v d) : Sts K Cs hv Θ G H (e.set i (some (.d d))) (σ.set i (some v)) :=
  s.change (i := i) (Same.refl _) s.gh s.th (fun p j m t _ => ⟨rfl, rfl, t⟩) (List.length_set ..) (fun j z => List.getElem?_set_ne (Ne.symm z)) (fun _ _ => rfl) fun o hi e => by
    cases e
    exact ⟨v, by rw [List.getElem?_set_self (by rw [← s.len]; exact hi)], r⟩
theorem loc_of {x : Str} (C : Ctx T code Dp n fl W X) (h : locB fl X.env.scope x = true) : Loc X.env.scope x ∧ (X.fn x = true ∨ X.env.scope.names.lookup x = some .local) := by
  unfold locB at h
  split at h
  · rename_i q
    exact ⟨.inl q, .inr q⟩
  · rename_i q
    refine ⟨.inr q, .inl ?_⟩
    rw [C.fn]
    cases fl with
    | none => rfl
    | some s =>
      simp only at h
      split at h
      · rename_i z
        show (s.names.lookup x == some NameKind.cell) = true
        rw [z]
        rfl
      · cases h
  · cases h
theorem setS_ok {ow : List Bool} {i : Nat} (h : setS ow i o e = some e') : i < e.length ∧ ow[i]? ≠ some true ∧ e' = e.set i (some o) := by
  unfold setS at h
  split at h
  · rename_i q
    cases h
    exact ⟨q.1, q.2, rfl⟩
  · cases h
/-- which slots a target stores, with what -/
def putV : List Nat → List V → L2.St → L2.St
  | i :: is, v :: vs, σ => putV is vs (σ.set i (some v))
  | _, _, σ => σ
theorem tg_go (C : Ctx T code Dp n fl W X) {ow : List Bool} : ∀ {is : List Nat} {xs : List Expr} {ds : List D} {vs : List V} {e e' : Sl} {σ : L2.St}, tgB.go X.N fl X.env.scope is xs = true → Sts X.K Cs hv Θ G H e σ → RpA X.K G vs ds → setSs ow is (ds.map O.d) e = some e' →
    ∃ t, PGs X xs t ∧ xs.length = vs.length ∧ (∀ env, (assignEach xs env).length = xs.length ∧ (assignEach xs env).findIdx? (·.1) = none) ∧ ∀ Q : L2.St → Hp → Prop, (Sts X.K Cs hv Θ G H e' (putV is vs σ) → Q (putV is vs σ) H) → t vs σ H Q
  | [], [], ds, vs, e, e', σ, _, s, r, h => by
    cases r with
    | nil =>
      have h' : some e = some e' := h
      cases h'
      exact ⟨gNil, pgs_nil, rfl, fun _ => ⟨rfl, rfl⟩, fun Q q => ⟨rfl, q s⟩⟩
    | cons _ _ => cases h
  | [], _ :: _, _, _, _, _, _, m, _, _, _ => no m
  | i :: is, [], _, _, _, _, _, m, _, _, _ => no m
  | i :: is, x :: xs, ds, vs, e, e', σ, m, s, r, h => by
    cases x <;> try (exact no m)
    rename_i y pos
    obtain ⟨m1, m2, m3⟩ := and3 m
    cases r with
    | nil => cases h
    | @cons v vs d ds r1 r2 =>
      have h : (match setS ow i (.d d) e with | some e => setSs ow is (ds.map O.d) e | none => none) = some e' := h
      cases q : setS ow i (.d d) e with
      | none =>
        rw [q] at h
        cases h
      | some e1 =>
        rw [q] at h
        obtain ⟨h1, h2, rfl⟩ := setS_ok q
        obtain ⟨t, p, hl, ha, k⟩ := tg_go C m3 (s.put (i := i) r1) r2 h
        obtain ⟨l1, l2⟩ := loc_of C m2
        refine ⟨gCons (gName i) t, pgs_cons (pg_name C.nd (slot_of m1) l1 l2) p rfl, by simp [hl], fun env => ?_, fun Q q => ⟨v, vs, rfl, k Q q⟩⟩
        obtain ⟨z1, z2⟩ := ha env
        refine ⟨by show (assignEach xs env).length + 1 = _; rw [z1]; rfl, ?_⟩
        show List.findIdx? (·.1) ((false, assign (.Name y pos) env) :: assignEach xs env) = none
        rw [List.findIdx?_cons, z2]
        rfl
/-- a target -/
def putT : CT → D → V → List V → L2.St → L2.St
  | .nm i, _, v, _, σ => σ.set i (some v)
  | .tp is, _, _, vs, σ => putV is vs σ
theorem tg_ok (C : Ctx T code Dp n fl W X) {ow : List Bool} {t : CT} {x : Expr} (m : tgB X.N fl X.env.scope t x = true) (s : Sts X.K Cs hv Θ G H e σ) (r : Rp X.K G v d) (h : setT ow t d e = some e') :
    ∃ g vs, PG X x g ∧ ∀ Q : L2.St → Hp → Prop, (Sts X.K Cs hv Θ G H e' (putT t d v vs σ) → Q (putT t d v vs σ) H) → g v σ H Q := by
  cases t with
  | nm i =>
    cases x <;> try (exact no m)
    obtain ⟨m1, m2⟩ := and2 m
    obtain ⟨h1, h2, rfl⟩ := setS_ok h
    obtain ⟨l1, l2⟩ := loc_of C m2
    exact ⟨gName i, [], pg_name C.nd (slot_of m1) l1 l2, fun Q q => q (s.put r)⟩
  | tp is =>
    cases x <;> try (exact no m)
    rename_i xs k pos
    unfold setT at h
    cases d <;> try (exact noO h)
    rename_i ds
    cases r with
    | @tup a vs _ r1 r2 =>
      obtain ⟨t, p, hl, ha, k⟩ := tg_go C m s r2 h
      exact ⟨gTup X.K xs.length t, vs, pg_tup C.calm p (ha _).1 (ha _).2, fun Q q => ⟨a, vs, rfl, Y.Same.sqt s.gh r1, hl.symm, k Q q⟩⟩
end
end Y

/-! Y11: calls. -/
namespace Y
open PySem PySem.Spec PyProof.Rows L2
section
variable {T : Tb} {code : List FD} {Dp : PgT} {n : Nat} {fl : Option Scope} {W : WX} {X : Cx} {K : PySem.W.Frag} {Cs Xs : Cls} {hv : Nat → Nat → Option V} {U U' : Addr → Prop} {Θ Θ0 Θ1 Θ2 Θ' : Ow} {G0 G G' G1 G2 H0 H H' H1 H2 : Hp} {e e' e0 : Sl} {σ σ' : L2.St} {av : AV} {v : V} {o : O} {d : D}
theorem run_code {gc : List (Str × D)} {f : Nat} {os : List O} {r : Rs × List O} (h : run gc code n f os = some r) : ∃ fd m, n = m + 1 ∧ code[f]? = some fd ∧ os.length = fd.np ∧
    (match fd.mak with
      | some (c, g, k) => ∃ o outs, run gc code m g (.ob c (List.replicate k .un) :: os) = some (.v (.d .none), o :: outs) ∧ r = (.v o, outs)
      | none => match fd.nt with
        | some g => (g os).map (fun r => (Rs.v r.1, r.2)) = some r
        | none => runF gc (run gc code m) fd os = some r) := by
  cases n with
  | zero => cases h
  | succ m =>
    have h : (match code[f]? with
      | some fd => match fd.mak with
        | some (c, g, k) => if os.length = fd.np then match run gc code m g (.ob c (List.replicate k .un) :: os) with
            | some (.v (.d .none), o :: outs) => some (Rs.v o, outs)
            | _ => none
          else none
        | none => match fd.nt with
          | some g => if os.length = fd.np then (g os).map fun r => (.v r.1, r.2) else none
          | none => runF gc (run gc code m) fd os
      | none => none) = some r := h
    cases q : code[f]? with
    | none =>
      rw [q] at h
      cases h
    | some fd =>
      rw [q] at h
      have h : (match fd.mak with
        | some (c, g, k) => if os.length = fd.np then match run gc code m g (.ob c (List.replicate k .un) :: os) with
            | some (.v (.d .none), o :: outs) => some (Rs.v o, outs)
            | _ => none
          else none
        | none => match fd.nt with
          | some g => if os.length = fd.np then (g os).map fun r => (.v r.1, r.2) else none
          | none => runF gc (run gc code m) fd os) = some r := h
      cases w : fd.mak with
      | some t =>
        obtain ⟨c, g, k⟩ := t
        rw [w] at h
        have h : (if os.length = fd.np then match run gc code m g (.ob c (List.replicate k .un) :: os) with
            | some (.v (.d .none), o :: outs) => some (Rs.v o, outs)
            | _ => none
          else none) = some r := h
        by_cases z : os.length = fd.np
        · rw [if_pos z] at h
          refine ⟨fd, m, rfl, rfl, z, ?_⟩
          rw [w]
          split at h
          · rename_i o outs hq
            cases h
            exact ⟨o, outs, hq, rfl⟩
          · cases h
        · rw [if_neg z] at h
          cases h
      | none =>
        rw [w] at h
        have h : (match fd.nt with
          | some g => if os.length = fd.np then (g os).map fun r => (Rs.v r.1, r.2) else none
          | none => runF gc (run gc code m) fd os) = some r := h
        cases w2 : fd.nt with
        | some g =>
          rw [w2] at h
          have h : (if os.length = fd.np then (g os).map fun r => (Rs.v r.1, r.2) else none) = some r := h
          by_cases z : os.length = fd.np
          · rw [if_pos z] at h
            refine ⟨fd, m, rfl, rfl, z, ?_⟩
            rw [w]
            simp only [w2]
            exact h
          · rw [if_neg z] at h
            cases h
        | none =>
          rw [w2] at h
          have h : runF gc (run gc code m) fd os = some r := h
          have z : os.length = fd.np := by
            unfold runF at h
            split at h
            · rename_i z
              exact z.1
            · cases h
          refine ⟨fd, m, rfl, rfl, z, ?_⟩
          rw [w]
          simp only [w2]
          exact h
theorem Args.vlen {os : List O} {vs : List V} (A : Y.Args K Cs hv Θ G H os vs) : os.length = vs.length := by
  have := A.s.len
  simpa using this
theorem run_fnG (C : Ctx T code Dp n fl W X) {f : Nat} {pins : List (Addr × Obj)} {s : Shared} {Q : VK} {us : List Value} {vs : List V} (hm : ∀ fd, code[f]? = some fd → fd.mak = none) (I : Inv X pins σ H s) (r : Vals vs us)
    (h : spZ X.K Dp.cs Dp.xs T.gc code n f vs H Q (fun cls d H' => W cls d σ H')) :
    wpAny (model X.prog X.w) X.A (call (.ref (Dp.addr f)) us) (EP X pins σ Q) X.xe s := by
  obtain ⟨G, hv, Θ, os, ro, outs, A, hr, k⟩ := id h
  obtain ⟨fd, m, _, hc, hl, _⟩ := run_code hr
  obtain ⟨name, qual, F, S, B, np, ns, _⟩ := C.pg.df f fd hc (hm fd hc)
  have l1 := A.vlen
  have l2 := r.length
  have lus : (us ++ []).length = (Dp.ps f).length := by
    rw [List.append_nil]
    omega
  have hb := B s us I.kIn lus
  rw [List.append_nil] at hb
  refine wpAny_call (codeAny_mono (C.fs n (Nat.le_refl _) f hm X.A X.stack s H ⟨us, []⟩ us vs Q _ C.hr C.gd I.env0 hb r h) fun res s' hq => ?_)
  cases res with
  | error x => exact C.tk x s' (XE.of_call I (fun _ _ _ z => z) hq)
  | ok fw =>
    cases fw with
    | ret u => exact I.after hq
    | next => exact False.elim hq
    | brk => exact False.elim hq
    | cont => exact False.elim hq
def tA (X : Cx) : List Expr → TA
  | [] => tNil
  | y :: ys => wA X (y :: ys)
theorem pa_t {xs : List Expr} : PA X xs (tA X xs) := by
  cases xs with
  | nil => exact pa_nil
  | cons y ys => exact pa_w
theorem pe_callG (C : Ctx T code Dp n fl W X) {f : Nat} {x : Str} {fd : FD} {xs : List Expr} {p pos : Pos} (hf : T.fn[f]? = some x) (hne : x ≠ "") (hc : code[f]? = some fd) (hm : fd.mak = none) (hg : Gl X x) (hd : (x == ("__debug__" : Str)) = false)
    (hs : ∀ y ys, xs = y :: ys → starEach (y :: ys) X.env = (false, eval y X.env) :: starEach ys X.env ∧ ∀ pos, (backTo pos (starEach ys X.env)).any (·.1) = false) :
    PE X (.Call (.Name x p) xs [] pos) (fun σ H Q => tA X xs σ H fun vs H1 => spZ X.K Dp.cs Dp.xs T.gc code n f vs H1 Q (fun cls d H' => W cls d σ H')) := by
  obtain ⟨hmg, hk⟩ := C.pg.fn f x fd hf hne hc hm
  have hmm : ∀ fd', code[f]? = some fd' → fd'.mak = none := fun fd' z => by
    rw [hc] at z
    cases z
    exact hm
  refine ⟨fun pins s σ H Q I h => wpAny_Call_Name_kw (ld_glob I hg hmg ?_ hd)⟩
  cases xs with
  | nil =>
    exact PySem.W.callWith_K0 I.kIn hk (run_fnG C hmm (us := []) I .nil h)
  | cons y ys =>
    obtain ⟨h1, h2⟩ := hs y ys rfl
    refine PySem.W.callWith_K (h₀ := X.base) I.ok.mod.kin hk (thn (h pos pins s I) fun us s1 z => ?_) h1 (h2 pos)
    obtain ⟨vs, H1, I1, r1, q1⟩ := z
    exact ⟨I1.kIn, run_fnG C hmm I1 r1 q1⟩
end
end Y

/-! Y12: comprehensions. -/
namespace Y
open PySem PySem.Spec PyProof.Rows L2
section
variable {T : Tb} {code : List FD} {Dp : PgT} {n : Nat} {fl : Option Scope} {W : WX} {X : Cx} {K : PySem.W.Frag} {Cs Xs : Cls} {hv : Nat → Nat → Option V} {U U' : Addr → Prop} {Θ Θ0 Θ1 Θ2 Θ' : Ow} {G0 G G' G1 G2 H0 H H' H1 H2 : Hp} {e e' e0 e1 e2 : Sl} {σ σ' : L2.St} {av : AV} {v : V} {o : O} {d : D} {ws : List Nat}
theorem wipe_at (σ : L2.St) (j : Nat) : ∀ ws : List Nat, (wipe σ ws)[j]? = if j ∈ ws ∧ j < σ.length then some none else σ[j]?
  | [] => by simp [wipe]
  | i :: r => by
    unfold wipe
    have ih := wipe_at σ j r
    by_cases hj : j = i
    · subst hj
      by_cases hl : j < σ.length
      · rw [List.getElem?_set_self (by rw [wipe_length]; exact hl), if_pos ⟨List.mem_cons_self, hl⟩]
      · rw [List.set_eq_of_length_le (by rw [wipe_length]; omega), ih, if_neg (fun q => hl q.2), if_neg (fun q => hl q.2)]
    · rw [List.getElem?_set_ne (Ne.symm hj), ih]
      simp [hj]
theorem wipe_ext {σ σ' : L2.St} (hl : σ.length = σ'.length) (h : ∀ j, j ∉ ws → σ[j]? = σ'[j]?) : wipe σ ws = wipe σ' ws := by
  apply List.ext_getElem?
  intro j
  rw [wipe_at, wipe_at, hl]
  by_cases hj : j ∈ ws
  · by_cases hk : j < σ'.length
    · rw [if_pos ⟨hj, hk⟩, if_pos ⟨hj, hk⟩]
    · rw [if_neg (fun q => hk q.2), if_neg (fun q => hk q.2), List.getElem?_eq_none (by omega), List.getElem?_eq_none (by omega)]
  · rw [if_neg (fun q => hj q.1), if_neg (fun q => hj q.1), h j hj]
theorem wipe_wipe : wipe (wipe σ ws) ws = wipe σ ws := wipe_ext (wipe_length _ _) fun j hj => by
  rw [wipe_at, if_neg (fun q => hj q.1)]
theorem putV_len : ∀ {is : List Nat} {vs : List V} {σ : L2.St}, (putV is vs σ).length = σ.length
  | [], _, _ => by simp [putV]
  | _ :: _, [], _ => by simp [putV]
  | i :: is, v :: vs, σ => by
    show (putV is vs (σ.set i (some v))).length = _
    rw [putV_len, List.length_set]
theorem putV_at : ∀ {is : List Nat} {vs : List V} {σ : L2.St} {j : Nat}, j ∉ is → (putV is vs σ)[j]? = σ[j]?
  | [], _, _, _, _ => by simp [putV]
  | _ :: _, [], _, _, _ => by simp [putV]
  | i :: is, v :: vs, σ, j, h => by
    show (putV is vs (σ.set i (some v)))[j]? = _
    rw [List.mem_cons, not_or] at h
    rw [putV_at h.2, List.getElem?_set_ne (Ne.symm h.1)]
def tgSlots : CT → List Nat
  | .nm i => [i]
  | .tp is => is
theorem putT_len {t : CT} {vs : List V} : (putT t d v vs σ).length = σ.length := by
  cases t with
  | nm i => exact List.length_set
  | tp is => exact putV_len
theorem putT_at {t : CT} {vs : List V} {j : Nat} (h : j ∉ tgSlots t) : (putT t d v vs σ)[j]? = σ[j]? := by
  cases t with
  | nm i => exact List.getElem?_set_ne (fun z => h (by simp [tgSlots, z]))
  | tp is => exact putV_at h
theorem wipe_put {t : CT} {vs : List V} (h : ∀ i ∈ tgSlots t, i ∈ ws) : wipe (putT t d v vs (wipe σ ws)) ws = wipe σ ws := by
  refine (wipe_ext putT_len fun j hj => putT_at fun q => hj (h j q)).trans wipe_wipe
theorem own_mem {N : List Str} {scope sc : Scope} {x : Str} {i : Nat} (nd : N.Nodup) (h : locB (some scope) (relS scope sc) x = true) (hi : N[i]? = some x) : i ∈ (ownOf N scope).map (·.2) := by
  have hm : x ∈ N := List.mem_of_getElem? hi
  have ix : N.idxOf x = i := by
    have hl : N.idxOf x < N.length := List.idxOf_lt_length_of_mem hm
    exact nodup_ix nd (List.getElem?_eq_some_iff.mpr ⟨hl, List.getElem_idxOf hl⟩) hi
  have fin : ∀ k : NameKind, (k = .local ∨ k = .cell) → scope.names.lookup x = some k → i ∈ (ownOf N scope).map (·.2) := fun k hk q => by
    refine List.mem_map.mpr ⟨(x, i), List.mem_filterMap.mpr ⟨(x, k), PySem.mem_of_lookup q, ?_⟩, rfl⟩
    rcases hk with rfl | rfl
    · show (if x ∈ N then some (x, N.idxOf x) else none) = _
      rw [if_pos hm, ix]
    · show (if x ∈ N then some (x, N.idxOf x) else none) = _
      rw [if_pos hm, ix]
  unfold locB at h
  split at h
  · rename_i q
    obtain ⟨k', h1, h2⟩ := lookup_relS q
    rcases h2 with h2 | h2
    · exact fin .local (.inl rfl) (by rw [h1, h2])
    · cases h2.2
  · simp only at h
    split at h
    · exact fin .cell (.inr rfl) (by assumption)
    · cases h
  · cases h
theorem tg_own {N : List Str} {scope sc : Scope} {t : CT} {x : Expr} (nd : N.Nodup) (h : tgB N (some scope) (relS scope sc) t x = true) : ∀ i ∈ tgSlots t, i ∈ (ownOf N scope).map (·.2) := by
  cases t with
  | nm j =>
    cases x <;> try (exact no h)
    obtain ⟨h1, h2⟩ := and2 h
    intro i hi
    have : i = j := by simpa [tgSlots] using hi
    subst this
    exact own_mem nd h2 (slot_of h1)
  | tp is =>
    cases x <;> try (exact no h)
    rename_i xs k pos
    have go : ∀ (is : List Nat) (xs : List Expr), tgB.go N (some scope) (relS scope sc) is xs = true → ∀ i ∈ is, i ∈ (ownOf N scope).map (·.2) := by
      intro is
      induction is with
      | nil =>
        intro _ _ i hi
        cases hi
      | cons j is ih =>
        intro xs h i hi
        cases xs with
        | nil => exact no h
        | cons y ys =>
          cases y <;> try (exact no h)
          obtain ⟨h1, h2, h3⟩ := and3 h
          rcases List.mem_cons.mp hi with z | z
          · subst z
            exact own_mem nd h2 (slot_of h1)
          · exact ih ys h3 i z
    exact go is xs h
theorem wipeE_at (e : Sl) (j : Nat) : ∀ ws : List Nat, ((wipeE e ws)[j]?).join = if j ∈ ws then none else (e[j]?).join
  | [] => by simp [wipeE]
  | i :: r => by
    unfold wipeE
    have ih := wipeE_at e j r
    by_cases hl : i < (wipeE e r).length
    · rw [join_set hl, ih]
      by_cases hj : j = i
      · simp [hj]
      · simp [hj]
    · rw [List.set_eq_of_length_le (by omega), ih]
      by_cases hj : j = i
      · subst hj
        have : (e[j]?).join = none := by
          have le : (wipeE e r).length = e.length := by
            clear ih hl
            induction r with
            | nil => rfl
            | cons k r ih2 =>
              unfold wipeE
              rw [List.length_set]
              exact ih2
          rw [List.getElem?_eq_none (by omega)]
          rfl
        simp [this]
      · simp [hj]
theorem wipeE_len (e : Sl) : ∀ ws : List Nat, (wipeE e ws).length = e.length
  | [] => rfl
  | i :: r => by
    unfold wipeE
    rw [List.length_set, wipeE_len e r]
theorem Sts.wipe (s : Sts K Cs hv Θ G H e σ) : Sts K Cs hv Θ G H (wipeE e ws) (L2.wipe σ ws) := by
  refine ⟨s.gh, s.th, by rw [wipeE_len, wipe_length]; exact s.len, fun i o h => ?_⟩
  rw [wipeE_at] at h
  split at h
  · cases h
  · rename_i hn
    obtain ⟨v, h1, h2⟩ := s.sl i o h
    refine ⟨v, ?_, h2⟩
    rw [wipe_at, if_neg (fun q => hn q.1)]
    exact h1
theorem backE_at (e0 : Sl) : ∀ (ws : List Nat) (e : Sl) (j : Nat), e0.length = e.length → ((backE e0 e ws)[j]?).join = if j ∈ ws then (e0[j]?).join else (e[j]?).join
  | [], e, j, _ => by simp [backE]
  | i :: r, e, j, hl => by
    show ((backE e0 (e.set i ((e0[i]?).join)) r)[j]?).join = _
    rw [backE_at e0 r _ j (by rw [List.length_set]; exact hl)]
    by_cases hr : j ∈ r
    · rw [if_pos hr, if_pos (List.mem_cons_of_mem _ hr)]
    · rw [if_neg hr]
      by_cases hi : i < e.length
      · rw [join_set hi]
        by_cases hj : j = i
        · subst hj
          rw [if_pos rfl, if_pos List.mem_cons_self]
        · rw [if_neg hj, if_neg (by simp [hj, hr])]
      · rw [List.set_eq_of_length_le (by omega)]
        by_cases hj : j = i
        · subst hj
          rw [if_pos List.mem_cons_self, List.getElem?_eq_none (by omega), List.getElem?_eq_none (by omega)]
        · rw [if_neg (by simp [hj, hr])]
theorem backE_len (e0 : Sl) : ∀ (ws : List Nat) (e : Sl), (backE e0 e ws).length = e.length
  | [], e => rfl
  | i :: r, e => by
    show (backE e0 (e.set i ((e0[i]?).join)) r).length = _
    rw [backE_len, List.length_set]
theorem Sts.back (s0 : Sts K Cs hv Θ1 G1 H1 e0 σ) (hn : noOwn e0 ws = true) (st : Stp Θ1 G1 H1 Θ2 G2 H2) (s : Sts K Cs hv Θ2 G2 H2 e2 (L2.wipe σ ws)) : Sts K Cs hv Θ2 G2 H2 (backE e0 e2 ws) σ := by
  have hl : e0.length = e2.length := by rw [s0.len, s.len, wipe_length]
  refine ⟨s.gh, s.th, by rw [backE_len, s.len, wipe_length], fun i o h => ?_⟩
  rw [backE_at e0 ws e2 i hl] at h
  split at h
  · rename_i hi
    obtain ⟨v, h1, h2⟩ := s0.sl i o h
    refine ⟨v, h1, ?_⟩
    have q := List.all_eq_true.mp hn i hi
    rw [h] at q
    obtain ⟨q1, q2⟩ := and2 q
    rcases o with x | xs | xs | ⟨c1, fs⟩ | _ | _
    · exact Rp.mono st.g x v h2
    · cases q1
    · cases q1
    · cases q1
    · exact h2.elim
    · cases q2
  · rename_i hi
    obtain ⟨v, h1, h2⟩ := s.sl i o h
    refine ⟨v, ?_, h2⟩
    rw [wipe_at, if_neg (fun q => hi q.1)] at h1
    exact h1
/-! ### the families over all blocks -/
def gB (X : Cx) (scope : Scope) (tg : Expr) : TG := fun v σ H Q => ∀ (s0 : Shared) (H0 : Hp) (A : Addr) (cl : List (Str × Addr)) (fp : List Addr), ∃ t, PG (X.blk s0 H0 scope (compEnvC scope cl A X.env) fp) tg t ∧ t v σ H Q
def tB' (X : Cx) (scope : Scope) (cs : List Expr) : TT := fun σ H Q => ∀ (s0 : Shared) (H0 : Hp) (A : Addr) (cl : List (Str × Addr)) (fp : List Addr), ∃ t, PTs (X.blk s0 H0 scope (compEnvC scope cl A X.env) fp) cs t ∧ t σ H Q
def eB (X : Cx) (scope : Scope) (elt : Expr) : TE := fun σ H Q => ∀ (s0 : Shared) (H0 : Hp) (A : Addr) (cl : List (Str × Addr)) (fp : List Addr), wE (X.blk s0 H0 scope (compEnvC scope cl A X.env) fp) elt σ H Q
theorem pg_b {scope : Scope} {tg : Expr} (s0 : Shared) (H0 : Hp) (A : Addr) (cl : List (Str × Addr)) (fp : List Addr) : PG (X.blk s0 H0 scope (compEnvC scope cl A X.env) fp) tg (gB X scope tg) := ⟨fun pins s σ H v u Q I r h => by
  obtain ⟨t, p, q⟩ := h s0 H0 A cl fp
  exact p.run pins s σ H v u Q I r q⟩
theorem pt_b {scope : Scope} {cs : List Expr} (s0 : Shared) (H0 : Hp) (A : Addr) (cl : List (Str × Addr)) (fp : List Addr) : PTs (X.blk s0 H0 scope (compEnvC scope cl A X.env) fp) cs (tB' X scope cs) := ⟨fun pins s σ H Q I h => by
  obtain ⟨t, p, q⟩ := h s0 H0 A cl fp
  exact p.run pins s σ H Q I q⟩
theorem pe_b {scope : Scope} {elt : Expr} (s0 : Shared) (H0 : Hp) (A : Addr) (cl : List (Str × Addr)) (fp : List Addr) : PE (X.blk s0 H0 scope (compEnvC scope cl A X.env) fp) elt (eB X scope elt) := ⟨fun pins s σ H Q I h => h s0 H0 A cl fp pins s I⟩
/-- a walked thing has given out a datum -/
theorem wk_step {ds : List D} {J : It} (w : Wk K G1 ds J) (g : Same G1 G) (s : Sts K Cs hv Θ G H e σ) {i : Nat} {x : V} (hd : ds[i]? = some d) (hy : J.yld i H x H') : ∃ G', Stp Θ G H Θ G' H' ∧ Sts K Cs hv Θ G' H' e σ ∧ Rp K G' x d ∧ (∀ a o, H a = some o → H' a = some o ∧ G' a = G a) := by
  obtain ⟨G', g1, g2, k, r⟩ := (w G H g s.gh).2.2 i x H' d hd hy
  have st : Stp Θ G H Θ G' H' := ⟨g1, fun a o h t => ⟨(k a o h).1, (k a o h).2, t⟩, fun _ _ t => t⟩
  have kk : ∀ p q, Θ p = some q → ∃ o, H p = some o ∧ H' p = some o ∧ G' p = G p := fun p q t => by
    cases z : H p with
    | none => exact absurd z (s.th p q t)
    | some o => exact ⟨o, rfl, (k p o z).1, (k p o z).2⟩
  refine ⟨G', st, s.step g1 g2 (fun a q t => ?_) (fun p q t => ?_), r, k⟩
  · obtain ⟨o, h1, h2, h3⟩ := kk a q t
    rw [h2]
    simp
  · obtain ⟨o, h1, h2, h3⟩ := kk p q t
    exact ⟨h2.trans h1.symm, h3, t⟩
/-- an object that no slot has is changed -/
theorem Sts.wr {A : Addr} {u u' : HO} (s : Sts K Cs hv Θ G H e σ) (h : H A = some u) (g : G A = none) (t : Θ A = none) : Sts K Cs hv Θ G (upd H A u') e σ := by
  have ne : ∀ a q, Θ a = some q → a ≠ A := fun a q z w => by
    subst w
    rw [t] at z
    cases z
  refine s.step (Same.refl _) (fun a o q => ?_) (fun a q z => ?_) fun a q z => ⟨upd_ne (ne a q z), rfl, z⟩
  · rw [upd_ne]
    · exact s.gh a o q
    · rintro rfl
      rw [g] at q
      cases q
  · rw [upd_ne (ne a q z)]
    exact s.th a q z
/-- one turn of the evaluator -/
def turnL (gc : List (Str × D)) (Γ : Gm) (ws : List Nat) (t : CT) (ifs : CP) (el : CE) : D → Sl → R (Option D) := fun x e => match setT [] t x e with
  | some e => (evIf gc Γ ifs e).bind fun c e => if c then (evE gc Γ el e).bind fun y e => match take y e with
      | some (d, e) => .ok (some d) (wipeE e ws)
      | none => .bad
    else .ok none (wipeE e ws)
  | none => .bad
theorem noxOk {α : Type} {r : R α} {a : α} (h : r.nox = .ok a e') : r = .ok a e' := by
  cases r with
  | ok b e1 => exact h
  | exc x e1 => cases h
  | bad => cases h
theorem lc_rd (C : Ctx T code Dp n fl W X) {Γ : Gm} {gc : List (Str × D)} {t : CT} {ifs : CP} {el : CE} {tg iter elt : Expr} {cs : List Expr} {scope : Scope} {ds rs : List D}
    (ht : tgB X.N (some scope) (relS scope X.env.scope) t tg = true) (hw : (ownOf X.N scope).map (·.2) = ws)
    (hI : wI X tg iter σ H (QI X.K Cs hv Θ G H σ ds e0))
    (hIf : ∀ (s0 : Shared) (H0 : Hp) (A : Addr) (cl : List (Str × Addr)) (fp : List Addr) (Θ : Ow) (G H : Hp) (e : Sl) (σ : L2.St) (b : Bool) (e' : Sl), Sts X.K Cs hv Θ G H e σ → evIf gc Γ ifs e = .ok b e' → ∃ t, PTs (X.blk s0 H0 scope (compEnvC scope cl A X.env) fp) cs t ∧
      ∀ Q : Bool → Hp → Prop, (∀ H' G' Θ', Stp Θ G H Θ' G' H' → Sts X.K Cs hv Θ' G' H' e' σ → Q b H') → t σ H Q)
    (hEl : ∀ (s0 : Shared) (H0 : Hp) (A : Addr) (cl : List (Str × Addr)) (fp : List Addr) (Θ : Ow) (G H : Hp) (e : Sl) (σ : L2.St) (av : AV) (e' : Sl), Sts X.K Cs hv Θ G H e σ → evE gc Γ el e = .ok av e' → wE (X.blk s0 H0 scope (compEnvC scope cl A X.env) fp) elt σ H (QE X.K Cs hv Θ G H σ av e'))
    (hno : noOwn e0 ws = true) (hl : lcL (turnL gc Γ ws t ifs el) ds (wipeE e0 ws) = .ok rs e1) :
    tLc (wI X tg iter) (gB X scope tg) (tB' X scope cs) (eB X scope elt) ws σ H (QE X.K Cs hv Θ G H σ (.tm (.ol rs)) (backE e0 e1 ws)) := by
  have hsl : ∀ i ∈ tgSlots t, i ∈ ws := hw ▸ tg_own C.nd ht
  refine (fun pins s I => ?_)
  refine thn (hI pins s I) fun v s1 z => thn z fun itv s2 z => ?_
  obtain ⟨it, fp, tn, J, H1, e2, I2, Tn, st2, f2, q⟩ := z
  refine ⟨it, fp, tn, J, H1, e2, I2, Tn, st2, f2, fun A hA => ?_⟩
  obtain ⟨G1, Θ1, st1, s1, wk, hlen⟩ := q
  have gA : G1 A = none := s1.noG hA
  have tA : Θ1 A = none := s1.noOw hA
  refine ⟨fun i m Hi => m = ds.length - i ∧ i ≤ ds.length ∧ ∃ (Gi : Hp) (Θi : Ow) (ei : Sl) (acc : List V) (done rest : List D), Stp Θ1 G1 H1 Θi Gi Hi ∧ Sts X.K Cs hv Θi Gi Hi ei (L2.wipe σ ws) ∧ Hi A = some (.lst acc) ∧ Gi A = none ∧ Θi A = none ∧ RpA X.K Gi acc done ∧
      lcL (turnL gc Γ ws t ifs el) (ds.drop i) ei = .ok rest e1 ∧ done ++ rest = rs ∧ done.length ≤ i, ⟨ds.length, by simp, Nat.zero_le _, G1, Θ1, wipeE e0 ws, [], [], rs, Stp.laid hA, (s1.laid hA).wipe, upd_same, gA, tA, .nil, by simpa using hl, rfl, Nat.zero_le _⟩, ?_⟩
  rintro i m Hi ⟨rfl, hi, Gi, Θi, ei, acc, done, rest, sti, si, hHA, hGA, hTA, ra, hr, hdr, hdl⟩
  obtain ⟨w1, w2, w3⟩ := wk Gi Hi sti.g si.gh
  by_cases hlt : i < ds.length
  · refine .inr ⟨w1 i hlt, fun H' => ∃ (Gi : Hp) (Θi : Ow) (ei : Sl) (acc : List V) (done rest : List D), Stp Θ1 G1 H1 Θi Gi H' ∧ Sts X.K Cs hv Θi Gi H' ei (L2.wipe σ ws) ∧ H' A = some (.lst acc) ∧ Gi A = none ∧ Θi A = none ∧ RpA X.K Gi acc done ∧
      lcL (turnL gc Γ ws t ifs el) (ds.drop (i + 1)) ei = .ok rest e1 ∧ done ++ rest = rs ∧ done.length ≤ i + 1, fun H' h' => ⟨ds.length - (i + 1), by omega, rfl, hlt, h'⟩, fun x H2 hy => ?_⟩
    have hd : ds[i]? = some ds[i] := List.getElem?_eq_getElem hlt
    obtain ⟨G2, st2, s2, r2, kk⟩ := wk_step wk sti.g si hd hy
    rw [List.drop_eq_getElem_cons hlt] at hr
    obtain ⟨od, e3, t1, t2⟩ := bindOk hr
    have t1 := noxOk t1
    obtain ⟨rs', e4, t3, t4⟩ := bindOk t2
    cases t4
    intro s0 H0 A1 cl fp1
    unfold turnL at t1
    cases q : setT [] t ds[i] ei with
    | none =>
      rw [q] at t1
      cases t1
    | some e5 =>
      rw [q] at t1
      obtain ⟨g, vs, pg, k⟩ := tg_ok (C.blk s0 H0 scope cl A1 fp1) ht s2 r2 q
      refine ⟨g, pg, k _ fun s3 => ⟨wipe_put hsl, ?_⟩⟩
      intro s0 H0 A1 cl fp1
      obtain ⟨c, e6, u1, u2⟩ := bindOk (show (evIf gc Γ ifs e5).bind _ = _ from t1)
      obtain ⟨tt, pt, h4⟩ := hIf s0 H0 A1 cl fp1 Θi G2 H2 e5 _ c e6 s3 u1
      refine ⟨tt, pt, h4 _ fun H3 G3 Θ3 st3 s4 => ?_⟩
      have stA : Stp Θi Gi Hi Θ3 G3 H3 := st2.trans st3
      obtain ⟨hA3, gA3, tA3⟩ := stA.h A _ hHA hTA
      cases c with
      | false =>
        have u2 : R.ok none (wipeE e6 ws) = R.ok od e3 := u2
        cases u2
        refine ⟨G3, Θ3, wipeE e6 ws, acc, done, rs', sti.trans stA, ?_, hA3, by rw [gA3]; exact hGA, tA3, RpA.mono stA.g done acc ra, t3, hdr, by omega⟩
        have w := s4.wipe (ws := ws)
        rw [wipe_put hsl] at w
        exact w
      | true =>
        intro s0 H0 A1 cl fp1
        obtain ⟨y, e7, u3, u4⟩ := bindOk (show (evE gc Γ el e6).bind _ = _ from u2)
        refine (hEl s0 H0 A1 cl fp1 Θ3 G3 H3 e6 _ y e7 s4 u3).mono fun yv H4 z => ?_
        obtain ⟨G4, Θ4, U4, st4, s5, k5, u5⟩ := z
        cases q2 : take y e7 with
        | none =>
          rw [q2] at u4
          cases u4
        | some p =>
          obtain ⟨dd, e8⟩ := p
          rw [q2] at u4
          have u4 : R.ok (some dd) (wipeE e8 ws) = R.ok od e3 := u4
          cases u4
          obtain ⟨G5, f5, s6, r6⟩ := take_ok s5 k5 q2
          have st5 : Stp Θ3 G3 H3 Θ4 G5 H4 := f5.stp st4 fun p hp => (u5 p hp).2.1
          have stB : Stp Θi Gi Hi Θ4 G5 H4 := stA.trans st5
          obtain ⟨hA4, gA4, tA4⟩ := stB.h A _ hHA hTA
          have lacc : acc.length = done.length := ra.len
          refine ⟨acc, hA4, by omega, G5, Θ4, wipeE e8 ws, acc ++ [yv], done ++ [dd], rs', ?_, ?_, upd_same, by rw [gA4]; exact hGA, tA4, (RpA.mono stB.g done acc ra).snoc r6, t3, ?_, ?_⟩
          · have w := sti.trans stB
            refine ⟨w.g, fun a o h t => ?_, w.m⟩
            obtain ⟨h1, h2, h3⟩ := w.h a o h t
            exact ⟨by rw [upd_ne (ne_of_none h hA)]; exact h1, h2, h3⟩
          · have w := s6.wipe (ws := ws)
            rw [wipe_put hsl] at w
            exact w.wr hA4 (by rw [gA4]; exact hGA) tA4
          · rw [← hdr]
            simp
          · simp
            omega
  · have e : i = ds.length := by omega
    subst e
    rw [List.drop_length] at hr
    cases hr
    refine .inl ⟨w2 _ (Nat.le_refl _), Gi, Θi, fun p => p = A, st1.trans sti, s1.back hno sti si, ⟨fun p => if p = A then some 0 else none, ⟨A, acc, rfl, hHA, hGA, ?_, if_pos rfl⟩, fun p m z => ?_⟩, fun p z => ?_⟩
    · have : done = rs := by simpa using hdr
      rw [← this]
      exact ra
    · have z : (if p = A then some 0 else none) = some m := z
      by_cases w : p = A
      · subst w
        exact ⟨rfl, hTA, st1.back s1 hA, _, hHA⟩
      · rw [if_neg w] at z
        cases z
    · have z : p = A := z
      subst z
      exact ⟨hTA, st1.back s1 hA, _, hHA⟩
end
end Y

/-! Y13: the evaluator speaks the truth about expressions. -/
namespace Y
open PySem PySem.Spec PyProof.Rows L2
section
variable {T : Tb} {code : List FD} {Dp : PgT} {n : Nat} {fl : Option Scope} {W : WX} {X : Cx} {Cs Xs : Cls} {hv : Nat → Nat → Option V} {U U' : Addr → Prop} {Θ Θ0 Θ1 Θ2 Θ' : Ow} {G0 G G' G1 G2 H0 H H' H1 H2 : Hp} {e e' e0 e1 e2 : Sl} {σ σ' : L2.St} {av : AV} {v : V} {o : O} {d : D} {x : Expr} {b : Bool}
/-- lists and tuples are no longer than may be -/
theorem wE.sz {Q : VK} (h : wE X x σ H Q) : wE X x σ H (fun v H' => Q v H' ∧ (∀ a xs, SqL X.K H' a xs → xs.length ≤ sizeLine) ∧ ∀ a xs, SqT X.K H' a xs → xs.length ≤ sizeLine) := fun pins s I =>
  thn (h pins s I) fun u s' z => by
    obtain ⟨v, H', I', r, q⟩ := z
    exact ⟨v, H', I', r, q, fun a xs l => (I'.list l).choose_spec.2.2, fun a xs l => (I'.tuple l).choose_spec.2.2⟩
theorem pe_tail {op : BoolOp} {y : Expr} {r : List Expr} {pos : Pos} : PE X (.BoolOp op (y :: r) pos) (wE X (tailB op pos (y :: r))) := by
  cases r with
  | nil => exact pe_one pe_w
  | cons z r => exact pe_w
theorem pw_tailA {y : Expr} {r : List Expr} {pos : Pos} : PW X (.BoolOp .And (y :: r) pos) (wT X (tailB .And pos (y :: r))) := by
  cases r with
  | nil => exact pw_and1 pt_w
  | cons z r => exact ⟨fun wh pins s σ H Q I h => h pins s I⟩
theorem pw_tailO {y : Expr} {r : List Expr} {pos : Pos} : PW X (.BoolOp .Or (y :: r) pos) (wT X (tailB .Or pos (y :: r))) := by
  cases r with
  | nil => exact pw_or1 pt_w
  | cons z r => exact ⟨fun wh pins s σ H Q I h => h pins s I⟩
theorem pt_ifx {t a b : Expr} {pos : Pos} {tt ta tb : TT} (ht : PT X t tt) (ha : PT X a ta) (hb : PT X b tb) : PT X (.IfExp t a b pos) (fun σ H Q => tt σ H fun c H1 => if c = true then ta σ H1 Q else tb σ H1 Q) := by
  refine ⟨fun pins s σ H Q I h => ?_⟩
  show wpAny (model X.prog X.w) X.A (isTrue t X.env (eval t X.env) >>= fun c => if c = true then isTrue a X.env (eval a X.env) else isTrue b X.env (eval b X.env)) _ _ _
  refine wpAny_bind (thn (ht.run pins s σ H _ I h) fun c s1 z => ?_)
  obtain ⟨H1, I1, q⟩ := z
  cases c with
  | true => exact ha.run pins s1 σ H1 Q I1 q
  | false => exact hb.run pins s1 σ H1 Q I1 q
theorem pj_map : ∀ xs : List Expr, PJ X xs (xs.map (wE X))
  | [] => .nil
  | x :: xs => .cons pe_w (pj_map xs)
theorem lenEs {N : List Str} {sc : Scope} : ∀ {es : CEs} {xs : List Expr} {gc : List (Str × D)} {Γ : Gm} {e e' : Sl} {avs : List AV}, mEs T N fl sc es xs = true → evEs gc Γ es e = .ok avs e' → avs.length = xs.length
  | .nil, xs, gc, Γ, e, e', avs, h, q => by
    rw [ms_nil h]
    cases q
    rfl
  | .cons a es, xs, gc, Γ, e, e', avs, h, q => by
    obtain ⟨y, ys, rfl, h1, h2⟩ := ms_cons h
    obtain ⟨x1, e1, q1, q2⟩ := bindOk q
    have q2 : R.set x1 e1 (fun x e => (evEs gc Γ es e).bind fun xs e => .ok (x :: xs) e) = .ok avs e' := q2
    unfold R.set at q2
    cases q3 : settle x1 e1 with
    | none =>
      rw [q3] at q2
      cases q2
    | some p =>
      obtain ⟨x2, e2⟩ := p
      rw [q3] at q2
      obtain ⟨zs, e3, q4, q5⟩ := bindOk q2
      cases q5
      simp [lenEs h2 q4]
theorem tA.mono {xs : List Expr} {Q Q' : List V → Hp → Prop} (h : tA X xs σ H Q) (k : ∀ v H', Q v H' → Q' v H') : tA X xs σ H Q' := by
  cases xs with
  | nil => exact k _ _ h
  | cons y ys => exact wA.mono h k
theorem small_le {n : Nat} (h : n ≤ 1000) : n ≤ sizeLine := Nat.le_trans h (by rw [sizeLine_eq]; decide)
theorem atI_rp {K : PySem.W.Frag} {vs : List V} {ds : List D} {i : Int} (r : RpA K G vs ds) (h : atI ds i = some d) : ∃ v, atI vs i = some v ∧ Rp K G v d := by
  unfold atI at h ⊢
  rw [r.len]
  cases q : ixN ds.length i with
  | none =>
    rw [q] at h
    cases h
  | some j =>
    rw [q] at h
    exact r.get h
theorem cut_rp {K : PySem.W.Frag} {vs : List V} {ds : List D} (r : RpA K G vs ds) (lo hi : Option Int) : RpA K G (cutV vs lo hi) (cutL ds lo hi) := by
  unfold cutV cutL
  rw [r.len]
  exact (r.drop _).take _
theorem rgV_rp {K : PySem.W.Frag} (m : Int) : RpA K G (rgV 0 m) (rangeD 0 m.toNat) := by
  unfold rgV rangeD
  have e : (m - 0).toNat = m.toNat := by rw [Int.sub_zero]
  rw [e]
  generalize List.range m.toNat = l
  induction l with
  | nil => exact .nil
  | cons a l ih => exact .cons (.int _) ih
theorem nosetI {N : List Str} {sc : Scope} {Γ : Gm} {gc : List (Str × D)} {it : CI} (h : mI T N fl sc it x = true) (q : evI gc Γ it e ≠ .bad) : ∀ env v, foldedSetIterable x env v = pure v := by
  cases it with
  | e a =>
    have : a ≠ .bad := by
      rintro rfl
      exact q rfl
    exact noset h this
  | en a =>
    cases x <;> try (exact no h)
    exact fun _ _ => rfl
  | r1 a =>
    cases x <;> try (exact no h)
    exact fun _ _ => rfl
  | r2 a b =>
    cases x <;> try (exact no h)
    exact fun _ _ => rfl
theorem mg_bi (C : Ctx T code Dp n fl W X) {x : Str} (h : x ∈ biNames) : X.mg x = none := C.pg.bi x h
theorem biN_mem (b : Bi) : biN b ∈ biNames := by cases b <;> decide +kernel
theorem tyN_mem (t : Ty) : tyN t ∈ biNames := by cases t <;> decide +kernel
theorem wI.mono {tg iter : Expr} {R R' : It → Hp → Prop} (h : wI X tg iter σ H R) (k : ∀ J H', R J H' → R' J H') : wI X tg iter σ H R' := fun pins s I =>
  thn (h pins s I) fun v s1 z => thn z fun itv s2 z => by
    obtain ⟨it, fp, tn, J, H1, e2, I2, Tn, st2, f2, q⟩ := z
    exact ⟨it, fp, tn, J, H1, e2, I2, Tn, st2, f2, k J H1 q⟩
theorem lc_mono {tg iter : Expr} {g : TG} {tt : TT} {te : TE} {ws : List Nat} {Q Q' : VK} (h : tLc (wI X tg iter) g tt te ws σ H Q) (k : ∀ v H', Q v H' → Q' v H') : tLc (wI X tg iter) g tt te ws σ H Q' :=
  wI.mono h fun J H1 r D hD => by
    obtain ⟨W, w0, w⟩ := r D hD
    exact ⟨W, w0, fun i m H z => (w i m H z).imp (fun z => ⟨z.1, k _ _ z.2⟩) id⟩
theorem lc_none {tg iter : Expr} {g : TG} {tt : TT} {te : TE} {ws : List Nat} {Q : VK} {R : It → Hp → Prop} (h : wI X tg iter σ H R) (k : ∀ J H', R J H' → False) : tLc (wI X tg iter) g tt te ws σ H Q :=
  wI.mono h fun J H1 r => (k J H1 r).elim
theorem cW_mono {f : Value} {xs : List V} {Q Q' : VK} (h : cW X f xs H Q) (k : ∀ v H', Q v H' → Q' v H') : cW X f xs H Q' := fun pins s σ us I r => wpAny_mono (h pins s σ us I r) (fun v s z => by
    obtain ⟨x, H', I2, rv, q⟩ := z
    exact ⟨x, H', I2, rv, k _ _ q⟩) fun _ _ z => z
theorem rIsi_mono {xs : List V} {Q Q' : VK} (h : rIsi X.K xs H Q) (k : ∀ v H', Q v H' → Q' v H') : rIsi X.K xs H Q' := by
  obtain ⟨a, b, c, d, e, h1, h2, h3, h4, q⟩ := h
  exact ⟨a, b, c, d, e, h1, h2, h3, h4, k _ _ q⟩
theorem mR_mono {m : Me} {x : V} {xs : List V} {Q Q' : VK} (h : mR X m x xs H Q) (k : ∀ v H', Q v H' → Q' v H') : mR X m x xs H Q' := by
  cases m with
  | join =>
    obtain ⟨a, p, ys, h1, h2, h3, h4, q⟩ := h
    exact ⟨a, p, ys, h1, h2, h3, h4, k _ _ q⟩
  | split =>
    obtain ⟨a, b, h1, h2, h3, h4, q⟩ := h
    exact ⟨a, b, h1, h2, h3, h4, fun p hp => k _ _ (q p hp)⟩
  | index =>
    obtain ⟨a, b, i, r, h1, h2, h3, q⟩ := h
    exact ⟨a, b, i, r, h1, h2, h3, k _ _ q⟩
  | replace => exact h.elim
theorem rIndexD_mono {x : V} {xs : List V} {Q Q' : VK} (h : rIndexD X.K x xs H Q) (k : ∀ v H', Q v H' → Q' v H') : rIndexD X.K x xs H Q' := by
  obtain ⟨a, y, d, ds, j, z, h1, h2, h3, h4, h5, h6, h7, h8, h9, q⟩ := h
  exact ⟨a, y, d, ds, j, z, h1, h2, h3, h4, h5, h6, h7, h8, h9, k _ _ q⟩
theorem nox_ne {α : Type} {r : R α} {x : Ex} {e1 : Sl} : r.nox ≠ .exc x e1 := by
  cases r <;> exact fun h => nomatch h
theorem lcL_nox (body : D → Sl → R (Option D)) : ∀ (ds : List D) (e : Sl) (x : Ex) (e1 : Sl), lcL body ds e ≠ .exc x e1
  | [], e, x, e1 => fun h => nomatch h
  | d :: ds, e, x, e1 => by
    show ((body d e).nox.bind fun r e => (lcL body ds e).bind fun rs e => .ok (r.toList ++ rs) e) ≠ .exc x e1
    cases h : (body d e).nox with
    | exc y e2 => exact absurd h nox_ne
    | bad => exact fun h => nomatch h
    | ok r e2 =>
      show ((lcL body ds e2).bind fun rs e => .ok (r.toList ++ rs) e) ≠ .exc x e1
      cases h2 : lcL body ds e2 with
      | exc y e3 => exact absurd h2 (lcL_nox body ds e2 y e3)
      | bad => exact fun h => nomatch h
      | ok rs e3 => exact fun h => nomatch h
theorem lastM {op op' : CmpOp} {c : CE} {b x : Expr} {N : List Str} {sc : Scope} (h : mE T N fl sc c x = true) (hc : c ≠ .bad) : lastMarks [op, op'] [b, x] = false := nomark' op' h hc
abbrev OKE (X : Cx) (Cs : Cls) (hv : Nat → Nat → Option V) (Θ : Ow) (G H : Hp) (σ : L2.St) (Q : VK) : AV → Sl → Prop := fun av e' => ∀ v H', QE X.K Cs hv Θ G H σ av e' v H' → Q v H'
abbrev OKT (X : Cx) (Cs : Cls) (hv : Nat → Nat → Option V) (Θ : Ow) (G H : Hp) (σ : L2.St) (Q : Bool → Hp → Prop) : Bool → Sl → Prop := fun b e' => ∀ H', QT X.K Cs hv Θ G H σ b e' b H' → Q b H'
/-- one thing ahead of another -/
theorem seqE {β : Type} {r : R AV} {f : AV → Sl → R β} {ok : β → Sl → Prop} (st : Stp Θ G H Θ1 G1 H1) (h : ∀ Q, RQ (OKE X Cs hv Θ1 G1 H1 σ Q) (ExK X.K Cs Xs hv W Θ1 G1 H1 σ) r → wE X x σ H1 Q) (q : RQ ok (ExK X.K Cs Xs hv W Θ G H σ) (r.bind f)) :
    wE X x σ H1 (fun v H' => ∃ y e' G' Θ' U, Stp Θ1 G1 H1 Θ' G' H' ∧ Sts X.K Cs hv Θ' G' H' e' σ ∧ AVok X.K Cs Θ' H1 G' H' σ U y v ∧ (∀ p, U p → Θ' p = none ∧ H1 p = none ∧ ∃ u, H' p = some u) ∧ RQ ok (ExK X.K Cs Xs hv W Θ G H σ) (f y e')) :=
  h _ (q.bind.imp (fun a e q v H' ⟨G', Θ', U, z1, z2, z3, z4⟩ => ⟨a, e, G', Θ', U, z1, z2, z3, z4, q⟩) fun _ _ z => ExK.step st z)
theorem seqT {β : Type} {r : R Bool} {f : Bool → Sl → R β} {ok : β → Sl → Prop} (st : Stp Θ G H Θ1 G1 H1) (h : ∀ Q, RQ (OKT X Cs hv Θ1 G1 H1 σ Q) (ExK X.K Cs Xs hv W Θ1 G1 H1 σ) r → wT X x σ H1 Q) (q : RQ ok (ExK X.K Cs Xs hv W Θ G H σ) (r.bind f)) :
    wT X x σ H1 (fun c H' => ∃ e' G' Θ', Stp Θ1 G1 H1 Θ' G' H' ∧ Sts X.K Cs hv Θ' G' H' e' σ ∧ RQ ok (ExK X.K Cs Xs hv W Θ G H σ) (f c e')) :=
  h _ (q.bind.imp (fun a e q H' ⟨_, G', Θ', z1, z2⟩ => ⟨e, G', Θ', z1, z2, q⟩) fun _ _ z => ExK.step st z)
theorem RQ.bind' {α β : Type} {ok : β → Sl → Prop} {ex : Ex → Sl → Prop} {r : R α} {f : α → Sl → R β} (h : RQ (fun a e => RQ ok ex (f a e)) ex r) : RQ ok ex (r.bind f) := by
  cases r <;> exact h
/-- an operand whose attribute is out of sight meanwhile -/
theorem seqH {β : Type} {x1 : AV} {v1 : V} {U1 : Addr → Prop} {F : Sl → R AV} {f : AV → Sl → R β} {ok : β → Sl → Prop} (st : Stp Θ G H Θ1 G1 H1) (s1 : Sts X.K Cs hv Θ1 G1 H1 e1 σ) (k1 : AVok X.K Cs Θ1 H G1 H1 σ U1 x1 v1)
    (h : ∀ hv2 Θ2 e2, Sts X.K Cs hv2 Θ2 G1 H1 e2 σ → ∀ Q, RQ (OKE X Cs hv2 Θ2 G1 H1 σ Q) (ExK X.K Cs Xs hv2 W Θ2 G1 H1 σ) (F e2) → wE X x σ H1 Q) (q : RQ ok (ExK X.K Cs Xs hv W Θ G H σ) ((hidB x1 e1 F).bind f)) :
    wE X x σ H1 (fun v H' => ∃ y e' G' Θ' U, Stp Θ1 G1 H1 Θ' G' H' ∧ Sts X.K Cs hv Θ' G' H' e' σ ∧ AVok X.K Cs Θ' H G' H' σ U1 x1 v1 ∧ AVok X.K Cs Θ' H1 G' H' σ U y v ∧ (∀ p, U p → Θ' p = none ∧ H1 p = none ∧ ∃ u, H' p = some u) ∧ RQ ok (ExK X.K Cs Xs hv W Θ G H σ) (f y e')) := by
  have plain : x1.isPf = false → hidB x1 e1 F = F e1 → wE X x σ H1 (fun v H' => ∃ y e' G' Θ' U, Stp Θ1 G1 H1 Θ' G' H' ∧ Sts X.K Cs hv Θ' G' H' e' σ ∧ AVok X.K Cs Θ' H G' H' σ U1 x1 v1 ∧ AVok X.K Cs Θ' H1 G' H' σ U y v ∧ (∀ p, U p → Θ' p = none ∧ H1 p = none ∧ ∃ u, H' p = some u) ∧ RQ ok (ExK X.K Cs Xs hv W Θ G H σ) (f y e')) := fun hn he => by
    rw [he] at q
    refine (seqE st (h hv Θ1 e1 s1) q).mono fun v H' z => ?_
    obtain ⟨y, e', G', Θ', U, z1, z2, z3, z4, z5⟩ := z
    exact ⟨y, e', G', Θ', U, z1, z2, k1.mono z1 hn, z3, z4, z5⟩
  cases x1 with
  | pl i => exact plain rfl rfl
  | tm o => exact plain rfl rfl
  | pf i c k =>
    have q : RQ ok (ExK X.K Cs Xs hv W Θ G H σ) ((match hide (.pf i c k) e1 with
      | some e2 => match F e2 with
        | .ok y e3 => match unhide (.pf i c k) e1 e3 with
          | some e4 => R.ok y e4
          | none => .bad
        | _ => .bad
      | none => .bad).bind f) := q
    cases qh : hide (.pf i c k) e1 with
    | none =>
      rw [qh] at q
      exact q.elim
    | some e2 =>
      rw [qh] at q
      have q : RQ ok (ExK X.K Cs Xs hv W Θ G H σ) ((match F e2 with
        | .ok y e3 => match unhide (.pf i c k) e1 e3 with
          | some e4 => R.ok y e4
          | none => .bad
        | _ => .bad).bind f) := q
      cases qf : F e2 with
      | exc y e3 =>
        rw [qf] at q
        exact q.elim
      | bad =>
        rw [qf] at q
        exact q.elim
      | ok y e3 =>
        rw [qf] at q
        have q : RQ ok (ExK X.K Cs Xs hv W Θ G H σ) ((match unhide (.pf i c k) e1 e3 with
          | some e4 => R.ok y e4
          | none => .bad).bind f) := q
        cases qu : unhide (.pf i c k) e1 e3 with
        | none =>
          rw [qu] at q
          exact q.elim
        | some e4 =>
          rw [qu] at q
          have q : RQ ok (ExK X.K Cs Xs hv W Θ G H σ) (f y e4) := q
          have s2 := hide_ok s1 k1 qh
          refine h _ _ e2 s2 _ ?_
          rw [qf]
          intro v H' z
          obtain ⟨G', Θ', U, z1, z2, z3, z4⟩ := z
          obtain ⟨u1, u2, u3, u4⟩ := unhide_ok s1 k1 z1 z2 qu
          refine ⟨y, e4, G', _, U, u1, u2, u4, ?_, fun p hp => ?_, q⟩
          · cases y with
            | pl j => exact z3
            | pf j c' m => exact z3
            | tm o =>
              obtain ⟨τ, r1, r2⟩ := z3
              exact ⟨τ, r1, fun p m w => ⟨(r2 p m w).1, u3 p (r2 p m w).2.1 (r2 p m w).2.2.1, (r2 p m w).2.2⟩⟩
          · obtain ⟨w1, w2, w3⟩ := z4 p hp
            exact ⟨u3 p w1 w2, w2, w3⟩
theorem boolOk {ok : Bool → Sl → Prop} {ex : Ex → Sl → Prop} {x1 : AV} (h : RQ ok ex (match x1.dat e with | some (.bool b) => R.ok b e | _ => R.bad)) : ∃ b, x1.dat e = some (.bool b) ∧ ok b e := by
  split at h
  · exact ⟨_, by assumption, h⟩
  · exact h.elim
theorem fallT {r : R AV} (he : ∀ whole, isTrue x X.env whole = (do let v ← whole; standAt x.pos; holding [v] (truthy v))) (h : ∀ Q, RQ (OKE X Cs hv Θ G H σ Q) (ExK X.K Cs Xs hv W Θ G H σ) r → wE X x σ H Q) :
    ∀ Q, RQ (OKT X Cs hv Θ G H σ Q) (ExK X.K Cs Xs hv W Θ G H σ) (testV r) → wT X x σ H Q := fun Q q => by
  refine wT.by (pt_val pe_w he) ?_
  refine (seqE Stp.refl h q).mono fun v H' z => ?_
  obtain ⟨y, e', G', Θ', U, z1, z2, z3, z4, z5⟩ := z
  obtain ⟨b, hb, z6⟩ := boolOk z5
  exact ⟨b, rp_bl (z3.rp z2 hb), z6 H' ⟨rfl, G', Θ', z1, z2⟩⟩
theorem QE.bool {K : PySem.W.Frag} (h : QE K Cs hv Θ G H σ (.tm (.d (.bool b))) e' v H') : v = .bl b ∧ QT K Cs hv Θ G H σ b e' b H' := by
  obtain ⟨G', Θ', U, st, s, r, _⟩ := h
  exact ⟨rp_bl (r.rp s rfl), rfl, G', Θ', st, s⟩
theorem QE.trans {K : PySem.W.Frag} (st : Stp Θ G H Θ1 G1 H1) (s : Sts K Cs hv Θ1 G1 H1 e σ) (h : QE K Cs hv Θ1 G1 H1 σ av e' v H') : QE K Cs hv Θ G H σ av e' v H' := by
  obtain ⟨G2, Θ2, U, st2, s2, k, u⟩ := h
  exact ⟨G2, Θ2, U, st.trans st2, s2, k.old fun _ z => st.back s z, fun p hp => ⟨(u p hp).1, st.back s (u p hp).2.1, (u p hp).2.2⟩⟩
theorem QT.trans {K : PySem.W.Frag} {c : Bool} (st : Stp Θ G H Θ1 G1 H1) (h : QT K Cs hv Θ1 G1 H1 σ b e' c H') : QT K Cs hv Θ G H σ b e' c H' := by
  obtain ⟨e, G2, Θ2, st2, s2⟩ := h
  exact ⟨e, G2, Θ2, st.trans st2, s2⟩
theorem RQ.later {r : R AV} {Q : VK} (st : Stp Θ G H Θ1 G1 H1) (s : Sts X.K Cs hv Θ1 G1 H1 e σ) (q : RQ (OKE X Cs hv Θ G H σ Q) (ExK X.K Cs Xs hv W Θ G H σ) r) : RQ (OKE X Cs hv Θ1 G1 H1 σ Q) (ExK X.K Cs Xs hv W Θ1 G1 H1 σ) r :=
  q.imp (fun a e z v H' w => z v H' (w.trans st s)) fun x e z => ExK.step st z
theorem RQ.laterT {r : R Bool} {Q : Bool → Hp → Prop} (st : Stp Θ G H Θ1 G1 H1) (q : RQ (OKT X Cs hv Θ G H σ Q) (ExK X.K Cs Xs hv W Θ G H σ) r) : RQ (OKT X Cs hv Θ1 G1 H1 σ Q) (ExK X.K Cs Xs hv W Θ1 G1 H1 σ) r :=
  q.imp (fun a e z H' w => z H' (w.trans st)) fun x e z => ExK.step st z
theorem retQ {α β : Type} {o : Option α} {g : α → Sl → R β} {ok : β → Sl → Prop} {ex : Ex → Sl → Prop} (q : RQ ok ex ((R.of o e).bind g)) : ∃ z, o = some z ∧ RQ ok ex (g z e) := by
  cases o with
  | none => exact q.elim
  | some z => exact ⟨z, rfl, q⟩
mutual
theorem sE : ∀ (c : CE) {fl : Option Scope} {W : WX} {X : Cx} {x : Expr} (C : Ctx T code Dp n fl W X) (hm : mE T X.N fl X.env.scope c x = true) {hv : Nat → Nat → Option V} {Θ : Ow} {G H : Hp} {e : Sl} {σ : L2.St}, Sts X.K Dp.cs hv Θ G H e σ →
    (∀ Q : VK, RQ (OKE X Dp.cs hv Θ G H σ Q) (ExK X.K Dp.cs Dp.xs hv W Θ G H σ) (evE T.gc (run T.gc code n) c e) → wE X x σ H Q) ∧
    (∀ Q : Bool → Hp → Prop, RQ (OKT X Dp.cs hv Θ G H σ Q) (ExK X.K Dp.cs Dp.xs hv W Θ G H σ) (testV (evE T.gc (run T.gc code n) c e)) → wT X x σ H Q)
  | .non, fl, W, X, x, C, hm, hv, Θ, G, H, e, σ, s => by
    obtain ⟨k, pos, rfl⟩ := m_non hm
    have hE : ∀ Q : VK, RQ (OKE X Dp.cs hv Θ G H σ Q) (ExK X.K Dp.cs Dp.xs hv W Θ G H σ) (evE T.gc (run T.gc code n) .non e) → wE X (.Constant .none k pos) σ H Q := fun Q q => wE.by pe_non (q _ _ (QE.dat Stp.refl s .non))
    exact ⟨hE, fallT (fun _ => rfl) hE⟩
  | .bl c, fl, W, X, x, C, hm, hv, Θ, G, H, e, σ, s => by
    obtain ⟨k, pos, rfl⟩ := m_bl hm
    have hE : ∀ Q : VK, RQ (OKE X Dp.cs hv Θ G H σ Q) (ExK X.K Dp.cs Dp.xs hv W Θ G H σ) (evE T.gc (run T.gc code n) (.bl c) e) → wE X (.Constant (.bool c) k pos) σ H Q := fun Q q => wE.by pe_bl (q _ _ (QE.dat Stp.refl s (.bl _)))
    exact ⟨hE, fallT (fun _ => rfl) hE⟩
  | .int c, fl, W, X, x, C, hm, hv, Θ, G, H, e, σ, s => by
    obtain ⟨k, pos, rfl⟩ := m_int hm
    have hE : ∀ Q : VK, RQ (OKE X Dp.cs hv Θ G H σ Q) (ExK X.K Dp.cs Dp.xs hv W Θ G H σ) (evE T.gc (run T.gc code n) (.int c) e) → wE X (.Constant (.int c) k pos) σ H Q := fun Q q => wE.by pe_int (q _ _ (QE.dat Stp.refl s (.int _)))
    exact ⟨hE, fallT (fun _ => rfl) hE⟩
  | .str c, fl, W, X, x, C, hm, hv, Θ, G, H, e, σ, s => by
    obtain ⟨k, pos, rfl⟩ := m_str hm
    have hE : ∀ Q : VK, RQ (OKE X Dp.cs hv Θ G H σ Q) (ExK X.K Dp.cs Dp.xs hv W Θ G H σ) (evE T.gc (run T.gc code n) (.str c) e) → wE X (.Constant (.str c) k pos) σ H Q := fun Q q => wE.by pe_str (q _ _ (QE.dat Stp.refl s (.str _)))
    exact ⟨hE, fallT (fun _ => rfl) hE⟩
  | .v i, fl, W, X, x, C, hm, hv, Θ, G, H, e, σ, s => by
    obtain ⟨y, pos, rfl, m1, m2, m3⟩ := m_v hm
    have hE : ∀ Q : VK, RQ (OKE X Dp.cs hv Θ G H σ Q) (ExK X.K Dp.cs Dp.xs hv W Θ G H σ) (evE T.gc (run T.gc code n) (.v i) e) → wE X (.Name y pos) σ H Q := fun Q q => by
      have q : RQ _ _ (match (e[i]?).join with | some _ => R.ok (AV.pl i) e | none => .bad) := q
      cases w : (e[i]?).join with
      | none =>
        rw [w] at q
        exact q.elim
      | some o =>
        rw [w] at q
        obtain ⟨v, k1, k2⟩ := s.sl i o w
        obtain ⟨p1, p2, _⟩ := plain_of m3
        exact wE.by (pe_var (slot_of m1) (vis_of m2) p1 p2) ⟨v, k1, q v H ⟨G, Θ, fun _ => False, Stp.refl, s, k1, fun _ z => z.elim⟩⟩
    exact ⟨hE, fallT (fun _ => rfl) hE⟩
  | .fld i cc k, fl, W, X, x, C, hm, hv, Θ, G, H, e, σ, s => by
    obtain ⟨y, p, f, pos, l, rfl, m1, m2, m3, m4, m5⟩ := m_fld hm
    have hE : ∀ Q : VK, RQ (OKE X Dp.cs hv Θ G H σ Q) (ExK X.K Dp.cs Dp.xs hv W Θ G H σ) (evE T.gc (run T.gc code n) (.fld i cc k) e) → wE X (.Attribute (.Name y p) f pos) σ H Q := fun Q q => by
      have q : RQ (OKE X Dp.cs hv Θ G H σ Q) (ExK X.K Dp.cs Dp.xs hv W Θ G H σ) (match (e[i]?).join with
        | some (.ob c' fs) => if c' = cc then match fs[k]? with
            | some (.d x) => .ok (.tm (.d x)) e
            | some (.ol _) => .ok (.pf i cc k) e
            | some (.od _) => .ok (.pf i cc k) e
            | _ => .bad
          else .bad
        | _ => .bad) := q
      cases w : (e[i]?).join with
      | none =>
        rw [w] at q
        exact q.elim
      | some o =>
        rw [w] at q
        rcases o with x | xs | xs | ⟨c', fs⟩ | _ | _ <;> try (exact False.elim q)
        have q : RQ (OKE X Dp.cs hv Θ G H σ Q) (ExK X.K Dp.cs Dp.xs hv W Θ G H σ) (if c' = cc then match fs[k]? with
            | some (.d x) => .ok (.tm (.d x)) e
            | some (.ol _) => .ok (.pf i cc k) e
            | some (.od _) => .ok (.pf i cc k) e
            | _ => .bad
          else .bad) := q
        by_cases hcc : c' = cc
        · rw [if_pos hcc] at q
          subst hcc
          obtain ⟨a, dx, Cl, nms, nvs, f1, O⟩ := s.obj w
          obtain ⟨Cl2, g1, g2, g3, _⟩ := C.pg.cl c' l m4
          have e1 := O.cs
          rw [g1] at e1
          cases e1
          obtain ⟨p1, p2, _⟩ := plain_of m3
          have base : ∀ v, nvs.lookup f = some v → Q v H → wE X (.Attribute (.Name y p) f pos) σ H Q := fun v h1 h2 => wE.by (pe_fld (pe_var (slot_of m1) (vis_of m2) p1 p2) rfl) ⟨.ref a, f1, a, Cl, dx, nvs, v, rfl, O.ha, g2, g3 f (List.mem_of_getElem? m5), h1, h2⟩
          cases qk : fs[k]? with
          | none =>
            rw [qk] at q
            exact q.elim
          | some o =>
            rw [qk] at q
            have fr := O.fl k f o m5 qk
            rcases o with x | xs | xs | ⟨c2, fs2⟩ | _ | _ <;> try (exact False.elim q)
            · obtain ⟨v, h1, h2⟩ := fr
              exact base v h1 (q v H (QE.dat Stp.refl s h2))
            · obtain ⟨v, h1, h2⟩ := fr
              exact base v h1 (q v H ⟨G, Θ, fun _ => False, Stp.refl, s, ⟨a, Cl, dx, nvs, l, f, f1, O.ha, g1, m5, h1⟩, fun _ z => z.elim⟩)
            · obtain ⟨v, h1, h2⟩ := fr
              exact base v h1 (q v H ⟨G, Θ, fun _ => False, Stp.refl, s, ⟨a, Cl, dx, nvs, l, f, f1, O.ha, g1, m5, h1⟩, fun _ z => z.elim⟩)
        · rw [if_neg hcc] at q
          exact q.elim
    exact ⟨hE, fallT (fun _ => rfl) hE⟩
  | .gl k, fl, W, X, x, C, hm, hv, Θ, G, H, e, σ, s => by
    obtain ⟨y, pos, d, rfl, m1, m2, m3⟩ := m_gl hm
    have hE : ∀ Q : VK, RQ (OKE X Dp.cs hv Θ G H σ Q) (ExK X.K Dp.cs Dp.xs hv W Θ G H σ) (evE T.gc (run T.gc code n) (.gl k) e) → wE X (.Name y pos) σ H Q := fun Q q => by
      have q : RQ (OKE X Dp.cs hv Θ G H σ Q) (ExK X.K Dp.cs Dp.xs hv W Θ G H σ) (match T.gc[k]? with | some p => R.ok (AV.tm (.d p.2)) e | none => .bad) := q
      rw [m1] at q
      obtain ⟨u, v, g1, g2, g3⟩ := C.pg.gc k _ m1
      exact wE.by (pe_glob (gl_of m2) g1 g2 (plain_of m3).1) (q _ _ (QE.dat Stp.refl s (g3 G)))
    exact ⟨hE, fallT (fun _ => rfl) hE⟩
  | .bin o a c, fl, W, X, x, C, hm, hv, Θ, G, H, e, σ, s => by
    obtain ⟨l, op, r, pos, rfl, hb, m1, m2⟩ := m_bin hm
    have hE : ∀ Q : VK, RQ (OKE X Dp.cs hv Θ G H σ Q) (ExK X.K Dp.cs Dp.xs hv W Θ G H σ) (evE T.gc (run T.gc code n) (.bin o a c) e) → wE X (.BinOp l op r pos) σ H Q := fun Q q => by
      refine wE.by (pe_op opr_w pe_w pe_w) ?_
      refine (seqE Stp.refl (sE a C m1 s).1 q).mono fun v1 H1 z1 => ?_
      obtain ⟨x1, e1, G1, Θ1, U1, st1, s1, k1, u1, q1⟩ := z1
      refine (seqH st1 s1 k1 (fun hv2 Θ2 e2 s2 => (sE c C m2 s2).1) q1).mono fun v2 H2 z2 => ?_
      obtain ⟨y1, e2, G2, Θ2, U2, st2, s2, k1, k2, u2, q2⟩ := z2
      obtain ⟨p, p', hp, hq, q3⟩ := RQ.dat2 q2
      obtain ⟨z, h3, q4⟩ := retQ q3
      exact (bin_rd (st1.trans st2) s2 k1 (k2.old fun _ z => st1.back s1 z) hp hq hb h3).mono q4
    exact ⟨hE, fallT (fun _ => rfl) hE⟩
  | .neg a, fl, W, X, x, C, hm, hv, Θ, G, H, e, σ, s => by
    obtain ⟨l, pos, rfl, m1⟩ := m_neg hm
    have hE : ∀ Q : VK, RQ (OKE X Dp.cs hv Θ G H σ Q) (ExK X.K Dp.cs Dp.xs hv W Θ G H σ) (evE T.gc (run T.gc code n) (.neg a) e) → wE X (.UnaryOp .USub l pos) σ H Q := fun Q q => by
      refine wE.by (pe_un un_neg pe_w) ?_
      refine (seqE Stp.refl (sE a C m1 s).1 q).mono fun v1 H1 z1 => ?_
      obtain ⟨x1, e1, G1, Θ1, U1, st1, s1, k1, u1, q1⟩ := z1
      split at q1
      · rename_i i hp
        exact ⟨i, rp_int (k1.rp s1 hp), q1 _ _ (QE.dat st1 s1 (.int _))⟩
      · exact q1.elim
    exact ⟨hE, fallT (fun _ => rfl) hE⟩
  | .cmp o a c, fl, W, X, x, C, hm, hv, Θ, G, H, e, σ, s => by
    obtain ⟨l, op, r, pos, rfl, hb, m1, nb2, m2⟩ := m_cmp hm
    have key : ∀ {β : Type} {g : AV → Sl → R β} {ok : β → Sl → Prop} (Q : VK), RQ ok (ExK X.K Dp.cs Dp.xs hv W Θ G H σ) ((evE T.gc (run T.gc code n) (.cmp o a c) e).bind g) → (∀ z e' v H', QE X.K Dp.cs hv Θ G H σ (.tm (.d (.bool z))) e' v H' → RQ ok (ExK X.K Dp.cs Dp.xs hv W Θ G H σ) (g (.tm (.d (.bool z))) e') → Q v H') → tOp (rW X (compareOp op)) (wE X l) (wE X r) σ H Q := fun {β g ok} Q q hQ => by
      have q : RQ ok (ExK X.K Dp.cs Dp.xs hv W Θ G H σ) (((evE T.gc (run T.gc code n) a e).bind fun x e => R.set x e fun x e => (evE T.gc (run T.gc code n) c e).bind fun y e => match x.dat e, y.dat e with
        | some p, some q => (R.of (cmpD o p q) e).bind fun r e => .ok (.tm (.d (.bool r))) e
        | _, _ => .bad).bind g) := q
      refine (seqE Stp.refl (sE a C m1 s).1 q.bind).mono fun v1 H1 z1 => ?_
      obtain ⟨x1, e1, G1, Θ1, U1, st1, s1, k1, u1, q1⟩ := z1
      obtain ⟨x2, e2, hs, q2⟩ := RQ.set q1
      obtain ⟨G2, f2, s2, k2, n2⟩ := settle_ok s1 k1 hs
      have st2 := f2.stp st1 (fun _ z => z.elim)
      refine (seqE st2 (sE c C m2 s2).1 q2).mono fun v2 H2 z2 => ?_
      obtain ⟨y1, e3, G3, Θ3, U3, st3, s3, k3, u3, q3⟩ := z2
      obtain ⟨p, p', hp, hq, q4⟩ := RQ.dat2 q3
      obtain ⟨z, h3, q5⟩ := retQ q4
      exact (cmp_rd C.u (st2.trans st3) s3 (k2.mono st3 n2) (k3.old fun _ z => st2.back s2 z) hp hq hb h3).mono fun v H' w => hQ z e3 v H' w q5
    refine ⟨fun Q q => ?_, fun Q q => ?_⟩
    · refine wE.by (pe_cmpR opr_w pe_w pe_w (nomark' op m2 nb2)) (key (g := fun a e => R.ok a e) (ok := OKE X Dp.cs hv Θ G H σ Q) Q (RQ.bind' (q.imp (fun _ _ z => z) fun _ _ z => z)) fun z e' v H' w q => q v H' w)
    · exact wT.by (pt_cmpR opr_w pe_w pe_w (nomark' op m2 nb2)) (key _ q fun z e' v H' w q => ⟨z, w.bool.1, q H' w.bool.2⟩)
  | .chn o o' a c c3, fl, W, X, x, C, hm, hv, Θ, G, H, e, σ, s => by
    obtain ⟨l, op, op', m, r, pos, rfl, hb, hb', m1, m2, nb3, m3⟩ := m_chn hm
    have key : ∀ {β : Type} {g : AV → Sl → R β} {ok : β → Sl → Prop} (Q : VK), RQ ok (ExK X.K Dp.cs Dp.xs hv W Θ G H σ) ((evE T.gc (run T.gc code n) (.chn o o' a c c3) e).bind g) → (∀ z e' v H', QE X.K Dp.cs hv Θ G H σ (.tm (.d (.bool z))) e' v H' → RQ ok (ExK X.K Dp.cs Dp.xs hv W Θ G H σ) (g (.tm (.d (.bool z))) e') → Q v H') → tChain (rW X (compareOp op)) (rW X (compareOp op')) (wE X l) (wE X m) (wE X r) σ H Q := fun {β g ok} Q q hQ => by
      have q : RQ ok (ExK X.K Dp.cs Dp.xs hv W Θ G H σ) (((evE T.gc (run T.gc code n) a e).bind fun x e => R.set x e fun x e => (evE T.gc (run T.gc code n) c e).bind fun y e => R.set y e fun y e => match x.dat e, y.dat e with
        | some p, some q => (R.of (cmpD o p q) e).bind fun r e => if r then (evE T.gc (run T.gc code n) c3 e).bind fun z e => match y.dat e, z.dat e with
            | some q, some u => (R.of (cmpD o' q u) e).bind fun r e => .ok (.tm (.d (.bool r))) e
            | _, _ => .bad
          else .ok (.tm (.d (.bool false))) e
        | _, _ => .bad).bind g) := q
      refine (seqE Stp.refl (sE a C m1 s).1 q.bind).mono fun v1 H1 z1 => ?_
      obtain ⟨x1, e1, G1, Θ1, U1, st1, s1, k1, u1, q1⟩ := z1
      obtain ⟨x2, e2, hs, q2⟩ := RQ.set q1
      obtain ⟨G2, f2, s2, k2, n2⟩ := settle_ok s1 k1 hs
      have st2 := f2.stp st1 (fun _ z => z.elim)
      refine (seqE st2 (sE c C m2 s2).1 q2).mono fun v2 H2 z2 => ?_
      obtain ⟨y1, e3, G3, Θ3, U3, st3, s3, k3, u3, q3⟩ := z2
      obtain ⟨y2, e4, hs2, q3⟩ := RQ.set q3
      obtain ⟨G4, f4, s4, k4, n4⟩ := settle_ok s3 k3 hs2
      have st4 := f4.stp st3 (fun _ z => z.elim)
      have stA := st2.trans st4
      have k2' := k2.mono st4 n2
      have k4' := k4.old (H0 := H) fun _ z => st2.back s2 z
      obtain ⟨p, p', hp, hq, q4⟩ := RQ.dat2 q3
      obtain ⟨z, h3, q5⟩ := retQ q4
      refine (cmp_rd (Hk := H) C.u (Stp.refl (Θ := Θ3) (G := G4) (H := H2)) s4 k2' k4' hp hq hb h3).mono fun w H3 z3 => ?_
      refine ⟨z, z3.bool.1, ?_⟩
      obtain ⟨G5, Θ5, U5, st5, s5, k5, u5⟩ := z3
      have hw := rp_bl (k5.rp s5 rfl)
      cases z with
      | false =>
        subst hw
        exact hQ false e4 _ _ (QE.dat (stA.trans st5) s5 (.bl _)) q5
      | true =>
        have q5 : RQ (fun a e => RQ ok (ExK X.K Dp.cs Dp.xs hv W Θ G H σ) (g a e)) (ExK X.K Dp.cs Dp.xs hv W Θ G H σ) ((evE T.gc (run T.gc code n) c3 e4).bind fun z e => match y2.dat e, z.dat e with
            | some q, some u => (R.of (cmpD o' q u) e).bind fun r e => .ok (.tm (.d (.bool r))) e
            | _, _ => .bad) := q5
        have stB := stA.trans st5
        refine iteT ((seqE stB (sE c3 C m3 s5).1 q5).mono fun v4 H4 z4 => ?_)
        obtain ⟨z1, e6, G6, Θ6, U6, st6, s6, k6, u6, q6⟩ := z4
        obtain ⟨p2, p3, hp2, hq2, q7⟩ := RQ.dat2 q6
        obtain ⟨z, h7, q8⟩ := retQ q7
        exact (cmp_rd (Hk := H) C.u (stB.trans st6) s6 ((k4'.mono st5 n4).mono st6 n4) (k6.old fun _ z => stB.back s5 z) hp2 hq2 hb' h7).mono fun v H' w => hQ z e6 v H' w q8
    refine ⟨fun Q q => ?_, fun Q q => ?_⟩
    · refine wE.by (pe_chain opr_w opr_w pe_w pe_w pe_w (lastM m3 nb3)) (key (g := fun a e => R.ok a e) (ok := OKE X Dp.cs hv Θ G H σ Q) Q (RQ.bind' (q.imp (fun _ _ z => z) fun _ _ z => z)) fun z e' v H' w q => q v H' w)
    · exact wT.by (pt_chain opr_w opr_w pe_w pe_w pe_w (lastM m3 nb3)) (key _ q fun z e' v H' w q => ⟨z, w.bool.1, q H' w.bool.2⟩)
  | .isN a, fl, W, X, x, C, hm, hv, Θ, G, H, e, σ, s => by
    obtain ⟨l, k0, p0, pos, rfl, m1⟩ := m_isN hm
    have key : ∀ {β : Type} {g : AV → Sl → R β} {ok : β → Sl → Prop} (Q : VK), RQ ok (ExK X.K Dp.cs Dp.xs hv W Θ G H σ) ((evE T.gc (run T.gc code n) (.isN a) e).bind g) → (∀ z e' v H', QE X.K Dp.cs hv Θ G H σ (.tm (.d (.bool z))) e' v H' → RQ ok (ExK X.K Dp.cs Dp.xs hv W Θ G H σ) (g (.tm (.d (.bool z))) e') → Q v H') → tIsN (wE X l) σ H Q := fun {β g ok} Q q hQ => by
      have q : RQ ok (ExK X.K Dp.cs Dp.xs hv W Θ G H σ) (((evE T.gc (run T.gc code n) a e).bind fun x e => match x.dat e with
        | some p => R.ok (AV.tm (O.d (PyData.bool (isNoneD p)))) e
        | none => R.bad).bind g) := q
      refine (seqE Stp.refl (sE a C m1 s).1 q.bind).mono fun v1 H1 z1 => ?_
      obtain ⟨x1, e1, G1, Θ1, U1, st1, s1, k1, u1, q1⟩ := z1
      obtain ⟨p, hp, q2⟩ := RQ.dat1 q1
      rw [isnone_v (k1.rp s1 hp)]
      exact hQ _ _ _ _ (QE.dat st1 s1 (.bl _)) q2
    refine ⟨fun Q q => ?_, fun Q q => ?_⟩
    · refine wE.by (pe_cmp (pc_isN pe_w)) (key (g := fun a e => R.ok a e) (ok := OKE X Dp.cs hv Θ G H σ Q) Q (RQ.bind' (q.imp (fun _ _ z => z) fun _ _ z => z)) fun z e' v H' w q => q v H' w)
    · exact wT.by (pt_cmp (pc_isN pe_w)) (key _ q fun z e' v H' w q => ⟨z, w.bool.1, q H' w.bool.2⟩)
  | .notN a, fl, W, X, x, C, hm, hv, Θ, G, H, e, σ, s => by
    obtain ⟨l, k0, p0, pos, rfl, m1⟩ := m_notN hm
    have key : ∀ {β : Type} {g : AV → Sl → R β} {ok : β → Sl → Prop} (Q : VK), RQ ok (ExK X.K Dp.cs Dp.xs hv W Θ G H σ) ((evE T.gc (run T.gc code n) (.notN a) e).bind g) → (∀ z e' v H', QE X.K Dp.cs hv Θ G H σ (.tm (.d (.bool z))) e' v H' → RQ ok (ExK X.K Dp.cs Dp.xs hv W Θ G H σ) (g (.tm (.d (.bool z))) e') → Q v H') → tNotN (wE X l) σ H Q := fun {β g ok} Q q hQ => by
      have q : RQ ok (ExK X.K Dp.cs Dp.xs hv W Θ G H σ) (((evE T.gc (run T.gc code n) a e).bind fun x e => match x.dat e with
        | some p => R.ok (AV.tm (O.d (PyData.bool (!isNoneD p)))) e
        | none => R.bad).bind g) := q
      refine (seqE Stp.refl (sE a C m1 s).1 q.bind).mono fun v1 H1 z1 => ?_
      obtain ⟨x1, e1, G1, Θ1, U1, st1, s1, k1, u1, q1⟩ := z1
      obtain ⟨p, hp, q2⟩ := RQ.dat1 q1
      rw [isnone_v (k1.rp s1 hp)]
      exact hQ _ _ _ _ (QE.dat st1 s1 (.bl _)) q2
    refine ⟨fun Q q => ?_, fun Q q => ?_⟩
    · refine wE.by (pe_cmp (pc_notN pe_w)) (key (g := fun a e => R.ok a e) (ok := OKE X Dp.cs hv Θ G H σ Q) Q (RQ.bind' (q.imp (fun _ _ z => z) fun _ _ z => z)) fun z e' v H' w q => q v H' w)
    · exact wT.by (pt_cmp (pc_notN pe_w)) (key _ q fun z e' v H' w q => ⟨z, w.bool.1, q H' w.bool.2⟩)
  | .isB a bb, fl, W, X, x, C, hm, hv, Θ, G, H, e, σ, s => by
    obtain ⟨l, k0, p0, pos, rfl, m1⟩ := m_isB hm
    have key : ∀ {β : Type} {g : AV → Sl → R β} {ok : β → Sl → Prop} (Q : VK), RQ ok (ExK X.K Dp.cs Dp.xs hv W Θ G H σ) ((evE T.gc (run T.gc code n) (.isB a bb) e).bind g) → (∀ z e' v H', QE X.K Dp.cs hv Θ G H σ (.tm (.d (.bool z))) e' v H' → RQ ok (ExK X.K Dp.cs Dp.xs hv W Θ G H σ) (g (.tm (.d (.bool z))) e') → Q v H') → tOp (rIsBl bb) (wE X l) (tC (.bl bb)) σ H Q := fun {β g ok} Q q hQ => by
      have q : RQ ok (ExK X.K Dp.cs Dp.xs hv W Θ G H σ) (((evE T.gc (run T.gc code n) a e).bind fun x e => match x.dat e with
        | some p => R.ok (AV.tm (O.d (PyData.bool (isBoolD bb p)))) e
        | none => R.bad).bind g) := q
      refine (seqE Stp.refl (sE a C m1 s).1 q.bind).mono fun v1 H1 z1 => ?_
      obtain ⟨x1, e1, G1, Θ1, U1, st1, s1, k1, u1, q1⟩ := z1
      obtain ⟨p, hp, q2⟩ := RQ.dat1 q1
      refine ⟨rfl, ?_⟩
      rw [isbool_v (k1.rp s1 hp)]
      exact hQ _ _ _ _ (QE.dat st1 s1 (.bl _)) q2
    refine ⟨fun Q q => ?_, fun Q q => ?_⟩
    · refine wE.by (pe_cmpR op_isBv pe_w pe_bl (nomark _)) (key (g := fun a e => R.ok a e) (ok := OKE X Dp.cs hv Θ G H σ Q) Q (RQ.bind' (q.imp (fun _ _ z => z) fun _ _ z => z)) fun z e' v H' w q => q v H' w)
    · exact wT.by (pt_cmpR op_isBv pe_w pe_bl (nomark _)) (key _ q fun z e' v H' w q => ⟨z, w.bool.1, q H' w.bool.2⟩)
  | .and a c, fl, W, X, x, C, hm, hv, Θ, G, H, e, σ, s => by
    obtain ⟨p0, y0, r0, pos, rfl, m1, m2⟩ := m_and hm
    refine ⟨fun Q q => ?_, fun Q q => ?_⟩
    · have q : RQ (OKE X Dp.cs hv Θ G H σ Q) (ExK X.K Dp.cs Dp.xs hv W Θ G H σ) ((testV (evE T.gc (run T.gc code n) a e)).bind fun c' e => if c' then evE T.gc (run T.gc code n) c e else .ok (.tm (.d (.bool false))) e) := q
      refine wE.by (pe_and pe_w pe_tail) ?_
      refine (seqE Stp.refl (sE a C m1 s).1 q.bind).mono fun v1 H1 z1 => ?_
      obtain ⟨x1, e1, G1, Θ1, U1, st1, s1, k1, u1, q1⟩ := z1
      obtain ⟨k, hd, q2⟩ := boolOk q1
      refine ⟨k, rp_bl (k1.rp s1 hd), ?_⟩
      cases k with
      | true => exact iteT ((sE c C m2 s1).1 Q (RQ.later st1 s1 q2))
      | false =>
        have q2 : OKE X Dp.cs hv Θ G H σ Q (.tm (.d (.bool false))) e1 := q2
        exact iteF (q2 _ _ (QE.dat st1 s1 (.bl _)))
    · have q : RQ (OKT X Dp.cs hv Θ G H σ Q) (ExK X.K Dp.cs Dp.xs hv W Θ G H σ) (((testV (evE T.gc (run T.gc code n) a e)).bind fun c' e => if c' then evE T.gc (run T.gc code n) c e else .ok (.tm (.d (.bool false))) e).bind fun x e => match x.dat e with
        | some (.bool b) => .ok b e
        | _ => .bad) := q
      refine wT.by (PW.pt (pw_and pt_w pw_tailA)) ?_
      refine (seqT Stp.refl (sE a C m1 s).2 q.bind).mono fun v1 H1 z1 => ?_
      obtain ⟨e1, G1, Θ1, st1, s1, q1⟩ := z1
      cases v1 with
      | true => exact iteT ((sE c C m2 s1).2 Q (RQ.laterT st1 (RQ.bind' q1)))
      | false =>
        have q1 : OKT X Dp.cs hv Θ G H σ Q false e1 := q1
        exact iteF (q1 _ ⟨rfl, G1, Θ1, st1, s1⟩)
  | .or a c, fl, W, X, x, C, hm, hv, Θ, G, H, e, σ, s => by
    obtain ⟨p0, y0, r0, pos, rfl, m1, m2⟩ := m_or hm
    refine ⟨fun Q q => ?_, fun Q q => ?_⟩
    · have q : RQ (OKE X Dp.cs hv Θ G H σ Q) (ExK X.K Dp.cs Dp.xs hv W Θ G H σ) ((testV (evE T.gc (run T.gc code n) a e)).bind fun c' e => if c' then .ok (.tm (.d (.bool true))) e else evE T.gc (run T.gc code n) c e) := q
      refine wE.by (pe_or pe_w pe_tail) ?_
      refine (seqE Stp.refl (sE a C m1 s).1 q.bind).mono fun v1 H1 z1 => ?_
      obtain ⟨x1, e1, G1, Θ1, U1, st1, s1, k1, u1, q1⟩ := z1
      obtain ⟨k, hd, q2⟩ := boolOk q1
      refine ⟨k, rp_bl (k1.rp s1 hd), ?_⟩
      cases k with
      | false => exact iteF ((sE c C m2 s1).1 Q (RQ.later st1 s1 q2))
      | true =>
        have q2 : OKE X Dp.cs hv Θ G H σ Q (.tm (.d (.bool true))) e1 := q2
        exact iteT (q2 _ _ (QE.dat st1 s1 (.bl _)))
    · have q : RQ (OKT X Dp.cs hv Θ G H σ Q) (ExK X.K Dp.cs Dp.xs hv W Θ G H σ) (((testV (evE T.gc (run T.gc code n) a e)).bind fun c' e => if c' then .ok (.tm (.d (.bool true))) e else evE T.gc (run T.gc code n) c e).bind fun x e => match x.dat e with
        | some (.bool b) => .ok b e
        | _ => .bad) := q
      refine wT.by (PW.pt (pw_or pt_w pw_tailO)) ?_
      refine (seqT Stp.refl (sE a C m1 s).2 q.bind).mono fun v1 H1 z1 => ?_
      obtain ⟨e1, G1, Θ1, st1, s1, q1⟩ := z1
      cases v1 with
      | false => exact iteF ((sE c C m2 s1).2 Q (RQ.laterT st1 (RQ.bind' q1)))
      | true =>
        have q1 : OKT X Dp.cs hv Θ G H σ Q true e1 := q1
        exact iteT (q1 _ ⟨rfl, G1, Θ1, st1, s1⟩)
  | .not a, fl, W, X, x, C, hm, hv, Θ, G, H, e, σ, s => by
    obtain ⟨l, pos, rfl, m1⟩ := m_not hm
    refine ⟨fun Q q => ?_, fun Q q => ?_⟩
    · have q : RQ (OKE X Dp.cs hv Θ G H σ Q) (ExK X.K Dp.cs Dp.xs hv W Θ G H σ) ((testV (evE T.gc (run T.gc code n) a e)).bind fun c' e => R.ok (AV.tm (O.d (PyData.bool (!c')))) e) := q
      refine wE.by (pe_not pe_w) ?_
      refine (seqE Stp.refl (sE a C m1 s).1 q.bind).mono fun v1 H1 z1 => ?_
      obtain ⟨x1, e1, G1, Θ1, U1, st1, s1, k1, u1, q1⟩ := z1
      obtain ⟨k, hd, q2⟩ := boolOk q1
      have q2 : OKE X Dp.cs hv Θ G H σ Q (.tm (.d (.bool (!k)))) e1 := q2
      exact ⟨k, rp_bl (k1.rp s1 hd), q2 _ _ (QE.dat st1 s1 (.bl _))⟩
    · have q : RQ (OKT X Dp.cs hv Θ G H σ Q) (ExK X.K Dp.cs Dp.xs hv W Θ G H σ) (((testV (evE T.gc (run T.gc code n) a e)).bind fun c' e => R.ok (AV.tm (O.d (PyData.bool (!c')))) e).bind fun x e => match x.dat e with
        | some (.bool b) => .ok b e
        | _ => .bad) := q
      refine wT.by (pt_not pt_w) ?_
      refine (seqT Stp.refl (sE a C m1 s).2 q.bind).mono fun v1 H1 z1 => ?_
      obtain ⟨e1, G1, Θ1, st1, s1, q1⟩ := z1
      have q1 : OKT X Dp.cs hv Θ G H σ Q (!v1) e1 := q1
      exact q1 _ ⟨rfl, G1, Θ1, st1, s1⟩
  | .ifx t a c, fl, W, X, x, C, hm, hv, Θ, G, H, e, σ, s => by
    obtain ⟨t', a', b', pos, rfl, m0, m1, m2⟩ := m_ifx hm
    refine ⟨fun Q q => ?_, fun Q q => ?_⟩
    · have q : RQ (OKE X Dp.cs hv Θ G H σ Q) (ExK X.K Dp.cs Dp.xs hv W Θ G H σ) ((testV (evE T.gc (run T.gc code n) t e)).bind fun c' e => if c' then evE T.gc (run T.gc code n) a e else evE T.gc (run T.gc code n) c e) := q
      refine wE.by (pe_ifExp pt_w pe_w pe_w) ?_
      refine (seqT Stp.refl (sE t C m0 s).2 q).mono fun v1 H1 z1 => ?_
      obtain ⟨e1, G1, Θ1, st1, s1, q1⟩ := z1
      cases v1 with
      | true => exact iteT ((sE a C m1 s1).1 Q (RQ.later st1 s1 q1))
      | false => exact iteF ((sE c C m2 s1).1 Q (RQ.later st1 s1 q1))
    · have q : RQ (OKT X Dp.cs hv Θ G H σ Q) (ExK X.K Dp.cs Dp.xs hv W Θ G H σ) (((testV (evE T.gc (run T.gc code n) t e)).bind fun c' e => if c' then evE T.gc (run T.gc code n) a e else evE T.gc (run T.gc code n) c e).bind fun x e => match x.dat e with
        | some (.bool b) => .ok b e
        | _ => .bad) := q
      refine wT.by (pt_ifx pt_w pt_w pt_w) ?_
      refine (seqT Stp.refl (sE t C m0 s).2 q.bind).mono fun v1 H1 z1 => ?_
      obtain ⟨e1, G1, Θ1, st1, s1, q1⟩ := z1
      cases v1 with
      | true => exact iteT ((sE a C m1 s1).2 Q (RQ.laterT st1 (RQ.bind' q1)))
      | false => exact iteF ((sE c C m2 s1).2 Q (RQ.laterT st1 (RQ.bind' q1)))
  | .tup es, fl, W, X, x, C, hm, hv, Θ, G, H, e, σ, s => by
    obtain ⟨xs, k0, pos, rfl, hl, m1⟩ := m_tup hm
    have hE : ∀ Q : VK, RQ (OKE X Dp.cs hv Θ G H σ Q) (ExK X.K Dp.cs Dp.xs hv W Θ G H σ) (evE T.gc (run T.gc code n) (.tup es) e) → wE X (.Tuple xs k0 pos) σ H Q := fun Q q => by
      refine wE.by (pe_tup pa_t) ?_
      refine (sEs es C m1 s _ (RQ.bind q)).mono fun vs H1 z1 => ?_
      obtain ⟨avs, e1, ⟨G1, Θ1, U1, st1, s1, P, u1⟩, hl2, q1⟩ := z1
      cases hq : takes avs e1 with
      | none =>
        rw [hq] at q1
        exact q1.elim
      | some p =>
        obtain ⟨ds, e2⟩ := p
        rw [hq] at q1
        obtain ⟨G2, f2, s2, r2⟩ := takes_ok s1 P hq
        refine ⟨small_le (by rw [← P.length, hl2]; exact hl), fun p hp => ?_⟩
        exact q1 _ _ (QE.tup (f2.stp st1 fun a ha => u1 a ha.1) s2 r2 hp)
    exact ⟨hE, fallT (fun _ => rfl) hE⟩
  | .lst es, fl, W, X, x, C, hm, hv, Θ, G, H, e, σ, s => by
    obtain ⟨xs, pos, rfl, hl, m1⟩ := m_lst hm
    have hE : ∀ Q : VK, RQ (OKE X Dp.cs hv Θ G H σ Q) (ExK X.K Dp.cs Dp.xs hv W Θ G H σ) (evE T.gc (run T.gc code n) (.lst es) e) → wE X (.List xs pos) σ H Q := fun Q q => by
      refine wE.by (pe_lst pa_t) ?_
      refine (sEs es C m1 s _ (RQ.bind q)).mono fun vs H1 z1 => ?_
      obtain ⟨avs, e1, ⟨G1, Θ1, U1, st1, s1, P, u1⟩, hl2, q1⟩ := z1
      cases hq : takes avs e1 with
      | none =>
        rw [hq] at q1
        exact q1.elim
      | some p =>
        obtain ⟨ds, e2⟩ := p
        rw [hq] at q1
        obtain ⟨G2, f2, s2, r2⟩ := takes_ok s1 P hq
        refine ⟨small_le (by rw [← P.length, hl2]; exact hl), fun p hp => ?_⟩
        exact q1 _ _ (QE.lst (f2.stp st1 fun a ha => u1 a ha.1) s2 r2 hp)
    exact ⟨hE, fallT (fun _ => rfl) hE⟩
  | .ix a c, fl, W, X, x, C, hm, hv, Θ, G, H, e, σ, s => by
    obtain ⟨l, r, pos, rfl, m1, nb2, m2⟩ := m_ix hm
    have hE : ∀ Q : VK, RQ (OKE X Dp.cs hv Θ G H σ Q) (ExK X.K Dp.cs Dp.xs hv W Θ G H σ) (evE T.gc (run T.gc code n) (.ix a c) e) → wE X (.Subscript l r pos) σ H Q := fun Q q => by
      refine wE.by (pe_ix ix_seq pe_w pe_w (noslice m2 nb2)) ?_
      refine (seqE Stp.refl (sE a C m1 s).1 q).mono fun v1 H1 z1 => ?_
      obtain ⟨x1, e1, G1, Θ1, U1, st1, s1, k1, u1, q1⟩ := z1
      refine (seqH st1 s1 k1 (fun hv2 Θ2 e2 s2 => (sE c C m2 s2).1) q1).mono fun v2 H2 z2 => ?_
      obtain ⟨y1, e2, G2, Θ2, U2, st2, s2, k1', k2, u2, q2⟩ := z2
      obtain ⟨p, p', hp, hq, q3⟩ := RQ.dat2 q2
      obtain ⟨z, h3, q4⟩ := retQ q3
      have st := st1.trans st2
      cases p <;> try (exact noO h3)
      · cases p' <;> try (exact noO h3)
        rename_i xx ii
        have e2' := rp_str (k1'.rp s2 hp)
        have e3 := rp_int (k2.rp s2 hq)
        subst e2' e3
        have h3 : (if xx.length ≤ sizeLine then (atI xx.cps.toList ii).map fun c => PyData.str ⟨#[c]⟩ else none) = some z := h3
        by_cases hz : xx.length ≤ sizeLine
        · rw [if_pos hz] at h3
          cases w2 : atI xx.cps.toList ii with
          | none =>
            rw [w2] at h3
            cases h3
          | some ch =>
            rw [w2] at h3
            cases h3
            exact .inr (.inr ⟨_, _, ch, rfl, rfl, hz, w2, q4 _ _ (QE.dat st s2 (.str _))⟩)
        · rw [if_neg hz] at h3
          cases h3
      · cases p' <;> try (exact noO h3)
        obtain ⟨a1, vs, rfl, l1, l2⟩ := k1'.lst s2 hp
        have e3 := rp_int (k2.rp s2 hq)
        subst e3
        obtain ⟨v, w1, w2⟩ := atI_rp l2 h3
        exact .inl ⟨a1, vs, _, v, rfl, rfl, l1, w1, q4 _ _ (QE.dat st s2 w2)⟩
      · cases p' <;> try (exact noO h3)
        obtain ⟨a1, vs, rfl, l1, l2⟩ := k1'.tup s2 hp
        have e3 := rp_int (k2.rp s2 hq)
        subst e3
        obtain ⟨v, w1, w2⟩ := atI_rp l2 h3
        exact .inr (.inl ⟨a1, vs, _, v, rfl, rfl, Y.Same.sqt s2.gh l1, w1, q4 _ _ (QE.dat st s2 w2)⟩)
    exact ⟨hE, fallT (fun _ => rfl) hE⟩
  | .sl a lo hi, fl, W, X, x, C, hm, hv, Θ, G, H, e, σ, s => by
    obtain ⟨l, lo', hi', p0, pos, rfl, m1, m2, m3⟩ := m_sl hm
    have hE : ∀ Q : VK, RQ (OKE X Dp.cs hv Θ G H σ Q) (ExK X.K Dp.cs Dp.xs hv W Θ G H σ) (evE T.gc (run T.gc code n) (.sl a lo hi) e) → wE X (.Subscript l (.Slice lo' hi' none p0) pos) σ H Q := fun Q q => by
      have q : RQ (OKE X Dp.cs hv Θ G H σ Q) (ExK X.K Dp.cs Dp.xs hv W Θ G H σ) ((evE T.gc (run T.gc code n) a e).bind fun x e => R.set x e fun x e => (evP T.gc (run T.gc code n) lo e).bind fun l e => (evP T.gc (run T.gc code n) hi e).bind fun h e => match x.dat e with
        | some p => (R.of (slD p l h) e).bind fun r e => .ok (.tm r) e
        | none => .bad) := q
      obtain ⟨t1, p1, k1⟩ := sP lo C m2
      obtain ⟨t2, p2, k2⟩ := sP hi C m3
      refine wE.by (pe_slice (SlR.or sl_list sl_str) pe_w p1 p2) ?_
      refine (seqE Stp.refl (sE a C m1 s).1 q).mono fun v1 H1 z1 => ?_
      obtain ⟨x1, e1, G1, Θ1, U1, st1, s1, r1, u1, q1⟩ := z1
      obtain ⟨x2, e2, hs, q2⟩ := RQ.set q1
      obtain ⟨G2, f2, s2, r2, n2⟩ := settle_ok s1 r1 hs
      have st2 := f2.stp st1 (fun _ z => z.elim)
      refine k1 st2 s2 q2 _ fun o1 H3 G3 Θ3 e3 st3 s3 q3 => ?_
      refine k2 (st2.trans st3) s3 q3 _ fun o2 H4 G4 Θ4 e4 st4 s4 q4 => ?_
      have r4 := (r2.mono st3 n2).mono st4 n2
      have st := (st2.trans st3).trans st4
      obtain ⟨p, hp, q5⟩ := RQ.dat1 q4
      obtain ⟨z, h4, q6⟩ := retQ q5
      cases p <;> try (exact noO h4)
      · rename_i xx
        have ev := rp_str (r4.rp s4 hp)
        subst ev
        have h4 : (if xx.length ≤ sizeLine then some (O.d (.str (cutS xx o1 o2))) else none) = some z := h4
        by_cases hz : xx.length ≤ sizeLine
        · rw [if_pos hz] at h4
          cases h4
          exact .inr ⟨_, rfl, hz, q6 _ _ (QE.dat st s4 (.str _))⟩
        · rw [if_neg hz] at h4
          cases h4
      · obtain ⟨a1, vs, rfl, l1, l2⟩ := r4.lst s4 hp
        cases h4
        exact .inl ⟨a1, vs, rfl, l1, fun q hq => q6 _ _ (QE.lst st s4 (cut_rp l2 o1 o2) hq)⟩
    exact ⟨hE, fallT (fun _ => rfl) hE⟩
  | .call f es, fl, W, X, x, C, hm, hv, Θ, G, H, e, σ, s => by
    obtain ⟨y, p0, xs, pos, rfl, ⟨m1, mne⟩, m2, m3, nbs, m4⟩ := m_call hm
    have hE : ∀ Q : VK, RQ (OKE X Dp.cs hv Θ G H σ Q) (ExK X.K Dp.cs Dp.xs hv W Θ G H σ) (evE T.gc (run T.gc code n) (.call f es) e) → wE X (.Call (.Name y p0) xs [] pos) σ H Q := fun Q q => by
      have q : RQ (OKE X Dp.cs hv Θ G H σ Q) (ExK X.K Dp.cs Dp.xs hv W Θ G H σ) ((evEs T.gc (run T.gc code n) es e).bind fun avs e => match argOs avs e with
        | some os => R.call (run T.gc code n f os) fun outs => putOs avs os outs e
        | none => .bad) := q
      have hst : ∀ y1 ys, xs = y1 :: ys → starEach (y1 :: ys) X.env = (false, eval y1 X.env) :: starEach ys X.env ∧ ∀ pos, (backTo pos (starEach ys X.env)).any (·.1) = false := by
        rintro y1 ys rfl
        cases es with
        | nil => exact no m4
        | cons a es =>
          obtain ⟨y2, ys2, ee, w1, w2⟩ := ms_cons m4
          cases ee
          obtain ⟨n1, n2⟩ := and2 nbs
          exact ⟨nostar w1 (fun z => by rw [z] at n1; exact no n1) _ _, fun pos => nostars w2 n2⟩
      cases hc : code[f]? with
      | none =>
        exfalso
        have h1 := (List.getElem?_eq_some_iff.mp m1).1
        have h2 := List.getElem?_eq_none_iff.mp hc
        have h3 := C.pg.ln
        omega
      | some fd =>
        cases hm : fd.mak with
        | some t =>
          have h1 := C.pg.nomk f fd hc
          rw [hm] at h1
          cases h1
        | none =>
          refine wE.by (pe_callG C m1 mne hc hm (gl_of m2) (plain_of m3).1 hst) ?_
          refine (sEs es C m4 s _ q.bind).mono fun vs H1 z1 => ?_
          obtain ⟨avs, e1, ⟨G1, Θ1, U1, st1, s1, P, u1⟩, hl2, q1⟩ := z1
          cases ha : argOs avs e1 with
          | none =>
            rw [ha] at q1
            exact q1.elim
          | some os =>
            rw [ha] at q1
            have q1 : RQ (OKE X Dp.cs hv Θ G H σ Q) (ExK X.K Dp.cs Dp.xs hv W Θ G H σ) (R.call (run T.gc code n f os) fun outs => putOs avs os outs e1) := q1
            obtain ⟨G2, f2, s2, A, nd, la, hs⟩ := args_ok s1 P ha
            have st2 : Stp Θ G H Θ1 G2 H1 := f2.stp st1 fun a ha => u1 a ha.1
            cases hr : run T.gc code n f os with
            | none =>
              rw [hr] at q1
              exact q1.elim
            | some r =>
              obtain ⟨ro, outs⟩ := r
              rw [hr] at q1
              refine ⟨G2, _, _, os, ro, outs, A, hr, ?_⟩
              cases ro with
              | v o =>
                intro v G' H' B
                obtain ⟨Θ', τ, b1, b2, b3, b4⟩ := B
                obtain ⟨Θ2, c1, c2, c3⟩ := back_ok s2 A la hs b1 b2
                refine q1 v H' ⟨G', Θ2, fun p => ∃ m, τ p = some m, st2.trans c1, c2, ⟨τ, b3, fun p m z => ?_⟩, fun p hp => ?_⟩
                · obtain ⟨d1, d2, d3⟩ := b4 p m z
                  exact ⟨⟨m, z⟩, c3 p d1 d3, st2.back s2 d1, d2⟩
                · obtain ⟨m, z⟩ := hp
                  obtain ⟨d1, d2, d3⟩ := b4 p m z
                  exact ⟨c3 p d1 d3, st2.back s2 d1, d2⟩
              | x xc =>
                intro cls d G' H' B
                obtain ⟨Θ', b1, b2, b3⟩ := B
                obtain ⟨Θ2, c1, c2, c3⟩ := back_ok s2 A la hs b1 b2
                exact q1 cls d H' ⟨G', Θ2, st2.trans c1, c2, b3⟩
    exact ⟨hE, fallT (fun _ => rfl) hE⟩
  | .bi o a, fl, W, X, x, C, hm, hv, Θ, G, H, e, σ, s => by
    obtain ⟨p0, y, pos, rfl, m1, m2⟩ := m_bi hm
    have hE : ∀ Q : VK, RQ (OKE X Dp.cs hv Θ G H σ Q) (ExK X.K Dp.cs Dp.xs hv W Θ G H σ) (evE T.gc (run T.gc code n) (.bi o a) e) → wE X (.Call (.Name (biN o) p0) [y] [] pos) σ H Q := fun Q q => by
      have nb : a ≠ .bad := nobad (RQ.nb (RQ.bind q))
      refine wE.by (pe_bi (gl_of m1) (mg_bi C (biN_mem o)) (nostar m2 nb _ _)) ?_
      refine (seqE Stp.refl (sE a C m2 s).1 q).mono fun v1 H1 z1 => ?_
      obtain ⟨x1, e1, G1, Θ1, U1, st1, s1, k1, u1, q1⟩ := z1
      obtain ⟨p, hp, q2⟩ := RQ.dat1 q1
      obtain ⟨z, h4, q3⟩ := retQ q2
      exact cW_mono (bi_rd C.gd C.u C.calm st1 s1 k1 hp h4) q3
    exact ⟨hE, fallT (fun _ => rfl) hE⟩
  | .isi a t, fl, W, X, x, C, hm, hv, Θ, G, H, e, σ, s => by
    obtain ⟨p0, y, q0, pos, rfl, m1, m2, m3⟩ := m_isi hm
    have hE : ∀ Q : VK, RQ (OKE X Dp.cs hv Θ G H σ Q) (ExK X.K Dp.cs Dp.xs hv W Θ G H σ) (evE T.gc (run T.gc code n) (.isi a t) e) → wE X (.Call (.Name ("isinstance" : Str) p0) [y, .Name (tyN t) q0] [] pos) σ H Q := fun Q q => by
      have nb : a ≠ .bad := nobad (RQ.nb (RQ.bind q))
      refine wE.by (pe_isi (gl_of m1) (mg_bi C (by decide +kernel)) (gl_of m2) (mg_bi C (tyN_mem t)) (nostar m3 nb _ _)) ?_
      refine (seqE Stp.refl (sE a C m3 s).1 q).mono fun v1 H1 z1 => ?_
      obtain ⟨x1, e1, G1, Θ1, U1, st1, s1, k1, u1, q1⟩ := z1
      obtain ⟨p, hp, q2⟩ := RQ.dat1 q1
      exact rIsi_mono (isi_rd st1 s1 k1 hp) q2
    exact ⟨hE, fallT (fun _ => rfl) hE⟩
  | .lr1 a, fl, W, X, x, C, hm, hv, Θ, G, H, e, σ, s => by
    obtain ⟨p0, q0, z, p1, pos, rfl, m1, m2, m3⟩ := m_lr1 hm
    have hE : ∀ Q : VK, RQ (OKE X Dp.cs hv Θ G H σ Q) (ExK X.K Dp.cs Dp.xs hv W Θ G H σ) (evE T.gc (run T.gc code n) (.lr1 a) e) → wE X (.Call (.Name ("list" : Str) p0) [.Call (.Name ("range" : Str) q0) [z] [] p1] [] pos) σ H Q := fun Q q => by
      have nb : a ≠ .bad := nobad (RQ.nb (RQ.bind q))
      refine wE.by (pe_listRg C.calm (gl_of m1) (mg_bi C (by decide +kernel)) (prg_1 (gl_of m2) (mg_bi C (by decide +kernel)) pe_w (nostar m3 nb _ _))) ?_
      refine (seqE Stp.refl (sE a C m3 s).1 q).mono fun v1 H1 z1 => ?_
      obtain ⟨x1, e1, G1, Θ1, U1, st1, s1, k1, u1, q1⟩ := z1
      split at q1
      · rename_i i hp
        split at q1
        · rename_i hb
          rw [sizeLine_eq] at hb
          refine ⟨i, rp_int (k1.rp s1 hp), ⟨by omega, by omega, hb.2, by omega, by omega⟩, fun w hw => ?_⟩
          exact q1 _ _ (QE.lst st1 s1 (rgV_rp i) hw)
        · exact q1.elim
      · exact q1.elim
    exact ⟨hE, fallT (fun _ => rfl) hE⟩
  | .me m a b, fl, W, X, x, C, hm, hv, Θ, G, H, e, σ, s => by
    obtain ⟨o, ap, y, cp, rfl, m1, m2, m3, nb4, m4, m5⟩ := m_me hm
    have hE : ∀ Q : VK, RQ (OKE X Dp.cs hv Θ G H σ Q) (ExK X.K Dp.cs Dp.xs hv W Θ G H σ) (evE T.gc (run T.gc code n) (.me m a b) e) → wE X (.Call (.Attribute o (meN m) ap) [y] [] cp) σ H Q := fun Q q => by
      by_cases hr : m = .replace
      · subst hr
        exact absurd rfl m5
      · refine wE.by (pe_me m2 m1 (nostar m4 nb4 _ _) hr) ?_
        refine (seqE Stp.refl (sE a C m3 s).1 q).mono fun v1 H1 z1 => ?_
        obtain ⟨x1, e1, G1, Θ1, U1, st1, s1, k1, u1, q1⟩ := z1
        split at q1
        · rename_i t hp
          have e3 := rp_str (k1.rp s1 hp)
          subst e3
          refine ⟨⟨t, rfl⟩, ?_⟩
          refine (seqE st1 (sE b C m4 s1).1 q1).mono fun v2 H2 z2 => ?_
          obtain ⟨y1, e2, G2, Θ2, U2, st2, s2, k2, u2, q2⟩ := z2
          obtain ⟨p, hq, q3⟩ := RQ.dat1 q2
          obtain ⟨z, h3, q4⟩ := retQ q3
          exact mR_mono (me_rd (st1.trans st2) s2 (k2.old fun _ z => st1.back s1 z) hq h3) q4
        · exact q1.elim
    exact ⟨hE, fallT (fun _ => rfl) hE⟩
  | .lix a b, fl, W, X, x, C, hm, hv, Θ, G, H, e, σ, s => by
    obtain ⟨o, ap, y, cp, rfl, m1, m2, m3, nb4, m4⟩ := m_lix hm
    have hE : ∀ Q : VK, RQ (OKE X Dp.cs hv Θ G H σ Q) (ExK X.K Dp.cs Dp.xs hv W Θ G H σ) (evE T.gc (run T.gc code n) (.lix a b) e) → wE X (.Call (.Attribute o ("index" : Str) ap) [y] [] cp) σ H Q := fun Q q => by
      have q : RQ (OKE X Dp.cs hv Θ G H σ Q) (ExK X.K Dp.cs Dp.xs hv W Θ G H σ) ((evE T.gc (run T.gc code n) a e).bind fun x e => R.set x e fun x e => match x.dat e with
        | some (.list _) => (evE T.gc (run T.gc code n) b e).bind fun y e => match x.dat e, y.dat e with
          | some p, some q => (R.of (lixD p q) e).bind fun r e => .ok (.tm (.d r)) e
          | _, _ => .bad
        | _ => .bad) := q
      refine wE.by (pe_lix C.u m2 m1 (nostar m4 nb4 _ _)) ?_
      refine (seqE Stp.refl (sE a C m3 s).1 q).mono fun v1 H1 z1 => ?_
      obtain ⟨x1, e1, G1, Θ1, U1, st1, s1, k1, u1, q1⟩ := z1
      obtain ⟨x2, e2, hs, q2⟩ := RQ.set q1
      obtain ⟨G2, f2, s2, k2, n2⟩ := settle_ok s1 k1 hs
      have st2 := f2.stp st1 (fun _ z => z.elim)
      split at q2
      · rename_i xs hp
        have ty : tyV X.K "list" v1 H1 := by
          obtain ⟨a1, vs1, rfl, l1, l2⟩ := k2.lst s2 hp
          exact tyL l1
        refine ⟨ty, ?_⟩
        refine (seqE st2 (sE b C m4 s2).1 q2).mono fun v2 H2 z2 => ?_
        obtain ⟨y1, e3, G3, Θ3, U3, st3, s3, k3, u3, q3⟩ := z2
        obtain ⟨p, p', hp3, hq3, q4⟩ := RQ.dat2 q3
        obtain ⟨z, h3, q5⟩ := retQ q4
        cases p <;> try (exact noO h3)
        exact rIndexD_mono (lix_rd C.u (st2.trans st3) s3 (k3.old fun _ z => st2.back s2 z) ((k2.mono st3 n2).rp s3 hp3) hq3 h3) q5
      · exact q2.elim
    exact ⟨hE, fallT (fun _ => rfl) hE⟩
  | .lc ws t it ifs el, fl, W, X, x, C, hm, hv, Θ, G, H, e, σ, s => by
    obtain ⟨elt, tg, iter, cs, scope, pos, rfl, m1, m2, m3, m4, m5, m6, m7⟩ := m_lc hm
    have hE : ∀ Q : VK, RQ (OKE X Dp.cs hv Θ G H σ Q) (ExK X.K Dp.cs Dp.xs hv W Θ G H σ) (evE T.gc (run T.gc code n) (.lc ws t it ifs el) e) → wE X (.ListComp elt [⟨tg, iter, cs, 0⟩] scope pos) σ H Q := fun Q q => by
      refine wE.by (pe_lc C.calm C.nd pi_w (blkOk_by m2) pg_b pt_b pe_b (nosetI m3 (RQ.nb (RQ.bind q)) _)) ?_
      rw [m1]
      have q : RQ (OKE X Dp.cs hv Θ G H σ Q) (ExK X.K Dp.cs Dp.xs hv W Θ G H σ) ((evI T.gc (run T.gc code n) it e).bind fun xs e0 => if noOwn e0 ws then
          (lcL (turnL T.gc (run T.gc code n) ws t ifs el) xs (wipeE e0 ws)).bind fun ds e => .ok (.tm (.ol ds)) (backE e0 e ws)
        else .bad) := q
      cases hI : evI T.gc (run T.gc code n) it e with
      | bad =>
        rw [hI] at q
        exact q.elim
      | exc y e0 =>
        rw [hI] at q
        have q : ExK X.K Dp.cs Dp.xs hv W Θ G H σ y e0 := q
        exact lc_none (sI it C m3 m7 s (tg := tg) (fun _ _ => False) (by rw [hI]; exact q)) fun _ _ z => z
      | ok ds e0 =>
        rw [hI] at q
        have q : RQ (OKE X Dp.cs hv Θ G H σ Q) (ExK X.K Dp.cs Dp.xs hv W Θ G H σ) (if noOwn e0 ws = true then
          (lcL (turnL T.gc (run T.gc code n) ws t ifs el) ds (wipeE e0 ws)).bind fun ds e => R.ok (.tm (.ol ds)) (backE e0 e ws)
        else .bad) := q
        by_cases hn : noOwn e0 ws = true
        · rw [if_pos hn] at q
          cases hL : lcL (turnL T.gc (run T.gc code n) ws t ifs el) ds (wipeE e0 ws) with
          | bad =>
            rw [hL] at q
            exact q.elim
          | exc y e1 =>
            exact absurd hL (lcL_nox _ _ _ _ _)
          | ok rs e1 =>
            rw [hL] at q
            have q : OKE X Dp.cs hv Θ G H σ Q (.tm (.ol rs)) (backE e0 e1 ws) := q
            have base := lc_rd (Cs := Dp.cs) (hv := hv) (G := G) C m4 m1 (sI it C m3 m7 s (QI X.K Dp.cs hv Θ G H σ ds e0) (by rw [hI]; exact fun J H' z => z))
              (fun s0 H0 A cl fp Θ G H e σ b e' s5 h5 => sIf ifs (C.blk s0 H0 scope cl A fp) m5 s5 h5)
              (fun s0 H0 A cl fp Θ G H e σ av e' s5 h5 => (sE el (C.blk s0 H0 scope cl A fp) m6 s5).1 _ (by rw [h5]; exact fun v H' z => z)) hn hL
            exact lc_mono base fun v H' z => q v H' z
        · rw [if_neg hn] at q
          exact q.elim
    exact ⟨hE, fallT (fun _ => rfl) hE⟩
  | .fs es, fl, W, X, x, C, hm, hv, Θ, G, H, e, σ, s => by
    obtain ⟨xs, pos, rfl, hl, m1⟩ := m_fs hm
    have hE : ∀ Q : VK, RQ (OKE X Dp.cs hv Θ G H σ Q) (ExK X.K Dp.cs Dp.xs hv W Θ G H σ) (evE T.gc (run T.gc code n) (.fs es) e) → wE X (.JoinedStr xs pos) σ H Q := fun Q q => by
      rcases xs with _ | ⟨x1, _ | ⟨x2, xs⟩⟩
      · exact absurd hl (by decide)
      · exact absurd hl (by simp)
      · refine wE.by (pe_joined (pj_map (x1 :: x2 :: xs))) ?_
        exact sF es C m1 _ Stp.refl s q _ fun y H' G' Θ' e' st s' q' => q' _ _ (QE.dat st s' (.str _))
    exact ⟨hE, fallT (fun _ => rfl) hE⟩
  | .fv a, fl, W, X, x, C, hm, hv, Θ, G, H, e, σ, s => by
    obtain ⟨y, pos, rfl, m1⟩ := m_fv hm
    have hE : ∀ Q : VK, RQ (OKE X Dp.cs hv Θ G H σ Q) (ExK X.K Dp.cs Dp.xs hv W Θ G H σ) (evE T.gc (run T.gc code n) (.fv a) e) → wE X (.FormattedValue y (-1) none pos) σ H Q := fun Q q => by
      refine wE.by (pe_fmt pe_w) ?_
      refine (seqE Stp.refl (sE a C m1 s).1 q).mono fun v1 H1 z1 => ?_
      obtain ⟨x1, e1, G1, Θ1, U1, st1, s1, k1, u1, q1⟩ := z1
      obtain ⟨p, hp, q2⟩ := RQ.dat1 q1
      obtain ⟨z, h4, q3⟩ := retQ q2
      cases p <;> try (exact noO h4)
      · rename_i i
        have h4 : (if smallInt i then some (toString i : Str) else none) = some z := h4
        by_cases hz : smallInt i = true
        · rw [if_pos hz] at h4
          cases h4
          exact .inr ⟨i, rp_int (k1.rp s1 hp), of_decide_eq_true hz, q3 _ _ (QE.dat st1 s1 (.str _))⟩
        · rw [if_neg hz] at h4
          cases h4
      · rename_i xx
        have h4 : (if xx.length ≤ sizeLine then some xx else none) = some z := h4
        by_cases hz : xx.length ≤ sizeLine
        · rw [if_pos hz] at h4
          cases h4
          exact .inl ⟨_, rp_str (k1.rp s1 hp), hz, q3 _ _ (QE.dat st1 s1 (.str _))⟩
        · rw [if_neg hz] at h4
          cases h4
    exact ⟨hE, fallT (fun _ => rfl) hE⟩
  | .fz a w, fl, W, X, x, C, hm, hv, Θ, G, H, e, σ, s => by
    obtain ⟨y, sp, k, p, p', p2, p3, rfl, m1, m2, m3, m4, m5⟩ := m_fz hm
    have hE : ∀ Q : VK, RQ (OKE X Dp.cs hv Θ G H σ Q) (ExK X.K Dp.cs Dp.xs hv W Θ G H σ) (evE T.gc (run T.gc code n) (.fz a w) e) → wE X (.JoinedStr [.FormattedValue y (-1) (some (.JoinedStr [.Constant (.str sp) k p] p')) p2] p3) σ H Q := fun Q q => by
      refine wE.by (pe_fz m1 m2 m3 m4 pe_w) ?_
      refine (seqE Stp.refl (sE a C m5 s).1 q).mono fun v1 H1 z1 => ?_
      obtain ⟨x1, e1, G1, Θ1, U1, st1, s1, k1, u1, q1⟩ := z1
      split at q1
      · rename_i i hp
        split at q1
        · rename_i hb
          exact ⟨i, rp_int (k1.rp s1 hp), hb, q1 _ _ (QE.dat st1 s1 (.str _))⟩
        · exact q1.elim
      · exact q1.elim
    exact ⟨hE, fallT (fun _ => rfl) hE⟩
  | .bad, fl, W, X, x, C, hm, hv, Θ, G, H, e, σ, s => by
    exact ⟨fun Q q => False.elim q, fun Q q => False.elim q⟩
theorem sEs : ∀ (es : CEs) {fl : Option Scope} {W : WX} {X : Cx} {xs : List Expr} (C : Ctx T code Dp n fl W X) (hm : mEs T X.N fl X.env.scope es xs = true) {hv : Nat → Nat → Option V} {Θ : Ow} {G H : Hp} {e : Sl} {σ : L2.St}, Sts X.K Dp.cs hv Θ G H e σ →
    ∀ (ok : List AV → Sl → Prop), RQ ok (ExK X.K Dp.cs Dp.xs hv W Θ G H σ) (evEs T.gc (run T.gc code n) es e) → tA X xs σ H (fun vs H' => ∃ avs e', QA X.K Dp.cs hv Θ G H σ avs e' vs H' ∧ avs.length = xs.length ∧ ok avs e')
  | .nil, fl, W, X, xs, C, hm, hv, Θ, G, H, e, σ, s, ok, q => by
    rw [ms_nil hm]
    exact ⟨[], e, ⟨G, Θ, fun _ => False, Stp.refl, s, .nil, fun _ z => z.elim⟩, rfl, q⟩
  | .cons a es, fl, W, X, xs, C, hm, hv, Θ, G, H, e, σ, s, ok, q => by
    obtain ⟨y, ys, rfl, m1, m2⟩ := ms_cons hm
    have q : RQ ok (ExK X.K Dp.cs Dp.xs hv W Θ G H σ) ((evE T.gc (run T.gc code n) a e).bind fun x e => R.set x e fun x e => (evEs T.gc (run T.gc code n) es e).bind fun xs e => .ok (x :: xs) e) := q
    have nb : a ≠ .bad := nobad (RQ.nb (RQ.bind q))
    refine wA.by (pa_cons pe_w pa_t (nostar m1 nb _ _)) ?_
    refine (seqE Stp.refl (sE a C m1 s).1 q).mono fun v1 H1 z1 => ?_
    obtain ⟨x1, e1, G1, Θ1, U1, st1, s1, k1, u1, q1⟩ := z1
    obtain ⟨x2, e2, hs, q2⟩ := RQ.set q1
    obtain ⟨G2, f2, s2, k2, n2⟩ := settle_ok s1 k1 hs
    have st2 := f2.stp st1 (fun _ z => z.elim)
    refine (sEs es C m2 s2 _ (q2.bind.imp (fun _ _ z => z) fun _ _ z => ExK.step st2 z)).mono fun vs H2 z2 => ?_
    obtain ⟨avs, e3, ⟨G3, Θ3, U3, st3, s3, P, u3⟩, hl, q3⟩ := z2
    refine ⟨x2 :: avs, e3, ⟨G3, Θ3, fun p => U1 p ∨ U3 p, st2.trans st3, s3, .cons (U1 := U1) (U2 := U3) (k2.mono st3 n2) n2 (P.old fun _ z => st2.back s2 z) (fun p hp hq => ?_) (fun p hp => .inl hp) (fun p hp => .inr hp) fun p hp => ?_, fun p hp => ?_⟩, by rw [List.length_cons, List.length_cons, hl], q3⟩
    · obtain ⟨_, _, u, w⟩ := u1 p hp
      have := u3 p hq
      rw [w] at this
      cases this
    · obtain ⟨w1, w2, u, w3⟩ := u1 p hp
      obtain ⟨y1, _, y3⟩ := st3.h p u w3 w1
      exact ⟨y3, w2, u, y1⟩
    · rcases hp with hp | hp
      · exact (u1 p hp).2.1
      · exact st2.back s2 (u3 p hp)
theorem sF : ∀ (es : CEs) {fl : Option Scope} {W : WX} {X : Cx} {xs : List Expr} (C : Ctx T code Dp n fl W X) (hm : mEs T X.N fl X.env.scope es xs = true) (acc : Str) {hv : Nat → Nat → Option V} {Θ Θ1 : Ow} {G H G1 H1 : Hp} {e : Sl} {σ : L2.St}, Stp Θ G H Θ1 G1 H1 → Sts X.K Dp.cs hv Θ1 G1 H1 e σ →
    ∀ {β : Type} {g : Str → Sl → R β} {ok : β → Sl → Prop}, RQ ok (ExK X.K Dp.cs Dp.xs hv W Θ G H σ) ((evF T.gc (run T.gc code n) es acc e).bind g) → ∀ Q : Str → Hp → Prop, (∀ y H' G' Θ' e', Stp Θ G H Θ' G' H' → Sts X.K Dp.cs hv Θ' G' H' e' σ → RQ ok (ExK X.K Dp.cs Dp.xs hv W Θ G H σ) (g y e') → Q y H') → tJs (xs.map (wE X)) acc σ H1 Q
  | .nil, fl, W, X, xs, C, hm, acc, hv, Θ, Θ1, G, H, G1, H1, e, σ, st, s, β, g, ok, q, Q, k => by
    rw [ms_nil hm]
    exact k acc H1 G1 Θ1 e st s q
  | .cons a es, fl, W, X, xs, C, hm, acc, hv, Θ, Θ1, G, H, G1, H1, e, σ, st, s, β, g, ok, q, Q, k => by
    obtain ⟨y1, ys, rfl, m1, m2⟩ := ms_cons hm
    have q : RQ ok (ExK X.K Dp.cs Dp.xs hv W Θ G H σ) (((evE T.gc (run T.gc code n) a e).bind fun x e => match x.dat e with
      | some (.str y) => if (acc ++ y).length ≤ sizeLine then evF T.gc (run T.gc code n) es (acc ++ y) e else .bad
      | _ => .bad).bind g) := q
    refine (seqE st (sE a C m1 s).1 q.bind).mono fun v1 H2 z1 => ?_
    obtain ⟨x1, e1, G2, Θ2, U1, st1, s1, k1, u1, q1⟩ := z1
    split at q1
    · rename_i w hp
      split at q1
      · rename_i hz
        refine ⟨w, rp_str (k1.rp s1 hp), hz, ?_⟩
        exact sF es C m2 _ (st.trans st1) s1 (RQ.bind' q1) Q k
      · exact q1.elim
    · exact q1.elim
theorem sP : ∀ (c : CP) {fl : Option Scope} {W : WX} {X : Cx} {x : Option Expr} (C : Ctx T code Dp n fl W X) (hm : mP T X.N fl X.env.scope c x = true), ∃ t, PO X x t ∧ ∀ {hv : Nat → Nat → Option V} {Θ Θ1 : Ow} {G H G1 H1 : Hp} {e : Sl} {σ : L2.St}, Stp Θ G H Θ1 G1 H1 → Sts X.K Dp.cs hv Θ1 G1 H1 e σ →
    ∀ {β : Type} {g : Option Int → Sl → R β} {ok : β → Sl → Prop}, RQ ok (ExK X.K Dp.cs Dp.xs hv W Θ G H σ) ((evP T.gc (run T.gc code n) c e).bind g) → ∀ Q : Option Int → Hp → Prop, (∀ o H' G' Θ' e', Stp Θ1 G1 H1 Θ' G' H' → Sts X.K Dp.cs hv Θ' G' H' e' σ → RQ ok (ExK X.K Dp.cs Dp.xs hv W Θ G H σ) (g o e') → Q o H') → t σ H1 Q
  | .no, fl, W, X, x, C, hm => by
    cases x with
    | some _ => exact no hm
    | none => exact ⟨_, po_none, fun {hv Θ Θ1 G H G1 H1 e σ} st s {β g ok} q Q k => k none _ _ _ _ Stp.refl s q⟩
  | .yes a, fl, W, X, x, C, hm => by
    cases x with
    | none => exact no hm
    | some x =>
      refine ⟨_, po_some pe_w, fun {hv Θ Θ1 G H G1 H1 e σ} st s {β g ok} q Q k => ?_⟩
      have q : RQ ok (ExK X.K Dp.cs Dp.xs hv W Θ G H σ) (((evE T.gc (run T.gc code n) a e).bind fun x e => match x.dat e with
        | some (.int i) => .ok (some i) e
        | _ => .bad).bind g) := q
      refine (seqE st (sE a C hm s).1 q.bind).mono fun v1 H2 z1 => ?_
      obtain ⟨x1, e1, G2, Θ2, U1, st1, s1, k1, u1, q1⟩ := z1
      split at q1
      · rename_i i hp
        exact ⟨i, rp_int (k1.rp s1 hp), k _ _ _ _ _ st1 s1 q1⟩
      · exact q1.elim
theorem sIf : ∀ (c : CP) {fl : Option Scope} {W : WX} {X : Cx} {x : List Expr} (C : Ctx T code Dp n fl W X) (hm : mIf T X.N fl X.env.scope c x = true) {hv : Nat → Nat → Option V} {Θ : Ow} {G H : Hp} {e e' : Sl} {σ : L2.St} {b : Bool}, Sts X.K Dp.cs hv Θ G H e σ →
    evIf T.gc (run T.gc code n) c e = .ok b e' → ∃ t, PTs X x t ∧ ∀ Q : Bool → Hp → Prop, (∀ H' G' Θ', Stp Θ G H Θ' G' H' → Sts X.K Dp.cs hv Θ' G' H' e' σ → Q b H') → t σ H Q
  | .no, fl, W, X, x, C, hm, hv, Θ, G, H, e, e', σ, b, s, h => by
    cases x with
    | cons _ _ => exact no hm
    | nil =>
      cases h
      exact ⟨_, pts_nil, fun Q k => k H G Θ Stp.refl s⟩
  | .yes a, fl, W, X, x, C, hm, hv, Θ, G, H, e, e', σ, b, s, h => by
    rcases x with _ | ⟨x, _ | ⟨x2, xs⟩⟩
    · exact no hm
    · refine ⟨_, pts_one pt_w, fun Q k => ?_⟩
      have h : testV (evE T.gc (run T.gc code n) a e) = .ok b e' := h
      have hh := (sE a C hm s).2 (fun c H' => c = b ∧ ∃ G' Θ', Stp Θ G H Θ' G' H' ∧ Sts X.K Dp.cs hv Θ' G' H' e' σ) (by
        rw [h]
        intro H' z
        exact z)
      refine hh.mono fun v1 H1 z1 => ?_
      obtain ⟨rfl, G1, Θ1, st1, s1⟩ := z1
      exact k H1 G1 Θ1 st1 s1
    · exact no hm
theorem sI : ∀ (it : CI) {fl : Option Scope} {W : WX} {X : Cx} {x tg : Expr} (C : Ctx T code Dp n fl W X) (hm : mI T X.N fl X.env.scope it x = true) (ht : enOk it tg = true) {hv : Nat → Nat → Option V} {Θ : Ow} {G H : Hp} {e : Sl} {σ : L2.St}, Sts X.K Dp.cs hv Θ G H e σ →
    ∀ R' : It → Hp → Prop, RQ (fun ds e' => ∀ J H', QI X.K Dp.cs hv Θ G H σ ds e' J H' → R' J H') (ExK X.K Dp.cs Dp.xs hv W Θ G H σ) (evI T.gc (run T.gc code n) it e) → wI X tg x σ H R'
  | .e a, fl, W, X, x, tg, C, hm, hen, hv, Θ, G, H, e, σ, s, R', q => by
    have q : RQ (fun ds e' => ∀ J H', QI X.K Dp.cs hv Θ G H σ ds e' J H' → R' J H') (ExK X.K Dp.cs Dp.xs hv W Θ G H σ) ((evE T.gc (run T.gc code n) a e).bind fun x e => match take x e with
      | some (d, e) => R.of (itemsOf d) e
      | none => .bad) := q
    cases hA : evE T.gc (run T.gc code n) a e with
    | bad =>
      rw [hA] at q
      exact q.elim
    | exc y e1 =>
      rw [hA] at q
      refine wI.by (pi_list pe_w) ?_
      exact (sE a C hm s).1 _ (by rw [hA]; exact q)
    | ok x1 e1 =>
      rw [hA] at q
      have q : RQ (fun ds e' => ∀ J H', QI X.K Dp.cs hv Θ G H σ ds e' J H' → R' J H') (ExK X.K Dp.cs Dp.xs hv W Θ G H σ) (match take x1 e1 with
        | some (d, e) => R.of (itemsOf d) e
        | none => .bad) := q
      cases ht : take x1 e1 with
      | none =>
        rw [ht] at q
        exact q.elim
      | some p =>
        obtain ⟨d, e2⟩ := p
        rw [ht] at q
        obtain ⟨ds, h2, q2⟩ := RQ.of q
        have hE := ((sE a C hm s).1 (QE X.K Dp.cs hv Θ G H σ x1 e1) (by rw [hA]; exact fun v H' z => z)).sz
        cases d <;> try (exact noO h2)
        · rename_i xx
          refine wI.by (pi_str pe_w) (hE.mono fun v H1 z1 => ?_)
          obtain ⟨⟨G1, Θ1, U1, st1, s1, k1, u1⟩, z2, z3⟩ := z1
          obtain ⟨G2, f2, s2, r2⟩ := take_ok s1 k1 ht
          have h2 : (if xx.length ≤ sizeLine then some (xx.cps.toList.map fun c => PyData.str ⟨#[c]⟩) else none) = some ds := h2
          by_cases hz : xx.length ≤ sizeLine
          · rw [if_pos hz] at h2
            cases h2
            refine ⟨xx, rp_str r2, q2 _ _ ⟨G2, Θ1, f2.stp st1 fun a ha => (u1 a ha).2.1, s2, wk_text, ?_⟩⟩
            rw [List.length_map, Array.length_toList]
            exact hz
          · rw [if_neg hz] at h2
            cases h2
        · refine wI.by (pi_list pe_w) (hE.mono fun v H1 z1 => ?_)
          obtain ⟨⟨G1, Θ1, U1, st1, s1, k1, u1⟩, z2, z3⟩ := z1
          obtain ⟨G2, f2, s2, r2⟩ := take_ok s1 k1 ht
          cases h2
          cases r2 with
          | @lst a vs _ l1 l2 =>
            refine ⟨a, rfl, ⟨vs, s2.gh.seq l1⟩, q2 _ _ ⟨G2, Θ1, f2.stp st1 fun a ha => (u1 a ha).2.1, s2, wk_list l1 l2, ?_⟩⟩
            rw [← l2.len]
            exact z2 a vs (s2.gh.seq l1)
        · refine wI.by (pi_tup pe_w) (hE.mono fun v H1 z1 => ?_)
          obtain ⟨⟨G1, Θ1, U1, st1, s1, k1, u1⟩, z2, z3⟩ := z1
          obtain ⟨G2, f2, s2, r2⟩ := take_ok s1 k1 ht
          cases h2
          cases r2 with
          | @tup a vs _ l1 l2 =>
            refine ⟨a, rfl, ⟨vs, Y.Same.sqt s2.gh l1⟩, q2 _ _ ⟨G2, Θ1, f2.stp st1 fun a ha => (u1 a ha).2.1, s2, wk_tup l1 l2, ?_⟩⟩
            rw [← l2.len]
            exact z3 a vs (Y.Same.sqt s2.gh l1)
  | .en a, fl, W, X, x, tg, C, hm, hen, hv, Θ, G, H, e, σ, s, R', q => by
    cases x <;> try (exact no hm)
    rename_i fn xs kws pos
    cases fn <;> try (exact no hm)
    rcases xs with _ | ⟨y, xs⟩ <;> try (exact no hm)
    rcases xs with _ | ⟨y2, xs⟩ <;> try (exact no hm)
    rcases kws with _ | ⟨k, kws⟩ <;> try (exact no hm)
    rename_i nm p0
    obtain ⟨m1, m2, m3⟩ := and3 hm
    have en : nm = ("enumerate" : Str) := of_decide_eq_true m1
    subst en
    have nb : a ≠ .bad := nobad (RQ.nb (RQ.bind q))
    have ns := nostar (fl := fl) m3 nb X.env []
    cases tg <;> try (exact no hen)
    refine wI.by (pi_enum (gl_of m2) (mg_bi C (by decide +kernel)) (pa_cons pe_w pa_nil ns) ns) ?_
    have q : RQ (fun ds e' => ∀ J H', QI X.K Dp.cs hv Θ G H σ ds e' J H' → R' J H') (ExK X.K Dp.cs Dp.xs hv W Θ G H σ) ((evE T.gc (run T.gc code n) a e).bind fun x e => match take x e with
      | some (.list xs, e) => R.ok (xs.mapIdx fun i y => PyData.tuple [.int (i : Nat), y]) e
      | _ => R.bad) := q
    cases hA : evE T.gc (run T.gc code n) a e with
    | bad =>
      rw [hA] at q
      exact q.elim
    | exc y e1 =>
      rw [hA] at q
      exact (sE a C m3 s).1 _ (by rw [hA]; exact q)
    | ok x1 e1 =>
      rw [hA] at q
      have q : RQ (fun ds e' => ∀ J H', QI X.K Dp.cs hv Θ G H σ ds e' J H' → R' J H') (ExK X.K Dp.cs Dp.xs hv W Θ G H σ) (match take x1 e1 with
        | some (.list xs, e) => R.ok (xs.mapIdx fun i y => PyData.tuple [.int (i : Nat), y]) e
        | _ => R.bad) := q
      cases ht : take x1 e1 with
      | none =>
        rw [ht] at q
        exact q.elim
      | some p =>
        obtain ⟨d, e2⟩ := p
        rw [ht] at q
        cases d <;> try (exact q.elim)
        rename_i ds
        have hE := ((sE a C m3 s).1 (QE X.K Dp.cs hv Θ G H σ x1 e1) (by rw [hA]; exact fun v H' z => z)).sz
        refine hE.mono fun v H1 z1 => ?_
        obtain ⟨⟨G1, Θ1, U1, st1, s1, k1, u1⟩, z2, z3⟩ := z1
        obtain ⟨G2, f2, s2, r2⟩ := take_ok s1 k1 ht
        cases r2 with
        | @lst a vs _ l1 l2 =>
          refine ⟨a, vs, rfl, s2.gh.seq l1, q _ _ ⟨G2, Θ1, f2.stp st1 fun a ha => (u1 a ha).2.1, s2, wk_enum l1 l2, ?_⟩⟩
          rw [List.length_mapIdx, ← l2.len]
          exact z2 a vs (s2.gh.seq l1)
  | .r1 a, fl, W, X, x, tg, C, hm, hen, hv, Θ, G, H, e, σ, s, R', q => by
    cases x <;> try (exact no hm)
    rename_i fn xs kws pos
    cases fn <;> try (exact no hm)
    rcases xs with _ | ⟨y, xs⟩ <;> try (exact no hm)
    rcases xs with _ | ⟨y2, xs⟩ <;> try (exact no hm)
    rcases kws with _ | ⟨k, kws⟩ <;> try (exact no hm)
    rename_i nm p0
    obtain ⟨m1, m2, m3⟩ := and3 hm
    have en : nm = ("range" : Str) := of_decide_eq_true m1
    subst en
    have nb : a ≠ .bad := nobad (RQ.nb (RQ.bind q))
    have ns := nostar (fl := fl) m3 nb X.env []
    refine wI.by (pi_range1 (gl_of m2) (mg_bi C (by decide +kernel)) (pa_cons pe_w pa_nil ns) ns) ?_
    refine (seqE Stp.refl (sE a C m3 s).1 q).mono fun v1 H1 z1 => ?_
    obtain ⟨x1, e1, G1, Θ1, U1, st1, s1, k1, u1, q1⟩ := z1
    split at q1
    · rename_i i hp
      split at q1
      · rename_i hb
        have hi := rp_int (k1.rp s1 hp)
        subst hi
        rw [sizeLine_eq] at hb
        refine ⟨i, rfl, hb.2, by omega, q1 _ _ ⟨G1, Θ1, st1, s1, wk_range, ?_⟩⟩
        rw [range_len, sizeLine_eq]
        omega
      · exact q1.elim
    · exact q1.elim
  | .r2 a b, fl, W, X, x, tg, C, hm, hen, hv, Θ, G, H, e, σ, s, R', q => by
    cases x <;> try (exact no hm)
    rename_i fn xs kws pos
    cases fn <;> try (exact no hm)
    rcases xs with _ | ⟨y, xs⟩ <;> try (exact no hm)
    rcases xs with _ | ⟨y2, xs⟩ <;> try (exact no hm)
    rcases xs with _ | ⟨y3, xs⟩ <;> try (exact no hm)
    rcases kws with _ | ⟨k, kws⟩ <;> try (exact no hm)
    rename_i nm p0
    obtain ⟨m1, m2, m3, nb4, m4⟩ := and5 hm
    have en : nm = ("range" : Str) := of_decide_eq_true m1
    subst en
    have nb : a ≠ .bad := nobad (RQ.nb (RQ.bind q))
    have nb2 : b ≠ .bad := by rintro rfl; exact no nb4
    have ns := nostar (fl := fl) m3 nb X.env [y2]
    have ns2 := nostar (fl := fl) m4 nb2 X.env []
    refine wI.by (pi_range2 (gl_of m2) (mg_bi C (by decide +kernel)) (pa_cons pe_w (pa_cons pe_w pa_nil ns2) ns) (by rw [ns, ns2]; rfl) ns2) ?_
    refine (seqE Stp.refl (sE a C m3 s).1 q).mono fun v1 H1 z1 => ?_
    obtain ⟨x1, e1, G1, Θ1, U1, st1, s1, k1, u1, q1⟩ := z1
    obtain ⟨x2, e2, hs, q2⟩ := RQ.set q1
    obtain ⟨G2, f2, s2, k2, n2⟩ := settle_ok s1 k1 hs
    have st2 := f2.stp st1 (fun _ z => z.elim)
    refine (seqE st2 (sE b C m4 s2).1 q2).mono fun v2 H2 z2 => ?_
    obtain ⟨y1, e3, G3, Θ3, U3, st3, s3, k3, u3, q3⟩ := z2
    split at q3
    · rename_i i j hp hq
      split at q3
      · rename_i hb
        have hi := rp_int ((k2.mono st3 n2).rp s3 hp)
        have hj := rp_int (k3.rp s3 hq)
        subst hi hj
        rw [sizeLine_eq] at hb
        refine ⟨i, j, rfl, ⟨hb.1.1, hb.1.2, hb.2.1.1, hb.2.1.2⟩, q3 _ _ ⟨G3, Θ3, st2.trans st3, s3, wk_range, ?_⟩⟩
        rw [range_len, sizeLine_eq]
        omega
      · exact q3.elim
    · exact q3.elim
end
end
end Y

/-! Y14: the evaluator speaks the truth about statements. -/
namespace Y
open PySem PySem.Spec PyProof.Rows L2
section
variable {T : Tb} {code : List FD} {Dp : PgT} {n : Nat} {fl : Option Scope} {W : WX} {X : Cx} {K : PySem.W.Frag} {Cs Xs : Cls} {hv : Nat → Nat → Option V} {ow : List Bool} {U U' : Addr → Prop} {τ : Tau} {Θ Θ0 Θ1 Θ2 Θ' : Ow} {G0 G G' G1 G2 H0 H H' H1 H2 : Hp} {e e' e0 e1 e2 : Sl} {σ σ' σ1 σ2 : L2.St} {av : AV} {v : V} {o : O} {d : D} {x : Expr} {b : Bool}
/-- what holds behind a piece of code -/
structure Nx (K : PySem.W.Frag) (Cs : Cls) (hv : Nat → Nat → Option V) (ow : List Bool) (Θ : Ow) (G H : Hp) (σ : L2.St) (Θ' : Ow) (G' H' : Hp) (σ' : L2.St) (e' : Sl) : Prop where
  st : Stp Θ G H Θ' G' H'
  s : Sts K Cs hv Θ' G' H' e' σ'
  own : ∀ i : Nat, ow[i]? = some true → σ'[i]? = σ[i]?
theorem Nx.trans (a : Nx K Cs hv ow Θ G H σ Θ1 G1 H1 σ1 e1) (b : Nx K Cs hv ow Θ1 G1 H1 σ1 Θ2 G2 H2 σ2 e2) : Nx K Cs hv ow Θ G H σ Θ2 G2 H2 σ2 e2 :=
  ⟨a.st.trans b.st, b.s, fun i h => (b.own i h).trans (a.own i h)⟩
theorem Nx.refl (s : Sts K Cs hv Θ G H e σ) : Nx K Cs hv ow Θ G H σ Θ G H σ e := ⟨Stp.refl, s, fun _ _ => rfl⟩
theorem Nx.of (st : Stp Θ G H Θ' G' H') (s : Sts K Cs hv Θ' G' H' e' σ) : Nx K Cs hv ow Θ G H σ Θ' G' H' σ e' := ⟨st, s, fun _ _ => rfl⟩
/-- a thing handed back is the caller's alone -/
def Fresh (ow : List Bool) (Θ' : Ow) (H H' : Hp) (τ : Tau) : Prop := ∀ p m, τ p = some m → (∃ u, H' p = some u) ∧ ((Θ' p = none ∧ H p = none) ∨ ∃ i k, Θ' p = some (i, k) ∧ ow[i]? ≠ some true)
def SQ (K : PySem.W.Frag) (Cs Xs : Cls) (hv : Nat → Nat → Option V) (ow : List Bool) (W : WX) (Θ : Ow) (G H : Hp) (σ : L2.St) : Fl → Ends → Prop
  | .nx e', D => ∀ Θ' G' H' σ', Nx K Cs hv ow Θ G H σ Θ' G' H' σ' e' → D.nx σ' H'
  | .bk e', D => ∀ Θ' G' H' σ', Nx K Cs hv ow Θ G H σ Θ' G' H' σ' e' → D.bk σ' H'
  | .ct e', D => ∀ Θ' G' H' σ', Nx K Cs hv ow Θ G H σ Θ' G' H' σ' e' → D.ct σ' H'
  | .rt o e', D => ∀ Θ' G' H' σ' v τ, Nx K Cs hv ow Θ G H σ Θ' G' H' σ' e' → RepO K Cs G' H' τ (fun _ => none) o v → Fresh ow Θ' H H' τ → D.rt v H'
  | .ex x e', _ => ∀ Θ' G' H' σ' cls d, Nx K Cs hv ow Θ G H σ Θ' G' H' σ' e' → ExOk K Xs G' H' x cls d → W cls d σ' H'
  | .bad, _ => False
theorem Fresh.back (st : Stp Θ G H Θ1 G1 H1) (s : Sts K Cs hv Θ1 G1 H1 e1 σ1) (h : Fresh ow Θ' H1 H' τ) : Fresh ow Θ' H H' τ := fun p m z => by
  obtain ⟨h1, ⟨k1, k2⟩ | k⟩ := h p m z
  · exact ⟨h1, .inl ⟨k1, st.back s k2⟩⟩
  · exact ⟨h1, .inr k⟩
theorem SQ.trans {f : Fl} {D : Ends} (q : SQ K Cs Xs hv ow W Θ G H σ f D) (a : Nx K Cs hv ow Θ G H σ Θ1 G1 H1 σ1 e1) : SQ K Cs Xs hv ow W Θ1 G1 H1 σ1 f D := by
  cases f with
  | nx e' => exact fun Θ' G' H' σ' b => q _ _ _ _ (a.trans b)
  | bk e' => exact fun Θ' G' H' σ' b => q _ _ _ _ (a.trans b)
  | ct e' => exact fun Θ' G' H' σ' b => q _ _ _ _ (a.trans b)
  | rt o e' => exact fun Θ' G' H' σ' v τ b r f => q _ _ _ _ _ _ (a.trans b) r (f.back a.st a.s)
  | ex x e' => exact fun Θ' G' H' σ' cls d b r => q _ _ _ _ _ _ (a.trans b) r
  | bad => exact q
theorem SQ.of {α : Type} {r : R α} {f : α → Sl → Fl} {D : Ends} (q : SQ K Cs Xs hv ow W Θ G H σ (Fl.of r f) D) : RQ (fun a e1 => SQ K Cs Xs hv ow W Θ G H σ (f a e1) D) (ExK K Cs Xs hv W Θ G H σ) r := by
  cases r with
  | ok a e1 => exact q
  | exc x e1 => exact fun cls d H' ⟨G', Θ', s1, s2, s3⟩ => q Θ' G' H' σ cls d (Nx.of s1 s2) s3
  | bad => exact q
/-! ### stores of things -/
theorem take_store {i : Nat} (s : Sts K Cs hv Θ G H e σ) (k : AVok K Cs Θ H0 G H σ U (.tm o) v) (hi : i < e.length) :
    ∃ Θ', Sts K Cs hv Θ' G H (e.set i (some o)) (σ.set i (some v)) ∧ (∀ a q, Θ a = some q → Θ' a = some q) ∧ (∀ a, Θ' a ≠ Θ a → U a ∧ H0 a = none) := by
  obtain ⟨τ, r, u⟩ := k
  have up : ∀ a q, Θ a = some q → (fun a => match τ a with | some m => some (i, m) | none => Θ a) a = some q := fun a q h => by
    show (match τ a with | some m => some (i, m) | none => Θ a) = some q
    cases w : τ a with
    | none => exact h
    | some m =>
      have := (u a m w).2.1
      rw [h] at this
      cases this
  refine ⟨fun a => match τ a with | some m => some (i, m) | none => Θ a, ?_, up, fun a h => ?_⟩
  · refine s.change (Same.refl _) s.gh (fun a q h => ?_) (fun p j m t _ => ⟨rfl, rfl, up p _ t⟩) (List.length_set ..) (fun j z => List.getElem?_set_ne (Ne.symm z)) (fun _ _ => rfl) fun o' hi' e' => ?_
    · have h : (match τ a with | some m => some (i, m) | none => Θ a) = some q := h
      cases w : τ a with
      | none =>
        rw [w] at h
        exact s.th a q h
      | some m =>
        obtain ⟨x, hx⟩ := (u a m w).2.2.2
        rw [hx]
        simp
    · cases e'
      refine ⟨v, by rw [List.getElem?_set_self (by rw [← s.len]; exact hi)], r.mono (fun _ _ z => by cases z) (Same.refl _) fun p m z => ⟨rfl, rfl, ?_⟩⟩
      rw [tof_some]
      show (match τ p with | some m => some (i, m) | none => Θ p) = _
      rw [z]
  · have h : (match τ a with | some m => some (i, m) | none => Θ a) ≠ Θ a := h
    cases w : τ a with
    | none =>
      rw [w] at h
      exact absurd rfl h
    | some m =>
      obtain ⟨h1, _, h2, _⟩ := u a m w
      exact ⟨h1, h2⟩
theorem AVok.own {Θ' : Ow} {σ' : L2.St} (k : AVok K Cs Θ H0 G H σ U (.tm o) v) (h : ∀ p, U p → Θ p = none → Θ' p = none) : AVok K Cs Θ' H0 G H σ' U (.tm o) v := by
  obtain ⟨τ, r, u⟩ := k
  exact ⟨τ, r, fun p m z => ⟨(u p m z).1, h p (u p m z).1 (u p m z).2.1, (u p m z).2.2⟩⟩
theorem Stp.own (st : Stp Θ G H Θ1 G1 H1) (m : ∀ a j, Θ1 a = some j → Θ2 a = some j) (h : ∀ a, Θ2 a ≠ Θ1 a → H a = none) : Stp Θ G H Θ2 G1 H1 := by
  refine ⟨st.g, fun a u q t => ?_, fun a i q => m a i (st.m a i q)⟩
  obtain ⟨h1, h2, h3⟩ := st.h a u q t
  refine ⟨h1, h2, ?_⟩
  by_cases z : Θ2 a = Θ1 a
  · rw [z]
    exact h3
  · have := h a z
    rw [q] at this
    cases this
theorem own_set {i : Nat} {w : Option V} (h : ow[i]? ≠ some true) : ∀ j : Nat, ow[j]? = some true → (σ.set i w)[j]? = σ[j]? := fun j hj => by
  rw [List.getElem?_set_ne]
  rintro rfl
  exact h hj
theorem setSs_ow : ∀ {is : List Nat} {os : List O} {e e' : Sl}, setSs ow is os e = some e' → ∀ i ∈ is, ow[i]? ≠ some true
  | [], _, _, _, _, i, hi => by cases hi
  | j :: is, [], _, _, h, i, hi => by cases h
  | j :: is, o :: os, e, e', h, i, hi => by
    have h : (match setS ow j o e with | some e => setSs ow is os e | none => none) = some e' := h
    cases q : setS ow j o e with
    | none =>
      rw [q] at h
      cases h
    | some e1 =>
      rw [q] at h
      rcases List.mem_cons.mp hi with rfl | hi
      · exact (setS_ok q).2.1
      · exact setSs_ow h i hi
theorem setT_ow {t : CT} (h : setT ow t d e = some e') : ∀ i ∈ tgSlots t, ow[i]? ≠ some true := by
  cases t with
  | nm j =>
    intro i hi
    have : i = j := by simpa [tgSlots] using hi
    subst this
    exact (setS_ok h).2.1
  | tp is =>
    unfold setT at h
    cases d <;> try (exact noO h)
    exact setSs_ow h
theorem putT_own {t : CT} {vs : List V} (h : setT ow t d e = some e') : ∀ i : Nat, ow[i]? = some true → (putT t d v vs σ)[i]? = σ[i]? := fun i hi => putT_at fun q => setT_ow h i q hi
/-! ### own lists changed -/
theorem Sts.own_at {i : Nat} {xs : List D} (s : Sts K Cs hv Θ G H e σ) (h : (e[i]?).join = some (.ol xs)) : ∃ p vs, σ[i]? = some (some (V.ref p)) ∧ H p = some (.lst vs) ∧ G p = none ∧ RpA K G vs xs ∧ Θ p = some (i, 0) := by
  obtain ⟨v, h1, p, vs, rfl, k1, k2, k3, k4⟩ := s.sl i _ h
  exact ⟨p, vs, h1, k1, k2, k3, tof_some.mp k4⟩
theorem Sts.wrOwn {i : Nat} {p : Addr} {xs ys : List D} {ws : List V} (s : Sts K Cs hv Θ G H e σ) (h : (e[i]?).join = some (.ol xs)) (hp : σ[i]? = some (some (.ref p))) (r : RpA K G ws ys) : Sts K Cs hv Θ G (upd H p (.lst ws)) (e.set i (some (.ol ys))) σ := by
  obtain ⟨q, vs, h1, k1, k2, k3, k4⟩ := s.own_at h
  rw [hp] at h1
  cases h1
  refine s.change (Same.refl _) (fun a u q => ?_) (fun a j q => ?_) (fun b j m t z => ?_) rfl (fun _ _ => rfl) (fun _ _ => rfl) fun o hi e' => ?_
  · rw [upd_ne]
    · exact s.gh a u q
    · rintro rfl
      rw [k2] at q
      cases q
  · by_cases z : a = p
    · subst z
      rw [upd_same]
      simp
    · rw [upd_ne z]
      exact s.th a j q
  · refine ⟨upd_ne ?_, rfl, t⟩
    rintro rfl
    rw [k4] at t
    cases t
    exact z rfl
  · cases e'
    exact ⟨.ref p, hp, p, ws, rfl, upd_same, k2, r, tof_some.mpr k4⟩
theorem Stp.wrOwn {q : Nat × Nat} {p : Addr} {u : HO} (t : Θ p = some q) : Stp Θ G H Θ G (upd H p u) := by
  refine ⟨Same.refl _, fun a w h q => ⟨?_, rfl, q⟩, fun _ _ h => h⟩
  rw [upd_ne]
  · exact h
  · rintro rfl
    rw [t] at q
    cases q
/-- a slot emptied -/
theorem Sts.wiped {i : Nat} (s : Sts K Cs hv Θ G H e σ) : Sts K Cs hv Θ G H (e.set i none) σ :=
  s.change (Same.refl _) s.gh s.th (fun p j m t _ => ⟨rfl, rfl, t⟩) rfl (fun _ _ => rfl) (fun _ _ => rfl) fun o _ h => nomatch h
theorem pl_at {i : Nat} {u : O} (s : Sts K Cs hv Θ G H e σ) (k : AVok K Cs Θ H0 G H σ U (.pl i) v) (q : (e[i]?).join = some u) : RepO K Cs G H (Tof Θ i) (hv i) u v := by
  obtain ⟨w, m1, m2⟩ := s.sl i _ q
  have k' : σ[i]? = some (some v) := k
  rw [m1] at k'
  cases k'
  exact m2
theorem retO_ok (hvo : ∀ i : Nat, ow[i]? ≠ some true → ∀ k, hv i k = none) (s : Sts K Cs hv Θ1 G1 H1 e σ) (st : Stp Θ G H Θ1 G1 H1) (k : AVok K Cs Θ1 H G1 H1 σ U av v) (hU : ∀ p, U p → H p = none) (h : retO ow av e = some (o, e')) :
    ∃ G2 τ, Stp Θ G H Θ1 G2 H1 ∧ Sts K Cs hv Θ1 G2 H1 e' σ ∧ RepO K Cs G2 H1 τ (fun _ => none) o v ∧ Fresh ow Θ1 H H1 τ := by
  have tk : ∀ av, AVok K Cs Θ1 H G1 H1 σ U av v → (take av e).map (fun p => (O.d p.1, p.2)) = some (o, e') → ∃ G2 τ, Stp Θ G H Θ1 G2 H1 ∧ Sts K Cs hv Θ1 G2 H1 e' σ ∧ RepO K Cs G2 H1 τ (fun _ => none) o v ∧ Fresh ow Θ1 H H1 τ := fun av k h => by
    cases w : take av e with
    | none =>
      rw [w] at h
      cases h
    | some p =>
      obtain ⟨d, e5⟩ := p
      rw [w] at h
      cases h
      obtain ⟨G2, f2, s2, r2⟩ := take_ok s k w
      exact ⟨G2, fun _ => none, f2.stp st hU, s2, r2, fun _ _ z => nomatch z⟩
  cases av with
  | tm u =>
    have h' : (u, e) = (o, e') := Option.some.inj h
    cases h'
    obtain ⟨τ, r, w⟩ := k
    exact ⟨G1, τ, st, s, r, fun p m z => ⟨(w p m z).2.2.2, .inl ⟨(w p m z).2.1, (w p m z).2.2.1⟩⟩⟩
  | pf i c m => exact tk _ k h
  | pl i =>
    have h : (match (e[i]?).join with
      | some (.d x) => some (O.d x, e)
      | some .hid => none
      | some .un => none
      | some o => if ow[i]? = some true then (take (.pl i) e).map (fun p => (O.d p.1, p.2)) else some (o, e.set i none)
      | none => none) = some (o, e') := h
    cases q : (e[i]?).join with
    | none =>
      rw [q] at h
      cases h
    | some u =>
      have r := pl_at s k q
      rw [q] at h
      have big : (if ow[i]? = some true then (take (.pl i) e).map (fun p => (O.d p.1, p.2)) else some (u, e.set i none)) = some (o, e') → ∃ G2 τ, Stp Θ G H Θ1 G2 H1 ∧ Sts K Cs hv Θ1 G2 H1 e' σ ∧ RepO K Cs G2 H1 τ (fun _ => none) o v ∧ Fresh ow Θ1 H H1 τ := fun h => by
        by_cases z : ow[i]? = some true
        · rw [if_pos z] at h
          exact tk _ k h
        · rw [if_neg z] at h
          cases h
          refine ⟨G1, Tof Θ1 i, st, s.wiped, r.mono (fun m w z2 => ?_) (Same.refl _) (fun p m w => ⟨rfl, rfl, w⟩), fun p m w => ⟨?_, .inr ⟨i, m, tof_some.mp w, z⟩⟩⟩
          · rw [hvo i z m] at z2
            cases z2
          · have := s.th p _ (tof_some.mp w)
            cases t : H1 p with
            | none => exact absurd t this
            | some y => exact ⟨y, rfl⟩
      cases u with
      | d x =>
        have h' : (O.d x, e) = (o, e') := Option.some.inj h
        cases h'
        exact ⟨G1, fun _ => none, st, s, r, fun _ _ z => nomatch z⟩
      | ol xs => exact big h
      | od xs => exact big h
      | ob c fs => exact big h
      | un => cases h
      | hid => cases h
/-! ### readings -/
theorem sw_any {l : Nat} {env : PySem.Env} {t : Option Expr} {N : List Str} {sc : Scope} {c : CE} (h : mE T N fl sc c x = true) (hc : c ≠ .bad) (hl : isLc x = false) : swapsWith x t l env = pure false := by
  cases x <;> first | rfl | skip
  · exact no (show false = true from (by simpa [isLc] using hl))
  all_goals (cases c <;> first | exact no h | exact absurd rfl hc)
end
end Y

/-! Y15: statements. -/
namespace Y
open PySem PySem.Spec PyProof.Rows L2
section
variable {T : Tb} {code : List FD} {Dp : PgT} {n : Nat} {fl : Option Scope} {W : WX} {X : Cx} {K : PySem.W.Frag} {Cs Xs : Cls} {hv : Nat → Nat → Option V} {ow : List Bool} {U U' : Addr → Prop} {τ : Tau} {Θ Θ0 Θ1 Θ2 Θ' : Ow} {G0 G G' G1 G2 H0 H H' H1 H2 : Hp} {e e' e0 e1 e2 : Sl} {σ σ' σ1 σ2 : L2.St} {av : AV} {v : V} {o : O} {d : D} {x : Expr} {b : Bool}
theorem swp_some {env : PySem.Env} {x y : Str} {p q pt pt2 : Pos} {kt k2 : Nat} {a b : Expr} (hk : env.scope.kind = .function) (hx : env.scope.names.lookup x = some .local) (hy : env.scope.names.lookup y = some .local) (hl : (p.line == q.line) = true) (hxy : x ≠ y)
    (h1 : ([a, b].any fun | .Starred .. => true | _ => false) = false) (h2 : [a, b].all (foldedForSure 8) = false) (h3 : [a, b].all (constantsAlone 8) = false) :
    swappedStores [.Tuple [.Name x p, .Name y q] kt pt] (.Tuple [a, b] k2 pt2) env = pure (some [x, y]) := by
  have kx : env.kindOf x = some .local := hx
  have ky : env.kindOf y = some .local := hy
  have hb : env.blockKind = .function := by unfold Env.blockKind; rw [hk]; rfl
  have hl2 : q.line = p.line := (beq_iff_eq.mp hl).symm
  have hd : [x, y].eraseDups.length = 2 := by
    rw [List.eraseDups_cons]
    simp [hxy, Ne.symm hxy, List.eraseDups_cons]
  unfold swappedStores
  simp only [hb]
  refine Eq.trans (if_neg (fun z => Bool.false_ne_true z)) ?_
  refine Eq.trans (if_neg (fun z => Bool.false_ne_true (h1.symm.trans z))) ?_
  have hn : ((([Expr.Name x p, Expr.Name y q] : List Expr).filterMap fun e => match e with
    | .Name id pos => if env.kindOf id == some .local && pos.line == ((([Expr.Name x p, Expr.Name y q] : List Expr).head?.map (·.pos.line)).getD 0) then some id else none
    | _ => none)) = [x, y] := by
    have e0 : ((([Expr.Name x p, Expr.Name y q] : List Expr).head?.map (·.pos.line)).getD 0) = p.line := rfl
    rw [e0]
    simp [List.filterMap_cons, List.filterMap_nil, kx, ky, hl2]
  generalize hg : List.filterMap _ _ = names
  have hh : names = [x, y] := hg.symm.trans hn
  subst hh
  have hd' : (([x, y].length != [Expr.Name x p, Expr.Name y q].length) || ([x, y].eraseDups.length != [x, y].length)) = false := by rw [hd]; rfl
  refine Eq.trans (if_neg (fun z => Bool.false_ne_true (hd'.symm.trans z))) ?_
  refine Eq.trans (if_neg (fun z => Bool.false_ne_true (h2.symm.trans z))) ?_
  exact Eq.trans (if_neg (fun z => Bool.false_ne_true (h3.symm.trans z))) rfl
theorem swp_none {env : PySem.Env} {ts xs : List Expr} {k k2 : Nat} {p p2 : Pos} (h0 : (xs.any fun | .Starred .. => true | _ => false) = false) (h : xs.all (foldedForSure 8) = true) : swappedStores [.Tuple ts k p] (.Tuple xs k2 p2) env = pure none := by
  unfold swappedStores
  simp only [h]
  split
  · rfl
  · split
    · rfl
    · split
      · rfl
      · rfl
theorem valOs_two {x1 x2 : AV} {o1 o2 : O} (h : valOs [x1, x2] e = some ([o1, o2], e')) : ∃ e1, valO x1 e = some (o1, e1) ∧ valO x2 e1 = some (o2, e') := by
  have h : (match valO x1 e with | some (x, e) => (match valOs [x2] e with | some (xs, e) => some (x :: xs, e) | none => none) | none => none) = some ([o1, o2], e') := h
  cases q1 : valO x1 e with
  | none =>
    rw [q1] at h
    cases h
  | some p =>
    obtain ⟨u1, e1⟩ := p
    rw [q1] at h
    have h : (match valOs [x2] e1 with | some (xs, e) => some (u1 :: xs, e) | none => none) = some ([o1, o2], e') := h
    have hh : valOs [x2] e1 = (match valO x2 e1 with | some (x, e) => some ([x], e) | none => none) := rfl
    rw [hh] at h
    cases q2 : valO x2 e1 with
    | none =>
      rw [q2] at h
      cases h
    | some p2 =>
      obtain ⟨u2, e2⟩ := p2
      rw [q2] at h
      cases h
      exact ⟨e1, rfl, q2⟩
theorem sLc (C : Ctx T code Dp n fl W X) {ws : List Nat} {t : CT} {it : CI} {ifs : CP} {el : CE} (hm : mE T X.N fl X.env.scope (.lc ws t it ifs el) x = true) (s : Sts X.K Dp.cs hv Θ G H e σ) {Q : VK} (q : RQ (OKE X Dp.cs hv Θ G H σ Q) (ExK X.K Dp.cs Dp.xs hv W Θ G H σ) (evE T.gc (run T.gc code n) (.lc ws t it ifs el) e)) :
    ∃ elt tg iter cs scope pos, x = .ListComp elt [⟨tg, iter, cs, 0⟩] scope pos ∧ blkC X.N X.env.scope scope (ownOf X.N scope) = true ∧ (∀ v, foldedSetIterable iter X.env v = pure v) ∧
      tLc (wI X tg iter) (gB X scope tg) (tB' X scope cs) (eB X scope elt) ((ownOf X.N scope).map (·.2)) σ H Q := by
  obtain ⟨elt, tg, iter, cs, scope, pos, rfl, m1, m2, m3, m4, m5, m6, m7⟩ := m_lc hm
  refine ⟨elt, tg, iter, cs, scope, pos, rfl, m2, nosetI m3 (RQ.nb (RQ.bind q)) _, ?_⟩
  rw [m1]
  have q : RQ (OKE X Dp.cs hv Θ G H σ Q) (ExK X.K Dp.cs Dp.xs hv W Θ G H σ) ((evI T.gc (run T.gc code n) it e).bind fun xs e0 => if noOwn e0 ws then
      (lcL (turnL T.gc (run T.gc code n) ws t ifs el) xs (wipeE e0 ws)).bind fun ds e => .ok (.tm (.ol ds)) (backE e0 e ws)
    else .bad) := q
  cases hI : evI T.gc (run T.gc code n) it e with
  | bad =>
    rw [hI] at q
    exact q.elim
  | exc y e0 =>
    rw [hI] at q
    have q : ExK X.K Dp.cs Dp.xs hv W Θ G H σ y e0 := q
    exact lc_none (sI it C m3 m7 s (tg := tg) (fun _ _ => False) (by rw [hI]; exact q)) fun _ _ z => z
  | ok ds e0 =>
    rw [hI] at q
    have q : RQ (OKE X Dp.cs hv Θ G H σ Q) (ExK X.K Dp.cs Dp.xs hv W Θ G H σ) (if noOwn e0 ws = true then
      (lcL (turnL T.gc (run T.gc code n) ws t ifs el) ds (wipeE e0 ws)).bind fun ds e => R.ok (.tm (.ol ds)) (backE e0 e ws)
    else .bad) := q
    by_cases hn : noOwn e0 ws = true
    · rw [if_pos hn] at q
      cases hL : lcL (turnL T.gc (run T.gc code n) ws t ifs el) ds (wipeE e0 ws) with
      | bad =>
        rw [hL] at q
        exact q.elim
      | exc y e1 =>
        exact absurd hL (lcL_nox _ _ _ _ _)
      | ok rs e1 =>
        rw [hL] at q
        have q : OKE X Dp.cs hv Θ G H σ Q (.tm (.ol rs)) (backE e0 e1 ws) := q
        have base := lc_rd (Cs := Dp.cs) (hv := hv) (G := G) C m4 m1 (sI it C m3 m7 s (QI X.K Dp.cs hv Θ G H σ ds e0) (by rw [hI]; exact fun J H' z => z))
          (fun s0 H0 A cl fp Θ G H e σ b e' s5 h5 => sIf ifs (C.blk s0 H0 scope cl A fp) m5 s5 h5)
          (fun s0 H0 A cl fp Θ G H e σ av e' s5 h5 => (sE el (C.blk s0 H0 scope cl A fp) m6 s5).1 _ (by rw [h5]; exact fun v H' z => z)) hn hL
        exact lc_mono base fun v H' z => q v H' z
    · rw [if_neg hn] at q
      exact q.elim
theorem asg_fin {i : Nat} {D : Ends} (s1 : Sts K Cs hv Θ1 G1 H1 e1 σ) (st1 : Stp Θ G H Θ1 G1 H1) (k1 : AVok K Cs Θ1 H G1 H1 σ U av v) (hV : valO av e1 = some (o, e2)) (hs : setS ow i o e2 = some e') (q : SQ K Cs Xs hv ow W Θ G H σ (.nx e') D) : D.nx (σ.set i (some v)) H1 := by
  obtain ⟨G2, f2, s2, k2⟩ := valO_ok s1 k1 hV
  obtain ⟨hi, how, rfl⟩ := setS_ok hs
  obtain ⟨Θ', s3, m3, c3⟩ := take_store s2 k2 hi
  have st2 : Stp Θ G H Θ1 G2 H1 := f2.stp st1 fun a ha => ha.elim
  exact q Θ' G2 H1 _ ⟨st2.own m3 fun a z => (c3 a z).2, s3, own_set how⟩
/-- what a statement needs of its place -/
structure SC (T : Tb) (code : List FD) (Dp : PgT) (n : Nat) (W : WX) (X : Cx) : Prop where
  C : Ctx T code Dp n none W X
  stk : X.stack = X.env :: X.outer
  frm : X.env.frame = some X.env.locals
  hk : X.env.scope.kind = .function
  po : PassesOwn (model X.prog X.w) X.A X.env X.xe
def gE (X : Cx) (tg : Expr) : TG := fun v σ H Q => ∃ t, PG X tg t ∧ t v σ H Q
theorem pg_e {tg : Expr} : PG X tg (gE X tg) := ⟨fun pins s σ H v u Q I r h => by
  obtain ⟨t, p, q⟩ := h
  exact p.run pins s σ H v u Q I r q⟩
theorem isLc_lc {N : List Str} {sc : Scope} {c : CE} (h : mE T N fl sc c x = true) (hc : c ≠ .bad) (hl : isLc x = true) : ∃ ws t it ifs el, c = .lc ws t it ifs el := by
  cases x <;> try (exact no hl)
  cases c <;> try (exact no h)
  · exact ⟨_, _, _, _, _, rfl⟩
  · exact absurd rfl hc
theorem two_par {i j : Nat} {x1 x2 : AV} {v w : V} {os : List O} {D : Ends} (hij : i ≠ j) (s1 : Sts K Cs hv Θ1 G1 H1 e1 σ) (st1 : Stp Θ G H Θ1 G1 H1) (P : AVs K Cs Θ1 H G1 H1 σ [x1, x2] [v, w] U)
    (hV : valOs [x1, x2] e1 = some (os, e2)) (hs : setSs ow [i, j] os e2 = some e') (q : SQ K Cs Xs hv ow W Θ G H σ (.nx e') D) : D.nx ((σ.set i (some v)).set j (some w)) H1 := by
  obtain ⟨G2, f2, s2, P2⟩ := valOs_ok s1 P hV
  have st2 : Stp Θ G H Θ1 G2 H1 := f2.stp st1 fun a ha => ha.elim
  rcases os with _ | ⟨o1, _ | ⟨o2, _ | ⟨o3, os⟩⟩⟩
  · cases P2
  · cases P2 with
    | cons _ _ h _ _ _ _ => cases h
  · cases P2 with
    | @cons _ _ _ _ U1 U2 _ k1 _ P3 h4 h5 h6 h7 =>
      cases P3 with
      | @cons _ _ _ _ U3 U4 _ k2 _ P4 g4 g5 g6 g7 =>
        have hs : (match setS ow i o1 e2 with | some e => setSs ow [j] [o2] e | none => none) = some e' := hs
        cases q1 : setS ow i o1 e2 with
        | none =>
          rw [q1] at hs
          cases hs
        | some e3 =>
          rw [q1] at hs
          have hs : (match setS ow j o2 e3 with | some e => setSs ow [] [] e | none => none) = some e' := hs
          cases q2 : setS ow j o2 e3 with
          | none =>
            rw [q2] at hs
            cases hs
          | some e4 =>
            rw [q2] at hs
            have hs : some e4 = some e' := hs
            cases hs
            obtain ⟨hi, how, rfl⟩ := setS_ok q1
            obtain ⟨hj, how2, rfl⟩ := setS_ok q2
            obtain ⟨Θa, s3, m3, c3⟩ := take_store s2 k1 hi
            have k2' : AVok K Cs Θa H G2 H1 (σ.set i (some v)) U3 (.tm o2) w := k2.own fun p hp ht => by
              by_cases z : Θa p = Θ1 p
              · rw [z]
                exact ht
              · exact absurd (g5 p hp) (h4 p (c3 p z).1)
            obtain ⟨Θb, s4, m4, c4⟩ := take_store s3 k2' hj
            refine q Θb G2 H1 _ ⟨(st2.own m3 fun a z => (c3 a z).2).own m4 fun a z => (c4 a z).2, s4, fun l hl => ?_⟩
            rw [own_set how2 l hl, own_set how l hl]
  · cases P2 with
    | cons _ _ h _ _ _ _ =>
      cases h with
      | cons _ _ h _ _ _ _ => cases h
end
end Y

/-! Y16a: statements by their forms. -/
namespace Y
open PySem PySem.Spec PyProof.Rows L2
section
variable {T : Tb} {code : List FD} {Dp : PgT} {n : Nat} {fl : Option Scope} {W : WX} {X : Cx} {K : PySem.W.Frag} {Cs Xs : Cls} {hv : Nat → Nat → Option V} {ow : List Bool} {U U' : Addr → Prop} {τ : Tau} {Θ Θ0 Θ1 Θ2 Θ' : Ow} {G0 G G' G1 G2 H0 H H' H1 H2 : Hp} {e e' e0 e1 e2 : Sl} {σ σ' σ1 σ2 : L2.St} {av : AV} {v : V} {o : O} {d : D} {x : Expr} {b : Bool}
theorem lcl_of {sc : Scope} {y : Str} (h : (match sc.names.lookup y with | some .local => true | _ => false) = true) : sc.names.lookup y = some .local := by
  split at h
  · assumption
  · cases h
/-- the form of a loop's turn -/
theorem turnQ {f : Fl} {g : Sl → Fl} {D : Ends} {N : L2.St → Hp → Prop}
    (q : SQ K Cs Xs hv ow W Θ G H σ (match f with | .nx e => g e | .ct e => g e | .bk e => .nx e | .rt o e => .rt o e | .ex x e => .ex x e | .bad => .bad) D)
    (k : ∀ Θ' G' H' σ' e', Nx K Cs hv ow Θ G H σ Θ' G' H' σ' e' → SQ K Cs Xs hv ow W Θ' G' H' σ' (g e') D → N σ' H') : SQ K Cs Xs hv ow W Θ G H σ f { D with nx := N, ct := N, bk := D.nx } := by
  cases f with
  | nx e1 => exact fun Θ' G' H' σ' b => k _ _ _ _ _ b (SQ.trans q b)
  | ct e1 => exact fun Θ' G' H' σ' b => k _ _ _ _ _ b (SQ.trans q b)
  | bk e1 => exact fun Θ' G' H' σ' b => q _ _ _ _ b
  | rt o e1 => exact q
  | ex x e1 => exact q
  | bad => exact q
theorem m_asg {N : List Str} {sc : Scope} {st : Stmt} {i : Nat} {a : CE} (hm : mS T N sc (.asg i a) st = true) : ∃ y p x pos, st = .Assign [.Name y p] x pos ∧ slotB N i y = true ∧ locB none sc y = true ∧ mE T N none sc a x = true := by
  rcases st <;> try (exact no hm)
  rename_i ts x pos
  rcases ts with _ | ⟨t, ts⟩ <;> try (exact no hm)
  cases t <;> try (exact no hm)
  rcases ts with _ | ⟨t2, ts⟩ <;> try (exact no hm)
  obtain ⟨m1, m2, m3⟩ := and3 hm
  exact ⟨_, _, _, _, rfl, m1, m2, m3⟩
theorem sw_lc {elt : Expr} {gs : List Comprehension} {scope : Scope} {pos py : Pos} {y : Str} {l : Nat} {env : PySem.Env} (hk : env.scope.kind = .function) :
    swapsWith (.ListComp elt gs scope pos) (some (.Name y py)) l env = pure (env.kindOf y == some .local && py.line == pos.line && !(scope.names.any fun (m, k) => m == y && (k == .local || k == .cell))) := by
  have hb : env.blockKind = .function := by
    unfold Env.blockKind
    rw [hk]
    rfl
  unfold swapsWith
  simp only [hb]
  rfl
theorem m_unp {N : List Str} {sc : Scope} {st : Stmt} {is : List Nat} {a : CE} (hm : mS T N sc (.unp is a) st = true) : ∃ ts k p x pos, st = .Assign [.Tuple ts k p] x pos ∧ unpB x = true ∧ tgB N none sc (.tp is) (.Tuple ts k p) = true ∧ mE T N none sc a x = true := by
  rcases st <;> try (exact no hm)
  rename_i ts x pos
  rcases ts with _ | ⟨t, ts⟩ <;> try (exact no hm)
  cases t <;> try (exact no hm)
  rcases ts with _ | ⟨t2, ts⟩ <;> try (exact no hm)
  obtain ⟨m1, m2, m3⟩ := and3 hm
  exact ⟨_, _, _, _, _, rfl, m1, m2, m3⟩
theorem m_asgT {N : List Str} {sc : Scope} {st : Stmt} {is : List Nat} {es : CEs} (hm : mS T N sc (.asgT is es) st = true) : ∃ i j y z p q kt pt a b k2 pt2 pos, is = [i, j] ∧ st = .Assign [.Tuple [.Name y p, .Name z q] kt pt] (.Tuple [a, b] k2 pt2) pos ∧
    N[i]? = some y ∧ N[j]? = some z ∧ i ≠ j ∧ y ≠ z ∧ (p.line == q.line) = true ∧ sc.names.lookup y = some .local ∧ sc.names.lookup z = some .local ∧
    ([a, b].any fun | .Starred .. => true | _ => false) = false ∧ [a, b].all (foldedForSure 8) = false ∧ [a, b].all (constantsAlone 8) = false ∧ mEs T N none sc es [a, b] = true := by
  rcases is with _ | ⟨i, is⟩ <;> try (exact no hm)
  rcases is with _ | ⟨j, is⟩ <;> try (exact no hm)
  rcases is with _ | ⟨l, is⟩ <;> try (exact no hm)
  rcases st <;> try (exact no hm)
  rename_i ts x pos
  rcases ts with _ | ⟨t, ts⟩ <;> try (exact no hm)
  cases t <;> try (exact no hm)
  rename_i us kt pt
  rcases us with _ | ⟨u1, us⟩ <;> try (exact no hm)
  cases u1 <;> try (exact no hm)
  rename_i y p
  rcases us with _ | ⟨u2, us⟩ <;> try (exact no hm)
  cases u2 <;> try (exact no hm)
  rename_i z q
  rcases us with _ | ⟨u3, us⟩ <;> try (exact no hm)
  rcases ts with _ | ⟨t2, ts⟩ <;> try (exact no hm)
  cases x <;> try (exact no hm)
  rename_i xs k2 pt2
  rcases xs with _ | ⟨a, xs⟩ <;> try (exact no hm)
  rcases xs with _ | ⟨b, xs⟩ <;> try (exact no hm)
  rcases xs with _ | ⟨c, xs⟩ <;> try (exact no hm)
  have hm : ((((((slotB N i y && slotB N j z) && (decide (i ≠ j) && decide (y ≠ z) && (p.line == q.line))) && lclB sc y) && lclB sc z) &&
      (!([a, b].any fun | .Starred .. => true | _ => false) && !([a, b].all (foldedForSure 8)) && !([a, b].all (constantsAlone 8)))) && mEs T N none sc es [a, b]) = true := hm
  obtain ⟨m1, m2, m3, m4, m5, m6, m7⟩ : _ ∧ _ ∧ _ ∧ _ ∧ _ ∧ _ ∧ _ := by
    simp only [Bool.and_eq_true] at hm
    obtain ⟨⟨⟨⟨⟨⟨m1, m2⟩, m3⟩, m4⟩, m5⟩, m6⟩, m7⟩ := hm
    exact ⟨m1, m2, m3, m4, m5, m6, m7⟩
  refine ⟨i, j, y, z, p, q, kt, pt, a, b, k2, pt2, pos, rfl, rfl, slot_of m1, slot_of m2, of_decide_eq_true m3.1.1, of_decide_eq_true m3.1.2, m3.2, lcl_of m4, lcl_of m5, ?_, ?_, ?_, m7⟩
  · exact Bool.not_eq_true' _ ▸ m6.1.1
  · exact Bool.not_eq_true' _ ▸ m6.1.2
  · exact Bool.not_eq_true' _ ▸ m6.2
theorem m_ex {N : List Str} {sc : Scope} {st : Stmt} {a : CE} (hm : mS T N sc (.ex a) st = true) : ∃ x pos, st = .Expr x pos ∧ isLc x = false ∧ mE T N none sc a x = true := by
  rcases st <;> try (exact no hm)
  obtain ⟨m1, m2⟩ := and2 hm
  exact ⟨_, _, rfl, by simpa using m1, m2⟩
theorem m_app {N : List Str} {sc : Scope} {st : Stmt} {i : Nat} {a : CE} (hm : mS T N sc (.app i a) st = true) : ∃ y p ap x cp pos, st = .Expr (.Call (.Attribute (.Name y p) ("append" : Str) ap) [x] [] cp) pos ∧ slotB N i y = true ∧ visB sc y = true ∧ plainName y = true ∧ (ap.endLine == cp.line) = true ∧ mE T N none sc a x = true := by
  rcases st <;> try (exact no hm)
  rename_i x pos
  cases x <;> try (exact no hm)
  rename_i f xs kws cp
  cases f <;> try (exact no hm)
  rename_i o m ap
  cases o <;> try (exact no hm)
  rcases xs with _ | ⟨x, xs⟩ <;> try (exact no hm)
  rcases xs with _ | ⟨x2, xs⟩ <;> try (exact no hm)
  rcases kws with _ | ⟨k, kws⟩ <;> try (exact no hm)
  obtain ⟨m1, m2, m3, m4, m5, m6⟩ := and6 hm
  have e := of_decide_eq_true m4
  subst e
  exact ⟨_, _, _, _, _, _, rfl, m1, m2, m3, m5, m6⟩
theorem m_sti {N : List Str} {sc : Scope} {st : Stmt} {i : Nat} {k a : CE} (hm : mS T N sc (.sti i k a) st = true) : ∃ y p ix sp x pos, st = .Assign [.Subscript (.Name y p) ix sp] x pos ∧ slotB N i y = true ∧ visB sc y = true ∧ plainName y = true ∧ isLc x = false ∧ mE T N none sc k ix = true ∧ mE T N none sc a x = true ∧ k ≠ .bad := by
  rcases st <;> try (exact no hm)
  rename_i ts x pos
  rcases ts with _ | ⟨t, ts⟩ <;> try (exact no hm)
  cases t <;> try (exact no hm)
  rename_i o ix sp
  cases o <;> try (exact no hm)
  rcases ts with _ | ⟨t2, ts⟩ <;> try (exact no hm)
  obtain ⟨m1, m2, m3, m4, m5, m6⟩ := and6 hm
  obtain ⟨nb, m5⟩ := and2 m5
  exact ⟨_, _, _, _, _, _, rfl, m1, m2, m3, by simpa using m4, m5, m6, by rintro rfl; exact no nb⟩
theorem m_aug {N : List Str} {sc : Scope} {st : Stmt} {i : Nat} {o : BOp} {a : CE} (hm : mS T N sc (.aug i o a) st = true) : ∃ y p op x pos, st = .AugAssign (.Name y p) op x pos ∧ slotB N i y = true ∧ locB none sc y = true ∧ bopB o op = true ∧ mE T N none sc a x = true := by
  rcases st <;> try (exact no hm)
  rename_i t op x pos
  cases t <;> try (exact no hm)
  obtain ⟨m1, m2, m3, m4⟩ := and4 hm
  exact ⟨_, _, _, _, _, rfl, m1, m2, m3, m4⟩
theorem m_ret {N : List Str} {sc : Scope} {st : Stmt} {a : CE} (hm : mS T N sc (.ret a) st = true) : ∃ x pos, st = .Return (some x) pos ∧ mE T N none sc a x = true := by
  rcases st <;> try (exact no hm)
  rename_i x pos
  cases x with
  | none => exact no hm
  | some x => exact ⟨_, _, rfl, hm⟩
theorem m_retN {N : List Str} {sc : Scope} {st : Stmt} (hm : mS T N sc .retN st = true) : ∃ pos, st = .Return none pos := by
  rcases st <;> try (exact no hm)
  rename_i x pos
  cases x with
  | none => exact ⟨_, rfl⟩
  | some x => exact no hm
theorem m_ifs {N : List Str} {sc : Scope} {st : Stmt} {t : CE} {a b : CSs} (hm : mS T N sc (.ifs t a b) st = true) : ∃ c x y pos, st = .If c x y pos ∧ mE T N none sc t c = true ∧ mSs T N sc a x = true ∧ mSs T N sc b y = true := by
  rcases st <;> try (exact no hm)
  obtain ⟨m1, m2, m3⟩ := and3 hm
  exact ⟨_, _, _, _, rfl, m1, m2, m3⟩
theorem m_for {N : List Str} {sc : Scope} {st : Stmt} {t : CT} {it : CI} {b : CSs} (hm : mS T N sc (.for t it b) st = true) : ∃ tg iter body pos, st = .For tg iter body [] pos ∧ tgB N none sc t tg = true ∧ mI T N none sc it iter = true ∧ mSs T N sc b body = true ∧ enOk it tg = true := by
  rcases st <;> try (exact no hm)
  rename_i tg iter body els pos
  rcases els with _ | ⟨z, els⟩ <;> try (exact no hm)
  obtain ⟨m1, m2, m3⟩ := and3 hm
  obtain ⟨m1, m4⟩ := and2 m1
  exact ⟨_, _, _, _, rfl, m1, m2, m3, m4⟩
theorem m_whl {N : List Str} {sc : Scope} {st : Stmt} {t : CE} {b : CSs} (hm : mS T N sc (.whl t b) st = true) : ∃ c body pos, st = .While c body [] pos ∧ mE T N none sc t c = true ∧ mSs T N sc b body = true := by
  rcases st <;> try (exact no hm)
  rename_i c body els pos
  rcases els with _ | ⟨z, els⟩ <;> try (exact no hm)
  obtain ⟨m1, m2⟩ := and2 hm
  exact ⟨_, _, _, rfl, m1, m2⟩
theorem swn_unp {env : PySem.Env} {ts : List Expr} {k : Nat} {p : Pos} (h : unpB x = true) : swappedStores [.Tuple ts k p] x env = pure none := by
  cases x <;> first | rfl | skip
  rename_i xs k2 p2
  obtain ⟨h1, h2⟩ := and2 h
  exact swp_none ((Bool.not_eq_true' _).mp h1) h2
theorem sws_unp {env : PySem.Env} {ts : List Expr} {k : Nat} {p : Pos} {l : Nat} : swapsWithSole [.Tuple ts k p] x l env = pure false := by
  cases x <;> rfl
theorem sws_sub {env : PySem.Env} {o ix : Expr} {p : Pos} {l : Nat} : swapsWithSole [.Subscript o ix p] x l env = pure false := by
  cases x <;> rfl
theorem as_sub {env : PySem.Env} {o ix : Expr} {p : Pos} {N : List Str} {sc : Scope} {c : CE} (h : mE T N fl sc c ix = true) (hc : c ≠ .bad) : ∀ v, assign (.Subscript o ix p) env v = (do
    let ov ← holding [v] (eval o env)
    let iv ← holding [v, ov] (eval ix env)
    standAt p
    holding [v, ov, iv] (setItem ov iv v)
    release [v, ov, iv] []) := by
  intro v
  cases ix <;> first | rfl | skip
  all_goals (cases c <;> first | exact no h | exact absurd rfl hc)
theorem rp_ty {v : V} (h : ∃ p vs, v = V.ref p ∧ H p = some (.lst vs)) : tyV K "list" v H := by
  obtain ⟨p, vs, rfl, h⟩ := h
  exact .inl ⟨rfl, vs, SqL.of h⟩
def iW (X : Cx) (op : Operator) : TIp := fun x y H Q => ∀ pins s σ v u, Inv X pins σ H s → RelV x v → RelV y u → wpAny (model X.prog X.w) X.A (inplaceOp op v u) (EP X pins σ Q) X.xe s
theorem ip_w {op : Operator} : PIp X op (iW X op) := fun pins s σ H x y v u Q I r1 r2 h => h pins s σ v u I r1 r2
theorem iW.by {op : Operator} {r : TIp} {x y : V} {Q : VK} (o : PIp X op r) (h : r x y H Q) : iW X op x y H Q := fun pins s σ v u I r1 r2 => o pins s σ H x y v u Q I r1 r2 h
theorem aug_rd {o : BOp} {op : Operator} {v1 v2 : V} {p q r : D} {Q : VK} (r1 : Rp K H v1 p) (r2 : Rp K H v2 q) (hb : bopB o op = true) (h : augD o p q = some r) (k : ∀ z, (∀ G, Rp K G z r) → Q z H) : iW X op v1 v2 H Q := by
  cases o with
  | add =>
    cases op <;> try (exact no hb)
    cases p <;> try (exact noO h)
    · cases q <;> try (exact noO h)
      cases rp_int r1
      cases rp_int r2
      cases h
      exact iW.by ip_add ⟨_, _, rfl, rfl, k _ fun _ => .int _⟩
    · rename_i xx
      cases q <;> try (exact noO h)
      rename_i yy
      cases rp_str r1
      cases rp_str r2
      have h' : (if xx.length + yy.length ≤ sizeLine then some (PyData.str (xx ++ yy)) else none) = some r := h
      by_cases hz : xx.length + yy.length ≤ sizeLine
      · rw [if_pos hz] at h'
        cases h'
        exact iW.by iop_add_str ⟨_, _, rfl, rfl, hz, k _ fun _ => .str _⟩
      · rw [if_neg hz] at h'
        cases h'
  | sub =>
    cases op <;> try (exact no hb)
    cases p <;> try (exact noO h)
    cases q <;> try (exact noO h)
    cases rp_int r1
    cases rp_int r2
    cases h
    exact iW.by ip_sub ⟨_, _, rfl, rfl, k _ fun _ => .int _⟩
  | mul => exact noO h
  | fdiv => exact noO h
  | mod => exact noO h
  | pow => exact noO h
end
end Y

/-! Y16b: what a handler gives back. -/
namespace Y
open PySem PySem.Spec PyProof.Rows L2
section
variable {T : Tb} {code : List FD} {Dp : PgT} {n : Nat} {fl : Option Scope} {W : WX} {X : Cx} {K : PySem.W.Frag} {Cs Xs : Cls} {hv : Nat → Nat → Option V} {ow : List Bool} {U U' : Addr → Prop} {τ : Tau} {Θ Θ0 Θ1 Θ2 Θ' : Ow} {G0 G G' G1 G2 H0 H H' H1 H2 : Hp} {e e' e0 e1 e2 : Sl} {σ σ' σ1 σ2 : L2.St} {av : AV} {v : V} {o : O} {d : D} {x : Expr} {b : Bool}
theorem ExOk.mono {x : Ex} {cls : Value} {dd : Option Addr} (h : ExOk K Xs G H x cls dd) (g : Same G G') (k : ∀ b o, H b = some o → H' b = some o) : ExOk K Xs G' H' x cls dd := by
  obtain ⟨C, nms, h1, h2, h3, h4⟩ := h.ex
  refine ⟨⟨C, nms, h1, h2, h3, fun z => ?_⟩, fun a z => by
    obtain ⟨nvs, w⟩ := h.dd a z
    exact ⟨nvs, k _ _ w⟩⟩
  obtain ⟨d1, nvs, k1, k2, k3⟩ := h4 z
  refine ⟨d1, nvs, k1, k _ _ k2, fun i nm y w1 w2 => ?_⟩
  obtain ⟨w, r1, r2⟩ := k3 i nm y w1 w2
  exact ⟨w, r1, Rp.mono g y w r2⟩
theorem mH_star {N : List Str} {sc : Scope} {nm : Option Str} {h : HX} {r : Expr} (m : mH T sc nm h r = true) : ∀ env es, starEach (r :: es) env = (false, eval r env) :: starEach es env := by
  intro env es
  cases r <;> first | rfl | skip
  cases h <;> first | exact no m | skip
  rename_i x
  cases x <;> exact no m
theorem hx_ok (pg : PgOk T code Dp X.K X.mg) {a : Addr} {oe : Obj} {pn : List (Addr × Obj)} {cls : Value} {dx : Option Addr} {ex : Ex} {nm : Option Str} (hz : Zc cls dx oe) (hf : ∃ vs, oe.data = .fields vs) :
    ∀ (h : HX) {r : Expr} {dd : D}, mH T X.env.scope nm h r = true → h.ev ex = some dd → ∀ {Θ : Ow} {G H : Hp} {e : Sl} {σ : L2.St}, Sts X.K Cs hv Θ G H e σ → ExOk X.K Dp.xs G H ex cls dx → (∀ y, nm = some y → ∃ j : Nat, X.N[j]? = some y ∧ Vis X.env.scope y ∧ σ[j]? = some (some (.ref a))) →
      ∀ Q : VK, (∀ v H' G', Stp Θ G H Θ G' H' → Sts X.K Cs hv Θ G' H' e σ → (∀ b o, H b = some o → H' b = some o) → Rp X.K G' v dd → Q v H') → wE (X.suite a ((a, oe) :: pn)) r σ H Q
  | .d y, r, dd, m, hd, Θ, G, H, e, σ, s, eo, vy, Q, k => by
    cases hd
    have kk : ∀ v, Rp X.K G v y → Q v H := fun v r => k v H G Stp.refl s (fun _ _ z => z) r
    cases r <;> try (cases y <;> exact no m)
    rename_i c kd pos
    cases y <;> cases c <;> try (exact no m)
    · exact wE.by pe_non (kk _ .non)
    · rename_i b1 b2
      have e1 : b1 = b2 := beq_iff_eq.mp m
      subst e1
      exact wE.by pe_bl (kk _ (.bl _))
    · rename_i b1 b2
      have e1 : b1 = b2 := beq_iff_eq.mp m
      subst e1
      exact wE.by pe_int (kk _ (.int _))
    · rename_i b1 b2
      have e1 : b1 = b2 := of_decide_eq_true m
      subst e1
      exact wE.by pe_str (kk _ (.str _))
  | .fld c k0, r, dd, m, hd, Θ, G, H, e, σ, s, eo, vy, Q, k => by
    cases r <;> try (exact no m)
    rename_i o f pos
    cases o <;> try (exact no m)
    rename_i y p
    obtain ⟨m1, m2, m3⟩ := and3 m
    have m1 : nm = some y := of_decide_eq_true m1
    replace hd : (if ex.c = c then ex.fs[k0]? else none) = some dd := hd
    by_cases hc : ex.c = c
    · rw [if_pos hc] at hd
      subst hc
      obtain ⟨j, j1, j2, j3⟩ := vy y m1
      obtain ⟨p1, p2, _⟩ := plain_of m2
      cases q : T.xs[ex.c]? with
      | none =>
        rw [q] at m3
        exact no m3
      | some pr =>
        rw [q] at m3
        have m3 : pr.2[k0]? = some f := of_decide_eq_true m3
        obtain ⟨C1, hC1, _⟩ := pg.rs _ _ q
        obtain ⟨C, nms, h1, h2, h3, h4⟩ := eo.ex
        rw [hC1] at h1
        cases h1
        obtain ⟨t1, t2, t3⟩ := pg.xf _ _ _ hC1
        have hm : f ∈ pr.2 := List.mem_of_getElem? m3
        obtain ⟨dd0, nvs, e1, e2, e3⟩ := h4 (fun z => by rw [z] at hm; cases hm)
        obtain ⟨w, w1, w2⟩ := e3 k0 f dd m3 hd
        refine wE.by (pe_xf t1 (t3 f hm) hz hf (pe_var j1 j2 p1 p2)) ?_
        exact ⟨_, j3, rfl, h2, dd0, nvs, w, e1, e2, w1, k w H G Stp.refl s (fun _ _ z => z) w2⟩
    · rw [if_neg hc] at hd
      cases hd
  | .tup h1 h2, r, dd, m, hd, Θ, G, H, e, σ, s, eo, vy, Q, k => by
    cases r <;> try (exact no m)
    rename_i xs kd pos
    rcases xs with _ | ⟨r1, xs⟩ <;> try (exact no m)
    rcases xs with _ | ⟨r2, xs⟩ <;> try (exact no m)
    rcases xs with _ | ⟨r3, xs⟩ <;> try (exact no m)
    obtain ⟨m1, m2⟩ := and2 m
    have hd : (match h1.ev ex, h2.ev ex with
      | some p, some q => some (PyData.tuple [p, q])
      | _, _ => none) = some dd := hd
    cases q1 : h1.ev ex with
    | none =>
      rw [q1] at hd
      cases hd
    | some d1 =>
      cases q2 : h2.ev ex with
      | none =>
        rw [q1, q2] at hd
        cases hd
      | some d2 =>
        rw [q1, q2] at hd
        cases hd
        refine wE.by (pe_tup (pa_cons pe_w (pa_cons pe_w pa_nil (mH_star (N := []) m2 _ _)) (mH_star (N := []) m1 _ _))) ?_
        refine hx_ok pg hz hf h1 m1 q1 s eo vy _ fun v1 H1 G1 st1 s1 k1 r1 => ?_
        refine hx_ok pg hz hf h2 m2 q2 s1 (eo.mono st1.g k1) vy _ fun v2 H2 G2 st2 s2 k2 r2 => ?_
        refine ⟨by show 2 ≤ sizeLine; decide, fun p hp => ?_⟩
        have hg : G2 p = none := s2.noG hp
        refine k _ _ (upd G2 p (.tup [v1, v2])) ((st1.trans st2).trans ?_) ?_ (fun b o z => ?_) (.tup (SqT.of upd_same) (.cons (Rp.mono (st2.g.trans (Same.new hg)) _ _ r1) (.cons (Rp.mono (Same.new hg) _ _ r2) .nil)))
        · refine ⟨Same.new hg, fun b o z t => ?_, fun _ _ z => z⟩
          have hb : b ≠ p := fun w => by
            rw [w, hp] at z
            cases z
          exact ⟨by rw [upd_ne hb]; exact z, upd_ne hb, t⟩
        · refine s2.step (Same.new hg) (fun b o z => ?_) (fun b q t => ?_) fun b q t => ?_
          · by_cases hb : b = p
            · subst hb
              rw [upd_same] at z ⊢
              exact z
            · rw [upd_ne hb] at z ⊢
              exact s2.gh b o z
          · by_cases hb : b = p
            · subst hb
              rw [upd_same]
              simp
            · rw [upd_ne hb]
              exact s2.th b q t
          · have hb : b ≠ p := fun w => by
              have := s2.th b q t
              rw [w, hp] at this
              exact this rfl
            exact ⟨upd_ne hb, upd_ne hb, t⟩
        · have z2 := k2 b o (k1 b o z)
          have hb : b ≠ p := fun w => by
            rw [w, hp] at z2
            cases z2
          rw [upd_ne hb]
          exact z2
  | .isi cs cn h1 h2, r, dd, m, hd, Θ, G, H, e, σ, s, eo, vy, Q, k => by
    cases r <;> try (exact no m)
    rename_i t0 a0 b0 pos
    cases t0 <;> try (exact no m)
    rename_i f0 xs kws p0
    cases f0 <;> try (exact no m)
    rename_i i0 p1
    rcases xs with _ | ⟨x1, xs⟩ <;> try (exact no m)
    rcases xs with _ | ⟨x2, xs⟩ <;> cases x1 <;> try (exact no m)
    rename_i y0 p2
    rcases xs with _ | ⟨x3, xs⟩ <;> cases x2 <;> try (exact no m)
    rename_i z0 p3
    rcases kws with _ | ⟨kw, kws⟩ <;> try (exact no m)
    have m : ((((((((decide (i0 = ("isinstance" : Str)) && glB X.env.scope i0) && decide (nm = some y0)) && plainName y0) && decide (z0 = cn)) && glB X.env.scope z0) && plainName z0) && decide (T.xh.lookup cn = some cs)) && mH T X.env.scope nm h1 a0 && mH T X.env.scope nm h2 b0) = true := m
    simp only [Bool.and_eq_true] at m
    obtain ⟨⟨⟨⟨⟨⟨⟨⟨⟨m1, m2⟩, m3⟩, m4⟩, m5⟩, m6⟩, m7⟩, m8⟩, m9⟩, m10⟩ := m
    have e1 : i0 = ("isinstance" : Str) := of_decide_eq_true m1
    have e3 : nm = some y0 := of_decide_eq_true m3
    have e5 : z0 = cn := of_decide_eq_true m5
    have e8 : T.xh.lookup cn = some cs := of_decide_eq_true m8
    subst e1 e5
    obtain ⟨j, j1, j2, j3⟩ := vy y0 e3
    obtain ⟨p1', p2', _⟩ := plain_of m4
    obtain ⟨Cn, c1, c2⟩ := pg.xh _ _ e8
    obtain ⟨C, nms, x1, x2, x3, x4⟩ := eo.ex
    obtain ⟨_, b2⟩ := c2 _ _ _ x1
    obtain ⟨_, t2, _⟩ := pg.xf _ _ _ x1
    subst x2
    have hdd : ∀ dd, dx = some dd → ∃ fs, H dd = some (.xd fs) := fun dd z => eo.dd dd z
    have hx : h1.ev ex = some dd ∧ ex.c ∈ cs ∨ h2.ev ex = some dd ∧ ex.c ∉ cs := by
      have hd : (if ex.c ∈ cs then h1.ev ex else h2.ev ex) = some dd := hd
      by_cases w : ex.c ∈ cs
      · rw [if_pos w] at hd
        exact .inl ⟨hd, w⟩
      · rw [if_neg w] at hd
        exact .inr ⟨hd, w⟩
    have hg : Gl (X.suite a ((a, oe) :: pn)) "isinstance" := gl_of (X := X) m2
    have hg2 : Gl (X.suite a ((a, oe) :: pn)) z0 := gl_of (X := X) m6
    refine wE.by (pe_ifExp (pt_val (pe_callB (call_isD t2 hz hf) hg (pg.bi _ (by decide +kernel)) (by decide +kernel) (pa_cons (pe_var j1 j2 p1' p2') (pa_cons (pe_glob (v := .ref Cn) hg2 c1 rfl (plain_of m7).1) pa_nil rfl) rfl) (by decide +kernel) (by decide +kernel) rfl rfl) (fun _ => rfl)) pe_w pe_w) ?_
    refine ⟨_, j3, _, _, decide (ex.c ∈ cs), rfl, hdd, fun u z => z, b2, decide (ex.c ∈ cs), rfl, ?_⟩
    rcases hx with ⟨w1, w2⟩ | ⟨w1, w2⟩
    · rw [decide_eq_true w2]
      exact iteT (hx_ok pg hz hf h1 m9 w1 s eo vy Q k)
    · rw [decide_eq_false w2]
      exact iteF (hx_ok pg hz hf h2 m10 w1 s eo vy Q k)
end
end Y

/-! Y16: statements. -/
namespace Y
open PySem PySem.Spec PyProof.Rows L2
section
variable {T : Tb} {code : List FD} {Dp : PgT} {n : Nat} {fl : Option Scope} {W : WX} {X : Cx} {K : PySem.W.Frag} {Cs Xs : Cls} {hv : Nat → Nat → Option V} {ow : List Bool} {U U' : Addr → Prop} {τ : Tau} {Θ Θ0 Θ1 Θ2 Θ' : Ow} {G0 G G' G1 G2 H0 H H' H1 H2 : Hp} {e e' e0 e1 e2 : Sl} {σ σ' σ1 σ2 : L2.St} {av : AV} {v : V} {o : O} {d : D} {x : Expr} {b : Bool}
theorem seqS {r : R AV} {ok : AV → Sl → Prop} (st : Stp Θ G H Θ1 G1 H1) (h : ∀ Q, RQ (OKE X Cs hv Θ1 G1 H1 σ Q) (ExK X.K Cs Xs hv W Θ1 G1 H1 σ) r → wE X x σ H1 Q) (q : RQ ok (ExK X.K Cs Xs hv W Θ G H σ) r) :
    wE X x σ H1 (fun v H' => ∃ y e' G' Θ' U, Stp Θ1 G1 H1 Θ' G' H' ∧ Sts X.K Cs hv Θ' G' H' e' σ ∧ AVok X.K Cs Θ' H1 G' H' σ U y v ∧ (∀ p, U p → Θ' p = none ∧ H1 p = none ∧ ∃ u, H' p = some u) ∧ ok y e') :=
  h _ (q.imp (fun a e q v H' ⟨G', Θ', U, z1, z2, z3, z4⟩ => ⟨a, e, G', Θ', U, z1, z2, z3, z4, q⟩) fun _ _ z => ExK.step st z)
theorem seqST {r : R Bool} {ok : Bool → Sl → Prop} (h : ∀ Q, RQ (OKT X Cs hv Θ1 G1 H1 σ Q) (ExK X.K Cs Xs hv W Θ1 G1 H1 σ) r → wT X x σ H1 Q) (q : RQ ok (ExK X.K Cs Xs hv W Θ1 G1 H1 σ) r) :
    wT X x σ H1 (fun c H' => ∃ e' G' Θ', Stp Θ1 G1 H1 Θ' G' H' ∧ Sts X.K Cs hv Θ' G' H' e' σ ∧ ok c e') :=
  h _ (q.imp (fun a e q H' ⟨_, G', Θ', z1, z2⟩ => ⟨e, G', Θ', z1, z2, q⟩) fun _ _ z => z)
theorem m_ins {N : List Str} {sc : Scope} {st : Stmt} {i : Nat} {k a : CE} (hm : mS T N sc (.ins i k a) st = true) : ∃ y p ap z x cp pos, st = .Expr (.Call (.Attribute (.Name y p) ("insert" : Str) ap) [z, x] [] cp) pos ∧ slotB N i y = true ∧ visB sc y = true ∧ plainName y = true ∧ (ap.endLine == cp.line) = true ∧ mE T N none sc k z = true ∧ a ≠ .bad ∧ mE T N none sc a x = true := by
  rcases st <;> try (exact no hm)
  rename_i x pos
  cases x <;> try (exact no hm)
  rename_i f xs kws cp
  cases f <;> try (exact no hm)
  rename_i o m ap
  cases o <;> try (exact no hm)
  rcases xs with _ | ⟨x, xs⟩ <;> try (exact no hm)
  rcases xs with _ | ⟨x2, xs⟩ <;> try (exact no hm)
  rcases xs with _ | ⟨x3, xs⟩ <;> try (exact no hm)
  rcases kws with _ | ⟨k, kws⟩ <;> try (exact no hm)
  obtain ⟨m1, m2, m3, m4, m5, m6⟩ := and6 hm
  obtain ⟨m6, nb, m7⟩ := and3 m6
  have e := of_decide_eq_true m4
  subst e
  exact ⟨_, _, _, _, _, _, _, rfl, m1, m2, m3, m5, m6, by rintro rfl; exact no nb, m7⟩
theorem m_rse {N : List Str} {sc : Scope} {st : Stmt} {c : Nat} {es : CEs} (hm : mS T N sc (.rse c es) st = true) : ∃ x pp xs pos rpos p, st = .Raise (some (.Call (.Name x pp) xs [] pos)) none rpos ∧ T.xs[c]? = some p ∧ p.1 = x ∧ p.2.length = xs.length ∧ xs ≠ [] ∧ glB sc x = true ∧ plainName x = true ∧ nbEs es = true ∧ mEs T N none sc es xs = true := by
  rcases st <;> try (exact no hm)
  rename_i x y pos
  rcases x with _ | x <;> try (exact no hm)
  cases x <;> try (exact no hm)
  rename_i f xs kws cp
  cases f <;> try (exact no hm)
  rcases kws with _ | ⟨k, kws⟩ <;> try (exact no hm)
  rcases y with _ | y <;> try (exact no hm)
  rename_i nm pp
  obtain ⟨m1, m2, m3, m4⟩ := and4 hm
  obtain ⟨m4, m5⟩ := and2 m4
  cases q : T.xs[c]? with
  | none =>
    rw [q] at m1
    exact no m1
  | some p =>
    rw [q] at m1
    obtain ⟨n1, n2, n3⟩ := and3 m1
    exact ⟨_, _, _, _, _, p, rfl, rfl, of_decide_eq_true n1, of_decide_eq_true n2, of_decide_eq_true n3, m2, m3, m4, m5⟩
theorem exV_of : ∀ {vs : List V} {ds : List D}, RpA K G vs ds → exArgs ds = true → vs.all exV = true
  | _, _, .nil, _ => rfl
  | _, _, .cons r1 r2, h => by
    have h := List.all_eq_true.mp h
    have h2 := exV_of r2 (List.all_eq_true.mpr fun x hx => h x (List.mem_cons_of_mem _ hx))
    rw [List.all_cons, h2, Bool.and_true]
    have h1 := h _ List.mem_cons_self
    cases r1 <;> first | exact h1 | exact no h1
theorem pe_ins {y z x : Expr} {yn : Str} {p ap pos : Pos} {to : TE} (ho : PE X (.Name yn p) to) (hl : (ap.endLine == pos.line) = true) (hs1 : starEach [z, x] X.env = (false, eval z X.env) :: starEach [x] X.env) (hs2 : starEach [x] X.env = (false, eval x X.env) :: starEach [] X.env) :
    PE X (.Call (.Attribute (.Name yn p) ("insert" : Str) ap) [z, x] [] pos) (tBM X.K "list" (fun x vs H Q => ∃ (l : Addr) (xs : List V) (i : Int) (y : V), x = .ref l ∧ vs = [.int i, y] ∧ H l = some (.lst xs) ∧ xs.length < sizeLine ∧ 0 ≤ i ∧ i < 2 ^ 63 ∧
    Q .non (upd H l (.lst (xs.take i.toNat ++ [y] ++ xs.drop i.toNat)))) to (tCons (wE X z) (tCons (wE X x) tNil))) :=
  pe_bm PySem.F.plainAttrs_list PySem.F.slot_list_insert PySem.F.type_list_insert mt_insert ho (pa_cons pe_w (pa_cons pe_w pa_nil hs2) hs1) rfl (by rw [hs1, hs2]; rfl) hl hs1 (by rw [hs2]; rfl)
theorem Sts.ol_ref {i : Nat} (s : Sts K Cs hv Θ G H e σ) (h : isOl ((e[i]?).join) = true) : ∃ p, σ[i]? = some (some (V.ref p)) ∧ tyV K "list" (.ref p) H := by
  cases q : (e[i]?).join with
  | none =>
    rw [q] at h
    cases h
  | some o =>
    rw [q] at h
    cases o <;> try (cases h)
    obtain ⟨p, vs, h1, h2, _⟩ := s.own_at q
    exact ⟨p, h1, tyL (SqL.of h2)⟩
theorem m_tryR {N : List Str} {sc : Scope} {st : Stmt} {b : CSs} {cs : List Nat} {nm : Str} {i : Option Nat} {h : HX} (hm : mS T N sc (.tryR b cs nm i h) st = true) : ∃ body np n r rp hp pos, st = .Try body [.ExceptHandler (some (.Name nm np)) n [.Return (some r) rp] hp] [] [] pos ∧
    glB sc nm = true ∧ plainName nm = true ∧ T.xh.lookup nm = some cs ∧ mSs T N sc b body = true ∧ mH T sc n h r = true ∧ ((∃ j y, i = some j ∧ n = some y ∧ slotB N j y = true ∧ lclB sc y = true) ∨ (i = none ∧ n = none)) := by
  rcases st <;> try (exact no hm)
  rename_i body hs els fin pos
  rcases hs with _ | ⟨h1, hs⟩ <;> try (exact no hm)
  obtain ⟨ty, n, suite, hp⟩ := h1
  rcases ty with _ | ty <;> try (exact no hm)
  cases ty <;> try (exact no hm)
  rename_i x np
  rcases suite with _ | ⟨r1, suite⟩ <;> try (exact no hm)
  cases r1 <;> try (exact no hm)
  rename_i r0 rp
  rcases r0 with _ | r <;> try (exact no hm)
  rcases suite with _ | ⟨r2, suite⟩ <;> try (exact no hm)
  rcases hs with _ | ⟨h2, hs⟩ <;> try (exact no hm)
  rcases els with _ | ⟨e1, els⟩ <;> try (exact no hm)
  rcases fin with _ | ⟨f1, fin⟩ <;> try (exact no hm)
  have hm : ((((((decide (x = nm) && glB sc x) && plainName x) && decide (T.xh.lookup nm = some cs)) && mSs T N sc b body) && mH T sc n h r) && (match (generalizing := false) i, n with
      | some j, some y => slotB N j y && lclB sc y
      | none, none => true
      | _, _ => false)) = true := hm
  simp only [Bool.and_eq_true] at hm
  obtain ⟨⟨⟨⟨⟨⟨m1, m2⟩, m3⟩, m4⟩, m5⟩, m6⟩, m7⟩ := hm
  have e := of_decide_eq_true m1
  subst e
  refine ⟨_, _, _, _, _, _, _, rfl, m2, m3, of_decide_eq_true m4, m5, m6, ?_⟩
  cases i <;> cases n <;> try (exact no m7)
  · exact .inr ⟨rfl, rfl⟩
  · obtain ⟨w1, w2⟩ := and2 m7
    exact .inl ⟨_, _, rfl, rfl, w1, w2⟩
theorem Sts.extra {j : Nat} {w : Option V} (s : Sts K Cs hv Θ G H e σ) (h : (e[j]?).join.isNone = true) : Sts K Cs hv Θ G H e (σ.set j w) :=
  ⟨s.gh, s.th, by rw [List.length_set]; exact s.len, fun i o q => by
    obtain ⟨v, h1, h2⟩ := s.sl i o q
    refine ⟨v, ?_, h2⟩
    rw [List.getElem?_set_ne]
    · exact h1
    · rintro rfl
      rw [q] at h
      cases h⟩
theorem SC.tr {n : Nat} {W W' : WX} (S : SC T code Dp n W X) {pn : List (Addr × Obj)} {xe : Value → Shared → Prop} (tk : Takes (X.tr pn xe) W') (po : PassesOwn (model X.prog X.w) X.A X.env xe) : SC T code Dp n W' (X.tr pn xe) :=
  ⟨⟨S.C.nd, S.C.fn, S.C.calm, S.C.hr, S.C.gd, S.C.pg, S.C.okp, S.C.fs, tk⟩, S.stk, S.frm, S.hk, po⟩
mutual
theorem sS (hvo : ∀ i : Nat, ow[i]? ≠ some true → ∀ k, hv i k = none) : ∀ (c : CS) {W : WX} {X : Cx} {st : Stmt} (S : SC T code Dp n W X) (hm : mS T X.N X.env.scope c st = true) {Θ : Ow} {G H : Hp} {e : Sl} {σ : L2.St}, Sts X.K Dp.cs hv Θ G H e σ →
    ∀ D : Ends, SQ X.K Dp.cs Dp.xs hv ow W Θ G H σ (evS T.gc (run T.gc code n) ow c e) D → wS X st D σ H
  | .asg i a, W, X, st, S, hm, Θ, G, H, e, σ, s, D, q0 => by
    obtain ⟨y, p, x, pos, rfl, m1, m2, m4⟩ := m_asg hm
    have q1 := q0.of
    have nb : a ≠ .bad := nobad q1.nb
    have fin : ∀ v1 H1, (∃ av e1 G1 Θ1 U1, Stp Θ G H Θ1 G1 H1 ∧ Sts X.K Dp.cs hv Θ1 G1 H1 e1 σ ∧ AVok X.K Dp.cs Θ1 H G1 H1 σ U1 av v1 ∧ (∀ p, U1 p → Θ1 p = none ∧ H p = none ∧ ∃ u, H1 p = some u) ∧ SQ X.K Dp.cs Dp.xs hv ow W Θ G H σ (match valO av e1 with
        | some (o, e) => match setS ow i o e with
          | some e => Fl.nx e
          | none => .bad
        | none => .bad) D) → D.nx (σ.set i (some v1)) H1 := by
      rintro v1 H1 ⟨av, e1, G1, Θ1, U1, st1, s1, k1, u1, q2⟩
      cases hV : valO av e1 with
      | none =>
        rw [hV] at q2
        exact q2.elim
      | some w =>
        obtain ⟨o, e2⟩ := w
        rw [hV] at q2
        have q2 : SQ X.K Dp.cs Dp.xs hv ow W Θ G H σ (match setS ow i o e2 with | some e => Fl.nx e | none => .bad) D := q2
        cases hs : setS ow i o e2 with
        | none =>
          rw [hs] at q2
          exact q2.elim
        | some e3 =>
          rw [hs] at q2
          exact asg_fin s1 st1 k1 hV hs q2
    obtain ⟨l1, l2⟩ := loc_of S.C m2
    by_cases hl : isLc x = true
    · obtain ⟨ws, t, it, ifs, el, rfl⟩ := isLc_lc m4 nb hl
      obtain ⟨elt, tg, iter, cs, scope, lpos, rfl, b1, b2, rd⟩ := sLc S.C m4 s (q1.imp (fun a e q v H' ⟨G', Θ', U, z1, z2, z3, z4⟩ => fin v H' ⟨a, e, G', Θ', U, z1, z2, z3, z4, q⟩ : ∀ a e, _ → OKE X Dp.cs hv Θ G H σ (fun v H' => D.nx (σ.set i (some v)) H') a e) fun _ _ z => z)
      cases hc : (X.env.kindOf y == some .local && p.line == lpos.line && !(scope.names.any fun (m, k) => m == y && (k == .local || k == .cell))) with
      | true =>
        obtain ⟨hy, _, _⟩ := and3 hc
        have hy : X.env.scope.names.lookup y = some .local := beq_iff_eq.mp hy
        refine wS.by (ps_setLc S.C.calm S.C.nd (slot_of m1) hy ((sw_lc S.hk).trans (congrArg _ hc)) pi_w (blkOk_by b1) pg_b pt_b pe_b b2) ?_
        exact lc_mono rd fun v1 H1 z1 => z1
      | false =>
        refine wS.by (ps_set S.C.nd (slot_of m1) l1 (pe_lc S.C.calm S.C.nd pi_w (blkOk_by b1) pg_b pt_b pe_b b2) ((sw_lc S.hk).trans (congrArg _ hc)) l2) ?_
        exact lc_mono rd fun v1 H1 z1 => z1
    · refine wS.by (ps_set S.C.nd (slot_of m1) l1 pe_w (sw_any m4 nb (by simpa using hl)) l2) ?_
      exact (seqS Stp.refl (sE a S.C m4 s).1 q1).mono fun v1 H1 z1 => fin v1 H1 z1
  | .asgT is es, W, X, st, S, hm, Θ, G, H, e, σ, s, D, q0 => by
    obtain ⟨i, j, y, z, p, q, kt, pt, a, b, k2, pt2, pos, rfl, rfl, m1, m2, m3, m4, m5, m6, m7, m8, m9, m10, m11⟩ := m_asgT hm
    refine wS.by (ps_par S.C.calm S.C.nd m1 m2 m3 m6 m7 pa_w (swp_some S.hk m6 m7 m5 m4 m8 m9 m10)) ?_
    refine wA.mono (sEs es S.C m11 s _ q0.of) fun vs H1 z1 => ?_
    obtain ⟨avs, e1, ⟨G1, Θ1, U1, st1, s1, P, u1⟩, hl, q1⟩ := z1
    cases hV : valOs avs e1 with
    | none =>
      rw [hV] at q1
      exact q1.elim
    | some w =>
      obtain ⟨os, e2⟩ := w
      rw [hV] at q1
      have q2 : SQ X.K Dp.cs Dp.xs hv ow W Θ G H σ (match setSs ow [i, j] os e2 with | some e => .nx e | none => .bad) D := q1
      cases hs : setSs ow [i, j] os e2 with
      | none =>
        rw [hs] at q2
        exact q2.elim
      | some e3 =>
        rw [hs] at q2
        rcases avs with _ | ⟨x1, _ | ⟨x2, _ | ⟨x3, avs⟩⟩⟩
        · cases hl
        · cases hl
        · have lv := P.length
          rcases vs with _ | ⟨v1, _ | ⟨v2, _ | ⟨v3, vs⟩⟩⟩
          · cases lv
          · cases lv
          · exact ⟨v1, v2, rfl, two_par m3 s1 st1 P hV hs q2⟩
          · simp at lv
        · simp at hl
  | .unp is a, W, X, st, S, hm, Θ, G, H, e, σ, s, D, q0 => by
    obtain ⟨ts, k, p, x, pos, rfl, m1, m2, m3⟩ := m_unp hm
    refine wS.by (ps_asg pe_w pg_e sws_unp (swn_unp m1) rfl) ?_
    refine (seqS Stp.refl (sE a S.C m3 s).1 q0.of).mono fun v1 H1 z1 => ?_
    obtain ⟨av, e1, G1, Θ1, U1, st1, s1, k1, u1, q1⟩ := z1
    cases hV : take av e1 with
    | none =>
      rw [hV] at q1
      exact q1.elim
    | some w =>
      obtain ⟨d, e2⟩ := w
      rw [hV] at q1
      have q2 : SQ X.K Dp.cs Dp.xs hv ow W Θ G H σ (match setT ow (.tp is) d e2 with | some e => .nx e | none => .bad) D := q1
      cases hs : setT ow (.tp is) d e2 with
      | none =>
        rw [hs] at q2
        exact q2.elim
      | some e3 =>
        rw [hs] at q2
        obtain ⟨G2, f2, s2, r2⟩ := take_ok s1 k1 hV
        obtain ⟨g, vs, pg, kk⟩ := tg_ok S.C m2 s2 r2 hs
        refine ⟨g, pg, kk _ fun s3 => ?_⟩
        exact q2 Θ1 G2 H1 _ ⟨f2.stp st1 fun a ha => (u1 a ha).2.1, s3, putT_own hs⟩
  | .ex a, W, X, st, S, hm, Θ, G, H, e, σ, s, D, q0 => by
    obtain ⟨x, pos, rfl, m1, m2⟩ := m_ex hm
    have q1 := q0.of
    refine wS.by (ps_expr pe_w (sw_any m2 (nobad q1.nb) m1)) ?_
    refine (seqS Stp.refl (sE a S.C m2 s).1 q1).mono fun v1 H1 z1 => ?_
    obtain ⟨av, e1, G1, Θ1, U1, st1, s1, k1, u1, q2⟩ := z1
    exact q2 _ _ _ _ (Nx.of st1 s1)
  | .app i a, W, X, st, S, hm, Θ, G, H, e, σ, s, D, q0 => by
    obtain ⟨y, p, ap, x, cp, pos, rfl, m1, m2, m3, m4, m5⟩ := m_app hm
    have qa : SQ X.K Dp.cs Dp.xs hv ow W Θ G H σ (if isOl ((e[i]?).join) = true then Fl.of (evE T.gc (run T.gc code n) a e) fun x e => match take x e with
      | some (d, e) => match (e[i]?).join with
        | some (.ol xs) => if xs.length < sizeLine then .nx (e.set i (some (.ol (xs ++ [d])))) else .bad
        | _ => .bad
      | none => .bad
      else .bad) D := q0
    by_cases ho : isOl ((e[i]?).join) = true
    case neg =>
      rw [if_neg ho] at qa
      exact qa.elim
    rw [if_pos ho] at qa
    have qb := qa.of
    obtain ⟨p0, c1, c2⟩ := s.ol_ref ho
    obtain ⟨p1, p2, _⟩ := plain_of m3
    have ns := nostar (T := T) (fl := none) m5 (nobad qb.nb) X.env []
    refine wS.by (ps_expr (pe_bm PySem.F.plainAttrs_list PySem.F.slot_list_append PySem.F.type_list_append mt_append (pe_var (slot_of m1) (vis_of m2) p1 p2) (pa_cons pe_w pa_nil ns) rfl (by rw [ns]; rfl) m4 ns rfl)) ?_
    refine ⟨.ref p0, c1, c2, ?_⟩
    refine (seqS Stp.refl (sE a S.C m5 s).1 qb).mono fun v1 H1 z1 => ?_
    obtain ⟨av, e1, G1, Θ1, U1, st1, s1, k1, u1, q2⟩ := z1
    cases hV : take av e1 with
    | none =>
      rw [hV] at q2
      exact q2.elim
    | some w =>
      obtain ⟨d, e2⟩ := w
      rw [hV] at q2
      have q3 : SQ X.K Dp.cs Dp.xs hv ow W Θ G H σ (match (e2[i]?).join with
        | some (.ol xs) => if xs.length < sizeLine then .nx (e2.set i (some (.ol (xs ++ [d])))) else .bad
        | _ => .bad) D := q2
      split at q3
      · rename_i xs hx
        by_cases hz : xs.length < sizeLine
        · rw [if_pos hz] at q3
          obtain ⟨G2, f2, s2, r2⟩ := take_ok s1 k1 hV
          obtain ⟨p3, vs3, b1, b2, b3, b4, b5⟩ := s2.own_at hx
          rw [c1] at b1
          cases b1
          refine ⟨_, vs3, v1, rfl, rfl, b2, by rw [b4.len]; exact hz, ?_⟩
          have st2 : Stp Θ G H Θ1 G2 H1 := f2.stp st1 fun a ha => (u1 a ha).2.1
          exact q3 Θ1 G2 _ _ ⟨st2.trans (Stp.wrOwn b5), s2.wrOwn hx c1 (b4.snoc r2), fun _ _ => rfl⟩
        · rw [if_neg hz] at q3
          exact q3.elim
      · exact q3.elim
  | .ins i k a, W, X, st, S, hm, Θ, G, H, e, σ, s, D, q0 => by
    obtain ⟨y, p, ap, z, x, cp, pos, rfl, m1, m2, m3, m4, m5, nb, m6⟩ := m_ins hm
    have qa : SQ X.K Dp.cs Dp.xs hv ow W Θ G H σ (if isOl ((e[i]?).join) = true then Fl.of (evE T.gc (run T.gc code n) k e) fun y e => R.setF y e fun y e => Fl.of (evE T.gc (run T.gc code n) a e) fun x e => match y.dat e with
      | some (.int j) => match take x e with
        | some (d, e) => match (e[i]?).join with
          | some (.ol xs) => if xs.length < sizeLine ∧ 0 ≤ j ∧ j < 2 ^ 63 then .nx (e.set i (some (.ol (xs.take j.toNat ++ [d] ++ xs.drop j.toNat)))) else .bad
          | _ => .bad
        | none => .bad
      | _ => .bad
      else .bad) D := q0
    by_cases ho : isOl ((e[i]?).join) = true
    case neg =>
      rw [if_neg ho] at qa
      exact qa.elim
    rw [if_pos ho] at qa
    have qb := qa.of
    obtain ⟨p0, c1, c2⟩ := s.ol_ref ho
    obtain ⟨p1, p2, _⟩ := plain_of m3
    refine wS.by (ps_expr (pe_ins (y := .Name y p) (pe_var (slot_of m1) (vis_of m2) p1 p2) m4 (nostar (T := T) (fl := none) m5 (nobad qb.nb) X.env _) (nostar (T := T) (fl := none) m6 nb X.env []))) ?_
    refine ⟨.ref p0, c1, c2, ?_⟩
    refine (seqS Stp.refl (sE k S.C m5 s).1 qb).mono fun v1 H1 z1 => ?_
    obtain ⟨kv, e1, G1, Θ1, U1, st1, s1, k1, u1, q2⟩ := z1
    cases hst : settle kv e1 with
    | none =>
      unfold R.setF at q2
      rw [hst] at q2
      exact q2.elim
    | some w =>
      obtain ⟨kv', e2⟩ := w
      unfold R.setF at q2
      rw [hst] at q2
      obtain ⟨G2, f2, s2, k2, n2⟩ := settle_ok s1 k1 hst
      have st2 := f2.stp st1 (fun _ z => z.elim)
      refine (seqS st2 (sE a S.C m6 s2).1 (SQ.of (show SQ X.K Dp.cs Dp.xs hv ow W Θ G H σ (Fl.of (evE T.gc (run T.gc code n) a e2) _) D from q2))).mono fun v2 H2 z2 => ?_
      obtain ⟨av, e3, G3, Θ3, U3, st3, s3, k3, u3, q3⟩ := z2
      split at q3
      · rename_i j hj
        have ej := rp_int ((k2.mono st3 n2).rp s3 hj)
        subst ej
        cases hV : take av e3 with
        | none =>
          rw [hV] at q3
          exact q3.elim
        | some w =>
          obtain ⟨d, e4⟩ := w
          rw [hV] at q3
          have q3 : SQ X.K Dp.cs Dp.xs hv ow W Θ G H σ (match (e4[i]?).join with
            | some (.ol xs) => if xs.length < sizeLine ∧ 0 ≤ j ∧ j < 2 ^ 63 then .nx (e4.set i (some (.ol (xs.take j.toNat ++ [d] ++ xs.drop j.toNat)))) else .bad
            | _ => .bad) D := q3
          split at q3
          · rename_i xs hx
            by_cases hz : xs.length < sizeLine ∧ 0 ≤ j ∧ j < 2 ^ 63
            · rw [if_pos hz] at q3
              obtain ⟨G4, f4, s4, r4⟩ := take_ok s3 k3 hV
              obtain ⟨p3, vs3, b1, b2, b3, b4, b5⟩ := s4.own_at hx
              rw [c1] at b1
              cases b1
              refine ⟨_, vs3, j, v2, rfl, rfl, b2, by rw [b4.len]; exact hz.1, hz.2.1, hz.2.2, ?_⟩
              have st4 : Stp Θ G H Θ3 G4 H2 := f4.stp (st2.trans st3) fun a ha => st2.back s2 (u3 a ha).2.1
              exact q3 Θ3 G4 _ _ ⟨st4.trans (Stp.wrOwn b5), s4.wrOwn hx c1 (((b4.take j.toNat).app (.cons r4 .nil)).app (b4.drop j.toNat)), fun _ _ => rfl⟩
            · rw [if_neg hz] at q3
              exact q3.elim
          · exact q3.elim
      · exact q3.elim
  | .rse c es, W, X, st, S, hm, Θ, G, H, e, σ, s, D, q0 => by
    obtain ⟨x, pp, xs, pos, rpos, p, rfl, m1, m2, m3, m4, m5, m6, m7, m8⟩ := m_rse hm
    obtain ⟨C, hC, rule⟩ := S.C.pg.rs c p m1
    subst m2
    rcases xs with _ | ⟨y, ys⟩
    · exact absurd rfl m4
    have q1 := q0.of
    cases es with
    | nil => exact no m8
    | cons a es =>
      obtain ⟨y2, ys2, ee, w1, w2⟩ := ms_cons m8
      cases ee
      obtain ⟨n1, n2⟩ := and2 m7
      have ns := nostar (T := T) (fl := none) w1 (fun z => by rw [z] at n1; exact no n1) X.env ys
      have hne : p.2 ≠ [] := fun z => by
        rw [z] at m3
        cases m3
      refine wS.by (ps_raise S.C.calm S.C.tk (rule X rfl rfl S.C.okp (S.C.hr.mono (Nat.le_add_left 2 n)) y ys pp pos (gl_of m5) ns (nostars w2 n2) hne)) ?_
      have q1 : RQ _ (ExK X.K Dp.cs Dp.xs hv W Θ G H σ) (evEs T.gc (run T.gc code n) (.cons a es) e) := q1
      refine wA.mono (sEs (.cons a es) S.C m8 s _ q1) fun vs H1 z1 => ?_
      obtain ⟨avs, e1, ⟨G1, Θ1, U1, st1, s1, P, u1⟩, hl, q2⟩ := z1
      cases hV : takes avs e1 with
      | none =>
        rw [hV] at q2
        exact q2.elim
      | some w =>
        obtain ⟨ds, e2⟩ := w
        rw [hV] at q2
        have q2 : SQ X.K Dp.cs Dp.xs hv ow W Θ G H σ (if exArgs ds = true then .ex ⟨c, ds⟩ e2 else .bad) D := q2
        by_cases hx : exArgs ds = true
        · rw [if_pos hx] at q2
          obtain ⟨G2, f2, s2, r2⟩ := takes_ok s1 P hV
          have lv : vs.length = p.2.length := by rw [m3, ← hl, P.length]
          refine ⟨lv, exV_of r2 hx, fun d fs hd hf => ?_⟩
          have st2 := f2.stp st1 fun a ha => u1 a ha.1
          refine q2 Θ1 G2 _ σ _ _ (Nx.of (st2.trans (Stp.laid hd)) (s2.laid hd)) ⟨⟨C, p.2, hC, rfl, by rw [← lv, r2.len], fun _ => ⟨d, fs, rfl, upd_same, fun k nm y h1 h2 => ?_⟩⟩, fun a z => by cases z; exact ⟨fs, upd_same⟩⟩
          obtain ⟨w, w1, w2⟩ := r2.get h2
          exact ⟨w, by rw [hf k nm h1]; exact w1, w2⟩
        · rw [if_neg hx] at q2
          exact q2.elim
  | .tryR b cs nm i h, W, X, st, S, hm, Θ, G, H, e, σ, s, D, q0 => by
    obtain ⟨body, np, n0, r, rp, hp, pos, rfl, m2, m3, m4, m5, m6, m7⟩ := m_tryR hm
    obtain ⟨Cn, c1, c2⟩ := S.C.pg.xh _ _ m4
    have hc : Names X nm (.ref Cn) := ⟨gl_of m2, (plain_of m3).1, .inl c1⟩
    rcases m7 with ⟨j, y, rfl, rfl, m8, m9⟩ | ⟨rfl, rfl⟩
    · have qa : SQ X.K Dp.cs Dp.xs hv ow W Θ G H σ (match evSs T.gc (run T.gc code n) ow b e with
        | .ex x e => if x.c ∈ cs then (if j < e.length ∧ ow[j]? ≠ some true ∧ (e[j]?).join.isNone = true then (match h.ev x with
          | some d => .rt (.d d) e
          | none => .bad) else .bad)
          else .ex x e
        | f => f) D := q0
      refine wS.by (ps_try_as S.stk S.frm S.C.nd (slot_of m8) (lcl_of m9) hc S.C.tk (tb := fun W' D σ H => ∀ pn xe, Takes (X.tr pn xe) W' → PassesOwn (model X.prog X.w) X.A X.env xe → wSs (X.tr pn xe) body D σ H)
        (ts := fun a cls d D σ H => ∀ oe pn, Zc cls d oe → (∃ vs, oe.data = .fields vs) → wSs (X.suite a ((a, oe) :: pn)) [.Return (some r) rp] D σ H) (fun W' pn xe tk po => ⟨fun pins s σ H D I h => h pn xe tk po pins s I⟩) (fun a oe cls d pn hz hf => ⟨fun pins s σ H D I h => h oe pn hz hf pins s I⟩)) ?_
      intro pn xe tk po
      refine sSs hvo b (S.tr tk po) m5 s D ?_
      cases q : evSs T.gc (run T.gc code n) ow b e with
      | nx e1 =>
        rw [q] at qa
        exact qa
      | bk e1 =>
        rw [q] at qa
        exact qa
      | ct e1 =>
        rw [q] at qa
        exact qa
      | rt o e1 =>
        rw [q] at qa
        exact qa
      | bad =>
        rw [q] at qa
        exact qa
      | ex x e1 =>
        rw [q] at qa
        have qa : SQ X.K Dp.cs Dp.xs hv ow W Θ G H σ (if x.c ∈ cs then (if j < e1.length ∧ ow[j]? ≠ some true ∧ (e1[j]?).join.isNone = true then (match h.ev x with
          | some d => .rt (.d d) e1
          | none => .bad) else .bad)
          else .ex x e1) D := qa
        intro Θ' G' H' σ' cls d nx eo
        obtain ⟨C, nms, x1, x2, x3, x4⟩ := eo.ex
        obtain ⟨b1, _⟩ := c2 _ _ _ x1
        refine ⟨decide (x.c ∈ cs), by rw [x2]; exact b1, fun hy a ha oe pn2 hz hf => ?_, fun hn => ?_⟩
        · rw [if_pos (of_decide_eq_true hy)] at qa
          by_cases hj : j < e1.length ∧ ow[j]? ≠ some true ∧ (e1[j]?).join.isNone = true
          · rw [if_pos hj] at qa
            cases hev : h.ev x with
            | none =>
              rw [hev] at qa
              exact qa.elim
            | some dd =>
              rw [hev] at qa
              refine wSs.by (pss_cons (ps_ret pe_w) pss_nil) ?_
              refine hx_ok S.C.pg hz hf h m6 hev (nx.s.extra (w := some (.ref a)) hj.2.2) eo (fun y' ey => ⟨j, ?_, .inl ?_, ?_⟩) _ fun v H2 G2 st2 s2 k2 r2 => ?_
              · cases ey
                exact slot_of m8
              · cases ey
                exact lcl_of m9
              · rw [List.getElem?_set_self]
                rw [← nx.s.len]
                exact hj.1
              · exact qa Θ' G2 H2 _ v (fun _ => none) ⟨nx.st.trans st2, s2, fun i hi => by rw [own_set hj.2.1 i hi]; exact nx.own i hi⟩ r2 fun _ _ z => nomatch z
          · rw [if_neg hj] at qa
            exact qa.elim
        · rw [if_neg (of_decide_eq_false hn)] at qa
          exact qa Θ' G' H' σ' cls d nx eo
    · have qa : SQ X.K Dp.cs Dp.xs hv ow W Θ G H σ (match evSs T.gc (run T.gc code n) ow b e with
        | .ex x e => if x.c ∈ cs then (match h.ev x with
          | some d => .rt (.d d) e
          | none => .bad)
          else .ex x e
        | f => f) D := q0
      refine wS.by (ps_try_only S.stk S.frm hc S.C.tk (tb := fun W' D σ H => ∀ pn xe, Takes (X.tr pn xe) W' → PassesOwn (model X.prog X.w) X.A X.env xe → wSs (X.tr pn xe) body D σ H)
        (ts := fun a cls d D σ H => ∀ oe pn, Zc cls d oe → (∃ vs, oe.data = .fields vs) → wSs (X.suite a ((a, oe) :: pn)) [.Return (some r) rp] D σ H) (fun W' pn xe tk po => ⟨fun pins s σ H D I h => h pn xe tk po pins s I⟩) (fun a oe cls d pn hz hf => ⟨fun pins s σ H D I h => h oe pn hz hf pins s I⟩)) ?_
      intro pn xe tk po
      refine sSs hvo b (S.tr tk po) m5 s D ?_
      cases q : evSs T.gc (run T.gc code n) ow b e with
      | nx e1 =>
        rw [q] at qa
        exact qa
      | bk e1 =>
        rw [q] at qa
        exact qa
      | ct e1 =>
        rw [q] at qa
        exact qa
      | rt o e1 =>
        rw [q] at qa
        exact qa
      | bad =>
        rw [q] at qa
        exact qa
      | ex x e1 =>
        rw [q] at qa
        have qa : SQ X.K Dp.cs Dp.xs hv ow W Θ G H σ (if x.c ∈ cs then (match h.ev x with
          | some d => .rt (.d d) e1
          | none => .bad)
          else .ex x e1) D := qa
        intro Θ' G' H' σ' cls d nx eo
        obtain ⟨C, nms, x1, x2, x3, x4⟩ := eo.ex
        obtain ⟨b1, _⟩ := c2 _ _ _ x1
        refine ⟨decide (x.c ∈ cs), by rw [x2]; exact b1, fun hy a ha oe pn2 hz hf => ?_, fun hn => ?_⟩
        · rw [if_pos (of_decide_eq_true hy)] at qa
          cases hev : h.ev x with
          | none =>
            rw [hev] at qa
            exact qa.elim
          | some dd =>
            rw [hev] at qa
            refine wSs.by (pss_cons (ps_ret pe_w) pss_nil) ?_
            refine hx_ok S.C.pg hz hf h m6 hev nx.s eo (fun y' ey => nomatch ey) _ fun v H2 G2 st2 s2 k2 r2 => ?_
            exact qa Θ' G2 H2 _ v (fun _ => none) ⟨nx.st.trans st2, s2, nx.own⟩ r2 fun _ _ z => nomatch z
        · rw [if_neg (of_decide_eq_false hn)] at qa
          exact qa Θ' G' H' σ' cls d nx eo
  | .sti i k a, W, X, st, S, hm, Θ, G, H, e, σ, s, D, q0 => by
    obtain ⟨y, p, ix, sp, x, pos, rfl, m1, m2, m3, m4, m5, m6, nbk⟩ := m_sti hm
    have qa : SQ X.K Dp.cs Dp.xs hv ow W Θ G H σ (if isOl ((e[i]?).join) = true then Fl.of (evE T.gc (run T.gc code n) a e) fun x e => R.setF x e fun x e => Fl.of (evE T.gc (run T.gc code n) k e) fun y e => match y.dat e with
      | some (.int j) => match take x e with
        | some (d, e) => match (e[i]?).join with
          | some (.ol xs) => match ixN xs.length j with
            | some n => .nx (e.set i (some (.ol (xs.set n d))))
            | none => .bad
          | _ => .bad
        | none => .bad
      | _ => .bad
      else .bad) D := q0
    by_cases ho : isOl ((e[i]?).join) = true
    case neg =>
      rw [if_neg ho] at qa
      exact qa.elim
    rw [if_pos ho] at qa
    have qb := qa.of
    obtain ⟨p0, c1, c2⟩ := s.ol_ref ho
    obtain ⟨p1, p2, _⟩ := plain_of m3
    refine wS.by (ps_asg pe_w (pg_sub (pe_var (slot_of m1) (vis_of m2) p1 p2) pe_w set_list (as_sub (fl := none) m5 nbk)) sws_sub rfl rfl) ?_
    refine (seqS Stp.refl (sE a S.C m6 s).1 qb).mono fun v1 H1 z1 => ?_
    obtain ⟨av0, e0, G0, Θ1, U1, st0, s0, k0, u0, q2⟩ := z1
    refine ⟨_, c1, ?_⟩
    cases hst : settle av0 e0 with
    | none =>
      unfold R.setF at q2
      rw [hst] at q2
      exact q2.elim
    | some w =>
      obtain ⟨av, e1⟩ := w
      unfold R.setF at q2
      rw [hst] at q2
      obtain ⟨G1, f1, s1, k1, n1⟩ := settle_ok s0 k0 hst
      have st1 := f1.stp st0 (fun _ z => z.elim)
      refine (seqS st1 (sE k S.C m5 s1).1 (SQ.of (show SQ X.K Dp.cs Dp.xs hv ow W Θ G H σ (Fl.of (evE T.gc (run T.gc code n) k e1) _) D from q2))).mono fun v2 H2 z2 => ?_
      obtain ⟨kv, e2, G2, Θ2, U2, st2, s2, k2, u2, q3⟩ := z2
      split at q3
      · rename_i j hj
        have ej := rp_int (k2.rp s2 hj)
        subst ej
        have k1' := k1.mono st2 n1
        cases hV : take av e2 with
        | none =>
          rw [hV] at q3
          exact q3.elim
        | some w =>
          obtain ⟨d, e3⟩ := w
          rw [hV] at q3
          have q3 : SQ X.K Dp.cs Dp.xs hv ow W Θ G H σ (match (e3[i]?).join with
            | some (.ol xs) => match ixN xs.length j with
              | some n => .nx (e3.set i (some (.ol (xs.set n d))))
              | none => .bad
            | _ => .bad) D := q3
          split at q3
          · rename_i xs hx
            cases hn : ixN xs.length j with
            | none =>
              rw [hn] at q3
              exact q3.elim
            | some l =>
              rw [hn] at q3
              obtain ⟨G3, f3, s3, r3⟩ := take_ok s2 k1' hV
              obtain ⟨p3, vs3, b1, b2, b3, b4, b5⟩ := s3.own_at hx
              rw [c1] at b1
              cases b1
              refine ⟨_, vs3, j, l, rfl, rfl, b2, by rw [b4.len]; exact hn, ?_⟩
              have st3 : Stp Θ G H Θ2 G3 H2 := f3.stp (st1.trans st2) fun a ha => (u0 a ha).2.1
              exact q3 Θ2 G3 _ _ ⟨st3.trans (Stp.wrOwn b5), s3.wrOwn hx c1 (b4.set l r3), fun _ _ => rfl⟩
          · exact q3.elim
      · exact q3.elim
  | .aug i o a, W, X, st, S, hm, Θ, G, H, e, σ, s, D, q0 => by
    obtain ⟨y, p, op, x, pos, rfl, m1, m2, m3, m4⟩ := m_aug hm
    obtain ⟨l1, l2⟩ := loc_of S.C m2
    have qa : SQ X.K Dp.cs Dp.xs hv ow W Θ G H σ (match (e[i]?).join with
      | some (.d _) => Fl.of (evE T.gc (run T.gc code n) a e) fun x e => match (e[i]?).join, x.dat e with
        | some (.d p), some q => match augD o p q with
          | some r => match setS ow i (.d r) e with
            | some e => .nx e
            | none => .bad
          | none => .bad
        | _, _ => .bad
      | _ => .bad) D := q0
    split at qa
    · rename_i d0 hy
      obtain ⟨v0, c1, _⟩ := s.sl i _ hy
      refine wS.by (ps_aug S.C.nd (slot_of m1) l1 pe_w ip_w l2) ?_
      refine ⟨v0, c1, ?_⟩
      refine (seqS Stp.refl (sE a S.C m4 s).1 (SQ.of qa)).mono fun v1 H1 z1 => ?_
      obtain ⟨av, e1, G1, Θ1, U1, st1, s1, k1, u1, q1⟩ := z1
      split at q1
      · rename_i dp dq hx hd
        cases hr : augD o dp dq with
        | none =>
          rw [hr] at q1
          exact q1.elim
        | some r =>
          rw [hr] at q1
          have q3 : SQ X.K Dp.cs Dp.xs hv ow W Θ G H σ (match setS ow i (.d r) e1 with
            | some e => .nx e
            | none => .bad) D := q1
          cases hs : setS ow i (.d r) e1 with
          | none =>
            rw [hs] at q3
            exact q3.elim
          | some e2 =>
            rw [hs] at q3
            obtain ⟨vx, c2, c3⟩ := s1.sl i _ hx
            rw [c1] at c2
            cases c2
            refine aug_rd (K := X.K) (Rp.mono s1.gh _ _ c3) (k1.rp s1 hd) m3 hr fun z hz => ?_
            exact asg_fin (av := .tm (.d r)) (v := z) (o := .d r) (U := fun _ => False) s1 st1 (AVok.dat (hz G1)) rfl hs q3
      · exact q1.elim
    · exact qa.elim
  | .ret a, W, X, st, S, hm, Θ, G, H, e, σ, s, D, q0 => by
    obtain ⟨x, pos, rfl, m1⟩ := m_ret hm
    refine wS.by (ps_ret pe_w) ?_
    refine (seqS Stp.refl (sE a S.C m1 s).1 q0.of).mono fun v1 H1 z1 => ?_
    obtain ⟨av, e1, G1, Θ1, U1, st1, s1, k1, u1, q1⟩ := z1
    cases hV : retO ow av e1 with
    | none =>
      rw [hV] at q1
      exact q1.elim
    | some w =>
      obtain ⟨o, e2⟩ := w
      rw [hV] at q1
      obtain ⟨G2, τ, st2, s2, r2, f2⟩ := retO_ok hvo s1 st1 k1 (fun p hp => (u1 p hp).2.1) hV
      exact q1 _ _ _ _ _ _ (Nx.of st2 s2) r2 f2
  | .retN, W, X, st, S, hm, Θ, G, H, e, σ, s, D, q0 => by
    obtain ⟨pos, rfl⟩ := m_retN hm
    refine wS.by ps_retN ?_
    exact q0 _ _ _ _ _ (fun _ => none) (Nx.refl s) Rp.non fun p m h => (nomatch h)
  | .ifs t a b, W, X, st, S, hm, Θ, G, H, e, σ, s, D, q0 => by
    obtain ⟨c, x, y, pos, rfl, m1, m2, m3⟩ := m_ifs hm
    refine wS.by (ps_if pt_w pss_w pss_w) ?_
    refine (seqST (sE t S.C m1 s).2 q0.of).mono fun v1 H1 z1 => ?_
    obtain ⟨e1, G1, Θ1, st1, s1, q1⟩ := z1
    have nx : Nx X.K Dp.cs hv ow Θ G H σ Θ1 G1 H1 σ e1 := Nx.of st1 s1
    cases v1 with
    | true => exact iteT (sSs hvo a S m2 s1 D (SQ.trans (show SQ X.K Dp.cs Dp.xs hv ow W Θ G H σ (evSs T.gc (run T.gc code n) ow a e1) D from q1) nx))
    | false => exact iteF (sSs hvo b S m3 s1 D (SQ.trans (show SQ X.K Dp.cs Dp.xs hv ow W Θ G H σ (evSs T.gc (run T.gc code n) ow b e1) D from q1) nx))
  | .for t it b, W, X, st, S, hm, Θ, G, H, e, σ, s, D, q0 => by
    obtain ⟨tg, iter, body, pos, rfl, m1, m2, m3, m4⟩ := m_for hm
    have q0' := q0.of
    refine wS.by (ps_for S.po S.C.calm pi_w pg_e pss_w (nosetI m2 q0'.nb _)) ?_
    refine wI.mono (sI it S.C m2 m4 s (fun J H1 => ∃ ds e1, QI X.K Dp.cs hv Θ G H σ ds e1 J H1 ∧ SQ X.K Dp.cs Dp.xs hv ow W Θ G H σ (forL (fun x e => match setT ow t x e with | some e => evSs T.gc (run T.gc code n) ow b e | none => .bad) ds e1) D) (q0'.imp (fun ds e q J H' z => ⟨ds, e, z, q⟩) fun _ _ z => z)) fun J H1 z1 => ?_
    obtain ⟨ds, e1, ⟨G1, Θ1, st1, s1, wk, hlen⟩, q1⟩ := z1
    refine ⟨fun i m σ' H' => m = ds.length - i ∧ i ≤ ds.length ∧ ∃ Θ' G' e', Nx X.K Dp.cs hv ow Θ1 G1 H1 σ Θ' G' H' σ' e' ∧
      SQ X.K Dp.cs Dp.xs hv ow W Θ' G' H' σ' (forL (fun x e => match setT ow t x e with | some e => evSs T.gc (run T.gc code n) ow b e | none => .bad) (ds.drop i) e') D,
      ⟨ds.length, by simp, Nat.zero_le _, Θ1, G1, e1, Nx.refl s1, SQ.trans (show SQ X.K Dp.cs Dp.xs hv ow W Θ G H σ (forL _ (ds.drop 0) e1) D from q1) (Nx.of st1 s1)⟩, ?_⟩
    rintro i m σi Hi ⟨rfl, hi, Θi, Gi, ei, nxi, qi⟩
    obtain ⟨w1, w2, w3⟩ := wk Gi Hi nxi.st.g nxi.s.gh
    by_cases hlt : i < ds.length
    · refine .inr ⟨w1 i hlt, fun σ' H' => ∃ Θ' G' e', Nx X.K Dp.cs hv ow Θ1 G1 H1 σ Θ' G' H' σ' e' ∧
        SQ X.K Dp.cs Dp.xs hv ow W Θ' G' H' σ' (forL (fun x e => match setT ow t x e with | some e => evSs T.gc (run T.gc code n) ow b e | none => .bad) (ds.drop (i + 1)) e') D, fun σ' H' h' => ⟨ds.length - (i + 1), by omega, rfl, hlt, h'⟩, fun x H2 hy => ?_⟩
      have hd : ds[i]? = some ds[i] := List.getElem?_eq_getElem hlt
      obtain ⟨G2, st2, s2, r2, kk⟩ := wk_step wk nxi.st.g nxi.s hd hy
      rw [List.drop_eq_getElem_cons hlt] at qi
      have q2 : SQ X.K Dp.cs Dp.xs hv ow W Θi Gi Hi σi (match (match setT ow t ds[i] ei with | some e => evSs T.gc (run T.gc code n) ow b e | none => .bad) with
        | .nx e => forL (fun x e => match setT ow t x e with | some e => evSs T.gc (run T.gc code n) ow b e | none => .bad) (ds.drop (i + 1)) e
        | .ct e => forL (fun x e => match setT ow t x e with | some e => evSs T.gc (run T.gc code n) ow b e | none => .bad) (ds.drop (i + 1)) e
        | .bk e => .nx e
        | .rt o e => .rt o e
        | .ex x e => .ex x e
        | .bad => .bad) D := qi
      cases q3 : setT ow t ds[i] ei with
      | none =>
        rw [q3] at q2
        exact q2.elim
      | some e5 =>
        rw [q3] at q2
        obtain ⟨g, vs, pg, k⟩ := tg_ok S.C m1 s2 r2 q3
        refine ⟨g, pg, k _ fun s3 => ?_⟩
        have nx2 : Nx X.K Dp.cs hv ow Θi Gi Hi σi Θi G2 H2 _ e5 := ⟨st2, s3, putT_own q3⟩
        exact sSs hvo b S m3 s3 _ (turnQ (SQ.trans q2 nx2) fun Θ' G' H' σ' e' a q => ⟨Θ', G', e', (nxi.trans nx2).trans a, q⟩)
    · have ee : i = ds.length := by omega
      subst ee
      rw [List.drop_length] at qi
      exact .inl ⟨w2 _ (Nat.le_refl _), qi _ _ _ _ (Nx.refl nxi.s)⟩
  | .whl t b, W, X, st, S, hm, Θ, G, H, e, σ, s, D, q0 => by
    obtain ⟨c, body, pos, rfl, m1, m2⟩ := m_whl hm
    refine wS.by (ps_while S.po pt_w pss_w) ?_
    refine ⟨fun m σ' H' => ∃ Θ' G' e', Nx X.K Dp.cs hv ow Θ G H σ Θ' G' H' σ' e' ∧ SQ X.K Dp.cs Dp.xs hv ow W Θ' G' H' σ' (whlL (fun e => evT T.gc (run T.gc code n) t e) (fun e => evSs T.gc (run T.gc code n) ow b e) m e') D,
      ⟨whileMost, Θ, G, e, Nx.refl s, q0⟩, ?_⟩
    rintro m σi Hi ⟨Θi, Gi, ei, nxi, qi⟩
    cases m with
    | zero => exact False.elim qi
    | succ m =>
      refine (seqST (sE t S.C m1 nxi.s).2 (SQ.of (show SQ X.K Dp.cs Dp.xs hv ow W Θi Gi Hi σi (Fl.of (evT T.gc (run T.gc code n) t ei) _) D from qi))).mono fun v1 H1 z1 => ?_
      obtain ⟨e1, G1, Θ1, st1, s1, q1⟩ := z1
      have nx1 : Nx X.K Dp.cs hv ow Θi Gi Hi σi Θ1 G1 H1 σi e1 := Nx.of st1 s1
      cases v1 with
      | false => exact iteF (q1 _ _ _ _ nx1)
      | true =>
        refine iteT ⟨fun σ' H' => ∃ Θ' G' e', Nx X.K Dp.cs hv ow Θ G H σ Θ' G' H' σ' e' ∧ SQ X.K Dp.cs Dp.xs hv ow W Θ' G' H' σ' (whlL (fun e => evT T.gc (run T.gc code n) t e) (fun e => evSs T.gc (run T.gc code n) ow b e) m e') D,
          fun σ' H' h' => ⟨m, Nat.lt_succ_self _, h'⟩, ?_⟩
        have q2 : SQ X.K Dp.cs Dp.xs hv ow W Θi Gi Hi σi (match evSs T.gc (run T.gc code n) ow b e1 with
          | .nx e => whlL (fun e => evT T.gc (run T.gc code n) t e) (fun e => evSs T.gc (run T.gc code n) ow b e) m e
          | .ct e => whlL (fun e => evT T.gc (run T.gc code n) t e) (fun e => evSs T.gc (run T.gc code n) ow b e) m e
          | .bk e => .nx e
          | .rt o e => .rt o e
          | .ex x e => .ex x e
          | .bad => .bad) D := q1
        exact sSs hvo b S m2 s1 _ (turnQ (SQ.trans q2 nx1) fun Θ' G' H' σ' e' a q => ⟨Θ', G', e', (nxi.trans nx1).trans a, q⟩)
  | .brk, W, X, st, S, hm, Θ, G, H, e, σ, s, D, q0 => by
    rcases st <;> try (exact no hm)
    exact wS.by ps_break (q0 _ _ _ _ (Nx.refl s))
  | .cnt, W, X, st, S, hm, Θ, G, H, e, σ, s, D, q0 => by
    rcases st <;> try (exact no hm)
    exact wS.by ps_continue (q0 _ _ _ _ (Nx.refl s))
  | .pass, W, X, st, S, hm, Θ, G, H, e, σ, s, D, q0 => by
    rcases st <;> try (exact no hm)
    exact wS.by ps_pass (q0 _ _ _ _ (Nx.refl s))
  | .bad, W, X, st, S, hm, Θ, G, H, e, σ, s, D, q0 => False.elim q0
theorem sSs (hvo : ∀ i : Nat, ow[i]? ≠ some true → ∀ k, hv i k = none) : ∀ (c : CSs) {W : WX} {X : Cx} {st : List Stmt} (S : SC T code Dp n W X) (hm : mSs T X.N X.env.scope c st = true) {Θ : Ow} {G H : Hp} {e : Sl} {σ : L2.St}, Sts X.K Dp.cs hv Θ G H e σ →
    ∀ D : Ends, SQ X.K Dp.cs Dp.xs hv ow W Θ G H σ (evSs T.gc (run T.gc code n) ow c e) D → wSs X st D σ H
  | .nil, W, X, st, S, hm, Θ, G, H, e, σ, s, D, q => by
    cases st with
    | cons _ _ => exact no hm
    | nil => exact wSs.by pss_nil (q _ _ _ _ (Nx.refl s))
  | .cons a r, W, X, st, S, hm, Θ, G, H, e, σ, s, D, q => by
    cases st with
    | nil => exact no hm
    | cons y ys =>
      obtain ⟨m1, m2⟩ := and2 hm
      refine wSs.by (pss_cons ps_w pss_w) ?_
      refine sS hvo a S m1 s { D with nx := wSs X ys D } ?_
      have q : SQ X.K Dp.cs Dp.xs hv ow W Θ G H σ (match evS T.gc (run T.gc code n) ow a e with
        | .nx e => evSs T.gc (run T.gc code n) ow r e
        | .rt o e => .rt o e
        | .bk e => .bk e
        | .ct e => .ct e
        | .ex x e => .ex x e
        | .bad => .bad) D := q
      cases h : evS T.gc (run T.gc code n) ow a e with
      | nx e1 =>
        rw [h] at q
        exact fun Θ' G' H' σ' b => sSs hvo r S m2 b.s D (SQ.trans q b)
      | rt o e1 =>
        rw [h] at q
        exact q
      | bk e1 =>
        rw [h] at q
        exact q
      | ct e1 =>
        rw [h] at q
        exact q
      | ex x e1 =>
        rw [h] at q
        exact q
      | bad =>
        rw [h] at q
        exact q
end
end
end Y

/-! Y17: every def keeps the core language's word. -/
namespace Y
open PySem PySem.Spec PyProof.Rows L2
section
variable {T : Tb} {code : List FD} {Dp : PgT} {n : Nat} {fl : Option Scope} {W : WX} {X : Cx} {K : PySem.W.Frag} {Cs Xs : Cls} {hv : Nat → Nat → Option V} {U U' : Addr → Prop} {τ : Tau} {os outs : List O} {vs : List V} {r : O} {Θ Θ0 Θ1 Θ2 Θ' : Ow} {G0 G G' G1 G2 H0 H H' H1 H2 : Hp} {e e' e0 e1 e2 : Sl} {σ σ' σ1 σ2 : L2.St} {av : AV} {v : V} {o : O} {d : D} {x : Expr} {b : Bool}
theorem paired_at {α β : Type} {F : α → β → Prop} : ∀ {l : List α} {m : List β}, l.length = m.length → (∀ (i : Nat) (x : α) (y : β), l[i]? = some x → m[i]? = some y → F x y) → Paired F l m
  | [], [], _, _ => .nil
  | [], _ :: _, h, _ => by simp at h
  | _ :: _, [], h, _ => by simp at h
  | x :: l, y :: m, h, k => .cons (k 0 x y rfl rfl) (paired_at (by simpa using h) fun i a b p q => k (i + 1) a b (by simpa using p) (by simpa using q))
theorem outOs_len : ∀ {os : List O} {e : Sl} {outs : List O}, outOs os e = some outs → outs.length = os.length
  | [], e, outs, h => by
    have h' : some ([] : List O) = some outs := h
    cases h'
    rfl
  | a :: os, e, outs, h => by
    have h : (match outO a ((e[0]?).join), outOs os (e.drop 1) with | some x, some xs => some (x :: xs) | _, _ => none) = some outs := h
    cases q1 : outO a ((e[0]?).join) with
    | none =>
      rw [q1] at h
      cases h
    | some x =>
      cases q2 : outOs os (e.drop 1) with
      | none =>
        rw [q1, q2] at h
        cases h
      | some xs =>
        rw [q1, q2] at h
        cases h
        simp [outOs_len q2]
theorem outOs_at : ∀ {os : List O} {e : Sl} {outs : List O}, outOs os e = some outs → ∀ (i : Nat) (x a : O), outs[i]? = some x → os[i]? = some a → outO a ((e[i]?).join) = some x
  | [], e, outs, h, i, x, a, _, h2 => by simp at h2
  | b :: os, e, outs, h, i, x, a, h1, h2 => by
    have h : (match outO b ((e[0]?).join), outOs os (e.drop 1) with | some x, some xs => some (x :: xs) | _, _ => none) = some outs := h
    cases q1 : outO b ((e[0]?).join) with
    | none =>
      rw [q1] at h
      cases h
    | some y =>
      cases q2 : outOs os (e.drop 1) with
      | none =>
        rw [q1, q2] at h
        cases h
      | some xs =>
        rw [q1, q2] at h
        cases h
        cases i with
        | zero =>
          simp at h1 h2
          subst h1 h2
          exact q1
        | succ i =>
          have := outOs_at q2 i x a (by simpa using h1) (by simpa using h2)
          rw [List.getElem?_drop, Nat.add_comm] at this
          exact this
theorem join_os {m i : Nat} {o : O} (h : ((os.map some ++ List.replicate m none)[i]?).join = some o) : os[i]? = some o := by
  by_cases hi : i < os.length
  · rw [List.getElem?_append_left (by simpa using hi), List.getElem?_map] at h
    cases q : os[i]? with
    | none =>
      rw [q] at h
      cases h
    | some x =>
      rw [q] at h
      exact h
  · rw [List.getElem?_append_right (by simpa using hi), List.getElem?_replicate] at h
    split at h <;> cases h
theorem start_at {N : List Str} {i : Nat} (h : vs[i]? = some v) : (L2.start N vs)[i]? = some (some v) := by
  have hi : i < vs.length := (List.getElem?_eq_some_iff.mp h).1
  unfold L2.start
  rw [List.getElem?_append_left (by simpa using hi), List.getElem?_map, h]
  rfl
/-- the caller's hidden attributes -/
def hv0 (os : List O) (hv : Nat → Nat → Option V) : Nat → Nat → Option V := fun i => if (os.map ownO)[i]? = some true then hv i else fun _ => none
theorem hv0_own {i : Nat} (h : (os.map ownO)[i]? = some true) : hv0 os hv i = hv i := if_pos h
theorem hv0_no {i : Nat} (h : (os.map ownO)[i]? ≠ some true) : ∀ k, hv0 os hv i k = none := fun k => by
  unfold hv0
  rw [if_neg h]
theorem ow_at {i : Nat} (h : os[i]? = some o) (z : ownO o = true) : (os.map ownO)[i]? = some true := by
  rw [List.getElem?_map, h]
  exact congrArg some z
theorem ow_of {i : Nat} (h : (os.map ownO)[i]? = some true) : ∃ o, os[i]? = some o ∧ ownO o = true := by
  rw [List.getElem?_map] at h
  cases q : os[i]? with
  | none =>
    rw [q] at h
    cases h
  | some o =>
    rw [q] at h
    exact ⟨o, rfl, Option.some.inj h⟩
theorem ow_no {i : Nat} (h : os[i]? = some o) (z : ownO o = false) : (os.map ownO)[i]? ≠ some true := fun w => by
  obtain ⟨u, h1, h2⟩ := ow_of w
  rw [h] at h1
  cases h1
  rw [z] at h2
  cases h2
/-- a thing that is no own one does not ask for owners -/
theorem repO_flat {τ τ' : Tau} {η η' : Nat → Option V} (z : ownO o = false) (g : Same G G') (h : RepO K Cs G H τ η o v) : RepO K Cs G' H' τ' η' o v := by
  cases o with
  | d x => exact Rp.mono g x v h
  | ol xs => cases z
  | od xs => cases z
  | ob c fs => cases z
  | un => exact h.elim
  | hid => exact h
theorem at_map {α : Type} {l : List α} {j : Nat} {x : α} (h : (l.map some)[j]? = some (some x)) : l[j]? = some x := by
  rw [List.getElem?_map] at h
  cases q : l[j]? with
  | none =>
    rw [q] at h
    cases h
  | some y =>
    rw [q] at h
    cases h
    rfl
theorem sts0 (A : Y.Args K Cs hv Θ G H os vs) {N : List Str} {m : Nat} (hm : m = N.length - vs.length) : Sts K Cs (hv0 os hv) Θ G H (os.map some ++ List.replicate m none) (L2.start N vs) := by
  have hl : os.length = vs.length := by simpa using A.s.len
  refine ⟨A.s.gh, A.s.th, ?_, fun i o h => ?_⟩
  · unfold L2.start
    rw [List.length_append, List.length_append, List.length_map, List.length_map, List.length_replicate, List.length_replicate, hl, hm]
  · have h' := join_os h
    obtain ⟨v, k1, k2⟩ := A.s.sl i o (by rw [at_map_some h']; rfl)
    refine ⟨v, start_at (at_map k1), ?_⟩
    cases z : ownO o with
    | true =>
      rw [hv0_own (ow_at h' z)]
      exact k2
    | false => exact repO_flat z (Same.refl _) k2
/-- the arguments behind a body -/
theorem sts_out {N : List Str} (A : Y.Args K Cs hv Θ G H os vs) (nx : Nx K Cs (hv0 os hv) (os.map ownO) Θ G H (L2.start N vs) Θ' G' H' σ' e') (ho : outOs os e' = some outs) : Sts K Cs hv Θ' G' H' (outs.map some) (vs.map some) := by
  have hl : os.length = vs.length := by simpa using A.s.len
  refine ⟨nx.s.gh, nx.s.th, by rw [List.length_map, List.length_map, outOs_len ho, hl], fun i o h => ?_⟩
  have h := map_some_at h
  have hi : i < os.length := by
    have := (List.getElem?_eq_some_iff.mp h).1
    rw [outOs_len ho] at this
    exact this
  have ha := List.getElem?_eq_getElem hi
  have k := outOs_at ho i o _ h ha
  obtain ⟨v0, b1, b2⟩ := A.s.sl i _ (by rw [at_map_some ha]; rfl)
  cases z : ownO os[i] with
  | false =>
    have k : (if ownO os[i] = true then _ else some os[i]) = some o := k
    rw [z, if_neg Bool.false_ne_true] at k
    cases k
    exact ⟨v0, b1, repO_flat z nx.st.g b2⟩
  | true =>
    have k : (if ownO os[i] = true then (match (e'[i]?).join with
      | some .hid => none
      | some .un => none
      | r => r) else some os[i]) = some o := k
    rw [if_pos z] at k
    have k : (e'[i]?).join = some o := by
      split at k
      · cases k
      · cases k
      · exact k
    obtain ⟨u, c1, c2⟩ := nx.s.sl i o k
    have hown := ow_at ha z
    have := nx.own i hown
    rw [start_at (at_map b1), c1] at this
    cases this
    refine ⟨v0, b1, ?_⟩
    rw [← hv0_own (hv := hv) hown]
    exact c2
theorem ret_of {N : List Str} (A : Y.Args K Cs hv Θ G H os vs) (nx : Nx K Cs (hv0 os hv) (os.map ownO) Θ G H (L2.start N vs) Θ' G' H' σ' e') (ho : outOs os e' = some outs) (rv : RepO K Cs G' H' τ (fun _ => none) r v) (fr : Fresh (os.map ownO) Θ' H H' τ) : Ret K Cs hv Θ G H os vs r outs v G' H' := by
  refine ⟨Θ', τ, nx.st, sts_out A nx ho, rv, fun p m z => ?_⟩
  obtain ⟨h1, ⟨k1, k2⟩ | ⟨i, k, k1, k2⟩⟩ := fr p m z
  · exact ⟨k2, h1, fun j k w => by
      rw [k1] at w
      cases w⟩
  · refine ⟨?_, h1, fun j k' w o hj => ?_⟩
    · cases q : H p with
      | none => rfl
      | some u =>
        exfalso
        cases t : Θ p with
        | none =>
          have := (nx.st.h p u q t).2.2
          rw [k1] at this
          cases this
        | some w =>
          have := nx.st.m p w t
          rw [k1] at this
          cases this
          obtain ⟨o, h2, h3⟩ := A.ow p i k t
          exact k2 (ow_at h2 h3)
    · rw [k1] at w
      cases w
      cases z2 : ownO o with
      | false => rfl
      | true => exact absurd (ow_at hj z2) k2
theorem fnG_step {P : Program} {w : World} {mg : Str → Option Value} {base : Heap} (pg : PgOk T code Dp K mg) (okp : Dp.okP P) (ih : ∀ m, m ≤ n → ∀ f, FnG P w K mg base T code Dp m f) (f : Nat) : FnG P w K mg base T code Dp (n + 1) f := by
  intro hmk A outer s H args us vs Q E hr hg e0 hb rv hsp
  obtain ⟨G, hv, Θ, os, ro, outs, Ag, hrun, fin⟩ := hsp
  obtain ⟨fd, m0, em, hc, hl, hrun⟩ := run_code hrun
  cases em
  have hmn := hmk fd hc
  obtain ⟨name, qual, F, S, B, np, ns, m⟩ := pg.df f fd hc hmn
  rw [hmn] at hrun
  have hrun : (match fd.nt with
        | some g => (g os).map (fun r => (Rs.v r.1, r.2)) = some (ro, outs)
        | none => runF T.gc (run T.gc code n) fd os = some (ro, outs)) := hrun
  cases hnt : fd.nt with
  | some g =>
    rw [hnt] at hrun
    have hrun : (g os).map (fun r => (Rs.v r.1, r.2)) = some (ro, outs) := hrun
    cases hg2 : g os with
    | none =>
      rw [hg2] at hrun
      cases hrun
    | some r2 =>
      obtain ⟨r2, outs2⟩ := r2
      rw [hg2] at hrun
      cases hrun
      exact pg.nt f fd g hc hnt hmn P w base n ih A outer s H args us vs Q E hr hg e0 hb rv ⟨G, hv, Θ, os, r2, outs2, Ag, hg2, fin⟩
  | none =>
  have m := m hnt
  rw [hnt] at hrun
  have hrun : runF T.gc (run T.gc code n) fd os = some (ro, outs) := hrun
  obtain ⟨oc, od, kV, doc, pm, an, cdv, ct, osl, hfd, lk, hcd⟩ := F.ex
  rw [hfd] at lk hb
  have lv : vs.length = (Dp.ps f).length := by
    have : os.length = vs.length := by simpa using Ag.s.len
    omega
  have ups : ∀ b o, base.get? b = some o → s.heap.get? b = some o := fun b o e => (e0.bs b o e).1
  have inK : K.In s.heap := e0.mod.kin.keeps ups
  have par : ∀ y ∈ (Dp.ps f).zip us, (defScope (Dp.st f)).names.lookup y.1 = some .local ∨
      ((defScope (Dp.st f)).names.lookup y.1 = some .cell ∧ ((cellsFrom (s.heap.objs.size + 1) (defScope (Dp.st f)).names []).lookup y.1).isSome = true) := by
    rintro ⟨y, u⟩ hy
    rcases S.par y (List.of_mem_zip hy).1 with q | q
    · exact Or.inl q
    · exact Or.inr ⟨q, PySem.W.cellsFrom_some _ _ _ (Or.inl q)⟩
  refine codeAny_call_function (Room.depth hr) (inK _ _ lk) rfl S.co S.gen rfl (PySem.W.codeRec_of inK hcd) (hb _ _ _ _ ?_)
  refine wpAny_newFunctionEnv_cells S.kind par fun env he s1 x => ?_
  rw [he] at x ⊢
  refine ⟨(e0.mod.nolimit.keeps ups).keeps x.toInCall.keep, codeAny_func ?_⟩
  have I := inv_start (CX := L2.CX P w) (P := P) (w := w) (K := K) (mg := mg) (base := base) (N := Dp.N f) (E := E) S hr.hd e0 lv rv x
  have C : Ctx T code Dp n none (fun cls d _ H' => E cls d H') (cxOf (L2.CX P w) P w K mg base (Dp.N f) qual (defScope (Dp.st f)) (Dp.addr f) cdv A outer s H E) :=
    ⟨S.nd, rfl, rfl, Room.deeper hr _, hg, pg, okp, ih, takes_of rfl rfl rfl rfl⟩
  have SS : SC T code Dp n (fun cls d _ H' => E cls d H') (cxOf (L2.CX P w) P w K mg base (Dp.N f) qual (defScope (Dp.st f)) (Dp.addr f) cdv A outer s H E) := ⟨C, rfl, rfl, S.kind, passes_of rfl⟩
  have st0 : Sts K Dp.cs (hv0 os hv) Θ G H (os.map some ++ List.replicate (fd.ns - fd.np) none) (L2.start (Dp.N f) vs) := sts0 Ag (by rw [ns, np, lv])
  have body := sSs (ow := os.map ownO) (fun i h => hv0_no h) fd.body SS m st0 { nx := fun _ H' => Q .non H', rt := Q } (by
    unfold runF at hrun
    split at hrun
    · cases q : evSs T.gc (run T.gc code n) (os.map ownO) fd.body (os.map some ++ List.replicate (fd.ns - fd.np) none) with
      | rt o e' =>
        rw [q] at hrun
        cases ho : outOs os e' with
        | none =>
          simp only [ho] at hrun
          cases hrun
        | some xs =>
          simp only [ho] at hrun
          cases hrun
          exact fun Θ' G' H' σ' v τ nx r1 r2 => fin v G' H' (ret_of Ag nx ho r1 r2)
      | nx e' =>
        rw [q] at hrun
        cases ho : outOs os e' with
        | none =>
          simp only [ho] at hrun
          cases hrun
        | some xs =>
          simp only [ho] at hrun
          cases hrun
          exact fun Θ' G' H' σ' nx => fin .non G' H' (ret_of (τ := fun _ => none) Ag nx ho Rp.non fun p m h => (nomatch h))
      | ex x e' =>
        rw [q] at hrun
        cases ho : outOs os e' with
        | none =>
          simp only [ho] at hrun
          cases hrun
        | some xs =>
          simp only [ho] at hrun
          cases hrun
          exact fun Θ' G' H' σ' cls d nx eo => fin cls d G' H' ⟨Θ', nx.st, sts_out Ag nx ho, eo⟩
      | bk e' =>
        rw [q] at hrun
        cases hrun
      | ct e' =>
        rw [q] at hrun
        cases hrun
      | bad =>
        rw [q] at hrun
        cases hrun
    · cases hrun)
  have run1 := (pss_w (X := (cxOf (L2.CX P w) P w K mg base (Dp.N f) qual (defScope (Dp.st f)) (Dp.addr f) cdv A outer s H E)) (sts := defBody (Dp.st f))).run [] s1 (L2.start (Dp.N f) vs) H { nx := fun _ H' => Q .non H', rt := Q } I body
  refine wpAny_mono run1 (fun fl s' hs => ?_) fun e s' hs => hs
  cases fl with
  | next =>
    obtain ⟨σ', H', J, q⟩ := hs
    exact ⟨V.non, H', J.os, J.bare, J.base, J.hok, rfl, q⟩
  | ret u =>
    obtain ⟨v, σ', H', J, r1, q⟩ := hs
    exact ⟨v, H', J.os, J.bare, J.base, J.hok, r1, q⟩
  | brk =>
    obtain ⟨σ', H', J, q⟩ := hs
    exact q.elim
  | cont =>
    obtain ⟨σ', H', J, q⟩ := hs
    exact q.elim
theorem fnG_all {P : Program} {w : World} {mg : Str → Option Value} {base : Heap} (pg : PgOk T code Dp K mg) (okp : Dp.okP P) : ∀ n, ∀ m, m ≤ n → ∀ f, FnG P w K mg base T code Dp m f
  | 0, m, hm, f => by
    have e : m = 0 := by omega
    subst e
    intro _ A outer s H args us vs Q E hr hg e0 hb rv hsp
    obtain ⟨G, hv, Θ, os, ro, outs, Ag, hrun, fin⟩ := hsp
    cases hrun
  | n + 1, m, hm, f => by
    by_cases e : m = n + 1
    · subst e
      exact fnG_step pg okp (fnG_all pg okp n) f
    · exact fnG_all pg okp n m (by omega) f
end
end Y

/-! Y18: the law's end. -/
namespace Y
open PySem PySem.Spec PyProof.Rows L2
section
variable {T : Tb} {code : List FD} {Dp : PgT} {n : Nat} {P : Program} {w : World} {K : PySem.W.Frag} {mg mb : Str → Option Value}
/-- what a law's call must come to -/
def Came (s1 : Shared) : Result → Shared → Prop := fun r t => r = .ok (.ret (.bool true)) ∧ OldK s1.heap t.heap ∧ t.os = s1.os ∧ AllBare t.gens
theorem ints_rp {H : Hp} : ∀ ns : List Int, RpA K H (ns.map V.int) (ns.map PyData.int)
  | [] => .nil
  | i :: ns => .cons (.int i) (ints_rp ns)
theorem end_in {f : Nat} {a : Addr} {x : Str} {s1 : Shared} {ns : List Int} {H : Hp} (pg : PgOk T code Dp K mg) (okp : Dp.okP P) (KX : K.In s1.heap) (hns : s1.heap.Ns mainGlobals mg) (hb : s1.heap.Ns builtinsNs mb) (hbb : ∀ y : Str, y ≠ "__name__" → mb y = bootBuiltins y)
    (hlim : s1.heap.NoLimit) (hg : s1.gens = #[]) (hr : Room (n + 2) callerA) (hmk : ∀ fd, code[f]? = some fd → fd.mak = none) (hps : Dp.ps f = [x]) (hbind : ∀ (s : Shared) (u : Value), BindsTo s (Dp.fd f) ⟨[u], []⟩ [(x, u)])
    (hrun : ∃ outs, run T.gc code n f [.d (.list (ns.map PyData.int))] = some (.v (.d (.bool true)), outs))
    (hO : ∀ b, H b ≠ none → b = a ∧ K.lookup b = none ∧ (∃ o xs, H b = some (.frz o (.lst xs))) ∧ ∃ o its m, s1.heap.get? b = some o ∧ o.data = .seq its m) (hS : SqL K H a (ns.map V.int)) (hok : HOk P w H s1.heap) :
    codeAny (model P w) callerA (.call (.ref (Dp.addr f)) ⟨[.ref a], []⟩) (Came s1) s1 := by
  have up : ∀ {b : Addr} {o : Obj}, s1.heap.get? b = some o → H b = none → (hidT s1.heap H).get? b = some o := fun e z => hidT_get e z
  have free : ∀ {b : Addr} {o : Obj} {es : Array DictEntry} {m : Nat}, s1.heap.get? b = some o → o.data = .dict es m → H b = none := fun {b o es m} e z => by
    refine Classical.byContradiction fun q => ?_
    obtain ⟨_, _, _, o', its, m', e', z'⟩ := hO b q
    rw [e] at e'
    cases e'
    rw [z] at z'
    cases z'
  have names : ∀ {b : Addr} {m : Str → Option Value}, s1.heap.Ns b m → (hidT s1.heap H).Ns b m := by
    rintro b m ⟨o, es, ep, e, z, r⟩
    exact ⟨o, es, ep, up e (free e z), z, r⟩
  have inB : K.In (hidT s1.heap H) := fun b o e => up (KX b o e) (Classical.byContradiction fun q => by
    have := (hO b q).2.1
    rw [e] at this
    cases this)
  obtain ⟨mc, lim1, lim2⟩ := hlim
  have M : Mod K mg (hidT s1.heap H) := ⟨inB, names hns, ⟨mb, names hb, hbb⟩, ⟨mc, names lim1, lim2⟩⟩
  have e0 : Env0 P w K mg (hidT s1.heap H) callerA [] s1 H := ⟨rfl, M, fun b o e => of_hidT e, Nat.le_of_eq (hidT_size _ _), trivial, fun b hb => (nomatch hb), hok, .of_eq hg⟩
  obtain ⟨outs, hrun⟩ := hrun
  have sp : spZ K Dp.cs Dp.xs T.gc code n f [.ref a] H (fun v _ => v = .bl true) (fun _ _ _ => False) := by
    refine ⟨H, fun _ _ => none, fun _ => none, _, _, outs, ⟨⟨Same.refl _, fun _ _ z => (nomatch z), rfl, fun i o h => ?_⟩, fun p j k z => (nomatch z)⟩, hrun, fun v G' H' R => ?_⟩
    · cases i with
      | zero =>
        cases h
        exact ⟨_, rfl, Rp.lst hS (ints_rp ns)⟩
      | succ i => simp at h
    · obtain ⟨Θ', τ, _, _, r, _⟩ := R
      exact rp_bl r
  have called := fnG_all (P := P) (w := w) (base := hidT s1.heap H) pg okp n n (Nat.le_refl _) f hmk callerA [] s1 H ⟨[.ref a], []⟩ [.ref a] [.ref a] (fun v _ => v = .bl true) (fun _ _ _ => False) hr rfl e0 (by rw [hps]; exact hbind s1 (.ref a)) (.cons rfl .nil) sp
  refine codeAny_mono called fun r t h => ?_
  rcases r with e | fl
  · obtain ⟨_, _, _, _, _, _, _, _, _, _, _, _, q⟩ := h
    exact q.elim
  · cases fl <;> try (exact h.elim)
    rename_i u
    obtain ⟨v, H', os, bare, un, hok', rv, q⟩ := h
    obtain rfl : v = .bl true := q
    obtain rfl : u = Value.bool true := rv
    refine ⟨rfl, OldK.of_keep fun b o e => ?_, os, bare⟩
    by_cases q : H b = none
    · exact un.keep b o e q (fun z => nomatch z) (by simp)
    · obtain ⟨_, _, ⟨ob, xs, z⟩, _⟩ := hO b q
      obtain ⟨e1, _⟩ := hok b _ z
      obtain ⟨e2, _⟩ := hok' b _ (un.frzs b ob _ z)
      rw [e] at e1
      cases e1
      exact e2
theorem end_call {f : Nat} {a : Addr} {x : Str} {s1 : Shared} {vs : List Value} {ns : List Int} (pg : PgOk T code Dp K mg) (okp : Dp.okP P) (KX : K.In s1.heap) (hns : s1.heap.Ns mainGlobals mg) (hb : s1.heap.Ns builtinsNs mb) (hbb : ∀ y : Str, y ≠ "__name__" → mb y = bootBuiltins y)
    (hlim : s1.heap.NoLimit) (hg : s1.gens = #[]) (hr : Room (n + 2) callerA) (hmk : ∀ fd, code[f]? = some fd → fd.mak = none) (hps : Dp.ps f = [x]) (hbind : ∀ (s : Shared) (u : Value), BindsTo s (Dp.fd f) ⟨[u], []⟩ [(x, u)])
    (hrun : ∃ outs, run T.gc code n f [.d (.list (ns.map PyData.int))] = some (.v (.d (.bool true)), outs))
    (ha : s1.heap.get? a = some { cls := .type "list", data := .seq vs.toArray }) (hi : IntsAre vs ns) (hl : ns.length ≤ sizeLine) :
    codeAny (model P w) callerA (.call (.ref (Dp.addr f)) ⟨[.ref a], []⟩) (Came s1) s1 := by
  have rv := vals_ints hi
  by_cases hk : ∃ o, K.lookup a = some o
  · obtain ⟨o, hk⟩ := hk
    have e := KX a o hk
    rw [ha] at e
    cases e
    refine end_in (H := fun _ => none) pg okp KX hns hb hbb hlim hg hr hmk hps hbind hrun (fun b q => absurd rfl q) (.inr ⟨_, vs.toArray, _, hk, rfl, rfl, rfl, ?_, by simpa using rv⟩) fun b u q => nomatch (show (none : Option HO) = some u from q)
    rw [List.size_toArray, hi.length]
    exact hl
  · have hk : K.lookup a = none := by
      cases q : K.lookup a with
      | none => rfl
      | some o => exact absurd ⟨o, q⟩ hk
    have at1 : ∀ b : Addr, (if b = a then some (HO.frz { cls := .type "list", data := .seq vs.toArray } (.lst (ns.map V.int))) else none) ≠ none → b = a := fun b q => Classical.byContradiction fun z => q (if_neg z)
    refine end_in (H := fun b => if b = a then some (.frz { cls := .type "list", data := .seq vs.toArray } (.lst (ns.map V.int))) else none) pg okp KX hns hb hbb hlim hg hr hmk hps hbind hrun (fun b q => ?_) (.inl (.inr ⟨{ cls := .type "list", data := .seq vs.toArray }, if_pos rfl⟩)) fun b u q => ?_
    · obtain rfl := at1 b q
      exact ⟨rfl, hk, ⟨_, _, if_pos rfl⟩, _, _, _, ha, rfl⟩
    · have z : b = a := at1 b (fun z => nomatch (show some u = none from q.symm.trans z))
      subst z
      have q' := (if_pos rfl).symm.trans q
      cases q'
      exact ⟨ha, by rw [List.length_map]; exact hl, vs, _, rv, ha⟩
end
/-- a law by its core text -/
theorem walkY {l : PySem.W.OpenLaw} {m n f : Nat} {q : Program} {loose : List Str} {XP : (Str → Option Value) → Heap → Prop} {YP : World → Heap → Prop} {d : DefRec} {K : Params → PySem.W.Frag} {x : Str} {T : Tb} {code : List FD}
    (hn : l.most = some m) (hn2 : m ≤ sizeLine) (hdf : d.params.defaults = []) (hmk : ∀ fd, code[f]? = some fd → fd.mak = none) (hr : Room (n + 2) callerA) (hY : ∀ (w : World) (h : Heap), YP w h → (K w.params).In h)
    (F : ∀ (w : World) (mg : Str → Option Value) (fa : Addr) (h : Heap), (K w.params).In h → h.Ns mainGlobals mg → mg d.name = some (.ref fa) →
      ∃ Dp : PgT, Dp.addr f = fa ∧ Dp.ps f = [x] ∧ (∀ (s : Shared) (u : Value), BindsTo s (Dp.fd f) ⟨[u], []⟩ [(x, u)]) ∧ PgOk T code Dp (K w.params) mg ∧ Dp.okP l.prog)
    (hrun : ∀ ns : List Int, ns.length ≤ m → ∃ outs, run T.gc code n f [.d (.list (ns.map PyData.int))] = some (.v (.d (.bool true)), outs)) :
    PySem.W.WalkO q loose XP YP l.row.toRowW d [] (fun f vs => PySem.call f vs) := by
  refine Att.attach_call hn hdf fun w s0 s1 mg mb fa o pm cd doc a vs ns G Y ho hd hcd hmg hobj hints hlen hg => ?_
  have inK := hY w _ Y
  obtain ⟨Dp, rfl, hps, hbind, pg, okp⟩ := F w mg fa _ inK G.T.g hmg
  exact end_call pg okp inK G.T.g G.T.b G.T.builtins G.T.nolimit hg hr hmk hps hbind (hrun ns hlen) hobj hints (Nat.le_trans hlen hn2)
end Y

/-! Y19: the facts of an own exception, put together. -/
namespace Y
open PySem PySem.Spec PySem.Calls L2
/-- the def __init__ of a class -/
def initSt (st : Stmt) : Stmt := match st with
  | .ClassDef _ _ _ body _ _ _ _ _ _ _ => (body.find? fun | .FunctionDef .. => true | _ => false).getD st
  | st => st
def initOk (x1 t : Str) (st : Stmt) : Bool :=
  (match defBody st with
  | [.Expr (.Call (.Attribute (.Call (.Name s0 _) [] [] _) i0 p2) [.JoinedStr [.Constant (.str t') _ _, .FormattedValue (.Name y _) c none _] _] [] p3) _, .Assign [.Attribute (.Name s1 _) f1 _] (.Name y1 _) _] =>
    decide (s0 = ("super" : Str)) && decide (i0 = ("__init__" : Str)) && (p2.endLine == p3.line) && decide (t' = t) && decide (y = x1) && decide (c = -1) && decide (s1 = ("self" : Str)) && decide (f1 = x1) && decide (y1 = x1)
  | _ => false) &&
  (match ((defArgs st).posonlyargs ++ (defArgs st).args).head? with | some ar => decide (ar.arg = ("self" : Str)) | none => false) &&
  ((defScope st).kind == .function) && !(defScope st).isCoroutine && !(defScope st).isGenerator &&
  ((defScope st).names.all fun y => decide (y.2 ≠ .cell) && (decide (y.2 ≠ .free) || decide (y.1 = ("__class__" : Str)))) &&
  decide ((defScope st).names.lookup ("self" : Str) = some .local) && decide ((defScope st).names.lookup x1 = some .local) && decide ((defScope st).names.lookup ("super" : Str) = some .globalImplicit) && decide ((defScope st).names.lookup ("__class__" : Str) = some .free) &&
  decide (("self" : Str) ≠ x1) && !(x1 == ("__debug__" : Str)) && !(x1 == ("__classdict__" : Str)) && decide (t.length ≤ 1000)
theorem rs_mk {K : PySem.W.Frag} {mg : Str → Option Value} {C f cc cda N : Addr} {nmx x1 t qual file name nm q : Str} {st : Stmt} {kV doc pm ct oc cl ccl : Value} {an od cld cdd dd : Option Addr} {osl csl ccs : Array (Option Value)} {vs : Array Value} {tf : Tok} {bs bm sub : List Value} {sn : List Str} {ab : Bool} {col : Option Bool} {k0 k1 k2 k3 k5 : Option Value}
    (gC : mg nmx = some (.ref C)) (hdb : (nmx == ("__debug__" : Str)) = false)
    (cls : K.lookup C = some (excClassObj nm q C N bs bm true sn sub ab col dd k0 k1 k2 k3 k5 "ValueError.__new__")) (hbm : PySem.HandSPX.refsVE bm = true) (sa : PySem.W.findIn K (.ref C) "__setattr__" = some (some (.builtin "object.__setattr__")))
    (exC : PySem.W.subIn K (.ref C) (.type "BaseException") = some true) (tyC : PySem.W.typeIn K (.ref C) = some (.type "type")) (kC : PySem.W.keepIn K (.ref C) = true)
    (iC : PySem.W.findIn K (.ref C) "__init__" = some (some (.ref f))) (tI : PySem.W.typeIn K (.ref f) = some (.type "function"))
    (lk : K.lookup f = some ⟨oc, od, .func (PySem.W.ksFn name qual (defArgs st) (defBody st) (defScope st) .none kV doc pm an (.ref cda) ct cc), osl⟩) (hcd : PySem.W.codeIn K (.ref cda) qual = true)
    (sup : PySem.W.ks_superIn K C C "__init__" = some (some (.builtin "ValueError.__init__"))) (sub1 : PySem.W.mroIn K C (.ref C) = some true) (subV : PySem.W.subIn K (.ref C) (.type "ValueError") = some true)
    (opq : PySem.W.nsIn K cStatics "thirdparty.any" = some none) (nos : PySem.W.nsIn K mainGlobals "super" = some none) (fld : PySem.W.findIn K (.ref C) x1 = some none)
    (cell : K.lookup cc = some ⟨cl, cld, .cell (some (.ref C)), csl⟩) (cod : K.lookup cda = some ⟨ccl, cdd, .fields vs, ccs⟩) (hvs : vs[2]? = some (.str file tf)) (txt : initOk x1 t st = true)
    (hb : Binds K (PySem.W.ksFn name qual (defArgs st) (defBody st) (defScope st) .none kV doc pm an (.ref cda) ct cc) ["self", x1] []) :
    ∀ (X : Cx), X.K = K → X.mg = mg → (((X.prog.main.file : Str) == file) = true ∧ (X.prog.main.scope.names.lookup ("super" : Str)).isSome = false) → Room 2 X.A → ∀ (e : Expr) (es : List Expr) (pp pos : Pos), Gl X nmx →
      starEach (e :: es) X.env = (false, eval e X.env) :: starEach es X.env → (backTo pos (starEach es X.env)).any (·.1) = false → [x1] ≠ [] →
      PMk X (.Call (.Name nmx pp) (e :: es) [] pos) (fun σ H Q => wA X (e :: es) σ H fun vs H1 => vs.length = [x1].length ∧ vs.all exV = true ∧ ∀ d fs, H1 d = none → (∀ (k : Nat) (nm : Str), [x1][k]? = some nm → fs.lookup nm = vs[k]?) → Q (.ref C) (some d) (upd H1 d (.xd fs))) := by
  intro X hK hM hP hr e es pp pos hg hs hp _
  subst hK hM
  unfold initOk at txt
  simp only [Bool.and_eq_true] at txt
  obtain ⟨⟨⟨⟨⟨⟨⟨⟨⟨⟨⟨⟨⟨b1, b2⟩, b3⟩, b4⟩, b5⟩, b6⟩, b7⟩, b8⟩, b9⟩, b10⟩, b11⟩, b12⟩, b13⟩, b14⟩ := txt
  have T : OexC X.K C := ⟨⟨_, _, _, _, _, _, _, _, _, _, _, _, _, _, _, cls, hbm⟩, sa, exC, tyC, kC⟩
  have b6' := List.all_eq_true.mp b6
  have fr : ∀ x, (defScope st).names.lookup x = some .cell ∨ (defScope st).names.lookup x = some .free → x = "__class__" := fun x hx => by
    rcases hx with hx | hx
    · have := b6' _ (PySem.mem_of_lookup hx)
      simp at this
    · have := b6' _ (PySem.mem_of_lookup hx)
      simpa using this
  have nc : ∀ x ∈ (defScope st).names, x.2 ≠ .cell := fun x hx => by
    have := b6' _ hx
    simp only [Bool.and_eq_true, decide_eq_true_eq] at this
    exact this.1
  obtain ⟨cd, hcl, hal⟩ : ∃ cd, PySem.W.clsIn X.K C = some cd ∧ PySem.W.alongIn X.K "__init__" ((cd.mro.dropWhile (· != .ref C)).drop 1) = some (some (.builtin "ValueError.__init__")) := by
    unfold PySem.W.ks_superIn at sup
    cases z : PySem.W.clsIn X.K C with
    | none =>
      rw [z] at sup
      cases sup
    | some cd =>
      rw [z] at sup
      exact ⟨cd, rfl, sup⟩
  have bd : ∃ kk p0 p1 p2 p3 p4 p5 p6 p7 p8 q1 q2 q3 q4, defBody st = [.Expr (.Call (.Attribute (.Call (.Name "super" p0) [] [] p1) "__init__" p2) [.JoinedStr [.Constant (.str t) kk q1, .FormattedValue (.Name x1 q2) (-1) none q3] q4] [] p3) p4, .Assign [.Attribute (.Name "self" p5) x1 p6] (.Name x1 p7) p8] ∧ (p2.endLine == p3.line) = true := by
    split at b1
    · rename_i hbd
      simp only [Bool.and_eq_true, decide_eq_true_eq] at b1
      obtain ⟨⟨⟨⟨⟨⟨⟨⟨c1, c2⟩, c3⟩, c4⟩, c5⟩, c6⟩, c7⟩, c8⟩, c9⟩ := b1
      subst c1 c2 c4 c5 c6 c7 c8 c9
      exact ⟨_, _, _, _, _, _, _, _, _, _, _, _, _, _, hbd, c3⟩
    · cases b1
  obtain ⟨kk, p0, p1, p2, p3, p4, p5, p6, p7, p8, q1, q2, q3, q4, hbd, hline⟩ := bd
  cases har : ((defArgs st).posonlyargs ++ (defArgs st).args).head? with
  | none =>
    rw [har] at b2
    cases b2
  | some ar =>
    rw [har] at b2
    have E : ExI X.K C f cc cda x1 t kk qual (defScope st) file := ⟨T, ⟨cd, hcl, hal⟩, sub1, subV, opq, nos, fld, ⟨_, _, _, cell⟩, ⟨_, _, _, _, _, cod, hvs⟩, beq_iff_eq.mp b3, fr, of_decide_eq_true b7, of_decide_eq_true b8, of_decide_eq_true b9, of_decide_eq_true b10, of_decide_eq_true b11, ⟨by simpa using b12, by simpa using b13⟩, of_decide_eq_true b14⟩
    have F1 : FnOk X.prog X.w X.K X.mg X.base CX0 1 f (PySem.W.ksFn name qual (defArgs st) (defBody st) (defScope st) .none kV doc pm an (.ref cda) ct cc) ["self", x1] (spE C x1) :=
      initE E lk hcd hbd har (of_decide_eq_true b2) (by simpa using b4) (by simpa using b5) nc hline hP.1 hP.2
    exact rsE T iC tI F1 hr hb hg gC hdb hs hp
end Y

/-! V1: the evaluator looked at from its end: what must hold so that the end is reached. Each rule is an equation; simp steps from the head alone. -/
namespace Y
open PySem L2
section
variable {gc : List (Str × D)} {Γ : Gm} {e e' : Sl} {a b c : CE} {es : CEs} {α β : Type} {x : AV} {o : O} {d p q : D} {i n : Nat} {ow : List Bool} {kx : Ex → Sl → Prop}
def R.wp (r : R α) (kx : Ex → Sl → Prop) (k : α → Sl → Prop) : Prop := match r with
  | .ok a e => k a e
  | .exc x e => kx x e
  | .bad => False
def Wo (o : Option α) (k : α → Prop) : Prop := match o with
  | some a => k a
  | none => False
def Fl.wp (f : Fl) (kx : Ex → Sl → Prop) (kn : Sl → Prop) (kr : O → Sl → Prop) (kb kc : Sl → Prop) : Prop := match f with
  | .nx e => kn e
  | .rt o e => kr o e
  | .bk e => kb e
  | .ct e => kc e
  | .ex x e => kx x e
  | .bad => False
theorem wp_bind {r : R α} {f : α → Sl → R β} {k : β → Sl → Prop} : (r.bind f).wp kx k = r.wp kx fun a e => (f a e).wp kx k := by
  cases r <;> rfl
theorem wp_of {o : Option α} {k : α → Sl → Prop} : (R.of o e).wp kx k = Wo o fun a => k a e := by
  cases o <;> rfl
theorem wp_iff {r : R α} {k : α → Sl → Prop} : r.wp kx k ↔ (∃ a e, r = .ok a e ∧ k a e) ∨ ∃ x e, r = .exc x e ∧ kx x e := by
  cases r with
  | ok a e => exact ⟨fun h => .inl ⟨a, e, rfl, h⟩, fun h => by
      rcases h with ⟨_, _, h, k⟩ | ⟨_, _, h, _⟩
      · cases h
        exact k
      · cases h⟩
  | exc x e => exact ⟨fun h => .inr ⟨x, e, rfl, h⟩, fun h => by
      rcases h with ⟨_, _, h, _⟩ | ⟨_, _, h, k⟩
      · cases h
      · cases h
        exact k⟩
  | bad => exact ⟨fun h => h.elim, fun h => by rcases h with ⟨_, _, h, _⟩ | ⟨_, _, h, _⟩ <;> cases h⟩
/-! slots -/
def lk (i : Nat) (e : Sl) (k : O → Prop) : Prop := Wo ((e[i]?).join) k
@[simp ↓] theorem lk_0 {o : O} {k} : lk 0 (some o :: e) k = k o := rfl
@[simp ↓] theorem lk_s {u : Option O} {k} : lk (i + 1) (u :: e) k = lk i e k := rfl
def lkd (i : Nat) (e : Sl) (k : D → Prop) : Prop := lk i e fun o => Wo o.dat k
@[simp ↓] theorem lkd_d {x : D} {k} : lkd 0 (some (.d x) :: e) k = k x := rfl
@[simp ↓] theorem lkd_l {xs : List D} {k} : lkd 0 (some (.ol xs) :: e) k = k (.list xs) := rfl
@[simp ↓] theorem lkd_s {u : Option O} {k} : lkd (i + 1) (u :: e) k = lkd i e k := rfl
def dt (a : AV) (e : Sl) (k : D → Prop) : Prop := Wo (a.dat e) k
@[simp ↓] theorem dt_td {x : D} {k} : dt (.tm (.d x)) e k = k x := rfl
@[simp ↓] theorem dt_to {xs : List (D × D)} {k} : dt (.tm (.od xs)) e k = k (.dict xs) := rfl
@[simp ↓] theorem dt_tl {xs : List D} {k} : dt (.tm (.ol xs)) e k = k (.list xs) := rfl
@[simp ↓] theorem dt_p {k} : dt (.pl i) e k = lkd i e k := by
  show Wo (((e[i]?).join).bind O.dat) k = Wo ((e[i]?).join) fun o => Wo o.dat k
  cases (e[i]?).join <;> rfl
def tk (a : AV) (e : Sl) (k : D → Sl → Prop) : Prop := Wo (take a e) fun p => k p.1 p.2
def tkp (i : Nat) (e : Sl) (k : D → Sl → Prop) : Prop := tk (.pl i) e k
@[simp ↓] theorem tk_d {x : D} {k} : tk (.tm (.d x)) e k = k x e := rfl
@[simp ↓] theorem tk_l {xs : List D} {k} : tk (.tm (.ol xs)) e k = k (.list xs) e := rfl
@[simp ↓] theorem tk_p {k} : tk (.pl i) e k = tkp i e k := rfl
@[simp ↓] theorem tkp_d {x : D} {k} : tkp 0 (some (.d x) :: e) k = k x (some (.d x) :: e) := rfl
@[simp ↓] theorem tkp_l {xs : List D} {k} : tkp 0 (some (.ol xs) :: e) k = k (.list xs) (some (.d (.list xs)) :: e) := rfl
@[simp ↓] theorem tkp_s {u : Option O} {k} : tkp (i + 1) (u :: e) k = tkp i e fun x e => k x (u :: e) := by
  unfold tkp tk
  show Wo (match (e[i]?).join with | some (.d x) => some (x, u :: e) | some (.ol xs) => some (PyData.list xs, (u :: e).set (i + 1) (some (.d (.list xs)))) | some (.od xs) => some (PyData.dict xs, (u :: e).set (i + 1) (some (.d (.dict xs)))) | _ => none) _ =
    Wo (match (e[i]?).join with | some (.d x) => some (x, e) | some (.ol xs) => some (PyData.list xs, e.set i (some (.d (.list xs)))) | some (.od xs) => some (PyData.dict xs, e.set i (some (.d (.dict xs)))) | _ => none) _
  cases (e[i]?).join with
  | none => rfl
  | some o => cases o <;> rfl
def tks (as : List AV) (e : Sl) (k : List D → Sl → Prop) : Prop := Wo (takes as e) fun p => k p.1 p.2
@[simp ↓] theorem tks_n {k} : tks [] e k = k [] e := rfl
@[simp ↓] theorem tks_c {as : List AV} {k} : tks (x :: as) e k = tk x e fun d e => tks as e fun ds e => k (d :: ds) e := by
  unfold tks tk
  show Wo (match take x e with | some (y, e) => (match takes as e with | some (xs, e) => some (y :: xs, e) | none => none) | none => none) _ = _
  cases take x e with
  | none => rfl
  | some p =>
    obtain ⟨y, e1⟩ := p
    show Wo (match takes as e1 with | some (xs, e) => some (y :: xs, e) | none => none) _ = Wo (takes as e1) _
    cases takes as e1 <;> rfl
def vl (a : AV) (e : Sl) (k : O → Sl → Prop) : Prop := Wo (valO a e) fun p => k p.1 p.2
@[simp ↓] theorem vl_t {k} : vl (.tm o) e k = k o e := rfl
@[simp ↓] theorem vl_p {k} : vl (.pl i) e k = tkp i e fun x e => k (.d x) e := by
  unfold vl tkp tk
  show Wo ((take (.pl i) e).map fun p => (O.d p.1, p.2)) _ = _
  cases take (.pl i) e <;> rfl
def vls (as : List AV) (e : Sl) (k : List O → Sl → Prop) : Prop := Wo (valOs as e) fun p => k p.1 p.2
@[simp ↓] theorem vls_n {k} : vls [] e k = k [] e := rfl
@[simp ↓] theorem vls_c {as : List AV} {k} : vls (x :: as) e k = vl x e fun d e => vls as e fun ds e => k (d :: ds) e := by
  unfold vls vl
  show Wo (match valO x e with | some (y, e) => (match valOs as e with | some (xs, e) => some (y :: xs, e) | none => none) | none => none) _ = _
  cases valO x e with
  | none => rfl
  | some p =>
    obtain ⟨y, e1⟩ := p
    show Wo (match valOs as e1 with | some (xs, e) => some (y :: xs, e) | none => none) _ = Wo (valOs as e1) _
    cases valOs as e1 <;> rfl
def sto (ow : List Bool) (i : Nat) (o : O) (e : Sl) (k : Sl → Prop) : Prop := Wo (setS ow i o e) k
@[simp ↓] theorem sto_n0 {u : Option O} {k} : sto [] 0 o (u :: e) k = k (some o :: e) := by
  unfold sto setS
  rw [if_pos (by simp)]
  rfl
@[simp ↓] theorem sto_f0 {u : Option O} {k} : sto (false :: ow) 0 o (u :: e) k = k (some o :: e) := by
  unfold sto setS
  rw [if_pos (by simp)]
  rfl
theorem sto_s {w : Bool} {ow' : List Bool} {u : Option O} {k} (h : (w :: ow)[i + 1]? = ow'[i]?) : Wo (setS (w :: ow) (i + 1) o (u :: e)) k = Wo (setS ow' i o e) fun e => k (u :: e) := by
  unfold setS
  rw [h]
  by_cases q : i < e.length ∧ ow'[i]? ≠ some true
  · rw [if_pos q, if_pos ⟨by simpa using q.1, q.2⟩]
    rfl
  · rw [if_neg q, if_neg (fun z => q ⟨by simpa using z.1, z.2⟩)]
    rfl
@[simp ↓] theorem sto_cs {w : Bool} {u : Option O} {k} : sto (w :: ow) (i + 1) o (u :: e) k = sto ow i o e fun e => k (u :: e) := sto_s (by simp)
@[simp ↓] theorem sto_ns {u : Option O} {k} : sto [] (i + 1) o (u :: e) k = sto [] i o e fun e => k (u :: e) := by
  unfold sto setS
  by_cases q : i < e.length ∧ ([] : List Bool)[i]? ≠ some true
  · rw [if_pos q, if_pos ⟨by simpa using q.1, by simp⟩]
    rfl
  · rw [if_neg q, if_neg (fun z => q ⟨by simpa using z.1, by simp⟩)]
    rfl
def stos (ow : List Bool) (is : List Nat) (os : List O) (e : Sl) (k : Sl → Prop) : Prop := Wo (setSs ow is os e) k
@[simp ↓] theorem stos_n {k} : stos ow [] [] e k = k e := rfl
@[simp ↓] theorem stos_c {is : List Nat} {os : List O} {k} : stos ow (i :: is) (o :: os) e k = sto ow i o e fun e => stos ow is os e k := by
  unfold stos sto
  show Wo (match setS ow i o e with | some e => setSs ow is os e | none => none) k = _
  cases setS ow i o e <;> rfl
def stT (ow : List Bool) (t : CT) (d : D) (e : Sl) (k : Sl → Prop) : Prop := Wo (setT ow t d e) k
@[simp ↓] theorem stT_n {k} : stT ow (.nm i) d e k = sto ow i (.d d) e k := rfl
@[simp ↓] theorem stT_t {is : List Nat} {xs : List D} {k} : stT ow (.tp is) (.tuple xs) e k = stos ow is (xs.map O.d) e k := rfl
/-! operations -/
def Bn (o : BOp) (p q : D) (k : O → Prop) : Prop := Wo (binD o p q) k
@[simp ↓] theorem bn_add {i j : Int} {k} : Bn .add (.int i) (.int j) k = k (.d (.int (i + j))) := rfl
@[simp ↓] theorem bn_sub {i j : Int} {k} : Bn .sub (.int i) (.int j) k = k (.d (.int (i - j))) := rfl
theorem bn_cat {x y : Str} {k} (h : x.length + y.length ≤ sizeLine) : Bn .add (.str x) (.str y) k = k (.d (.str (x ++ y))) := by
  show Wo (if x.length + y.length ≤ sizeLine then some (O.d (.str (x ++ y))) else none) k = _
  rw [if_pos h]
  rfl
@[simp ↓] theorem bn_mul {i j : Int} {k} (h : (-(2 ^ 64) < i ∧ i < 2 ^ 64) ∨ (-(2 ^ 64) < j ∧ j < 2 ^ 64)) : Bn .mul (.int i) (.int j) k = k (.d (.int (i * j))) := by
  show Wo (if (-(2 ^ 64) < i ∧ i < 2 ^ 64) ∨ (-(2 ^ 64) < j ∧ j < 2 ^ 64) then some (O.d (.int (i * j))) else none) k = _
  rw [if_pos h]
  rfl
@[simp ↓] theorem bn_fdiv {i j : Int} {k} (h : 0 < j) (h2 : j < 1073741824) : Bn .fdiv (.int i) (.int j) k = k (.d (.int (i / j))) := by
  show Wo (if 0 < j ∧ j < 1073741824 then some (O.d (.int (i / j))) else none) k = _
  rw [if_pos ⟨h, h2⟩]
  rfl
@[simp ↓] theorem bn_mod {i j : Int} {k} (h : 0 < j) : Bn .mod (.int i) (.int j) k = k (.d (.int (i % j))) := by
  show Wo (if 0 < j then some (O.d (.int (i % j))) else none) k = _
  rw [if_pos h]
  rfl
theorem bn_pow {i j : Int} {k} (h : 0 ≤ j ∧ j ≤ 1000000 ∧ i.natAbs < 2 ^ 64) : Bn .pow (.int i) (.int j) k = k (.d (.int (i ^ j.toNat))) := by
  show Wo (if 0 ≤ j ∧ j ≤ 1000000 ∧ i.natAbs < 2 ^ 64 then some (O.d (.int (i ^ j.toNat))) else none) k = _
  rw [if_pos h]
  rfl
def Cm (o : COp) (p q : D) (k : Bool → Prop) : Prop := Wo (cmpD o p q) k
@[simp ↓] theorem cm_lt {i j : Int} {k} : Cm .lt (.int i) (.int j) k = k (decide (i < j)) := rfl
@[simp ↓] theorem cm_le {i j : Int} {k} : Cm .le (.int i) (.int j) k = k (decide (i ≤ j)) := rfl
@[simp ↓] theorem cm_gt {i j : Int} {k} : Cm .gt (.int i) (.int j) k = k (decide (j < i)) := rfl
@[simp ↓] theorem cm_ge {i j : Int} {k} : Cm .ge (.int i) (.int j) k = k (decide (j ≤ i)) := rfl
@[simp ↓] theorem cm_eqI {i j : Int} {k} : Cm .eq (.int i) (.int j) k = k (decide (i = j)) := rfl
@[simp ↓] theorem cm_eqS {x y : Str} {k} : Cm .eq (.str x) (.str y) k = k (decide (x = y)) := rfl
@[simp ↓] theorem cm_eqB {x y : Bool} {k} : Cm .eq (.bool x) (.bool y) k = k (decide (x = y)) := rfl
@[simp ↓] theorem cm_neI {i j : Int} {k} : Cm .ne (.int i) (.int j) k = k (!decide (i = j)) := rfl
@[simp ↓] theorem cm_neS {x y : Str} {k} : Cm .ne (.str x) (.str y) k = k (!decide (x = y)) := rfl
def Ix (p q : D) (k : D → Prop) : Prop := Wo (ixD p q) k
def At (xs : List D) (i : Int) (k : D → Prop) : Prop := Wo (atI xs i) k
@[simp ↓] theorem ix_l {xs : List D} {i : Int} {k} : Ix (.list xs) (.int i) k = At xs i k := rfl
@[simp ↓] theorem ix_t {xs : List D} {i : Int} {k} : Ix (.tuple xs) (.int i) k = At xs i k := rfl
@[simp ↓] theorem at_0 {x : D} {xs : List D} {k} : At (x :: xs) 0 k = k x := by
  unfold At atI ixN
  rw [if_pos (by decide), if_pos (by simp)]
  rfl
@[simp ↓] theorem at_1 {x y : D} {xs : List D} {k} : At (x :: y :: xs) 1 k = k y := by
  unfold At atI ixN
  rw [if_pos (by decide), if_pos (by simp; omega)]
  rfl
@[simp ↓] theorem at_2 {x y z : D} {xs : List D} {k} : At (x :: y :: z :: xs) 2 k = k z := by
  unfold At atI ixN
  rw [if_pos (by decide), if_pos (by simp; omega)]
  rfl
theorem at_nat {xs : List D} {j : Nat} {x : D} {k} (h : xs[j]? = some x) : At xs (j : Int) k = k x := by
  have hl := (List.getElem?_eq_some_iff.mp h).1
  unfold At atI ixN
  rw [if_pos (by omega), if_pos (by omega)]
  show Wo (xs[((j : Int)).toNat]?) k = _
  rw [Int.toNat_natCast, h]
  rfl
def Bt (o : Bi) (p : D) (k : O → Prop) : Prop := Wo (biD o p) k
@[simp ↓] theorem bt_lenL {xs : List D} {k} : Bt .len (.list xs) k = k (.d (.int xs.length)) := rfl
@[simp ↓] theorem bt_lenT {xs : List D} {k} : Bt .len (.tuple xs) k = k (.d (.int xs.length)) := rfl
@[simp ↓] theorem bt_listL {xs : List D} {k} : Bt .list (.list xs) k = k (.ol xs) := rfl
@[simp ↓] theorem bt_listT {xs : List D} {k} : Bt .list (.tuple xs) k = k (.ol xs) := rfl
@[simp ↓] theorem bt_tupL {xs : List D} {k} : Bt .tuple (.list xs) k = k (.d (.tuple xs)) := rfl
@[simp ↓] theorem bt_tupT {xs : List D} {k} : Bt .tuple (.tuple xs) k = k (.d (.tuple xs)) := rfl
@[simp ↓] theorem bt_int {i : Int} {k} : Bt .int (.int i) k = k (.d (.int i)) := rfl
theorem bt_any {bs : List Bool} {k} : Bt .any (.list (bs.map .bool)) k = k (.d (.bool (bs.any id))) := by
  have h : ∀ bs : List Bool, boolsOf (bs.map PyData.bool) = some bs := by
    intro bs
    induction bs with
    | nil => rfl
    | cons b bs ih => simp [boolsOf, ih]
  show Wo ((boolsOf (bs.map PyData.bool)).map fun bs => O.d (.bool (bs.any id))) k = _
  rw [h]
  rfl
theorem bt_all {bs : List Bool} {k} : Bt .all (.list (bs.map .bool)) k = k (.d (.bool (bs.all id))) := by
  have h : ∀ bs : List Bool, boolsOf (bs.map PyData.bool) = some bs := by
    intro bs
    induction bs with
    | nil => rfl
    | cons b bs ih => simp [boolsOf, ih]
  show Wo ((boolsOf (bs.map PyData.bool)).map fun bs => O.d (.bool (bs.all id))) k = _
  rw [h]
  rfl
theorem bt_strI {i : Int} {k} (h : smallInt i = true) : Bt .str (.int i) k = k (.d (.str (toString i))) := by
  show Wo (if smallInt i then some (O.d (.str (toString i))) else none) k = _
  rw [if_pos h]
  rfl
theorem bt_reprI {i : Int} {k} (h : smallInt i = true) : Bt .repr (.int i) k = k (.d (.str (toString i))) := by
  show Wo (if smallInt i then some (O.d (.str (toString i))) else none) k = _
  rw [if_pos h]
  rfl
theorem bt_reprS {x : Str} {k} (h : (reprText x).length ≤ sizeLine) : Bt .repr (.str x) k = k (.d (.str (reprText x))) := by
  show Wo (if (reprText x).length ≤ sizeLine then some (O.d (.str (reprText x))) else none) k = _
  rw [if_pos h]
  rfl
/-- a branch -/
def Br (c : Bool) (A B : Prop) : Prop := if c then A else B
@[simp ↓] theorem br_t {A B : Prop} : Br true A B = A := rfl
@[simp ↓] theorem br_f {A B : Prop} : Br false A B = B := by
  unfold Br
  exact if_neg (by simp)
@[simp ↓] theorem br_dt {p A B : Prop} [Decidable p] (h : p) : Br (decide p) A B = A := by
  unfold Br
  exact if_pos (decide_eq_true h)
@[simp ↓] theorem br_df {p A B : Prop} [Decidable p] (h : ¬ p) : Br (decide p) A B = B := by
  unfold Br
  exact if_neg (by simpa using h)
@[simp ↓] theorem br_n {c : Bool} {A B : Prop} : Br (!c) A B = Br c B A := by
  cases c <;> simp [Br]
theorem br_intro {c : Bool} {A B : Prop} (h1 : c = true → A) (h2 : c = false → B) : Br c A B := by
  cases c with
  | true => exact h1 rfl
  | false =>
    rw [br_f]
    exact h2 rfl
def Tb_ (d : D) (k : Bool → Prop) : Prop := match d with
  | .bool b => k b
  | _ => False
@[simp ↓] theorem tb_b {b : Bool} {k} : Tb_ (.bool b) k = k b := rfl
def In_ (d : D) (k : Int → Prop) : Prop := match d with
  | .int b => k b
  | _ => False
@[simp ↓] theorem in_i {b : Int} {k} : In_ (.int b) k = k b := rfl
def Is_ (d : D) (k : List D → Prop) : Prop := Wo (itemsOf d) k
@[simp ↓] theorem is_l {xs : List D} {k} : Is_ (.list xs) k = k xs := rfl
@[simp ↓] theorem is_t {xs : List D} {k} : Is_ (.tuple xs) k = k xs := rfl
@[simp ↓] theorem is_s {x : Str} {k} (h : x.length ≤ sizeLine) : Is_ (.str x) k = k (x.cps.toList.map fun c => .str ⟨#[c]⟩) := by
  show Wo (if x.length ≤ sizeLine then some (x.cps.toList.map fun c => PyData.str ⟨#[c]⟩) else none) k = _
  rw [if_pos h]
  rfl
/-! calls -/
def ao (as : List AV) (e : Sl) (u : List Nat) (k : List O → Prop) : Prop := if (ownIx e as).Nodup ∧ ∀ i ∈ ownIx e as, i ∉ u then Wo (argL e as) k else False
@[simp ↓] theorem ao_n {u : List Nat} {k} : ao [] e u k = k [] := by
  unfold ao
  rw [if_pos ⟨List.nodup_nil, fun _ h => nomatch h⟩]
  rfl
theorem argL_c {as : List AV} {k : List O → Prop} {f : AV} : Wo (argL e (f :: as)) k = Wo (argO e f) fun o => Wo (argL e as) fun os => k (o :: os) := by
  show Wo (match argO e f, argL e as with | some o, some os => some (o :: os) | _, _ => none) k = _
  cases argO e f with
  | none => rfl
  | some o => cases argL e as <;> rfl
@[simp ↓] theorem ao_td {as : List AV} {u : List Nat} {k} : ao (.tm (.d d) :: as) e u k = ao as e u fun os => k (.d d :: os) := by
  unfold ao
  rw [argL_c]
  rfl
@[simp ↓] theorem ao_tl {xs : List D} {as : List AV} {u : List Nat} {k} : ao (.tm (.ol xs) :: as) e u k = ao as e u fun os => k (.d (.list xs) :: os) := by
  unfold ao
  rw [argL_c]
  rfl
def aop (i : Nat) (o : O) (as : List AV) (e : Sl) (u : List Nat) (k : List O → Prop) : Prop := match o with
  | .d x => ao as e u fun os => k (.d x :: os)
  | .un => False
  | .hid => False
  | o => i ∉ u ∧ ao as e (i :: u) fun os => k (o :: os)
@[simp ↓] theorem aop_d {as : List AV} {u : List Nat} {k} : aop i (.d d) as e u k = ao as e u fun os => k (.d d :: os) := rfl
@[simp ↓] theorem aop_l {xs : List D} {as : List AV} {u : List Nat} {k} (h : i ∉ u) : aop i (.ol xs) as e u k = ao as e (i :: u) fun os => k (.ol xs :: os) := by
  unfold aop
  simp [h]
@[simp ↓] theorem aop_o {xs : List (D × D)} {as : List AV} {u : List Nat} {k} (h : i ∉ u) : aop i (.od xs) as e u k = ao as e (i :: u) fun os => k (.od xs :: os) := by
  unfold aop
  simp [h]
@[simp ↓] theorem aop_b {c : Nat} {xs : List O} {as : List AV} {u : List Nat} {k} (h : i ∉ u) : aop i (.ob c xs) as e u k = ao as e (i :: u) fun os => k (.ob c xs :: os) := by
  unfold aop
  simp [h]
theorem ao_own {as : List AV} {u : List Nat} {k : List O → Prop} {o : O} : (if (i :: ownIx e as).Nodup ∧ (∀ j ∈ i :: ownIx e as, j ∉ u) then Wo (some o) (fun o => Wo (argL e as) fun os => k (o :: os)) else False) = (i ∉ u ∧ ao as e (i :: u) fun os => k (o :: os)) := by
  unfold ao
  by_cases z : i ∉ u
  · by_cases y : (ownIx e as).Nodup ∧ ∀ j ∈ ownIx e as, j ∉ i :: u
    · rw [if_pos y, if_pos]
      · simp [z, Wo]
      · refine ⟨List.nodup_cons.mpr ⟨fun h => y.2 i h List.mem_cons_self, y.1⟩, fun j hj => ?_⟩
        rcases List.mem_cons.mp hj with rfl | hj
        · exact z
        · exact fun h => y.2 j hj (List.mem_cons_of_mem _ h)
    · rw [if_neg y, if_neg]
      · simp
      · rintro ⟨h1, h2⟩
        obtain ⟨h3, h4⟩ := List.nodup_cons.mp h1
        refine y ⟨h4, fun j hj => ?_⟩
        rw [List.mem_cons, not_or]
        exact ⟨fun q => h3 (q ▸ hj), h2 j (List.mem_cons_of_mem _ hj)⟩
  · rw [if_neg]
    · simp [z]
    · rintro ⟨_, h2⟩
      exact z (h2 i List.mem_cons_self)
@[simp ↓] theorem ao_p {as : List AV} {u : List Nat} {k} : ao (.pl i :: as) e u k = lk i e fun o => aop i o as e u k := by
  unfold ao lk
  have h1 : ownIx e (.pl i :: as) = if isOwn ((e[i]?).join) then i :: ownIx e as else ownIx e as := rfl
  have h2 : argO e (.pl i) = (match (e[i]?).join with | some .hid => none | some .un => none | o => o) := rfl
  rw [argL_c, h1, h2]
  cases q : (e[i]?).join with
  | none => simp [Wo]
  | some o =>
    cases o with
    | d x => rfl
    | ol xs => exact ao_own
    | od xs => exact ao_own
    | ob c xs => exact ao_own
    | un => simp [Wo, aop]
    | hid => simp [Wo, aop]
def po1 (a : AV) (oi o : O) (e : Sl) (k : Sl → Prop) : Prop := k (putO a oi o e)
@[simp ↓] theorem po1_d {a : AV} {k} : po1 a (.d d) o e k = k e := by
  cases a <;> rfl
@[simp ↓] theorem po1_t {u w : O} {k} : po1 (.tm w) u o e k = k e := by
  cases u <;> rfl
@[simp ↓] theorem po1_0 {xs : List D} {u : Option O} {k} : po1 (.pl 0) (.ol xs) o (u :: e) k = k (some o :: e) := rfl
@[simp ↓] theorem po1_s {xs : List D} {u : Option O} {k} : po1 (.pl (i + 1)) (.ol xs) o (u :: e) k = po1 (.pl i) (.ol xs) o e fun e => k (u :: e) := rfl
def po (as : List AV) (os outs : List O) (e : Sl) (k : Sl → Prop) : Prop := k (putOs as os outs e)
@[simp ↓] theorem po_n {os outs : List O} {k} : po [] os outs e k = k e := by
  unfold po putOs
  cases os <;> cases outs <;> rfl
@[simp ↓] theorem po_c {as : List AV} {u w : O} {os outs : List O} {k} : po (x :: as) (u :: os) (w :: outs) e k = po as os outs e fun e => po1 x u w e k := rfl
def Ca (Γ : Gm) (f : Nat) (os : List O) (kx : Ex → List O → Prop) (k : O → List O → Prop) : Prop := match Γ f os with
  | some (.v r, outs) => k r outs
  | some (.x x, outs) => kx x outs
  | none => False
theorem ca_of {f : Nat} {os outs : List O} {r : O} {kc k} (h : Γ f os = some (.v r, outs)) : Ca Γ f os kc k = k r outs := by
  unfold Ca
  rw [h]
theorem ca_ex {f : Nat} {os outs : List O} {x : Ex} {kc k} (h : Γ f os = some (.x x, outs)) : Ca Γ f os kc k = kc x outs := by
  unfold Ca
  rw [h]
/-- a truth value as a thing -/
def To (o : O) (k : Bool → Prop) : Prop := Wo o.dat fun d => Tb_ d k
@[simp ↓] theorem to_b {b : Bool} {k} : To (.d (.bool b)) k = k b := rfl
/-! expressions -/
def We (gc : List (Str × D)) (Γ : Gm) (kx : Ex → Sl → Prop) (c : CE) (e : Sl) (k : AV → Sl → Prop) : Prop := (evE gc Γ c e).wp kx k
def Wes (gc : List (Str × D)) (Γ : Gm) (kx : Ex → Sl → Prop) (c : CEs) (e : Sl) (k : List AV → Sl → Prop) : Prop := (evEs gc Γ c e).wp kx k
def Wt (gc : List (Str × D)) (Γ : Gm) (kx : Ex → Sl → Prop) (c : CE) (e : Sl) (k : Bool → Sl → Prop) : Prop := (testV (evE gc Γ c e)).wp kx k
def Wp (gc : List (Str × D)) (Γ : Gm) (kx : Ex → Sl → Prop) (c : CP) (e : Sl) (k : Option Int → Sl → Prop) : Prop := (evP gc Γ c e).wp kx k
def Wf (gc : List (Str × D)) (Γ : Gm) (kx : Ex → Sl → Prop) (c : CP) (e : Sl) (k : Bool → Sl → Prop) : Prop := (evIf gc Γ c e).wp kx k
def Wi (gc : List (Str × D)) (Γ : Gm) (kx : Ex → Sl → Prop) (c : CI) (e : Sl) (k : List D → Sl → Prop) : Prop := (evI gc Γ c e).wp kx k
def Wj (gc : List (Str × D)) (Γ : Gm) (kx : Ex → Sl → Prop) (c : CEs) (acc : Str) (e : Sl) (k : Str → Sl → Prop) : Prop := (evF gc Γ c acc e).wp kx k
theorem wt_eq {k} : Wt gc Γ kx a e k = We gc Γ kx a e fun x e => dt x e fun d => Tb_ d fun b => k b e := by
  unfold Wt We testV
  rw [wp_bind]
  congr 1
  funext x e
  unfold dt
  cases x.dat e with
  | none => rfl
  | some d => cases d <;> rfl
/-- a second operand -/
def Hd (gc : List (Str × D)) (Γ : Gm) (kx : Ex → Sl → Prop) (x : AV) (c : CE) (e : Sl) (k : AV → Sl → Prop) : Prop := (hidB x e fun e => evE gc Γ c e).wp kx k
@[simp ↓] theorem hd_p {k} : Hd gc Γ kx (.pl i) c e k = We gc Γ kx c e k := rfl
@[simp ↓] theorem hd_t {k} : Hd gc Γ kx (.tm o) c e k = We gc Γ kx c e k := rfl
/-- settled -/
def Se (x : AV) (e : Sl) (k : AV → Sl → Prop) : Prop := Wo (settle x e) fun p => k p.1 p.2
@[simp ↓] theorem se_p {k} : Se (.pl i) e k = k (.pl i) e := rfl
@[simp ↓] theorem se_t {k} : Se (.tm o) e k = k (.tm o) e := rfl
theorem wp_set {f : AV → Sl → R α} {k} : (R.set x e f).wp kx k = Se x e fun x e => (f x e).wp kx k := by
  unfold R.set Se
  cases settle x e <;> rfl
theorem fl_set {f : AV → Sl → Fl} {kn kb kc : Sl → Prop} {kr : O → Sl → Prop} : (R.setF x e f).wp kx kn kr kb kc = Se x e fun x e => (f x e).wp kx kn kr kb kc := by
  unfold R.setF Se
  cases settle x e <;> rfl
@[simp ↓] theorem we_non {k} : We gc Γ kx .non e k = k (.tm (.d .none)) e := rfl
@[simp ↓] theorem we_bl {b : Bool} {k} : We gc Γ kx (.bl b) e k = k (.tm (.d (.bool b))) e := rfl
@[simp ↓] theorem we_int {i : Int} {k} : We gc Γ kx (.int i) e k = k (.tm (.d (.int i))) e := rfl
@[simp ↓] theorem we_str {s : Str} {k} : We gc Γ kx (.str s) e k = k (.tm (.d (.str s))) e := rfl
@[simp ↓] theorem we_v {k} : We gc Γ kx (.v i) e k = lk i e fun _ => k (.pl i) e := by
  unfold We lk
  show R.wp (match (e[i]?).join with | some _ => R.ok (AV.pl i) e | none => .bad) kx k = _
  cases (e[i]?).join <;> rfl
@[simp ↓] theorem we_gl {j : Nat} {k} : We gc Γ kx (.gl j) e k = Wo (gc[j]?) fun p => k (.tm (.d p.2)) e := by
  unfold We
  show R.wp (match gc[j]? with | some p => R.ok (AV.tm (.d p.2)) e | none => .bad) kx k = _
  cases gc[j]? <;> rfl
theorem dt2 {x y : AV} {f : D → D → R α} {k : α → Sl → Prop} : (match x.dat e, y.dat e with | some p, some q => f p q | _, _ => R.bad).wp kx k = dt x e fun p => dt y e fun q => (f p q).wp kx k := by
  unfold dt
  cases x.dat e with
  | none => rfl
  | some p => cases y.dat e <;> rfl
theorem dt1 {x : AV} {f : D → R α} {k : α → Sl → Prop} : (match x.dat e with | some p => f p | none => R.bad).wp kx k = dt x e fun p => (f p).wp kx k := by
  unfold dt
  cases x.dat e <;> rfl
@[simp ↓] theorem we_bin {o : BOp} {k} : We gc Γ kx (.bin o a b) e k = We gc Γ kx a e fun x e => Hd gc Γ kx x b e fun y e => dt x e fun p => dt y e fun q => Bn o p q fun r => k (.tm r) e := by
  show R.wp ((evE gc Γ a e).bind fun x e => (hidB x e fun e => evE gc Γ b e).bind fun y e => match x.dat e, y.dat e with
    | some p, some q => (R.of (binD o p q) e).bind fun r e => .ok (.tm r) e
    | _, _ => .bad) kx k = _
  simp only [wp_bind, wp_set, dt2, wp_of]
  rfl
@[simp ↓] theorem we_neg {k} : We gc Γ kx (.neg a) e k = We gc Γ kx a e fun x e => dt x e fun p => In_ p fun i => k (.tm (.d (.int (-i)))) e := by
  show R.wp ((evE gc Γ a e).bind fun x e => match x.dat e with
    | some (.int i) => .ok (.tm (.d (.int (-i)))) e
    | _ => .bad) kx k = _
  rw [wp_bind]
  congr 1
  funext x e
  unfold dt
  cases x.dat e with
  | none => rfl
  | some d => cases d <;> rfl
@[simp ↓] theorem we_cmp {o : COp} {k} : We gc Γ kx (.cmp o a b) e k = We gc Γ kx a e fun x e => Se x e fun x e => We gc Γ kx b e fun y e => dt x e fun p => dt y e fun q => Cm o p q fun r => k (.tm (.d (.bool r))) e := by
  show R.wp ((evE gc Γ a e).bind fun x e => R.set x e fun x e => (evE gc Γ b e).bind fun y e => match x.dat e, y.dat e with
    | some p, some q => (R.of (cmpD o p q) e).bind fun r e => .ok (.tm (.d (.bool r))) e
    | _, _ => .bad) kx k = _
  simp only [wp_bind, wp_set, dt2, wp_of]
  rfl
theorem wp_if {c : Bool} {r1 r2 : R α} {k : α → Sl → Prop} : (if c then r1 else r2).wp kx k = Br c (r1.wp kx k) (r2.wp kx k) := by
  cases c <;> rfl
@[simp ↓] theorem we_chn {o o' : COp} {k} : We gc Γ kx (.chn o o' a b c) e k = We gc Γ kx a e fun x e => Se x e fun x e => We gc Γ kx b e fun y e => Se y e fun y e => dt x e fun p => dt y e fun q => Cm o p q fun r => Br r (We gc Γ kx c e fun z e => dt y e fun q => dt z e fun u => Cm o' q u fun r => k (.tm (.d (.bool r))) e) (k (.tm (.d (.bool false))) e) := by
  show R.wp ((evE gc Γ a e).bind fun x e => R.set x e fun x e => (evE gc Γ b e).bind fun y e => R.set y e fun y e => match x.dat e, y.dat e with
    | some p, some q => (R.of (cmpD o p q) e).bind fun r e => if r then (evE gc Γ c e).bind fun z e => match y.dat e, z.dat e with
        | some q, some u => (R.of (cmpD o' q u) e).bind fun r e => .ok (.tm (.d (.bool r))) e
        | _, _ => .bad
      else .ok (.tm (.d (.bool false))) e
    | _, _ => .bad) kx k = _
  simp only [wp_bind, wp_set, dt2, wp_of]
  unfold We
  simp only [wp_if, wp_bind, dt2, wp_of]
  rfl
@[simp ↓] theorem we_isN {k} : We gc Γ kx (.isN a) e k = We gc Γ kx a e fun x e => dt x e fun p => k (.tm (.d (.bool (isNoneD p)))) e := by
  show R.wp ((evE gc Γ a e).bind fun x e => match x.dat e with
    | some p => .ok (.tm (.d (.bool (isNoneD p)))) e
    | none => .bad) kx k = _
  simp only [wp_bind, dt1]
  rfl
@[simp ↓] theorem we_notN {k} : We gc Γ kx (.notN a) e k = We gc Γ kx a e fun x e => dt x e fun p => k (.tm (.d (.bool (!isNoneD p)))) e := by
  show R.wp ((evE gc Γ a e).bind fun x e => match x.dat e with
    | some p => .ok (.tm (.d (.bool (!isNoneD p)))) e
    | none => .bad) kx k = _
  simp only [wp_bind, dt1]
  rfl
@[simp ↓] theorem we_isB {b : Bool} {k} : We gc Γ kx (.isB a b) e k = We gc Γ kx a e fun x e => dt x e fun p => k (.tm (.d (.bool (isBoolD b p)))) e := by
  show R.wp ((evE gc Γ a e).bind fun x e => match x.dat e with
    | some p => .ok (.tm (.d (.bool (isBoolD b p)))) e
    | none => .bad) kx k = _
  simp only [wp_bind, dt1]
  rfl
@[simp ↓] theorem we_and {k} : We gc Γ kx (.and a b) e k = Wt gc Γ kx a e fun c e => Br c (We gc Γ kx b e k) (k (.tm (.d (.bool false))) e) := by
  show R.wp ((testV (evE gc Γ a e)).bind fun c e => if c then evE gc Γ b e else .ok (.tm (.d (.bool false))) e) kx k = _
  simp only [wp_bind, wp_if]
  rfl
@[simp ↓] theorem we_or {k} : We gc Γ kx (.or a b) e k = Wt gc Γ kx a e fun c e => Br c (k (.tm (.d (.bool true))) e) (We gc Γ kx b e k) := by
  show R.wp ((testV (evE gc Γ a e)).bind fun c e => if c then .ok (.tm (.d (.bool true))) e else evE gc Γ b e) kx k = _
  simp only [wp_bind, wp_if]
  rfl
@[simp ↓] theorem we_not {k} : We gc Γ kx (.not a) e k = Wt gc Γ kx a e fun c e => k (.tm (.d (.bool (!c)))) e := by
  show R.wp ((testV (evE gc Γ a e)).bind fun c e => .ok (.tm (.d (.bool (!c)))) e) kx k = _
  simp only [wp_bind]
  rfl
@[simp ↓] theorem we_ifx {k} : We gc Γ kx (.ifx a b c) e k = Wt gc Γ kx a e fun t e => Br t (We gc Γ kx b e k) (We gc Γ kx c e k) := by
  show R.wp ((testV (evE gc Γ a e)).bind fun t e => if t then evE gc Γ b e else evE gc Γ c e) kx k = _
  simp only [wp_bind, wp_if]
  rfl
/-- tests step through and, or, not -/
@[simp ↓] theorem wt_and {k} : Wt gc Γ kx (.and a b) e k = Wt gc Γ kx a e fun c e => Br c (Wt gc Γ kx b e k) (k false e) := by
  rw [wt_eq, we_and]
  congr 1
  funext c e
  cases c with
  | true =>
    rw [br_t, br_t, wt_eq]
  | false =>
    rw [br_f, br_f]
    rfl
@[simp ↓] theorem wt_or {k} : Wt gc Γ kx (.or a b) e k = Wt gc Γ kx a e fun c e => Br c (k true e) (Wt gc Γ kx b e k) := by
  rw [wt_eq, we_or]
  congr 1
  funext c e
  cases c with
  | true =>
    rw [br_t, br_t]
    rfl
  | false =>
    rw [br_f, br_f, wt_eq]
@[simp ↓] theorem wt_not {k} : Wt gc Γ kx (.not a) e k = Wt gc Γ kx a e fun c e => k (!c) e := by
  rw [wt_eq, we_not]
  rfl
@[simp ↓] theorem wt_ifx {k} : Wt gc Γ kx (.ifx a b c) e k = Wt gc Γ kx a e fun t e => Br t (Wt gc Γ kx b e k) (Wt gc Γ kx c e k) := by
  rw [wt_eq, we_ifx]
  congr 1
  funext t e
  cases t with
  | true => rw [br_t, br_t, wt_eq]
  | false => rw [br_f, br_f, wt_eq]
@[simp ↓] theorem wt_bl {b : Bool} {k} : Wt gc Γ kx (.bl b) e k = k b e := rfl
@[simp ↓] theorem wt_v {k} : Wt gc Γ kx (.v i) e k = lkd i e fun d => Tb_ d fun b => k b e := by
  rw [wt_eq, we_v]
  unfold lkd lk
  cases q : (e[i]?).join with
  | none => rfl
  | some o =>
    show dt (.pl i) e _ = _
    rw [dt_p]
    unfold lkd lk
    rw [q]
@[simp ↓] theorem wt_cmp {o : COp} {k} : Wt gc Γ kx (.cmp o a b) e k = We gc Γ kx a e fun x e => Se x e fun x e => We gc Γ kx b e fun y e => dt x e fun p => dt y e fun q => Cm o p q fun r => k r e := by
  rw [wt_eq, we_cmp]
  rfl
@[simp ↓] theorem wt_chn {o o' : COp} {k} : Wt gc Γ kx (.chn o o' a b c) e k = We gc Γ kx a e fun x e => Se x e fun x e => We gc Γ kx b e fun y e => Se y e fun y e => dt x e fun p => dt y e fun q => Cm o p q fun r => Br r (We gc Γ kx c e fun z e => dt y e fun q => dt z e fun u => Cm o' q u fun r => k r e) (k false e) := by
  rw [wt_eq, we_chn]
  rfl
@[simp ↓] theorem wt_isN {k} : Wt gc Γ kx (.isN a) e k = We gc Γ kx a e fun x e => dt x e fun p => k (isNoneD p) e := by
  rw [wt_eq, we_isN]
  rfl
@[simp ↓] theorem wt_notN {k} : Wt gc Γ kx (.notN a) e k = We gc Γ kx a e fun x e => dt x e fun p => k (!isNoneD p) e := by
  rw [wt_eq, we_notN]
  rfl
@[simp ↓] theorem wt_isB {b : Bool} {k} : Wt gc Γ kx (.isB a b) e k = We gc Γ kx a e fun x e => dt x e fun p => k (isBoolD b p) e := by
  rw [wt_eq, we_isB]
  rfl
@[simp ↓] theorem we_ix {k} : We gc Γ kx (.ix a b) e k = We gc Γ kx a e fun x e => Hd gc Γ kx x b e fun y e => dt x e fun p => dt y e fun q => Ix p q fun r => k (.tm (.d r)) e := by
  show R.wp ((evE gc Γ a e).bind fun x e => (hidB x e fun e => evE gc Γ b e).bind fun y e => match x.dat e, y.dat e with
    | some p, some q => (R.of (ixD p q) e).bind fun r e => .ok (.tm (.d r)) e
    | _, _ => .bad) kx k = _
  simp only [wp_bind, wp_set, dt2, wp_of]
  rfl
@[simp ↓] theorem we_bi {o : Bi} {k} : We gc Γ kx (.bi o a) e k = We gc Γ kx a e fun x e => dt x e fun p => Bt o p fun r => k (.tm r) e := by
  show R.wp ((evE gc Γ a e).bind fun x e => match x.dat e with
    | some p => (R.of (biD o p) e).bind fun r e => .ok (.tm r) e
    | none => .bad) kx k = _
  simp only [wp_bind, dt1, wp_of]
  rfl
@[simp ↓] theorem we_isi {t : Ty} {k} : We gc Γ kx (.isi a t) e k = We gc Γ kx a e fun x e => dt x e fun p => k (.tm (.d (.bool (tyD t p)))) e := by
  show R.wp ((evE gc Γ a e).bind fun x e => match x.dat e with
    | some p => .ok (.tm (.d (.bool (tyD t p)))) e
    | none => .bad) kx k = _
  simp only [wp_bind, dt1]
  rfl
@[simp ↓] theorem wt_isi {t : Ty} {k} : Wt gc Γ kx (.isi a t) e k = We gc Γ kx a e fun x e => dt x e fun p => k (tyD t p) e := by
  rw [wt_eq, we_isi]
  rfl
@[simp ↓] theorem wt_bi {o : Bi} {k} : Wt gc Γ kx (.bi o a) e k = We gc Γ kx a e fun x e => dt x e fun p => Bt o p fun r => To r fun b => k b e := by
  rw [wt_eq, we_bi]
  rfl
@[simp ↓] theorem wt_ix {k} : Wt gc Γ kx (.ix a b) e k = We gc Γ kx a e fun x e => Hd gc Γ kx x b e fun y e => dt x e fun p => dt y e fun q => Ix p q fun r => Tb_ r fun b => k b e := by
  rw [wt_eq, we_ix]
  rfl
@[simp ↓] theorem we_tup {k} : We gc Γ kx (.tup es) e k = Wes gc Γ kx es e fun as e => tks as e fun ds e => k (.tm (.d (.tuple ds))) e := by
  show R.wp ((evEs gc Γ es e).bind fun avs e => match takes avs e with
    | some (ds, e) => .ok (.tm (.d (.tuple ds))) e
    | none => .bad) kx k = _
  rw [wp_bind]
  show R.wp _ _ _ = R.wp _ _ _
  congr 1
  funext as e
  unfold tks
  cases takes as e <;> rfl
@[simp ↓] theorem we_lst {k} : We gc Γ kx (.lst es) e k = Wes gc Γ kx es e fun as e => tks as e fun ds e => k (.tm (.ol ds)) e := by
  show R.wp ((evEs gc Γ es e).bind fun avs e => match takes avs e with
    | some (ds, e) => .ok (.tm (.ol ds)) e
    | none => .bad) kx k = _
  rw [wp_bind]
  show R.wp _ _ _ = R.wp _ _ _
  congr 1
  funext as e
  unfold tks
  cases takes as e <;> rfl
@[simp ↓] theorem wes_n0 {k} : Wes gc Γ kx .nil e k = k [] e := rfl
def Mt (m : Me) (p q : D) (k : O → Prop) : Prop := match p with
  | .str t => Wo (meD m (.str t) q) k
  | _ => False
def Rv (p : D) (k : Str → Prop) : Prop := match p with
  | .str t => k t
  | _ => False
@[simp ↓] theorem rv_s {t : Str} {k} : Rv (.str t) k = k t := rfl
@[simp ↓] theorem we_me {m : Me} {k} : We gc Γ kx (.me m a b) e k = We gc Γ kx a e fun x e => dt x e fun p => Rv p fun t => We gc Γ kx b e fun y e => dt y e fun q => Mt m (.str t) q fun r => k (.tm r) e := by
  show R.wp ((evE gc Γ a e).bind fun x e => match x.dat e with
    | some (.str t) => (evE gc Γ b e).bind fun y e => match y.dat e with
      | some q => (R.of (meD m (.str t) q) e).bind fun r e => .ok (.tm r) e
      | none => .bad
    | _ => .bad) kx k = _
  rw [wp_bind]
  show R.wp _ _ _ = R.wp _ _ _
  congr 1
  funext x e
  unfold dt
  cases x.dat e with
  | none => rfl
  | some p =>
    cases p <;> try rfl
    rename_i t
    show R.wp ((evE gc Γ b e).bind fun y e => match y.dat e with
      | some q => (R.of (meD m (.str t) q) e).bind fun r e => .ok (.tm r) e
      | none => .bad) kx k = We gc Γ kx b e _
    simp only [wp_bind, dt1, wp_of]
    rfl
def Fz (n : Nat) (p : D) (k : O → Prop) : Prop := match p with
  | .int i => (0 ≤ i ∧ i < 1000000000000000000) ∧ k (.d (.str (padZ n i)))
  | _ => False
@[simp ↓] theorem we_fz {n : Nat} {k} : We gc Γ kx (.fz a n) e k = We gc Γ kx a e fun x e => dt x e fun p => Fz n p fun r => k (.tm r) e := by
  show R.wp ((evE gc Γ a e).bind fun x e => match x.dat e with
    | some (.int i) => if 0 ≤ i ∧ i < 1000000000000000000 then .ok (.tm (.d (.str (padZ n i)))) e else .bad
    | _ => .bad) kx k = _
  rw [wp_bind]
  show R.wp _ _ _ = R.wp _ _ _
  congr 1
  funext x e
  unfold dt
  cases x.dat e with
  | none => rfl
  | some p =>
    cases p <;> try rfl
    rename_i i
    show R.wp (if 0 ≤ i ∧ i < 1000000000000000000 then .ok (.tm (.d (.str (padZ n i)))) e else .bad) kx k = (_ ∧ _)
    by_cases h : 0 ≤ i ∧ i < 1000000000000000000
    · rw [if_pos h, eq_true h, true_and]
      rfl
    · rw [if_neg h, eq_false h, false_and]
      rfl
theorem fz_i {n : Nat} {i : Int} {k} (h : 0 ≤ i ∧ i < 1000000000000000000) : Fz n (.int i) k = k (.d (.str (padZ n i))) := by
  show (_ ∧ _) = _
  rw [eq_true h, true_and]
theorem mt_join' {t : Str} {ys : List Str} {k} (h : (ys.map (·.length)).sum + ys.length * t.length ≤ 16777216) : Mt .join (.str t) (.list (ys.map .str)) k = k (.d (.str (Txt.join t ys))) := by
  have hs : ∀ ys : List Str, strsOf (ys.map PyData.str) = some ys := by
    intro ys
    induction ys with
    | nil => rfl
    | cons y ys ih => simp [strsOf, ih]
  show Wo (match strsOf (ys.map PyData.str) with
    | some ys => if (ys.map (·.length)).sum + ys.length * t.length ≤ 16777216 then some (O.d (.str (Txt.join t ys))) else none
    | none => none) k = _
  rw [hs]
  show Wo (if (ys.map (·.length)).sum + ys.length * t.length ≤ 16777216 then some (O.d (.str (Txt.join t ys))) else none) k = _
  rw [if_pos h]
  rfl
theorem mt_index' {t b : Str} {i : Nat} {r : List Nat} {k} (h : Builtin.Str.occurrences t b 0 t.length 1 = i :: r) : Mt .index (.str t) (.str b) k = k (.d (.int i)) := by
  show Wo (match Builtin.Str.occurrences t b 0 t.length 1 with
    | i :: _ => some (O.d (.int (i : Nat)))
    | [] => none) k = _
  rw [h]
  rfl
theorem bt_intS {x : Str} {n : Int} {k} (h : x.length ≤ 640) (q : PySem.intText? x = some n) : Bt .int (.str x) k = k (.d (.int n)) := by
  show Wo (if x.length ≤ 640 then (PySem.intText? x).map fun n => O.d (.int n) else none) k = _
  rw [if_pos h, q]
  rfl
@[simp ↓] theorem wes_n {k} : Wes gc Γ kx .nil e k = k [] e := rfl
@[simp ↓] theorem wes_c {k} : Wes gc Γ kx (.cons a es) e k = We gc Γ kx a e fun x e => Se x e fun x e => Wes gc Γ kx es e fun xs e => k (x :: xs) e := by
  show R.wp ((evE gc Γ a e).bind fun x e => R.set x e fun x e => (evEs gc Γ es e).bind fun xs e => .ok (x :: xs) e) kx k = _
  simp only [wp_bind, wp_set]
  rfl
@[simp ↓] theorem we_call {f : Nat} {k} : We gc Γ kx (.call f es) e k = Wes gc Γ kx es e fun as e => ao as e [] fun os => Ca Γ f os (fun x outs => po as os outs e fun e => kx x e) fun r outs => po as os outs e fun e => k (.tm r) e := by
  show R.wp ((evEs gc Γ es e).bind fun avs e => match argOs avs e with
    | some os => R.call (Γ f os) fun outs => putOs avs os outs e
    | none => .bad) kx k = _
  rw [wp_bind]
  show R.wp _ _ _ = R.wp _ _ _
  congr 1
  funext as e
  unfold ao argOs
  by_cases h : (ownIx e as).Nodup
  · rw [if_pos h, if_pos ⟨h, fun _ _ => by simp⟩]
    cases argL e as with
    | none => rfl
    | some os =>
      show R.wp (R.call (Γ f os) fun outs => putOs as os outs e) kx k = Ca Γ f os _ _
      unfold Ca
      cases Γ f os with
      | none => rfl
      | some r =>
        obtain ⟨r, outs⟩ := r
        cases r <;> rfl
  · rw [if_neg h, if_neg (fun z => h z.1)]
    rfl
@[simp ↓] theorem wt_call {f : Nat} {k} : Wt gc Γ kx (.call f es) e k = Wes gc Γ kx es e fun as e => ao as e [] fun os => Ca Γ f os (fun x outs => po as os outs e fun e => kx x e) fun r outs => po as os outs e fun e => To r fun b => k b e := by
  rw [wt_eq, we_call]
  rfl
@[simp ↓] theorem wp_no {k} : Wp gc Γ kx .no e k = k none e := rfl
@[simp ↓] theorem wp_yes {k} : Wp gc Γ kx (.yes a) e k = We gc Γ kx a e fun x e => dt x e fun p => In_ p fun i => k (some i) e := by
  show R.wp ((evE gc Γ a e).bind fun x e => match x.dat e with
    | some (.int i) => .ok (some i) e
    | _ => .bad) kx k = _
  rw [wp_bind]
  show R.wp _ _ _ = R.wp _ _ _
  congr 1
  funext x e
  unfold dt
  cases x.dat e with
  | none => rfl
  | some d => cases d <;> rfl
@[simp ↓] theorem wf_no {k} : Wf gc Γ kx .no e k = k true e := rfl
@[simp ↓] theorem wf_yes {k} : Wf gc Γ kx (.yes a) e k = Wt gc Γ kx a e k := rfl
def Sc (d : D) (lo hi : Option Int) (k : O → Prop) : Prop := Wo (slD d lo hi) k
@[simp ↓] theorem sc_l {xs : List D} {lo hi : Option Int} {k} : Sc (.list xs) lo hi k = k (.ol (cutL xs lo hi)) := rfl
@[simp ↓] theorem sc_s {x : Str} {lo hi : Option Int} {k} (h : x.length ≤ sizeLine) : Sc (.str x) lo hi k = k (.d (.str (cutS x lo hi))) := by
  show Wo (if x.length ≤ sizeLine then some (O.d (.str (cutS x lo hi))) else none) k = _
  rw [if_pos h]
  rfl
@[simp ↓] theorem we_sl {l h : CP} {k} : We gc Γ kx (.sl a l h) e k = We gc Γ kx a e fun x e => Se x e fun x e => Wp gc Γ kx l e fun l e => Wp gc Γ kx h e fun h e => dt x e fun p => Sc p l h fun r => k (.tm r) e := by
  show R.wp ((evE gc Γ a e).bind fun x e => R.set x e fun x e => (evP gc Γ l e).bind fun l e => (evP gc Γ h e).bind fun h e => match x.dat e with
    | some p => (R.of (slD p l h) e).bind fun r e => .ok (.tm r) e
    | none => .bad) kx k = _
  simp only [wp_bind, wp_set, dt1, wp_of]
  rfl
def Rg (lo hi : Int) (k : List D → Prop) : Prop := ((-(2 ^ 62) ≤ lo ∧ lo < 2 ^ 62) ∧ (-(2 ^ 62) ≤ hi ∧ hi < 2 ^ 62) ∧ hi - lo ≤ sizeLine) ∧ k (rangeD lo (hi - lo).toNat)
def Rg1 (n : Int) (k : List D → Prop) : Prop := (n ≤ sizeLine ∧ -(2 ^ 62) ≤ n) ∧ k (rangeD 0 n.toNat)
@[simp ↓] theorem we_lr1 {k} : We gc Γ kx (.lr1 a) e k = We gc Γ kx a e fun x e => dt x e fun p => In_ p fun n => Rg1 n fun ds => k (.tm (.ol ds)) e := by
  show R.wp ((evE gc Γ a e).bind fun x e => match x.dat e with
    | some (.int n) => if n ≤ sizeLine ∧ -(2 ^ 62) ≤ n then .ok (.tm (.ol (rangeD 0 n.toNat))) e else .bad
    | _ => .bad) kx k = _
  rw [wp_bind]
  show R.wp _ _ _ = R.wp _ _ _
  congr 1
  funext x e
  unfold dt
  cases x.dat e with
  | none => rfl
  | some d =>
    cases d <;> try rfl
    rename_i n
    show R.wp (if n ≤ sizeLine ∧ -(2 ^ 62) ≤ n then .ok (.tm (.ol (rangeD 0 n.toNat))) e else .bad) kx k = ((n ≤ sizeLine ∧ -(2 ^ 62) ≤ n) ∧ _)
    by_cases h : n ≤ sizeLine ∧ -(2 ^ 62) ≤ n
    · rw [if_pos h]
      simp only [h, and_self, true_and]
      rfl
    · rw [if_neg h]
      simp only [h, false_and]
      rfl
@[simp ↓] theorem wi_e {k} : Wi gc Γ kx (.e a) e k = We gc Γ kx a e fun x e => tk x e fun d e => Is_ d fun xs => k xs e := by
  show R.wp ((evE gc Γ a e).bind fun x e => match take x e with
    | some (d, e) => R.of (itemsOf d) e
    | none => .bad) kx k = _
  rw [wp_bind]
  show R.wp _ _ _ = R.wp _ _ _
  congr 1
  funext x e
  unfold tk
  cases take x e with
  | none => rfl
  | some p =>
    obtain ⟨d, e1⟩ := p
    show R.wp (R.of (itemsOf d) e1) kx k = Wo (itemsOf d) _
    cases itemsOf d <;> rfl
@[simp ↓] theorem wi_r1 {k} : Wi gc Γ kx (.r1 a) e k = We gc Γ kx a e fun x e => dt x e fun p => In_ p fun n => Rg1 n fun ds => k ds e := by
  show R.wp ((evE gc Γ a e).bind fun x e => match x.dat e with
    | some (.int n) => if n ≤ sizeLine ∧ -(2 ^ 62) ≤ n then .ok (rangeD 0 n.toNat) e else .bad
    | _ => .bad) kx k = _
  rw [wp_bind]
  show R.wp _ _ _ = R.wp _ _ _
  congr 1
  funext x e
  unfold dt
  cases x.dat e with
  | none => rfl
  | some d =>
    cases d <;> try rfl
    rename_i n
    show R.wp (if n ≤ sizeLine ∧ -(2 ^ 62) ≤ n then .ok (rangeD 0 n.toNat) e else .bad) kx k = ((n ≤ sizeLine ∧ -(2 ^ 62) ≤ n) ∧ _)
    by_cases h : n ≤ sizeLine ∧ -(2 ^ 62) ≤ n
    · rw [if_pos h]
      simp only [h, and_self, true_and]
      rfl
    · rw [if_neg h]
      simp only [h, false_and]
      rfl
@[simp ↓] theorem wi_r2 {k} : Wi gc Γ kx (.r2 a b) e k = We gc Γ kx a e fun x e => Se x e fun x e => We gc Γ kx b e fun y e => dt x e fun p => In_ p fun n => dt y e fun q => In_ q fun m => Rg n m fun ds => k ds e := by
  show R.wp ((evE gc Γ a e).bind fun x e => R.set x e fun x e => (evE gc Γ b e).bind fun y e => match x.dat e, y.dat e with
    | some (.int n), some (.int m) => if (-(2 ^ 62) ≤ n ∧ n < 2 ^ 62) ∧ (-(2 ^ 62) ≤ m ∧ m < 2 ^ 62) ∧ m - n ≤ sizeLine then .ok (rangeD n (m - n).toNat) e else .bad
    | _, _ => .bad) kx k = _
  rw [wp_bind]
  show R.wp _ _ _ = R.wp _ _ _
  congr 1
  funext x e
  rw [wp_set]
  show Wo _ _ = Wo _ _
  congr 1
  funext p
  obtain ⟨x, e⟩ := p
  show R.wp _ _ _ = R.wp _ _ _
  rw [wp_bind]
  show R.wp _ _ _ = R.wp _ _ _
  congr 1
  funext y e
  unfold dt
  cases x.dat e with
  | none => rfl
  | some d =>
    cases hy : y.dat e with
    | none => cases d <;> rfl
    | some d2 =>
      cases d <;> try rfl
      rename_i n
      cases d2 <;> try rfl
      rename_i m
      show R.wp (if (-(2 ^ 62) ≤ n ∧ n < 2 ^ 62) ∧ (-(2 ^ 62) ≤ m ∧ m < 2 ^ 62) ∧ m - n ≤ sizeLine then .ok (rangeD n (m - n).toNat) e else .bad) kx k = (_ ∧ _)
      by_cases h : (-(2 ^ 62) ≤ n ∧ n < 2 ^ 62) ∧ (-(2 ^ 62) ≤ m ∧ m < 2 ^ 62) ∧ m - n ≤ sizeLine
      · rw [if_pos h]
        show k _ _ = (_ ∧ k _ _)
        rw [eq_true h, true_and]
      · rw [if_neg h]
        show False = _
        rw [eq_false h, false_and]
def Fm (d : D) (k : Str → Prop) : Prop := Wo (fmtD d) k
theorem fm_i {i : Int} {k} (h : smallInt i = true) : Fm (.int i) k = k (toString i) := by
  show Wo (if smallInt i then some (toString i : Str) else none) k = _
  rw [if_pos h]
  rfl
@[simp ↓] theorem we_fv {k} : We gc Γ kx (.fv a) e k = We gc Γ kx a e fun x e => dt x e fun p => Fm p fun y => k (.tm (.d (.str y))) e := by
  show R.wp ((evE gc Γ a e).bind fun x e => match x.dat e with
    | some p => (R.of (fmtD p) e).bind fun y e => .ok (.tm (.d (.str y))) e
    | none => .bad) kx k = _
  simp only [wp_bind, dt1, wp_of]
  rfl
@[simp ↓] theorem we_fs {k} : We gc Γ kx (.fs es) e k = Wj gc Γ kx es Str.empty e fun x e => k (.tm (.d (.str x))) e := by
  show R.wp ((evF gc Γ es Str.empty e).bind fun x e => .ok (.tm (.d (.str x))) e) kx k = _
  rw [wp_bind]
  rfl
def Js (acc : Str) (d : D) (k : Str → Prop) : Prop := match d with
  | .str y => (acc ++ y).length ≤ sizeLine ∧ k (acc ++ y)
  | _ => False
@[simp ↓] theorem wj_n {acc : Str} {k} : Wj gc Γ kx .nil acc e k = k acc e := rfl
@[simp ↓] theorem wj_c {acc : Str} {k} : Wj gc Γ kx (.cons a es) acc e k = We gc Γ kx a e fun x e => dt x e fun d => Js acc d fun acc => Wj gc Γ kx es acc e k := by
  show R.wp ((evE gc Γ a e).bind fun x e => match x.dat e with
    | some (.str y) => if (acc ++ y).length ≤ sizeLine then evF gc Γ es (acc ++ y) e else .bad
    | _ => .bad) kx k = _
  rw [wp_bind]
  show R.wp _ _ _ = R.wp _ _ _
  congr 1
  funext x e
  unfold dt
  cases x.dat e with
  | none => rfl
  | some d =>
    cases d <;> try rfl
    rename_i y
    show R.wp (if (acc ++ y).length ≤ sizeLine then evF gc Γ es (acc ++ y) e else .bad) kx k = (_ ∧ _)
    by_cases h : (acc ++ y).length ≤ sizeLine
    · rw [if_pos h, eq_true h, true_and]
      rfl
    · rw [if_neg h, eq_false h, false_and]
      rfl
/-! comprehensions -/
abbrev NX : Ex → Sl → Prop := fun _ _ => False
def T1 (gc : List (Str × D)) (Γ : Gm) (ws : List Nat) (t : CT) (ifs : CP) (el : CE) (x : D) (e : Sl) (k : Option D → Sl → Prop) : Prop :=
  stT [] t x e fun e => Wf gc Γ NX ifs e fun c e => Br c (We gc Γ NX el e fun y e => tk y e fun d e => k (some d) (wipeE e ws)) (k none (wipeE e ws))
theorem turn_wp {ws : List Nat} {t : CT} {ifs : CP} {el : CE} {x : D} {k} : (turnL gc Γ ws t ifs el x e).wp NX k = T1 gc Γ ws t ifs el x e k := by
  unfold T1 turnL stT
  cases setT [] t x e with
  | none => rfl
  | some e =>
    show R.wp ((evIf gc Γ ifs e).bind _) NX k = R.wp _ _ _
    rw [wp_bind]
    congr 1
    funext c e
    rw [wp_if]
    congr 1
    rw [wp_bind]
    show R.wp _ _ _ = R.wp _ _ _
    congr 1
    funext y e
    unfold tk
    cases take y e <;> rfl
theorem lcL_kx {body : D → Sl → R (Option D)} {xs : List D} {k : List D → Sl → Prop} : (lcL body xs e).wp kx k = (lcL body xs e).wp NX k := by
  cases q : lcL body xs e with
  | ok a e1 => rfl
  | bad => rfl
  | exc x e1 => exact absurd q (lcL_nox _ _ _ _ _)
def Lc (gc : List (Str × D)) (Γ : Gm) (ws : List Nat) (t : CT) (ifs : CP) (el : CE) (xs : List D) (e : Sl) (k : List D → Sl → Prop) : Prop :=
  noOwn e ws = true ∧ (lcL (turnL gc Γ ws t ifs el) xs (wipeE e ws)).wp NX fun ds e1 => k ds (backE e e1 ws)
@[simp ↓] theorem we_lc {ws : List Nat} {t : CT} {it : CI} {ifs : CP} {el : CE} {k} : We gc Γ kx (.lc ws t it ifs el) e k = Wi gc Γ kx it e fun xs e => Lc gc Γ ws t ifs el xs e fun ds e => k (.tm (.ol ds)) e := by
  show R.wp ((evI gc Γ it e).bind fun xs e0 => if noOwn e0 ws then (lcL (turnL gc Γ ws t ifs el) xs (wipeE e0 ws)).bind fun ds e => .ok (.tm (.ol ds)) (backE e0 e ws) else .bad) kx k = _
  rw [wp_bind]
  show R.wp _ _ _ = R.wp _ _ _
  congr 1
  funext xs e
  unfold Lc
  by_cases h : noOwn e ws = true
  · rw [if_pos h, eq_true h, true_and, wp_bind, lcL_kx]
    rfl
  · rw [if_neg h, eq_false h, false_and]
    rfl
theorem lcL_inv {body : D → Sl → R (Option D)} {P : Nat → List D → Sl → Prop} {k : List D → Sl → Prop} : ∀ (xs : List D) (j : Nat) (acc : List D) (e : Sl), P j acc e →
    (∀ i x acc e, xs[i]? = some x → P (j + i) acc e → (body x e).wp NX fun r e => P (j + i + 1) (acc ++ r.toList) e) → (∀ acc e, P (j + xs.length) acc e → k acc e) → (lcL body xs e).wp NX fun ds e => k (acc ++ ds) e
  | [], j, acc, e, h0, _, hk => by
    show k (acc ++ []) e
    rw [List.append_nil]
    exact hk acc e h0
  | x :: xs, j, acc, e, h0, hs, hk => by
    show R.wp ((body x e).nox.bind fun r e => (lcL body xs e).bind fun rs e => .ok (r.toList ++ rs) e) NX _
    rw [wp_bind]
    rcases wp_iff.mp (hs 0 x acc e rfl h0) with ⟨r, e1, h1, h2⟩ | ⟨_, _, _, h2⟩
    · rw [h1]
      show R.wp ((lcL body xs e1).bind _) NX _
      rw [wp_bind]
      have := lcL_inv (k := k) xs (j + 1) (acc ++ r.toList) e1 (by simpa using h2) (fun i y acc e hy hp => by
        have := hs (i + 1) y acc e (by simpa using hy) (by rw [show j + (i + 1) = j + 1 + i by omega]; exact hp)
        rw [show j + (i + 1) + 1 = j + 1 + i + 1 by omega] at this
        exact this) (fun acc e hp => hk acc e (by rw [List.length_cons, show j + (xs.length + 1) = j + 1 + xs.length by omega]; exact hp))
      rcases wp_iff.mp this with ⟨ds, e2, h3, h4⟩ | ⟨_, _, _, h4⟩
      · rw [h3]
        show k (acc ++ (r.toList ++ ds)) e2
        rw [← List.append_assoc]
        exact h4
      · exact h4.elim
    · exact h2.elim
/-- a comprehension by an invariant: of what is behind i turns, of the slots (own names wiped) -/
theorem lc_inv {ws : List Nat} {t : CT} {ifs : CP} {el : CE} {xs : List D} {k : List D → Sl → Prop} (P : Nat → List D → Sl → Prop) (hn : noOwn e ws = true) (h0 : P 0 [] (wipeE e ws))
    (hs : ∀ i x acc e, xs[i]? = some x → P i acc e → T1 gc Γ ws t ifs el x e fun r e => P (i + 1) (acc ++ r.toList) e) (hk : ∀ acc e1, P xs.length acc e1 → k acc (backE e e1 ws)) : Lc gc Γ ws t ifs el xs e k := by
  refine ⟨hn, ?_⟩
  have := lcL_inv (body := turnL gc Γ ws t ifs el) (P := P) (k := fun ds e1 => k ds (backE e e1 ws)) xs 0 [] (wipeE e ws) h0 (fun i x acc e hx hp => by
    rw [turn_wp]
    simpa using hs i x acc e hx (by simpa using hp)) (fun acc e1 hp => hk acc e1 (by simpa using hp))
  simpa using this
/-! statements -/
variable {kn kb kc : Sl → Prop} {kr : O → Sl → Prop}
def Ws (gc : List (Str × D)) (Γ : Gm) (kx : Ex → Sl → Prop) (ow : List Bool) (c : CS) (e : Sl) (kn : Sl → Prop) (kr : O → Sl → Prop) (kb kc : Sl → Prop) : Prop := (evS gc Γ ow c e).wp kx kn kr kb kc
def Wss (gc : List (Str × D)) (Γ : Gm) (kx : Ex → Sl → Prop) (ow : List Bool) (c : CSs) (e : Sl) (kn : Sl → Prop) (kr : O → Sl → Prop) (kb kc : Sl → Prop) : Prop := (evSs gc Γ ow c e).wp kx kn kr kb kc
theorem fl_of {r : R α} {f : α → Sl → Fl} : (Fl.of r f).wp kx kn kr kb kc = r.wp kx fun a e => (f a e).wp kx kn kr kb kc := by
  cases r <;> rfl
theorem fl_if {c : Bool} {f g : Fl} : (if c then f else g).wp kx kn kr kb kc = Br c (f.wp kx kn kr kb kc) (g.wp kx kn kr kb kc) := by
  cases c <;> rfl
@[simp ↓] theorem wss_n : Wss gc Γ kx ow .nil e kn kr kb kc = kn e := rfl
@[simp ↓] theorem wss_c {s : CS} {r : CSs} : Wss gc Γ kx ow (.cons s r) e kn kr kb kc = Ws gc Γ kx ow s e (fun e => Wss gc Γ kx ow r e kn kr kb kc) kr kb kc := by
  show Fl.wp (match evS gc Γ ow s e with
    | .nx e => evSs gc Γ ow r e
    | .rt o e => .rt o e
    | .bk e => .bk e
    | .ct e => .ct e
    | .ex x e => .ex x e
    | .bad => .bad) kx kn kr kb kc = Fl.wp _ _ _ _ _ _
  cases evS gc Γ ow s e <;> rfl
@[simp ↓] theorem ws_asg : Ws gc Γ kx ow (.asg i a) e kn kr kb kc = We gc Γ kx a e fun x e => vl x e fun o e => sto ow i o e kn := by
  show Fl.wp (Fl.of (evE gc Γ a e) fun x e => match valO x e with
    | some (o, e) => match setS ow i o e with
      | some e => .nx e
      | none => .bad
    | none => .bad) kx kn kr kb kc = R.wp _ _ _
  rw [fl_of]
  congr 1
  funext x e
  unfold vl sto
  cases valO x e with
  | none => rfl
  | some p =>
    obtain ⟨o, e1⟩ := p
    show Fl.wp (match setS ow i o e1 with | some e => .nx e | none => .bad) kx kn kr kb kc = Wo (setS ow i o e1) kn
    cases setS ow i o e1 <;> rfl
@[simp ↓] theorem ws_asgT {is : List Nat} : Ws gc Γ kx ow (.asgT is es) e kn kr kb kc = Wes gc Γ kx es e fun xs e => vls xs e fun os e => stos ow is os e kn := by
  show Fl.wp (Fl.of (evEs gc Γ es e) fun xs e => match valOs xs e with
    | some (os, e) => match setSs ow is os e with
      | some e => .nx e
      | none => .bad
    | none => .bad) kx kn kr kb kc = R.wp _ _ _
  rw [fl_of]
  congr 1
  funext xs e
  unfold vls stos
  cases valOs xs e with
  | none => rfl
  | some p =>
    obtain ⟨os, e1⟩ := p
    show Fl.wp (match setSs ow is os e1 with | some e => .nx e | none => .bad) kx kn kr kb kc = Wo (setSs ow is os e1) kn
    cases setSs ow is os e1 <;> rfl
@[simp ↓] theorem ws_unp {is : List Nat} : Ws gc Γ kx ow (.unp is a) e kn kr kb kc = We gc Γ kx a e fun x e => tk x e fun d e => stT ow (.tp is) d e kn := by
  show Fl.wp (Fl.of (evE gc Γ a e) fun x e => match take x e with
    | some (d, e) => match setT ow (.tp is) d e with
      | some e => .nx e
      | none => .bad
    | none => .bad) kx kn kr kb kc = R.wp _ _ _
  rw [fl_of]
  congr 1
  funext xs e
  unfold tk stT
  cases take xs e with
  | none => rfl
  | some p =>
    obtain ⟨d, e1⟩ := p
    show Fl.wp (match setT ow (.tp is) d e1 with | some e => .nx e | none => .bad) kx kn kr kb kc = Wo (setT ow (.tp is) d e1) kn
    cases setT ow (.tp is) d e1 <;> rfl
@[simp ↓] theorem ws_ex : Ws gc Γ kx ow (.ex a) e kn kr kb kc = We gc Γ kx a e fun _ e => kn e := by
  show Fl.wp (Fl.of (evE gc Γ a e) fun _ e => .nx e) kx kn kr kb kc = R.wp _ _ _
  rw [fl_of]
  rfl
def apd (i : Nat) (d : D) (e : Sl) (k : Sl → Prop) : Prop := match (e[i]?).join with
  | some (.ol xs) => xs.length < sizeLine ∧ k (e.set i (some (.ol (xs ++ [d]))))
  | _ => False
@[simp ↓] theorem apd_0 {xs : List D} {k} (h : xs.length < sizeLine) : apd 0 d (some (.ol xs) :: e) k = k (some (.ol (xs ++ [d])) :: e) := by
  show (xs.length < sizeLine ∧ _) = _
  rw [eq_true h, true_and]
  rfl
@[simp ↓] theorem apd_s {u : Option O} {k} : apd (i + 1) d (u :: e) k = apd i d e fun e => k (u :: e) := rfl
def own_ (i : Nat) (e : Sl) (A : Prop) : Prop := isOl ((e[i]?).join) = true ∧ A
@[simp ↓] theorem own_0 {xs : List D} {A : Prop} : own_ 0 (some (.ol xs) :: e) A = A := by
  show (true = true ∧ A) = A
  simp
@[simp ↓] theorem own_s {u : Option O} {A : Prop} : own_ (i + 1) (u :: e) A = own_ i e A := rfl
@[simp ↓] theorem ws_app : Ws gc Γ kx ow (.app i a) e kn kr kb kc = own_ i e (We gc Γ kx a e fun x e => tk x e fun d e => apd i d e kn) := by
  show Fl.wp (if isOl ((e[i]?).join) = true then Fl.of (evE gc Γ a e) fun x e => match take x e with
      | some (d, e) => match (e[i]?).join with
        | some (.ol xs) => if xs.length < sizeLine then .nx (e.set i (some (.ol (xs ++ [d])))) else .bad
        | _ => .bad
      | none => .bad
    else .bad) kx kn kr kb kc = (_ ∧ _)
  by_cases h : isOl ((e[i]?).join) = true
  · rw [if_pos h, eq_true h, true_and, fl_of]
    show R.wp _ _ _ = R.wp _ _ _
    congr 1
    funext x e
    unfold tk apd
    cases take x e with
    | none => rfl
    | some p =>
      obtain ⟨d, e1⟩ := p
      show Fl.wp (match (e1[i]?).join with
        | some (.ol xs) => if xs.length < sizeLine then .nx (e1.set i (some (.ol (xs ++ [d])))) else .bad
        | _ => .bad) kx kn kr kb kc = (match (e1[i]?).join with
        | some (.ol xs) => xs.length < sizeLine ∧ kn (e1.set i (some (.ol (xs ++ [d]))))
        | _ => False)
      cases (e1[i]?).join with
      | none => rfl
      | some o =>
        cases o <;> try rfl
        · rename_i xs
          show Fl.wp (if xs.length < sizeLine then .nx (e1.set i (some (.ol (xs ++ [d])))) else .bad) kx kn kr kb kc = (_ ∧ _)
          by_cases z : xs.length < sizeLine
          · rw [if_pos z, eq_true z, true_and]
            rfl
          · rw [if_neg z, eq_false z, false_and]
            rfl
  · rw [if_neg h, eq_false h, false_and]
    rfl
def sti_ (i : Nat) (j : Int) (d : D) (e : Sl) (k : Sl → Prop) : Prop := match (e[i]?).join with
  | some (.ol xs) => Wo (ixN xs.length j) fun n => k (e.set i (some (.ol (xs.set n d))))
  | _ => False
theorem sti_0 {xs : List D} {j : Int} {m : Nat} {k} (h : ixN xs.length j = some m) : sti_ 0 j d (some (.ol xs) :: e) k = k (some (.ol (xs.set m d)) :: e) := by
  show Wo (ixN xs.length j) _ = _
  rw [h]
  rfl
@[simp ↓] theorem sti_01 {x y : D} {xs : List D} {k} : sti_ 0 1 d (some (.ol (x :: y :: xs)) :: e) k = k (some (.ol (x :: d :: xs)) :: e) := sti_0 (m := 1) (by
  unfold ixN
  rw [if_pos (by decide), if_pos (by simp; omega)]
  rfl)
@[simp ↓] theorem sti_s {u : Option O} {j : Int} {k} : sti_ (i + 1) j d (u :: e) k = sti_ i j d e fun e => k (u :: e) := rfl
@[simp ↓] theorem ws_sti : Ws gc Γ kx ow (.sti i b a) e kn kr kb kc = own_ i e (We gc Γ kx a e fun x e => Se x e fun x e => We gc Γ kx b e fun y e => dt y e fun j => In_ j fun j => tk x e fun d e => sti_ i j d e kn) := by
  show Fl.wp (if isOl ((e[i]?).join) = true then Fl.of (evE gc Γ a e) fun x e => R.setF x e fun x e => Fl.of (evE gc Γ b e) fun y e => match y.dat e with
      | some (.int j) => match take x e with
        | some (d, e) => match (e[i]?).join with
          | some (.ol xs) => match ixN xs.length j with
            | some n => .nx (e.set i (some (.ol (xs.set n d))))
            | none => .bad
          | _ => .bad
        | none => .bad
      | _ => .bad
    else .bad) kx kn kr kb kc = (_ ∧ _)
  by_cases h : isOl ((e[i]?).join) = true
  · rw [if_pos h, eq_true h, true_and, fl_of]
    show R.wp _ _ _ = R.wp _ _ _
    congr 1
    funext x e
    rw [fl_set]
    show Wo _ _ = Wo _ _
    congr 1
    funext p
    obtain ⟨x, e⟩ := p
    show Fl.wp _ kx kn kr kb kc = _
    rw [fl_of]
    show R.wp _ _ _ = R.wp _ _ _
    congr 1
    funext y e
    unfold dt
    cases y.dat e with
    | none => rfl
    | some yd =>
      cases yd <;> try rfl
      rename_i j
      show Fl.wp (match take x e with
        | some (d, e) => match (e[i]?).join with
          | some (.ol xs) => match ixN xs.length j with
            | some n => .nx (e.set i (some (.ol (xs.set n d))))
            | none => .bad
          | _ => .bad
        | none => .bad) kx kn kr kb kc = tk x e fun d e => sti_ i j d e kn
      unfold tk sti_
      cases take x e with
      | none => rfl
      | some p =>
        obtain ⟨d, e1⟩ := p
        show Fl.wp (match (e1[i]?).join with
          | some (.ol xs) => match ixN xs.length j with
            | some n => .nx (e1.set i (some (.ol (xs.set n d))))
            | none => .bad
          | _ => .bad) kx kn kr kb kc = (match (e1[i]?).join with
          | some (.ol xs) => Wo (ixN xs.length j) fun n => kn (e1.set i (some (.ol (xs.set n d))))
          | _ => False)
        cases (e1[i]?).join with
        | none => rfl
        | some o =>
          cases o <;> try rfl
          · rename_i xs
            show Fl.wp (match ixN xs.length j with
              | some n => .nx (e1.set i (some (.ol (xs.set n d))))
              | none => .bad) kx kn kr kb kc = Wo (ixN xs.length j) _
            cases ixN xs.length j <;> rfl
  · rw [if_neg h, eq_false h, false_and]
    rfl
def rto (ow : List Bool) (a : AV) (e : Sl) (k : O → Sl → Prop) : Prop := Wo (retO ow a e) fun p => k p.1 p.2
@[simp ↓] theorem rto_t {k} : rto ow (.tm o) e k = k o e := rfl
def rtp (ow : List Bool) (i : Nat) (e : Sl) (k : O → Sl → Prop) : Prop := rto ow (.pl i) e k
@[simp ↓] theorem rto_p {k} : rto ow (.pl i) e k = rtp ow i e k := rfl
@[simp ↓] theorem rtp_d {k} : rtp ow 0 (some (.d d) :: e) k = k (.d d) (some (.d d) :: e) := rfl
@[simp ↓] theorem rtp_ln {xs : List D} {k} : rtp [] 0 (some (.ol xs) :: e) k = k (.ol xs) (none :: e) := rfl
@[simp ↓] theorem rtp_lf {xs : List D} {k} : rtp (false :: ow) 0 (some (.ol xs) :: e) k = k (.ol xs) (none :: e) := rfl
theorem take_s {u : Option O} : take (.pl (i + 1)) (u :: e) = (take (.pl i) e).map fun p => (p.1, u :: p.2) := by
  show (match (e[i]?).join with | some (.d x) => some (x, u :: e) | some (.ol xs) => some (PyData.list xs, (u :: e).set (i + 1) (some (.d (.list xs)))) | some (.od xs) => some (PyData.dict xs, (u :: e).set (i + 1) (some (.d (.dict xs)))) | _ => none) =
    (match (e[i]?).join with | some (.d x) => some (x, e) | some (.ol xs) => some (PyData.list xs, e.set i (some (.d (.list xs)))) | some (.od xs) => some (PyData.dict xs, e.set i (some (.d (.dict xs)))) | _ => none).map _
  cases (e[i]?).join with
  | none => rfl
  | some o => cases o <;> rfl
theorem rtp_s {w : Bool} {ow' : List Bool} {u : Option O} {k} (h : ow[i + 1]? = ow'[i]?) : rtp ow (i + 1) (u :: e) k = rtp ow' i e fun o e => k o (u :: e) := by
  have big : ∀ o : O, Wo (if ow[i + 1]? = some true then (take (.pl (i + 1)) (u :: e)).map (fun p => (O.d p.1, p.2)) else some (o, (u :: e).set (i + 1) none)) (fun p => k p.1 p.2) =
      Wo (if ow'[i]? = some true then (take (.pl i) e).map (fun p => (O.d p.1, p.2)) else some (o, e.set i none)) (fun p => k p.1 (u :: p.2)) := fun o => by
    rw [h]
    by_cases z : ow'[i]? = some true
    · rw [if_pos z, if_pos z, take_s]
      cases take (.pl i) e <;> rfl
    · rw [if_neg z, if_neg z]
      rfl
  unfold rtp rto
  show Wo (match (e[i]?).join with
    | some (.d x) => some (O.d x, u :: e)
    | some .hid => none
    | some .un => none
    | some o => if ow[i + 1]? = some true then (take (.pl (i + 1)) (u :: e)).map (fun p => (O.d p.1, p.2)) else some (o, (u :: e).set (i + 1) none)
    | none => none) _ = Wo (match (e[i]?).join with
    | some (.d x) => some (O.d x, e)
    | some .hid => none
    | some .un => none
    | some o => if ow'[i]? = some true then (take (.pl i) e).map (fun p => (O.d p.1, p.2)) else some (o, e.set i none)
    | none => none) _
  cases (e[i]?).join with
  | none => rfl
  | some o =>
    cases o with
    | d x => rfl
    | ol xs => exact big _
    | od xs => exact big _
    | ob c xs => exact big _
    | un => rfl
    | hid => rfl
@[simp ↓] theorem rtp_cs {w : Bool} {u : Option O} {k} : rtp (w :: ow) (i + 1) (u :: e) k = rtp ow i e fun o e => k o (u :: e) := rtp_s (w := w) (by simp)
@[simp ↓] theorem rtp_ns {u : Option O} {k} : rtp [] (i + 1) (u :: e) k = rtp [] i e fun o e => k o (u :: e) := rtp_s (w := true) (by simp)
@[simp ↓] theorem ws_ret : Ws gc Γ kx ow (.ret a) e kn kr kb kc = We gc Γ kx a e fun x e => rto ow x e kr := by
  show Fl.wp (Fl.of (evE gc Γ a e) fun x e => match retO ow x e with
    | some (o, e) => .rt o e
    | none => .bad) kx kn kr kb kc = R.wp _ _ _
  rw [fl_of]
  congr 1
  funext x e
  unfold rto
  cases retO ow x e <;> rfl
@[simp ↓] theorem ws_retN : Ws gc Γ kx ow .retN e kn kr kb kc = kr (.d .none) e := rfl
@[simp ↓] theorem ws_brk : Ws gc Γ kx ow .brk e kn kr kb kc = kb e := rfl
@[simp ↓] theorem ws_cnt : Ws gc Γ kx ow .cnt e kn kr kb kc = kc e := rfl
@[simp ↓] theorem ws_pass : Ws gc Γ kx ow .pass e kn kr kb kc = kn e := rfl
@[simp ↓] theorem ws_ifs {s r : CSs} : Ws gc Γ kx ow (.ifs a s r) e kn kr kb kc = Wt gc Γ kx a e fun c e => Br c (Wss gc Γ kx ow s e kn kr kb kc) (Wss gc Γ kx ow r e kn kr kb kc) := by
  show Fl.wp (Fl.of (evT gc Γ a e) fun c e => if c then evSs gc Γ ow s e else evSs gc Γ ow r e) kx kn kr kb kc = R.wp _ _ _
  rw [fl_of]
  congr 1
  funext c e
  rw [fl_if]
  rfl
def Aug (o : BOp) (p q : D) (k : D → Prop) : Prop := Wo (augD o p q) k
@[simp ↓] theorem aug_add {i j : Int} {k} : Aug .add (.int i) (.int j) k = k (.int (i + j)) := rfl
theorem aug_cat {x y : Str} {k} (h : x.length + y.length ≤ sizeLine) : Aug .add (.str x) (.str y) k = k (.str (x ++ y)) := by
  show Wo (if x.length + y.length ≤ sizeLine then some (PyData.str (x ++ y)) else none) k = _
  rw [if_pos h]
  rfl
@[simp ↓] theorem aug_sub {i j : Int} {k} : Aug .sub (.int i) (.int j) k = k (.int (i - j)) := rfl
def lkq (i : Nat) (e : Sl) (k : D → Prop) : Prop := match (e[i]?).join with
  | some (.d x) => k x
  | _ => False
@[simp ↓] theorem lkq_0 {k} : lkq 0 (some (.d d) :: e) k = k d := rfl
@[simp ↓] theorem lkq_s {u : Option O} {k} : lkq (i + 1) (u :: e) k = lkq i e k := rfl
@[simp ↓] theorem ws_aug {o : BOp} : Ws gc Γ kx ow (.aug i o a) e kn kr kb kc = lkq i e fun _ => We gc Γ kx a e fun x e => lkq i e fun p => dt x e fun q => Aug o p q fun r => sto ow i (.d r) e kn := by
  show Fl.wp (match (e[i]?).join with
    | some (.d _) => Fl.of (evE gc Γ a e) fun x e => match (e[i]?).join, x.dat e with
      | some (.d p), some q => match augD o p q with
        | some r => match setS ow i (.d r) e with
          | some e => .nx e
          | none => .bad
        | none => .bad
      | _, _ => .bad
    | _ => .bad) kx kn kr kb kc = _
  unfold lkq
  cases (e[i]?).join with
  | none => rfl
  | some u0 =>
    cases u0 <;> try rfl
    · rename_i d0
      show Fl.wp (Fl.of (evE gc Γ a e) _) kx kn kr kb kc = R.wp _ _ _
      rw [fl_of]
      congr 1
      funext x e
      unfold dt Aug sto
      cases (e[i]?).join with
      | none => rfl
      | some u =>
        cases x.dat e with
        | none => cases u <;> rfl
        | some q =>
          cases u <;> try rfl
          · rename_i p
            show Fl.wp (match augD o p q with
              | some r => match setS ow i (.d r) e with
                | some e => .nx e
                | none => .bad
              | none => .bad) kx kn kr kb kc = Wo (augD o p q) fun r => Wo (setS ow i (.d r) e) kn
            cases augD o p q with
            | none => rfl
            | some r =>
              show Fl.wp (match setS ow i (.d r) e with
                | some e => .nx e
                | none => .bad) kx kn kr kb kc = Wo (setS ow i (.d r) e) kn
              cases setS ow i (.d r) e <;> rfl
/-! loops -/
def Fr (gc : List (Str × D)) (Γ : Gm) (kx : Ex → Sl → Prop) (ow : List Bool) (t : CT) (b : CSs) (xs : List D) (e : Sl) (kn : Sl → Prop) (kr : O → Sl → Prop) : Prop :=
  (forL (fun x e => match setT ow t x e with | some e => evSs gc Γ ow b e | none => .bad) xs e).wp kx kn kr (fun _ => False) fun _ => False
theorem forL_ends {body : D → Sl → Fl} {kb' kc' : Sl → Prop} : ∀ (xs : List D) (e : Sl), (forL body xs e).wp kx kn kr kb kc = (forL body xs e).wp kx kn kr kb' kc'
  | [], _ => rfl
  | x :: xs, e => by
    unfold forL
    cases body x e with
    | nx e => exact forL_ends xs e
    | ct e => exact forL_ends xs e
    | bk e => rfl
    | rt o e => rfl
    | ex x e => rfl
    | bad => rfl
@[simp ↓] theorem ws_for {t : CT} {it : CI} {s : CSs} : Ws gc Γ kx ow (.for t it s) e kn kr kb kc = Wi gc Γ kx it e fun xs e => Fr gc Γ kx ow t s xs e kn kr := by
  show Fl.wp (Fl.of (evI gc Γ it e) fun xs e => forL _ xs e) kx kn kr kb kc = R.wp _ _ _
  rw [fl_of]
  congr 1
  funext xs e
  exact forL_ends xs e
theorem forL_inv {body : D → Sl → Fl} {P : Nat → Sl → Prop} : ∀ (xs : List D) (j : Nat) (e : Sl), P j e →
    (∀ i x e, xs[i]? = some x → P (j + i) e → (body x e).wp kx (P (j + i + 1)) kr kn (P (j + i + 1))) → (∀ e, P (j + xs.length) e → kn e) → (forL body xs e).wp kx kn kr kb kc
  | [], j, e, h0, _, hk => hk e h0
  | x :: xs, j, e, h0, hs, hk => by
    have h1 := hs 0 x e rfl h0
    have rest : ∀ e1, P (j + 0 + 1) e1 → (forL body xs e1).wp kx kn kr kb kc := fun e1 h2 => forL_inv xs (j + 1) e1 (by simpa using h2) (fun i y e hy hp => by
      have := hs (i + 1) y e (by simpa using hy) (by rw [show j + (i + 1) = j + 1 + i by omega]; exact hp)
      rw [show j + (i + 1) + 1 = j + 1 + i + 1 by omega] at this
      exact this) (fun e hp => hk e (by rw [List.length_cons, show j + (xs.length + 1) = j + 1 + xs.length by omega]; exact hp))
    unfold forL
    cases q : body x e with
    | nx e1 =>
      rw [q] at h1
      exact rest e1 h1
    | ct e1 =>
      rw [q] at h1
      exact rest e1 h1
    | bk e1 =>
      rw [q] at h1
      exact h1
    | rt o e1 =>
      rw [q] at h1
      exact h1
    | ex x e1 =>
      rw [q] at h1
      exact h1
    | bad =>
      rw [q] at h1
      exact h1
/-- a for by an invariant of the slots behind i turns -/
theorem fr_inv {t : CT} {s : CSs} {xs : List D} (P : Nat → Sl → Prop) (h0 : P 0 e) (hs : ∀ i x e, xs[i]? = some x → P i e → stT ow t x e fun e => Wss gc Γ kx ow s e (P (i + 1)) kr kn (P (i + 1))) (hk : ∀ e, P xs.length e → kn e) : Fr gc Γ kx ow t s xs e kn kr := by
  refine forL_inv (P := P) xs 0 e h0 (fun i x e hx hp => ?_) (fun e hp => hk e (by simpa using hp))
  have := hs i x e hx (by simpa using hp)
  unfold stT at this
  rw [Nat.zero_add]
  cases q : setT ow t x e with
  | none =>
    rw [q] at this
    exact this.elim
  | some e1 =>
    rw [q] at this
    exact this
def Wh (gc : List (Str × D)) (Γ : Gm) (kx : Ex → Sl → Prop) (ow : List Bool) (a : CE) (b : CSs) (m : Nat) (e : Sl) (kn : Sl → Prop) (kr : O → Sl → Prop) : Prop :=
  (whlL (fun e => evT gc Γ a e) (fun e => evSs gc Γ ow b e) m e).wp kx kn kr (fun _ => False) fun _ => False
theorem whlL_ends {t : Sl → R Bool} {body : Sl → Fl} {kb' kc' : Sl → Prop} : ∀ (m : Nat) (e : Sl), (whlL t body m e).wp kx kn kr kb kc = (whlL t body m e).wp kx kn kr kb' kc'
  | 0, _ => rfl
  | m + 1, e => by
    unfold whlL
    rw [fl_of, fl_of]
    congr 1
    funext c e
    cases c with
    | false => rfl
    | true =>
      simp only [if_true]
      cases body e with
      | nx e => exact whlL_ends m e
      | ct e => exact whlL_ends m e
      | bk e => rfl
      | rt o e => rfl
      | ex x e => rfl
      | bad => rfl
@[simp ↓] theorem ws_whl {s : CSs} : Ws gc Γ kx ow (.whl a s) e kn kr kb kc = Wh gc Γ kx ow a s whileMost e kn kr := whlL_ends _ _
/-- a while by an invariant with a measure -/
theorem wh_inv {s : CSs} {P : Nat → Sl → Prop} (hs : ∀ m e, P m e → Wt gc Γ kx a e fun c e => Br c (Wss gc Γ kx ow s e (fun e => ∃ m', m' < m ∧ P m' e) kr kn (fun e => ∃ m', m' < m ∧ P m' e)) (kn e)) : ∀ (f m : Nat) (e : Sl), m < f → P m e → Wh gc Γ kx ow a s f e kn kr
  | 0, m, e, h, _ => absurd h (Nat.not_lt_zero _)
  | f + 1, m, e, h, hp => by
    have h1 := hs m e hp
    unfold Wh whlL
    rw [fl_of]
    rcases wp_iff.mp h1 with ⟨c, e1, h2, h3⟩ | ⟨x, e1, h2, h3⟩
    case inr =>
      show R.wp (testV (evE gc Γ a e)) kx _
      rw [h2]
      exact h3
    show R.wp (testV (evE gc Γ a e)) kx _
    rw [h2]
    cases c with
    | false =>
      rw [br_f] at h3
      exact h3
    | true =>
      rw [br_t] at h3
      show Fl.wp (match evSs gc Γ ow s e1 with
        | .nx e => whlL _ _ f e
        | .ct e => whlL _ _ f e
        | .bk e => .nx e
        | .rt o e => .rt o e
        | .ex x e => .ex x e
        | .bad => .bad) kx kn kr _ _
      unfold Wss at h3
      cases q : evSs gc Γ ow s e1 with
      | nx e2 =>
        rw [q] at h3
        obtain ⟨m', h4, h5⟩ := h3
        exact wh_inv hs f m' e2 (by omega) h5
      | ct e2 =>
        rw [q] at h3
        obtain ⟨m', h4, h5⟩ := h3
        exact wh_inv hs f m' e2 (by omega) h5
      | bk e2 =>
        rw [q] at h3
        exact h3
      | rt o e2 =>
        rw [q] at h3
        exact h3
      | ex x e2 =>
        rw [q] at h3
        exact h3
      | bad =>
        rw [q] at h3
        exact h3
/-! runs -/
def oo (os : List O) (e : Sl) (k : List O → Prop) : Prop := Wo (outOs os e) k
@[simp ↓] theorem oo_n {k} : oo [] e k = k [] := rfl
@[simp ↓] theorem oo_d {os : List O} {u : Option O} {k} : oo (.d d :: os) (u :: e) k = oo os e fun outs => k (.d d :: outs) := by
  unfold oo
  show Wo (match outO (.d d) (([u][0]?).join), outOs os e with | some x, some xs => some (x :: xs) | _, _ => none) k = _
  cases outOs os e <;> rfl
theorem oo_own {a o : O} {os : List O} {k} (h : ownO a = true) (h1 : o ≠ .hid) (h2 : o ≠ .un) : oo (a :: os) (some o :: e) k = oo os e fun outs => k (o :: outs) := by
  unfold oo
  have e1 : outO a (some o) = some o := by
    unfold outO
    rw [if_pos h]
    cases o <;> first | rfl | exact absurd rfl h1 | exact absurd rfl h2
  show Wo (match outO a (some o), outOs os e with | some x, some xs => some (x :: xs) | _, _ => none) k = _
  rw [e1]
  cases outOs os e <;> rfl
@[simp ↓] theorem oo_ld {xs : List D} {os : List O} {k} : oo (.ol xs :: os) (some (.d d) :: e) k = oo os e fun outs => k (.d d :: outs) := oo_own rfl (by simp) (by simp)
@[simp ↓] theorem oo_ll {xs ys : List D} {os : List O} {k} : oo (.ol xs :: os) (some (.ol ys) :: e) k = oo os e fun outs => k (.ol ys :: outs) := oo_own rfl (by simp) (by simp)
/-- a call's run by its body's end -/
theorem run_wx {code : List FD} {f : Nat} {fd : FD} {os : List O} {kx : Ex → List O → Prop} {k : O → List O → Prop} (hc : code[f]? = some fd) (hl : fd.mak = none ∧ fd.nt = none ∧ os.length = fd.np ∧ fd.np ≤ fd.ns)
    (h : Wss gc (run gc code n) (fun x e => oo os e fun outs => kx x outs) (os.map ownO) fd.body (os.map some ++ List.replicate (fd.ns - fd.np) none) (fun e => oo os e fun outs => k (.d .none) outs) (fun o e => oo os e fun outs => k o outs) (fun _ => False) fun _ => False) :
    (∃ r outs, run gc code (n + 1) f os = some (.v r, outs) ∧ k r outs) ∨ ∃ x outs, run gc code (n + 1) f os = some (.x x, outs) ∧ kx x outs := by
  have h1 : run gc code (n + 1) f os = runF gc (run gc code n) fd os := by
    show (match code[f]? with
      | some fd => match fd.mak with
        | some (c, g, k) => if os.length = fd.np then match run gc code n g (.ob c (List.replicate k .un) :: os) with
            | some (.v (.d .none), o :: outs) => some (Rs.v o, outs)
            | _ => none
          else none
        | none => match fd.nt with
          | some g => if os.length = fd.np then (g os).map fun (r : O × List O) => (Rs.v r.1, r.2) else none
          | none => runF gc (run gc code n) fd os
      | none => none) = _
    rw [hc]
    simp only [hl.1, hl.2.1]
  rw [h1]
  unfold runF
  rw [if_pos hl.2.2]
  unfold Wss at h
  cases q : evSs gc (run gc code n) (os.map ownO) fd.body (os.map some ++ List.replicate (fd.ns - fd.np) none) with
  | nx e =>
    rw [q] at h
    have h : Wo (outOs os e) fun outs => k (.d .none) outs := h
    cases q2 : outOs os e with
    | none =>
      rw [q2] at h
      exact h.elim
    | some outs =>
      rw [q2] at h
      exact .inl ⟨_, _, by simp [q2], h⟩
  | rt o e =>
    rw [q] at h
    have h : Wo (outOs os e) fun outs => k o outs := h
    cases q2 : outOs os e with
    | none =>
      rw [q2] at h
      exact h.elim
    | some outs =>
      rw [q2] at h
      exact .inl ⟨_, _, by simp [q2], h⟩
  | ex x e =>
    rw [q] at h
    have h : Wo (outOs os e) fun outs => kx x outs := h
    cases q2 : outOs os e with
    | none =>
      rw [q2] at h
      exact h.elim
    | some outs =>
      rw [q2] at h
      exact .inr ⟨_, _, by simp [q2], h⟩
  | bk e =>
    rw [q] at h
    exact h.elim
  | ct e =>
    rw [q] at h
    exact h.elim
  | bad =>
    rw [q] at h
    exact h.elim
/-- a run that raises nothing -/
theorem run_wp {code : List FD} {f : Nat} {fd : FD} {os : List O} {k : O → List O → Prop} (hc : code[f]? = some fd) (hl : fd.mak = none ∧ fd.nt = none ∧ os.length = fd.np ∧ fd.np ≤ fd.ns)
    (h : Wss gc (run gc code n) (fun _ _ => False) (os.map ownO) fd.body (os.map some ++ List.replicate (fd.ns - fd.np) none) (fun e => oo os e fun outs => k (.d .none) outs) (fun o e => oo os e fun outs => k o outs) (fun _ => False) fun _ => False) :
    ∃ r outs, run gc code (n + 1) f os = some (.v r, outs) ∧ k r outs := by
  have h2 : Wss gc (run gc code n) (fun x e => oo os e fun outs => False) (os.map ownO) fd.body (os.map some ++ List.replicate (fd.ns - fd.np) none) (fun e => oo os e fun outs => k (.d .none) outs) (fun o e => oo os e fun outs => k o outs) (fun _ => False) fun _ => False := by
    unfold Wss at h ⊢
    cases q : evSs gc (run gc code n) (os.map ownO) fd.body (os.map some ++ List.replicate (fd.ns - fd.np) none) with
    | ex x e =>
      rw [q] at h
      exact h.elim
    | nx e =>
      rw [q] at h
      exact h
    | rt o e =>
      rw [q] at h
      exact h
    | bk e =>
      rw [q] at h
      exact h
    | ct e =>
      rw [q] at h
      exact h
    | bad =>
      rw [q] at h
      exact h
  rcases run_wx (kx := fun _ _ => False) hc hl h2 with h | ⟨_, _, _, h⟩
  · exact h
  · exact h.elim
end
end Y

/-! V2: plain data: what may be compared and shown; how long the shown text is. -/
namespace Y
open PySem L2
mutual
/-- at most so long when shown -/
def mx : D → Nat
  | .none => 4
  | .bool _ => 5
  | .int _ => 1921
  | .str x => (reprText x).length
  | .list xs => mxs xs + 2
  | .tuple xs => mxs xs + 3
  | .dict _ => 0
def mxs : List D → Nat
  | [] => 0
  | x :: xs => mx x + 2 + mxs xs
end
def tot : List Str → Nat
  | [] => 0
  | t :: r => t.length + 2 + tot r
theorem from_len : ∀ (ts : List Str) (k : Nat) (acc : Str), (textFrom k acc ts).length ≤ acc.length + tot ts
  | [], k, acc => Nat.le_refl _
  | t :: r, k, acc => by
    have h := from_len r (k + 1) (acc ++ (if k > 0 then ", " else "" : String) ++ t)
    have e : (acc ++ (if k > 0 then ", " else "" : String) ++ t).length ≤ acc.length + 2 + t.length := by
      rw [Str.length_append, Str.length_append]
      split
      · exact Nat.le_refl _
      · show acc.length + 0 + t.length ≤ _
        omega
    show (textFrom (k + 1) (acc ++ (if k > 0 then ", " else "" : String) ++ t) r).length ≤ acc.length + (t.length + 2 + tot r)
    omega
theorem piled_tot : ∀ ts : List Str, piled ts ≤ tot ts
  | [] => by simp [piled, tot]
  | t :: r => by
    have := piled_tot r
    rw [piled_cons]
    simp only [tot]
    omega
theorem list_len (ts : List Str) : (listText ts).length ≤ tot ts + 2 := by
  have h := from_len ts 0 "["
  unfold listText
  rw [Str.length_append]
  have e1 : (("[" : String) : Str).length = 1 := rfl
  have e2 : (("]" : String) : Str).length = 1 := rfl
  omega
theorem tuple_len (ts : List Str) : (tupleText ts).length ≤ tot ts + 3 := by
  unfold tupleText
  rw [Str.length_append, Str.length_append]
  have e1 : (("(" : String) : Str).length = 1 := rfl
  have hj : (Str.join ", " ts).length ≤ tot ts := by
    cases ts with
    | nil => exact Nat.zero_le _
    | cons t r =>
      have h1 := join_length_add (t :: r) (by simp)
      have h2 := piled_tot (t :: r)
      omega
  have e2 : ((if ts.length == 1 then ",)" else ")" : String) : Str).length ≤ 2 := by
    split
    · exact Nat.le_refl _
    · decide
  omega
mutual
theorem mx_len : ∀ d : D, d.showable = true → d.canLay0 = true → d.shown.length ≤ mx d
  | .none, _, _ => by
    simp only [PyData.shown, mx]
    decide
  | .bool b, _, _ => by
    simp only [PyData.shown, mx]
    cases b <;> decide
  | .int i, h, _ => by
    simp only [PyData.showable, decide_eq_true_eq] at h
    simp only [PyData.shown, mx]
    exact PyProof.Rows.int_text_len_1921 h
  | .str x, _, _ => by
    simp only [PyData.shown, mx]
    exact Nat.le_refl _
  | .list xs, h, c => by
    simp only [PyData.showable] at h
    simp only [PyData.canLay0] at c
    simp only [PyData.shown, mx]
    exact Nat.le_trans (list_len _) (Nat.add_le_add_right (mxs_len xs h c) 2)
  | .tuple xs, h, c => by
    simp only [PyData.showable] at h
    simp only [PyData.canLay0] at c
    simp only [PyData.shown, mx]
    exact Nat.le_trans (tuple_len _) (Nat.add_le_add_right (mxs_len xs h c) 3)
  | .dict kvs, _, c => by
    simp only [PyData.canLay0] at c
    cases c
theorem mxs_len : ∀ xs : List D, PyData.showableAll xs = true → PyData.canLayAll0 xs = true → tot (PyData.shownAll xs) ≤ mxs xs
  | [], _, _ => Nat.le_refl _
  | x :: xs, h, c => by
    simp only [PyData.showableAll, Bool.and_eq_true] at h
    simp only [PyData.canLayAll0, Bool.and_eq_true] at c
    have h1 := mx_len x h.1 c.1
    have h2 := mxs_len xs h.2 c.2
    simp only [PyData.shownAll, tot, mxs]
    omega
end
/-- may be compared, shown, walked -/
structure Nice (d : D) (k m : Nat) : Prop where
  lay : d.canLay0 = true
  sho : d.showable = true
  dep : d.depth ≤ k
  siz : mx d ≤ m
theorem Nice.shaped {d : D} {k m : Nat} (h : Nice d k m) (hk : k ≤ 64) : PySem.SeqAt.shaped d = true := by
  unfold PySem.SeqAt.shaped
  rw [h.lay, Bool.true_and]
  exact decide_eq_true (Nat.le_trans h.dep hk)
theorem Nice.mono {d : D} {k m k' m' : Nat} (h : Nice d k m) (h1 : k ≤ k') (h2 : m ≤ m') : Nice d k' m' := ⟨h.lay, h.sho, Nat.le_trans h.dep h1, Nat.le_trans h.siz h2⟩
theorem bt_repr {d : D} {k m : Nat} {p} (h : Nice d k m) (hk : k ≤ 64) (hm : m ≤ sizeLine) (hd : (∃ xs, d = .list xs) ∨ ∃ xs, d = .tuple xs) : Bt .repr d p = p (.d (.str d.shown)) := by
  have hz : sizeOk d.shown.length = true := decide_eq_true (Nat.le_trans (mx_len d h.sho h.lay) (Nat.le_trans h.siz hm))
  have hd' : decide (d.depth ≤ 64) = true := decide_eq_true (Nat.le_trans h.dep hk)
  rcases hd with ⟨xs, rfl⟩ | ⟨xs, rfl⟩
  · show Wo (if PyData.canLay0 (.list xs) && PyData.showable (.list xs) && decide (PyData.depth (.list xs) ≤ 64) && sizeOk (PyData.shown (.list xs)).length then some (O.d (.str (PyData.shown (.list xs)))) else none) p = _
    rw [h.lay, h.sho, hd', hz]
    rfl
  · show Wo (if PyData.canLay0 (.tuple xs) && PyData.showable (.tuple xs) && decide (PyData.depth (.tuple xs) ≤ 64) && sizeOk (PyData.shown (.tuple xs)).length then some (O.d (.str (PyData.shown (.tuple xs)))) else none) p = _
    rw [h.lay, h.sho, hd', hz]
    rfl
theorem nice_none {k m : Nat} (hm : 4 ≤ m) : Nice .none k m := ⟨rfl, rfl, Nat.zero_le _, hm⟩
theorem nice_bool {b : Bool} {k m : Nat} (hm : 5 ≤ m) : Nice (.bool b) k m := ⟨rfl, rfl, Nat.zero_le _, hm⟩
theorem nice_int {i : Int} {k m : Nat} (h : smallInt i = true) (hm : 1921 ≤ m) : Nice (.int i) k m := ⟨rfl, h, Nat.zero_le _, hm⟩
theorem nice_all {xs : List D} {k m : Nat} (h : ∀ x ∈ xs, Nice x k m) : PyData.canLayAll0 xs = true ∧ PyData.showableAll xs = true ∧ PyData.depthAll xs ≤ k ∧ mxs xs ≤ (m + 2) * xs.length := by
  induction xs with
  | nil => exact ⟨rfl, rfl, Nat.zero_le _, Nat.zero_le _⟩
  | cons x xs ih =>
    obtain ⟨h1, h2, h3, h4⟩ := ih fun y hy => h y (List.mem_cons_of_mem _ hy)
    have hx := h x List.mem_cons_self
    refine ⟨?_, ?_, ?_, ?_⟩
    · simp only [PyData.canLayAll0, hx.lay, h1, Bool.and_self]
    · simp only [PyData.showableAll, hx.sho, h2, Bool.and_self]
    · simp only [PyData.depthAll]
      have := hx.dep
      omega
    · have := hx.siz
      simp only [mxs, List.length_cons]
      rw [Nat.mul_add, Nat.mul_one]
      omega
theorem nice_list {xs : List D} {k m M : Nat} (h : ∀ x ∈ xs, Nice x k m) (hM : (m + 2) * xs.length + 2 ≤ M) : Nice (.list xs) (k + 1) M := by
  obtain ⟨h1, h2, h3, h4⟩ := nice_all h
  refine ⟨by simpa [PyData.canLay0] using h1, by simpa [PyData.showable] using h2, ?_, ?_⟩
  · simp only [PyData.depth]
    omega
  · simp only [mx]
    omega
theorem nice_tuple {xs : List D} {k m M : Nat} (h : ∀ x ∈ xs, Nice x k m) (hM : (m + 2) * xs.length + 3 ≤ M) : Nice (.tuple xs) (k + 1) M := by
  obtain ⟨h1, h2, h3, h4⟩ := nice_all h
  refine ⟨by simpa [PyData.canLay0] using h1, by simpa [PyData.showable] using h2, ?_, ?_⟩
  · simp only [PyData.depth]
    omega
  · simp only [mx]
    omega
theorem small_of {i : Int} (h : i.natAbs < 2 ^ 1000) : smallInt i = true := by
  unfold smallInt
  refine decide_eq_true (Nat.lt_of_le_of_lt (m := 1000) ?_ (by decide))
  by_cases z : i.natAbs = 0
  · rw [z]
    decide
  · exact Nat.le_of_lt ((Nat.log2_lt z).mpr h)
/-! membership -/
def intL (xs : List Int) : List D := xs.map .int
def boolL (xs : List Bool) : List D := xs.map .bool
theorem any_int {i : Int} : ∀ xs : List Int, ((intL xs).any fun z => PyData.eqv z (.int i)) = decide (i ∈ xs)
  | [] => rfl
  | x :: xs => by
    have h := any_int (i := i) xs
    unfold intL at h ⊢
    rw [List.map_cons, List.any_cons, h]
    simp only [PyData.eqv, List.mem_cons]
    by_cases z : x = i
    · subst z
      simp
    · simp [z, Ne.symm z]
theorem any_bool {i : Bool} : ∀ xs : List Bool, ((boolL xs).any fun z => PyData.eqv z (.bool i)) = decide (i ∈ xs)
  | [] => rfl
  | x :: xs => by
    have h := any_bool (i := i) xs
    unfold boolL at h ⊢
    rw [List.map_cons, List.any_cons, h]
    simp only [PyData.eqv, List.mem_cons]
    by_cases z : x = i
    · subst z
      simp
    · simp [z, Ne.symm z]
theorem flat_ints (xs : List Int) : (intL xs).all flatD = true := by
  unfold intL
  rw [List.all_map, List.all_eq_true]
  intro x _
  rfl
theorem lay_ints : ∀ xs : List Int, PyData.canLayAll0 (intL xs) = true ∧ PyData.depthAll (intL xs) = 0
  | [] => ⟨rfl, rfl⟩
  | x :: xs => by
    obtain ⟨h1, h2⟩ := lay_ints xs
    unfold intL at h1 h2 ⊢
    rw [List.map_cons]
    simp only [PyData.canLayAll0, PyData.canLay0, PyData.depthAll, PyData.depth, h1, h2]
    exact ⟨rfl, rfl⟩
theorem lay_bools : ∀ xs : List Bool, PyData.canLayAll0 (boolL xs) = true ∧ PyData.depthAll (boolL xs) = 0
  | [] => ⟨rfl, rfl⟩
  | x :: xs => by
    obtain ⟨h1, h2⟩ := lay_bools xs
    unfold boolL at h1 h2 ⊢
    rw [List.map_cons]
    simp only [PyData.canLayAll0, PyData.canLay0, PyData.depthAll, PyData.depth, h1, h2]
    exact ⟨rfl, rfl⟩
theorem shaped_ints (xs : List Int) : PySem.SeqAt.shaped (.list (intL xs)) = true := by
  obtain ⟨h1, h2⟩ := lay_ints xs
  unfold PySem.SeqAt.shaped
  simp only [PyData.canLay0, PyData.depth, h1, h2]
  rfl
theorem shaped_bools (xs : List Bool) : PySem.SeqAt.shaped (.list (boolL xs)) = true := by
  obtain ⟨h1, h2⟩ := lay_bools xs
  unfold PySem.SeqAt.shaped
  simp only [PyData.canLay0, PyData.depth, h1, h2]
  rfl
@[simp ↓] theorem cm_inT {i : Int} {xs : List Int} {k} : Cm .inn (.int i) (.tuple (intL xs)) k = k (decide (i ∈ xs)) := by
  show Wo (if flatD (.int i) && (intL xs).all flatD then some ((intL xs).any fun z => PyData.eqv z (.int i)) else none) k = _
  rw [flat_ints, any_int]
  rfl
@[simp ↓] theorem cm_inL {i : Int} {xs : List Int} {k} : Cm .inn (.int i) (.list (intL xs)) k = k (decide (i ∈ xs)) := by
  show Wo (if PySem.SeqAt.shaped (.int i) && PySem.SeqAt.shaped (.list (intL xs)) then some ((intL xs).any fun z => PyData.eqv z (.int i)) else none) k = _
  rw [shaped_ints, any_int]
  rfl
@[simp ↓] theorem cm_ninL {i : Int} {xs : List Int} {k} : Cm .nin (.int i) (.list (intL xs)) k = k (!decide (i ∈ xs)) := by
  show Wo ((if PySem.SeqAt.shaped (.int i) && PySem.SeqAt.shaped (.list (intL xs)) then some ((intL xs).any fun z => PyData.eqv z (.int i)) else none).map (!·)) k = _
  rw [shaped_ints, any_int]
  rfl
@[simp ↓] theorem cm_inB {i : Bool} {xs : List Bool} {k} : Cm .inn (.bool i) (.list (boolL xs)) k = k (decide (i ∈ xs)) := by
  show Wo (if PySem.SeqAt.shaped (.bool i) && PySem.SeqAt.shaped (.list (boolL xs)) then some ((boolL xs).any fun z => PyData.eqv z (.bool i)) else none) k = _
  rw [shaped_bools, any_bool]
  rfl
@[simp ↓] theorem cm_ninB {i : Bool} {xs : List Bool} {k} : Cm .nin (.bool i) (.list (boolL xs)) k = k (!decide (i ∈ xs)) := by
  show Wo ((if PySem.SeqAt.shaped (.bool i) && PySem.SeqAt.shaped (.list (boolL xs)) then some ((boolL xs).any fun z => PyData.eqv z (.bool i)) else none).map (!·)) k = _
  rw [shaped_bools, any_bool]
  rfl
theorem eqv_nil {xs : List D} : PyData.eqvAll xs [] = decide (xs = []) := by
  cases xs with
  | nil => rfl
  | cons x xs => simp [PyData.eqvAll]
@[simp ↓] theorem cm_neN {xs : List Int} {k} : Cm .ne (.list (intL xs)) (.list []) k = k (!decide (xs = [])) := by
  show Wo ((if eqOk (.list (intL xs)) (.list []) then some (PyData.eqv (.list (intL xs)) (.list [])) else none).map (!·)) k = _
  have h : eqOk (.list (intL xs)) (.list []) = true := by
    unfold eqOk
    rw [shaped_ints]
    decide
  have h2 : PyData.eqv (.list (intL xs)) (.list []) = decide (xs = []) := by
    rw [PyData.eqv, eqv_nil]
    unfold intL
    simp
  rw [h, h2]
  rfl
@[simp ↓] theorem bt_anyB {bs : List Bool} {k} : Bt .any (.list (boolL bs)) k = k (.d (.bool (bs.any id))) := bt_any
@[simp ↓] theorem bt_allB {bs : List Bool} {k} : Bt .all (.list (boolL bs)) k = k (.d (.bool (bs.all id))) := bt_all
theorem R.wp_mono {α : Type} {r : R α} {kx : Ex → Sl → Prop} {k k' : α → Sl → Prop} (h : r.wp kx k) (m : ∀ a e, k a e → k' a e) : r.wp kx k' := by
  cases r with
  | ok a e => exact m a e h
  | exc x e => exact h
  | bad => exact h
theorem T1_mono {gc : List (Str × D)} {Γ : Gm} {ws : List Nat} {t : CT} {ifs : CP} {el : CE} {x : D} {e : Sl} {k k' : Option D → Sl → Prop} (h : T1 gc Γ ws t ifs el x e k) (m : ∀ a e, k a e → k' a e) : T1 gc Γ ws t ifs el x e k' := by
  rw [← turn_wp] at h ⊢
  exact R.wp_mono h m
/-! values of any kind -/
/-- a datum, or a list of one's own -/
inductive Fo where
  | d (x : D)
  | l (xs : List D)
def Fo.o : Fo → O
  | .d x => .d x
  | .l xs => .ol xs
def Fo.dd : Fo → D
  | .d x => x
  | .l xs => .list xs
@[simp ↓] theorem dt_t {o : Fo} {e : Sl} {k} : dt (.tm o.o) e k = k o.dd := by
  cases o <;> rfl
@[simp ↓] theorem tk_t {o : Fo} {e : Sl} {k} : tk (.tm o.o) e k = k o.dd e := by
  cases o <;> rfl
@[simp ↓] theorem lkd_o {o : Fo} {e : Sl} {k} : lkd 0 (some o.o :: e) k = k o.dd := by
  cases o <;> rfl
@[simp ↓] theorem ao_t {o : Fo} {as : List AV} {e : Sl} {u : List Nat} {k} : ao (.tm o.o :: as) e u k = ao as e u fun os => k (.d o.dd :: os) := by
  cases o <;> simp -implicitDefEqProofs [Fo.o, Fo.dd]
@[simp] theorem dat_d {d : D} : (Fo.d d).dd = d := rfl
@[simp] theorem dat_l {xs : List D} : (Fo.l xs).dd = .list xs := rfl
/-- a comprehension that leaves the slots as they are -/
theorem lc_fm {gc : List (Str × D)} {Γ : Gm} {ws : List Nat} {t : CT} {ifs : CP} {el : CE} {xs : List D} {e : Sl} {k : List D → Sl → Prop} {α : Type} (zs : List α) (g : α → D) (f : α → Option D) (E0 : Sl)
    (hx : xs = zs.map g) (hE : wipeE e ws = E0) (hn : noOwn e ws = true) (hs : ∀ z ∈ zs, T1 gc Γ ws t ifs el (g z) E0 fun r e' => r = f z ∧ e' = E0) (hk : k (zs.filterMap f) (backE e E0 ws)) : Lc gc Γ ws t ifs el xs e k := by
  subst hx hE
  refine lc_inv (fun i acc e' => acc = (zs.take i).filterMap f ∧ e' = wipeE e ws) hn ⟨rfl, rfl⟩ ?_ ?_
  · rintro i x acc e' hx ⟨rfl, rfl⟩
    rw [List.getElem?_map] at hx
    cases q : zs[i]? with
    | none =>
      rw [q] at hx
      cases hx
    | some z =>
      rw [q] at hx
      cases hx
      have h := hs z (List.mem_of_getElem? q)
      refine T1_mono h fun r e' hr => ?_
      obtain ⟨rfl, rfl⟩ := hr
      refine ⟨?_, rfl⟩
      rw [List.take_add_one, q, List.filterMap_append]
      congr 1
  · rintro acc e1 ⟨rfl, rfl⟩
    rw [List.length_map, List.take_length]
    exact hk
theorem fm_some {α β : Type} {f : α → β} : ∀ zs : List α, (zs.filterMap fun z => some (f z)) = zs.map f
  | [] => rfl
  | z :: zs => by
    rw [List.filterMap_cons, fm_some zs]
    rfl
theorem fm_if {α β : Type} {p : α → Bool} {f : α → β} : ∀ zs : List α, (zs.filterMap fun z => if p z then some (f z) else none) = (zs.filter p).map f
  | [] => rfl
  | z :: zs => by
    rw [List.filterMap_cons, fm_if zs, List.filter_cons]
    cases h : p z <;> simp
theorem fm_bool {α : Type} {zs : List α} {f : α → Bool} : (zs.filterMap fun z => some (PyData.bool (f z))) = boolL (zs.map f) := by
  rw [fm_some, boolL, List.map_map]
  rfl
theorem fm_int {α : Type} {zs : List α} {f : α → Int} : (zs.filterMap fun z => some (PyData.int (f z))) = intL (zs.map f) := by
  rw [fm_some, intL, List.map_map]
  rfl
theorem fm_ifint {α : Type} {zs : List α} {p : α → Bool} {f : α → Int} : (zs.filterMap fun z => if p z then some (PyData.int (f z)) else none) = intL ((zs.filter p).map f) := by
  rw [fm_if, intL, List.map_map]
  rfl
theorem at_int {xs : List D} {i : Int} {x : D} {k} (h0 : 0 ≤ i) (h : xs[i.toNat]? = some x) : At xs i k = k x := by
  obtain ⟨j, rfl⟩ := Int.eq_ofNat_of_zero_le h0
  exact at_nat (by simpa using h)
theorem at_ints' {xs : List Int} {i : Int} {k} (h0 : 0 ≤ i) (h : i < xs.length) : At (intL xs) i k = k (.int ((xs[i.toNat]?).getD 0)) := by
  have hl : i.toNat < xs.length := by omega
  refine at_int h0 ?_
  unfold intL
  rw [List.getElem?_map, List.getElem?_eq_getElem hl]
  rfl
theorem at_bools {xs : List Bool} {i : Int} {k} (h0 : 0 ≤ i) (h : i < xs.length) : At (boolL xs) i k = k (.bool ((xs[i.toNat]?).getD false)) := by
  have hl : i.toNat < xs.length := by omega
  refine at_int h0 ?_
  unfold boolL
  rw [List.getElem?_map, List.getElem?_eq_getElem hl]
  rfl
theorem intL_len {xs : List Int} : (intL xs).length = xs.length := List.length_map _
theorem boolL_len {xs : List Bool} : (boolL xs).length = xs.length := List.length_map _
theorem intL_snoc {xs : List Int} {i : Int} : intL xs ++ [.int i] = intL (xs ++ [i]) := by
  unfold intL
  rw [List.map_append]
  rfl
theorem boolL_snoc {xs : List Bool} {i : Bool} : boolL xs ++ [.bool i] = boolL (xs ++ [i]) := by
  unfold boolL
  rw [List.map_append]
  rfl
theorem sizeL : (sizeLine : Int) = 16777216 := by rw [sizeLine_eq]; rfl
theorem sizeN : sizeLine = 16777216 := sizeLine_eq
theorem mem_range {lo : Int} {m i : Nat} {x : D} (h : (rangeD lo m)[i]? = some x) : i < m ∧ x = .int (lo + i) := range_get h
/-- an argument of either kind -/
def ownU (o : Fo) (i : Nat) (u : List Nat) : List Nat := match o with
  | .d _ => u
  | .l _ => i :: u
@[simp ↓] theorem aop_f {i : Nat} {o : Fo} {as : List AV} {e : Sl} {u : List Nat} {k} (h : i ∉ u) : aop i o.o as e u k = ao as e (ownU o i u) fun os => k (o.o :: os) := by
  cases o with
  | d x => rfl
  | l xs => exact aop_l h
@[simp] theorem ownU_mem {o : Fo} {i j : Nat} {u : List Nat} (h1 : ¬ j = i) (h2 : j ∉ u) : (j ∈ ownU o i u) = False := by
  cases o with
  | d x => exact eq_false h2
  | l xs => exact eq_false (by simp [ownU, h1, h2])
@[simp ↓] theorem po1_same {o : Fo} {e : Sl} {k} : po1 (.pl 0) o.o o.o (some o.o :: e) k = k (some o.o :: e) := by
  cases o <;> rfl
@[simp ↓] theorem po1_os {i : Nat} {o : Fo} {w : O} {u : Option O} {e : Sl} {k} : po1 (.pl (i + 1)) o.o w (u :: e) k = po1 (.pl i) o.o w e fun e => k (u :: e) := by
  cases o <;> rfl
@[simp ↓] theorem oo_o {o : Fo} {os : List O} {e : Sl} {k} : oo (o.o :: os) (some o.o :: e) k = oo os e fun outs => k (o.o :: outs) := by
  cases o with
  | d x => exact oo_d
  | l xs => exact oo_ll
@[simp ↓] theorem rg1_nat {n : Nat} {k} (h : n ≤ 1000000) : Rg1 (n : Int) k = k (rangeD 0 n) := by
  unfold Rg1
  rw [sizeL, eq_true (by omega : (n : Int) ≤ 16777216 ∧ -(2 ^ 62) ≤ (n : Int)), true_and, Int.toNat_natCast]
@[simp ↓] theorem rg1_nat1 {n : Nat} {k} (h : n ≤ 1000000) : Rg1 ((n : Int) + 1) k = k (rangeD 0 (n + 1)) := by
  have := rg1_nat (n := n + 1) (k := k)
  unfold Rg1
  rw [sizeL, eq_true (by omega : (n : Int) + 1 ≤ 16777216 ∧ -(2 ^ 62) ≤ (n : Int) + 1), true_and]
  rfl
@[simp ↓] theorem rg_nat1 {n : Nat} {k} (h : n ≤ 1000000) : Rg 1 ((n : Int) + 1) k = k (rangeD 1 n) := by
  unfold Rg
  rw [sizeL, eq_true (by omega : ((-(2 ^ 62) ≤ (1 : Int) ∧ (1 : Int) < 2 ^ 62) ∧ (-(2 ^ 62) ≤ (n : Int) + 1 ∧ (n : Int) + 1 < 2 ^ 62) ∧ (n : Int) + 1 - 1 ≤ 16777216)), true_and, show ((n : Int) + 1 - 1).toNat = n by omega]
theorem range_map {lo : Int} {n : Nat} : rangeD lo n = (List.range n).map fun i : Nat => PyData.int (lo + i) := rfl
@[simp] theorem ownO_d {d : D} : ownO (.d d) = false := rfl
@[simp] theorem ownO_l {xs : List D} : ownO (.ol xs) = true := rfl
@[simp] theorem isOwn_n : isOwn none = false := rfl
@[simp] theorem isOwn_d {d : D} : isOwn (some (.d d)) = false := rfl
theorem boolL_one {n : Nat} {f : Nat → Bool} : boolL ((List.range n).map f) ++ [.bool (f n)] = boolL ((List.range (n + 1)).map f) := by
  rw [boolL_snoc, List.range_succ, List.map_append]
  rfl
theorem intL_one {n : Nat} {f : Nat → Int} : intL ((List.range n).map f) ++ [.int (f n)] = intL ((List.range (n + 1)).map f) := by
  rw [intL_snoc, List.range_succ, List.map_append]
  rfl
theorem nice_parts : ∀ {xs : List D} {k m : Nat}, PyData.canLayAll0 xs = true → PyData.showableAll xs = true → PyData.depthAll xs ≤ k → mxs xs ≤ m → (∀ x ∈ xs, Nice x k m) ∧ 2 * xs.length ≤ m
  | [], _, _, _, _, _, _ => ⟨fun _ h => (nomatch h), Nat.zero_le _⟩
  | x :: xs, k, m, h1, h2, h3, h4 => by
    simp only [PyData.canLayAll0, Bool.and_eq_true] at h1
    simp only [PyData.showableAll, Bool.and_eq_true] at h2
    simp only [PyData.depthAll] at h3
    simp only [mxs] at h4
    obtain ⟨i1, i2⟩ := nice_parts (xs := xs) (k := k) (m := m - (mx x + 2)) h1.2 h2.2 (by omega) (by omega)
    refine ⟨fun y hy => ?_, by simp only [List.length_cons]; omega⟩
    rcases List.mem_cons.mp hy with rfl | hy
    · exact ⟨h1.1, h2.1, by omega, by omega⟩
    · exact (i1 y hy).mono (Nat.le_refl _) (by omega)
theorem nice_items {xs : List D} {k m : Nat} (h : Nice (.list xs) k m ∨ Nice (.tuple xs) k m) : ∃ k', k = k' + 1 ∧ (∀ x ∈ xs, Nice x k' m) ∧ 2 * xs.length ≤ m := by
  rcases h with h | h
  · have h1 := h.lay
    have h2 := h.sho
    have h3 := h.dep
    have h4 := h.siz
    simp only [PyData.canLay0] at h1
    simp only [PyData.showable] at h2
    simp only [PyData.depth] at h3
    simp only [mx] at h4
    obtain ⟨i1, i2⟩ := nice_parts (k := k - 1) (m := m) h1 h2 (by omega) (by omega)
    exact ⟨k - 1, by omega, i1, i2⟩
  · have h1 := h.lay
    have h2 := h.sho
    have h3 := h.dep
    have h4 := h.siz
    simp only [PyData.canLay0] at h1
    simp only [PyData.showable] at h2
    simp only [PyData.depth] at h3
    simp only [mx] at h4
    obtain ⟨i1, i2⟩ := nice_parts (k := k - 1) (m := m) h1 h2 (by omega) (by omega)
    exact ⟨k - 1, by omega, i1, i2⟩
@[simp ↓] theorem tkp_o {o : Fo} {e : Sl} {k} : tkp 0 (some o.o :: e) k = k o.dd (some (.d o.dd) :: e) := by
  cases o <;> rfl
theorem range_ints {n : Nat} : rangeD 0 n = intL ((List.range n).map fun i : Nat => (i : Int)) := by
  unfold rangeD intL
  rw [List.map_map]
  apply List.map_congr_left
  intro i _
  simp
theorem nice_intL {xs : List Int} {m l : Nat} (h : ∀ x ∈ xs, -1000 ≤ x ∧ x ≤ 1000) (hl : xs.length ≤ l) (hm : 1923 * l + 3 ≤ m) : Nice (.list (intL xs)) 1 m ∧ Nice (.tuple (intL xs)) 1 m := by
  have hx : ∀ x ∈ intL xs, Nice x 0 1921 := fun x hx => by
    obtain ⟨i, hi, rfl⟩ := List.mem_map.mp hx
    have := h i hi
    refine nice_int (small_of (Nat.lt_of_le_of_lt (m := 1000) (by omega) ?_)) (Nat.le_refl _)
    exact Nat.lt_of_lt_of_le (m := 2 ^ 10) (by decide) (Nat.pow_le_pow_right (by decide) (by decide))
  have hll : (1921 + 2) * (intL xs).length ≤ 1923 * l := Nat.mul_le_mul_left _ (by rw [intL_len]; exact hl)
  exact ⟨nice_list hx (by omega), nice_tuple hx (by omega)⟩
theorem get_intL {l : List Int} {j : Nat} {x : D} (h : (intL l)[j]? = some x) : ∃ i, i ∈ l ∧ x = .int i := by
  unfold intL at h
  rw [List.getElem?_map] at h
  cases q : l[j]? with
  | none =>
    rw [q] at h
    cases h
  | some i =>
    rw [q] at h
    cases h
    exact ⟨i, List.mem_of_getElem? q, rfl⟩
theorem small_1000 {i : Int} (h1 : -1000 ≤ i) (h2 : i ≤ 1000) : smallInt i = true :=
  small_of (Nat.lt_of_le_of_lt (m := 1000) (by omega) (Nat.lt_of_lt_of_le (m := 2 ^ 10) (by decide) (Nat.pow_le_pow_right (by decide) (by decide))))
@[simp ↓] theorem at_intL0 {a : Int} {l : List Int} {k} : At (intL (a :: l)) 0 k = k (.int a) := at_0
end Y

/-! V3: texts as lists of signs. -/
namespace Y
open PySem L2
/-- the text of these signs -/
def S (l : List Nat) : Str := ⟨l.toArray⟩
theorem S_cps {l : List Nat} : (S l).cps.toList = l := by simp [S]
theorem S_len {l : List Nat} : (S l).length = l.length := by simp [S, Str.length]
theorem S_of (x : Str) : x = S x.cps.toList := by
  cases x
  simp [S]
theorem S_app {a b : List Nat} : S a ++ S b = S (a ++ b) := by
  have h : (S a ++ S b).cps.toList = a ++ b := by
    rw [Str.cps_append]
    simp [S]
  rw [S_of (S a ++ S b), h]
theorem S_inj {a b : List Nat} : (S a = S b) = (a = b) := by
  apply propext
  constructor
  · intro h
    rw [← S_cps (l := a), h, S_cps]
  · rintro rfl
    rfl
theorem S_cut {l : List Nat} {lo hi : Option Int} : cutS (S l) lo hi = S ((l.drop (HT.sIx l.length 0 lo)).take (HT.sIx l.length l.length hi - HT.sIx l.length 0 lo)) := by
  unfold cutS
  simp [S, Str.length]
theorem S_dec {a b : List Nat} : decide (S a = S b) = decide (a = b) := by
  by_cases h : a = b
  · subst h
    simp
  · have h2 : ¬ S a = S b := by
      rw [S_inj]
      exact h
    simp [h, h2]
@[simp ↓ high] theorem cm_eqSS {a b : List Nat} {k} : Cm .eq (.str (S a)) (.str (S b)) k = k (decide (a = b)) := by
  rw [cm_eqS, S_dec]
@[simp ↓ high] theorem cm_neSS {a b : List Nat} {k} : Cm .ne (.str (S a)) (.str (S b)) k = k (!decide (a = b)) := by
  rw [cm_neS, S_dec]
theorem ix_S {l : List Nat} {i : Nat} {k} (hz : l.length ≤ 16777216) (h : i < l.length) : Ix (.str (S l)) (.int (i : Int)) k = k (.str (S [(l[i]?).getD 0])) := by
  have e : (S l).cps.toList[i]? = some ((l[i]?).getD 0) := by
    rw [S_cps, List.getElem?_eq_getElem h]
    rfl
  have a : L2.atI (S l).cps.toList (i : Int) = some ((l[i]?).getD 0) := by
    unfold L2.atI L2.ixN
    rw [if_pos (by omega), if_pos (by rw [S_cps]; omega)]
    show (S l).cps.toList[((i : Int)).toNat]? = _
    rw [Int.toNat_natCast, e]
  show Wo (if (S l).length ≤ sizeLine then (L2.atI (S l).cps.toList (i : Int)).map fun c => PyData.str ⟨#[c]⟩ else none) k = _
  rw [if_pos (by rw [S_len, sizeN]; exact hz), a]
  rfl
@[simp ↓] theorem bt_lenS {l : List Nat} {k} (hz : l.length ≤ 16777216) : Bt .len (.str (S l)) k = k (.d (.int l.length)) := by
  show Wo (if (S l).length ≤ sizeLine then some (O.d (.int (S l).length)) else none) k = _
  rw [if_pos (by rw [S_len, sizeN]; exact hz), S_len]
  rfl
@[simp ↓] theorem bn_catS {a b : List Nat} {k} (hz : a.length + b.length ≤ 16777216) : Bn .add (.str (S a)) (.str (S b)) k = k (.d (.str (S (a ++ b)))) := by
  rw [bn_cat (by rw [S_len, S_len, sizeN]; exact hz), S_app]
@[simp ↓] theorem aug_catS {a b : List Nat} {k} (hz : a.length + b.length ≤ 16777216) : Aug .add (.str (S a)) (.str (S b)) k = k (.str (S (a ++ b))) := by
  rw [aug_cat (by rw [S_len, S_len, sizeN]; exact hz), S_app]
theorem sc_S {l : List Nat} {lo hi : Option Int} {k} (hz : l.length ≤ 16777216) : Sc (.str (S l)) lo hi k = k (.d (.str (S ((l.drop (HT.sIx l.length 0 lo)).take (HT.sIx l.length l.length hi - HT.sIx l.length 0 lo))))) := by
  rw [sc_s (by rw [S_len, sizeN]; exact hz), S_cut]
@[simp ↓ high] theorem is_S {l : List Nat} {k} (hz : l.length ≤ 16777216) : Is_ (.str (S l)) k = k (l.map fun c => .str (S [c])) := by
  rw [is_s (by rw [S_len, sizeN]; exact hz), S_cps]
  rfl
@[simp ↓] theorem bt_ordS {c : Nat} {k} : Bt .ord (.str (S [c])) k = k (.d (.int c)) := by
  show Wo (if (S [c]).length = 1 then some (O.d (.int ((S [c]).cps.getD 0 0 : Nat))) else none) k = _
  rw [if_pos (by rw [S_len]; rfl)]
  rfl
@[simp ↓] theorem cm_inS {c : Nat} {l : List Nat} {k} : Cm .inn (.str (S [c])) (.str (S l)) k = k (decide (c ∈ l)) := by
  show Wo (signIn (S [c]) (S l)) k = _
  unfold signIn
  rw [S_cps, S_cps]
  rfl
@[simp ↓] theorem cm_ninS {c : Nat} {l : List Nat} {k} : Cm .nin (.str (S [c])) (.str (S l)) k = k (!decide (c ∈ l)) := by
  show Wo ((signIn (S [c]) (S l)).map (!·)) k = _
  unfold signIn
  rw [S_cps, S_cps]
  rfl
theorem beqS {a b : List Nat} : (S a == S b) = decide (a = b) := by
  rw [← S_dec]
  rfl
/-- not in a pair of texts -/
@[simp ↓] theorem cm_nin2 {a b c : List Nat} {k} : Cm .nin (.str (S a)) (.tuple [.str (S b), .str (S c)]) k = k (!(decide (b = a) || decide (c = a))) := by
  show Wo ((if flatD (.str (S a)) && [PyData.str (S b), .str (S c)].all flatD then some ([PyData.str (S b), .str (S c)].any fun z => PyData.eqv z (.str (S a))) else none).map (!·)) k = _
  have h : ([PyData.str (S b), .str (S c)].any fun z => PyData.eqv z (.str (S a))) = (decide (b = a) || decide (c = a)) := by
    simp only [List.any_cons, List.any_nil, Bool.or_false, PyData.eqv, beqS]
  rw [h]
  rfl
theorem join_S {xs : List (List Nat)} : Str.join (S []) (xs.map S) = S xs.flatten := by
  have h : ∀ xs : List (List Nat), Str.join (S []) (xs.map S) = S xs.flatten := by
    intro xs
    induction xs with
    | nil => rfl
    | cons a xs ih =>
      cases xs with
      | nil =>
        show S a = S ([a].flatten)
        simp
      | cons b xs =>
        show S a ++ S [] ++ Str.join (S []) ((b :: xs).map S) = _
        rw [ih, S_app, S_app]
        simp
  exact h xs
theorem nice_S {l : List Nat} {k m : Nat} (h : ∀ c ∈ l, c < 128) (hm : 10 * l.length + 2 ≤ m) : Nice (.str (S l)) k m := by
  refine ⟨?_, rfl, Nat.zero_le _, ?_⟩
  · have e : PyData.canLay0 (.str (S l)) = (l.toArray.all (· < 0x110000)) := by
      simp only [PyData.canLay0]
      rfl
    rw [e, List.all_toArray, List.all_eq_true]
    intro c hc
    have := h c hc
    exact decide_eq_true (by omega)
  · simp only [mx]
    have := PySem.StrLaws.reprText_len (S l) (fun c hc => by
      rw [S_cps] at hc
      have := h c hc
      exact Nat.lt_trans this (by decide))
    rw [S_len] at this
    omega
end Y

/-! V4: further rules: lists joined, index, enumerate, insert, raise, try. -/
namespace Y
open PySem L2
section
variable {gc : List (Str × D)} {Γ : Gm} {e e' : Sl} {a b c : CE} {es : CEs} {α β : Type} {x : AV} {o : O} {d p q : D} {i n : Nat} {ow : List Bool} {kx : Ex → Sl → Prop} {kn kb kc : Sl → Prop} {kr : O → Sl → Prop}
theorem bn_catL {xs ys : List D} {k} (h : xs.length + ys.length ≤ sizeLine) : Bn .add (.list xs) (.list ys) k = k (.ol (xs ++ ys)) := by
  show Wo (if xs.length + ys.length ≤ sizeLine then some (O.ol (xs ++ ys)) else none) k = _
  rw [if_pos h]
  rfl
@[simp ↓] theorem bt_strS {x : Str} {k} : Bt .str (.str x) k = k (.d (.str x)) := rfl
def Ls (p : D) (A : List D → Prop) : Prop := match p with
  | .list xs => A xs
  | _ => False
@[simp ↓] theorem ls_l {xs : List D} {A} : Ls (.list xs) A = A xs := rfl
def Lx (p q : D) (k : D → Prop) : Prop := Wo (lixD p q) k
theorem lx_l {xs : List D} {q : D} {m : Nat} {k} (h1 : PySem.SeqAt.shaped (.list xs) = true) (h2 : PySem.SeqAt.shaped q = true) (h : idxD q xs = some m) : Lx (.list xs) q k = k (.int m) := by
  show Wo (if PySem.SeqAt.shaped (.list xs) && PySem.SeqAt.shaped q then (idxD q xs).map fun (n : Nat) => PyData.int n else none) k = _
  rw [h1, h2, h]
  rfl
@[simp ↓] theorem we_lix {k} : We gc Γ kx (.lix a b) e k = We gc Γ kx a e fun x e => Se x e fun x e => dt x e fun p => Ls p fun _ => We gc Γ kx b e fun y e => dt x e fun p => dt y e fun q => Lx p q fun r => k (.tm (.d r)) e := by
  show R.wp ((evE gc Γ a e).bind fun x e => R.set x e fun x e => match x.dat e with
    | some (.list _) => (evE gc Γ b e).bind fun y e => match x.dat e, y.dat e with
      | some p, some q => (R.of (lixD p q) e).bind fun r e => .ok (.tm (.d r)) e
      | _, _ => .bad
    | _ => .bad) kx k = _
  rw [wp_bind]
  show R.wp _ _ _ = R.wp _ _ _
  congr 1
  funext x e
  rw [wp_set]
  show Wo _ _ = Wo _ _
  congr 1
  funext p
  obtain ⟨x, e⟩ := p
  show R.wp (match x.dat e with
    | some (.list _) => (evE gc Γ b e).bind fun y e => match x.dat e, y.dat e with
      | some p, some q => (R.of (lixD p q) e).bind fun r e => .ok (.tm (.d r)) e
      | _, _ => .bad
    | _ => .bad) kx k = dt x e _
  unfold dt
  cases x.dat e with
  | none => rfl
  | some u =>
    cases u <;> try rfl
    show R.wp ((evE gc Γ b e).bind fun y e => match x.dat e, y.dat e with
      | some p, some q => (R.of (lixD p q) e).bind fun r e => .ok (.tm (.d r)) e
      | _, _ => .bad) kx k = R.wp _ _ _
    rw [wp_bind]
    show R.wp _ _ _ = R.wp _ _ _
    congr 1
    funext y e
    cases x.dat e with
    | none => rfl
    | some p =>
      cases y.dat e with
      | none => rfl
      | some q =>
        show R.wp ((R.of (lixD p q) e).bind fun r e => .ok (.tm (.d r)) e) kx k = Wo (lixD p q) _
        rw [wp_bind, wp_of]
        rfl
def enumD (xs : List D) : List D := xs.mapIdx fun i y => .tuple [.int (i : Nat), y]
@[simp ↓] theorem wi_en {k} : Wi gc Γ kx (.en a) e k = We gc Γ kx a e fun x e => tk x e fun d e => Ls d fun xs => k (enumD xs) e := by
  show R.wp ((evE gc Γ a e).bind fun x e => match take x e with
    | some (.list xs, e) => .ok (xs.mapIdx fun i y => .tuple [.int (i : Nat), y]) e
    | _ => .bad) kx k = _
  rw [wp_bind]
  show R.wp _ _ _ = R.wp _ _ _
  congr 1
  funext x e
  unfold tk
  cases take x e with
  | none => rfl
  | some p =>
    obtain ⟨d, e1⟩ := p
    cases d <;> rfl
def ins_ (i : Nat) (j : Int) (d : D) (e : Sl) (k : Sl → Prop) : Prop := match (e[i]?).join with
  | some (.ol xs) => (xs.length < sizeLine ∧ 0 ≤ j ∧ j < 2 ^ 63) ∧ k (e.set i (some (.ol (xs.take j.toNat ++ [d] ++ xs.drop j.toNat))))
  | _ => False
theorem ins_0 {xs : List D} {j : Int} {k} (h : xs.length < sizeLine ∧ 0 ≤ j ∧ j < 2 ^ 63) : ins_ 0 j d (some (.ol xs) :: e) k = k (some (.ol (xs.take j.toNat ++ [d] ++ xs.drop j.toNat)) :: e) := by
  show (_ ∧ _) = _
  rw [eq_true h, true_and]
  rfl
@[simp ↓] theorem ins_s {u : Option O} {j : Int} {k} : ins_ (i + 1) j d (u :: e) k = ins_ i j d e fun e => k (u :: e) := rfl
@[simp ↓] theorem ws_ins : Ws gc Γ kx ow (.ins i b a) e kn kr kb kc = own_ i e (We gc Γ kx b e fun y e => Se y e fun y e => We gc Γ kx a e fun x e => dt y e fun j => In_ j fun j => tk x e fun d e => ins_ i j d e kn) := by
  show Fl.wp (if isOl ((e[i]?).join) = true then Fl.of (evE gc Γ b e) fun y e => R.setF y e fun y e => Fl.of (evE gc Γ a e) fun x e => match y.dat e with
      | some (.int j) => match take x e with
        | some (d, e) => match (e[i]?).join with
          | some (.ol xs) => if xs.length < sizeLine ∧ 0 ≤ j ∧ j < 2 ^ 63 then .nx (e.set i (some (.ol (xs.take j.toNat ++ [d] ++ xs.drop j.toNat)))) else .bad
          | _ => .bad
        | none => .bad
      | _ => .bad
    else .bad) kx kn kr kb kc = (_ ∧ _)
  by_cases h : isOl ((e[i]?).join) = true
  · rw [if_pos h, eq_true h, true_and, fl_of]
    show R.wp _ _ _ = R.wp _ _ _
    congr 1
    funext y e
    rw [fl_set]
    show Wo _ _ = Wo _ _
    congr 1
    funext p
    obtain ⟨y, e⟩ := p
    show Fl.wp _ kx kn kr kb kc = _
    rw [fl_of]
    show R.wp _ _ _ = R.wp _ _ _
    congr 1
    funext x e
    unfold dt
    cases y.dat e with
    | none => rfl
    | some yd =>
      cases yd <;> try rfl
      rename_i j
      show Fl.wp (match take x e with
        | some (d, e) => match (e[i]?).join with
          | some (.ol xs) => if xs.length < sizeLine ∧ 0 ≤ j ∧ j < 2 ^ 63 then .nx (e.set i (some (.ol (xs.take j.toNat ++ [d] ++ xs.drop j.toNat)))) else .bad
          | _ => .bad
        | none => .bad) kx kn kr kb kc = tk x e fun d e => ins_ i j d e kn
      unfold tk ins_
      cases take x e with
      | none => rfl
      | some p =>
        obtain ⟨d, e1⟩ := p
        show Fl.wp (match (e1[i]?).join with
          | some (.ol xs) => if xs.length < sizeLine ∧ 0 ≤ j ∧ j < 2 ^ 63 then .nx (e1.set i (some (.ol (xs.take j.toNat ++ [d] ++ xs.drop j.toNat)))) else .bad
          | _ => .bad) kx kn kr kb kc = (match (e1[i]?).join with
          | some (.ol xs) => (xs.length < sizeLine ∧ 0 ≤ j ∧ j < 2 ^ 63) ∧ kn (e1.set i (some (.ol (xs.take j.toNat ++ [d] ++ xs.drop j.toNat))))
          | _ => False)
        cases (e1[i]?).join with
        | none => rfl
        | some o =>
          cases o <;> try rfl
          · rename_i xs
            show Fl.wp (if xs.length < sizeLine ∧ 0 ≤ j ∧ j < 2 ^ 63 then _ else _) kx kn kr kb kc = (_ ∧ _)
            by_cases z : xs.length < sizeLine ∧ 0 ≤ j ∧ j < 2 ^ 63
            · rw [if_pos z, eq_true z, true_and]
              rfl
            · rw [if_neg z, eq_false z, false_and]
              rfl
  · rw [if_neg h, eq_false h, false_and]
    rfl
@[simp ↓] theorem ws_rse {c : Nat} : Ws gc Γ kx ow (.rse c es) e kn kr kb kc = Wes gc Γ kx es e fun xs e => tks xs e fun ds e => exArgs ds = true ∧ kx ⟨c, ds⟩ e := by
  show Fl.wp (Fl.of (evEs gc Γ es e) fun xs e => match takes xs e with
    | some (ds, e) => if exArgs ds then .ex ⟨c, ds⟩ e else .bad
    | none => .bad) kx kn kr kb kc = R.wp _ _ _
  rw [fl_of]
  congr 1
  funext xs e
  unfold tks
  cases takes xs e with
  | none => rfl
  | some p =>
    obtain ⟨ds, e1⟩ := p
    show Fl.wp (if exArgs ds then .ex ⟨c, ds⟩ e1 else .bad) kx kn kr kb kc = (_ ∧ _)
    by_cases z : exArgs ds = true
    · rw [if_pos z, eq_true z, true_and]
      rfl
    · rw [if_neg z, eq_false z, false_and]
      rfl
def Tr (ow : List Bool) (i : Option Nat) (h : HX) (x : Ex) (e : Sl) (kr : O → Sl → Prop) : Prop := (∀ j, i = some j → j < e.length ∧ ow[j]? ≠ some true ∧ (e[j]?).join.isNone = true) ∧ Wo (h.ev x) fun d => kr (.d d) e
theorem ws_try {s : CSs} {cs : List Nat} {nm : Str} {j : Option Nat} {h : HX} : Ws gc Γ kx ow (.tryR s cs nm j h) e kn kr kb kc = Wss gc Γ (fun x e => Br (decide (x.c ∈ cs)) (Tr ow j h x e kr) (kx x e)) ow s e kn kr kb kc := by
  show Fl.wp (match evSs gc Γ ow s e with
    | .ex x e => if x.c ∈ cs then (match j with
        | some j => if j < e.length ∧ ow[j]? ≠ some true ∧ (e[j]?).join.isNone then (match h.ev x with
          | some d => .rt (.d d) e
          | none => .bad) else .bad
        | none => match h.ev x with
          | some d => .rt (.d d) e
          | none => .bad)
      else .ex x e
    | f => f) kx kn kr kb kc = Fl.wp _ _ _ _ _ _
  cases evSs gc Γ ow s e with
  | nx e1 => rfl
  | rt o e1 => rfl
  | bk e1 => rfl
  | ct e1 => rfl
  | bad => rfl
  | ex x e1 =>
    show Fl.wp (if x.c ∈ cs then _ else _) kx kn kr kb kc = Br (decide (x.c ∈ cs)) (Tr ow j h x e1 kr) (kx x e1)
    by_cases z : x.c ∈ cs
    · rw [if_pos z, decide_eq_true z, br_t]
      unfold Tr
      cases j with
      | none =>
        have t : (∀ j, (none : Option Nat) = some j → j < e1.length ∧ ow[j]? ≠ some true ∧ (e1[j]?).join.isNone = true) = True := eq_true fun j w => nomatch w
        rw [t, true_and]
        show Fl.wp (match h.ev x with | some d => .rt (.d d) e1 | none => .bad) kx kn kr kb kc = _
        cases h.ev x <;> rfl
      | some j =>
        have t : (∀ j', some j = some j' → j' < e1.length ∧ ow[j']? ≠ some true ∧ (e1[j']?).join.isNone = true) = (j < e1.length ∧ ow[j]? ≠ some true ∧ (e1[j]?).join.isNone = true) := propext ⟨fun w => w j rfl, fun w j' q => by cases q; exact w⟩
        rw [t]
        show Fl.wp (if j < e1.length ∧ ow[j]? ≠ some true ∧ (e1[j]?).join.isNone then (match h.ev x with | some d => .rt (.d d) e1 | none => .bad) else .bad) kx kn kr kb kc = _
        by_cases y : j < e1.length ∧ ow[j]? ≠ some true ∧ (e1[j]?).join.isNone = true
        · rw [if_pos y, eq_true y, true_and]
          cases h.ev x <;> rfl
        · rw [if_neg y, eq_false y, false_and]
          rfl
    · rw [if_neg z, decide_eq_false z, br_f]
      rfl
end
end Y

namespace K97
open PySem PySem.Spec PyProof.Rows L2 Y
def top (i : Nat) : Stmt := PySem.Challenge.pw_turnwise_k97_orders_read_and_written.main.body.getD i (.Pass ⟨0, 0, 0, 0⟩)
def gcs : List (Str × PyData) := [("BARE", (.tuple [(.str "books"), (.str "begin"), (.str "end"), (.str "drop")])), ("ASKED", (.tuple [(.str "text"), (.str "side"), (.str "moves"), (.str "turns"), (.str "sights"), (.str "good"), (.str "flat"), (.str "size"), (.str "paper")])), ("SMALL", (.str "abcdefghijklmnopqrstuvwxyz"))]
def tb : Tb := { fn := ["is_word", "number_of", "read_order", "read_orders", "write_order", "write_orders", "_law_cell", "_law_digits", "_law_draw", "_law_pick", "_law_same", "_law_is_word", "_law_number", "_law_asked", "_law_read", "_law_word", "_law_order", "_law_bent", "_law_text", "law"], gc := gcs, xs := [("BadOrder", ["line"])], xh := [("TurnError", [0]), ("BadOrder", [0])] }
def c_is_word : FD := { np := 1, ns := 2, body := (.cons (.ret (.and (.chn .le .le (.int 1) (.bi .len (.v 0)) (.int 8)) (.bi .all (.lc [1] (.nm 1) (.e (.v 0)) .no (.cmp .inn (.v 1) (.gl 2)))))) .nil) }
def c_number_of : FD := { np := 1, ns := 2, body := (.cons (.ifs (.or (.not (.chn .le .le (.int 1) (.bi .len (.v 0)) (.int 4))) (.not (.bi .all (.lc [1] (.nm 1) (.e (.v 0)) .no (.cmp .inn (.v 1) (.str "0123456789")))))) (.cons (.ret .non) .nil) .nil) (.cons (.ifs (.and (.cmp .gt (.bi .len (.v 0)) (.int 1)) (.cmp .eq (.ix (.v 0) (.int 0)) (.str "0"))) (.cons (.ret .non) .nil) .nil) (.cons (.ret (.bi .int (.v 0))) .nil))) }
def c_read_order : FD := { np := 1, ns := 3, body := (.cons (.asg 1 (.me .split (.v 0) (.str " "))) (.cons (.ifs (.and (.cmp .eq (.bi .len (.v 1)) (.int 1)) (.cmp .inn (.ix (.v 1) (.int 0)) (.gl 0))) (.cons (.ret (.tup (.cons (.ix (.v 1) (.int 0)) .nil))) .nil) .nil) (.cons (.ifs (.or (.cmp .lt (.bi .len (.v 1)) (.int 2)) (.not (.call 0 (.cons (.ix (.v 1) (.int 1)) .nil)))) (.cons (.ret .non) .nil) .nil) (.cons (.asg 2 (.ix (.v 1) (.int 0))) (.cons (.ifs (.and (.cmp .eq (.bi .len (.v 1)) (.int 2)) (.cmp .inn (.v 2) (.tup (.cons (.str "book") (.cons (.str "forget") (.cons (.str "undo") .nil)))))) (.cons (.ret (.tup (.cons (.v 2) (.cons (.ix (.v 1) (.int 1)) .nil)))) .nil) .nil) (.cons (.ifs (.and (.cmp .eq (.v 2) (.str "add")) (.cmp .gt (.bi .len (.v 1)) (.int 2))) (.cons (.ret (.tup (.cons (.str "add") (.cons (.ix (.v 1) (.int 1)) (.cons (.me .join (.str " ") (.sl (.v 1) (.yes (.int 2)) .no)) .nil))))) .nil) .nil) (.cons (.ifs (.and (.cmp .eq (.bi .len (.v 1)) (.int 3)) (.and (.cmp .eq (.v 2) (.str "take")) (.notN (.call 1 (.cons (.ix (.v 1) (.int 2)) .nil))))) (.cons (.ret (.tup (.cons (.str "take") (.cons (.ix (.v 1) (.int 1)) (.cons (.call 1 (.cons (.ix (.v 1) (.int 2)) .nil)) .nil))))) .nil) .nil) (.cons (.ifs (.and (.cmp .eq (.bi .len (.v 1)) (.int 3)) (.and (.cmp .eq (.v 2) (.str "ask")) (.cmp .inn (.ix (.v 1) (.int 2)) (.gl 1)))) (.cons (.ret (.tup (.cons (.str "ask") (.cons (.ix (.v 1) (.int 1)) (.cons (.ix (.v 1) (.int 2)) .nil))))) .nil) .nil) (.cons (.ifs (.and (.cmp .eq (.bi .len (.v 1)) (.int 3)) (.and (.cmp .inn (.v 2) (.tup (.cons (.str "copy") (.cons (.str "alike") .nil)))) (.call 0 (.cons (.ix (.v 1) (.int 2)) .nil)))) (.cons (.ret (.tup (.cons (.v 2) (.cons (.ix (.v 1) (.int 1)) (.cons (.ix (.v 1) (.int 2)) .nil))))) .nil) .nil) (.cons (.ret .non) .nil)))))))))) }
def c_read_orders : FD := { np := 1, ns := 5, body := (.cons (.asg 1 (.lst .nil)) (.cons (.ifs (.cmp .eq (.v 0) (.str "")) (.cons (.ret (.v 1)) .nil) .nil) (.cons (.for (.tp [2, 3]) (.en (.me .split (.v 0) (.str "\n"))) (.cons (.asg 4 (.call 2 (.cons (.v 3) .nil))) (.cons (.ifs (.isN (.v 4)) (.cons (.rse 0 (.cons (.bin .add (.v 2) (.int 1)) .nil)) .nil) .nil) (.cons (.app 1 (.v 4)) .nil)))) (.cons (.ret (.v 1)) .nil)))) }
def c_write_order : FD := { np := 1, ns := 2, body := (.cons (.ret (.me .join (.str " ") (.lc [1] (.nm 1) (.e (.v 0)) .no (.bi .str (.v 1))))) .nil) }
def c_write_orders : FD := { np := 1, ns := 2, body := (.cons (.ret (.me .join (.str "\n") (.lc [1] (.nm 1) (.e (.v 0)) .no (.call 4 (.cons (.v 1) .nil))))) .nil) }
def c__law_cell : FD := { np := 2, ns := 2, body := (.cons (.ifs (.cmp .lt (.v 1) (.bi .len (.v 0))) (.cons (.ret (.ix (.v 0) (.v 1))) .nil) .nil) (.cons (.ret (.int 0)) .nil)) }
def c__law_digits : FD := { np := 3, ns := 8, body := (.cons (.asg 3 (.lst .nil)) (.cons (.for (.nm 4) (.r2 (.v 1) (.v 2)) (.cons (.asg 5 (.call 6 (.cons (.v 0) (.cons (.v 4) .nil)))) (.cons (.ifs (.cmp .lt (.v 5) (.int 0)) (.cons (.asg 5 (.bin .sub (.int 1) (.bin .mul (.int 2) (.v 5)))) .nil) .nil) (.cons (.ifs (.cmp .ge (.v 5) (.bin .pow (.int 10) (.int 18))) (.cons (.for (.nm 6) (.r1 (.int 60)) (.cons (.ifs (.cmp .gt (.v 5) (.int 0)) (.cons (.app 3 (.bin .mod (.bi .int (.v 5)) (.int 1000))) (.cons (.asg 5 (.bin .fdiv (.v 5) (.int 1000))) .nil)) .nil) .nil)) .nil) (.cons (.asg 7 (.bin .mod (.bi .int (.bin .add (.bin .add (.bin .mul (.v 5) (.int 48271)) (.bin .mul (.v 4) (.int 69621))) (.int 11))) (.int 2147483647))) (.cons (.for (.nm 6) (.r1 (.int 12)) (.cons (.asg 7 (.bin .mod (.bi .int (.bin .add (.bin .add (.bin .mul (.v 7) (.int 16807)) (.bin .mul (.int 7) (.v 6))) (.int 1))) (.int 2147483647))) (.cons (.app 3 (.bin .mod (.bi .int (.bin .fdiv (.v 7) (.int 997))) (.int 1000))) .nil))) .nil))) .nil)))) (.cons (.ret (.v 3)) .nil))) }
def c__law_draw : FD := { np := 2, ns := 2, body := (.cons (.sti 0 (.int 1) (.bin .add (.ix (.v 0) (.int 1)) (.int 1))) (.cons (.ifs (.cmp .gt (.ix (.v 0) (.int 1)) (.bi .len (.ix (.v 0) (.int 0)))) (.cons (.ret (.bin .mod (.bi .int (.bin .add (.bin .mul (.ix (.v 0) (.int 1)) (.int 7)) (.int 3))) (.v 1))) .nil) .nil) (.cons (.ret (.bin .mod (.bi .int (.ix (.ix (.v 0) (.int 0)) (.bin .sub (.ix (.v 0) (.int 1)) (.int 1)))) (.v 1))) .nil))) }
def c__law_pick : FD := { np := 2, ns := 2, body := (.cons (.ret (.ix (.v 1) (.bin .mod (.bi .int (.call 8 (.cons (.v 0) (.cons (.int 1000) .nil)))) (.bi .len (.v 1))))) .nil) }
def c__law_same : FD := { np := 2, ns := 3, body := (.cons (.ifs (.isN (.v 1)) (.cons (.ret (.isN (.v 0))) .nil) .nil) (.cons (.ifs (.isB (.v 1) true) (.cons (.ret (.isB (.v 0) true)) .nil) .nil) (.cons (.ifs (.isB (.v 1) false) (.cons (.ret (.isB (.v 0) false)) .nil) .nil) (.cons (.ifs (.isi (.v 1) .str) (.cons (.ret (.and (.isi (.v 0) .str) (.cmp .eq (.bi .repr (.v 0)) (.bi .repr (.v 1))))) .nil) .nil) (.cons (.ifs (.isi (.v 1) .int) (.cons (.ret (.and (.isi (.v 0) .int) (.and (.not (.isi (.v 0) .bool)) (.cmp .eq (.bi .repr (.v 0)) (.bi .repr (.v 1)))))) .nil) .nil) (.cons (.ifs (.or (.and (.isi (.v 1) .tuple) (.not (.isi (.v 0) .tuple))) (.and (.isi (.v 1) .list) (.not (.isi (.v 0) .list)))) (.cons (.ret (.bl false)) .nil) .nil) (.cons (.ifs (.cmp .ne (.bi .len (.v 0)) (.bi .len (.v 1))) (.cons (.ret (.bl false)) .nil) .nil) (.cons (.for (.nm 2) (.r1 (.bi .len (.v 1))) (.cons (.ifs (.not (.call 10 (.cons (.ix (.v 0) (.v 2)) (.cons (.ix (.v 1) (.v 2)) .nil)))) (.cons (.ret (.bl false)) .nil) .nil) .nil)) (.cons (.ret (.bl true)) .nil))))))))) }
def c__law_is_word : FD := { np := 1, ns := 2, body := (.cons (.ret (.and (.chn .le .le (.int 1) (.bi .len (.v 0)) (.int 8)) (.cmp .eq (.lc [1] (.nm 1) (.e (.v 0)) (.yes (.cmp .nin (.v 1) (.str "abcdefghijklmnopqrstuvwxyz"))) (.v 1)) (.lst .nil)))) .nil) }
def c__law_number : FD := { np := 1, ns := 4, body := (.cons (.asg 2 (.and (.chn .le .le (.int 1) (.bi .len (.v 0)) (.int 4)) (.cmp .eq (.lc [1] (.nm 1) (.e (.v 0)) (.yes (.cmp .nin (.v 1) (.str "0123456789"))) (.v 1)) (.lst .nil)))) (.cons (.ifs (.or (.not (.v 2)) (.and (.cmp .eq (.ix (.v 0) (.int 0)) (.str "0")) (.cmp .gt (.bi .len (.v 0)) (.int 1)))) (.cons (.ret .non) .nil) .nil) (.cons (.asg 3 (.int 0)) (.cons (.for (.nm 1) (.e (.v 0)) (.cons (.asg 3 (.bin .add (.bin .mul (.v 3) (.int 10)) (.me .index (.str "0123456789") (.v 1)))) .nil)) (.cons (.ret (.v 3)) .nil))))) }
def c__law_asked : FD := { np := 0, ns := 0, body := (.cons (.ret (.lst (.cons (.str "text") (.cons (.str "side") (.cons (.str "moves") (.cons (.str "turns") (.cons (.str "sights") (.cons (.str "good") (.cons (.str "flat") (.cons (.str "size") (.cons (.str "paper") .nil))))))))))) .nil) }
def c__law_read : FD := { np := 1, ns := 4, body := (.cons (.asg 1 (.me .split (.v 0) (.str " "))) (.cons (.asgT [2, 3] (.cons (.ix (.v 1) (.int 0)) (.cons (.bi .len (.v 1)) .nil))) (.cons (.ifs (.cmp .eq (.v 3) (.int 1)) (.cons (.ret (.ifx (.cmp .inn (.v 2) (.lst (.cons (.str "books") (.cons (.str "begin") (.cons (.str "end") (.cons (.str "drop") .nil)))))) (.tup (.cons (.v 2) .nil)) .non)) .nil) .nil) (.cons (.ifs (.not (.call 11 (.cons (.ix (.v 1) (.int 1)) .nil))) (.cons (.ret .non) .nil) .nil) (.cons (.ifs (.and (.cmp .eq (.v 2) (.str "add")) (.cmp .gt (.v 3) (.int 2))) (.cons (.ret (.tup (.cons (.str "add") (.cons (.ix (.v 1) (.int 1)) (.cons (.sl (.v 0) (.yes (.bin .add (.bi .len (.ix (.v 1) (.int 1))) (.int 5))) .no) .nil))))) .nil) .nil) (.cons (.ifs (.and (.cmp .eq (.v 3) (.int 2)) (.cmp .inn (.v 2) (.lst (.cons (.str "book") (.cons (.str "forget") (.cons (.str "undo") .nil)))))) (.cons (.ret (.tup (.cons (.v 2) (.cons (.ix (.v 1) (.int 1)) .nil)))) .nil) .nil) (.cons (.ifs (.cmp .ne (.v 3) (.int 3)) (.cons (.ret .non) .nil) .nil) (.cons (.ifs (.cmp .eq (.v 2) (.str "take")) (.cons (.ret (.ifx (.isN (.call 12 (.cons (.ix (.v 1) (.int 2)) .nil))) .non (.tup (.cons (.str "take") (.cons (.ix (.v 1) (.int 1)) (.cons (.call 12 (.cons (.ix (.v 1) (.int 2)) .nil)) .nil)))))) .nil) .nil) (.cons (.ifs (.cmp .eq (.v 2) (.str "ask")) (.cons (.ret (.ifx (.cmp .inn (.ix (.v 1) (.int 2)) (.call 13 .nil)) (.tup (.cons (.str "ask") (.cons (.ix (.v 1) (.int 1)) (.cons (.ix (.v 1) (.int 2)) .nil)))) .non)) .nil) .nil) (.cons (.ifs (.cmp .inn (.v 2) (.lst (.cons (.str "copy") (.cons (.str "alike") .nil)))) (.cons (.ret (.ifx (.call 11 (.cons (.ix (.v 1) (.int 2)) .nil)) (.tup (.cons (.v 2) (.cons (.ix (.v 1) (.int 1)) (.cons (.ix (.v 1) (.int 2)) .nil)))) .non)) .nil) .nil) (.cons (.ret .non) .nil))))))))))) }
def c__law_word : FD := { np := 1, ns := 2, body := (.cons (.ret (.me .join (.str "") (.lc [1] (.nm 1) (.r1 (.call 9 (.cons (.v 0) (.cons (.lst (.cons (.int 1) (.cons (.int 2) (.cons (.int 3) (.cons (.int 5) (.cons (.int 8) .nil)))))) .nil)))) .no (.call 9 (.cons (.v 0) (.cons (.str "abcdefghijklmnopqrstuvwxyz") .nil)))))) .nil) }
def c__law_order : FD := { np := 1, ns := 3, body := (.cons (.asg 1 (.call 15 (.cons (.v 0) .nil))) (.cons (.asg 2 (.call 8 (.cons (.v 0) (.cons (.int 8) .nil)))) (.cons (.ifs (.cmp .eq (.v 2) (.int 0)) (.cons (.ret (.tup (.cons (.call 9 (.cons (.v 0) (.cons (.lst (.cons (.str "books") (.cons (.str "begin") (.cons (.str "end") (.cons (.str "drop") .nil))))) .nil))) .nil))) .nil) .nil) (.cons (.ifs (.cmp .eq (.v 2) (.int 1)) (.cons (.ret (.tup (.cons (.call 9 (.cons (.v 0) (.cons (.lst (.cons (.str "book") (.cons (.str "forget") (.cons (.str "undo") .nil)))) .nil))) (.cons (.v 1) .nil)))) .nil) .nil) (.cons (.ifs (.cmp .eq (.v 2) (.int 2)) (.cons (.ret (.tup (.cons (.str "take") (.cons (.v 1) (.cons (.call 9 (.cons (.v 0) (.cons (.lst (.cons (.int 0) (.cons (.int 1) (.cons (.int 10) (.cons (.int 9999) (.cons (.int 305) .nil)))))) .nil))) .nil))))) .nil) .nil) (.cons (.ifs (.cmp .eq (.v 2) (.int 3)) (.cons (.ret (.tup (.cons (.str "ask") (.cons (.v 1) (.cons (.call 9 (.cons (.v 0) (.cons (.call 13 .nil) .nil))) .nil))))) .nil) .nil) (.cons (.ifs (.cmp .lt (.v 2) (.int 6)) (.cons (.ret (.tup (.cons (.call 9 (.cons (.v 0) (.cons (.lst (.cons (.str "copy") (.cons (.str "alike") .nil))) .nil))) (.cons (.v 1) (.cons (.call 15 (.cons (.v 0) .nil)) .nil))))) .nil) .nil) (.cons (.ret (.tup (.cons (.str "add") (.cons (.v 1) (.cons (.call 9 (.cons (.v 0) (.cons (.lst (.cons (.str "all a.") (.cons (.str "need a -> b.") (.cons (.str " all a.") (.cons (.str "some b. ") (.cons (.str "") (.cons (.str " ") (.cons (.str "need  a. ask c") (.cons (.str "some x sees y z.") .nil))))))))) .nil))) .nil))))) .nil)))))))) }
def c__law_bent : FD := { np := 2, ns := 5, body := (.cons (.asg 2 (.me .split (.v 1) (.str " "))) (.cons (.asg 3 (.call 8 (.cons (.v 0) (.cons (.bi .len (.v 2)) .nil)))) (.cons (.asg 4 (.call 8 (.cons (.v 0) (.cons (.int 8) .nil)))) (.cons (.ifs (.cmp .eq (.v 4) (.int 0)) (.cons (.asg 2 (.bin .add (.sl (.v 2) .no (.yes (.v 3))) (.sl (.v 2) (.yes (.bin .add (.v 3) (.int 1))) .no))) .nil) (.cons (.ifs (.cmp .eq (.v 4) (.int 1)) (.cons (.asg 2 (.bin .add (.bin .add (.sl (.v 2) .no (.yes (.v 3))) (.lst (.cons (.ix (.v 2) (.v 3)) .nil))) (.sl (.v 2) (.yes (.v 3)) .no))) .nil) (.cons (.ifs (.cmp .eq (.v 4) (.int 2)) (.cons (.sti 2 (.v 3) (.call 9 (.cons (.v 0) (.cons (.lst (.cons (.str "") (.cons (.bin .add (.str "0") (.ix (.v 2) (.v 3))) (.cons (.bin .add (.str "-") (.ix (.v 2) (.v 3))) (.cons (.bin .add (.ix (.v 2) (.v 3)) (.str "0")) (.cons (.bin .add (.ix (.v 2) (.v 3)) (.str "\t")) .nil)))))) .nil)))) .nil) (.cons (.ifs (.cmp .eq (.v 4) (.int 3)) (.cons (.sti 2 (.v 3) (.call 9 (.cons (.v 0) (.cons (.lst (.cons (.str "9999") (.cons (.str "10000") (.cons (.str "0") (.cons (.str "01") (.cons (.str "-1") (.cons (.str "00") (.cons (.str "1x") .nil)))))))) .nil)))) .nil) (.cons (.ifs (.cmp .eq (.v 4) (.int 4)) (.cons (.sti 2 (.v 3) (.call 9 (.cons (.v 0) (.cons (.lst (.cons (.str "ask") (.cons (.str "add") (.cons (.str "take") (.cons (.str "tell") (.cons (.str "copy") (.cons (.str "alike") (.cons (.str "book") (.cons (.str "books") (.cons (.str "side") (.cons (.str "text") (.cons (.str "begin") .nil)))))))))))) .nil)))) .nil) (.cons (.ifs (.cmp .eq (.v 4) (.int 5)) (.cons (.sti 2 (.v 3) (.call 9 (.cons (.v 0) (.cons (.lst (.cons (.str "abcdefgh") (.cons (.str "abcdefghi") (.cons (.str "aB") (.cons (.str "a1") (.cons (.str "z") (.cons (.str "7") .nil))))))) .nil)))) .nil) (.cons (.ifs (.cmp .eq (.v 4) (.int 6)) (.cons (.ins 2 (.v 3) (.str "")) .nil) (.cons (.app 2 (.call 9 (.cons (.v 0) (.cons (.lst (.cons (.str "1") (.cons (.str "x") (.cons (.str "") (.cons (.str "3") .nil))))) .nil)))) .nil)) .nil)) .nil)) .nil)) .nil)) .nil)) .nil)) (.cons (.ret (.me .join (.str " ") (.v 2))) .nil))))) }
def c__law_text : FD := { np := 1, ns := 2, body := (.cons (.tryR (.cons (.ret (.tup (.cons (.str "told") (.cons (.call 3 (.cons (.v 0) .nil)) .nil)))) .nil) [0] "TurnError" (some 1) (.isi [0] "BadOrder" (.tup (.d (.str "wrong")) (.fld 0 0)) (.tup (.d (.str "other")) (.d (.int 0))))) .nil) }
def c_law : FD := { np := 1, ns := 14, body := (.cons (.asg 1 (.lst (.cons (.call 7 (.cons (.v 0) (.cons (.int 0) (.cons (.int 60) .nil)))) (.cons (.int 0) .nil)))) (.cons (.asg 3 (.lc [2] (.nm 2) (.r1 (.bin .add (.int 1) (.call 8 (.cons (.v 1) (.cons (.int 8) .nil))))) .no (.call 16 (.cons (.v 1) .nil)))) (.cons (.asg 6 (.lc [4] (.nm 4) (.e (.v 3)) .no (.me .join (.str " ") (.lc [5] (.nm 5) (.e (.v 4)) .no (.bi .str (.v 5)))))) (.cons (.for (.nm 7) (.r1 (.bi .len (.v 3))) (.cons (.ifs (.or (.not (.call 10 (.cons (.call 4 (.cons (.ix (.v 3) (.v 7)) .nil)) (.cons (.ix (.v 6) (.v 7)) .nil)))) (.not (.call 10 (.cons (.call 2 (.cons (.ix (.v 6) (.v 7)) .nil)) (.cons (.ix (.v 3) (.v 7)) .nil))))) (.cons (.ret (.bl false)) .nil) .nil) (.cons (.ifs (.cmp .ne (.call 14 (.cons (.ix (.v 6) (.v 7)) .nil)) (.ix (.v 3) (.v 7))) (.cons (.ret (.bl false)) .nil) .nil) (.cons (.for (.nm 2) (.r1 (.int 3)) (.cons (.asg 8 (.call 17 (.cons (.v 1) (.cons (.ix (.v 6) (.v 7)) .nil)))) (.cons (.ifs (.not (.call 10 (.cons (.call 2 (.cons (.v 8) .nil)) (.cons (.call 14 (.cons (.v 8) .nil)) .nil)))) (.cons (.ret (.bl false)) .nil) .nil) .nil))) .nil)))) (.cons (.asg 9 (.me .join (.str "\n") (.v 6))) (.cons (.ifs (.or (.not (.call 10 (.cons (.call 5 (.cons (.bi .list (.v 3)) .nil)) (.cons (.v 9) .nil)))) (.not (.call 10 (.cons (.call 18 (.cons (.v 9) .nil)) (.cons (.tup (.cons (.str "told") (.cons (.v 3) .nil))) .nil))))) (.cons (.ret (.bl false)) .nil) .nil) (.cons (.for (.nm 2) (.r1 (.int 3)) (.cons (.asg 11 (.lc [10] (.nm 10) (.e (.v 6)) .no (.ifx (.cmp .eq (.call 8 (.cons (.v 1) (.cons (.int 3) .nil))) (.int 0)) (.call 17 (.cons (.v 1) (.cons (.v 10) .nil))) (.v 10)))) (.cons (.asg 12 (.lc [10] (.nm 10) (.e (.v 11)) .no (.call 14 (.cons (.v 10) .nil)))) (.cons (.asg 13 (.ifx (.cmp .inn .non (.v 12)) (.tup (.cons (.str "wrong") (.cons (.bin .add (.lix (.v 12) .non) (.int 1)) .nil))) (.tup (.cons (.str "told") (.cons (.v 12) .nil))))) (.cons (.ifs (.and (.cmp .ne (.v 11) (.lst (.cons (.str "") .nil))) (.not (.call 10 (.cons (.call 18 (.cons (.me .join (.str "\n") (.v 11)) .nil)) (.cons (.v 13) .nil))))) (.cons (.ret (.bl false)) .nil) .nil) .nil))))) (.cons (.ifs (.not (.call 10 (.cons (.call 18 (.cons (.bin .add (.v 9) (.str "\n")) .nil)) (.cons (.tup (.cons (.str "wrong") (.cons (.bin .add (.bi .len (.v 6)) (.int 1)) .nil))) .nil)))) (.cons (.ret (.bl false)) .nil) .nil) (.cons (.ret (.call 10 (.cons (.call 18 (.cons (.str "") .nil)) (.cons (.tup (.cons (.str "told") (.cons (.lst .nil) .nil))) .nil)))) .nil))))))))) }
def code : List FD := [c_is_word, c_number_of, c_read_order, c_read_orders, c_write_order, c_write_orders, c__law_cell, c__law_digits, c__law_draw, c__law_pick, c__law_same, c__law_is_word, c__law_number, c__law_asked, c__law_read, c__law_word, c__law_order, c__law_bent, c__law_text, c_law]
def nms : List (List Str) := [["word", "letter"],
  ["word", "figure"],
  ["line", "words", "kind"],
  ["text", "found", "number", "line", "order"],
  ["order", "part"],
  ["orders", "order"],
  ["script", "k"],
  ["script", "first", "last", "digits", "k", "cell", "turn", "seed"],
  ["box", "many"],
  ["box", "row"],
  ["told", "due", "k"],
  ["word", "letter"],
  ["word", "sign", "fine", "worth"],
  [],
  ["text_row", "words", "kind", "many"],
  ["box", "k"],
  ["box", "one", "kind"],
  ["box", "text_row", "words", "at", "way"],
  ["text", "e"],
  ["script", "box", "turn", "orders", "order", "part", "lines", "k", "bent", "text", "text_row", "mixed", "told", "due"]]
def prm : List (List Str) := [["word"], ["word"], ["line"], ["text"], ["order"], ["orders"], ["script", "k"], ["script", "first", "last"], ["box", "many"], ["box", "row"], ["told", "due"], ["word"], ["word"], [], ["text_row"], ["box"], ["box"], ["box", "text_row"], ["text"], ["script"]]
def sts : List Stmt := [top 7, top 8, top 9, top 10, top 11, top 12, top 14, top 15, top 16, top 17, top 18, top 19, top 20, top 21, top 22, top 23, top 24, top 25, top 26, top 27]
theorem m_0 : mSs tb (nms.getD 0 []) (defScope (top 7)) c_is_word.body (defBody (top 7)) = true := by decide +kernel
theorem s_0 : FnScope (nms.getD 0 []) (prm.getD 0 []) (defScope (top 7)) := ⟨rfl, rfl, rfl, by decide +kernel, rfl, by decide +kernel, by decide +kernel⟩
theorem m_1 : mSs tb (nms.getD 1 []) (defScope (top 8)) c_number_of.body (defBody (top 8)) = true := by decide +kernel
theorem s_1 : FnScope (nms.getD 1 []) (prm.getD 1 []) (defScope (top 8)) := ⟨rfl, rfl, rfl, by decide +kernel, rfl, by decide +kernel, by decide +kernel⟩
theorem m_2 : mSs tb (nms.getD 2 []) (defScope (top 9)) c_read_order.body (defBody (top 9)) = true := by decide +kernel
theorem s_2 : FnScope (nms.getD 2 []) (prm.getD 2 []) (defScope (top 9)) := ⟨rfl, rfl, rfl, by decide +kernel, rfl, by decide +kernel, by decide +kernel⟩
theorem m_3 : mSs tb (nms.getD 3 []) (defScope (top 10)) c_read_orders.body (defBody (top 10)) = true := by decide +kernel
theorem s_3 : FnScope (nms.getD 3 []) (prm.getD 3 []) (defScope (top 10)) := ⟨rfl, rfl, rfl, by decide +kernel, rfl, by decide +kernel, by decide +kernel⟩
theorem m_4 : mSs tb (nms.getD 4 []) (defScope (top 11)) c_write_order.body (defBody (top 11)) = true := by decide +kernel
theorem s_4 : FnScope (nms.getD 4 []) (prm.getD 4 []) (defScope (top 11)) := ⟨rfl, rfl, rfl, by decide +kernel, rfl, by decide +kernel, by decide +kernel⟩
theorem m_5 : mSs tb (nms.getD 5 []) (defScope (top 12)) c_write_orders.body (defBody (top 12)) = true := by decide +kernel
theorem s_5 : FnScope (nms.getD 5 []) (prm.getD 5 []) (defScope (top 12)) := ⟨rfl, rfl, rfl, by decide +kernel, rfl, by decide +kernel, by decide +kernel⟩
theorem m_6 : mSs tb (nms.getD 6 []) (defScope (top 14)) c__law_cell.body (defBody (top 14)) = true := by decide +kernel
theorem s_6 : FnScope (nms.getD 6 []) (prm.getD 6 []) (defScope (top 14)) := ⟨rfl, rfl, rfl, by decide +kernel, rfl, by decide +kernel, by decide +kernel⟩
theorem m_7 : mSs tb (nms.getD 7 []) (defScope (top 15)) c__law_digits.body (defBody (top 15)) = true := by decide +kernel
theorem s_7 : FnScope (nms.getD 7 []) (prm.getD 7 []) (defScope (top 15)) := ⟨rfl, rfl, rfl, by decide +kernel, rfl, by decide +kernel, by decide +kernel⟩
theorem m_8 : mSs tb (nms.getD 8 []) (defScope (top 16)) c__law_draw.body (defBody (top 16)) = true := by decide +kernel
theorem s_8 : FnScope (nms.getD 8 []) (prm.getD 8 []) (defScope (top 16)) := ⟨rfl, rfl, rfl, by decide +kernel, rfl, by decide +kernel, by decide +kernel⟩
theorem m_9 : mSs tb (nms.getD 9 []) (defScope (top 17)) c__law_pick.body (defBody (top 17)) = true := by decide +kernel
theorem s_9 : FnScope (nms.getD 9 []) (prm.getD 9 []) (defScope (top 17)) := ⟨rfl, rfl, rfl, by decide +kernel, rfl, by decide +kernel, by decide +kernel⟩
theorem m_10 : mSs tb (nms.getD 10 []) (defScope (top 18)) c__law_same.body (defBody (top 18)) = true := by decide +kernel
theorem s_10 : FnScope (nms.getD 10 []) (prm.getD 10 []) (defScope (top 18)) := ⟨rfl, rfl, rfl, by decide +kernel, rfl, by decide +kernel, by decide +kernel⟩
theorem m_11 : mSs tb (nms.getD 11 []) (defScope (top 19)) c__law_is_word.body (defBody (top 19)) = true := by decide +kernel
theorem s_11 : FnScope (nms.getD 11 []) (prm.getD 11 []) (defScope (top 19)) := ⟨rfl, rfl, rfl, by decide +kernel, rfl, by decide +kernel, by decide +kernel⟩
theorem m_12 : mSs tb (nms.getD 12 []) (defScope (top 20)) c__law_number.body (defBody (top 20)) = true := by decide +kernel
theorem s_12 : FnScope (nms.getD 12 []) (prm.getD 12 []) (defScope (top 20)) := ⟨rfl, rfl, rfl, by decide +kernel, rfl, by decide +kernel, by decide +kernel⟩
theorem m_13 : mSs tb (nms.getD 13 []) (defScope (top 21)) c__law_asked.body (defBody (top 21)) = true := by decide +kernel
theorem s_13 : FnScope (nms.getD 13 []) (prm.getD 13 []) (defScope (top 21)) := ⟨rfl, rfl, rfl, by decide +kernel, rfl, by decide +kernel, by decide +kernel⟩
theorem m_14 : mSs tb (nms.getD 14 []) (defScope (top 22)) c__law_read.body (defBody (top 22)) = true := by decide +kernel
theorem s_14 : FnScope (nms.getD 14 []) (prm.getD 14 []) (defScope (top 22)) := ⟨rfl, rfl, rfl, by decide +kernel, rfl, by decide +kernel, by decide +kernel⟩
theorem m_15 : mSs tb (nms.getD 15 []) (defScope (top 23)) c__law_word.body (defBody (top 23)) = true := by decide +kernel
theorem s_15 : FnScope (nms.getD 15 []) (prm.getD 15 []) (defScope (top 23)) := ⟨rfl, rfl, rfl, by decide +kernel, rfl, by decide +kernel, by decide +kernel⟩
theorem m_16 : mSs tb (nms.getD 16 []) (defScope (top 24)) c__law_order.body (defBody (top 24)) = true := by decide +kernel
theorem s_16 : FnScope (nms.getD 16 []) (prm.getD 16 []) (defScope (top 24)) := ⟨rfl, rfl, rfl, by decide +kernel, rfl, by decide +kernel, by decide +kernel⟩
theorem m_17 : mSs tb (nms.getD 17 []) (defScope (top 25)) c__law_bent.body (defBody (top 25)) = true := by decide +kernel
theorem s_17 : FnScope (nms.getD 17 []) (prm.getD 17 []) (defScope (top 25)) := ⟨rfl, rfl, rfl, by decide +kernel, rfl, by decide +kernel, by decide +kernel⟩
theorem m_18 : mSs tb (nms.getD 18 []) (defScope (top 26)) c__law_text.body (defBody (top 26)) = true := by decide +kernel
theorem s_18 : FnScope (nms.getD 18 []) (prm.getD 18 []) (defScope (top 26)) := ⟨rfl, rfl, rfl, by decide +kernel, rfl, by decide +kernel, by decide +kernel⟩
theorem m_19 : mSs tb (nms.getD 19 []) (defScope (top 27)) c_law.body (defBody (top 27)) = true := by decide +kernel
theorem s_19 : FnScope (nms.getD 19 []) (prm.getD 19 []) (defScope (top 27)) := ⟨rfl, rfl, rfl, by decide +kernel, rfl, by decide +kernel, by decide +kernel⟩
end K97

/-! P97: orders as lists of signs. -/
namespace K97
open PySem Y L2
/-- cut at each s -/
def sp (s : Nat) : List Nat → List (List Nat)
  | [] => [[]]
  | c :: r => if c = s then [] :: sp s r else match sp s r with
    | w :: ws => (c :: w) :: ws
    | [] => [[c]]
def jn (s : Nat) : List (List Nat) → List Nat
  | [] => []
  | [w] => w
  | w :: r => w ++ s :: jn s r
theorem sp_ne {s : Nat} : ∀ l, sp s l ≠ []
  | [] => by simp [sp]
  | c :: r => by
    unfold sp
    split
    · simp
    · split <;> simp
theorem sp_no {s : Nat} : ∀ (l : List Nat) (w : List Nat), w ∈ sp s l → s ∉ w
  | [], w, h => by
    have h : w ∈ [([] : List Nat)] := h
    simp at h
    simp [h]
  | c :: r, w, h => by
    unfold sp at h
    by_cases z : c = s
    · rw [if_pos z] at h
      rcases List.mem_cons.mp h with rfl | h
      · simp
      · exact sp_no r w h
    · rw [if_neg z] at h
      cases q : sp s r with
      | nil => exact absurd q (sp_ne r)
      | cons v vs =>
        rw [q] at h
        rcases List.mem_cons.mp h with rfl | h
        · have := sp_no r v (by rw [q]; exact List.mem_cons_self)
          simp [this, Ne.symm z]
        · exact sp_no r w (by rw [q]; exact List.mem_cons_of_mem _ h)
theorem jn_cons {s : Nat} {w : List Nat} {r : List (List Nat)} (h : r ≠ []) : jn s (w :: r) = w ++ s :: jn s r := by
  cases r with
  | nil => exact absurd rfl h
  | cons v vs => rfl
theorem jn_sp {s : Nat} : ∀ l, jn s (sp s l) = l
  | [] => rfl
  | c :: r => by
    have ih := jn_sp (s := s) r
    unfold sp
    by_cases z : c = s
    · rw [if_pos z, jn_cons (sp_ne r), ih, z]
      rfl
    · rw [if_neg z]
      cases q : sp s r with
      | nil => exact absurd q (sp_ne r)
      | cons v vs =>
        rw [q] at ih
        show jn s ((c :: v) :: vs) = c :: r
        cases vs with
        | nil =>
          have ih : v = r := ih
          show c :: v = c :: r
          rw [ih]
        | cons u us =>
          rw [jn_cons (by simp)] at ih ⊢
          rw [← ih]
          rfl
theorem sp_pre {s : Nat} : ∀ (w r : List Nat), s ∉ w → sp s (w ++ s :: r) = w :: sp s r
  | [], r, _ => by
    show (if s = s then [] :: sp s r else _) = _
    rw [if_pos rfl]
  | c :: w, r, h => by
    have h1 : c ≠ s := fun z => h (by simp [z])
    have h2 : s ∉ w := fun z => h (List.mem_cons_of_mem _ z)
    show sp s (c :: (w ++ s :: r)) = _
    rw [sp, if_neg h1, sp_pre w r h2]
theorem sp_one {s : Nat} : ∀ (w : List Nat), s ∉ w → sp s w = [w]
  | [], _ => rfl
  | c :: w, h => by
    have h1 : c ≠ s := fun z => h (by simp [z])
    have h2 : s ∉ w := fun z => h (List.mem_cons_of_mem _ z)
    rw [sp, if_neg h1, sp_one w h2]
theorem sp_jn {s : Nat} : ∀ (ws : List (List Nat)), ws ≠ [] → (∀ w ∈ ws, s ∉ w) → sp s (jn s ws) = ws
  | [], h, _ => absurd rfl h
  | [w], _, h => sp_one w (h w List.mem_cons_self)
  | w :: v :: vs, _, h => by
    rw [jn_cons (by simp), sp_pre w _ (h w List.mem_cons_self), sp_jn (v :: vs) (by simp) fun u hu => h u (List.mem_cons_of_mem _ hu)]
theorem join_S1 {s : Nat} (ws : List (List Nat)) : Txt.join (S [s]) (ws.map S) = S (jn s ws) := by
  refine TL.ext_tl ?_
  rw [TL.join_eq, TL.tl_join]
  have e1 : TL.tl (S [s]) = [s] := S_cps
  have e2 : (ws.map S).map TL.tl = ws := by
    rw [List.map_map]
    have : ∀ l : List (List Nat), l.map (TL.tl ∘ S) = l := fun l => by
      induction l with
      | nil => rfl
      | cons w r ih => rw [List.map_cons, ih]; exact congrArg (· :: r) S_cps
    exact this ws
  have e3 : TL.tl (S (jn s ws)) = jn s ws := S_cps
  rw [e1, e2, e3]
  have : ∀ l : List (List Nat), TL.joinL [s] l = jn s l := fun l => by
    induction l with
    | nil => rfl
    | cons w r ih =>
      cases r with
      | nil => rfl
      | cons v vs =>
        show w ++ ([s] ++ TL.joinL [s] (v :: vs)) = w ++ s :: jn s (v :: vs)
        rw [ih]
        rfl
  exact this ws
theorem split_S {s : Nat} (hs : s < 256) (l : List Nat) : Txt.split (S l) (S [s]) = (sp s l).map S := by
  have h := TL.split_join (y := S [s]) (s := s) (S := []) (by simp [S, TL.tl]) (by simp [S, hs]) (parts := (sp s l).map S) (by simp [sp_ne]) (by
    intro p hp
    obtain ⟨w, hw, rfl⟩ := List.mem_map.mp hp
    have := sp_no l w hw
    simpa [S, TL.tl] using this)
  rw [join_S1, jn_sp] at h
  exact h
end K97

/-! P97b: words. -/
namespace K97
open PySem Y L2
theorem lit2 : PySem.Str.ofString "abcdefghijklmnopqrstuvwxyz" = S [97, 98, 99, 100, 101, 102, 103, 104, 105, 106, 107, 108, 109, 110, 111, 112, 113, 114, 115, 116, 117, 118, 119, 120, 121, 122] := by decide +kernel
theorem lit4 : PySem.Str.ofString "books" = S [98, 111, 111, 107, 115] := by decide +kernel
theorem lit5 : PySem.Str.ofString "begin" = S [98, 101, 103, 105, 110] := by decide +kernel
theorem lit6 : PySem.Str.ofString "end" = S [101, 110, 100] := by decide +kernel
theorem lit7 : PySem.Str.ofString "drop" = S [100, 114, 111, 112] := by decide +kernel
theorem lit8 : PySem.Str.ofString "text" = S [116, 101, 120, 116] := by decide +kernel
theorem lit9 : PySem.Str.ofString "side" = S [115, 105, 100, 101] := by decide +kernel
theorem lit10 : PySem.Str.ofString "moves" = S [109, 111, 118, 101, 115] := by decide +kernel
theorem lit11 : PySem.Str.ofString "turns" = S [116, 117, 114, 110, 115] := by decide +kernel
theorem lit12 : PySem.Str.ofString "sights" = S [115, 105, 103, 104, 116, 115] := by decide +kernel
theorem lit13 : PySem.Str.ofString "good" = S [103, 111, 111, 100] := by decide +kernel
theorem lit14 : PySem.Str.ofString "flat" = S [102, 108, 97, 116] := by decide +kernel
theorem lit15 : PySem.Str.ofString "size" = S [115, 105, 122, 101] := by decide +kernel
theorem lit16 : PySem.Str.ofString "paper" = S [112, 97, 112, 101, 114] := by decide +kernel
theorem lit17 : PySem.Str.ofString " " = S [32] := by decide +kernel
theorem lit18 : PySem.Str.ofString "" = S [] := by decide +kernel
theorem lit19 : PySem.Str.ofString "take" = S [116, 97, 107, 101] := by decide +kernel
theorem lit20 : PySem.Str.ofString "ask" = S [97, 115, 107] := by decide +kernel
theorem lit21 : PySem.Str.ofString "add" = S [97, 100, 100] := by decide +kernel
theorem lit22 : PySem.Str.ofString "0" = S [48] := by decide +kernel
theorem lit23 : PySem.Str.ofString "\n" = S [10] := by decide +kernel
theorem lit24 : PySem.Str.ofString "copy" = S [99, 111, 112, 121] := by decide +kernel
theorem lit25 : PySem.Str.ofString "alike" = S [97, 108, 105, 107, 101] := by decide +kernel
theorem lit26 : PySem.Str.ofString "told" = S [116, 111, 108, 100] := by decide +kernel
theorem lit27 : PySem.Str.ofString "line " = S [108, 105, 110, 101, 32] := by decide +kernel
theorem lit28 : PySem.Str.ofString "book" = S [98, 111, 111, 107] := by decide +kernel
theorem lit29 : PySem.Str.ofString "forget" = S [102, 111, 114, 103, 101, 116] := by decide +kernel
theorem lit30 : PySem.Str.ofString "undo" = S [117, 110, 100, 111] := by decide +kernel
theorem lit31 : PySem.Str.ofString "all a." = S [97, 108, 108, 32, 97, 46] := by decide +kernel
theorem lit32 : PySem.Str.ofString "need a -> b." = S [110, 101, 101, 100, 32, 97, 32, 45, 62, 32, 98, 46] := by decide +kernel
theorem lit33 : PySem.Str.ofString " all a." = S [32, 97, 108, 108, 32, 97, 46] := by decide +kernel
theorem lit34 : PySem.Str.ofString "some b. " = S [115, 111, 109, 101, 32, 98, 46, 32] := by decide +kernel
theorem lit35 : PySem.Str.ofString "need  a. ask c" = S [110, 101, 101, 100, 32, 32, 97, 46, 32, 97, 115, 107, 32, 99] := by decide +kernel
theorem lit36 : PySem.Str.ofString "some x sees y z." = S [115, 111, 109, 101, 32, 120, 32, 115, 101, 101, 115, 32, 121, 32, 122, 46] := by decide +kernel
theorem lit37 : PySem.Str.ofString "wrong" = S [119, 114, 111, 110, 103] := by decide +kernel
theorem lit38 : PySem.Str.ofString "0123456789" = S [48, 49, 50, 51, 52, 53, 54, 55, 56, 57] := by decide +kernel
theorem lit39 : PySem.Str.ofString "other" = S [111, 116, 104, 101, 114] := by decide +kernel
theorem lit40 : PySem.Str.ofString "-" = S [45] := by decide +kernel
theorem lit41 : PySem.Str.ofString "\t" = S [9] := by decide +kernel
theorem lit42 : PySem.Str.ofString "9999" = S [57, 57, 57, 57] := by decide +kernel
theorem lit43 : PySem.Str.ofString "10000" = S [49, 48, 48, 48, 48] := by decide +kernel
theorem lit44 : PySem.Str.ofString "01" = S [48, 49] := by decide +kernel
theorem lit45 : PySem.Str.ofString "-1" = S [45, 49] := by decide +kernel
theorem lit46 : PySem.Str.ofString "00" = S [48, 48] := by decide +kernel
theorem lit47 : PySem.Str.ofString "1x" = S [49, 120] := by decide +kernel
theorem lit48 : PySem.Str.ofString "tell" = S [116, 101, 108, 108] := by decide +kernel
theorem lit49 : PySem.Str.ofString "abcdefgh" = S [97, 98, 99, 100, 101, 102, 103, 104] := by decide +kernel
theorem lit50 : PySem.Str.ofString "abcdefghi" = S [97, 98, 99, 100, 101, 102, 103, 104, 105] := by decide +kernel
theorem lit51 : PySem.Str.ofString "aB" = S [97, 66] := by decide +kernel
theorem lit52 : PySem.Str.ofString "a1" = S [97, 49] := by decide +kernel
theorem lit53 : PySem.Str.ofString "z" = S [122] := by decide +kernel
theorem lit54 : PySem.Str.ofString "7" = S [55] := by decide +kernel
theorem lit55 : PySem.Str.ofString "1" = S [49] := by decide +kernel
theorem lit56 : PySem.Str.ofString "x" = S [120] := by decide +kernel
theorem lit57 : PySem.Str.ofString "3" = S [51] := by decide +kernel
def AZ : List Nat := [97, 98, 99, 100, 101, 102, 103, 104, 105, 106, 107, 108, 109, 110, 111, 112, 113, 114, 115, 116, 117, 118, 119, 120, 121, 122]
def DG : List Nat := [48, 49, 50, 51, 52, 53, 54, 55, 56, 57]
def isW (w : List Nat) : Bool := decide (1 ≤ w.length) && decide (w.length ≤ 8) && w.all fun c => decide (c ∈ AZ)
@[simp ↓] theorem wg2 {k : Str × D → Prop} : Wo (gcs[2]?) k = k (("SMALL" : Str), .str (S AZ)) := by
  show k (("SMALL" : Str), .str (PySem.Str.ofString "abcdefghijklmnopqrstuvwxyz")) = _
  rw [lit2]
  rfl
def BR : List D := [.str (S [98, 111, 111, 107, 115]), .str (S [98, 101, 103, 105, 110]), .str (S [101, 110, 100]), .str (S [100, 114, 111, 112])]
def AK : List D := [.str (S [116, 101, 120, 116]), .str (S [115, 105, 100, 101]), .str (S [109, 111, 118, 101, 115]), .str (S [116, 117, 114, 110, 115]), .str (S [115, 105, 103, 104, 116, 115]), .str (S [103, 111, 111, 100]), .str (S [102, 108, 97, 116]), .str (S [115, 105, 122, 101]), .str (S [112, 97, 112, 101, 114])]
@[simp ↓] theorem wg0 {k : Str × D → Prop} : Wo (gcs[0]?) k = k (("BARE" : Str), .tuple BR) := by
  show k (("BARE" : Str), .tuple [.str (PySem.Str.ofString "books"), .str (PySem.Str.ofString "begin"), .str (PySem.Str.ofString "end"), .str (PySem.Str.ofString "drop")]) = _
  rw [lit4, lit5, lit6, lit7]
  rfl
@[simp ↓] theorem wg1 {k : Str × D → Prop} : Wo (gcs[1]?) k = k (("ASKED" : Str), .tuple AK) := by
  show k (("ASKED" : Str), .tuple [.str (PySem.Str.ofString "text"), .str (PySem.Str.ofString "side"), .str (PySem.Str.ofString "moves"), .str (PySem.Str.ofString "turns"), .str (PySem.Str.ofString "sights"), .str (PySem.Str.ofString "good"), .str (PySem.Str.ofString "flat"), .str (PySem.Str.ofString "size"), .str (PySem.Str.ofString "paper")]) = _
  rw [lit8, lit9, lit10, lit11, lit12, lit13, lit14, lit15, lit16]
  rfl
theorem tb_list {w : List Nat} {p : Nat → Bool} : (w.filterMap fun c => some (PyData.bool (p c))) = boolL (w.map p) := fm_bool
theorem ev_is_word (n : Nat) (w : List Nat) (hw : w.length ≤ 1000000) : run gcs code (n + 1) 0 [.d (.str (S w))] = some (.v (.d (.bool (isW w))), [.d (.str (S w))]) := by
  obtain ⟨r, outs, h, rfl, rfl⟩ : ∃ r outs, run gcs code (n + 1) 0 [.d (.str (S w))] = some (.v r, outs) ∧ r = .d (.bool (isW w)) ∧ outs = [.d (.str (S w))] := by
    refine run_wp rfl ⟨rfl, rfl, rfl, by decide⟩ ?_
    have hz : w.length ≤ 16777216 := by omega
    simp -implicitDefEqProofs [c_is_word, ownO, hz]
    refine br_intro (fun h1 => br_intro (fun h2 => ?_) (fun h2 => ?_)) (fun h1 => ?_)
    · refine lc_fm w (fun c => .str (S [c])) (fun c => some (.bool (decide (c ∈ AZ)))) [some (.d (.str (S w))), none] rfl rfl rfl (fun c hc => ?_) ?_
      · simp -implicitDefEqProofs [T1]
        rfl
      · rw [fm_bool]
        have h1 : 1 ≤ w.length := by have := of_decide_eq_true h1; omega
        have h2 : w.length ≤ 8 := by have := of_decide_eq_true h2; omega
        simp -implicitDefEqProofs [backE, isW, h1, h2]
    · have h2 := of_decide_eq_false h2
      simp [isW]
      omega
    · have h1 := of_decide_eq_false h1
      simp [isW]
      omega
  exact h
theorem litAZ : PySem.Str.ofString "abcdefghijklmnopqrstuvwxyz" = S AZ := lit2
/-- plain signs -/
def Asc (w : List Nat) : Prop := ∀ c ∈ w, c < 128
theorem lay_S {w : List Nat} (h : Asc w) : PyData.canLay0 (.str (S w)) = true := by
  have e : PyData.canLay0 (.str (S w)) = (w.toArray.all (· < 0x110000)) := by
    simp only [PyData.canLay0]
    rfl
  rw [e, List.all_toArray, List.all_eq_true]
  intro c hc
  have := h c hc
  exact decide_eq_true (by omega)
theorem strs_lay {α : Type} {g : α → List Nat} : ∀ zs : List α, (∀ z ∈ zs, Asc (g z)) → PyData.canLayAll0 (zs.map fun z => PyData.str (S (g z))) = true ∧ PyData.depthAll (zs.map fun z => PyData.str (S (g z))) = 0
  | [], _ => ⟨rfl, rfl⟩
  | z :: zs, h => by
    obtain ⟨h1, h2⟩ := strs_lay (g := g) zs fun y hy => h y (List.mem_cons_of_mem _ hy)
    refine ⟨?_, ?_⟩
    · show (PyData.canLay0 (.str (S (g z))) && PyData.canLayAll0 (zs.map fun z => PyData.str (S (g z)))) = true
      rw [h1, lay_S (h z List.mem_cons_self)]
      rfl
    · show max (PyData.depth (.str (S (g z)))) (PyData.depthAll (zs.map fun z => PyData.str (S (g z)))) = 0
      rw [h2]
      rfl
theorem strs_shaped {α : Type} {g : α → List Nat} (zs : List α) (h : ∀ z ∈ zs, Asc (g z)) : PySem.SeqAt.shaped (.list (zs.map fun z => PyData.str (S (g z)))) = true := by
  obtain ⟨h1, h2⟩ := strs_lay (g := g) zs h
  unfold PySem.SeqAt.shaped
  simp only [PyData.canLay0, PyData.depth, h1, h2]
  rfl
theorem cm_eqNil {α : Type} {g : α → List Nat} {zs : List α} {k} (h : ∀ z ∈ zs, Asc (g z)) : Cm .eq (.list (zs.map fun z => .str (S (g z)))) (.list []) k = k (decide (zs = [])) := by
  show Wo (if PySem.SeqAt.shaped (.list (zs.map fun z => PyData.str (S (g z)))) && PySem.SeqAt.shaped (.list []) then some (PyData.eqv (.list (zs.map fun z => PyData.str (S (g z)))) (.list [])) else none) k = _
  rw [strs_shaped zs h, if_pos (by rfl)]
  cases zs with
  | nil => rfl
  | cons z zs => rfl
theorem ev_law_is_word (n : Nat) (w : List Nat) (hw : w.length ≤ 1000000) (ha : Asc w) : run gcs code (n + 1) 11 [.d (.str (S w))] = some (.v (.d (.bool (isW w))), [.d (.str (S w))]) := by
  obtain ⟨r, outs, h, rfl, rfl⟩ : ∃ r outs, run gcs code (n + 1) 11 [.d (.str (S w))] = some (.v r, outs) ∧ r = .d (.bool (isW w)) ∧ outs = [.d (.str (S w))] := by
    refine run_wp rfl ⟨rfl, rfl, rfl, by decide⟩ ?_
    have hz : w.length ≤ 16777216 := by omega
    simp -implicitDefEqProofs [c__law_is_word, ownO, hz, litAZ]
    refine br_intro (fun h1 => br_intro (fun h2 => ?_) (fun h2 => ?_)) (fun h1 => ?_)
    · refine lc_fm w (fun c => .str (S [c])) (fun c => if (!decide (c ∈ AZ)) then some (.str (S [c])) else none) [some (.d (.str (S w))), none] rfl rfl rfl (fun c hc => ?_) ?_
      · simp -implicitDefEqProofs [T1]
        refine br_intro (fun h => ?_) (fun h => ?_)
        · exact ⟨by simpa using h, rfl⟩
        · exact ⟨by simpa using h, rfl⟩
      · rw [fm_if]
        have h1 : 1 ≤ w.length := by have := of_decide_eq_true h1; omega
        have h2 : w.length ≤ 8 := by have := of_decide_eq_true h2; omega
        rw [cm_eqNil (g := fun c => [c]) (fun c hc d hd => by
          rw [List.mem_singleton.mp hd]
          exact ha c (List.mem_filter.mp hc).1)]
        simp -implicitDefEqProofs [backE, isW, h1, h2]
        rw [Bool.eq_iff_iff]
        simp
    · have h2 := of_decide_eq_false h2
      simp [isW]
      omega
    · have h1 := of_decide_eq_false h1
      simp [isW]
      omega
  exact h
end K97

/-! P97c: numbers. -/
namespace K97
open PySem Y L2
theorem litDG : PySem.Str.ofString "0123456789" = S DG := by decide +kernel
theorem lit0 : PySem.Str.ofString "0" = S [48] := by decide +kernel
def isN (w : List Nat) : Bool := (decide (1 ≤ w.length) && decide (w.length ≤ 4) && w.all fun c => decide (c ∈ DG)) && !(decide (1 < w.length) && decide ((w[0]?).getD 0 = 48))
def num (w : List Nat) : Nat := PySem.NumText.digitsVal w
def numD (w : List Nat) : D := if isN w then .int (num w : Nat) else .none
theorem dg_all {w : List Nat} (h : (w.all fun c => decide (c ∈ DG)) = true) : PySem.NumText.AllDigits w := fun c hc => by
  have := of_decide_eq_true (List.all_eq_true.mp h c hc)
  simp [DG] at this
  omega
theorem ev_number_of (n : Nat) (w : List Nat) (hw : w.length ≤ 1000000) : run gcs code (n + 1) 1 [.d (.str (S w))] = some (.v (.d (numD w)), [.d (.str (S w))]) := by
  obtain ⟨r, outs, h, rfl, rfl⟩ : ∃ r outs, run gcs code (n + 1) 1 [.d (.str (S w))] = some (.v r, outs) ∧ r = .d (numD w) ∧ outs = [.d (.str (S w))] := by
    refine run_wp rfl ⟨rfl, rfl, rfl, by decide⟩ ?_
    have hz : w.length ≤ 16777216 := by omega
    simp -implicitDefEqProofs [c_number_of, ownO, hz, litDG, lit0]
    refine br_intro (fun h1 => br_intro (fun h2 => ?_) (fun h2 => ?_)) (fun h1 => ?_)
    · have g1 : 1 ≤ w.length := by have := of_decide_eq_true h1; omega
      have g2 : w.length ≤ 4 := by have := of_decide_eq_true h2; omega
      refine lc_fm w (fun c => .str (S [c])) (fun c => some (.bool (decide (c ∈ DG)))) [some (.d (.str (S w))), none] rfl rfl rfl (fun c hc => ?_) ?_
      · simp -implicitDefEqProofs [T1]
        rfl
      · rw [fm_bool]
        simp -implicitDefEqProofs [backE]
        have ix0 : ∀ k, Ix (.str (S w)) (.int 0) k = k (.str (S [(w[0]?).getD 0])) := fun k => ix_S (i := 0) hz (by omega)
        refine br_intro (fun h3 => ?_) (fun h3 => ?_)
        · have hi : ∀ k, Bt .int (.str (S w)) k = k (.d (.int (num w : Nat))) := fun k => bt_intS (by rw [S_len]; omega) (by
            have := PySem.intText_digits (x := S w) (by rw [S_cps]; exact dg_all h3) (by rw [S_cps]; intro z; rw [z] at g1; simp at g1) (by rw [S_len]; omega)
            rw [this, S_cps]
            rfl)
          simp -implicitDefEqProofs [hz, ix0, hi]
          refine br_intro (fun h4 => br_intro (fun h5 => ?_) (fun h5 => ?_)) (fun h4 => ?_)
          · have g4 := of_decide_eq_true h4
            have g5 := of_decide_eq_true h5
            have : isN w = false := by
              unfold isN
              rw [h5, decide_eq_true (show 1 < w.length by omega)]
              simp
            simp [numD, this]
          · have g4 := of_decide_eq_true h4
            have : isN w = true := by
              unfold isN
              rw [h3, h5, decide_eq_true g1, decide_eq_true g2]
              simp
            simp [numD, this]
          · have g4 := of_decide_eq_false h4
            have : isN w = true := by
              unfold isN
              rw [h3, decide_eq_true g1, decide_eq_true g2, decide_eq_false (show ¬ 1 < w.length by omega)]
              simp
            simp [numD, this]
        · have : isN w = false := by
            unfold isN
            rw [h3]
            simp
          simp [numD, this]
    · have h2 := of_decide_eq_false h2
      have : isN w = false := by simp [isN]; omega
      simp [numD, this]
    · have h1 := of_decide_eq_false h1
      have : isN w = false := by simp [isN]; omega
      simp [numD, this]
  exact h
theorem occ_dg {c : Nat} (h : c ∈ DG) : Builtin.Str.occurrences (S DG) (S [c]) 0 (S DG).length 1 = [c - 48] := by
  simp [DG] at h
  rcases h with rfl | rfl | rfl | rfl | rfl | rfl | rfl | rfl | rfl | rfl <;> decide +kernel
theorem num_take {w : List Nat} {i c : Nat} (h : w[i]? = some c) : PySem.NumText.digitsVal (w.take (i + 1)) = PySem.NumText.digitsVal (w.take i) * 10 + (c - 48) := by
  unfold PySem.NumText.digitsVal
  rw [List.take_add_one, h, Option.toList_some, List.foldl_append]
  rfl
theorem ev_law_number (n : Nat) (w : List Nat) (hw : w.length ≤ 1000000) (ha : Asc w) : run gcs code (n + 1) 12 [.d (.str (S w))] = some (.v (.d (numD w)), [.d (.str (S w))]) := by
  obtain ⟨r, outs, h, rfl, rfl⟩ : ∃ r outs, run gcs code (n + 1) 12 [.d (.str (S w))] = some (.v r, outs) ∧ r = .d (numD w) ∧ outs = [.d (.str (S w))] := by
    refine run_wp rfl ⟨rfl, rfl, rfl, by decide⟩ ?_
    have hz : w.length ≤ 16777216 := by omega
    simp -implicitDefEqProofs [c__law_number, ownO, hz, litDG, lit0]
    refine br_intro (fun h1 => br_intro (fun h2 => ?_) (fun h2 => ?_)) (fun h1 => ?_)
    · have g1 : 1 ≤ w.length := by have := of_decide_eq_true h1; omega
      have g2 : w.length ≤ 4 := by have := of_decide_eq_true h2; omega
      refine lc_fm w (fun c => .str (S [c])) (fun c => if (!decide (c ∈ DG)) then some (.str (S [c])) else none) [some (.d (.str (S w))), none, none, none] rfl rfl rfl (fun c hc => ?_) ?_
      · simp -implicitDefEqProofs [T1]
        refine br_intro (fun h => ?_) (fun h => ?_)
        · exact ⟨by simpa using h, rfl⟩
        · exact ⟨by simpa using h, rfl⟩
      · rw [fm_if]
        rw [cm_eqNil (g := fun c => [c]) (fun c hc d hd => by
          rw [List.mem_singleton.mp hd]
          exact ha c (List.mem_filter.mp hc).1)]
        have ix0 : ∀ k, Ix (.str (S w)) (.int 0) k = k (.str (S [(w[0]?).getD 0])) := fun k => ix_S (i := 0) hz (by omega)
        have hd : (decide (List.filter (fun c => !decide (c ∈ DG)) w = []) : Bool) = (w.all fun c => decide (c ∈ DG)) := by
          rw [Bool.eq_iff_iff]
          simp
        rw [hd]
        simp -implicitDefEqProofs [backE]
        refine br_intro (fun h3 => ?_) (fun h3 => ?_)
        case refine_2 =>
          have : isN w = false := by
            unfold isN
            rw [h3]
            simp
          simp [numD, this]
        simp -implicitDefEqProofs [hz, ix0]
        have start : (PyData.int 0) = .int ((PySem.NumText.digitsVal (w.take 0) : Nat) : Int) := by simp [PySem.NumText.digitsVal]
        have step : ∀ (i : Nat) (x : D), (w.map fun c => PyData.str (S [c]))[i]? = some x → ∃ c, x = .str (S [c]) ∧ c ∈ DG ∧ PySem.NumText.digitsVal (w.take (i + 1)) = PySem.NumText.digitsVal (w.take i) * 10 + (c - 48) ∧ (∀ k, Mt .index (.str (S DG)) (.str (S [c])) k = k (.d (.int ((c - 48 : Nat) : Int)))) := fun i x hx => by
          rw [List.getElem?_map] at hx
          cases q : w[i]? with
          | none =>
            rw [q] at hx
            cases hx
          | some c =>
            rw [q] at hx
            cases hx
            have hc : c ∈ DG := of_decide_eq_true (List.all_eq_true.mp h3 c (List.mem_of_getElem? q))
            exact ⟨c, rfl, hc, num_take q, fun k => mt_index' (occ_dg hc)⟩
        refine br_intro (fun h4 => br_intro (fun h5 => ?_) (fun h5 => ?_)) (fun h4 => ?_)
        · have g5 := of_decide_eq_true h5
          have : isN w = false := by
            unfold isN
            rw [h4, decide_eq_true (show 1 < w.length by omega)]
            simp
          simp [numD, this]
        all_goals
          refine fr_inv (fun i e => ∃ u, e = [some (.d (.str (S w))), u, some (.d (.bool (w.all fun c => decide (c ∈ DG)))), some (.d (.int ((PySem.NumText.digitsVal (w.take i) : Nat) : Int)))]) ⟨none, by rw [← start]⟩ ?_ ?_
          · intro i x e hx he
            obtain ⟨c, hx2, hc, e1, e2⟩ := step i x hx
            rw [e1]
            generalize PySem.NumText.digitsVal (w.take i) = m at he ⊢
            generalize (w.all fun c => decide (c ∈ DG)) = b at he ⊢
            subst hx2
            obtain ⟨u, rfl⟩ := he
            simp -implicitDefEqProofs [e2]
          · rintro e ⟨u, rfl⟩
            have hN : isN w = true := by
              unfold isN
              rw [h3, decide_eq_true g1, decide_eq_true g2]
              first
                | rw [decide_eq_false (show ¬ 1 < w.length by have := of_decide_eq_false h5; omega)]; simp
                | rw [h4]; simp
            simp -implicitDefEqProofs [numD, hN, num]
    · have h2 := of_decide_eq_false h2
      have : isN w = false := by simp [isN]; omega
      simp [numD, this]
    · have h1 := of_decide_eq_false h1
      have : isN w = false := by simp [isN]; omega
      simp [numD, this]
  exact h
end K97

/-! P97d: an order read. -/
namespace K97
open PySem Y L2
theorem any_texts {a : List Nat} : ∀ bs : List (List Nat), ((bs.map fun b => PyData.str (S b)).any fun z => PyData.eqv z (.str (S a))) = decide (a ∈ bs)
  | [] => rfl
  | b :: bs => by
    rw [List.map_cons, List.any_cons, any_texts bs]
    show ((S b == S a) || decide (a ∈ bs)) = decide (a ∈ b :: bs)
    rw [beqS, Bool.eq_iff_iff]
    simp only [Bool.or_eq_true, decide_eq_true_eq, List.mem_cons]
    constructor
    · rintro (h | h)
      · exact .inl h.symm
      · exact .inr h
    · rintro (h | h)
      · exact .inl h.symm
      · exact .inr h
theorem cm_inTS {a : List Nat} {bs : List (List Nat)} {k} : Cm .inn (.str (S a)) (.tuple (bs.map fun b => .str (S b))) k = k (decide (a ∈ bs)) := by
  have hf : ((bs.map fun b => PyData.str (S b)).all flatD) = true := by simp [flatD]
  show Wo (if flatD (.str (S a)) && (bs.map fun b => PyData.str (S b)).all flatD then some ((bs.map fun b => PyData.str (S b)).any fun z => PyData.eqv z (.str (S a))) else none) k = _
  rw [hf, any_texts]
  rfl
def BRW : List (List Nat) := [[98, 111, 111, 107, 115], [98, 101, 103, 105, 110], [101, 110, 100], [100, 114, 111, 112]]
def AKW : List (List Nat) := [[116, 101, 120, 116], [115, 105, 100, 101], [109, 111, 118, 101, 115], [116, 117, 114, 110, 115], [115, 105, 103, 104, 116, 115], [103, 111, 111, 100], [102, 108, 97, 116], [115, 105, 122, 101], [112, 97, 112, 101, 114]]
@[simp ↓] theorem cm_inBR {a : List Nat} {k} : Cm .inn (.str (S a)) (.tuple BR) k = k (decide (a ∈ BRW)) := cm_inTS (bs := BRW)
@[simp ↓] theorem cm_inAK {a : List Nat} {k} : Cm .inn (.str (S a)) (.tuple AK) k = k (decide (a ∈ AKW)) := cm_inTS (bs := AKW)
@[simp ↓] theorem cm_in3 {a b c d : List Nat} {k} : Cm .inn (.str (S a)) (.tuple [.str (S b), .str (S c), .str (S d)]) k = k (decide (a ∈ [b, c, d])) := cm_inTS (bs := [b, c, d])
@[simp ↓] theorem cm_in2 {a b c : List Nat} {k} : Cm .inn (.str (S a)) (.tuple [.str (S b), .str (S c)]) k = k (decide (a ∈ [b, c])) := cm_inTS (bs := [b, c])
abbrev W3 : List (List Nat) := [[98, 111, 111, 107], [102, 111, 114, 103, 101, 116], [117, 110, 100, 111]]
abbrev wAdd : List Nat := [97, 100, 100]
abbrev wTake : List Nat := [116, 97, 107, 101]
abbrev wAsk : List Nat := [97, 115, 107]
abbrev W2 : List (List Nat) := [[99, 111, 112, 121], [97, 108, 105, 107, 101]]
/-- an order by its words -/
def rd : List (List Nat) → D
  | [] => .none
  | [a] => if a ∈ BRW then .tuple [.str (S a)] else .none
  | [a, b] => if isW b && decide (a ∈ W3) then .tuple [.str (S a), .str (S b)] else .none
  | a :: b :: c :: r => if isW b then
      if a = wAdd then .tuple [.str (S wAdd), .str (S b), .str (S (jn 32 (c :: r)))]
      else if r = [] then
        if a = wTake ∧ isN c = true then .tuple [.str (S wTake), .str (S b), .int (num c : Nat)]
        else if a = wAsk ∧ c ∈ AKW then .tuple [.str (S wAsk), .str (S b), .str (S c)]
        else if a ∈ W2 ∧ isW c = true then .tuple [.str (S a), .str (S b), .str (S c)]
        else .none
      else .none
    else .none
theorem ca_is_word {n : Nat} {w : List Nat} {kc k} (hw : w.length ≤ 1000000) : Ca (run gcs code (n + 1)) 0 [.d (.str (S w))] kc k = k (.d (.bool (isW w))) [.d (.str (S w))] := ca_of (ev_is_word n w hw)
theorem ca_number_of {n : Nat} {w : List Nat} {kc k} (hw : w.length ≤ 1000000) : Ca (run gcs code (n + 1)) 1 [.d (.str (S w))] kc k = k (.d (numD w)) [.d (.str (S w))] := ca_of (ev_number_of n w hw)
def wd (ws : List (List Nat)) : List D := ws.map fun w => .str (S w)
theorem mt_split' {l : List Nat} {k} (hz : l.length ≤ 1000000) : Mt .split (.str (S l)) (.str (S [32])) k = k (.ol (wd (sp 32 l))) := by
  show Wo (if ((S [32]).length == 0) = false ∧ (S l).length + 2 ≤ sizeLine then some (O.ol ((Txt.split (S l) (S [32])).map .str)) else none) k = _
  rw [if_pos ⟨by rw [S_len]; rfl, by rw [S_len, sizeN]; omega⟩, split_S (by decide)]
  show k (.ol (((sp 32 l).map S).map .str)) = _
  rw [List.map_map]
  rfl
theorem sp_len {s : Nat} : ∀ (l w : List Nat), w ∈ sp s l → w.length ≤ l.length := by
  intro l w h
  have := jn_sp (s := s) l
  have key : ∀ (ws : List (List Nat)), w ∈ ws → w.length ≤ (jn s ws).length := by
    intro ws
    induction ws with
    | nil => intro h; cases h
    | cons v vs ih =>
      intro h
      cases vs with
      | nil =>
        rw [List.mem_singleton.mp h]
        exact Nat.le_refl _
      | cons u us =>
        rw [jn_cons (by simp)]
        rcases List.mem_cons.mp h with rfl | h
        · simp
        · have := ih h
          simp
          omega
  rw [← this]
  rw [this]
  have := key _ h
  rwa [jn_sp] at this
theorem jn_sum {s : Nat} : ∀ ws : List (List Nat), (ws.map List.length).sum + ws.length ≤ (jn s ws).length + 1
  | [] => by simp [jn]
  | [w] => by simp [jn]
  | w :: v :: vs => by
    have := jn_sum (s := s) (v :: vs)
    rw [jn_cons (by simp), List.map_cons, List.sum_cons, List.length_cons, List.length_append]
    have e : (s :: jn s (v :: vs)).length = (jn s (v :: vs)).length + 1 := rfl
    omega
theorem ev_read_order (n : Nat) (l : List Nat) (hl : l.length ≤ 1000000) : run gcs code (n + 2) 2 [.d (.str (S l))] = some (.v (.d (rd (sp 32 l))), [.d (.str (S l))]) := by
  obtain ⟨r, outs, h, rfl, rfl⟩ : ∃ r outs, run gcs code (n + 2) 2 [.d (.str (S l))] = some (.v r, outs) ∧ r = .d (rd (sp 32 l)) ∧ outs = [.d (.str (S l))] := by
    refine run_wp rfl ⟨rfl, rfl, rfl, by decide⟩ ?_
    simp -implicitDefEqProofs [c_read_order, ownO, lit17, mt_split' hl]
    have hm : ∀ w ∈ sp 32 l, w.length ≤ 1000000 := fun w hw => Nat.le_trans (sp_len l w hw) hl
    have hne := sp_ne (s := 32) l
    have hj : (jn 32 (sp 32 l)).length ≤ 1000000 := by rw [jn_sp]; exact hl
    generalize sp 32 l = ws at hm hne hj ⊢
    rcases ws with _ | ⟨a, _ | ⟨b, ws⟩⟩
    · exact absurd rfl hne
    · simp -implicitDefEqProofs [wd]
      refine br_intro (fun h => ?_) (fun h => ?_)
      · simp [rd, of_decide_eq_true h]
      · simp [rd, of_decide_eq_false h]
    · have hb := hm b (by simp)
      rcases ws with _ | ⟨c, r⟩
      · simp -implicitDefEqProofs [wd, ca_is_word hb, lit28, lit29, lit30]
        refine br_intro (fun h1 => br_intro (fun h2 => ?_) (fun h2 => ?_)) (fun h1 => ?_)
        · have h3 : a ∈ W3 := by simpa using h2
          simp [rd, h1, h3]
        · have h3 : a ∉ W3 := by simpa using h2
          refine br_intro (fun _ => ?_) (fun _ => ?_) <;> simp [rd, h1, h3]
        · simp [rd, h1]
      · have hc := hm c (by simp)
        have e1 : ¬ ((r.length : Int) + 1 + 1 + 1 = 1) := by omega
        have e2 : ¬ ((r.length : Int) + 1 + 1 + 1 < 2) := by omega
        have e3 : ¬ ((r.length : Int) + 1 + 1 + 1 = 2) := by omega
        have e4 : (2 : Int) < (r.length : Int) + 1 + 1 + 1 := by omega
        have cut : cutL (PyData.str (S a) :: PyData.str (S b) :: PyData.str (S c) :: List.map (fun w => PyData.str (S w)) r) (some 2) none = wd (c :: r) := by
          have e : ((r.length : Int) + 1 + 1 + 1).toNat = r.length + 3 := by omega
          simp [cutL, HT.sIx, wd]
          rw [List.take_of_length_le (by simp)]
        have jo : ∀ k, Mt .join (.str (S [32])) (.list (wd (c :: r))) k = k (.d (.str (S (jn 32 (c :: r))))) := fun k => by
          have h1 := jn_sum (s := 32) (c :: r)
          rw [jn_cons (by simp), jn_cons (by simp)] at hj
          have h2 : ((((c :: r).map S).map (·.length)).sum) = ((c :: r).map List.length).sum := by
            rw [List.map_map]
            exact congrArg List.sum (List.map_congr_left fun w _ => S_len)
          have h3 := mt_join' (t := S [32]) (ys := (c :: r).map S) (k := k) (by
            rw [h2, List.length_map]
            have : (S [32]).length = 1 := S_len
            rw [this]
            simp at hj
            omega)
          rw [join_S1, List.map_map] at h3
          exact h3
        simp -implicitDefEqProofs [wd, ca_is_word hb, ca_is_word hc, ca_number_of hc, lit28, lit29, lit30, lit19, lit20, lit21, lit24, lit25, e1, e2, e3, e4]
        rw [cut]
        simp -implicitDefEqProofs [jo]
        refine br_intro (fun h1 => ?_) (fun h1 => ?_)
        case refine_2 => simp [rd, h1]
        refine br_intro (fun h2 => ?_) (fun h2 => ?_)
        case refine_1 => simp [rd, h1, of_decide_eq_true h2]
        have g2 := of_decide_eq_false h2
        by_cases hr : r = []
        · subst hr
          simp -implicitDefEqProofs
          refine br_intro (fun h3 => ?_) (fun h3 => ?_)
          · have g3 := of_decide_eq_true h3
            subst g3
            by_cases hN : isN c = true
            · simp -implicitDefEqProofs [numD, hN, isNoneD, rd, h1]
            · have hN : isN c = false := by simpa using hN
              simp -implicitDefEqProofs [numD, hN, isNoneD, rd, h1]
          · have g3 := of_decide_eq_false h3
            refine br_intro (fun h4 => ?_) (fun h4 => ?_)
            · have g4 := of_decide_eq_true h4
              subst g4
              refine br_intro (fun h5 => ?_) (fun h5 => ?_)
              · simp [rd, h1, of_decide_eq_true h5]
              · have g5 := of_decide_eq_false h5
                simp [rd, h1, g5]
            · have g4 := of_decide_eq_false h4
              refine br_intro (fun h5 => br_intro (fun h6 => ?_) (fun h6 => ?_)) (fun h5 => ?_)
              · have g5 : a ∈ W2 := by simpa using h5
                simp [rd, h1, g2, g3, g4, g5, h6]
              · simp [rd, h1, g2, g3, g4, h6]
              · have g5 : a ∉ W2 := by simpa using h5
                simp [rd, h1, g2, g3, g4, g5]
        · have e5 : ¬ ((r.length : Int) + 1 + 1 + 1 = 3) := fun z => hr (List.length_eq_zero_iff.mp (by omega))
          simp -implicitDefEqProofs [e5]
          simp [rd, h1, g2, hr]
  exact h
end K97

/-! P97e: an order read as the law does it. -/
namespace K97
open PySem Y L2
theorem cm_inLS {a : List Nat} {bs : List (List Nat)} {k} (ha : Asc a) (hb : ∀ b ∈ bs, Asc b) : Cm .inn (.str (S a)) (.list (bs.map fun b => .str (S b))) k = k (decide (a ∈ bs)) := by
  show Wo (if PySem.SeqAt.shaped (.str (S a)) && PySem.SeqAt.shaped (.list (bs.map fun b => PyData.str (S b))) then some ((bs.map fun b => PyData.str (S b)).any fun z => PyData.eqv z (.str (S a))) else none) k = _
  have h1 : PySem.SeqAt.shaped (.str (S a)) = true := by
    unfold PySem.SeqAt.shaped
    rw [lay_S ha]
    rfl
  rw [h1, strs_shaped bs hb, any_texts]
  rfl
theorem ca_law_is_word {n : Nat} {w : List Nat} {kc k} (hw : w.length ≤ 1000000) (ha : Asc w) : Ca (run gcs code (n + 1)) 11 [.d (.str (S w))] kc k = k (.d (.bool (isW w))) [.d (.str (S w))] := ca_of (ev_law_is_word n w hw ha)
theorem ca_law_number {n : Nat} {w : List Nat} {kc k} (hw : w.length ≤ 1000000) (ha : Asc w) : Ca (run gcs code (n + 1)) 12 [.d (.str (S w))] kc k = k (.d (numD w)) [.d (.str (S w))] := ca_of (ev_law_number n w hw ha)
theorem ca_asked {n : Nat} {kc k} : Ca (run gcs code (n + 1)) 13 [] kc k = k (.ol AK) [] := by
  obtain ⟨r, outs, h, rfl, rfl⟩ : ∃ r outs, run gcs code (n + 1) 13 [] = some (.v r, outs) ∧ r = .ol AK ∧ outs = [] := by
    refine run_wp rfl ⟨rfl, rfl, rfl, by decide⟩ ?_
    simp -implicitDefEqProofs [c__law_asked, lit8, lit9, lit10, lit11, lit12, lit13, lit14, lit15, lit16, AK]
  exact ca_of h
theorem sp_mem {s : Nat} : ∀ (l w : List Nat), w ∈ sp s l → ∀ c ∈ w, c ∈ l
  | [], w, h, c, hc => by
    have h : w ∈ [([] : List Nat)] := h
    rw [List.mem_singleton.mp h] at hc
    cases hc
  | d :: r, w, h, c, hc => by
    unfold sp at h
    by_cases z : d = s
    · rw [if_pos z] at h
      rcases List.mem_cons.mp h with rfl | h
      · cases hc
      · exact List.mem_cons_of_mem _ (sp_mem r w h c hc)
    · rw [if_neg z] at h
      cases q : sp s r with
      | nil => exact absurd q (sp_ne r)
      | cons v vs =>
        rw [q] at h
        rcases List.mem_cons.mp h with rfl | h
        · rcases List.mem_cons.mp hc with rfl | hc
          · exact List.mem_cons_self
          · exact List.mem_cons_of_mem _ (sp_mem r v (by rw [q]; exact List.mem_cons_self) c hc)
        · exact List.mem_cons_of_mem _ (sp_mem r w (by rw [q]; exact List.mem_cons_of_mem _ h) c hc)
theorem ev_law_read (n : Nat) (l : List Nat) (hl : l.length ≤ 1000000) (hA : Asc l) : run gcs code (n + 2) 14 [.d (.str (S l))] = some (.v (.d (rd (sp 32 l))), [.d (.str (S l))]) := by
  obtain ⟨r, outs, h, rfl, rfl⟩ : ∃ r outs, run gcs code (n + 2) 14 [.d (.str (S l))] = some (.v r, outs) ∧ r = .d (rd (sp 32 l)) ∧ outs = [.d (.str (S l))] := by
    refine run_wp rfl ⟨rfl, rfl, rfl, by decide⟩ ?_
    simp -implicitDefEqProofs [c__law_read, ownO, lit17, mt_split' hl]
    have hm : ∀ w ∈ sp 32 l, w.length ≤ 1000000 := fun w hw => Nat.le_trans (sp_len l w hw) hl
    have hne := sp_ne (s := 32) l
    have hj : jn 32 (sp 32 l) = l := jn_sp l
    have ha : ∀ w ∈ sp 32 l, Asc w := fun w hw c hc => hA c (sp_mem l w hw c hc)
    generalize sp 32 l = ws at hm hne hj ha ⊢
    rcases ws with _ | ⟨a, _ | ⟨b, ws⟩⟩
    · exact absurd rfl hne
    · have hA1 := ha a (by simp)
      have inB : ∀ k, Cm .inn (.str (S a)) (.list [.str (S [98, 111, 111, 107, 115]), .str (S [98, 101, 103, 105, 110]), .str (S [101, 110, 100]), .str (S [100, 114, 111, 112])]) k = k (decide (a ∈ BRW)) := fun k => cm_inLS (bs := BRW) hA1 (by unfold Asc; decide)
      simp -implicitDefEqProofs [wd, lit4, lit5, lit6, lit7, inB]
      refine br_intro (fun h => ?_) (fun h => ?_)
      · simp [rd, of_decide_eq_true h]
      · simp [rd, of_decide_eq_false h]
    · have hb := hm b (by simp)
      have hA1 := ha a (by simp)
      have hA2 := ha b (by simp)
      have in3 : ∀ k, Cm .inn (.str (S a)) (.list [.str (S [98, 111, 111, 107]), .str (S [102, 111, 114, 103, 101, 116]), .str (S [117, 110, 100, 111])]) k = k (decide (a ∈ W3)) := fun k => cm_inLS (bs := W3) hA1 (by unfold Asc; decide)
      have in2 : ∀ k, Cm .inn (.str (S a)) (.list [.str (S [99, 111, 112, 121]), .str (S [97, 108, 105, 107, 101])]) k = k (decide (a ∈ W2)) := fun k => cm_inLS (bs := W2) hA1 (by unfold Asc; decide)
      rcases ws with _ | ⟨c, r⟩
      · simp -implicitDefEqProofs [wd, ca_law_is_word hb hA2, lit28, lit29, lit30, lit21, in3]
        refine br_intro (fun h1 => br_intro (fun _ => br_intro (fun h2 => ?_) (fun h2 => ?_)) (fun _ => br_intro (fun h2 => ?_) (fun h2 => ?_))) (fun h1 => ?_)
        · have h3 : a ∈ W3 := by simpa using h2
          simp [rd, h1, h3]
        · have h3 : a ∉ W3 := by simpa using h2
          simp [rd, h1, h3]
        · have h3 : a ∈ W3 := by simpa using h2
          simp [rd, h1, h3]
        · have h3 : a ∉ W3 := by simpa using h2
          simp [rd, h1, h3]
        · simp [rd, h1]
      · have hc := hm c (by simp)
        have hA3 := ha c (by simp)
        have inA : ∀ k, Cm .inn (.str (S c)) (.list AK) k = k (decide (c ∈ AKW)) := fun k => cm_inLS (bs := AKW) hA3 (by unfold Asc; decide)
        have e1 : ¬ ((r.length : Int) + 1 + 1 + 1 = 1) := by omega
        have e3 : ¬ ((r.length : Int) + 1 + 1 + 1 = 2) := by omega
        have e4 : (2 : Int) < (r.length : Int) + 1 + 1 + 1 := by omega
        have hz : b.length ≤ 16777216 := by omega
        simp -implicitDefEqProofs [wd, ca_law_is_word hb hA2, ca_law_is_word hc hA3, ca_law_number hc hA3, ca_asked, lit28, lit29, lit30, lit19, lit20, lit21, lit24, lit25, in3, in2, inA, e1, e3, e4, hz]
        have cutA : a = wAdd → ∀ k, Sc (.str (S l)) (some ((b.length : Int) + 5)) none k = k (.d (.str (S (jn 32 (c :: r))))) := fun e k => by
          subst e
          rw [sc_S (by omega)]
          rw [jn_cons (by simp), jn_cons (by simp)] at hj
          have hd : l.drop (b.length + 5) = jn 32 (c :: r) := by
            rw [← hj]
            show List.drop (b.length + 5) (wAdd ++ 32 :: (b ++ 32 :: jn 32 (c :: r))) = _
            have e2 : wAdd ++ 32 :: (b ++ 32 :: jn 32 (c :: r)) = (wAdd ++ 32 :: (b ++ [32])) ++ jn 32 (c :: r) := by simp
            rw [e2]
            exact List.drop_left' (by simp)
          have hl2 : b.length + 5 ≤ l.length := by
            rw [← hj]
            simp
          have s1 : HT.sIx l.length 0 (some ((b.length : Int) + 5)) = b.length + 5 := by
            rw [show ((b.length : Int) + 5) = ((b.length + 5 : Nat) : Int) by omega, HT.sIx_nat]
            exact Nat.min_eq_left hl2
          have s2 : HT.sIx l.length l.length none = l.length := rfl
          rw [s1, s2, hd]
          rw [List.take_of_length_le (by rw [← hd, List.length_drop]; exact Nat.le_refl _)]
        refine br_intro (fun h1 => br_intro (fun h2 => ?_) (fun h2 => ?_)) (fun h1 => ?_)
        · have g2 := of_decide_eq_true h2
          rw [cutA g2]
          simp -implicitDefEqProofs [rd, h1, g2]
        · have g2 := of_decide_eq_false h2
          by_cases hr : r = []
          · subst hr
            simp -implicitDefEqProofs
            refine br_intro (fun h3 => ?_) (fun h3 => ?_)
            · have g3 := of_decide_eq_true h3
              subst g3
              by_cases hN : isN c = true
              · simp -implicitDefEqProofs [numD, hN, isNoneD, rd, h1]
              · have hN : isN c = false := by simpa using hN
                simp -implicitDefEqProofs [numD, hN, isNoneD, rd, h1]
            · have g3 := of_decide_eq_false h3
              refine br_intro (fun h4 => ?_) (fun h4 => ?_)
              · have g4 := of_decide_eq_true h4
                subst g4
                refine br_intro (fun h5 => ?_) (fun h5 => ?_)
                · simp [rd, h1, of_decide_eq_true h5]
                · have g5 := of_decide_eq_false h5
                  simp [rd, h1, g5]
              · have g4 := of_decide_eq_false h4
                refine br_intro (fun h5 => br_intro (fun h6 => ?_) (fun h6 => ?_)) (fun h5 => ?_)
                · have g5 : a ∈ W2 := by simpa using h5
                  simp [rd, h1, g2, g3, g4, g5, h6]
                · simp [rd, h1, g2, g3, g4, h6]
                · have g5 : a ∉ W2 := by simpa using h5
                  simp [rd, h1, g2, g3, g4, g5]
          · have e5 : ¬ ((r.length : Int) + 1 + 1 + 1 = 3) := fun z => hr (List.length_eq_zero_iff.mp (by omega))
            simp -implicitDefEqProofs [e5]
            simp [rd, h1, g2, hr]
        · simp [rd, h1]
  exact h
end K97

/-! P97f: texts of orders. -/
namespace K97
open PySem Y L2
def rdL (l : List Nat) : D := rd (sp 32 l)
theorem ca_read_order {n : Nat} {l : List Nat} {kc k} (hl : l.length ≤ 1000000) : Ca (run gcs code (n + 2)) 2 [.d (.str (S l))] kc k = k (.d (rdL l)) [.d (.str (S l))] := ca_of (ev_read_order n l hl)
theorem mt_split10 {l : List Nat} {k} (hz : l.length ≤ 1000000) : Mt .split (.str (S l)) (.str (S [10])) k = k (.ol (wd (sp 10 l))) := by
  show Wo (if ((S [10]).length == 0) = false ∧ (S l).length + 2 ≤ sizeLine then some (O.ol ((Txt.split (S l) (S [10])).map .str)) else none) k = _
  rw [if_pos ⟨by rw [S_len]; rfl, by rw [S_len, sizeN]; omega⟩, split_S (by decide)]
  show k (.ol (((sp 10 l).map S).map .str)) = _
  rw [List.map_map]
  rfl
theorem rd_none : ∀ {ws : List (List Nat)}, isNoneD (rd ws) = true → rd ws = .none := fun {ws} h => by
  cases q : rd ws <;> rw [q] at h <;> first | rfl | cases h
theorem tdc_len {b : Nat} : ∀ (f n : Nat) (acc : List Char), (Nat.toDigitsCore b f n acc).length ≤ f + acc.length
  | 0, n, acc => by
    show acc.length ≤ _
    omega
  | f + 1, n, acc => by
    unfold Nat.toDigitsCore
    simp only
    split
    · simp
      omega
    · have := tdc_len (b := b) f (n / b) (Nat.digitChar (n % b) :: acc)
      simp at this
      omega
theorem exa_nat {m : Nat} (h : m ≤ 2000000) : exArgs [PyData.int (m : Int)] = true := by
  have h1 : (toString (m : Int) : Str).length ≤ 10000000 := by
    have e : Str.ofString (toString (m : Int)) = S ((Nat.toDigits 10 m).map Char.toNat) := PyProof.Rows.text_ofNat m
    have e2 : (toString (m : Int) : Str) = S ((Nat.toDigits 10 m).map Char.toNat) := e
    rw [e2, S_len, List.length_map]
    have := tdc_len (b := 10) (m + 1) m []
    have e3 : Nat.toDigits 10 m = Nat.toDigitsCore 10 (m + 1) m [] := rfl
    rw [e3]
    simp at this
    omega
  have h2 : ((m : Int).natAbs).log2 < 1920 := by
    have := small_of (i := (m : Int)) (by
      rw [Int.natAbs_natCast]
      exact Nat.lt_of_le_of_lt h (Nat.lt_of_lt_of_le (m := 2 ^ 21) (by decide) (Nat.pow_le_pow_right (by decide) (by decide))))
    exact of_decide_eq_true this
  show (decide (((m : Int).natAbs).log2 < 1920) && decide ((toString (m : Int) : Str).length ≤ 10000000) && true) = true
  rw [decide_eq_true h1, decide_eq_true h2]
  rfl
theorem ev_read_orders (n : Nat) (t : List Nat) (ht : t ≠ []) (hl : t.length ≤ 1000000) :
    (∃ r outs, run gcs code (n + 3) 3 [.d (.str (S t))] = some (.v r, outs) ∧ (∀ l ∈ sp 10 t, isNoneD (rdL l) = false) ∧ r = .ol ((sp 10 t).map rdL) ∧ outs = [.d (.str (S t))]) ∨
    ∃ x outs, run gcs code (n + 3) 3 [.d (.str (S t))] = some (.x x, outs) ∧ (∃ (i : Nat) (l : List Nat), (sp 10 t)[i]? = some l ∧ isNoneD (rdL l) = true ∧ (∀ (j : Nat) (m : List Nat), j < i → (sp 10 t)[j]? = some m → isNoneD (rdL m) = false) ∧ x = ⟨0, [.int ((i : Int) + 1)]⟩) ∧ outs = [.d (.str (S t))] := by
  refine run_wx rfl ⟨rfl, rfl, rfl, by decide⟩ ?_
  simp -implicitDefEqProofs [c_read_orders, ownO, lit18, lit23, ht, mt_split10 hl]
  have hm : ∀ w ∈ sp 10 t, w.length ≤ 1000000 := fun w hw => Nat.le_trans (sp_len t w hw) hl
  have hlen : (sp 10 t).length ≤ t.length + 1 := by
    have h1 := jn_sum (s := 10) (sp 10 t)
    rw [jn_sp] at h1
    omega
  generalize sp 10 t = rows at hm hlen ⊢
  refine fr_inv (fun i e => (∀ (j : Nat) (m : List Nat), j < i → rows[j]? = some m → isNoneD (rdL m) = false) ∧ i ≤ rows.length ∧ ∃ a b c, e = [some (.d (.str (S t))), some (.ol ((rows.take i).map rdL)), a, b, c]) ⟨fun j m hj => absurd hj (Nat.not_lt_zero _), Nat.zero_le _, none, none, none, by simp⟩ ?_ ?_
  · intro i x e hx he
    obtain ⟨hp, hi, he⟩ := he
    have hx2 : ∃ l, rows[i]? = some l ∧ x = .tuple [.int (i : Nat), .str (S l)] := by
      unfold enumD wd at hx
      rw [List.getElem?_mapIdx, List.getElem?_map] at hx
      cases q : rows[i]? with
      | none =>
        rw [q] at hx
        cases hx
      | some l =>
        rw [q] at hx
        cases hx
        exact ⟨l, rfl, rfl⟩
    obtain ⟨l, hr, rfl⟩ := hx2
    have hl2 := hm l (List.mem_of_getElem? hr)
    have hil : i < rows.length := (List.getElem?_eq_some_iff.mp hr).1
    have hz : ((rows.take i).map rdL).length < sizeLine := by
      rw [List.length_map, List.length_take, sizeN]
      omega
    have htk : (rows.take (i + 1)).map rdL = (rows.take i).map rdL ++ [rdL l] := by
      rw [List.take_add_one, hr, List.map_append]
      rfl
    have exa : exArgs [PyData.int ((i : Int) + 1)] = true := by
      have := exa_nat (m := i + 1) (by omega)
      exact this
    rw [htk]
    generalize (rows.take i).map rdL = acc at hz he ⊢
    obtain ⟨a, b, c, rfl⟩ := he
    simp -implicitDefEqProofs [ca_read_order hl2, hz, exa]
    refine br_intro (fun h => ?_) (fun h => ?_)
    · exact ⟨i, l, hr, h, hp, rfl⟩
    · refine ⟨fun j m hj hm2 => ?_, by omega⟩
      by_cases z : j = i
      · subst z
        rw [hr] at hm2
        cases hm2
        exact h
      · exact hp j m (by omega) hm2
  · intro e he
    obtain ⟨hp, hi, a, b, c, rfl⟩ := he
    have hn : (enumD (wd rows)).length = rows.length := by simp [enumD, wd]
    rw [hn] at hp ⊢
    rw [List.take_length]
    simp -implicitDefEqProofs
    intro l hl3
    obtain ⟨j, hj, rfl⟩ := List.mem_iff_getElem.mp hl3
    exact hp j _ hj (List.getElem?_eq_getElem hj)
end K97

/-! P97g: what a text of orders comes to. -/
namespace K97
open PySem Y L2
theorem litTold : PySem.Str.ofString "told" = S [116, 111, 108, 100] := by decide +kernel
theorem litWrong : PySem.Str.ofString "wrong" = S [119, 114, 111, 110, 103] := by decide +kernel
/-- the answer for these lines -/
def told (rows : List (List Nat)) : D := match idxD .none (rows.map rdL) with
  | some i => .tuple [.str (S [119, 114, 111, 110, 103]), .int ((i : Int) + 1)]
  | none => .tuple [.str (S [116, 111, 108, 100]), .list (rows.map rdL)]
theorem eqv_none {d : D} : PyData.eqv d .none = isNoneD d := by cases d <;> rfl
theorem idx_none : ∀ {ds : List D}, (∀ d ∈ ds, isNoneD d = false) → idxD .none ds = none
  | [], _ => rfl
  | d :: ds, h => by
    unfold idxD
    rw [eqv_none, h d List.mem_cons_self, idx_none fun x hx => h x (List.mem_cons_of_mem _ hx)]
    rfl
theorem idx_first : ∀ {ds : List D} {i : Nat} {d : D}, ds[i]? = some d → isNoneD d = true → (∀ (j : Nat) (m : D), j < i → ds[j]? = some m → isNoneD m = false) → idxD .none ds = some i
  | [], i, d, h, _, _ => by simp at h
  | x :: ds, i, d, h, h1, h2 => by
    unfold idxD
    rw [eqv_none]
    cases i with
    | zero =>
      cases h
      rw [h1]
      rfl
    | succ i =>
      rw [h2 0 x (Nat.succ_pos _) rfl, idx_first (i := i) (by simpa using h) h1 fun j m hj hm => h2 (j + 1) m (by omega) (by simpa using hm)]
      rfl
theorem ev_law_text (n : Nat) (t : List Nat) (ht : t ≠ []) (hl : t.length ≤ 1000000) : run gcs code (n + 4) 18 [.d (.str (S t))] = some (.v (.d (told (sp 10 t))), [.d (.str (S t))]) := by
  obtain ⟨r, outs, h, rfl, rfl⟩ : ∃ r outs, run gcs code (n + 4) 18 [.d (.str (S t))] = some (.v r, outs) ∧ r = .d (told (sp 10 t)) ∧ outs = [.d (.str (S t))] := by
    refine run_wp rfl ⟨rfl, rfl, rfl, by decide⟩ ?_
    rcases ev_read_orders n t ht hl with ⟨r, outs, h, h1, rfl, rfl⟩ | ⟨x, outs, h, ⟨i, l, h1, h2, h3, rfl⟩, rfl⟩
    · have ca : ∀ kc k, Ca (run gcs code (n + 3)) 3 [.d (.str (S t))] kc k = k (.ol ((sp 10 t).map rdL)) [.d (.str (S t))] := fun kc k => ca_of h
      simp -implicitDefEqProofs [c__law_text, ownO, ws_try, litTold, ca]
      unfold told
      rw [idx_none (by
        intro d hd
        obtain ⟨l, hl2, rfl⟩ := List.mem_map.mp hd
        exact h1 l hl2)]
    · have ca : ∀ kc k, Ca (run gcs code (n + 3)) 3 [.d (.str (S t))] kc k = kc ⟨0, [.int ((i : Int) + 1)]⟩ [.d (.str (S t))] := fun kc k => ca_ex h
      have e : told (sp 10 t) = .tuple [.str (S [119, 114, 111, 110, 103]), .int ((i : Int) + 1)] := by
        unfold told
        rw [idx_first (i := i) (d := rdL l) (by rw [List.getElem?_map, h1]; rfl) h2 (fun j m hj hm => by
          rw [List.getElem?_map] at hm
          cases q : (sp 10 t)[j]? with
          | none =>
            rw [q] at hm
            cases hm
          | some m2 =>
            rw [q] at hm
            cases hm
            exact h3 j m2 hj q)]
      simp -implicitDefEqProofs [c__law_text, ownO, ws_try, litTold, litWrong, ca, Tr, HX.ev, e]
      exact rfl
  exact h
end K97

/-! P97h: draws. -/
namespace K97
open PySem Y L2
def bx (ds : List Int) (c : Nat) : List D := [.list (intL ds), .int c]
def dr (ds : List Int) (c : Nat) (many : Int) : Int := if (ds.length : Int) < c + 1 then ((c + 1) * 7 + 3) % many else (ds[c]?).getD 0 % many
theorem dr_lo {ds : List Int} {c : Nat} {many : Int} (h : 0 < many) : 0 ≤ dr ds c many := by
  unfold dr
  split <;> exact Int.emod_nonneg _ (by omega)
theorem dr_hi {ds : List Int} {c : Nat} {many : Int} (h : 0 < many) : dr ds c many < many := by
  unfold dr
  split <;> exact Int.emod_lt_of_pos _ h
theorem at_ints {xs : List Int} {j : Nat} {k} (h : j < xs.length) : At (intL xs) (j : Int) k = k (.int xs[j]) := at_nat (by unfold intL; rw [List.getElem?_map, List.getElem?_eq_getElem h]; rfl)
theorem ev_draw (n : Nat) (ds : List Int) (c : Nat) (many : Int) (hm : 0 < many) : run gcs code (n + 1) 8 [.ol (bx ds c), .d (.int many)] = some (.v (.d (.int (dr ds c many))), [.ol (bx ds (c + 1)), .d (.int many)]) := by
  obtain ⟨r, outs, h, rfl, rfl⟩ : ∃ r outs, run gcs code (n + 1) 8 [.ol (bx ds c), .d (.int many)] = some (.v r, outs) ∧ r = .d (.int (dr ds c many)) ∧ outs = [.ol (bx ds (c + 1)), .d (.int many)] := by
    refine run_wp rfl ⟨rfl, rfl, rfl, by decide⟩ ?_
    simp -implicitDefEqProofs [c__law_draw, ownO, bx, hm, intL_len, dr]
    by_cases h : (ds.length : Int) < c + 1
    · simp -implicitDefEqProofs [h]
      intro z
      omega
    · have h2 : c < ds.length := by omega
      simp -implicitDefEqProofs [h, at_ints h2, hm, h2]
  exact h
@[simp ↓] theorem ca_draw {n : Nat} {ds : List Int} {c : Nat} {many : Int} {kc k} (hm : 0 < many) : Ca (run gcs code (n + 1)) 8 [.ol (bx ds c), .d (.int many)] kc k = k (.d (.int (dr ds c many))) [.ol (bx ds (c + 1)), .d (.int many)] := ca_of (ev_draw n ds c many hm)
@[simp ↓] theorem ca_cell {n : Nat} {ns : List Int} {j : Nat} {kc k} : Ca (run gcs code (n + 1)) 6 [.d (.list (intL ns)), .d (.int j)] kc k = k (.d (.int ((ns[j]?).getD 0))) [.d (.list (intL ns)), .d (.int j)] := by
  obtain ⟨r, outs, h, rfl, rfl⟩ : ∃ r outs, run gcs code (n + 1) 6 [.d (.list (intL ns)), .d (.int j)] = some (.v r, outs) ∧ r = .d (.int ((ns[j]?).getD 0)) ∧ outs = [.d (.list (intL ns)), .d (.int j)] := by
    refine run_wp rfl ⟨rfl, rfl, rfl, by decide⟩ ?_
    simp -implicitDefEqProofs [c__law_cell, ownO, intL_len]
    by_cases h : j < ns.length
    · simp -implicitDefEqProofs [h, at_ints h]
    · simp -implicitDefEqProofs [h]
  exact ca_of h
/-- the digits: ints -/
theorem ev_digits (n : Nat) (ns : List Int) : ∃ ds : List Int, run gcs code (n + 2) 7 [.d (.list (intL ns)), .d (.int 0), .d (.int 60)] = some (.v (.ol (intL ds)), [.d (.list (intL ns)), .d (.int 0), .d (.int 60)]) := by
  obtain ⟨r, outs, h, ⟨ds, rfl⟩, rfl⟩ : ∃ r outs, run gcs code (n + 2) 7 [.d (.list (intL ns)), .d (.int 0), .d (.int 60)] = some (.v r, outs) ∧ (∃ ds, r = .ol (intL ds)) ∧ outs = [.d (.list (intL ns)), .d (.int 0), .d (.int 60)] := by
    refine run_wp rfl ⟨rfl, rfl, rfl, by decide⟩ ?_
    simp -implicitDefEqProofs [c__law_digits, ownO, Rg, sizeL]
    refine fr_inv (fun i e => ∃ (ds : List Int) (a b c d : Option O), ds.length ≤ 60 * i ∧ e = [some (.d (.list (intL ns))), some (.d (.int 0)), some (.d (.int 60)), some (.ol (intL ds)), a, b, c, d]) ⟨[], _, _, _, _, by simp, rfl⟩ ?_ ?_
    · rintro i x e hx ⟨ds, a, b, c, d, hd, rfl⟩
      obtain ⟨hi, rfl⟩ := mem_range hx
      have pw : ∀ k, Bn .pow (.int 10) (.int 18) k = k (.d (.int 1000000000000000000)) := fun k => bn_pow (by decide)
      simp -implicitDefEqProofs [Rg1, sizeL, pw]
      refine br_intro (fun _ => ?_) (fun _ => ?_)
      all_goals
        refine br_intro (fun _ => ?_) (fun _ => ?_)
        · refine fr_inv (fun j e => ∃ (ds2 : List Int) (cell : Int) (t u : Option O), ds2.length ≤ ds.length + j ∧ e = [some (.d (.list (intL ns))), some (.d (.int 0)), some (.d (.int 60)), some (.ol (intL ds2)), some (.d (.int i)), some (.d (.int cell)), t, u]) ⟨ds, _, _, _, by simp, rfl⟩ ?_ ?_
          · rintro j x e hx ⟨ds2, cell, t, u, hd2, rfl⟩
            obtain ⟨hj, rfl⟩ := mem_range hx
            have hz : (intL ds2).length < sizeLine := by rw [intL_len, sizeN]; omega
            simp -implicitDefEqProofs [hz]
            refine br_intro (fun _ => ?_) (fun _ => ?_)
            · exact ⟨ds2 ++ [cell % 1000], by simp; omega, intL_snoc⟩
            · exact ⟨ds2, by omega, rfl⟩
          · rintro e ⟨ds2, cell, t, u, hd2, rfl⟩
            rw [range_len] at hd2
            exact ⟨ds2, by omega, _, _, _, _, rfl⟩
        · refine fr_inv (fun j e => ∃ (ds2 : List Int) (cell : Int) (t : Option O) (u : Int), ds2.length ≤ ds.length + j ∧ e = [some (.d (.list (intL ns))), some (.d (.int 0)), some (.d (.int 60)), some (.ol (intL ds2)), some (.d (.int i)), some (.d (.int cell)), t, some (.d (.int u))]) ⟨ds, _, _, _, by simp, rfl⟩ ?_ ?_
          · rintro j x e hx ⟨ds2, cell, t, u, hd2, rfl⟩
            obtain ⟨hj, rfl⟩ := mem_range hx
            have hz : (intL ds2).length < sizeLine := by rw [intL_len, sizeN]; omega
            simp -implicitDefEqProofs [hz]
            exact ⟨ds2 ++ [(u * 16807 + 7 * (j : Int) + 1) % 2147483647 / 997 % 1000], by simp; omega, intL_snoc⟩
          · rintro e ⟨ds2, cell, t, u, hd2, rfl⟩
            rw [range_len] at hd2
            exact ⟨ds2, by omega, _, _, _, _, rfl⟩
    · rintro e ⟨ds, a, b, c, d, hd, rfl⟩
      simp -implicitDefEqProofs
      exact ⟨ds, rfl⟩
  exact ⟨ds, h⟩
end K97

/-! P97i: picks. -/
namespace K97
open PySem Y L2
def pk (ds : List Int) (c : Nat) (m : Nat) : Nat := (dr ds c 1000 % (m : Int)).toNat
theorem pk_lt {ds : List Int} {c m : Nat} (h : 0 < m) : pk ds c m < m := by
  unfold pk
  have h1 := Int.emod_nonneg (dr ds c 1000) (show (m : Int) ≠ 0 by omega)
  have h2 := Int.emod_lt_of_pos (dr ds c 1000) (show (0 : Int) < m by omega)
  omega
theorem ev_pick (n : Nat) (ds : List Int) (c : Nat) (xs : List D) (hx : xs ≠ []) : run gcs code (n + 2) 9 [.ol (bx ds c), .d (.list xs)] = some (.v (.d ((xs[pk ds c xs.length]?).getD .none)), [.ol (bx ds (c + 1)), .d (.list xs)]) := by
  obtain ⟨r, outs, h, rfl, rfl⟩ : ∃ r outs, run gcs code (n + 2) 9 [.ol (bx ds c), .d (.list xs)] = some (.v r, outs) ∧ r = .d ((xs[pk ds c xs.length]?).getD .none) ∧ outs = [.ol (bx ds (c + 1)), .d (.list xs)] := by
    refine run_wp rfl ⟨rfl, rfl, rfl, by decide⟩ ?_
    have hl : 0 < xs.length := List.length_pos_iff.mpr hx
    have hl2 : (0 : Int) < xs.length := by omega
    have hp := pk_lt (ds := ds) (c := c) hl
    have he : dr ds c 1000 % (xs.length : Int) = (pk ds c xs.length : Int) := by
      unfold pk
      have h1 := Int.emod_nonneg (dr ds c 1000) (show (xs.length : Int) ≠ 0 by omega)
      omega
    have ha : ∀ k, At xs (pk ds c xs.length : Int) k = k (xs[pk ds c xs.length]) := fun k => at_nat (List.getElem?_eq_getElem hp)
    have bm : ∀ k, Bn .mod (.int (dr ds c 1000)) (.int (xs.length : Int)) k = k (.d (.int (pk ds c xs.length : Int))) := fun k => by rw [bn_mod hl2, he]
    simp -implicitDefEqProofs [c__law_pick, ownO, bm, ha]
    rw [List.getElem?_eq_getElem hp]
    rfl
  exact h
theorem ca_pick {n : Nat} {ds : List Int} {c : Nat} {xs : List D} {kc k} (hx : xs ≠ []) : Ca (run gcs code (n + 2)) 9 [.ol (bx ds c), .d (.list xs)] kc k = k (.d ((xs[pk ds c xs.length]?).getD .none)) [.ol (bx ds (c + 1)), .d (.list xs)] := ca_of (ev_pick n ds c xs hx)
end K97

/-! P97j: picks, by what is picked. -/
namespace K97
open PySem Y L2
theorem ev_of {n f : Nat} {os outs : List O} {r : O} (h : ∃ r' outs', run gcs code n f os = some (.v r', outs') ∧ r' = r ∧ outs' = outs) : run gcs code n f os = some (.v r, outs) := by
  obtain ⟨r', outs', h, rfl, rfl⟩ := h
  exact h
theorem dr_nat {ds : List Int} {c : Nat} {many : Nat} (h : 0 < many) : ∃ q : Nat, dr ds c many = q ∧ q < many := by
  have h1 := dr_lo (ds := ds) (c := c) (many := (many : Int)) (by omega)
  have h2 := dr_hi (ds := ds) (c := c) (many := (many : Int)) (by omega)
  exact ⟨(dr ds c many).toNat, by omega, by omega⟩
theorem ev_pickS (n : Nat) (ds : List Int) (c : Nat) {l : List Nat} (h : 0 < l.length) (hz : l.length ≤ 1000) : ∃ d, d ∈ l ∧ run gcs code (n + 2) 9 [.ol (bx ds c), .d (.str (S l))] = some (.v (.d (.str (S [d]))), [.ol (bx ds (c + 1)), .d (.str (S l))]) := by
  obtain ⟨q, hq, _⟩ := dr_nat (ds := ds) (c := c) (many := 1000) (by decide)
  have hj : q % l.length < l.length := Nat.mod_lt _ h
  refine ⟨(l[q % l.length]?).getD 0, by rw [List.getElem?_eq_getElem hj]; exact List.getElem_mem hj, ev_of (run_wp rfl ⟨rfl, rfl, rfl, by decide⟩ ?_)⟩
  have ix : ∀ k, Ix (.str (S l)) (.int ((q : Int) % (l.length : Int))) k = k (.str (S [(l[q % l.length]?).getD 0])) := fun k => by
    rw [show (q : Int) % (l.length : Int) = ((q % l.length : Nat) : Int) by omega]
    exact ix_S (show l.length ≤ 16777216 by omega) hj
  have hq : dr ds c 1000 = q := hq
  simp -implicitDefEqProofs [c__law_pick, ownO, hq, show l.length ≤ 16777216 by omega, h, ix]
theorem ev_pickL (n : Nat) (ds : List Int) (c : Nat) {xs : List D} (h : 0 < xs.length) (hz : xs.length ≤ 1000) : ∃ d, d ∈ xs ∧ run gcs code (n + 2) 9 [.ol (bx ds c), .d (.list xs)] = some (.v (.d d), [.ol (bx ds (c + 1)), .d (.list xs)]) := by
  obtain ⟨q, hq, _⟩ := dr_nat (ds := ds) (c := c) (many := 1000) (by decide)
  have hj : q % xs.length < xs.length := Nat.mod_lt _ h
  refine ⟨xs[q % xs.length], List.getElem_mem hj, ev_of (run_wp rfl ⟨rfl, rfl, rfl, by decide⟩ ?_)⟩
  have ix : ∀ k, At xs ((q : Int) % (xs.length : Int)) k = k xs[q % xs.length] := fun k => by
    rw [show (q : Int) % (xs.length : Int) = ((q % xs.length : Nat) : Int) by omega]
    exact at_nat (List.getElem?_eq_getElem hj)
  have hq : dr ds c 1000 = q := hq
  simp -implicitDefEqProofs [c__law_pick, ownO, hq, h, ix]
end K97

/-! P97k: drawn words. -/
namespace K97
open PySem Y L2
theorem ev_word (n : Nat) (ds : List Int) (c : Nat) : ∃ (l : List Nat) (c' : Nat), isW l = true ∧ run gcs code (n + 3) 15 [.ol (bx ds c)] = some (.v (.d (.str (S l))), [.ol (bx ds c')]) := by
  obtain ⟨r, outs, h, l, c', h1, rfl, rfl⟩ : ∃ r outs, run gcs code (n + 3) 15 [.ol (bx ds c)] = some (.v r, outs) ∧ ∃ (l : List Nat) (c' : Nat), isW l = true ∧ r = .d (.str (S l)) ∧ outs = [.ol (bx ds c')] := by
    refine run_wp rfl ⟨rfl, rfl, rfl, by decide⟩ ?_
    obtain ⟨d, hd, hp⟩ := ev_pickL n ds c (xs := [.int 1, .int 2, .int 3, .int 5, .int 8]) (by decide) (by decide)
    obtain ⟨m, hm, rfl⟩ : ∃ m : Nat, (1 ≤ m ∧ m ≤ 8) ∧ d = .int m := by
      simp only [List.mem_cons, List.not_mem_nil, or_false] at hd
      rcases hd with rfl | rfl | rfl | rfl | rfl
      · exact ⟨1, by decide, rfl⟩
      · exact ⟨2, by decide, rfl⟩
      · exact ⟨3, by decide, rfl⟩
      · exact ⟨5, by decide, rfl⟩
      · exact ⟨8, by decide, rfl⟩
    have cp := fun kc k => ca_of (kc := kc) (k := k) hp
    simp -implicitDefEqProofs [c__law_word, ownO, cp, show m ≤ 1000000 by omega, lit18]
    refine lc_inv (fun i acc e => ∃ (zs : List Nat) (c2 : Nat), acc = zs.map (fun z => PyData.str (S [z])) ∧ zs.length = i ∧ (∀ z ∈ zs, z ∈ AZ) ∧ e = [some (.ol (bx ds c2)), none]) rfl ⟨[], c + 1, rfl, rfl, fun _ h => (nomatch h), rfl⟩ ?_ ?_
    · rintro i x acc e hx hP
      obtain ⟨hi, rfl⟩ := mem_range hx
      obtain ⟨zs, c2, rfl, hz, hz2, rfl⟩ := hP
      obtain ⟨d, hd, hq⟩ := ev_pickS n ds c2 (l := AZ) (by decide) (by decide)
      have cq := fun kc k => ca_of (kc := kc) (k := k) hq
      simp -implicitDefEqProofs [T1, wipeE, litAZ, cq]
      refine ⟨zs ++ [d], by simp, by simp [hz], fun z h => ?_, _, rfl⟩
      rcases List.mem_append.mp h with h | h
      · exact hz2 z h
      · have : z = d := by simpa using h
        rw [this]
        exact hd
    · rintro acc e1 ⟨zs, c2, rfl, hz, hz2, rfl⟩
      rw [range_len] at hz
      have e1 : zs.map (fun z => PyData.str (S [z])) = ((zs.map fun z => [z]).map S).map PyData.str := by simp
      have ones : ∀ zs : List Nat, (zs.map fun _ => 1).sum = zs.length := fun zs => by
        induction zs with
        | nil => rfl
        | cons z zs ih => simp [ih]; omega
      rw [e1, mt_join' (by simp [S_len, Function.comp_def, ones]; omega)]
      show oo _ _ _
      simp -implicitDefEqProofs [backE]
      refine ⟨zs, ?_, ?_, _, rfl⟩
      · unfold isW
        rw [decide_eq_true (show 1 ≤ zs.length by omega), decide_eq_true (show zs.length ≤ 8 by omega)]
        simp only [Bool.true_and, List.all_eq_true, decide_eq_true_eq]
        exact hz2
      · have j := join_S (xs := zs.map fun z => [z])
        have fl : (zs.map fun z => [z]).flatten = zs := by
          clear j e1 hz hz2
          induction zs with
          | nil => rfl
          | cons z zs ih => simp [ih]
        rw [fl, List.map_map] at j
        rw [← j]
        exact PySem.StrLaws.glued_eq_join _ _
  exact ⟨l, c', h1, h⟩
end K97

/-! P97l: orders, written. -/
namespace K97
open PySem Y L2
/-- the figures of a number -/
def dg (m : Nat) : List Nat := (Nat.toDigits 10 m).map Char.toNat
theorem str_nat {m : Nat} : Str.ofString (toString (m : Int)) = S (dg m) := PyProof.Rows.text_ofNat m
/-- an order's part, and how it is written -/
inductive Pt where
  | t (w : List Nat)
  | n (m : Nat)
def Pt.d : Pt → D
  | .t w => .str (S w)
  | .n m => .int m
def Pt.w : Pt → List Nat
  | .t w => w
  | .n m => dg m
def Pt.ok : Pt → Prop
  | .t w => w.length ≤ 1000
  | .n m => m ≤ 9999
theorem small_nat {m : Nat} (h : m ≤ 2000000) : Y.smallInt (m : Int) = true := small_of (by
  rw [Int.natAbs_natCast]
  exact Nat.lt_of_le_of_lt h (Nat.lt_of_lt_of_le (m := 2 ^ 21) (by decide) (Nat.pow_le_pow_right (by decide) (by decide))))
theorem dg_le {m : Nat} : (dg m).length ≤ m + 1 := by
  unfold dg
  rw [List.length_map]
  have := tdc_len (b := 10) (m + 1) m []
  have e : Nat.toDigits 10 m = Nat.toDigitsCore 10 (m + 1) m [] := rfl
  rw [e]
  simpa using this
theorem ev_write_order (n : Nat) (ps : List Pt) (hp : ∀ p ∈ ps, p.ok) (hl : ps.length ≤ 10) : run gcs code (n + 1) 4 [.d (.tuple (ps.map Pt.d))] = some (.v (.d (.str (S (jn 32 (ps.map Pt.w))))), [.d (.tuple (ps.map Pt.d))]) := by
  refine ev_of (run_wp rfl ⟨rfl, rfl, rfl, by decide⟩ ?_)
  simp -implicitDefEqProofs [c_write_order, ownO, lit17]
  refine lc_fm ps Pt.d (fun p => some (.str (S p.w))) [some (.d (.tuple (ps.map Pt.d))), none] rfl rfl rfl (fun p hp2 => ?_) ?_
  · have ho := hp p hp2
    cases p with
    | t w =>
      simp -implicitDefEqProofs [T1, Pt.d, Pt.w]
      rfl
    | n m =>
      have hm : m ≤ 9999 := ho
      have bs : ∀ k, Bt .str (.int (m : Int)) k = k (.d (.str (S (dg m)))) := fun k => by
        rw [bt_strI (small_nat (by omega))]
        exact congrArg (fun z => k (.d (.str z))) str_nat
      simp -implicitDefEqProofs [T1, Pt.d, Pt.w, bs]
      rfl
  · rw [fm_some]
    have jo : ∀ k, Mt .join (.str (S [32])) (.list (ps.map fun p => PyData.str (S p.w))) k = k (.d (.str (S (jn 32 (ps.map Pt.w))))) := fun k => by
      have hs : ∀ ps : List Pt, (∀ p ∈ ps, p.ok) → ((ps.map fun p => p.w.length).sum) ≤ ps.length * 10000 := by
        intro ps
        induction ps with
        | nil => intro _; simp
        | cons p ps ih =>
          intro h
          have h1 := ih fun q hq => h q (List.mem_cons_of_mem _ hq)
          have h2 : p.w.length ≤ 10000 := by
            have ho := h p List.mem_cons_self
            cases p with
            | t w => exact Nat.le_trans (show w.length ≤ 1000 from ho) (by decide)
            | n m =>
              have hm : m ≤ 9999 := ho
              have := dg_le (m := m)
              show (dg m).length ≤ 10000
              omega
          rw [List.map_cons, List.sum_cons, List.length_cons]
          omega
      have h0 := hs ps hp
      have h3 := mt_join' (t := S [32]) (ys := (ps.map Pt.w).map S) (k := k) (by
        have e1 : (((ps.map Pt.w).map S).map (·.length)).sum = (ps.map fun p => p.w.length).sum := by
          rw [List.map_map, List.map_map]
          exact congrArg List.sum (List.map_congr_left fun p _ => S_len)
        rw [e1, List.length_map, List.length_map]
        have : (S [32]).length = 1 := S_len
        rw [this]
        omega)
      rw [join_S1, List.map_map, List.map_map] at h3
      exact h3
    simp -implicitDefEqProofs [backE, jo]
/-- a line -/
def ln (ps : List Pt) : List Nat := jn 32 (ps.map Pt.w)
theorem jn_len {s : Nat} : ∀ ws : List (List Nat), (jn s ws).length ≤ (ws.map List.length).sum + ws.length
  | [] => by simp [jn]
  | [w] => by simp [jn]
  | w :: v :: vs => by
    have := jn_len (s := s) (v :: vs)
    rw [jn_cons (by simp), List.map_cons, List.sum_cons, List.length_cons, List.length_append]
    have e : (s :: jn s (v :: vs)).length = (jn s (v :: vs)).length + 1 := rfl
    omega
theorem ca_write_order {n : Nat} {ps : List Pt} {kc k} (hp : ∀ p ∈ ps, p.ok) (hl : ps.length ≤ 10) : Ca (run gcs code (n + 1)) 4 [.d (.tuple (ps.map Pt.d))] kc k = k (.d (.str (S (ln ps)))) [.d (.tuple (ps.map Pt.d))] := ca_of (ev_write_order n ps hp hl)
theorem ev_write_orders (n : Nat) (os : List (List Pt)) (hp : ∀ ps ∈ os, (∀ p ∈ ps, p.ok) ∧ ps.length ≤ 10 ∧ (ln ps).length ≤ 10000) (hl : os.length ≤ 10) : run gcs code (n + 2) 5 [.d (.list (os.map fun ps => .tuple (ps.map Pt.d)))] = some (.v (.d (.str (S (jn 10 (os.map ln))))), [.d (.list (os.map fun ps => .tuple (ps.map Pt.d)))]) := by
  refine ev_of (run_wp rfl ⟨rfl, rfl, rfl, by decide⟩ ?_)
  simp -implicitDefEqProofs [c_write_orders, ownO, lit23]
  refine lc_fm os (fun ps => .tuple (ps.map Pt.d)) (fun ps => some (.str (S (ln ps)))) [some (.d (.list (os.map fun ps => .tuple (ps.map Pt.d)))), none] rfl rfl rfl (fun ps hp2 => ?_) ?_
  · obtain ⟨h1, h2, _⟩ := hp ps hp2
    simp -implicitDefEqProofs [T1, ca_write_order h1 h2]
    rfl
  · rw [fm_some]
    have jo : ∀ k, Mt .join (.str (S [10])) (.list (os.map fun ps => PyData.str (S (ln ps)))) k = k (.d (.str (S (jn 10 (os.map ln))))) := fun k => by
      have hs : ∀ os : List (List Pt), (∀ ps ∈ os, (ln ps).length ≤ 10000) → ((os.map fun ps => (ln ps).length).sum) ≤ os.length * 10000 := by
        intro os
        induction os with
        | nil => intro _; simp
        | cons p ps ih =>
          intro h
          have h1 := ih fun q hq => h q (List.mem_cons_of_mem _ hq)
          have h2 := h p List.mem_cons_self
          rw [List.map_cons, List.sum_cons, List.length_cons]
          omega
      have h0 := hs os fun ps h => (hp ps h).2.2
      have h3 := mt_join' (t := S [10]) (ys := (os.map ln).map S) (k := k) (by
        have e1 : (((os.map ln).map S).map (·.length)).sum = (os.map fun ps => (ln ps).length).sum := by
          rw [List.map_map, List.map_map]
          exact congrArg List.sum (List.map_congr_left fun p _ => S_len)
        rw [e1, List.length_map, List.length_map]
        have : (S [10]).length = 1 := S_len
        rw [this]
        omega)
      rw [join_S1, List.map_map, List.map_map] at h3
      exact h3
    simp -implicitDefEqProofs [backE, jo]
end K97

/-! P97m: alike. -/
namespace K97
open PySem Y L2
theorem ev_same0 (n k m : Nat) (d : D) (h : Nice d k m) (hm : m ≤ 1000000) (ih : ∀ x, (∃ k', k = k' + 1 ∧ Nice x k' m) → run gcs code n 10 [.d x, .d x] = some (.v (.d (.bool true)), [.d x, .d x])) : run gcs code (n + 1) 10 [.d d, .d d] = some (.v (.d (.bool true)), [.d d, .d d]) := by
  refine ev_of (run_wp rfl ⟨rfl, rfl, rfl, by decide⟩ ?_)
  have hz : sizeLine = 16777216 := sizeN
  cases d with
  | none =>
    simp -implicitDefEqProofs [c__law_same, isNoneD]
  | bool b =>
    cases b <;> simp -implicitDefEqProofs [c__law_same, isNoneD, isBoolD]
  | int i =>
    have hi : Y.smallInt i = true := h.sho
    have br := fun k => bt_reprI (k := k) hi
    simp -implicitDefEqProofs [c__law_same, isNoneD, isBoolD, tyD, br]
  | str x =>
    have br := fun k => bt_reprS (x := x) (k := k) (by have := h.siz; simp only [mx] at this; omega)
    simp -implicitDefEqProofs [c__law_same, isNoneD, isBoolD, tyD, br]
  | list xs =>
    obtain ⟨k', rfl, hx, hl⟩ := nice_items (.inl h)
    simp -implicitDefEqProofs [c__law_same, isNoneD, isBoolD, tyD, show xs.length ≤ 1000000 by omega]
    refine fr_inv (fun i e => ∃ x3, e = [some (.d (.list xs)), some (.d (.list xs)), x3]) ⟨_, rfl⟩ ?_ ?_
    · rintro i x e hx' ⟨x3, rfl⟩
      obtain ⟨hi, rfl⟩ := mem_range hx'
      have ai := fun k => at_nat (k := k) (List.getElem?_eq_getElem hi)
      have ca := fun kc k => ca_of (kc := kc) (k := k) (ih _ ⟨_, rfl, hx _ (List.getElem_mem hi)⟩)
      simp -implicitDefEqProofs [ai, ca]
    · rintro e ⟨x3, rfl⟩
      simp -implicitDefEqProofs
  | tuple xs =>
    obtain ⟨k', rfl, hx, hl⟩ := nice_items (.inr h)
    simp -implicitDefEqProofs [c__law_same, isNoneD, isBoolD, tyD, show xs.length ≤ 1000000 by omega]
    refine fr_inv (fun i e => ∃ x3, e = [some (.d (.tuple xs)), some (.d (.tuple xs)), x3]) ⟨_, rfl⟩ ?_ ?_
    · rintro i x e hx' ⟨x3, rfl⟩
      obtain ⟨hi, rfl⟩ := mem_range hx'
      have ai := fun k => at_nat (k := k) (List.getElem?_eq_getElem hi)
      have ca := fun kc k => ca_of (kc := kc) (k := k) (ih _ ⟨_, rfl, hx _ (List.getElem_mem hi)⟩)
      simp -implicitDefEqProofs [ai, ca]
    · rintro e ⟨x3, rfl⟩
      simp -implicitDefEqProofs
  | dict kvs =>
    have := h.lay
    simp only [PyData.canLay0] at this
    cases this
theorem ev_same {m : Nat} (hm : m ≤ 1000000) : ∀ (k n : Nat) {d : D}, Nice d k m → run gcs code (n + k + 1) 10 [.d d, .d d] = some (.v (.d (.bool true)), [.d d, .d d])
  | 0, n, d, h => ev_same0 (n + 0) 0 m d h hm fun x hx => by
    obtain ⟨k', h1, _⟩ := hx
    cases h1
  | k + 1, n, d, h => ev_same0 (n + (k + 1)) (k + 1) m d h hm fun x hx => by
    obtain ⟨k', h1, h2⟩ := hx
    cases h1
    exact ev_same hm k n h2
theorem ca_same {n : Nat} {d : D} {kc k} (h : Nice d 4 1000000) : Ca (run gcs code (n + 5)) 10 [.d d, .d d] kc k = k (.d (.bool true)) [.d d, .d d] := ca_of (ev_same (m := 1000000) (by omega) 4 n h)
end K97

/-! P97n: drawn orders. -/
namespace K97
open PySem Y L2
/-- an order that reads back -/
structure Good (ps : List Pt) : Prop where
  ok : ∀ p ∈ ps, p.ok
  len : ps.length ≤ 10
  back : rdL (ln ps) = .tuple (ps.map Pt.d)
  asc : Asc (ln ps)
  one : 10 ∉ ln ps
  ne : ln ps ≠ []
  siz : (ln ps).length ≤ 60
  lay : ∀ p ∈ ps, Asc p.w
  cut : (sp 32 (ln ps)).length ≤ 60
structure Pln (w : List Nat) : Prop where
  len : w.length ≤ 17
  asc : Asc w
  one : 10 ∉ w
theorem isW_p {w : List Nat} (h : isW w = true) : Pln w ∧ 32 ∉ w ∧ w ≠ [] ∧ w.length ≤ 8 := by
  unfold isW at h
  simp only [Bool.and_eq_true, decide_eq_true_eq, List.all_eq_true] at h
  obtain ⟨⟨h1, h2⟩, h3⟩ := h
  have h4 : ∀ c ∈ w, 97 ≤ c ∧ c ≤ 122 := fun c hc => by
    have := h3 c hc
    simp [AZ] at this
    omega
  refine ⟨⟨by omega, fun c hc => ?_, fun hc => ?_⟩, fun hc => ?_, fun z => ?_, h2⟩
  · have := h4 c hc
    omega
  · have := h4 _ hc
    omega
  · have := h4 _ hc
    omega
  · rw [z] at h1
    exact absurd h1 (by decide)
theorem jn_in {s : Nat} : ∀ {ws : List (List Nat)} {c : Nat}, c ∈ jn s ws → c = s ∨ ∃ w ∈ ws, c ∈ w
  | [], c, h => by cases h
  | [w], c, h => .inr ⟨w, List.mem_cons_self, h⟩
  | w :: v :: vs, c, h => by
    rw [jn_cons (by simp)] at h
    rcases List.mem_append.mp h with h | h
    · exact .inr ⟨w, List.mem_cons_self, h⟩
    · rcases List.mem_cons.mp h with h | h
      · exact .inl h
      · rcases jn_in h with h | ⟨u, hu, h⟩
        · exact .inl h
        · exact .inr ⟨u, List.mem_cons_of_mem _ hu, h⟩
theorem jn_pln {ws : List (List Nat)} (h : ∀ w ∈ ws, Pln w) : Asc (jn 32 ws) ∧ 10 ∉ jn 32 ws := by
  refine ⟨fun c hc => ?_, fun hc => ?_⟩
  · rcases jn_in hc with rfl | ⟨w, hw, hc⟩
    · decide
    · exact (h w hw).asc c hc
  · rcases jn_in hc with hc | ⟨w, hw, hc⟩
    · exact absurd hc (by decide)
    · exact (h w hw).one hc
theorem sp_cnt {s : Nat} (l : List Nat) : (sp s l).length ≤ l.length + 1 := by
  have h1 := jn_sum (s := s) (sp s l)
  rw [jn_sp] at h1
  omega
theorem good_of {ps : List Pt} (ok : ∀ p ∈ ps, p.ok) (hp : ∀ p ∈ ps, Pln p.w) (hn : ps ≠ []) (hf : ∀ p r, ps = p :: r → p.w ≠ []) (hl : ps.length ≤ 3) (hb : rdL (ln ps) = .tuple (ps.map Pt.d)) : Good ps := by
  have hw : ∀ w ∈ ps.map Pt.w, Pln w := fun w h => by
    obtain ⟨p, h1, rfl⟩ := List.mem_map.mp h
    exact hp p h1
  obtain ⟨j1, j2⟩ := jn_pln hw
  have j3 := jn_len (s := 32) (ps.map Pt.w)
  have j4 : ((ps.map Pt.w).map List.length).sum ≤ ps.length * 17 := by
    clear hf hn hb j1 j2 j3 ok hl
    induction ps with
    | nil => simp
    | cons p ps ih =>
      have h1 := ih (fun q hq => hp q (List.mem_cons_of_mem _ hq)) fun w h => hw w (List.mem_cons_of_mem _ h)
      have h2 := (hp p List.mem_cons_self).len
      rw [List.map_cons, List.map_cons, List.sum_cons, List.length_cons]
      omega
  have j5 : (ln ps).length ≤ 54 := by
    unfold ln
    rw [List.length_map] at j3
    omega
  refine ⟨ok, by omega, hb, j1, j2, ?_, by omega, fun p h => (hp p h).asc, ?_⟩
  · cases ps with
    | nil => exact absurd rfl hn
    | cons p r =>
      have := hf p r rfl
      unfold ln
      cases r with
      | nil => exact this
      | cons q r =>
        rw [List.map_cons, jn_cons (by simp)]
        simp [this]
  · have := sp_cnt (s := 32) (ln ps)
    omega
theorem good1 {w : List Nat} (h : w ∈ BRW) : Good [.t w] := by
  simp only [BRW, List.mem_cons, List.not_mem_nil, or_false] at h
  rcases h with rfl | rfl | rfl | rfl <;>
  · refine good_of (by simp [Pt.ok]) (by simp [Pt.w]; exact ⟨by decide, by unfold Asc; decide, by decide⟩) (by simp) (by simp [Pt.w]) (by simp) ?_
    simp [rdL, ln, jn, Pt.w, sp, rd, BRW, Pt.d]
theorem good2 {a w : List Nat} (h : a ∈ W3) (hw : isW w = true) : Good [.t a, .t w] := by
  obtain ⟨p1, p2, p3, p4⟩ := isW_p hw
  have hs : Pln a ∧ 32 ∉ a ∧ a ≠ [] := by
    simp only [W3, List.mem_cons, List.not_mem_nil, or_false] at h
    rcases h with rfl | rfl | rfl <;> exact ⟨⟨by decide, by unfold Asc; decide, by decide⟩, by decide, by decide⟩
  refine good_of (by simp [Pt.ok]; have := hs.1.len; omega) (by simp [Pt.w]; exact ⟨hs.1, p1⟩) (by simp) (by simp [Pt.w]; exact hs.2.2) (by simp) ?_
  have e : sp 32 (ln [.t a, .t w]) = [a, w] := sp_jn [a, w] (by simp) (by simp; exact ⟨hs.2.1, p2⟩)
  have : rd [a, w] = .tuple [.str (S a), .str (S w)] := by
    simp only [rd, hw, decide_eq_true h]
    rfl
  rw [rdL, e, this]
  rfl
theorem good3 {a w : List Nat} {c : List Nat} {p : Pt} (ha : Pln a ∧ 32 ∉ a ∧ a ≠ []) (hw : isW w = true) (hp : p.ok) (hc : p.w = c) (pc : Pln c) (hr : rd (a :: w :: sp 32 c) = .tuple [.str (S a), .str (S w), p.d]) : Good [.t a, .t w, p] := by
  obtain ⟨p1, p2, p3, p4⟩ := isW_p hw
  refine good_of (fun q hq => ?_) (fun q hq => ?_) (by simp) (fun q r h => ?_) (by simp) ?_
  · simp only [List.mem_cons, List.not_mem_nil, or_false] at hq
    rcases hq with rfl | rfl | rfl
    · exact Nat.le_trans ha.1.len (by decide)
    · exact Nat.le_trans p1.len (by decide)
    · exact hp
  · simp only [List.mem_cons, List.not_mem_nil, or_false] at hq
    rcases hq with rfl | rfl | rfl
    · exact ha.1
    · exact p1
    · rw [hc]
      exact pc
  · cases h
    exact ha.2.2
  · have e : sp 32 (ln [.t a, .t w, p]) = a :: w :: sp 32 c := by
      show sp 32 (jn 32 [a, w, p.w]) = _
      rw [hc]
      show sp 32 (a ++ 32 :: (w ++ 32 :: c)) = _
      rw [sp_pre _ _ ha.2.1, sp_pre _ _ p2]
    rw [rdL, e, hr]
    rfl
theorem pickT (n : Nat) (ds : List Int) (c : Nat) (bs : List (List Nat)) (h : 0 < bs.length) (hz : bs.length ≤ 1000) : ∃ b, b ∈ bs ∧ run gcs code (n + 2) 9 [.ol (bx ds c), .d (.list (bs.map fun b => .str (S b)))] = some (.v (.d (.str (S b))), [.ol (bx ds (c + 1)), .d (.list (bs.map fun b => .str (S b)))]) := by
  obtain ⟨d, hd, hr⟩ := ev_pickL n ds c (xs := bs.map fun b => .str (S b)) (by simpa using h) (by simpa using hz)
  obtain ⟨b, hb, rfl⟩ := List.mem_map.mp hd
  exact ⟨b, hb, hr⟩
def ADD : List (List Nat) := [[97, 108, 108, 32, 97, 46], [110, 101, 101, 100, 32, 97, 32, 45, 62, 32, 98, 46], [32, 97, 108, 108, 32, 97, 46], [115, 111, 109, 101, 32, 98, 46, 32], [], [32], [110, 101, 101, 100, 32, 32, 97, 46, 32, 97, 115, 107, 32, 99], [115, 111, 109, 101, 32, 120, 32, 115, 101, 101, 115, 32, 121, 32, 122, 46]]
theorem good_add {w x : List Nat} (hw : isW w = true) (hx : x ∈ ADD) : Good [.t wAdd, .t w, .t x] := by
  have hx2 : Pln x := by
    simp only [ADD, List.mem_cons, List.not_mem_nil, or_false] at hx
    rcases hx with rfl | rfl | rfl | rfl | rfl | rfl | rfl | rfl <;> exact ⟨by decide, by unfold Asc; decide, by decide⟩
  refine good3 (c := x) ⟨⟨by decide, by unfold Asc; decide, by decide⟩, by decide, by decide⟩ hw (Nat.le_trans hx2.len (by decide)) rfl hx2 ?_
  have hj := jn_sp (s := 32) x
  cases q : sp 32 x with
  | nil => exact absurd q (sp_ne x)
  | cons c r =>
    rw [q] at hj
    simp only [rd, hw, if_pos, hj]
    rfl
theorem good_take {w : List Nat} {m : Nat} (hw : isW w = true) (hm : m = 0 ∨ m = 1 ∨ m = 10 ∨ m = 9999 ∨ m = 305) : Good [.t wTake, .t w, .n m] := by
  obtain ⟨c, h1, h2, h3, h4, h5, h6⟩ : ∃ c, dg m = c ∧ Pln c ∧ 32 ∉ c ∧ isN c = true ∧ num c = m ∧ m ≤ 9999 := by
    rcases hm with rfl | rfl | rfl | rfl | rfl
    · exact ⟨[48], by decide, ⟨by decide, by unfold Asc; decide, by decide⟩, by decide, by decide, by decide, by decide⟩
    · exact ⟨[49], by decide, ⟨by decide, by unfold Asc; decide, by decide⟩, by decide, by decide, by decide, by decide⟩
    · exact ⟨[49, 48], by decide, ⟨by decide, by unfold Asc; decide, by decide⟩, by decide, by decide, by decide, by decide⟩
    · exact ⟨[57, 57, 57, 57], by decide +kernel, ⟨by decide, by unfold Asc; decide, by decide⟩, by decide, by decide, by decide, by decide⟩
    · exact ⟨[51, 48, 53], by decide +kernel, ⟨by decide, by unfold Asc; decide, by decide⟩, by decide, by decide, by decide, by decide⟩
  refine good3 (c := c) ⟨⟨by decide, by unfold Asc; decide, by decide⟩, by decide, by decide⟩ hw h6 h1 h2 ?_
  rw [sp_one c h3]
  simp only [rd, hw, if_pos, h4, h5]
  simp [Pt.d]
theorem good_ask {w c : List Nat} (hw : isW w = true) (hc : c ∈ AKW) : Good [.t wAsk, .t w, .t c] := by
  obtain ⟨h2, h3⟩ : Pln c ∧ 32 ∉ c := by
    have h := hc
    simp only [AKW, List.mem_cons, List.not_mem_nil, or_false] at h
    rcases h with rfl | rfl | rfl | rfl | rfl | rfl | rfl | rfl | rfl <;> exact ⟨⟨by decide, by unfold Asc; decide, by decide⟩, by decide⟩
  refine good3 (c := c) ⟨⟨by decide, by unfold Asc; decide, by decide⟩, by decide, by decide⟩ hw (Nat.le_trans h2.len (by decide)) rfl h2 ?_
  rw [sp_one c h3]
  simp only [rd, hw, if_pos, hc]
  simp [Pt.d]
theorem good_two {a w c : List Nat} (hw : isW w = true) (ha : a ∈ W2) (hc : isW c = true) : Good [.t a, .t w, .t c] := by
  obtain ⟨p1, p2, p3, p4⟩ := isW_p hc
  have hs : (Pln a ∧ 32 ∉ a ∧ a ≠ []) ∧ a ≠ wAdd ∧ a ≠ wTake ∧ a ≠ wAsk := by
    have h := ha
    simp only [W2, List.mem_cons, List.not_mem_nil, or_false] at h
    rcases h with rfl | rfl <;> exact ⟨⟨⟨by decide, by unfold Asc; decide, by decide⟩, by decide, by decide⟩, by decide, by decide, by decide⟩
  obtain ⟨hs, n1, n2, n3⟩ := hs
  refine good3 (c := c) hs hw (Nat.le_trans p1.len (by decide)) rfl p1 ?_
  rw [sp_one c p2]
  simp only [rd, hw, hc, ha, n1, n2, n3]
  simp [Pt.d]
theorem litN : PySem.Str.ofString "" = S [] := by decide +kernel
theorem ca_word {n : Nat} {ds : List Int} {c : Nat} : ∃ (l : List Nat) (c' : Nat), isW l = true ∧ ∀ kc k, Ca (run gcs code (n + 3)) 15 [.ol (bx ds c)] kc k = k (.d (.str (S l))) [.ol (bx ds c')] := by
  obtain ⟨l, c', h1, h2⟩ := ev_word n ds c
  exact ⟨l, c', h1, fun kc k => ca_of h2⟩
theorem ev_order (n : Nat) (ds : List Int) (c : Nat) : ∃ (ps : List Pt) (c' : Nat), Good ps ∧ run gcs code (n + 4) 16 [.ol (bx ds c)] = some (.v (.d (.tuple (ps.map Pt.d))), [.ol (bx ds c')]) := by
  obtain ⟨r, outs, h, ps, c', h1, rfl, rfl⟩ : ∃ r outs, run gcs code (n + 4) 16 [.ol (bx ds c)] = some (.v r, outs) ∧ ∃ (ps : List Pt) (c' : Nat), Good ps ∧ r = .d (.tuple (ps.map Pt.d)) ∧ outs = [.ol (bx ds c')] := by
    refine run_wp rfl ⟨rfl, rfl, rfl, by decide⟩ ?_
    obtain ⟨one, c1, hw, cw⟩ := ca_word (n := n) (ds := ds) (c := c)
    obtain ⟨b1, hb1, q1⟩ := pickT (n + 1) ds (c1 + 1) BRW (by decide) (by decide)
    obtain ⟨b2, hb2, q2⟩ := pickT (n + 1) ds (c1 + 1) W3 (by decide) (by decide)
    obtain ⟨d3, hd3, q3⟩ := ev_pickL (n + 1) ds (c1 + 1) (xs := [.int 0, .int 1, .int 10, .int 9999, .int 305]) (by decide) (by decide)
    obtain ⟨b4, hb4, q4⟩ := pickT (n + 1) ds (c1 + 1) AKW (by decide) (by decide)
    obtain ⟨b5, hb5, q5⟩ := pickT (n + 1) ds (c1 + 1) W2 (by decide) (by decide)
    obtain ⟨two, c2, hw2, cw2⟩ := ca_word (n := n) (ds := ds) (c := c1 + 1 + 1)
    obtain ⟨b6, hb6, q6⟩ := pickT (n + 1) ds (c1 + 1) ADD (by decide) (by decide)
    obtain ⟨m, hm, rfl⟩ : ∃ m : Nat, (m = 0 ∨ m = 1 ∨ m = 10 ∨ m = 9999 ∨ m = 305) ∧ d3 = .int m := by
      simp only [List.mem_cons, List.not_mem_nil, or_false] at hd3
      rcases hd3 with rfl | rfl | rfl | rfl | rfl
      · exact ⟨0, by decide, rfl⟩
      · exact ⟨1, by decide, rfl⟩
      · exact ⟨10, by decide, rfl⟩
      · exact ⟨9999, by decide, rfl⟩
      · exact ⟨305, by decide, rfl⟩
    have k1 := fun kc k => ca_of (kc := kc) (k := k) q1
    have k2 := fun kc k => ca_of (kc := kc) (k := k) q2
    have k3 := fun kc k => ca_of (kc := kc) (k := k) q3
    have k4 := fun kc k => ca_of (kc := kc) (k := k) q4
    have k5 := fun kc k => ca_of (kc := kc) (k := k) q5
    have k6 := fun kc k => ca_of (kc := kc) (k := k) q6
    simp only [BRW, W3, AKW, W2, ADD, List.map_cons, List.map_nil] at k1 k2 k4 k5 k6
    simp -implicitDefEqProofs [c__law_order, ownO, cw, cw2, ca_asked, AK, k1, k2, k3, k4, k5, k6, lit4, lit5, lit6, lit7, lit28, lit29, lit30, lit24, lit25, lit19, lit20, lit21, lit31, lit32, lit33, lit34, lit18, lit17, lit35, lit36]
    refine br_intro (fun _ => ⟨_, good1 hb1, rfl, _, rfl⟩) (fun _ => br_intro (fun _ => ⟨_, good2 hb2 hw, rfl, _, rfl⟩) (fun _ => br_intro (fun _ => ⟨_, good_take hw hm, rfl, _, rfl⟩) (fun _ => br_intro (fun _ => ⟨_, good_ask hw hb4, rfl, _, rfl⟩) (fun _ => br_intro (fun _ => ⟨_, good_two hw hb5 hw2, rfl, _, rfl⟩) (fun _ => ⟨_, good_add hw hb6, rfl, _, rfl⟩)))))
  exact ⟨ps, c', h1, h⟩
end K97

/-! P97o: bent lines. -/
namespace K97
open PySem Y L2
theorem cut_hi {α : Type} {xs : List α} {q : Nat} (h : q ≤ xs.length) : cutL xs none (some (q : Int)) = xs.take q := by
  unfold cutL
  rw [HT.sIx_none, HT.sIx_nat, List.drop_zero, Nat.min_eq_left h, Nat.sub_zero]
theorem cut_lo {α : Type} {xs : List α} {q : Nat} (h : q ≤ xs.length) : cutL xs (some (q : Int)) none = xs.drop q := by
  unfold cutL
  rw [HT.sIx_none, HT.sIx_nat, Nat.min_eq_left h, List.take_of_length_le (by simp)]
theorem cut_lo1 {α : Type} {xs : List α} {q : Nat} (h : q < xs.length) : cutL xs (some ((q : Int) + 1)) none = xs.drop (q + 1) := by
  rw [show ((q : Int) + 1) = ((q + 1 : Nat) : Int) by omega]
  exact cut_lo h
theorem wd_len {ws : List (List Nat)} : (wd ws).length = ws.length := List.length_map _
theorem wd_app {a b : List (List Nat)} : wd (a ++ b) = wd a ++ wd b := List.map_append
theorem wd_take {a : List (List Nat)} {q : Nat} : wd (a.take q) = (wd a).take q := List.map_take
theorem wd_drop {a : List (List Nat)} {q : Nat} : wd (a.drop q) = (wd a).drop q := List.map_drop
structure Wn (w : List Nat) : Prop where
  len : w.length ≤ 61
  asc : Asc w
  one : 10 ∉ w
structure WS (ws : List (List Nat)) : Prop where
  cnt : ws.length ≤ 62
  all : ∀ w ∈ ws, Wn w
structure Bent (l : List Nat) : Prop where
  len : l.length ≤ 4000
  asc : Asc l
  one : 10 ∉ l
theorem bent_of {ws : List (List Nat)} (h : WS ws) : Bent (jn 32 ws) := by
  have h1 := jn_len (s := 32) ws
  have h2 : ∀ ws : List (List Nat), (∀ w ∈ ws, Wn w) → (ws.map List.length).sum ≤ ws.length * 61 := by
    intro ws
    induction ws with
    | nil => simp
    | cons w ws ih =>
      intro h
      have h1 := ih fun v hv => h v (List.mem_cons_of_mem _ hv)
      have h2 := (h w List.mem_cons_self).len
      rw [List.map_cons, List.sum_cons, List.length_cons]
      omega
  have h3 := h2 ws h.all
  have h4 := h.cnt
  refine ⟨by omega, fun c hc => ?_, fun hc => ?_⟩
  · rcases jn_in hc with rfl | ⟨w, hw, hc⟩
    · decide
    · exact (h.all w hw).asc c hc
  · rcases jn_in hc with hc | ⟨w, hw, hc⟩
    · exact absurd hc (by decide)
    · exact (h.all w hw).one hc
theorem jo_w {ws : List (List Nat)} (h : WS ws) : ∀ k, Mt .join (.str (S [32])) (.list (wd ws)) k = k (.d (.str (S (jn 32 ws)))) := fun k => by
  have h2 : ∀ ws : List (List Nat), (∀ w ∈ ws, Wn w) → (ws.map List.length).sum ≤ ws.length * 61 := by
    intro ws
    induction ws with
    | nil => simp
    | cons w ws ih =>
      intro h
      have h1 := ih fun v hv => h v (List.mem_cons_of_mem _ hv)
      have h2 := (h w List.mem_cons_self).len
      rw [List.map_cons, List.sum_cons, List.length_cons]
      omega
  have h3 := h2 ws h.all
  have h4 := h.cnt
  have e1 : ((ws.map S).map (·.length)).sum = (ws.map List.length).sum := by
    rw [List.map_map]
    exact congrArg List.sum (List.map_congr_left fun p _ => S_len)
  have h5 := mt_join' (t := S [32]) (ys := ws.map S) (k := k) (by
    rw [e1, List.length_map]
    have : (S [32]).length = 1 := S_len
    rw [this]
    omega)
  rw [join_S1, List.map_map] at h5
  exact h5
theorem bs_wn {bs : List (List Nat)} (h : bs.all (fun w => decide (w.length ≤ 61) && (w.all fun c => decide (c < 128 ∧ c ≠ 10))) = true) : ∀ w ∈ bs, Wn w := fun w hw => by
  have := List.all_eq_true.mp h w hw
  simp only [Bool.and_eq_true, decide_eq_true_eq, List.all_eq_true] at this
  exact ⟨this.1, fun c hc => (this.2 c hc).1, fun hc => (this.2 10 hc).2 rfl⟩
def P3 : List (List Nat) := [[57, 57, 57, 57], [49, 48, 48, 48, 48], [48], [48, 49], [45, 49], [48, 48], [49, 120]]
def P4 : List (List Nat) := [[97, 115, 107], [97, 100, 100], [116, 97, 107, 101], [116, 101, 108, 108], [99, 111, 112, 121], [97, 108, 105, 107, 101], [98, 111, 111, 107], [98, 111, 111, 107, 115], [115, 105, 100, 101], [116, 101, 120, 116], [98, 101, 103, 105, 110]]
def P5 : List (List Nat) := [[97, 98, 99, 100, 101, 102, 103, 104], [97, 98, 99, 100, 101, 102, 103, 104, 105], [97, 66], [97, 49], [122], [55]]
def P7 : List (List Nat) := [[49], [120], [], [51]]
theorem lit0' : PySem.Str.ofString "0" = S [48] := lit22
theorem ev_bent (n : Nat) (ds : List Int) (c : Nat) (l : List Nat) (hl : l.length ≤ 60) (hA : Asc l) (h10 : 10 ∉ l) : ∃ (l' : List Nat) (c' : Nat), Bent l' ∧ run gcs code (n + 3) 17 [.ol (bx ds c), .d (.str (S l))] = some (.v (.d (.str (S l'))), [.ol (bx ds c'), .d (.str (S l))]) := by
  obtain ⟨r, outs, h, l', c', h1, rfl, rfl⟩ : ∃ r outs, run gcs code (n + 3) 17 [.ol (bx ds c), .d (.str (S l))] = some (.v r, outs) ∧ ∃ (l' : List Nat) (c' : Nat), Bent l' ∧ r = .d (.str (S l')) ∧ outs = [.ol (bx ds c'), .d (.str (S l))] := by
    refine run_wp rfl ⟨rfl, rfl, rfl, by decide⟩ ?_
    have hw : ∀ w ∈ sp 32 l, w.length ≤ 60 ∧ Asc w ∧ 10 ∉ w := fun w hw => ⟨Nat.le_trans (sp_len l w hw) hl, fun c hc => hA c (sp_mem l w hw c hc), fun hc => h10 (sp_mem l w hw _ hc)⟩
    have hc := sp_cnt (s := 32) l
    have hne := sp_ne (s := 32) l
    have hsp : ∀ k, Mt .split (.str (S l)) (.str (S [32])) k = k (.ol (wd (sp 32 l))) := fun k => mt_split' (by omega)
    generalize sp 32 l = ws at hw hc hne hsp
    have hpos : 0 < ws.length := List.length_pos_iff.mpr hne
    obtain ⟨q, hq, hq2⟩ := dr_nat (ds := ds) (c := c) hpos
    have cd : ∀ kc k, Ca (run gcs code (n + 2)) 8 [.ol (bx ds c), .d (.int (ws.length : Int))] kc k = k (.d (.int (q : Int))) [.ol (bx ds (c + 1)), .d (.int (ws.length : Int))] := fun kc k => by
      rw [ca_draw (n := n + 1) (show (0 : Int) < ws.length by omega), hq]
    obtain ⟨w, hwq⟩ : ∃ w, w = ws[q] := ⟨_, rfl⟩
    have hwi : ws[q]? = some w := by rw [List.getElem?_eq_getElem hq2, hwq]
    have hwm : w ∈ ws := List.mem_of_getElem? hwi
    have hw1 := hw w hwm
    have wn : ∀ v ∈ ws, Wn v := fun v hv => ⟨Nat.le_trans (hw v hv).1 (by decide), (hw v hv).2.1, (hw v hv).2.2⟩
    have at1 : ∀ k, At (wd ws) (q : Int) k = k (.str (S w)) := fun k => at_nat (by unfold wd; rw [List.getElem?_map, hwi]; rfl)
    have hcw := wd_len (ws := ws)
    have hset : ∀ b, Wn b → WS (ws.set q b) := fun b hb => ⟨by rw [List.length_set]; omega, fun v hv => by
      rcases List.mem_or_eq_of_mem_set hv with h | h
      · exact wn v h
      · rw [h]
        exact hb⟩
    have st : ∀ (b : List Nat) (e : Sl) (k : Sl → Prop), sti_ 0 (q : Int) (.str (S b)) (some (.ol (wd ws)) :: e) k = k (some (.ol (wd (ws.set q b))) :: e) := fun b e k => by
      rw [sti_0 (m := q) (by
        rw [hcw]
        unfold ixN
        simp
        exact hq2)]
      unfold wd
      rw [List.map_set]
    -- the way 0
    obtain ⟨v0, hv0, r0⟩ : ∃ v, WS v ∧ ∀ k, Bn .add (.list (cutL (wd ws) none (some (q : Int)))) (.list (cutL (wd ws) (some ((q : Int) + 1)) none)) k = k (.ol (wd v)) := ⟨ws.take q ++ ws.drop (q + 1), ⟨by simp; omega, fun v hv => by
        rcases List.mem_append.mp hv with h | h
        · exact wn v (List.mem_of_mem_take h)
        · exact wn v (List.mem_of_mem_drop h)⟩, fun k => by
      rw [cut_hi (by omega), cut_lo1 (by omega), bn_catL (by simp [hcw, sizeN]; omega), wd_app, wd_take, wd_drop]⟩
    obtain ⟨v1, hv1, u1, r1, r1'⟩ : ∃ v, WS v ∧ ∃ u : List D, (∀ k, Bn .add (.list (cutL (wd ws) none (some (q : Int)))) (.list [.str (S w)]) k = k (.ol u)) ∧ ∀ k, Bn .add (.list u) (.list (cutL (wd ws) (some (q : Int)) none)) k = k (.ol (wd v)) := ⟨(ws.take q ++ [w]) ++ ws.drop q, ⟨by simp; omega, fun v hv => by
        rcases List.mem_append.mp hv with h | h
        · rcases List.mem_append.mp h with h | h
          · exact wn v (List.mem_of_mem_take h)
          · rw [List.mem_singleton.mp h]
            exact wn w hwm
        · exact wn v (List.mem_of_mem_drop h)⟩, wd (ws.take q ++ [w]), fun k => by
      rw [cut_hi (by omega), bn_catL (by simp [hcw, sizeN]; omega), wd_app, wd_take]
      rfl, fun k => by
      rw [cut_lo (by omega), bn_catL (by simp [hcw, wd_len, sizeN]; omega), wd_app (a := ws.take q ++ [w]), wd_drop]⟩
    obtain ⟨b2, hb2, q2⟩ := pickT n ds (c + 1 + 1) [[], 48 :: w, 45 :: w, w ++ [48], w ++ [9]] (by simp) (by simp)
    obtain ⟨b3, hb3, q3⟩ := pickT n ds (c + 1 + 1) P3 (by decide) (by decide)
    obtain ⟨b4, hb4, q4⟩ := pickT n ds (c + 1 + 1) P4 (by decide) (by decide)
    obtain ⟨b5, hb5, q5⟩ := pickT n ds (c + 1 + 1) P5 (by decide) (by decide)
    obtain ⟨b7, hb7, q7⟩ := pickT n ds (c + 1 + 1) P7 (by decide) (by decide)
    have k2 := fun kc k => ca_of (kc := kc) (k := k) q2
    have k3 := fun kc k => ca_of (kc := kc) (k := k) q3
    have k4 := fun kc k => ca_of (kc := kc) (k := k) q4
    have k5 := fun kc k => ca_of (kc := kc) (k := k) q5
    have k7 := fun kc k => ca_of (kc := kc) (k := k) q7
    have w2 : Wn b2 := by
      have w1 := wn w hwm
      have hc1 : ∀ x, x < 128 ∧ x ≠ 10 → Wn (x :: w) := fun x hx => ⟨by simp; omega, fun y hy => by
        rcases List.mem_cons.mp hy with rfl | hy
        · exact hx.1
        · exact w1.asc y hy, fun hy => by
        rcases List.mem_cons.mp hy with h | hy
        · exact hx.2 h.symm
        · exact w1.one hy⟩
      have hc2 : ∀ x, x < 128 ∧ x ≠ 10 → Wn (w ++ [x]) := fun x hx => ⟨by simp; omega, fun y hy => by
        rcases List.mem_append.mp hy with hy | hy
        · exact w1.asc y hy
        · rw [List.mem_singleton.mp hy]
          exact hx.1, fun hy => by
        rcases List.mem_append.mp hy with hy | hy
        · exact w1.one hy
        · exact hx.2 (List.mem_singleton.mp hy).symm⟩
      simp only [List.mem_cons, List.not_mem_nil, or_false] at hb2
      rcases hb2 with rfl | rfl | rfl | rfl | rfl
      · exact ⟨by decide, by unfold Asc; simp, by simp⟩
      · exact hc1 48 (by decide)
      · exact hc1 45 (by decide)
      · exact hc2 48 (by decide)
      · exact hc2 9 (by decide)
    have w3 : Wn b3 := bs_wn (by decide) b3 hb3
    have w4 : Wn b4 := bs_wn (by decide) b4 hb4
    have w5 : Wn b5 := bs_wn (by decide) b5 hb5
    have w7 : Wn b7 := bs_wn (by decide) b7 hb7
    have hv6 : WS (ws.take q ++ [[]] ++ ws.drop q) := ⟨by simp; omega, fun v hv => by
        rcases List.mem_append.mp hv with h | h
        · rcases List.mem_append.mp h with h | h
          · exact wn v (List.mem_of_mem_take h)
          · rw [List.mem_singleton.mp h]
            exact ⟨by decide, by unfold Asc; simp, by simp⟩
        · exact wn v (List.mem_of_mem_drop h)⟩
    have r6 : ∀ (e : Sl) (k : Sl → Prop), ins_ 0 (q : Int) (.str (S [])) (some (.ol (wd ws)) :: e) k = k (some (.ol (wd (ws.take q ++ [[]] ++ ws.drop q))) :: e) := fun e k => by
      rw [ins_0 ⟨by rw [hcw, sizeN]; omega, by omega, by omega⟩, Int.toNat_natCast, wd_app, wd_app, wd_take, wd_drop]
      rfl
    generalize ws.take q ++ [[]] ++ ws.drop q = v6 at hv6 r6
    have hv7 : WS (ws ++ [b7]) := ⟨by simp; omega, fun v hv => by
        rcases List.mem_append.mp hv with h | h
        · exact wn v h
        · rw [List.mem_singleton.mp h]
          exact w7⟩
    have r7 : ∀ (e : Sl) (k : Sl → Prop), apd 0 (.str (S b7)) (some (.ol (wd ws)) :: e) k = k (some (.ol (wd (ws ++ [b7]))) :: e) := fun e k => by
      rw [apd_0 (by rw [hcw, sizeN]; omega), wd_app]
      rfl
    generalize ws ++ [b7] = v7 at hv7 r7
    have z1 : ∀ x k, Bn .add (.str (S [x])) (.str (S w)) k = k (.d (.str (S (x :: w)))) := fun x k => by
      rw [bn_catS (by have := hw1.1; simp; omega)]
      rfl
    have z2 : ∀ x k, Bn .add (.str (S w)) (.str (S [x])) k = k (.d (.str (S (w ++ [x])))) := fun x k => by
      rw [bn_catS (by have := hw1.1; simp; omega)]
    simp only [P3, P4, P5, P7, List.map_cons, List.map_nil] at k2 k3 k4 k5 k7
    simp -implicitDefEqProofs [c__law_bent, ownO, lit17, lit18, hsp, cd, hcw, at1, st, r0, r1, r1', r6, r7, k2, k3, k4, k5, k7, z1, z2, jo_w hv0, jo_w hv1, jo_w (hset _ w2), jo_w (hset _ w3), jo_w (hset _ w4), jo_w (hset _ w5), jo_w hv6, jo_w hv7, lit22, lit40, lit41, lit42, lit43, lit44, lit45, lit46, lit47, lit20, lit21, lit19, lit48, lit24, lit25, lit28, lit4, lit9, lit8, lit5, lit49, lit50, lit51, lit52, lit53, lit54, lit55, lit56, lit57]
    refine br_intro (fun _ => ⟨_, bent_of hv0, rfl, _, rfl⟩) (fun _ => br_intro (fun _ => ⟨_, bent_of hv1, rfl, _, rfl⟩) (fun _ => br_intro (fun _ => ⟨_, bent_of (hset _ w2), rfl, _, rfl⟩) (fun _ => br_intro (fun _ => ⟨_, bent_of (hset _ w3), rfl, _, rfl⟩) (fun _ => br_intro (fun _ => ⟨_, bent_of (hset _ w4), rfl, _, rfl⟩) (fun _ => br_intro (fun _ => ⟨_, bent_of (hset _ w5), rfl, _, rfl⟩) (fun _ => br_intro (fun _ => ⟨_, bent_of hv6, rfl, _, rfl⟩) (fun _ => ⟨_, bent_of hv7, rfl, _, rfl⟩)))))))
  exact ⟨l', c', h1, h⟩
end K97

/-! P97p: what is read is plain data. -/
namespace K97
open PySem Y L2
theorem nice_pair {a b : D} {k m1 m2 M : Nat} (h1 : Nice a k m1) (h2 : Nice b k m2) (h : m1 + m2 + 7 ≤ M) : Nice (.tuple [a, b]) (k + 1) M := by
  refine ⟨?_, ?_, ?_, ?_⟩
  · simp [PyData.canLay0, PyData.canLayAll0, h1.lay, h2.lay]
  · simp [PyData.showable, PyData.showableAll, h1.sho, h2.sho]
  · have := h1.dep
    have := h2.dep
    simp [PyData.depth, PyData.depthAll]
    omega
  · have := h1.siz
    have := h2.siz
    simp [mx, mxs]
    omega
theorem num_small {w : List Nat} (h : isN w = true) : num w ≤ 9999 := by
  unfold isN at h
  simp only [Bool.and_eq_true, decide_eq_true_eq, List.all_eq_true] at h
  obtain ⟨⟨⟨h1, h2⟩, h3⟩, _⟩ := h
  have h4 : ∀ c ∈ w, c - 48 ≤ 9 := fun c hc => by
    have := h3 c hc
    simp [DG] at this
    omega
  unfold num PySem.NumText.digitsVal
  rcases w with _ | ⟨a, _ | ⟨b, _ | ⟨c, _ | ⟨d, _ | ⟨e, w⟩⟩⟩⟩⟩
  · simp
  · have := h4 a (by simp)
    simp
    omega
  · have := h4 a (by simp)
    have := h4 b (by simp)
    simp
    omega
  · have := h4 a (by simp)
    have := h4 b (by simp)
    have := h4 c (by simp)
    simp
    omega
  · have := h4 a (by simp)
    have := h4 b (by simp)
    have := h4 c (by simp)
    have := h4 d (by simp)
    simp
    omega
  · simp at h2
theorem bent_nice {l : List Nat} (h : Bent l) {k : Nat} : Nice (.str (S l)) k 40002 := nice_S h.asc (by have := h.len; omega)
theorem nice_three {xs : List D} (h : ∀ x ∈ xs, Nice x 0 40002) (hl : xs.length ≤ 3) : Nice (.tuple xs) 1 120015 := nice_tuple h (by have := Nat.mul_le_mul_left (40002 + 2) hl; omega)
theorem nice_rdL {l : List Nat} (h : Bent l) : Nice (rdL l) 1 120015 := by
  have nn : Nice PyData.none 1 120015 := nice_none (by decide)
  have e := jn_sp (s := 32) l
  have hw : ∀ w ∈ sp 32 l, Bent w := fun w hw => ⟨Nat.le_trans (sp_len l w hw) h.len, fun c hc => h.asc c (sp_mem l w hw c hc), fun hc => h.one (sp_mem l w hw _ hc)⟩
  have hl := h.len
  unfold rdL
  generalize sp 32 l = ws at hw e
  rcases ws with _ | ⟨a, _ | ⟨b, _ | ⟨c, r⟩⟩⟩
  · exact nn
  · simp only [rd]
    split
    · exact nice_three (by
        intro x hx
        rw [List.mem_singleton.mp hx]
        exact bent_nice (hw a (by simp))) (by simp)
    · exact nn
  · simp only [rd]
    split
    · exact nice_three (by
        intro x hx
        simp only [List.mem_cons, List.not_mem_nil, or_false] at hx
        rcases hx with rfl | rfl
        · exact bent_nice (hw a (by simp))
        · exact bent_nice (hw b (by simp))) (by simp)
    · exact nn
  · have ha := hw a (by simp)
    have hb := hw b (by simp)
    have hc := hw c (by simp)
    have hj : Bent (jn 32 (c :: r)) := by
      rw [jn_cons (by simp), jn_cons (by simp)] at e
      refine ⟨?_, fun x hx => h.asc x (by rw [← e]; simp [hx]), fun hx => h.one (by rw [← e]; simp [hx])⟩
      rw [← e] at hl
      simp at hl
      omega
    have lits : ∀ w ∈ [wAdd, wTake, wAsk], Nice (.str (S w)) 0 40002 := fun w hw => nice_S (by
      simp only [List.mem_cons, List.not_mem_nil, or_false] at hw
      rcases hw with rfl | rfl | rfl <;> decide) (by
      simp only [List.mem_cons, List.not_mem_nil, or_false] at hw
      rcases hw with rfl | rfl | rfl <;> decide)
    have three : ∀ {x y z : D}, Nice x 0 40002 → Nice y 0 40002 → Nice z 0 40002 → Nice (.tuple [x, y, z]) 1 120015 := fun h1 h2 h3 => nice_three (by
      intro x hx
      simp only [List.mem_cons, List.not_mem_nil, or_false] at hx
      rcases hx with rfl | rfl | rfl
      · exact h1
      · exact h2
      · exact h3) (by simp)
    simp only [rd]
    split
    · split
      · exact three (lits _ (by simp)) (bent_nice hb) (bent_nice hj)
      · split
        · split
          · rename_i z
            exact three (lits _ (by simp)) (bent_nice hb) (nice_int (small_nat (Nat.le_trans (num_small z.2) (by decide))) (by decide))
          · split
            · exact three (lits _ (by simp)) (bent_nice hb) (bent_nice hc)
            · split
              · exact three (bent_nice ha) (bent_nice hb) (bent_nice hc)
              · exact nn
        · exact nn
    · exact nn
theorem good_bent {ps : List Pt} (h : Good ps) : Bent (ln ps) := ⟨by have := h.siz; omega, h.asc, h.one⟩
theorem good_nice {ps : List Pt} (h : Good ps) : Nice (.tuple (ps.map Pt.d)) 1 120015 := by
  rw [← h.back]
  exact nice_rdL (good_bent h)
theorem eqv_self : ∀ {ps : List Pt}, PyData.eqvAll (ps.map Pt.d) (ps.map Pt.d) = true
  | [] => rfl
  | p :: ps => by
    rw [List.map_cons, PyData.eqvAll, eqv_self]
    cases p <;> simp [Pt.d, PyData.eqv]
theorem cm_same {ps : List Pt} {k} (h : Good ps) : Cm .ne (.tuple (ps.map Pt.d)) (.tuple (ps.map Pt.d)) k = k false := by
  have sh := (good_nice h).shaped (by decide)
  show Wo ((if PySem.SeqAt.shaped (.tuple (ps.map Pt.d)) && PySem.SeqAt.shaped (.tuple (ps.map Pt.d)) then some (PyData.eqv (.tuple (ps.map Pt.d)) (.tuple (ps.map Pt.d))) else none).map (!·)) k = _
  rw [sh, PyData.eqv, eqv_self]
  rfl
theorem nice_many {ls : List (List Nat)} (h : ∀ l ∈ ls, Bent l) (hl : ls.length ≤ 8) : Nice (.list (ls.map rdL)) 2 960138 := nice_list (k := 1) (m := 120015) (fun x hx => by
  obtain ⟨l, h1, rfl⟩ := List.mem_map.mp hx
  exact nice_rdL (h l h1)) (by
  rw [List.length_map]
  have := Nat.mul_le_mul_left (120015 + 2) hl
  omega)
theorem idx_lt : ∀ {ds : List D} {i : Nat}, idxD .none ds = some i → i < ds.length
  | [], i, h => by cases h
  | d :: ds, i, h => by
    unfold idxD at h
    split at h
    · cases h
      simp
    · cases q : idxD .none ds with
      | none =>
        rw [q] at h
        cases h
      | some j =>
        rw [q] at h
        cases h
        have := idx_lt q
        simp
        omega
theorem nice_told {ls : List (List Nat)} (h : ∀ l ∈ ls, Bent l) (hl : ls.length ≤ 9) (hn : ls.length ≤ 8 ∨ ∃ i, idxD .none (ls.map rdL) = some i) : Nice (told ls) 3 1000000 := by
  unfold told
  cases q : idxD .none (ls.map rdL) with
  | some i =>
    have := idx_lt q
    rw [List.length_map] at this
    refine (nice_pair (k := 0) (m1 := 1000) (m2 := 2000) (M := 10000) (nice_S (by decide) (by decide)) (nice_int ?_ (by decide)) (by decide)).mono (by decide) (by decide)
    have e := small_nat (m := i + 1) (by omega)
    exact e
  | none =>
    have hl : ls.length ≤ 8 := by
      rcases hn with h | ⟨i, h⟩
      · exact h
      · rw [q] at h
        cases h
    exact nice_pair (k := 2) (m1 := 1000) (m2 := 960138) ((nice_S (k := 2) (by decide) (by decide))) (nice_many h hl) (by decide)
theorem any_none : ∀ {ds : List D}, (ds.any fun z => PyData.eqv z .none) = (idxD .none ds).isSome
  | [] => rfl
  | d :: ds => by
    rw [List.any_cons, any_none (ds := ds)]
    show _ = (if PyData.eqv d .none then some 0 else (idxD .none ds).map (· + 1)).isSome
    cases PyData.eqv d .none
    · simp
    · simp
theorem cm_inN {ds : List D} {k} (h : PySem.SeqAt.shaped (.list ds) = true) : Cm .inn .none (.list ds) k = k (idxD .none ds).isSome := by
  show Wo (if PySem.SeqAt.shaped .none && PySem.SeqAt.shaped (.list ds) then some (ds.any fun z => PyData.eqv z .none) else none) k = _
  rw [h, any_none]
  rfl
theorem eqv_texts {as bs : List (List Nat)} : PyData.eqvAll (wd as) (wd bs) = decide (as = bs) := by
  induction as generalizing bs with
  | nil =>
    cases bs with
    | nil => rfl
    | cons b bs => rfl
  | cons a as ih =>
    cases bs with
    | nil => rfl
    | cons b bs =>
      show (PyData.eqv (.str (S a)) (.str (S b)) && PyData.eqvAll (wd as) (wd bs)) = _
      rw [ih]
      show ((S a == S b) && _) = _
      rw [beqS, Bool.eq_iff_iff]
      simp
theorem cm_neW {as bs : List (List Nat)} {k} (ha : ∀ a ∈ as, Asc a) (hb : ∀ b ∈ bs, Asc b) : Cm .ne (.list (wd as)) (.list (wd bs)) k = k (!decide (as = bs)) := by
  show Wo ((if PySem.SeqAt.shaped (.list (wd as)) && PySem.SeqAt.shaped (.list (wd bs)) then some (PyData.eqv (.list (wd as)) (.list (wd bs))) else none).map (!·)) k = _
  rw [show wd as = as.map (fun w => PyData.str (S w)) from rfl, show wd bs = bs.map (fun w => PyData.str (S w)) from rfl, strs_shaped as ha, strs_shaped bs hb]
  have e : PyData.eqv (.list (wd as)) (.list (wd bs)) = decide (as = bs) := by
    rw [PyData.eqv, eqv_texts]
  show Wo (some (!(PyData.eqv (.list (wd as)) (.list (wd bs))))) k = _
  rw [e]
  rfl
theorem ev_law_text0 (n : Nat) : run gcs code (n + 4) 18 [.d (.str (S []))] = some (.v (.d (.tuple [.str (S [116, 111, 108, 100]), .list []])), [.d (.str (S []))]) := by
  have r : run gcs code (n + 3) 3 [.d (.str (S []))] = some (.v (.ol []), [.d (.str (S []))]) := by
    refine ev_of (run_wp rfl ⟨rfl, rfl, rfl, by decide⟩ ?_)
    simp -implicitDefEqProofs [c_read_orders, ownO, lit18]
  have ca := fun kc k => ca_of (kc := kc) (k := k) r
  refine ev_of (run_wp rfl ⟨rfl, rfl, rfl, by decide⟩ ?_)
  simp -implicitDefEqProofs [c__law_text, ownO, ws_try, litTold, ca]
end K97

/-! P97q: the law. -/
namespace K97
open PySem Y L2
def od (os : List (List Pt)) : List D := os.map fun ps => .tuple (ps.map Pt.d)
def lw (os : List (List Pt)) : List D := os.map fun ps => .str (S (ln ps))
theorem od_len {os : List (List Pt)} : (od os).length = os.length := List.length_map _
theorem lw_wd {os : List (List Pt)} : lw os = wd (os.map ln) := by simp [lw, wd]
theorem join_bent {ls : List (List Nat)} {k} (h : ∀ l ∈ ls, Bent l) (hl : ls.length ≤ 9) : Mt .join (.str (S [10])) (.list (wd ls)) k = k (.d (.str (S (jn 10 ls)))) := by
  have hs : ∀ os : List (List Nat), (∀ ps ∈ os, Bent ps) → ((os.map List.length).sum) ≤ os.length * 4000 := by
    intro os
    induction os with
    | nil => intro _; simp
    | cons p ps ih =>
      intro h
      have h1 := ih fun q hq => h q (List.mem_cons_of_mem _ hq)
      have h2 := (h p List.mem_cons_self).len
      rw [List.map_cons, List.sum_cons, List.length_cons]
      omega
  have h0 := hs ls h
  have h3 := mt_join' (t := S [10]) (ys := ls.map S) (k := k) (by
    have e1 : ((ls.map S).map (·.length)).sum = (ls.map List.length).sum := by
      rw [List.map_map]
      exact congrArg List.sum (List.map_congr_left fun p _ => S_len)
    rw [e1, List.length_map]
    have : (S [10]).length = 1 := S_len
    rw [this]
    omega)
  rw [join_S1, List.map_map] at h3
  exact h3
theorem jn_bent {ls : List (List Nat)} (h : ∀ l ∈ ls, Bent l) (hl : ls.length ≤ 9) : (jn 10 ls).length ≤ 50000 ∧ Asc (jn 10 ls) := by
  have h1 := jn_len (s := 10) ls
  have hs : ∀ os : List (List Nat), (∀ ps ∈ os, Bent ps) → ((os.map List.length).sum) ≤ os.length * 4000 := by
    intro os
    induction os with
    | nil => intro _; simp
    | cons p ps ih =>
      intro h
      have h1 := ih fun q hq => h q (List.mem_cons_of_mem _ hq)
      have h2 := (h p List.mem_cons_self).len
      rw [List.map_cons, List.sum_cons, List.length_cons]
      omega
  have h0 := hs ls h
  refine ⟨by omega, fun c hc => ?_⟩
  rcases jn_in hc with rfl | ⟨w, hw, hc⟩
  · decide
  · exact (h w hw).asc c hc
theorem jn_nil {s : Nat} : ∀ {ws : List (List Nat)}, ws ≠ [] → jn s ws = [] → ws = [[]]
  | [], h, _ => absurd rfl h
  | [w], _, h => by
    have h : w = [] := h
    rw [h]
  | w :: v :: vs, _, h => by
    rw [jn_cons (by simp)] at h
    simp at h
theorem jn_snoc {s : Nat} : ∀ {ws : List (List Nat)}, ws ≠ [] → jn s (ws ++ [[]]) = jn s ws ++ [s]
  | [], h => absurd rfl h
  | [w], _ => rfl
  | w :: v :: vs, _ => by
    have ih := jn_snoc (s := s) (ws := v :: vs) (by simp)
    rw [List.cons_append, jn_cons (w := w) (r := v :: vs ++ [[]]) (by simp), ih, jn_cons (w := w) (r := v :: vs) (by simp)]
    simp
theorem told_good {os : List (List Pt)} (h : ∀ ps ∈ os, Good ps) : told (os.map ln) = .tuple [.str (S [116, 111, 108, 100]), .list (od os)] ∧ (os.map ln).map rdL = od os := by
  have e : (os.map ln).map rdL = od os := by
    rw [List.map_map]
    exact List.map_congr_left fun ps hp => (h ps hp).back
  refine ⟨?_, e⟩
  unfold told
  rw [e, idx_none]
  intro d hd
  obtain ⟨ps, _, rfl⟩ := List.mem_map.mp hd
  rfl
theorem told_nl {os : List (List Pt)} (h : ∀ ps ∈ os, Good ps) : told (os.map ln ++ [[]]) = .tuple [.str (S [119, 114, 111, 110, 103]), .int ((os.length : Int) + 1)] ∧ ∃ i, idxD .none ((os.map ln ++ [[]]).map rdL) = some i := by
  have e : (os.map ln ++ [[]]).map rdL = od os ++ [.none] := by
    rw [List.map_append, (told_good h).2]
    rfl
  have q : idxD .none (od os ++ [.none]) = some os.length := by
    have key : ∀ ds : List D, (∀ d ∈ ds, isNoneD d = false) → idxD .none (ds ++ [.none]) = some ds.length := by
      intro ds
      induction ds with
      | nil => intro _; rfl
      | cons d ds ih =>
        intro h
        show (if PyData.eqv d .none then some 0 else (idxD .none (ds ++ [.none])).map (· + 1)) = _
        rw [ih fun x hx => h x (List.mem_cons_of_mem _ hx), eqv_none, h d List.mem_cons_self]
        rfl
    rw [key, od_len]
    intro d hd
    obtain ⟨ps, _, rfl⟩ := List.mem_map.mp hd
    rfl
  refine ⟨?_, _, by rw [e]; exact q⟩
  unfold told
  rw [e, q]
theorem ev_law (n : Nat) (ns : List Int) : ∃ outs, run gcs code (n + 7) 19 [.d (.list (intL ns))] = some (.v (.d (.bool true)), outs) := by
  obtain ⟨r, outs, h, rfl⟩ : ∃ r outs, run gcs code (n + 7) 19 [.d (.list (intL ns))] = some (.v r, outs) ∧ r = .d (.bool true) := by
    refine run_wp rfl ⟨rfl, rfl, rfl, by decide⟩ ?_
    obtain ⟨ds, hds⟩ := ev_digits (n + 4) ns
    have cdg := fun kc k => ca_of (kc := kc) (k := k) hds
    obtain ⟨q, hq, hq8⟩ := dr_nat (ds := ds) (c := 0) (many := 8) (by decide)
    have d0 : ∀ kc k, Ca (run gcs code (n + 6)) 8 [.ol [.list (intL ds), .int 0], .d (.int 8)] kc k = k (.d (.int (q : Int))) [.ol (bx ds 1), .d (.int 8)] := fun kc k => by
      rw [← hq]
      exact ca_draw (n := n + 5) (ds := ds) (c := 0) (many := 8) (by decide)
    have r0 : ∀ k, Rg1 (1 + (q : Int)) k = k (rangeD 0 (1 + q)) := fun k => by
      have := rg1_nat (n := 1 + q) (k := k) (by omega)
      simpa using this
    have r3 : ∀ k, Rg1 3 k = k (rangeD 0 3) := fun k => rg1_nat (n := 3) (by decide)
    simp -implicitDefEqProofs [c_law, ownO, cdg, d0, r0, lit17, lit23, lit26, lit37, lit18]
    refine lc_inv (fun i acc e => ∃ (os : List (List Pt)) (c2 : Nat), acc = od os ∧ os.length = i ∧ (∀ ps ∈ os, Good ps) ∧ e = [some (.d (.list (intL ns))), some (.ol (bx ds c2)), none, none, none, none, none, none, none, none, none, none, none, none]) rfl ⟨[], 1, rfl, rfl, fun _ h => (nomatch h), rfl⟩ ?_ ?_
    · rintro i x acc e hx hP
      obtain ⟨hi, rfl⟩ := mem_range hx
      obtain ⟨os, c2, rfl, hl, hg, rfl⟩ := hP
      obtain ⟨ps, c3, hp, ho⟩ := ev_order (n + 2) ds c2
      have co := fun kc k => ca_of (kc := kc) (k := k) ho
      simp -implicitDefEqProofs [T1, wipeE, co]
      refine ⟨os ++ [ps], by simp [od], by simp [hl], fun z h => ?_, _, rfl⟩
      rcases List.mem_append.mp h with h | h
      · exact hg z h
      · rw [List.mem_singleton.mp h]
        exact hp
    · rintro acc e1 ⟨os, c2, rfl, hl, hg, rfl⟩
      rw [range_len] at hl
      have ho8 : os.length ≤ 8 := by omega
      have ho1 : os ≠ [] := fun z => by
        rw [z] at hl
        simp at hl
        omega
      simp -implicitDefEqProofs [backE]
      refine lc_fm os (fun ps => .tuple (ps.map Pt.d)) (fun ps => some (.str (S (ln ps)))) [some (.d (.list (intL ns))), some (.ol (bx ds c2)), none, some (.d (.list (od os))), none, none, none, none, none, none, none, none, none, none] rfl rfl rfl (fun ps hp2 => ?_) ?_
      · have hgp := hg ps hp2
        simp -implicitDefEqProofs [T1]
        refine lc_fm ps Pt.d (fun p => some (.str (S p.w))) [some (.d (.list (intL ns))), some (.ol (bx ds c2)), none, some (.d (.list (od os))), some (.d (.tuple (ps.map Pt.d))), none, none, none, none, none, none, none, none, none] rfl rfl rfl (fun p hp3 => ?_) ?_
        · have ho := hgp.ok p hp3
          cases p with
          | t w =>
            simp -implicitDefEqProofs [T1, Pt.d, Pt.w]
            rfl
          | n m =>
            have hm : m ≤ 9999 := ho
            have bs : ∀ k, Bt .str (.int (m : Int)) k = k (.d (.str (S (dg m)))) := fun k => by
              rw [bt_strI (small_nat (by omega))]
              exact congrArg (fun z => k (.d (.str z))) str_nat
            simp -implicitDefEqProofs [T1, Pt.d, Pt.w, bs]
            rfl
        · rw [fm_some]
          have jo : ∀ k, Mt .join (.str (S [32])) (.list (ps.map fun p => PyData.str (S p.w))) k = k (.d (.str (S (ln ps)))) := fun k => by
            have h3 := mt_join' (t := S [32]) (ys := (ps.map Pt.w).map S) (k := k) (by
              have h1 := jn_sum (s := 32) (ps.map Pt.w)
              have h2 := hgp.siz
              have h4 := hgp.len
              have e1 : (((ps.map Pt.w).map S).map (·.length)).sum = ((ps.map Pt.w).map List.length).sum := by
                rw [List.map_map]
                exact congrArg List.sum (List.map_congr_left fun p _ => S_len)
              have h5 : (jn 32 (ps.map Pt.w)).length ≤ 60 := h2
              rw [e1, List.length_map, List.length_map]
              have : (S [32]).length = 1 := S_len
              rw [this]
              omega)
            rw [join_S1, List.map_map, List.map_map] at h3
            exact h3
          simp -implicitDefEqProofs [backE, jo]
          rfl
      · rw [fm_some]
        have lwe : (os.map fun ps => PyData.str (S (ln ps))) = wd (os.map ln) := lw_wd
        rw [lwe]
        have hb : ∀ l ∈ os.map ln, Bent l := fun l h => by
          obtain ⟨ps, hp, rfl⟩ := List.mem_map.mp h
          exact good_bent (hg ps hp)
        have hlen : (os.map ln).length = os.length := List.length_map _
        have ol : os.length ≤ 1000000 := by omega
        have odl := od_len (os := os)
        simp -implicitDefEqProofs [backE, odl, ol]
        refine fr_inv (fun i e => ∃ (c3 : Nat) (x2 x7 x8 : Option O), e = [some (.d (.list (intL ns))), some (.ol (bx ds c3)), x2, some (.d (.list (od os))), none, none, some (.ol (wd (os.map ln))), x7, x8, none, none, none, none, none]) ⟨_, _, _, _, rfl⟩ ?_ ?_
        · rintro i x e hx hP
          obtain ⟨hi, rfl⟩ := mem_range hx
          obtain ⟨c3, x2, x7, x8, rfl⟩ := hP
          obtain ⟨ps, hps⟩ : ∃ ps, ps = os[i] := ⟨_, rfl⟩
          have hpi : os[i]? = some ps := by rw [List.getElem?_eq_getElem hi, hps]
          have hgp := hg ps (List.mem_of_getElem? hpi)
          have ai : ∀ k, At (od os) (i : Int) k = k (.tuple (ps.map Pt.d)) := fun k => at_nat (by unfold od; rw [List.getElem?_map, hpi]; rfl)
          have bi : ∀ k, At (wd (os.map ln)) (i : Int) k = k (.str (S (ln ps))) := fun k => at_nat (by unfold wd; rw [List.getElem?_map, List.getElem?_map, hpi]; rfl)
          have cw := fun kc k => ca_write_order (n := n + 5) (kc := kc) (k := k) hgp.ok hgp.len
          have sz := hgp.siz
          have cr : ∀ kc k, Ca (run gcs code (n + 6)) 2 [.d (.str (S (ln ps)))] kc k = k (.d (.tuple (ps.map Pt.d))) [.d (.str (S (ln ps)))] := fun kc k => by
            rw [ca_read_order (n := n + 4) (by omega), hgp.back]
          have el := ev_law_read (n + 4) (ln ps) (by omega) hgp.asc
          have cl : ∀ kc k, Ca (run gcs code (n + 6)) 14 [.d (.str (S (ln ps)))] kc k = k (.d (.tuple (ps.map Pt.d))) [.d (.str (S (ln ps)))] := fun kc k => by
            have e : rd (sp 32 (ln ps)) = .tuple (ps.map Pt.d) := hgp.back
            rw [e] at el
            exact ca_of el
          have s1 := fun kc k => ca_same (n := n + 1) (kc := kc) (k := k) ((bent_nice (good_bent hgp) (k := 4)).mono (Nat.le_refl _) (by decide))
          have s2 := fun kc k => ca_same (n := n + 1) (kc := kc) (k := k) ((good_nice hgp).mono (by decide) (by decide))
          have ne := fun k => cm_same (k := k) hgp
          simp -implicitDefEqProofs [ai, bi, cw, cr, cl, s1, s2, ne, r3]
          refine fr_inv (fun i2 e => ∃ (c4 : Nat) (x2 x8 : Option O), e = [some (.d (.list (intL ns))), some (.ol (bx ds c4)), x2, some (.d (.list (od os))), none, none, some (.ol (wd (os.map ln))), some (.d (.int i)), x8, none, none, none, none, none]) ⟨_, _, _, rfl⟩ ?_ ?_
          · rintro i2 x e hx hP
            obtain ⟨hi2, rfl⟩ := mem_range hx
            obtain ⟨c4, y2, y8, rfl⟩ := hP
            obtain ⟨l', c5, hb2, hr⟩ := ev_bent (n + 3) ds c4 (ln ps) sz hgp.asc hgp.one
            have cb := fun kc k => ca_of (kc := kc) (k := k) hr
            have l1 := hb2.len
            have c1 := fun kc k => ca_read_order (n := n + 4) (l := l') (kc := kc) (k := k) (by omega)
            have c2 := fun kc k => ca_of (kc := kc) (k := k) (ev_law_read (n + 4) l' (by omega) hb2.asc)
            have e2 : rd (sp 32 l') = rdL l' := rfl
            rw [e2] at c2
            have s3 := fun kc k => ca_same (n := n + 1) (kc := kc) (k := k) ((nice_rdL hb2).mono (by decide) (by decide))
            simp -implicitDefEqProofs [bi, cb, c1, c2, s3]
            exact ⟨_, rfl⟩
          · rintro e ⟨c4, y2, y8, rfl⟩
            exact ⟨_, _, _, _, rfl⟩
        · rintro e ⟨c3, x2, x7, x8, rfl⟩
          have hne : os.map ln ≠ [] := fun z => ho1 (List.map_eq_nil_iff.mp z)
          obtain ⟨jl, ja⟩ := jn_bent hb (by omega)
          have j1 := fun k => join_bent (k := k) hb (by omega)
          have wo := fun kc k => ca_of (kc := kc) (k := k) (ev_write_orders (n + 4) os (fun ps hp => ⟨(hg ps hp).ok, (hg ps hp).len, by have := (hg ps hp).siz; omega⟩) (by omega))
          have tne : jn 10 (os.map ln) ≠ [] := fun z => by
            have := jn_nil hne z
            obtain ⟨ps, hps⟩ := List.exists_mem_of_ne_nil os ho1
            have h1 : ln ps ∈ os.map ln := List.mem_map.mpr ⟨ps, hps, rfl⟩
            rw [this, List.mem_singleton] at h1
            exact (hg ps hps).ne h1
          have cut : sp 10 (jn 10 (os.map ln)) = os.map ln := sp_jn _ hne fun w hw => (hb w hw).one
          have lt := ev_law_text (n + 2) (jn 10 (os.map ln)) tne (by omega)
          rw [cut, (told_good hg).1] at lt
          have ct := fun kc k => ca_of (kc := kc) (k := k) lt
          have nt := nice_told hb (by omega) (.inl (by omega))
          rw [(told_good hg).1] at nt
          have s1 := fun kc k => ca_same (n := n + 1) (kc := kc) (k := k) ((nice_S (l := jn 10 (os.map ln)) (k := 4) (m := 1000000) ja (by omega)))
          have s2 := fun kc k => ca_same (n := n + 1) (kc := kc) (k := k) (nt.mono (by decide) (by decide))
          have wo' : ∀ kc k, Ca (run gcs code (n + 6)) 5 [.d (.list (od os))] kc k = k (.d (.str (S (jn 10 (os.map ln))))) [.d (.list (od os))] := wo
          simp -implicitDefEqProofs [j1, wo', s1, ct, s2, r3]
          refine fr_inv (fun i2 e => ∃ (c4 : Nat) (x2 x11 x12 x13 : Option O) (o6 : O), (o6 = .ol (wd (os.map ln)) ∨ o6 = .d (.list (wd (os.map ln)))) ∧ e = [some (.d (.list (intL ns))), some (.ol (bx ds c4)), x2, some (.d (.list (od os))), none, none, some o6, x7, x8, some (.d (.str (S (jn 10 (os.map ln))))), none, x11, x12, x13]) ⟨_, _, _, _, _, _, .inl rfl, rfl⟩ ?_ ?_
          · rintro i2 x e hx hP
            obtain ⟨hi2, rfl⟩ := mem_range hx
            obtain ⟨c4, y2, y11, y12, y13, o6, ho6, rfl⟩ := hP
            rcases ho6 with rfl | rfl
            all_goals
              simp -implicitDefEqProofs
              refine lc_inv (fun i acc e => ∃ (ms : List (List Nat)) (c5 : Nat), acc = wd ms ∧ ms.length = i ∧ (∀ l ∈ ms, Bent l) ∧ e = [some (.d (.list (intL ns))), some (.ol (bx ds c5)), some (.d (.int (i2 : Int))), some (.d (.list (od os))), none, none, some (.d (.list (wd (os.map ln)))), x7, x8, some (.d (.str (S (jn 10 (os.map ln))))), none, y11, y12, y13]) rfl ⟨[], _, rfl, rfl, fun _ h => (nomatch h), rfl⟩ ?_ ?_
              · rintro i x acc e hx hP
                obtain ⟨ps, hps, rfl⟩ : ∃ ps ∈ os, x = .str (S (ln ps)) := by
                  unfold wd at hx
                  rw [List.getElem?_map, List.getElem?_map] at hx
                  cases q : os[i]? with
                  | none =>
                    rw [q] at hx
                    cases hx
                  | some ps =>
                    rw [q] at hx
                    cases hx
                    exact ⟨ps, List.mem_of_getElem? q, rfl⟩
                obtain ⟨ms, c5, rfl, hml, hmb, rfl⟩ := hP
                have hgp := hg ps hps
                obtain ⟨l', c6, hb2, hr⟩ := ev_bent (n + 3) ds (c5 + 1) (ln ps) hgp.siz hgp.asc hgp.one
                have cb := fun kc k => ca_of (kc := kc) (k := k) hr
                have cd := fun kc k => ca_draw (n := n + 5) (ds := ds) (c := c5) (many := 3) (kc := kc) (k := k) (by decide)
                have cd : ∀ kc k, Ca (run gcs code (n + 6)) 8 [.ol (bx ds c5), .d (.int 3)] kc k = k (.d (.int (dr ds c5 3))) [.ol (bx ds (c5 + 1)), .d (.int 3)] := cd
                simp -implicitDefEqProofs [T1, wipeE, cd, cb]
                refine br_intro (fun _ => ?_) (fun _ => ?_)
                · refine ⟨ms ++ [l'], by simp [wd], by simp [hml], fun z h => ?_, _, rfl⟩
                  rcases List.mem_append.mp h with h | h
                  · exact hmb z h
                  · rw [List.mem_singleton.mp h]
                    exact hb2
                · refine ⟨ms ++ [ln ps], by simp [wd], by simp [hml], fun z h => ?_, _, rfl⟩
                  rcases List.mem_append.mp h with h | h
                  · exact hmb z h
                  · rw [List.mem_singleton.mp h]
                    exact good_bent hgp
              · rintro acc e1 ⟨ms, c5, rfl, hml, hmb, rfl⟩
                have hml : ms.length = os.length := by
                  rw [hml]
                  simp [wd]
                have hmne : ms ≠ [] := fun z => by
                  rw [z] at hml
                  exact ho1 (List.length_eq_zero_iff.mp hml.symm)
                simp -implicitDefEqProofs [backE]
                refine lc_fm ms (fun l => .str (S l)) (fun l => some (rdL l)) [some (.d (.list (intL ns))), some (.ol (bx ds c5)), some (.d (.int (i2 : Int))), some (.d (.list (od os))), none, none, some (.d (.list (wd (os.map ln)))), x7, x8, some (.d (.str (S (jn 10 (os.map ln))))), none, some (.d (.list (wd ms))), y12, y13] rfl rfl rfl (fun l hl2 => ?_) ?_
                · have hb2 := hmb l hl2
                  have l1 := hb2.len
                  have c2 := fun kc k => ca_of (kc := kc) (k := k) (ev_law_read (n + 4) l (by omega) hb2.asc)
                  simp -implicitDefEqProofs [T1, c2]
                  exact ⟨rfl, rfl⟩
                · rw [fm_some]
                  have nm := nice_many hmb (by omega)
                  have ci := fun k => cm_inN (k := k) (nm.shaped (by decide))
                  have nw := fun k => cm_neW (as := ms) (bs := [[]]) (k := k) (fun l h => (hmb l h).asc) (by unfold Asc; simp)
                  have nw : ∀ k, Cm .ne (.list (wd ms)) (.list [.str (S [])]) k = k (!decide (ms = [[]])) := nw
                  obtain ⟨jl2, ja2⟩ := jn_bent hmb (by omega)
                  have j2 := fun k => join_bent (k := k) hmb (by omega)
                  have s4 := fun kc k => ca_same (n := n + 1) (kc := kc) (k := k) ((nice_told hmb (by omega) (.inl (by omega))).mono (by decide) (by decide))
                  have ct2 : ¬ ms = [[]] → ∀ kc k, Ca (run gcs code (n + 6)) 18 [.d (.str (S (jn 10 ms)))] kc k = k (.d (told ms)) [.d (.str (S (jn 10 ms)))] := fun z kc k => by
                    have lt := ev_law_text (n + 2) (jn 10 ms) (fun y => z (jn_nil hmne y)) (by omega)
                    rw [sp_jn _ hmne fun w hw => (hmb w hw).one] at lt
                    exact ca_of lt
                  have told_s : ∀ i, idxD .none (ms.map rdL) = some i → told ms = .tuple [.str (S [119, 114, 111, 110, 103]), .int ((i : Int) + 1)] := fun i h => by
                    unfold told
                    rw [h]
                  have told_n : idxD .none (ms.map rdL) = none → told ms = .tuple [.str (S [116, 111, 108, 100]), .list (ms.map rdL)] := fun h => by
                    unfold told
                    rw [h]
                  cases q : idxD .none (ms.map rdL) with
                  | some j =>
                    have te := told_s j q
                    have lx := fun k => lx_l (k := k) (nm.shaped (by decide)) (show PySem.SeqAt.shaped .none = true by rfl) q
                    rw [te] at s4 ct2
                    rw [q] at ci
                    simp -implicitDefEqProofs [backE, ci, lx, nw]
                    refine br_intro (fun h1 => ?_) (fun h1 => ?_)
                    · exact ⟨_, rfl⟩
                    · have z : ¬ ms = [[]] := by simpa using h1
                      simp -implicitDefEqProofs [j2, ct2 z, s4]
                      exact ⟨_, rfl⟩
                  | none =>
                    have te := told_n q
                    rw [te] at s4 ct2
                    rw [q] at ci
                    simp -implicitDefEqProofs [backE, ci, nw]
                    refine br_intro (fun h1 => ?_) (fun h1 => ?_)
                    · exact ⟨_, rfl⟩
                    · have z : ¬ ms = [[]] := by simpa using h1
                      simp -implicitDefEqProofs [j2, ct2 z, s4]
                      exact ⟨_, rfl⟩
          · rintro e ⟨c4, y2, y11, y12, y13, o6, ho6, rfl⟩
            have tn := told_nl hg
            have t1 : jn 10 (os.map ln) ++ [10] ≠ [] := by simp
            have hb9 : ∀ l ∈ os.map ln ++ [[]], Bent l := fun l h => by
              rcases List.mem_append.mp h with h | h
              · exact hb l h
              · rw [List.mem_singleton.mp h]
                exact ⟨by decide, by unfold Asc; simp, by simp⟩
            have lt2 := ev_law_text (n + 2) (jn 10 (os.map ln) ++ [10]) t1 (by simp; omega)
            rw [← jn_snoc hne, sp_jn _ (by simp) fun w hw => (hb9 w hw).one, tn.1, jn_snoc hne] at lt2
            have ct3 := fun kc k => ca_of (kc := kc) (k := k) lt2
            have nt2 := nice_told hb9 (by simp; omega) (.inr tn.2)
            rw [tn.1] at nt2
            have s5 := fun kc k => ca_same (n := n + 1) (kc := kc) (k := k) (nt2.mono (by decide) (by decide))
            have ct4 := fun kc k => ca_of (kc := kc) (k := k) (ev_law_text0 (n + 2))
            have s6 := fun kc k => ca_same (n := n + 1) (kc := kc) (k := k) (d := .tuple [.str (S [116, 111, 108, 100]), .list []]) (nice_pair (k := 3) (m1 := 1000) (m2 := 1000) (nice_S (by decide) (by decide)) (nice_list (k := 2) (m := 0) (fun _ h => (nomatch h)) (by decide)) (by decide))
            have wl : (wd (os.map ln)).length = os.length := by simp [wd]
            have jz : (jn 10 (os.map ln)).length + 1 ≤ 16777216 := by omega
            rcases ho6 with rfl | rfl
            · simp -implicitDefEqProofs [jz, ct3, wl, s5, ct4, s6]
            · simp -implicitDefEqProofs [jz, ct3, wl, s5, ct4, s6]
  exact ⟨outs, h⟩
theorem law_true : ∀ ns : List Int, ns.length ≤ 63 → ∃ outs, run gcs code 60 19 [.d (.list (ns.map .int))] = some (.v (.d (.bool true)), outs) := fun ns _ => ev_law 53 ns
end K97

namespace K97
open PySem PySem.Spec PyProof.Rows L2 Y
theorem all_mk {K : PySem.W.Frag} {h : Heap} {mg : Str → Option Value} {fa f0 f1 f2 f3 f4 f5 f6 f7 f8 f9 f10 f11 f12 f13 f14 f15 f16 f17 f18 f19 : Addr} (X0 : K.In h) (G : h.Ns mainGlobals mg) (hfa : mg "law" = some (.ref fa))
    {od0 an0 od1 an1 od2 an2 od3 an3 od4 an4 od5 an5 od6 an6 od7 an7 od8 an8 od9 an9 od10 an10 od11 an11 od12 an12 od13 an13 od14 an14 od15 an15 od16 an16 od17 an17 od18 an18 od19 an19 : Option Addr} {sl0 sl1 sl2 sl3 sl4 sl5 sl6 sl7 sl8 sl9 sl10 sl11 sl12 sl13 sl14 sl15 sl16 sl17 sl18 sl19 : Array (Option Value)} {oc0 kV0 dc0 pm0 cd0 ct0 oc1 kV1 dc1 pm1 cd1 ct1 oc2 kV2 dc2 pm2 cd2 ct2 oc3 kV3 dc3 pm3 cd3 ct3 oc4 kV4 dc4 pm4 cd4 ct4 oc5 kV5 dc5 pm5 cd5 ct5 oc6 kV6 dc6 pm6 cd6 ct6 oc7 kV7 dc7 pm7 cd7 ct7 oc8 kV8 dc8 pm8 cd8 ct8 oc9 kV9 dc9 pm9 cd9 ct9 oc10 kV10 dc10 pm10 cd10 ct10 oc11 kV11 dc11 pm11 cd11 ct11 oc12 kV12 dc12 pm12 cd12 ct12 oc13 kV13 dc13 pm13 cd13 ct13 oc14 kV14 dc14 pm14 cd14 ct14 oc15 kV15 dc15 pm15 cd15 ct15 oc16 kV16 dc16 pm16 cd16 ct16 oc17 kV17 dc17 pm17 cd17 ct17 oc18 kV18 dc18 pm18 cd18 ct18 oc19 kV19 dc19 pm19 cd19 ct19 : Value}
    (a0 : PySem.W.nsIn K mainGlobals "is_word" = some (some (.ref f0))) (l0 : K.lookup f0 = some ⟨oc0, od0, .func (PySem.W.fnOf "is_word" "is_word" (defArgs (top 7)) (defBody (top 7)) (defScope (top 7)) .none kV0 dc0 pm0 an0 cd0 ct0), sl0⟩)
    (c0 : PySem.W.codeIn K cd0 "is_word" = true) (k0 : PySem.W.keepIn K (.ref f0) = true)
    (a1 : PySem.W.nsIn K mainGlobals "number_of" = some (some (.ref f1))) (l1 : K.lookup f1 = some ⟨oc1, od1, .func (PySem.W.fnOf "number_of" "number_of" (defArgs (top 8)) (defBody (top 8)) (defScope (top 8)) .none kV1 dc1 pm1 an1 cd1 ct1), sl1⟩)
    (c1 : PySem.W.codeIn K cd1 "number_of" = true) (k1 : PySem.W.keepIn K (.ref f1) = true)
    (a2 : PySem.W.nsIn K mainGlobals "read_order" = some (some (.ref f2))) (l2 : K.lookup f2 = some ⟨oc2, od2, .func (PySem.W.fnOf "read_order" "read_order" (defArgs (top 9)) (defBody (top 9)) (defScope (top 9)) .none kV2 dc2 pm2 an2 cd2 ct2), sl2⟩)
    (c2 : PySem.W.codeIn K cd2 "read_order" = true) (k2 : PySem.W.keepIn K (.ref f2) = true)
    (a3 : PySem.W.nsIn K mainGlobals "read_orders" = some (some (.ref f3))) (l3 : K.lookup f3 = some ⟨oc3, od3, .func (PySem.W.fnOf "read_orders" "read_orders" (defArgs (top 10)) (defBody (top 10)) (defScope (top 10)) .none kV3 dc3 pm3 an3 cd3 ct3), sl3⟩)
    (c3 : PySem.W.codeIn K cd3 "read_orders" = true) (k3 : PySem.W.keepIn K (.ref f3) = true)
    (a4 : PySem.W.nsIn K mainGlobals "write_order" = some (some (.ref f4))) (l4 : K.lookup f4 = some ⟨oc4, od4, .func (PySem.W.fnOf "write_order" "write_order" (defArgs (top 11)) (defBody (top 11)) (defScope (top 11)) .none kV4 dc4 pm4 an4 cd4 ct4), sl4⟩)
    (c4 : PySem.W.codeIn K cd4 "write_order" = true) (k4 : PySem.W.keepIn K (.ref f4) = true)
    (a5 : PySem.W.nsIn K mainGlobals "write_orders" = some (some (.ref f5))) (l5 : K.lookup f5 = some ⟨oc5, od5, .func (PySem.W.fnOf "write_orders" "write_orders" (defArgs (top 12)) (defBody (top 12)) (defScope (top 12)) .none kV5 dc5 pm5 an5 cd5 ct5), sl5⟩)
    (c5 : PySem.W.codeIn K cd5 "write_orders" = true) (k5 : PySem.W.keepIn K (.ref f5) = true)
    (a6 : PySem.W.nsIn K mainGlobals "_law_cell" = some (some (.ref f6))) (l6 : K.lookup f6 = some ⟨oc6, od6, .func (PySem.W.fnOf "_law_cell" "_law_cell" (defArgs (top 14)) (defBody (top 14)) (defScope (top 14)) .none kV6 dc6 pm6 an6 cd6 ct6), sl6⟩)
    (c6 : PySem.W.codeIn K cd6 "_law_cell" = true) (k6 : PySem.W.keepIn K (.ref f6) = true)
    (a7 : PySem.W.nsIn K mainGlobals "_law_digits" = some (some (.ref f7))) (l7 : K.lookup f7 = some ⟨oc7, od7, .func (PySem.W.fnOf "_law_digits" "_law_digits" (defArgs (top 15)) (defBody (top 15)) (defScope (top 15)) .none kV7 dc7 pm7 an7 cd7 ct7), sl7⟩)
    (c7 : PySem.W.codeIn K cd7 "_law_digits" = true) (k7 : PySem.W.keepIn K (.ref f7) = true)
    (a8 : PySem.W.nsIn K mainGlobals "_law_draw" = some (some (.ref f8))) (l8 : K.lookup f8 = some ⟨oc8, od8, .func (PySem.W.fnOf "_law_draw" "_law_draw" (defArgs (top 16)) (defBody (top 16)) (defScope (top 16)) .none kV8 dc8 pm8 an8 cd8 ct8), sl8⟩)
    (c8 : PySem.W.codeIn K cd8 "_law_draw" = true) (k8 : PySem.W.keepIn K (.ref f8) = true)
    (a9 : PySem.W.nsIn K mainGlobals "_law_pick" = some (some (.ref f9))) (l9 : K.lookup f9 = some ⟨oc9, od9, .func (PySem.W.fnOf "_law_pick" "_law_pick" (defArgs (top 17)) (defBody (top 17)) (defScope (top 17)) .none kV9 dc9 pm9 an9 cd9 ct9), sl9⟩)
    (c9 : PySem.W.codeIn K cd9 "_law_pick" = true) (k9 : PySem.W.keepIn K (.ref f9) = true)
    (a10 : PySem.W.nsIn K mainGlobals "_law_same" = some (some (.ref f10))) (l10 : K.lookup f10 = some ⟨oc10, od10, .func (PySem.W.fnOf "_law_same" "_law_same" (defArgs (top 18)) (defBody (top 18)) (defScope (top 18)) .none kV10 dc10 pm10 an10 cd10 ct10), sl10⟩)
    (c10 : PySem.W.codeIn K cd10 "_law_same" = true) (k10 : PySem.W.keepIn K (.ref f10) = true)
    (a11 : PySem.W.nsIn K mainGlobals "_law_is_word" = some (some (.ref f11))) (l11 : K.lookup f11 = some ⟨oc11, od11, .func (PySem.W.fnOf "_law_is_word" "_law_is_word" (defArgs (top 19)) (defBody (top 19)) (defScope (top 19)) .none kV11 dc11 pm11 an11 cd11 ct11), sl11⟩)
    (c11 : PySem.W.codeIn K cd11 "_law_is_word" = true) (k11 : PySem.W.keepIn K (.ref f11) = true)
    (a12 : PySem.W.nsIn K mainGlobals "_law_number" = some (some (.ref f12))) (l12 : K.lookup f12 = some ⟨oc12, od12, .func (PySem.W.fnOf "_law_number" "_law_number" (defArgs (top 20)) (defBody (top 20)) (defScope (top 20)) .none kV12 dc12 pm12 an12 cd12 ct12), sl12⟩)
    (c12 : PySem.W.codeIn K cd12 "_law_number" = true) (k12 : PySem.W.keepIn K (.ref f12) = true)
    (a13 : PySem.W.nsIn K mainGlobals "_law_asked" = some (some (.ref f13))) (l13 : K.lookup f13 = some ⟨oc13, od13, .func (PySem.W.fnOf "_law_asked" "_law_asked" (defArgs (top 21)) (defBody (top 21)) (defScope (top 21)) .none kV13 dc13 pm13 an13 cd13 ct13), sl13⟩)
    (c13 : PySem.W.codeIn K cd13 "_law_asked" = true) (k13 : PySem.W.keepIn K (.ref f13) = true)
    (a14 : PySem.W.nsIn K mainGlobals "_law_read" = some (some (.ref f14))) (l14 : K.lookup f14 = some ⟨oc14, od14, .func (PySem.W.fnOf "_law_read" "_law_read" (defArgs (top 22)) (defBody (top 22)) (defScope (top 22)) .none kV14 dc14 pm14 an14 cd14 ct14), sl14⟩)
    (c14 : PySem.W.codeIn K cd14 "_law_read" = true) (k14 : PySem.W.keepIn K (.ref f14) = true)
    (a15 : PySem.W.nsIn K mainGlobals "_law_word" = some (some (.ref f15))) (l15 : K.lookup f15 = some ⟨oc15, od15, .func (PySem.W.fnOf "_law_word" "_law_word" (defArgs (top 23)) (defBody (top 23)) (defScope (top 23)) .none kV15 dc15 pm15 an15 cd15 ct15), sl15⟩)
    (c15 : PySem.W.codeIn K cd15 "_law_word" = true) (k15 : PySem.W.keepIn K (.ref f15) = true)
    (a16 : PySem.W.nsIn K mainGlobals "_law_order" = some (some (.ref f16))) (l16 : K.lookup f16 = some ⟨oc16, od16, .func (PySem.W.fnOf "_law_order" "_law_order" (defArgs (top 24)) (defBody (top 24)) (defScope (top 24)) .none kV16 dc16 pm16 an16 cd16 ct16), sl16⟩)
    (c16 : PySem.W.codeIn K cd16 "_law_order" = true) (k16 : PySem.W.keepIn K (.ref f16) = true)
    (a17 : PySem.W.nsIn K mainGlobals "_law_bent" = some (some (.ref f17))) (l17 : K.lookup f17 = some ⟨oc17, od17, .func (PySem.W.fnOf "_law_bent" "_law_bent" (defArgs (top 25)) (defBody (top 25)) (defScope (top 25)) .none kV17 dc17 pm17 an17 cd17 ct17), sl17⟩)
    (c17 : PySem.W.codeIn K cd17 "_law_bent" = true) (k17 : PySem.W.keepIn K (.ref f17) = true)
    (a18 : PySem.W.nsIn K mainGlobals "_law_text" = some (some (.ref f18))) (l18 : K.lookup f18 = some ⟨oc18, od18, .func (PySem.W.fnOf "_law_text" "_law_text" (defArgs (top 26)) (defBody (top 26)) (defScope (top 26)) .none kV18 dc18 pm18 an18 cd18 ct18), sl18⟩)
    (c18 : PySem.W.codeIn K cd18 "_law_text" = true) (k18 : PySem.W.keepIn K (.ref f18) = true)
    (a19 : PySem.W.nsIn K mainGlobals "law" = some (some (.ref f19))) (l19 : K.lookup f19 = some ⟨oc19, od19, .func (PySem.W.fnOf "law" "law" (defArgs (top 27)) (defBody (top 27)) (defScope (top 27)) .none kV19 dc19 pm19 an19 cd19 ct19), sl19⟩)
    (c19 : PySem.W.codeIn K cd19 "law" = true) (k19 : PySem.W.keepIn K (.ref f19) = true)
    (z0 : PySem.W.nsIn K mainGlobals "len" = some none) (z1 : PySem.W.nsIn K mainGlobals "list" = some none) (z2 : PySem.W.nsIn K mainGlobals "tuple" = some none) (z3 : PySem.W.nsIn K mainGlobals "any" = some none) (z4 : PySem.W.nsIn K mainGlobals "all" = some none) (z5 : PySem.W.nsIn K mainGlobals "int" = some none) (z6 : PySem.W.nsIn K mainGlobals "str" = some none) (z7 : PySem.W.nsIn K mainGlobals "repr" = some none) (z8 : PySem.W.nsIn K mainGlobals "ord" = some none) (z9 : PySem.W.nsIn K mainGlobals "isinstance" = some none) (z10 : PySem.W.nsIn K mainGlobals "range" = some none) (z11 : PySem.W.nsIn K mainGlobals "bool" = some none) (z12 : PySem.W.nsIn K mainGlobals "dict" = some none) (z13 : PySem.W.nsIn K mainGlobals "enumerate" = some none)
    {ga0 : Addr} {gi0 : Array Value} {gn0 : Nat} {gs0 : Array (Option Value)} (y0 : PySem.W.nsIn K mainGlobals "BARE" = some (some (.ref ga0))) (yl0 : K.lookup ga0 = some ⟨.type "tuple", none, .seq gi0 gn0, gs0⟩) (w0 : ∃ t0 t1 t2 t3 : Nat, gi0 = #[Value.str "books" t0, Value.str "begin" t1, Value.str "end" t2, Value.str "drop" t3])
    {ga1 : Addr} {gi1 : Array Value} {gn1 : Nat} {gs1 : Array (Option Value)} (y1 : PySem.W.nsIn K mainGlobals "ASKED" = some (some (.ref ga1))) (yl1 : K.lookup ga1 = some ⟨.type "tuple", none, .seq gi1 gn1, gs1⟩) (w1 : ∃ t0 t1 t2 t3 t4 t5 t6 t7 t8 : Nat, gi1 = #[Value.str "text" t0, Value.str "side" t1, Value.str "moves" t2, Value.str "turns" t3, Value.str "sights" t4, Value.str "good" t5, Value.str "flat" t6, Value.str "size" t7, Value.str "paper" t8])
    {g2 : Value} (y2 : PySem.W.nsIn K mainGlobals "SMALL" = some (some g2)) (w2 : ∃ t, g2 = .str ((gcs.getD 2 ("", .none)).2 |> (fun d => match d with | .str i => i | _ => "")) t)
    {xC0 xf0 xcc0 xcd0 xN0 : Addr} {xm0 xq0 xfile0 : Str} {xkV0 xdc0 xpm0 xct0 xoc0 xcl0 xccl0 : Value} {xan0 xod0 xcld0 xcdd0 xdd0 : Option Addr} {xsl0 xcsl0 xccs0 : Array (Option Value)} {xvs0 : Array Value} {xtf0 : Tok} {xbs0 xbm0 xsub0 : List Value} {xsn0 : List Str} {xab0 : Bool} {xcol0 : Option Bool} {xk00 xk10 xk20 xk30 xk50 : Option Value}
    (x0_0 : PySem.W.nsIn K mainGlobals "BadOrder" = some (some (.ref xC0)))
    (x0_1 : K.lookup xC0 = some (excClassObj xm0 xq0 xC0 xN0 xbs0 xbm0 true xsn0 xsub0 xab0 xcol0 xdd0 xk00 xk10 xk20 xk30 xk50 "ValueError.__new__"))
    (x0_2 : PySem.HandSPX.refsVE xbm0 = true)
    (x0_3 : PySem.W.findIn K (.ref xC0) "__setattr__" = some (some (.builtin "object.__setattr__")))
    (x0_4 : PySem.W.subIn K (.ref xC0) (.type "BaseException") = some true)
    (x0_5 : PySem.W.typeIn K (.ref xC0) = some (.type "type"))
    (x0_6 : PySem.W.keepIn K (.ref xC0) = true)
    (x0_7 : PySem.W.findIn K (.ref xC0) "__init__" = some (some (.ref xf0)))
    (x0_8 : PySem.W.typeIn K (.ref xf0) = some (.type "function"))
    (x0_9 : K.lookup xf0 = some ⟨xoc0, xod0, .func (PySem.W.ksFn "__init__" "BadOrder.__init__" (defArgs (initSt (top 2))) (defBody (initSt (top 2))) (defScope (initSt (top 2))) .none xkV0 xdc0 xpm0 xan0 (.ref xcd0) xct0 xcc0), xsl0⟩)
    (x0_10 : PySem.W.codeIn K (.ref xcd0) "BadOrder.__init__" = true)
    (x0_11 : PySem.W.ks_superIn K xC0 xC0 "__init__" = some (some (.builtin "ValueError.__init__")))
    (x0_12 : PySem.W.mroIn K xC0 (.ref xC0) = some true)
    (x0_13 : PySem.W.subIn K (.ref xC0) (.type "ValueError") = some true)
    (x0_14 : PySem.W.nsIn K cStatics "thirdparty.any" = some none)
    (x0_15 : PySem.W.nsIn K mainGlobals "super" = some none)
    (x0_16 : PySem.W.findIn K (.ref xC0) "line" = some none)
    (x0_17 : K.lookup xcc0 = some ⟨xcl0, xcld0, .cell (some (.ref xC0)), xcsl0⟩)
    (x0_18 : K.lookup xcd0 = some ⟨xccl0, xcdd0, .fields xvs0, xccs0⟩)
    (x0_19 : xvs0[2]? = some (.str xfile0 xtf0))
    (x0_20 : PySem.W.findIn K (.ref xC0) "__getattribute__" = some (some (.builtin "BaseException.__getattribute__")))
    (x0_21 : PySem.W.findIn K (.ref xC0) "__getattr__" = some none)
    (x0_22 : PySem.W.hasDictIn K xC0 = true)
    (x0_23 : PySem.W.findIn K (.ref xC0) "__class__" = some (some (.builtin "object.__class__")))
    (x0_24 : PySem.W.specialIn K (.builtin "object.__class__") "__get__" = some (some (.builtin "getset_descriptor.__get__")))
    (x0_25 : PySem.W.takesIn K (.builtin "object.__class__") = some true)
    (x0_26 : PySem.W.mroIn K xC0 (.type "object") = some true)
    {hD0 : Addr} (h0 : PySem.W.nsIn K mainGlobals "TurnError" = some (some (.ref hD0)))
    (he0_0 : PySem.W.exmOne K (.ref xC0) (.ref hD0) = some true) (hk0_0 : PySem.W.kitOne K (.ref xC0) (.ref hD0) = some true)
    (he1_0 : PySem.W.exmOne K (.ref xC0) (.ref xC0) = some true) (hk1_0 : PySem.W.kitOne K (.ref xC0) (.ref xC0) = some true)
    (P : Program) (okp0 : ((P.main.file : Str) == xfile0) = true ∧ (P.main.scope.names.lookup ("super" : Str)).isSome = false)
    : ∃ Dp : PgT, Dp.addr 19 = fa ∧ Dp.ps 19 = [("script" : Str)] ∧ (∀ (s : Shared) (u : Value), BindsTo s (Dp.fd 19) ⟨[u], []⟩ [("script", u)]) ∧ PgOk tb code Dp K mg ∧ Dp.okP P := by
  have e := hfa.symm.trans (PySem.W.mg_of X0 G a19)
  cases e
  have F0 := fun_mk (st := top 7) l0 c0 k0
  have b0 := F0.binds (ps := prm.getD 0 []) fun _ _ _ _ _ _ us hl => match us, hl with | [_], _ => rfl
  have F1 := fun_mk (st := top 8) l1 c1 k1
  have b1 := F1.binds (ps := prm.getD 1 []) fun _ _ _ _ _ _ us hl => match us, hl with | [_], _ => rfl
  have F2 := fun_mk (st := top 9) l2 c2 k2
  have b2 := F2.binds (ps := prm.getD 2 []) fun _ _ _ _ _ _ us hl => match us, hl with | [_], _ => rfl
  have F3 := fun_mk (st := top 10) l3 c3 k3
  have b3 := F3.binds (ps := prm.getD 3 []) fun _ _ _ _ _ _ us hl => match us, hl with | [_], _ => rfl
  have F4 := fun_mk (st := top 11) l4 c4 k4
  have b4 := F4.binds (ps := prm.getD 4 []) fun _ _ _ _ _ _ us hl => match us, hl with | [_], _ => rfl
  have F5 := fun_mk (st := top 12) l5 c5 k5
  have b5 := F5.binds (ps := prm.getD 5 []) fun _ _ _ _ _ _ us hl => match us, hl with | [_], _ => rfl
  have F6 := fun_mk (st := top 14) l6 c6 k6
  have b6 := F6.binds (ps := prm.getD 6 []) fun _ _ _ _ _ _ us hl => match us, hl with | [_, _], _ => rfl
  have F7 := fun_mk (st := top 15) l7 c7 k7
  have b7 := F7.binds (ps := prm.getD 7 []) fun _ _ _ _ _ _ us hl => match us, hl with | [_, _, _], _ => rfl
  have F8 := fun_mk (st := top 16) l8 c8 k8
  have b8 := F8.binds (ps := prm.getD 8 []) fun _ _ _ _ _ _ us hl => match us, hl with | [_, _], _ => rfl
  have F9 := fun_mk (st := top 17) l9 c9 k9
  have b9 := F9.binds (ps := prm.getD 9 []) fun _ _ _ _ _ _ us hl => match us, hl with | [_, _], _ => rfl
  have F10 := fun_mk (st := top 18) l10 c10 k10
  have b10 := F10.binds (ps := prm.getD 10 []) fun _ _ _ _ _ _ us hl => match us, hl with | [_, _], _ => rfl
  have F11 := fun_mk (st := top 19) l11 c11 k11
  have b11 := F11.binds (ps := prm.getD 11 []) fun _ _ _ _ _ _ us hl => match us, hl with | [_], _ => rfl
  have F12 := fun_mk (st := top 20) l12 c12 k12
  have b12 := F12.binds (ps := prm.getD 12 []) fun _ _ _ _ _ _ us hl => match us, hl with | [_], _ => rfl
  have F13 := fun_mk (st := top 21) l13 c13 k13
  have b13 := F13.binds (ps := prm.getD 13 []) fun _ _ _ _ _ _ us hl => match us, hl with | [], _ => rfl
  have F14 := fun_mk (st := top 22) l14 c14 k14
  have b14 := F14.binds (ps := prm.getD 14 []) fun _ _ _ _ _ _ us hl => match us, hl with | [_], _ => rfl
  have F15 := fun_mk (st := top 23) l15 c15 k15
  have b15 := F15.binds (ps := prm.getD 15 []) fun _ _ _ _ _ _ us hl => match us, hl with | [_], _ => rfl
  have F16 := fun_mk (st := top 24) l16 c16 k16
  have b16 := F16.binds (ps := prm.getD 16 []) fun _ _ _ _ _ _ us hl => match us, hl with | [_], _ => rfl
  have F17 := fun_mk (st := top 25) l17 c17 k17
  have b17 := F17.binds (ps := prm.getD 17 []) fun _ _ _ _ _ _ us hl => match us, hl with | [_, _], _ => rfl
  have F18 := fun_mk (st := top 26) l18 c18 k18
  have b18 := F18.binds (ps := prm.getD 18 []) fun _ _ _ _ _ _ us hl => match us, hl with | [_], _ => rfl
  have F19 := fun_mk (st := top 27) l19 c19 k19
  have b19 := F19.binds (ps := prm.getD 19 []) fun _ _ _ _ _ _ us hl => match us, hl with | [_], _ => rfl
  refine ⟨⟨fun j => [f0, f1, f2, f3, f4, f5, f6, f7, f8, f9, f10, f11, f12, f13, f14, f15, f16, f17, f18, fa].getD j 0, fun j => [PySem.W.fnOf "is_word" "is_word" (defArgs (top 7)) (defBody (top 7)) (defScope (top 7)) .none kV0 dc0 pm0 an0 cd0 ct0, PySem.W.fnOf "number_of" "number_of" (defArgs (top 8)) (defBody (top 8)) (defScope (top 8)) .none kV1 dc1 pm1 an1 cd1 ct1, PySem.W.fnOf "read_order" "read_order" (defArgs (top 9)) (defBody (top 9)) (defScope (top 9)) .none kV2 dc2 pm2 an2 cd2 ct2, PySem.W.fnOf "read_orders" "read_orders" (defArgs (top 10)) (defBody (top 10)) (defScope (top 10)) .none kV3 dc3 pm3 an3 cd3 ct3, PySem.W.fnOf "write_order" "write_order" (defArgs (top 11)) (defBody (top 11)) (defScope (top 11)) .none kV4 dc4 pm4 an4 cd4 ct4, PySem.W.fnOf "write_orders" "write_orders" (defArgs (top 12)) (defBody (top 12)) (defScope (top 12)) .none kV5 dc5 pm5 an5 cd5 ct5, PySem.W.fnOf "_law_cell" "_law_cell" (defArgs (top 14)) (defBody (top 14)) (defScope (top 14)) .none kV6 dc6 pm6 an6 cd6 ct6, PySem.W.fnOf "_law_digits" "_law_digits" (defArgs (top 15)) (defBody (top 15)) (defScope (top 15)) .none kV7 dc7 pm7 an7 cd7 ct7, PySem.W.fnOf "_law_draw" "_law_draw" (defArgs (top 16)) (defBody (top 16)) (defScope (top 16)) .none kV8 dc8 pm8 an8 cd8 ct8, PySem.W.fnOf "_law_pick" "_law_pick" (defArgs (top 17)) (defBody (top 17)) (defScope (top 17)) .none kV9 dc9 pm9 an9 cd9 ct9, PySem.W.fnOf "_law_same" "_law_same" (defArgs (top 18)) (defBody (top 18)) (defScope (top 18)) .none kV10 dc10 pm10 an10 cd10 ct10, PySem.W.fnOf "_law_is_word" "_law_is_word" (defArgs (top 19)) (defBody (top 19)) (defScope (top 19)) .none kV11 dc11 pm11 an11 cd11 ct11, PySem.W.fnOf "_law_number" "_law_number" (defArgs (top 20)) (defBody (top 20)) (defScope (top 20)) .none kV12 dc12 pm12 an12 cd12 ct12, PySem.W.fnOf "_law_asked" "_law_asked" (defArgs (top 21)) (defBody (top 21)) (defScope (top 21)) .none kV13 dc13 pm13 an13 cd13 ct13, PySem.W.fnOf "_law_read" "_law_read" (defArgs (top 22)) (defBody (top 22)) (defScope (top 22)) .none kV14 dc14 pm14 an14 cd14 ct14, PySem.W.fnOf "_law_word" "_law_word" (defArgs (top 23)) (defBody (top 23)) (defScope (top 23)) .none kV15 dc15 pm15 an15 cd15 ct15, PySem.W.fnOf "_law_order" "_law_order" (defArgs (top 24)) (defBody (top 24)) (defScope (top 24)) .none kV16 dc16 pm16 an16 cd16 ct16, PySem.W.fnOf "_law_bent" "_law_bent" (defArgs (top 25)) (defBody (top 25)) (defScope (top 25)) .none kV17 dc17 pm17 an17 cd17 ct17, PySem.W.fnOf "_law_text" "_law_text" (defArgs (top 26)) (defBody (top 26)) (defScope (top 26)) .none kV18 dc18 pm18 an18 cd18 ct18, PySem.W.fnOf "law" "law" (defArgs (top 27)) (defBody (top 27)) (defScope (top 27)) .none kV19 dc19 pm19 an19 cd19 ct19].getD j (PySem.W.fnOf "law" "law" (defArgs (top 27)) (defBody (top 27)) (defScope (top 27)) .none kV19 dc19 pm19 an19 cd19 ct19), fun j => nms.getD j [], fun j => prm.getD j [], fun j => sts.getD j (.Pass ⟨0, 0, 0, 0⟩), [], [(xC0, ["line"])], (fun P => (((P.main.file : Str) == xfile0) = true ∧ (P.main.scope.names.lookup ("super" : Str)).isSome = false))⟩, rfl, rfl, fun s v => .of_eq rfl, ⟨?_, ?_, ?_, ?_, by decide, ?_, ?_, ?_, ?_, ?_, ?_, ?_, ?_⟩, okp0⟩
  · intro f x fd hx _ _ _
    match f, hx with
    | 0, hx => cases (show some ("is_word" : Str) = some x from hx); exact ⟨PySem.W.mg_of X0 G a0, k0⟩
    | 1, hx => cases (show some ("number_of" : Str) = some x from hx); exact ⟨PySem.W.mg_of X0 G a1, k1⟩
    | 2, hx => cases (show some ("read_order" : Str) = some x from hx); exact ⟨PySem.W.mg_of X0 G a2, k2⟩
    | 3, hx => cases (show some ("read_orders" : Str) = some x from hx); exact ⟨PySem.W.mg_of X0 G a3, k3⟩
    | 4, hx => cases (show some ("write_order" : Str) = some x from hx); exact ⟨PySem.W.mg_of X0 G a4, k4⟩
    | 5, hx => cases (show some ("write_orders" : Str) = some x from hx); exact ⟨PySem.W.mg_of X0 G a5, k5⟩
    | 6, hx => cases (show some ("_law_cell" : Str) = some x from hx); exact ⟨PySem.W.mg_of X0 G a6, k6⟩
    | 7, hx => cases (show some ("_law_digits" : Str) = some x from hx); exact ⟨PySem.W.mg_of X0 G a7, k7⟩
    | 8, hx => cases (show some ("_law_draw" : Str) = some x from hx); exact ⟨PySem.W.mg_of X0 G a8, k8⟩
    | 9, hx => cases (show some ("_law_pick" : Str) = some x from hx); exact ⟨PySem.W.mg_of X0 G a9, k9⟩
    | 10, hx => cases (show some ("_law_same" : Str) = some x from hx); exact ⟨PySem.W.mg_of X0 G a10, k10⟩
    | 11, hx => cases (show some ("_law_is_word" : Str) = some x from hx); exact ⟨PySem.W.mg_of X0 G a11, k11⟩
    | 12, hx => cases (show some ("_law_number" : Str) = some x from hx); exact ⟨PySem.W.mg_of X0 G a12, k12⟩
    | 13, hx => cases (show some ("_law_asked" : Str) = some x from hx); exact ⟨PySem.W.mg_of X0 G a13, k13⟩
    | 14, hx => cases (show some ("_law_read" : Str) = some x from hx); exact ⟨PySem.W.mg_of X0 G a14, k14⟩
    | 15, hx => cases (show some ("_law_word" : Str) = some x from hx); exact ⟨PySem.W.mg_of X0 G a15, k15⟩
    | 16, hx => cases (show some ("_law_order" : Str) = some x from hx); exact ⟨PySem.W.mg_of X0 G a16, k16⟩
    | 17, hx => cases (show some ("_law_bent" : Str) = some x from hx); exact ⟨PySem.W.mg_of X0 G a17, k17⟩
    | 18, hx => cases (show some ("_law_text" : Str) = some x from hx); exact ⟨PySem.W.mg_of X0 G a18, k18⟩
    | 19, hx => cases (show some ("law" : Str) = some x from hx); exact ⟨PySem.W.mg_of X0 G a19, k19⟩
    | j + 20, hx => cases (show none = some x from hx)
  · intro f fd hx _
    match f, hx with
    | 0, hx => cases (show some c_is_word = some fd from hx); exact ⟨_, _, F0, s_0, b0, rfl, rfl, fun _ => m_0⟩
    | 1, hx => cases (show some c_number_of = some fd from hx); exact ⟨_, _, F1, s_1, b1, rfl, rfl, fun _ => m_1⟩
    | 2, hx => cases (show some c_read_order = some fd from hx); exact ⟨_, _, F2, s_2, b2, rfl, rfl, fun _ => m_2⟩
    | 3, hx => cases (show some c_read_orders = some fd from hx); exact ⟨_, _, F3, s_3, b3, rfl, rfl, fun _ => m_3⟩
    | 4, hx => cases (show some c_write_order = some fd from hx); exact ⟨_, _, F4, s_4, b4, rfl, rfl, fun _ => m_4⟩
    | 5, hx => cases (show some c_write_orders = some fd from hx); exact ⟨_, _, F5, s_5, b5, rfl, rfl, fun _ => m_5⟩
    | 6, hx => cases (show some c__law_cell = some fd from hx); exact ⟨_, _, F6, s_6, b6, rfl, rfl, fun _ => m_6⟩
    | 7, hx => cases (show some c__law_digits = some fd from hx); exact ⟨_, _, F7, s_7, b7, rfl, rfl, fun _ => m_7⟩
    | 8, hx => cases (show some c__law_draw = some fd from hx); exact ⟨_, _, F8, s_8, b8, rfl, rfl, fun _ => m_8⟩
    | 9, hx => cases (show some c__law_pick = some fd from hx); exact ⟨_, _, F9, s_9, b9, rfl, rfl, fun _ => m_9⟩
    | 10, hx => cases (show some c__law_same = some fd from hx); exact ⟨_, _, F10, s_10, b10, rfl, rfl, fun _ => m_10⟩
    | 11, hx => cases (show some c__law_is_word = some fd from hx); exact ⟨_, _, F11, s_11, b11, rfl, rfl, fun _ => m_11⟩
    | 12, hx => cases (show some c__law_number = some fd from hx); exact ⟨_, _, F12, s_12, b12, rfl, rfl, fun _ => m_12⟩
    | 13, hx => cases (show some c__law_asked = some fd from hx); exact ⟨_, _, F13, s_13, b13, rfl, rfl, fun _ => m_13⟩
    | 14, hx => cases (show some c__law_read = some fd from hx); exact ⟨_, _, F14, s_14, b14, rfl, rfl, fun _ => m_14⟩
    | 15, hx => cases (show some c__law_word = some fd from hx); exact ⟨_, _, F15, s_15, b15, rfl, rfl, fun _ => m_15⟩
    | 16, hx => cases (show some c__law_order = some fd from hx); exact ⟨_, _, F16, s_16, b16, rfl, rfl, fun _ => m_16⟩
    | 17, hx => cases (show some c__law_bent = some fd from hx); exact ⟨_, _, F17, s_17, b17, rfl, rfl, fun _ => m_17⟩
    | 18, hx => cases (show some c__law_text = some fd from hx); exact ⟨_, _, F18, s_18, b18, rfl, rfl, fun _ => m_18⟩
    | 19, hx => cases (show some c_law = some fd from hx); exact ⟨_, _, F19, s_19, b19, rfl, rfl, fun _ => m_19⟩
    | j + 20, hx => cases (show none = some fd from hx)
  · intro f fd g hx hg _
    match f, hx with
    | 0, hx => cases (show some c_is_word = some fd from hx); cases hg
    | 1, hx => cases (show some c_number_of = some fd from hx); cases hg
    | 2, hx => cases (show some c_read_order = some fd from hx); cases hg
    | 3, hx => cases (show some c_read_orders = some fd from hx); cases hg
    | 4, hx => cases (show some c_write_order = some fd from hx); cases hg
    | 5, hx => cases (show some c_write_orders = some fd from hx); cases hg
    | 6, hx => cases (show some c__law_cell = some fd from hx); cases hg
    | 7, hx => cases (show some c__law_digits = some fd from hx); cases hg
    | 8, hx => cases (show some c__law_draw = some fd from hx); cases hg
    | 9, hx => cases (show some c__law_pick = some fd from hx); cases hg
    | 10, hx => cases (show some c__law_same = some fd from hx); cases hg
    | 11, hx => cases (show some c__law_is_word = some fd from hx); cases hg
    | 12, hx => cases (show some c__law_number = some fd from hx); cases hg
    | 13, hx => cases (show some c__law_asked = some fd from hx); cases hg
    | 14, hx => cases (show some c__law_read = some fd from hx); cases hg
    | 15, hx => cases (show some c__law_word = some fd from hx); cases hg
    | 16, hx => cases (show some c__law_order = some fd from hx); cases hg
    | 17, hx => cases (show some c__law_bent = some fd from hx); cases hg
    | 18, hx => cases (show some c__law_text = some fd from hx); cases hg
    | 19, hx => cases (show some c_law = some fd from hx); cases hg
    | j + 20, hx => cases (show none = some fd from hx)
  · intro x hx
    have hx : x ∈ (["len", "list", "tuple", "any", "all", "int", "str", "repr", "ord", "isinstance", "range", "bool", "dict", "enumerate"] : List Str) := hx
    simp only [List.mem_cons, List.not_mem_nil, or_false] at hx
    rcases hx with rfl | rfl | rfl | rfl | rfl | rfl | rfl | rfl | rfl | rfl | rfl | rfl | rfl | rfl
    · exact PySem.W.mg_none_of X0 G z0
    · exact PySem.W.mg_none_of X0 G z1
    · exact PySem.W.mg_none_of X0 G z2
    · exact PySem.W.mg_none_of X0 G z3
    · exact PySem.W.mg_none_of X0 G z4
    · exact PySem.W.mg_none_of X0 G z5
    · exact PySem.W.mg_none_of X0 G z6
    · exact PySem.W.mg_none_of X0 G z7
    · exact PySem.W.mg_none_of X0 G z8
    · exact PySem.W.mg_none_of X0 G z9
    · exact PySem.W.mg_none_of X0 G z10
    · exact PySem.W.mg_none_of X0 G z11
    · exact PySem.W.mg_none_of X0 G z12
    · exact PySem.W.mg_none_of X0 G z13
  · intro f fd hx
    match f, hx with
    | 0, hx => cases (show some c_is_word = some fd from hx); rfl
    | 1, hx => cases (show some c_number_of = some fd from hx); rfl
    | 2, hx => cases (show some c_read_order = some fd from hx); rfl
    | 3, hx => cases (show some c_read_orders = some fd from hx); rfl
    | 4, hx => cases (show some c_write_order = some fd from hx); rfl
    | 5, hx => cases (show some c_write_orders = some fd from hx); rfl
    | 6, hx => cases (show some c__law_cell = some fd from hx); rfl
    | 7, hx => cases (show some c__law_digits = some fd from hx); rfl
    | 8, hx => cases (show some c__law_draw = some fd from hx); rfl
    | 9, hx => cases (show some c__law_pick = some fd from hx); rfl
    | 10, hx => cases (show some c__law_same = some fd from hx); rfl
    | 11, hx => cases (show some c__law_is_word = some fd from hx); rfl
    | 12, hx => cases (show some c__law_number = some fd from hx); rfl
    | 13, hx => cases (show some c__law_asked = some fd from hx); rfl
    | 14, hx => cases (show some c__law_read = some fd from hx); rfl
    | 15, hx => cases (show some c__law_word = some fd from hx); rfl
    | 16, hx => cases (show some c__law_order = some fd from hx); rfl
    | 17, hx => cases (show some c__law_bent = some fd from hx); rfl
    | 18, hx => cases (show some c__law_text = some fd from hx); rfl
    | 19, hx => cases (show some c_law = some fd from hx); rfl
    | j + 20, hx => cases (show none = some fd from hx)
  · intro c p hx
    match c, hx with
    | 0, hx =>
      cases (show some (("BadOrder" : Str), [("line" : Str)]) = some p from hx)
      exact ⟨xC0, rfl, fun X h1 h2 hP => rs_mk (K := K) (mg := mg) (nmx := "BadOrder") (x1 := "line") (t := "line ") (st := initSt (top 2)) (PySem.W.mg_of X0 G x0_0) (by decide +kernel) x0_1 x0_2 x0_3 x0_4 x0_5 x0_6 x0_7 x0_8 x0_9 x0_10 x0_11 x0_12 x0_13 x0_14 x0_15 x0_16 x0_17 x0_18 x0_19 (by decide +kernel) (fun s us _ hl => match us, hl with | [_, _], _ => .of_eq rfl) X h1 h2 hP⟩
    | j + 1, hx => cases (show none = some p from hx)
  · intro m cs hx
    have hx : List.lookup m ([(("TurnError" : Str), ([0] : List Nat)), (("BadOrder" : Str), ([0] : List Nat))] : List (Str × List Nat)) = some cs := hx
    rw [List.lookup_cons] at hx
    split at hx
    · rename_i e; cases (beq_iff_eq.mp e); cases hx
      refine ⟨hD0, PySem.W.mg_of X0 G h0, fun c C nms hc => ?_⟩
      match c, hc with
      | 0, hc => cases (show some (xC0, _) = some (C, nms) from hc); exact ⟨he0_0, hk0_0⟩
      | j + 1, hc => cases (show none = some (C, nms) from hc)
    rw [List.lookup_cons] at hx
    split at hx
    · rename_i e; cases (beq_iff_eq.mp e); cases hx
      refine ⟨xC0, PySem.W.mg_of X0 G x0_0, fun c C nms hc => ?_⟩
      match c, hc with
      | 0, hc => cases (show some (xC0, _) = some (C, nms) from hc); exact ⟨he1_0, hk1_0⟩
      | j + 1, hc => cases (show none = some (C, nms) from hc)
    cases hx
  · intro c C nms hc
    match c, hc with
    | 0, hc =>
      cases (show some (xC0, [("line" : Str)]) = some (C, nms) from hc)
      refine ⟨⟨x0_20, x0_21, x0_4, x0_22⟩, ⟨x0_20, x0_21, x0_4, x0_22, x0_23, x0_24, x0_25, x0_26⟩, fun nm hn => ?_⟩
      rcases List.mem_cons.mp hn with rfl | hn
      · exact x0_16
      · cases hn
    | j + 1, hc => cases (show none = some (C, nms) from hc)
  · intro k p hp
    match k, hp with
    | 0, hp =>
      cases (show some _ = some p from hp)
      obtain ⟨t0, t1, t2, t3, rfl⟩ := w0
      exact ⟨_, .ref ga0, PySem.W.mg_of X0 G y0, rfl, fun G => .tup (xs := [V.str "books", V.str "begin", V.str "end", V.str "drop"]) (.inr ⟨_, _, _, yl0, rfl, rfl, by show 4 ≤ sizeLine; decide, .cons ⟨t0, rfl⟩ (.cons ⟨t1, rfl⟩ (.cons ⟨t2, rfl⟩ (.cons ⟨t3, rfl⟩ (.nil))))⟩) (.cons (.str _) (.cons (.str _) (.cons (.str _) (.cons (.str _) (.nil)))))⟩
    | 1, hp =>
      cases (show some _ = some p from hp)
      obtain ⟨t0, t1, t2, t3, t4, t5, t6, t7, t8, rfl⟩ := w1
      exact ⟨_, .ref ga1, PySem.W.mg_of X0 G y1, rfl, fun G => .tup (xs := [V.str "text", V.str "side", V.str "moves", V.str "turns", V.str "sights", V.str "good", V.str "flat", V.str "size", V.str "paper"]) (.inr ⟨_, _, _, yl1, rfl, rfl, by show 9 ≤ sizeLine; decide, .cons ⟨t0, rfl⟩ (.cons ⟨t1, rfl⟩ (.cons ⟨t2, rfl⟩ (.cons ⟨t3, rfl⟩ (.cons ⟨t4, rfl⟩ (.cons ⟨t5, rfl⟩ (.cons ⟨t6, rfl⟩ (.cons ⟨t7, rfl⟩ (.cons ⟨t8, rfl⟩ (.nil)))))))))⟩) (.cons (.str _) (.cons (.str _) (.cons (.str _) (.cons (.str _) (.cons (.str _) (.cons (.str _) (.cons (.str _) (.cons (.str _) (.cons (.str _) (.nil))))))))))⟩
    | 2, hp =>
      cases (show some _ = some p from hp)
      obtain ⟨t, rfl⟩ := w2
      exact ⟨_, .str _, PySem.W.mg_of X0 G y2, ⟨t, rfl⟩, fun G => .str _⟩
    | j + 3, hp => cases (show none = some p from hp)
  · intro c l hc; cases (show none = some l from hc)
  · intro f c m hc; cases (show none = some (some (c, m)) from hc)
  · intro f x fd c g m _ hx hm
    match f, hx with
    | 0, hx => cases (show some c_is_word = some fd from hx); cases hm
    | 1, hx => cases (show some c_number_of = some fd from hx); cases hm
    | 2, hx => cases (show some c_read_order = some fd from hx); cases hm
    | 3, hx => cases (show some c_read_orders = some fd from hx); cases hm
    | 4, hx => cases (show some c_write_order = some fd from hx); cases hm
    | 5, hx => cases (show some c_write_orders = some fd from hx); cases hm
    | 6, hx => cases (show some c__law_cell = some fd from hx); cases hm
    | 7, hx => cases (show some c__law_digits = some fd from hx); cases hm
    | 8, hx => cases (show some c__law_draw = some fd from hx); cases hm
    | 9, hx => cases (show some c__law_pick = some fd from hx); cases hm
    | 10, hx => cases (show some c__law_same = some fd from hx); cases hm
    | 11, hx => cases (show some c__law_is_word = some fd from hx); cases hm
    | 12, hx => cases (show some c__law_number = some fd from hx); cases hm
    | 13, hx => cases (show some c__law_asked = some fd from hx); cases hm
    | 14, hx => cases (show some c__law_read = some fd from hx); cases hm
    | 15, hx => cases (show some c__law_word = some fd from hx); cases hm
    | 16, hx => cases (show some c__law_order = some fd from hx); cases hm
    | 17, hx => cases (show some c__law_bent = some fd from hx); cases hm
    | 18, hx => cases (show some c__law_text = some fd from hx); cases hm
    | 19, hx => cases (show some c_law = some fd from hx); cases hm
    | j + 20, hx => cases (show none = some fd from hx)
end K97
open PySem PySem.W PyProof.Rows in
set_option maxRecDepth 100000 in
set_option maxHeartbeats 0 in
theorem PySem.Challenge.cw_turnwise_k97_orders_read_and_written_holds : PySem.Challenge.rw_turnwise_k97_orders_read_and_written.Holds := by
  w_on; o_law; k_head; (case hw => w_witness2)
  k_fill
  refine Y.walkY (l := PySem.Challenge.rw_turnwise_k97_orders_read_and_written) (m := 63) (n := 60) (f := 19) (x := "script") (T := K97.tb) (code := K97.code) rfl (by decide) rfl (fun fd h => by cases (show some K97.c_law = some fd from h); rfl) ⟨rfl, by decide, by decide⟩ (fun w h Y => PySem.W.kIn_of Y) ?F K97.law_true
  case F =>
    intro w mg fa h KX G hmg
    refine' K97.all_mk KX G hmg ?a0 ?l0 ?c0 ?k0 ?a1 ?l1 ?c1 ?k1 ?a2 ?l2 ?c2 ?k2 ?a3 ?l3 ?c3 ?k3 ?a4 ?l4 ?c4 ?k4 ?a5 ?l5 ?c5 ?k5 ?a6 ?l6 ?c6 ?k6 ?a7 ?l7 ?c7 ?k7 ?a8 ?l8 ?c8 ?k8 ?a9 ?l9 ?c9 ?k9 ?a10 ?l10 ?c10 ?k10 ?a11 ?l11 ?c11 ?k11 ?a12 ?l12 ?c12 ?k12 ?a13 ?l13 ?c13 ?k13 ?a14 ?l14 ?c14 ?k14 ?a15 ?l15 ?c15 ?k15 ?a16 ?l16 ?c16 ?k16 ?a17 ?l17 ?c17 ?k17 ?a18 ?l18 ?c18 ?k18 ?a19 ?l19 ?c19 ?k19 ?z0 ?z1 ?z2 ?z3 ?z4 ?z5 ?z6 ?z7 ?z8 ?z9 ?z10 ?z11 ?z12 ?z13 ?y0 ?yl0 ?w0 ?y1 ?yl1 ?w1 ?y2 ?w2 ?x0_0 ?x0_1 ?x0_2 ?x0_3 ?x0_4 ?x0_5 ?x0_6 ?x0_7 ?x0_8 ?x0_9 ?x0_10 ?x0_11 ?x0_12 ?x0_13 ?x0_14 ?x0_15 ?x0_16 ?x0_17 ?x0_18 ?x0_19 ?x0_20 ?x0_21 ?x0_22 ?x0_23 ?x0_24 ?x0_25 ?x0_26 ?h0 ?he0_0 ?hk0_0 ?he1_0 ?hk1_0 _ ?okp0
    (case a0 => k_is)
    (case l0 => k_is)
    (case c0 => k_is)
    (case k0 => k_is)
    (case a1 => k_is)
    (case l1 => k_is)
    (case c1 => k_is)
    (case k1 => k_is)
    (case a2 => k_is)
    (case l2 => k_is)
    (case c2 => k_is)
    (case k2 => k_is)
    (case a3 => k_is)
    (case l3 => k_is)
    (case c3 => k_is)
    (case k3 => k_is)
    (case a4 => k_is)
    (case l4 => k_is)
    (case c4 => k_is)
    (case k4 => k_is)
    (case a5 => k_is)
    (case l5 => k_is)
    (case c5 => k_is)
    (case k5 => k_is)
    (case a6 => k_is)
    (case l6 => k_is)
    (case c6 => k_is)
    (case k6 => k_is)
    (case a7 => k_is)
    (case l7 => k_is)
    (case c7 => k_is)
    (case k7 => k_is)
    (case a8 => k_is)
    (case l8 => k_is)
    (case c8 => k_is)
    (case k8 => k_is)
    (case a9 => k_is)
    (case l9 => k_is)
    (case c9 => k_is)
    (case k9 => k_is)
    (case a10 => k_is)
    (case l10 => k_is)
    (case c10 => k_is)
    (case k10 => k_is)
    (case a11 => k_is)
    (case l11 => k_is)
    (case c11 => k_is)
    (case k11 => k_is)
    (case a12 => k_is)
    (case l12 => k_is)
    (case c12 => k_is)
    (case k12 => k_is)
    (case a13 => k_is)
    (case l13 => k_is)
    (case c13 => k_is)
    (case k13 => k_is)
    (case a14 => k_is)
    (case l14 => k_is)
    (case c14 => k_is)
    (case k14 => k_is)
    (case a15 => k_is)
    (case l15 => k_is)
    (case c15 => k_is)
    (case k15 => k_is)
    (case a16 => k_is)
    (case l16 => k_is)
    (case c16 => k_is)
    (case k16 => k_is)
    (case a17 => k_is)
    (case l17 => k_is)
    (case c17 => k_is)
    (case k17 => k_is)
    (case a18 => k_is)
    (case l18 => k_is)
    (case c18 => k_is)
    (case k18 => k_is)
    (case a19 => k_is)
    (case l19 => k_is)
    (case c19 => k_is)
    (case k19 => k_is)
    (case z0 => k_is)
    (case z1 => k_is)
    (case z2 => k_is)
    (case z3 => k_is)
    (case z4 => k_is)
    (case z5 => k_is)
    (case z6 => k_is)
    (case z7 => k_is)
    (case z8 => k_is)
    (case z9 => k_is)
    (case z10 => k_is)
    (case z11 => k_is)
    (case z12 => k_is)
    (case z13 => k_is)
    (case y0 => k_is)
    (case yl0 => k_is)
    (case w0 => exact ⟨_, _, _, _, rfl⟩)
    (case y1 => k_is)
    (case yl1 => k_is)
    (case w1 => exact ⟨_, _, _, _, _, _, _, _, _, rfl⟩)
    (case y2 => k_is)
    (case w2 => exact ⟨_, rfl⟩)
    (case x0_0 => k_is)
    (case x0_1 => k_is)
    (case x0_2 => decide +kernel)
    (case x0_3 => k_is)
    (case x0_4 => k_is)
    (case x0_5 => k_is)
    (case x0_6 => k_is)
    (case x0_7 => k_is)
    (case x0_8 => k_is)
    (case x0_9 => k_is)
    (case x0_10 => k_is)
    (case x0_11 => ks_is)
    (case x0_12 => k_is)
    (case x0_13 => k_is)
    (case x0_14 => k_is)
    (case x0_15 => k_is)
    (case x0_16 => k_is)
    (case x0_17 => k_is)
    (case x0_18 => k_is)
    (case x0_19 => rfl)
    (case x0_20 => k_is)
    (case x0_21 => k_is)
    (case x0_22 => k_is)
    (case x0_23 => k_is)
    (case x0_24 => k_is)
    (case x0_25 => k_is)
    (case x0_26 => k_is)
    (case h0 => k_is)
    (case he0_0 => exact PySem.W.exm_ref (by k_is) (by k_is) (by k_is) (by k_is))
    (case hk0_0 => kit_is)
    (case he1_0 => exact PySem.W.exm_ref (by k_is) (by k_is) (by k_is) (by k_is))
    (case hk1_0 => kit_is)
    (case okp0 => exact ⟨by decide +kernel, by decide +kernel⟩)

