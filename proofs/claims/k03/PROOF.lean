import PyProof.Rows.All
import Wide.All
import OpenK.AllK
import Wide.FinOn
import HandS.ForMost
import HandS.ForExc
import HandS.IsInst
import HandS.Deep
import HandS.SortOrd
import HandS.Flow
import HandS.Style
import HandS.TupAny
import HandS.Codes
import HandS.Walk
import HandS.Zip
import HandS.Defaults
import HandS.MakeKwOnly
import KE.KUnpackStar
import HandS.SetFor
import HandS.TupSets
import KE.KDictCopyH
import HandS.SetBool
import HandS.DictComp
import HandS.More
import PySem.Challenge.RW_askedways_k03_neighbours_and_ways
set_option Elab.async false
set_option linter.all false
set_option maxRecDepth 100000
set_option maxHeartbeats 4000000
namespace EV
open PySem PySem.Spec L2
open PyProof.Rows hiding St

abbrev D := PyData

/-! ### data over an abstract heap -/
def kD : Key → D
  | .inl i => .int i
  | .inr x => .str x
mutual
inductive Rp (K : PySem.W.Frag) (H : Hp) : V → D → Prop
  | non : Rp K H .non .none
  | bl (b : Bool) : Rp K H (.bl b) (.bool b)
  | int (i : Int) : Rp K H (.int i) (.int i)
  | str (x : Str) : Rp K H (.str x) (.str x)
  | lst {a : Addr} {xs : List V} {ds : List D} : H a = some (.lst xs) → RpA K H xs ds → Rp K H (.ref a) (.list ds)
  | tup {a : Addr} {xs : List V} {ds : List D} : SqT K H a xs → RpA K H xs ds → Rp K H (.ref a) (.tuple ds)
  | dct {a : Addr} {kvs : List (Key × V)} {es : List (D × D)} : H a = some (.dK kvs) → RpK K H kvs es → Rp K H (.ref a) (.dict es)
  /-- the script: a list that is read alone -/
  | scr {a : Addr} {ns : List Int} : SqL K H a (ns.map V.int) → Rp K H (.ref a) (.dict [(.none, .list (ns.map PyData.int))])
  /-- a function of the text, by its name -/
  | fn {a : Addr} {x : Str} : PySem.W.nsIn K mainGlobals x = some (some (.ref a)) → Rp K H (.ref a) (.dict [(.none, .str x)])
inductive RpA (K : PySem.W.Frag) (H : Hp) : List V → List D → Prop
  | nil : RpA K H [] []
  | cons {v : V} {vs : List V} {d : D} {ds : List D} : Rp K H v d → RpA K H vs ds → RpA K H (v :: vs) (d :: ds)
inductive RpK (K : PySem.W.Frag) (H : Hp) : List (Key × V) → List (D × D) → Prop
  | nil : RpK K H [] []
  | cons {k : Key} {v : V} {r : List (Key × V)} {d : D} {s : List (D × D)} : Rp K H v d → RpK K H r s → RpK K H ((k, v) :: r) ((kD k, d) :: s)
end

theorem Same.rd {H H' : Hp} {a : Addr} {u : HO} (e : Same H H') (h : Rd H a u) : Rd H' a u := by
  rcases h with h | ⟨o, h⟩
  · exact .inl (e _ _ h)
  · exact .inr ⟨o, e _ _ h⟩
theorem Same.seqT {K : PySem.W.Frag} {H H' : Hp} {a : Addr} {xs : List V} (e : Same H H') (h : SqT K H a xs) : SqT K H' a xs := by
  rcases h with h | h
  · exact .inl (Same.rd e h)
  · exact .inr h
section
variable {K : PySem.W.Frag} {H H' : Hp}
mutual
theorem Rp.mono (e : Same H H') : ∀ {v : V} {d : D}, Rp K H v d → Rp K H' v d
  | _, _, .non => .non
  | _, _, .bl b => .bl b
  | _, _, .int i => .int i
  | _, _, .str x => .str x
  | _, _, .lst h r => .lst (e _ _ h) (RpA.mono e r)
  | _, _, .tup h r => .tup (Same.seqT e h) (RpA.mono e r)
  | _, _, .dct h r => .dct (e _ _ h) (RpK.mono e r)
  | _, _, .scr h => .scr (L2.Same.seq e h)
  | _, _, .fn h => .fn h
theorem RpA.mono (e : Same H H') : ∀ {vs : List V} {ds : List D}, RpA K H vs ds → RpA K H' vs ds
  | _, _, .nil => .nil
  | _, _, .cons h r => .cons (Rp.mono e h) (RpA.mono e r)
theorem RpK.mono (e : Same H H') : ∀ {vs : List (Key × V)} {ds : List (D × D)}, RpK K H vs ds → RpK K H' vs ds
  | _, _, .nil => .nil
  | _, _, .cons h r => .cons (Rp.mono e h) (RpK.mono e r)
end
theorem RpA.length : ∀ {vs : List V} {ds : List D}, RpA K H vs ds → vs.length = ds.length
  | _, _, .nil => rfl
  | _, _, .cons _ r => congrArg (· + 1) (RpA.length r)
theorem RpA.append : ∀ {vs ws : List V} {ds es : List D}, RpA K H vs ds → RpA K H ws es → RpA K H (vs ++ ws) (ds ++ es)
  | _, _, _, _, .nil, s => s
  | _, _, _, _, .cons h r, s => .cons h (RpA.append r s)
theorem RpA.get : ∀ {vs : List V} {ds : List D} {i : Nat} {v : V}, RpA K H vs ds → vs[i]? = some v → ∃ d, ds[i]? = some d ∧ Rp K H v d
  | _, _, _, _, .nil, e => by simp at e
  | _, _, 0, _, .cons h _, e => by simp at e; subst e; exact ⟨_, rfl, h⟩
  | _, _, i + 1, _, .cons _ r, e => by
    obtain ⟨d, h1, h2⟩ := RpA.get (i := i) r (by simpa using e)
    exact ⟨d, by simpa using h1, h2⟩
theorem RpA.getD : ∀ {vs : List V} {ds : List D} {i : Nat} {d : D}, RpA K H vs ds → ds[i]? = some d → ∃ v, vs[i]? = some v ∧ Rp K H v d
  | _, _, _, _, .nil, e => by simp at e
  | _, _, 0, _, .cons h _, e => by simp at e; subst e; exact ⟨_, rfl, h⟩
  | _, _, i + 1, _, .cons _ r, e => by
    obtain ⟨d, h1, h2⟩ := RpA.getD (i := i) r (by simpa using e)
    exact ⟨d, by simpa using h1, h2⟩
theorem RpA.drop : ∀ {vs : List V} {ds : List D} (n : Nat), RpA K H vs ds → RpA K H (vs.drop n) (ds.drop n)
  | _, _, 0, r => r
  | _, _, _ + 1, .nil => .nil
  | _, _, n + 1, .cons _ r => RpA.drop n r
theorem RpA.take : ∀ {vs : List V} {ds : List D} (n : Nat), RpA K H vs ds → RpA K H (vs.take n) (ds.take n)
  | _, _, 0, _ => .nil
  | _, _, _ + 1, .nil => .nil
  | _, _, n + 1, .cons h r => .cons h (RpA.take n r)
theorem RpA.set {v : V} {d : D} (h : Rp K H v d) : ∀ {vs : List V} {ds : List D} (n : Nat), RpA K H vs ds → RpA K H (vs.set n v) (ds.set n d)
  | _, _, _, .nil => .nil
  | _, _, 0, .cons _ r => .cons h r
  | _, _, n + 1, .cons q r => .cons q (RpA.set h n r)
end

/-- the script as data -/
def scrD (ns : List Int) : D := .dict [(.none, .list (ns.map PyData.int))]

/-! ### what a mutable object holds -/
def Hold (K : PySem.W.Frag) (G : Hp) (o : Option HO) : D → Prop
  | .list ds => ∃ xs, o = some (.lst xs) ∧ RpA K G xs ds
  | .dict es => ∃ kvs, o = some (.dK kvs) ∧ RpK K G kvs es
  | _ => False
theorem Hold.mono {K : PySem.W.Frag} {G G' : Hp} (e : Same G G') {o : Option HO} : ∀ {d : D}, Hold K G o d → Hold K G' o d := by
  intro d h
  cases d with
  | list ds => obtain ⟨xs, h1, h2⟩ := h; exact ⟨xs, h1, h2.mono e⟩
  | dict es => obtain ⟨xs, h1, h2⟩ := h; exact ⟨xs, h1, h2.mono e⟩
  | _ => exact h.elim
theorem Hold.some {K : PySem.W.Frag} {G : Hp} {o : Option HO} {d : D} (h : Hold K G o d) : ∃ u, o = Option.some u ∧ Mut (Option.some u) := by
  cases d with
  | list ds => obtain ⟨xs, h1, h2⟩ := h; exact ⟨_, h1, trivial⟩
  | dict es => obtain ⟨xs, h1, h2⟩ := h; exact ⟨_, h1, trivial⟩
  | _ => exact h.elim
/-- a mutable object is laid still -/
theorem Hold.freeze {K : PySem.W.Frag} {G : Hp} {a : Addr} {u : HO} {d : D} (h : Hold K G (Option.some u) d) (n : G a = none) : Same G (upd G a u) ∧ Rp K (upd G a u) (.ref a) d := by
  have e : Same G (upd G a u) := fun b o q => by rw [upd_ne (ne_of_none q n)]; exact q
  refine ⟨e, ?_⟩
  cases d with
  | list ds =>
    obtain ⟨xs, h1, h2⟩ := h
    cases h1
    exact .lst upd_same (h2.mono e)
  | dict es =>
    obtain ⟨xs, h1, h2⟩ := h
    cases h1
    exact .dct upd_same (h2.mono e)
  | _ => exact h.elim

/-! ### slots -/
inductive Sl where
  | un | val (d : D) | own (d : D) | bor (d : D)
def Sl.mut : Sl → Bool
  | .own _ => true
  | .bor _ => true
  | _ => false
abbrev Ss := List Sl

/-- what surrounds: the addresses that may be changed, the heap and the still heap at the entry, the places of what is lent -/
structure Amb where
  A : Addr → Prop
  N : Addr → Prop
  Hb : Hp
  G0 : Hp
  pin : List (Nat × Addr)

def SlOk (K : PySem.W.Frag) (A N : Addr → Prop) (G H : Hp) (w : Option V) : Sl → Prop
  | .un => True
  | .val d => ∃ v, w = some v ∧ Rp K G v d
  | .own d => ∃ a, w = some (.ref a) ∧ G a = none ∧ A a ∧ N a ∧ Hold K G (H a) d
  | .bor d => ∃ a, w = some (.ref a) ∧ G a = none ∧ A a ∧ Hold K G (H a) d

structure RS (K : PySem.W.Frag) (am : Amb) (G H : Hp) (sl : Ss) (σ : St) : Prop where
  sub : Same G H
  len : sl.length = σ.length
  rel : ∀ (i : Nat) (x : Sl) (w : Option V), sl[i]? = some x → σ[i]? = some w → SlOk K am.A am.N G H w x
  inj : ∀ (i j : Nat) (x y : Sl) (a : Addr), sl[i]? = some x → sl[j]? = some y → x.mut = true → y.mut = true → σ[i]? = some (some (.ref a)) → σ[j]? = some (some (.ref a)) → i = j
  fresh : ∀ p, H p = none → am.A p ∧ am.N p
  frame : ∀ b o, am.Hb b = some o → ¬ am.A b → H b = some o
  dom : ∀ b, am.Hb b ≠ none → H b ≠ none
  gg : ∀ b, G b ≠ none → am.G0 b ≠ none ∨ am.A b
  g0 : Same am.G0 G
  pin : ∀ p ∈ am.pin, σ[p.1]? = some (some (.ref p.2)) ∧ ∃ d, sl[p.1]? = some (.bor d)

/-- what an expression gave: fr: a new object that nobody else holds -/
def Res (K : PySem.W.Frag) (am : Amb) (G H : Hp) (sl : Ss) (σ : St) (v : V) (d : D) : Bool → Prop
  | false => Rp K G v d
  | true => ∃ a, v = .ref a ∧ G a = none ∧ am.A a ∧ am.N a ∧ Hold K G (H a) d ∧ ∀ (i : Nat) (x : Sl), sl[i]? = some x → x.mut = true → σ[i]? ≠ some (some (.ref a))
end EV
namespace EV
open PySem PySem.Spec L2
open PyProof.Rows hiding St

mutual
/-- data of a sort alike -/
def decD : (a b : PyData) → Decidable (a = b)
  | .none, .none => .isTrue rfl
  | .bool a, .bool b => if h : a = b then .isTrue (by rw [h]) else .isFalse (fun e => h (by cases e; rfl))
  | .int a, .int b => if h : a = b then .isTrue (by rw [h]) else .isFalse (fun e => h (by cases e; rfl))
  | .str a, .str b => if h : a = b then .isTrue (by rw [h]) else .isFalse (fun e => h (by cases e; rfl))
  | .list a, .list b => match decDs a b with
    | .isTrue h => .isTrue (by rw [h])
    | .isFalse h => .isFalse (fun e => h (by cases e; rfl))
  | .tuple a, .tuple b => match decDs a b with
    | .isTrue h => .isTrue (by rw [h])
    | .isFalse h => .isFalse (fun e => h (by cases e; rfl))
  | .dict a, .dict b => match decKs a b with
    | .isTrue h => .isTrue (by rw [h])
    | .isFalse h => .isFalse (fun e => h (by cases e; rfl))
  | .none, .bool _ | .none, .int _ | .none, .str _ | .none, .list _ | .none, .tuple _ | .none, .dict _ => .isFalse (fun e => by cases e)
  | .bool _, .none | .bool _, .int _ | .bool _, .str _ | .bool _, .list _ | .bool _, .tuple _ | .bool _, .dict _ => .isFalse (fun e => by cases e)
  | .int _, .none | .int _, .bool _ | .int _, .str _ | .int _, .list _ | .int _, .tuple _ | .int _, .dict _ => .isFalse (fun e => by cases e)
  | .str _, .none | .str _, .bool _ | .str _, .int _ | .str _, .list _ | .str _, .tuple _ | .str _, .dict _ => .isFalse (fun e => by cases e)
  | .list _, .none | .list _, .bool _ | .list _, .int _ | .list _, .str _ | .list _, .tuple _ | .list _, .dict _ => .isFalse (fun e => by cases e)
  | .tuple _, .none | .tuple _, .bool _ | .tuple _, .int _ | .tuple _, .str _ | .tuple _, .list _ | .tuple _, .dict _ => .isFalse (fun e => by cases e)
  | .dict _, .none | .dict _, .bool _ | .dict _, .int _ | .dict _, .str _ | .dict _, .list _ | .dict _, .tuple _ => .isFalse (fun e => by cases e)
def decDs : (a b : List PyData) → Decidable (a = b)
  | [], [] => .isTrue rfl
  | a :: s, b :: t => match decD a b, decDs s t with
    | .isTrue h, .isTrue k => .isTrue (by rw [h, k])
    | .isFalse h, _ => .isFalse (fun e => h (by cases e; rfl))
    | _, .isFalse h => .isFalse (fun e => h (by cases e; rfl))
  | [], _ :: _ => .isFalse (fun e => by cases e)
  | _ :: _, [] => .isFalse (fun e => by cases e)
def decKs : (a b : List (PyData × PyData)) → Decidable (a = b)
  | [], [] => .isTrue rfl
  | (a, c) :: s, (b, d) :: t => match decD a b, decD c d, decKs s t with
    | .isTrue h, .isTrue j, .isTrue k => .isTrue (by rw [h, j, k])
    | .isFalse h, _, _ => .isFalse (fun e => h (by cases e; rfl))
    | _, .isFalse h, _ => .isFalse (fun e => h (by cases e; rfl))
    | _, _, .isFalse h => .isFalse (fun e => h (by cases e; rfl))
  | [], _ :: _ => .isFalse (fun e => by cases e)
  | _ :: _, [] => .isFalse (fun e => by cases e)
end
instance : DecidableEq PyData := decD

/-! ### compact code -/
inductive Bi where
  | add | sub | mul | fdiv | mod | pow | neg | iadd | isub
  | eq | ne | lt | le | gt | ge
  | isN | notN | isB (b : Bool) | notB (b : Bool)
  | inn | nin
  | item | rev
  | len | abs | repr | str | int | sorted | tuple | list | max2 | min2 | sortedSet | lenSet | sumv | anyv | allv
  | isin (t : String)
  | join | index | count | upper | get2
  deriving DecidableEq, Repr
inductive Mu where
  | append | extend | reverse | clear
  deriving DecidableEq, Repr
mutual
inductive Tg where
  /-- t: a tuple (true) or a list taken apart -/
  | n (i : Nat) | t (ts : Tgs) (tup : Bool) | st (before : Tgs) (i : Nat) (after : Tgs)
  deriving DecidableEq
inductive Tgs where
  | nil | cons (t : Tg) (r : Tgs)
  deriving DecidableEq
end
inductive Ik where
  | any | range1 | range2 | enum | zip | items
  deriving DecidableEq, Repr
mutual
inductive Ex where
  | k (d : D) | v (i : Nat) | gl (x : Str) (d : D)
  | tup (es : Exs) | lst (es : Exs) | dct (kvs : Exs)
  | ch (f g : Bi) (ab : Exs) (c : Exs) | sl (hl hu : Bool) (a : Exs) (bs : Exs)
  /-- a text's method -/
  | mc (f : Bi) (a : Exs) (as : Exs)
  | bi (f : Bi) (as : Exs)
  | tst (c : Te) | and (a b : Ex) | or (a b : Ex) | ife (c : Te) (a b : Ex)
  | call (f : Nat) (refs : List Bool) (as : Exs)
  /-- with keywords: the values by place, those by name, what the later parameters take: none: the next one by name; else a default -/
  | callK (f : Nat) (as ks : Exs) (tail : List (Option D))
  /-- a new object is lent -/
  | callF (f : Nat) (a : Ex)
  /-- what a name holds is called: by its name, which function -/
  | callV (i : Nat) (cs : List (Str × Nat)) (as : Exs)
  | lc (elt : Ex) (tg : Tg) (ik : Ik) (src : Exs) (ifs : Te) (own : List Nat)
  /-- two clauses; st: sorted of the set of these -/
  | c2 (st : Bool) (elt : Ex) (tg : Tg) (ik : Ik) (src : Exs) (ifs : Te) (tg1 : Tg) (ik1 : Ik) (src1 : Exs) (ifs1 : Te) (own own1 : List Nat)
  /-- a dict's -/
  | dc (kx vx : Ex) (tg : Tg) (ik : Ik) (src : Exs) (ifs : Te) (own : List Nat)
  deriving DecidableEq
inductive Exs where
  | nil | cons (e : Ex) (r : Exs)
  deriving DecidableEq
inductive Te where
  | yes | not (a : Te) | and (a b : Te) | or (a b : Te) | ex (e : Ex)
  deriving DecidableEq
end
mutual
inductive Stm where
  | asg (t : Tg) (e : Ex) | asgO (i : Nat) (e : Ex) | aug (i : Nat) (f : Bi) (e : Ex)
  | mu (m : Mu) (i : Nat) (as : Exs) | setI (i : Nat) (ix e : Ex)
  | ex (e : Ex) | ret (e : Ex) | retN
  | ife (c : Te) (a b : Stms)
  | for_ (t : Tg) (ik : Ik) (src : Exs) (body : Stms)
  | while_ (c : Te) (body : Stms)
  /-- n targets, the i-th one starred -/
  | starA (n i : Nat) (ts : Tgs) (e : Ex)
  | brk | cont | pass
  /-- not followed -/
  | bad
  deriving DecidableEq
inductive Stms where
  | nil | cons (s : Stm) (r : Stms)
  deriving DecidableEq
end

/-! ### operations on data -/
/-- a function of the text as data -/
def fnD (x : Str) : D := .dict [(.none, .str x)]
def fnName : D → Option Str
  | .dict [(.none, .str x)] => some x
  | _ => none
def sLt (i j : Str) : Bool := decide (i.cps.toList < j.cps.toList)
/-- the truth of a value -/
def tr : D → Option Bool
  | .none => some false
  | .bool b => some b
  | .int i => some (i != 0)
  | .str s => if s.length ≤ sizeLine then some (s.length != 0) else none
  | .list xs => some (!xs.isEmpty)
  | .tuple xs => some (!xs.isEmpty)
  | .dict ((.none, _) :: _) => none
  | .dict xs => some (!xs.isEmpty)

inductive Fl where
  | nx | rt (d : D) (fr : Bool) | bk | ct
/-- how a function is called: its number, its arguments (lent or not); its value, whether that is new, what is lent as it is then -/
abbrev CallT := Nat → List (Bool × D) → Option (D × Bool × List D)

def cutD (ds : List D) (lo hi : Option Int) : List D := (ds.drop (HT.sIx ds.length 0 lo)).take (HT.sIx ds.length ds.length hi - HT.sIx ds.length 0 lo)
def apCut : D → Option Int → Option Int → Option (D × Bool)
  | .list ds, lo, hi => some (.list (cutD ds lo hi), true)
  | .tuple ds, lo, hi => some (.tuple (cutD ds lo hi), false)
  | .str z, lo, hi => if z.length ≤ sizeLine then some (.str (cutS z lo hi), false) else none
  | _, _, _ => none
def cutArgs : Bool → Bool → List D → Option (Option Int × Option Int)
  | false, false, [] => some (none, none)
  | true, false, [.int i] => some (some i, none)
  | false, true, [.int i] => some (none, some i)
  | true, true, [.int i, .int j] => some (some i, some j)
  | _, _, _ => none
/-- what may be a key -/
def isKey : D → Bool
  | .int _ => true
  | .str _ => true
  | _ => false
/-- what a dict has at a key -/
def valD (es : List (D × D)) (k : D) : Option D := (es.find? fun p => decide (p.1 = k)).map (·.2)
def putD (es : List (D × D)) (k d : D) : List (D × D) := if (es.any fun p => decide (p.1 = k)) = true then es.map (fun p => if p.1 = k then (p.1, d) else p) else es ++ [(k, d)]
inductive Opd where
  | d (x : D) | s (i : Nat)
def deref (sl : Ss) : Opd → Option D
  | .d x => some x
  | .s i => match sl[i]? with
    | some (.val d) => some d
    | some (.own d) => some d
    | some (.bor d) => some d
    | _ => none
def derefs (sl : Ss) : List Opd → Option (List D)
  | [] => some []
  | o :: r => match deref sl o, derefs sl r with
    | some d, some ds => some (d :: ds)
    | _, _ => none

/-- the function that a place holds -/
def fnAt (sl : Ss) (cs : List (Str × Nat)) (i : Nat) : Option Nat := match sl[i]? with
  | some (.val d) => (fnName d).bind fun x => cs.lookup x
  | _ => none
/-- a name as an operand -/
def opdV (sl : Ss) (i : Nat) : Option Opd := match sl[i]? with
  | some (.val d) => some (.d d)
  | some (.own _) => some (.s i)
  | some (.bor _) => some (.s i)
  | _ => none
/-! a value goes to a target -/
mutual
def asgT : Tg → D → Ss → Option Ss
  | .n i, d, sl => match sl[i]? with
    | some (.bor _) => none
    | some _ => some (sl.set i (.val d))
    | none => none
  | .t ts k, d, sl => match d, k with
    | .tuple ds, true => asgTs ts ds sl
    | .list ds, false => asgTs ts ds sl
    | _, _ => none
  | .st _ _ _, _, _ => none
def asgTs : Tgs → List D → Ss → Option Ss
  | .nil, [], sl => some sl
  | .cons t r, d :: ds, sl => match asgT t d sl with
    | some sl => asgTs r ds sl
    | none => none
  | _, _, _ => none
end
/-- what a starred row of targets takes -/
def starL (n i : Nat) (ds : List D) : Option (List D) := if n ≤ ds.length + 1 ∧ i < n ∧ ds.length ≤ sizeLine then some (ds.take i ++ [.list ((ds.drop i).take (ds.length + 1 - n))] ++ (ds.drop i).drop (ds.length + 1 - n)) else none
def starD (n i : Nat) : D → Option (List D)
  | .list ds => starL n i ds
  | .tuple ds => starL n i ds
  | _ => none
def wipeS (sl : Ss) : List Nat → Ss
  | [] => sl
  | v :: vs => (wipeS sl vs).set v .un
/-- the places vs as they were in sl0 -/
def restS (sl0 : Ss) (sl : Ss) : List Nat → Ss
  | [] => sl
  | v :: vs => (restS sl0 sl vs).set v (sl0.getD v .un)
def noMut (sl : Ss) (vs : List Nat) : Bool := vs.all fun v => match sl[v]? with
  | some x => !x.mut
  | none => false

def mutAt (sl : Ss) (i : Nat) : Bool := match sl[i]? with
  | some x => x.mut
  | none => false

def listAt (sl : Ss) (i : Nat) : Bool := match sl[i]? with
  | some (.own (.list _)) => true
  | some (.bor (.list _)) => true
  | _ => false

def enumFrom : Int → List D → List D
  | _, [] => []
  | i, d :: ds => .tuple [.int i, d] :: enumFrom (i + 1) ds
def zipT : List D → List D → List D
  | a :: as, b :: bs => .tuple [a, b] :: zipT as bs
  | _, _ => []
def rangeT (lo : Int) : Nat → List D
  | 0 => []
  | n + 1 => .int lo :: rangeT (lo + 1) n
/-- what is walked -/
def itAny : List D → Option (List D)
  | [.list ds] => some ds
  | [.tuple ds] => some ds
  | [.str s] => some (s.cps.toList.map fun c => .str ⟨#[c]⟩)
  | _ => none
def itR1 : List D → Option (List D)
  | [.int j] => if -(2 ^ 62) ≤ j ∧ j < 2 ^ 62 then some (rangeT 0 j.toNat) else none
  | _ => none
def itR2 : List D → Option (List D)
  | [.int i, .int j] => if -(2 ^ 62) ≤ i ∧ i < 2 ^ 62 ∧ -(2 ^ 62) ≤ j ∧ j < 2 ^ 62 then some (rangeT i (j - i).toNat) else none
  | _ => none
def itEnum : List D → Option (List D)
  | [.list ds] => some (enumFrom 0 ds)
  | _ => none
def itZip : List D → Option (List D)
  | [.list ds, .list es] => some (zipT ds es)
  | [.tuple ds, .tuple es] => some (zipT ds es)
  | _ => none
def itemsOf (ik : Ik) (ds : List D) : Option (List D) := match ik with
  | .any => itAny ds
  | .range1 => itR1 ds
  | .range2 => itR2 ds
  | .enum => itEnum ds
  | .zip => itZip ds
  | .items => none

/-- a comprehension's turns -/
def lcGo (turn : D → Ss → Option (Option D × Ss)) : List D → Ss → Option (List D × Ss)
  | [], sl => some ([], sl)
  | d :: ds, sl => match turn d sl with
    | some (o, sl) => match lcGo turn ds sl with
      | some (rs, sl) => some ((match o with | some r => r :: rs | none => rs), sl)
      | none => none
    | none => none
/-- of two clauses -/
def lcGo2 (turn : D → Ss → Option (List D × Ss)) : List D → Ss → Option (List D × Ss)
  | [], sl => some ([], sl)
  | d :: ds, sl => match turn d sl with
    | some (o, sl) => match lcGo2 turn ds sl with
      | some (rs, sl) => some (o ++ rs, sl)
      | none => none
    | none => none
/-- a dict's -/
def dcGo (turn : D → Ss → Option (Option (D × D) × Ss)) : List D → List (D × D) → Ss → Option (List (D × D) × Ss)
  | [], acc, sl => some (acc, sl)
  | d :: ds, acc, sl => match turn d sl with
    | some (some (k, x), sl) => if isKey k = true then dcGo turn ds (putD acc k x) sl else none
    | some (none, sl) => dcGo turn ds acc sl
    | none => none
/-- a for's turns -/
def forGo (turn : D → Ss → Option (Fl × Ss)) : List D → Ss → Option (Fl × Ss)
  | [], sl => some (.nx, sl)
  | d :: ds, sl => match turn d sl with
    | some (.nx, sl) => forGo turn ds sl
    | some (.ct, sl) => forGo turn ds sl
    | some (.bk, sl) => some (.nx, sl)
    | some (.rt d fr, sl) => some (.rt d fr, sl)
    | none => none
def whileGo (test : Ss → Option (Bool × Ss)) (turn : Ss → Option (Fl × Ss)) : Nat → Ss → Option (Fl × Ss)
  | 0, _ => none
  | n + 1, sl => match test sl with
    | some (true, sl) => match turn sl with
      | some (.nx, sl) => whileGo test turn n sl
      | some (.ct, sl) => whileGo test turn n sl
      | some (.bk, sl) => some (.nx, sl)
      | some (.rt d fr, sl) => some (.rt d fr, sl)
      | none => none
    | some (false, sl) => some (.nx, sl)
    | none => none
/-- as many turns a while may take -/
def whileFuel : Nat := 100000

/-! ### arguments -/
def fillD : List (Option D) → List D → Option (List D)
  | [], [] => some []
  | none :: t, e :: es => (fillD t es).map (e :: ·)
  | some d :: t, es => (fillD t es).map (d :: ·)
  | _, _ => none
inductive Ag where
  | v (d : D) | r (i : Nat)
def Ag.slots : List Ag → List Nat
  | [] => []
  | .v _ :: t => Ag.slots t
  | .r i :: t => i :: Ag.slots t
def nodupB : List Nat → Bool
  | [] => true
  | a :: r => !r.contains a && nodupB r
def agD (sl : Ss) : List Ag → Option (List (Bool × D))
  | [] => some []
  | .v d :: r => match agD sl r with
    | some l => some ((false, d) :: l)
    | none => none
  | .r i :: r => match sl[i]?, agD sl r with
    | some (.own d), some l => some ((true, d) :: l)
    | some (.bor d), some l => some ((true, d) :: l)
    | _, _ => none
def backS : List Nat → List D → Ss → Option Ss
  | [], [], sl => some sl
  | i :: is, d :: ds, sl => match sl[i]? with
    | some (.own _) => backS is ds (sl.set i (.own d))
    | some (.bor _) => backS is ds (sl.set i (.bor d))
    | _ => none
  | _, _, _ => none

section
variable (apB : Bi → List D → Option (D × Bool)) (apM : Mu → D → List D → Option D) (apS : D → D → D → Option D) (C : CallT)
mutual
def evE : Ex → Ss → Option (D × Bool × Ss)
  | .k d, sl => some (d, false, sl)
  | .v i, sl => match sl[i]? with
    | some (.val d) => some (d, false, sl)
    | some (.own d) => some (d, false, sl.set i (.val d))
    | _ => none
  | .gl _ d, sl => some (d, false, sl)
  | .tup es, sl => match evEs es sl with
    | some (ds, sl) => some (.tuple ds, false, sl)
    | none => none
  | .lst es, sl => match evEs es sl with
    | some (ds, sl) => some (.list ds, true, sl)
    | none => none
  | .dct kvs, sl => match evEs kvs sl with
    | some ([], sl) => some (.dict [], true, sl)
    | some ([k, v], sl) => if isKey k = true then some (.dict [(k, v)], true, sl) else none
    | _ => none
  | .mc f a as, sl => match evEs a sl with
    | some ([x], sl) => match evOs as sl with
      | some (os, sl) => match derefs sl os with
        | some ds => match apB f (x :: ds) with
          | some (d, fr) => some (d, fr, sl)
          | none => none
        | none => none
      | none => none
    | _ => none
  | .sl hl hu a bs, sl => match evOs a sl with
    | some ([oa], sl) => match evEs bs sl with
      | some (ds, sl) => match deref sl oa, cutArgs hl hu ds with
        | some x, some (lo, hi) => match apCut x lo hi with
          | some (d, fr) => some (d, fr, sl)
          | none => none
        | _, _ => none
      | none => none
    | _ => none
  | .ch f g ab c, sl => match evOs ab sl with
    | some ([oa, ob], sl) => match derefs sl [oa, ob] with
      | some ds => match apB f ds with
        | some (.bool true, _) => match evOs c sl with
          | some ([oc], sl) => match derefs sl [ob, oc] with
            | some es => match apB g es with
              | some (d, false) => some (d, false, sl)
              | _ => none
            | none => none
          | _ => none
        | some (.bool false, _) => some (.bool false, false, sl)
        | _ => none
      | none => none
    | _ => none
  | .bi f as, sl => match evOs as sl with
    | some (os, sl) => match derefs sl os with
      | some ds => match apB f ds with
        | some (d, fr) => some (d, fr, sl)
        | none => none
      | none => none
    | none => none
  | .tst c, sl => match evT c sl with
    | some (b, sl) => some (.bool b, false, sl)
    | none => none
  | .and a b, sl => match evE a sl with
    | some (d, _, sl) => match tr d with
      | some true => match evE b sl with
        | some (d, _, sl) => some (d, false, sl)
        | none => none
      | some false => some (d, false, sl)
      | none => none
    | none => none
  | .or a b, sl => match evE a sl with
    | some (d, _, sl) => match tr d with
      | some false => match evE b sl with
        | some (d, _, sl) => some (d, false, sl)
        | none => none
      | some true => some (d, false, sl)
      | none => none
    | none => none
  | .ife c a b, sl => match evT c sl with
    | some (true, sl) => match evE a sl with
      | some (d, _, sl) => some (d, false, sl)
      | none => none
    | some (false, sl) => match evE b sl with
      | some (d, _, sl) => some (d, false, sl)
      | none => none
    | none => none
  | .call f refs as, sl => match evAs refs as sl with
    | some (ags, sl) => match nodupB (Ag.slots ags), agD sl ags with
      | true, some args => match C f args with
        | some (d, fr, outs) => match backS (Ag.slots ags) outs sl with
          | some sl => some (d, fr, sl)
          | none => none
        | none => none
      | _, _ => none
    | none => none
  | .callK f as ks tail, sl => match evEs as sl with
    | some (ds, sl) => match evEs ks sl with
      | some (es, sl) => match fillD tail es with
        | some ts => match C f ((ds ++ ts).map fun d => (false, d)) with
          | some (d, fr, []) => some (d, fr, sl)
          | _ => none
        | none => none
      | none => none
    | none => none
  | .callF f a, sl => match evE a sl with
    | some (d, true, sl) => match C f [(true, d)] with
      | some (r, fr, [_]) => some (r, fr, sl)
      | _ => none
    | _ => none
  | .callV i cs as, sl => match fnAt sl cs i with
    | some f => match evEs as sl with
      | some (ds, sl) => match C f (ds.map fun d => (false, d)) with
        | some (d, fr, []) => some (d, fr, sl)
        | _ => none
      | none => none
    | none => none
  | .lc elt tg ik src ifs own, sl => match noMut sl own, evEs src sl with
    | true, some (ss, sl) => match noMut sl own, itemsOf ik ss with
      | true, some items => match lcGo (fun d sl => match asgT tg d (wipeS sl own) with
            | some sl => match evT ifs sl with
              | some (true, sl) => match evE elt sl with
                | some (x, _, sl) => some (some x, sl)
                | none => none
              | some (false, sl) => some (none, sl)
              | none => none
            | none => none) items sl with
        | some (rs, sl') => if rs.length ≤ sizeLine then some (.list rs, true, restS sl sl' own) else none
        | none => none
      | _, _ => none
    | _, _ => none
  | .c2 st elt tg ik src ifs tg1 ik1 src1 ifs1 own own1, sl => match noMut sl own, evEs src sl with
    | true, some (ss, sl) => match noMut sl own, itemsOf ik ss with
      | true, some items => match lcGo2 (fun d sl => match asgT tg d (wipeS sl own) with
            | some sl => match evT ifs sl with
              | some (true, sl) => match evEs src1 sl with
                | some (ss, sl) => match itemsOf ik1 ss with
                  | some items => lcGo (fun d sl => match asgT tg1 d (wipeS sl own1) with
                      | some sl => match evT ifs1 sl with
                        | some (true, sl) => match evE elt sl with
                          | some (x, _, sl) => some (some x, sl)
                          | none => none
                        | some (false, sl) => some (none, sl)
                        | none => none
                      | none => none) items sl
                  | none => none
                | none => none
              | some (false, sl) => some ([], sl)
              | none => none
            | none => none) items sl with
        | some (rs, sl') => match st with
          | true => if rs.length < 64 ∧ rs.all isKey = true then match apB .sortedSet [.list rs] with
              | some (d, true) => some (d, true, restS sl sl' own)
              | _ => none
            else none
          | false => if rs.length ≤ sizeLine then some (.list rs, true, restS sl sl' own) else none
        | none => none
      | _, _ => none
    | _, _ => none
  | .dc kx vx tg ik src ifs own, sl => match noMut sl own, evEs src sl with
    | true, some (ss, sl) => match noMut sl own, itemsOf ik ss with
      | true, some items => if items.length < sizeLine then match dcGo (fun d sl => match asgT tg d (wipeS sl own) with
            | some sl => match evT ifs sl with
              | some (true, sl) => match evE kx sl with
                | some (k, _, sl) => match evE vx sl with
                  | some (x, _, sl) => some (some (k, x), sl)
                  | none => none
                | none => none
              | some (false, sl) => some (none, sl)
              | none => none
            | none => none) items [] sl with
        | some (rs, sl') => some (.dict rs, true, restS sl sl' own)
        | none => none
        else none
      | _, _ => none
    | _, _ => none
/-- from the left, values -/
def evEs : Exs → Ss → Option (List D × Ss)
  | .nil, sl => some ([], sl)
  | .cons e r, sl => match evE e sl with
    | some (d, _, sl) => match evEs r sl with
      | some (ds, sl) => some (d :: ds, sl)
      | none => none
    | none => none
/-- from the left, a name of a changing object only looked at -/
def evOs : Exs → Ss → Option (List Opd × Ss)
  | .nil, sl => some ([], sl)
  | .cons (.v i) r, sl => match opdV sl i with
    | some o => match evOs r sl with
      | some (os, sl) => some (o :: os, sl)
      | none => none
    | none => none
  | .cons e r, sl => match evE e sl with
    | some (d, _, sl) => match evOs r sl with
      | some (os, sl) => some (.d d :: os, sl)
      | none => none
    | none => none
/-- a test -/
def evT : Te → Ss → Option (Bool × Ss)
  | .yes, sl => some (true, sl)
  | .not a, sl => match evT a sl with
    | some (b, sl) => some (!b, sl)
    | none => none
  | .and a b, sl => match evT a sl with
    | some (true, sl) => evT b sl
    | some (false, sl) => some (false, sl)
    | none => none
  | .or a b, sl => match evT a sl with
    | some (false, sl) => evT b sl
    | some (true, sl) => some (true, sl)
    | none => none
  | .ex (.v i), sl => match (opdV sl i).bind (deref sl) with
    | some d => match tr d with
      | some b => some (b, sl)
      | none => none
    | none => none
  | .ex e, sl => match evE e sl with
    | some (d, _, sl) => match tr d with
      | some b => some (b, sl)
      | none => none
    | none => none
def evAs : List Bool → Exs → Ss → Option (List Ag × Ss)
  | [], .nil, sl => some ([], sl)
  | true :: bs, .cons (.v i) r, sl => match mutAt sl i with
    | true => match evAs bs r sl with
      | some (as, sl) => some (.r i :: as, sl)
      | none => none
    | false => none
  | false :: bs, .cons e r, sl => match evE e sl with
    | some (d, _, sl) => match evAs bs r sl with
      | some (as, sl) => some (.v d :: as, sl)
      | none => none
    | none => none
  | _, _, _ => none
end
mutual
def evS : Stm → Ss → Option (Fl × Ss)
  | .asg t e, sl => match evE apB C e sl with
    | some (d, _, sl) => match asgT t d sl with
      | some sl => some (.nx, sl)
      | none => none
    | none => none
  | .asgO i e, sl => match evE apB C e sl with
    | some (d, fr, sl) => match sl[i]? with
      | some (.bor _) => none
      | some _ => some (.nx, sl.set i (match fr with | true => .own d | false => .val d))
      | none => none
    | none => none
  | .aug i f e, sl => match sl[i]? with
    | some (.val x) => match evE apB C e sl with
      | some (y, _, sl) => match apB f [x, y] with
        | some (d, _) => match sl[i]? with
          | some (.val _) => some (.nx, sl.set i (.val d))
          | _ => none
        | none => none
      | none => none
    | _ => none
  | .mu m i as, sl => match listAt sl i, evEs apB C as sl with
    | true, some (ds, sl) => match sl[i]? with
      | some (.own d) => match apM m d ds with
        | some d => some (.nx, sl.set i (.own d))
        | none => none
      | some (.bor d) => match apM m d ds with
        | some d => some (.nx, sl.set i (.bor d))
        | none => none
      | _ => none
    | _, _ => none
  | .setI i ix e, sl => match evE apB C e sl with
    | some (x, _, sl) => match mutAt sl i, evE apB C ix sl with
      | true, some (j, _, sl) => match sl[i]? with
        | some (.own d) => match apS d j x with
          | some d => some (.nx, sl.set i (.own d))
          | none => none
        | some (.bor d) => match apS d j x with
          | some d => some (.nx, sl.set i (.bor d))
          | none => none
        | _ => none
      | _, _ => none
    | none => none
  | .ex e, sl => match evE apB C e sl with
    | some (_, _, sl) => some (.nx, sl)
    | none => none
  | .ret (.v i), sl => match sl[i]? with
    | some (.val d) => some (.rt d false, sl)
    | some (.own d) => some (.rt d true, sl.set i .un)
    | _ => none
  | .ret e, sl => match evE apB C e sl with
    | some (d, fr, sl) => some (.rt d fr, sl)
    | none => none
  | .retN, sl => some (.rt .none false, sl)
  | .ife c a b, sl => match evT apB C c sl with
    | some (true, sl) => evSs a sl
    | some (false, sl) => evSs b sl
    | none => none
  | .for_ t ik src body, sl => match evEs apB C src sl with
    | some (ss, sl) => match itemsOf ik ss with
      | some items => forGo (fun d sl => match asgT t d sl with
          | some sl => evSs body sl
          | none => none) items sl
      | none => none
    | none => none
  | .while_ c body, sl => whileGo (fun sl => evT apB C c sl) (fun sl => evSs body sl) whileFuel sl
  | .starA n i ts e, sl => match evE apB C e sl with
    | some (d, _, sl) => match starD n i d with
      | some ds => match asgTs ts ds sl with
        | some sl => some (.nx, sl)
        | none => none
      | none => none
    | none => none
  | .brk, sl => some (.bk, sl)
  | .cont, sl => some (.ct, sl)
  | .pass, sl => some (.nx, sl)
  | .bad, _ => none
def evSs : Stms → Ss → Option (Fl × Ss)
  | .nil, sl => some (.nx, sl)
  | .cons s r, sl => match evS s sl with
    | some (.nx, sl) => evSs r sl
    | some (f, sl) => some (f, sl)
    | none => none
end
end

/-- a function: how many parameters, how many places, which parameters are lent, its body -/
structure Fn where
  np : Nat
  ns : Nat
  refs : List Bool
  body : Stms
def argS : List (Bool × D) → Ss
  | [] => []
  | (true, d) :: r => .bor d :: argS r
  | (false, d) :: r => .val d :: argS r
def outS : List (Bool × D) → Ss → Option (List D)
  | [], _ => some []
  | (true, _) :: r, .bor d :: sl => match outS r sl with
    | some l => some (d :: l)
    | none => none
  | (false, _) :: r, _ :: sl => outS r sl
  | _, _ => none
section
variable (apB : Bi → List D → Option (D × Bool)) (apM : Mu → D → List D → Option D) (apS : D → D → D → Option D)
def runFn (C : CallT) (fn : Fn) (args : List (Bool × D)) : Option (D × Bool × List D) :=
  if args.length = fn.np ∧ fn.np ≤ fn.ns then
    match evSs apB apM apS C fn.body (argS args ++ List.replicate (fn.ns - fn.np) .un) with
    | some (.rt d fr, sl) => match outS args sl with
      | some outs => some (d, fr, outs)
      | none => none
    | some (.nx, sl) => match outS args sl with
      | some outs => some (.none, false, outs)
      | none => none
    | _ => none
  else none
def callN (P : Nat → Option Fn) : Nat → CallT
  | 0 => fun _ _ => none
  | n + 1 => fun f args => match P f with
    | some fn => runFn apB apM apS (callN P n) fn args
    | none => none
end
end EV
namespace EV
open PySem PySem.Spec L2
open PyProof.Rows hiding St

/-- an operand: a value, or a changing object that is looked at -/
def Pk (K : PySem.W.Frag) (G H : Hp) (v : V) (d : D) : Prop := Rp K G v d ∨ ∃ a, v = .ref a ∧ Hold K G (H a) d
/-- an operation's step: only new objects -/
structure Step (K : PySem.W.Frag) (G H G' H' : Hp) (v : V) (d : D) (fr : Bool) : Prop where
  hh : Same H H'
  gg : Same G G'
  gh : Same G' H'
  nw : ∀ b, G' b ≠ none → G b ≠ none ∨ H b = none
  res : match fr with
    | false => Rp K G' v d
    | true => ∃ a, v = .ref a ∧ H a = none ∧ G' a = none ∧ Hold K G' (H' a) d
abbrev ApB := Bi → List D → Option (D × Bool)
/-- several operands -/
inductive Pks (K : PySem.W.Frag) (G H : Hp) : List V → List D → Prop
  | nil : Pks K G H [] []
  | cons {v : V} {vs : List V} {d : D} {ds : List D} : Pk K G H v d → Pks K G H vs ds → Pks K G H (v :: vs) (d :: ds)
/-- what the reading of an operation asks -/
def rBi (K : PySem.W.Frag) (g : List D → Option (D × Bool)) : List V → Hp → VK → Prop := fun vs H Q =>
  ∃ (G : Hp) (ds : List D) (d : D) (fr : Bool), Same G H ∧ Pks K G H vs ds ∧ g ds = some (d, fr) ∧ ∀ v G' H', Step K G H G' H' v d fr → Q v H'

section
variable {K : PySem.W.Frag} {G H : Hp} {v : V} {d : D}
theorem Step.same (h : Same G H) (r : Rp K G v d) : Step K G H G H v d false := ⟨Same.refl _, Same.refl _, h, fun _ z => .inl z, r⟩
theorem Step.tup {p : Addr} {xs : List V} {ds : List D} (h : Same G H) (np : H p = none) (r : RpA K G xs ds) : Step K G H (upd G p (.tup xs)) (upd H p (.tup xs)) (.ref p) (.tuple ds) false := by
  have ng : G p = none := Same.free h np
  have e : Same G (upd G p (.tup xs)) := fun b o q => by rw [upd_ne (ne_of_none q ng)]; exact q
  refine ⟨fun b o q => by rw [upd_ne (ne_of_none q np)]; exact q, e, fun b o q => ?_, fun b q => ?_, .tup (SqT.of upd_same) (r.mono e)⟩
  · by_cases hb : b = p
    · subst hb
      rw [upd_same] at q ⊢
      exact q
    · rw [upd_ne hb] at q ⊢
      exact h b o q
  · by_cases hb : b = p
    · subst hb
      exact .inr np
    · rw [upd_ne hb] at q
      exact .inl q
theorem Step.lst {p : Addr} {xs : List V} {ds : List D} (h : Same G H) (np : H p = none) (r : RpA K G xs ds) : Step K G H G (upd H p (.lst xs)) (.ref p) (.list ds) true := by
  have ng : G p = none := Same.free h np
  refine ⟨fun b o q => by rw [upd_ne (ne_of_none q np)]; exact q, Same.refl _, fun b o q => ?_, fun b q => .inl q, p, rfl, np, ng, xs, upd_same, r⟩
  rw [upd_ne (ne_of_none q ng)]
  exact h b o q
theorem Pk.non (h : Pk K G H v .none) : v = .non := by
  rcases h with h | ⟨a, _, h⟩
  · cases h; rfl
  · exact h.elim
theorem Pk.bl {b : Bool} (h : Pk K G H v (.bool b)) : v = .bl b := by
  rcases h with h | ⟨a, _, h⟩
  · cases h; rfl
  · exact h.elim
theorem Pk.int {i : Int} (h : Pk K G H v (.int i)) : v = .int i := by
  rcases h with h | ⟨a, _, h⟩
  · cases h; rfl
  · exact h.elim
theorem Pk.str {x : Str} (h : Pk K G H v (.str x)) : v = .str x := by
  rcases h with h | ⟨a, _, h⟩
  · cases h; rfl
  · exact h.elim
theorem Pk.tup {ds : List D} (h : Pk K G H v (.tuple ds)) : ∃ a xs, v = .ref a ∧ SqT K G a xs ∧ RpA K G xs ds := by
  rcases h with h | ⟨a, _, h⟩
  · cases h with | tup h r => exact ⟨_, _, rfl, h, r⟩
  · exact h.elim
theorem Pk.lst {ds : List D} (s : Same G H) (h : Pk K G H v (.list ds)) : ∃ a xs, v = .ref a ∧ H a = some (.lst xs) ∧ RpA K G xs ds := by
  rcases h with h | ⟨a, rfl, xs, h1, h2⟩
  · cases h with | lst h r => exact ⟨_, _, rfl, s _ _ h, r⟩
  · exact ⟨_, _, rfl, h1, h2⟩
theorem Pk.rp (s : Same G H) (h : Pk K G H v d) : Rp K H v d := by
  rcases h with h | ⟨a, rfl, h⟩
  · exact h.mono s
  · cases d with
    | list ds => obtain ⟨xs, h1, h2⟩ := h; exact .lst h1 (h2.mono s)
    | dict ds => obtain ⟨xs, h1, h2⟩ := h; exact .dct h1 (h2.mono s)
    | _ => exact h.elim
end

/-! ### the operations on data -/
def apAdd : List D → Option (D × Bool)
  | [.int i, .int j] => some (.int (i + j), false)
  | [.str x, .str y] => if x.length + y.length ≤ sizeLine then some (.str (x ++ y), false) else none
  | [.tuple xs, .tuple ys] => if xs.length + ys.length ≤ sizeLine then some (.tuple (xs ++ ys), false) else none
  | [.list xs, .list ys] => if xs.length + ys.length ≤ sizeLine then some (.list (xs ++ ys), true) else none
  | _ => none
def apSub : List D → Option (D × Bool)
  | [.int i, .int j] => some (.int (i - j), false)
  | _ => none
def apMul : List D → Option (D × Bool)
  | [.int i, .int j] => if (-(2 ^ 64) < i ∧ i < 2 ^ 64) ∨ (-(2 ^ 64) < j ∧ j < 2 ^ 64) then some (.int (i * j), false) else none
  | [.list xs, .int k] => if (-(2 ^ 63) ≤ k ∧ k < 2 ^ 63) ∧ xs.length * k.toNat ≤ sizeLine then some (.list (List.replicate k.toNat xs).flatten, true) else none
  | _ => none
def apFdiv : List D → Option (D × Bool)
  | [.int i, .int j] => if 0 < j ∧ j < 1073741824 then some (.int (i / j), false) else none
  | _ => none
def apMod : List D → Option (D × Bool)
  | [.int i, .int j] => if 0 < j then some (.int (i % j), false) else none
  | _ => none
def apPow : List D → Option (D × Bool)
  | [.int i, .int j] => if (0 ≤ j ∧ j ≤ 1000000) ∧ i.natAbs < 2 ^ 64 then some (.int (i ^ j.toNat), false) else none
  | _ => none
def apNeg : List D → Option (D × Bool)
  | [.int i] => some (.int (-i), false)
  | _ => none

section
variable {X : Cx}
theorem vp2 {K : PySem.W.Frag} {G H : Hp} {vs : List V} {a b : D} (h : Pks K G H vs [a, b]) : ∃ x y, vs = [x, y] ∧ Pk K G H x a ∧ Pk K G H y b := by
  cases h with
  | cons h1 r => cases r with
    | cons h2 r => cases r; exact ⟨_, _, rfl, h1, h2⟩
theorem vp1 {K : PySem.W.Frag} {G H : Hp} {vs : List V} {a : D} (h : Pks K G H vs [a]) : ∃ x, vs = [x] ∧ Pk K G H x a := by
  cases h with
  | cons h1 r => cases r; exact ⟨_, rfl, h1⟩
theorem Pks.length {K : PySem.W.Frag} {G H : Hp} {vs : List V} {ds : List D} (h : Pks K G H vs ds) : vs.length = ds.length := by
  induction h with
  | nil => rfl
  | cons _ _ ih => exact congrArg (· + 1) ih
/-- a binary operation by values -/
abbrev O2 (X : Cx) (f : Value → Value → Sem Value) (g : List D → Option (D × Bool)) : Prop := OpR X f (fun x y H Q => rBi X.K g [x, y] H Q)
theorem rBi2 {K : PySem.W.Frag} {g : List D → Option (D × Bool)} {x y : V} {H : Hp} {Q : VK} (h : rBi K g [x, y] H Q) :
    ∃ (G : Hp) (a b : D) (d : D) (fr : Bool), Same G H ∧ Pk K G H x a ∧ Pk K G H y b ∧ g [a, b] = some (d, fr) ∧ ∀ v G' H', Step K G H G' H' v d fr → Q v H' := by
  obtain ⟨G, ds, d, fr, s, p, e, q⟩ := h
  cases p with
  | cons h1 r => cases r with
    | cons h2 r => cases r; exact ⟨G, _, _, d, fr, s, h1, h2, e, q⟩
theorem o_add : O2 X (binaryOp .Add) apAdd := by
  intro pins s σ H x y v u Q I rx ry h
  obtain ⟨G, a, b, d, fr, sm, ha, hb, e, q⟩ := rBi2 h
  unfold apAdd at e
  split at e
  · rename_i i j he
    simp only [List.cons.injEq, and_true] at he
    obtain ⟨rfl, rfl⟩ := he
    cases e
    exact op_add pins s σ H x y v u Q I rx ry ⟨i, j, ha.int, hb.int, q _ _ _ (.same sm (.int _))⟩
  · rename_i i j he
    simp only [List.cons.injEq, and_true] at he
    obtain ⟨rfl, rfl⟩ := he
    split at e
    · cases e
      exact op_add_str pins s σ H x y v u Q I rx ry ⟨i, j, ha.str, hb.str, ‹_›, q _ _ _ (.same sm (.str _))⟩
    · cases e
  · rename_i i j he
    simp only [List.cons.injEq, and_true] at he
    obtain ⟨rfl, rfl⟩ := he
    split at e
    · rename_i hz
      cases e
      obtain ⟨a, xs, rfl, h1, r1⟩ := ha.tup
      obtain ⟨b, ys, rfl, h2, r2⟩ := hb.tup
      refine op_catA pins s σ H _ _ v u Q I rx ry ⟨a, b, xs, ys, rfl, rfl, Same.seqT sm h1, Same.seqT sm h2, by rw [r1.length, r2.length]; exact hz, fun e => ?_, fun _ e => ?_, fun _ _ p hp => ?_⟩
      · subst e
        cases r1
        exact q _ _ _ (.same sm (.tup h2 r2))
      · subst e
        cases r2
        rw [List.append_nil] at q
        exact q _ _ _ (.same sm (.tup h1 r1))
      · exact q _ _ _ (.tup sm hp (r1.append r2))
    · cases e
  · rename_i i j he
    simp only [List.cons.injEq, and_true] at he
    obtain ⟨rfl, rfl⟩ := he
    split at e
    · rename_i hz
      cases e
      obtain ⟨a, xs, rfl, h1, r1⟩ := ha.lst sm
      obtain ⟨b, ys, rfl, h2, r2⟩ := hb.lst sm
      refine op_cat pins s σ H _ _ v u Q I rx ry ⟨a, b, xs, ys, rfl, rfl, h1, h2, by rw [r1.length, r2.length]; exact hz, fun p hp => q _ _ _ (.lst sm hp (r1.append r2))⟩
    · cases e
  · cases e

/-- operations of ints -/
theorem o2I {f : Value → Value → Sem Value} {g : List D → Option (D × Bool)} (h : ∀ i j d fr, g [.int i, .int j] = some (d, fr) → fr = false ∧ ∃ z : V, (∀ K G, Rp K G z d) ∧ ∀ (pins : List (Addr × Obj)) (s : Shared) (σ : St) (H : Hp) (v u : Value) (Q : VK), Inv X pins σ H s → RelV (.int i) v → RelV (.int j) u → Q z H → wpAny (model X.prog X.w) X.A (f v u) (EP X pins σ Q) X.xe s)
    (n : ∀ a b d fr, g [a, b] = some (d, fr) → ∃ i j, a = .int i ∧ b = .int j) : O2 X f g := by
  intro pins s σ H x y v u Q I rx ry h0
  obtain ⟨G, a, b, d, fr, sm, ha, hb, e, q⟩ := rBi2 h0
  obtain ⟨i, j, rfl, rfl⟩ := n _ _ _ _ e
  obtain ⟨rfl, z, hz, k⟩ := h i j d fr e
  rw [ha.int] at rx
  rw [hb.int] at ry
  exact k pins s σ H v u Q I rx ry (q z G H (.same sm (hz _ _)))
theorem o_sub : O2 X (binaryOp .Sub) apSub := o2I (fun i j d fr e => by
    cases e
    exact ⟨rfl, .int (i - j), fun _ _ => .int _, fun pins s σ H v u Q I rx ry q => op_sub pins s σ H _ _ v u Q I rx ry ⟨i, j, rfl, rfl, q⟩⟩) fun a b d fr e => by
  unfold apSub at e
  split at e
  · rename_i h; simp only [List.cons.injEq, and_true] at h; exact ⟨_, _, h.1, h.2⟩
  · cases e
theorem o_fdiv : O2 X (binaryOp .FloorDiv) apFdiv := o2I (fun i j d fr e => by
    simp only [apFdiv] at e
    split at e
    · rename_i hc
      cases e
      exact ⟨rfl, .int (i / j), fun _ _ => .int _, fun pins s σ H v u Q I rx ry q => op_fdiv pins s σ H _ _ v u Q I rx ry ⟨i, j, rfl, rfl, hc, q⟩⟩
    · cases e) fun a b d fr e => by
  unfold apFdiv at e
  split at e
  · rename_i h; simp only [List.cons.injEq, and_true] at h; exact ⟨_, _, h.1, h.2⟩
  · cases e
theorem o_mod : O2 X (binaryOp .Mod) apMod := o2I (fun i j d fr e => by
    simp only [apMod] at e
    split at e
    · rename_i hc
      cases e
      exact ⟨rfl, .int (i % j), fun _ _ => .int _, fun pins s σ H v u Q I rx ry q => op_mod pins s σ H _ _ v u Q I rx ry ⟨i, j, rfl, rfl, hc, q⟩⟩
    · cases e) fun a b d fr e => by
  unfold apMod at e
  split at e
  · rename_i h; simp only [List.cons.injEq, and_true] at h; exact ⟨_, _, h.1, h.2⟩
  · cases e
theorem o_pow : O2 X (binaryOp .Pow) apPow := o2I (fun i j d fr e => by
    simp only [apPow] at e
    split at e
    · rename_i hc
      cases e
      exact ⟨rfl, .int (i ^ j.toNat), fun _ _ => .int _, fun pins s σ H v u Q I rx ry q => op_pow pins s σ H _ _ v u Q I rx ry ⟨i, j, rfl, rfl, ⟨hc.1.1, hc.1.2, hc.2⟩, q⟩⟩
    · cases e) fun a b d fr e => by
  unfold apPow at e
  split at e
  · rename_i h; simp only [List.cons.injEq, and_true] at h; exact ⟨_, _, h.1, h.2⟩
  · cases e
theorem RpA.rep {K : PySem.W.Frag} {G : Hp} {vs : List V} {ds : List D} (r : RpA K G vs ds) : ∀ n : Nat, RpA K G (List.replicate n vs).flatten (List.replicate n ds).flatten
  | 0 => .nil
  | n + 1 => by
    rw [List.replicate_succ, List.replicate_succ, List.flatten_cons, List.flatten_cons]
    exact r.append (RpA.rep r n)
theorem o_mul : O2 X (binaryOp .Mult) apMul := by
  intro pins s σ H x y v u Q I rx ry h
  obtain ⟨G, a, b, d, fr, sm, ha, hb, e, q⟩ := rBi2 h
  unfold apMul at e
  split at e
  · rename_i i j he
    simp only [List.cons.injEq, and_true] at he
    obtain ⟨rfl, rfl⟩ := he
    split at e
    · rename_i hc
      cases e
      exact op_mul pins s σ H x y v u Q I rx ry ⟨i, j, ha.int, hb.int, hc, q _ _ _ (.same sm (.int _))⟩
    · cases e
  · rename_i ds k he
    simp only [List.cons.injEq, and_true] at he
    obtain ⟨rfl, rfl⟩ := he
    split at e
    · rename_i hz
      cases e
      obtain ⟨a, xs, rfl, h1, r1⟩ := ha.lst sm
      exact op_rep pins s σ H _ _ v u Q I rx ry ⟨a, k, xs, rfl, hb.int, h1, hz.1.1, hz.1.2, by rw [r1.length]; exact hz.2, fun p hp => q _ _ _ (.lst sm hp (r1.rep _))⟩
    · cases e
  · cases e
theorem rBi1 {K : PySem.W.Frag} {g : List D → Option (D × Bool)} {x : V} {H : Hp} {Q : VK} (h : rBi K g [x] H Q) :
    ∃ (G : Hp) (a : D) (d : D) (fr : Bool), Same G H ∧ Pk K G H x a ∧ g [a] = some (d, fr) ∧ ∀ v G' H', Step K G H G' H' v d fr → Q v H' := by
  obtain ⟨G, ds, d, fr, s, p, e, q⟩ := h
  cases p with
  | cons h1 r => cases r; exact ⟨G, _, d, fr, s, h1, e, q⟩
theorem o_neg : UnR X (unaryOp .USub) (fun x H Q => rBi X.K apNeg [x] H Q) := by
  intro pins s σ H x v Q I rx h
  obtain ⟨G, a, d, fr, sm, ha, e, q⟩ := rBi1 h
  unfold apNeg at e
  split at e
  · rename_i i he
    simp only [List.cons.injEq, and_true] at he
    subst he
    cases e
    exact un_neg pins s σ H x v Q I rx ⟨i, ha.int, q _ _ _ (.same sm (.int _))⟩
  · cases e

/-! ### comparisons -/
mutual
theorem Rp.dp {K : PySem.W.Frag} {H : Hp} : ∀ {v : V} {d : D}, Rp K H v d → d.hasDict = false → Dp K H v d
  | _, _, .non, _ => .non
  | _, _, .bl b, _ => .bl b
  | _, _, .int i, _ => .int i
  | _, _, .str x, _ => .str x
  | _, _, .lst h r, n => .lst (SqL.of h) (RpA.dp r (by simpa only [PyData.hasDict] using n))
  | _, _, .tup h r, n => .tup h (RpA.dp r (by simpa only [PyData.hasDict] using n))
  | _, _, .dct h r, n => by simp only [PyData.hasDict] at n; cases n
  | _, _, .scr h, n => by simp only [PyData.hasDict] at n; cases n
  | _, _, .fn h, n => by simp only [PyData.hasDict] at n; cases n
theorem RpA.dp {K : PySem.W.Frag} {H : Hp} : ∀ {vs : List V} {ds : List D}, RpA K H vs ds → PyData.hasDictAll ds = false → DpAll K H vs ds
  | _, _, .nil, _ => .nil
  | _, _, .cons h r, n => by
    simp only [PyData.hasDictAll, Bool.or_eq_false_iff] at n
    exact .cons (Rp.dp h n.1) (RpA.dp r n.2)
end
theorem Pk.dp {K : PySem.W.Frag} {G H : Hp} {v : V} {d : D} (s : Same G H) (h : Pk K G H v d) (n : SeqAt.shaped d = true) : Dp K H v d := (h.rp s).dp (PyData.hasDict_of_canLay d (SeqAt.canLay_of_shaped n))
/-- lists of unlike lengths -/
def lenNe : D → D → Bool
  | .list xs, .list ys => xs.length != ys.length
  | _, _ => false
/-- what == asks of both sides -/
def eqOk : D → D → Bool
  | .str _, .str _ => true
  | a, b => SeqAt.shaped a && SeqAt.shaped b
theorem eqOk_or {a b : D} (h : eqOk a b = true) : (∃ i j, a = .str i ∧ b = .str j) ∨ (SeqAt.shaped a = true ∧ SeqAt.shaped b = true) := by
  unfold eqOk at h
  split at h
  · exact .inl ⟨_, _, rfl, rfl⟩
  · rw [Bool.and_eq_true] at h
    exact .inr h
def apEq : List D → Option (D × Bool)
  | [a, b] => if lenNe a b = true then some (.bool false, false) else if eqOk a b = true then some (.bool (PyData.eqv a b), false) else none
  | _ => none
def apNe : List D → Option (D × Bool)
  | [a, b] => if eqOk a b = true then some (.bool (!PyData.eqv a b), false) else none
  | _ => none
theorem lenNe_lists {K : PySem.W.Frag} {G H : Hp} {x y : V} {a b : D} (sm : Same G H) (h : lenNe a b = true) (ha : Pk K G H x a) (hb : Pk K G H y b) : ∃ l m xs ys, x = .ref l ∧ y = .ref m ∧ H l = some (.lst xs) ∧ H m = some (.lst ys) ∧ (xs.length != ys.length) = true := by
  unfold lenNe at h
  split at h
  · obtain ⟨l, xs, e1, e2, e3⟩ := ha.lst sm
    obtain ⟨m, ys, e4, e5, e6⟩ := hb.lst sm
    exact ⟨l, m, xs, ys, e1, e4, e2, e5, by rw [e3.length, e6.length]; exact h⟩
  · cases h
theorem o_eq (hu : X.A.units + 64 < cLine) : O2 X (compareOp .Eq) apEq := by
  intro pins s σ H x y v u Q I rx ry h
  obtain ⟨G, a, b, d, fr, sm, ha, hb, e, q⟩ := rBi2 h
  simp only [apEq] at e
  split at e
  · rename_i hl
    cases e
    obtain ⟨l, m, xs, ys, rfl, rfl, h1, h2, h3⟩ := lenNe_lists sm hl ha hb
    cases rx
    cases ry
    obtain ⟨its, rv, ht, _⟩ := I.list (SqL.of h1)
    obtain ⟨its2, rv2, ht2, _⟩ := I.list (SqL.of h2)
    exact SeqAt.eq_list_lengthsAt ht.isList ht2.isList (by rw [List.size_toArray, List.size_toArray, ← rv.length, ← rv2.length]; exact h3) (by omega) ⟨.bl false, H, I, rfl, q _ _ _ (.same sm (.bl _))⟩
  split at e
  · rename_i hs
    cases e
    rcases eqOk_or hs with ⟨i, j, rfl, rfl⟩ | hs
    · refine op_eq pins s σ H x y v u Q I rx ry ⟨?_, ?_⟩
      · rw [ha.str, hb.str]; rfl
      · have := q (.bl (decide (x = y))) G H
        refine this (.same sm ?_)
        rw [ha.str, hb.str, dec_str, PyData.eqv]
        exact .bl _
    exact op_eqD hu pins s σ H x y v u Q I rx ry ⟨a, b, ha.dp sm hs.1, hb.dp sm hs.2, hs.1, hs.2, q _ _ _ (.same sm (.bl _))⟩
  · cases e
theorem o_ne (hu : X.A.units + 64 < cLine) : O2 X (compareOp .NotEq) apNe := by
  intro pins s σ H x y v u Q I rx ry h
  obtain ⟨G, a, b, d, fr, sm, ha, hb, e, q⟩ := rBi2 h
  simp only [apNe] at e
  split at e
  · rename_i hs
    cases e
    rcases eqOk_or hs with ⟨i, j, rfl, rfl⟩ | hs
    · refine op_ne pins s σ H x y v u Q I rx ry ⟨?_, ?_⟩
      · rw [ha.str, hb.str]; rfl
      · have := q (.bl (!decide (x = y))) G H
        refine this (.same sm ?_)
        rw [ha.str, hb.str, dec_str, PyData.eqv]
        exact .bl _
    exact op_neD hu pins s σ H x y v u Q I rx ry ⟨a, b, ha.dp sm hs.1, hb.dp sm hs.2, hs.1, hs.2, q _ _ _ (.same sm (.bl _))⟩
  · cases e
def apLt : List D → Option (D × Bool)
  | [.int i, .int j] => some (.bool (decide (i < j)), false)
  | [.str i, .str j] => some (.bool (sLt i j), false)
  | _ => none
def apLe : List D → Option (D × Bool)
  | [.int i, .int j] => some (.bool (decide (i ≤ j)), false)
  | [.str i, .str j] => some (.bool (!sLt j i), false)
  | _ => none
def apGt : List D → Option (D × Bool)
  | [.int i, .int j] => some (.bool (decide (j < i)), false)
  | [.str i, .str j] => some (.bool (sLt j i), false)
  | _ => none
def apGe : List D → Option (D × Bool)
  | [.int i, .int j] => some (.bool (decide (j ≤ i)), false)
  | [.str i, .str j] => some (.bool (!sLt i j), false)
  | _ => none
theorem o_lt : O2 X (compareOp .Lt) apLt := by
  intro pins s σ H x y v u Q I rx ry h
  obtain ⟨G, a, b, d, fr, sm, ha, hb, e, q⟩ := rBi2 h
  unfold apLt at e
  split at e
  · rename_i i j he
    simp only [List.cons.injEq, and_true] at he
    obtain ⟨rfl, rfl⟩ := he
    cases e
    exact op_lt pins s σ H x y v u Q I rx ry ⟨i, j, ha.int, hb.int, q _ _ _ (.same sm (.bl _))⟩
  · rename_i i j he
    simp only [List.cons.injEq, and_true] at he
    obtain ⟨rfl, rfl⟩ := he
    cases e
    exact op_lt_str pins s σ H x y v u Q I rx ry ⟨i, j, ha.str, hb.str, q _ _ _ (.same sm (.bl _))⟩
  · cases e
theorem o_le : O2 X (compareOp .LtE) apLe := by
  intro pins s σ H x y v u Q I rx ry h
  obtain ⟨G, a, b, d, fr, sm, ha, hb, e, q⟩ := rBi2 h
  unfold apLe at e
  split at e
  · rename_i i j he
    simp only [List.cons.injEq, and_true] at he
    obtain ⟨rfl, rfl⟩ := he
    cases e
    exact op_le pins s σ H x y v u Q I rx ry ⟨i, j, ha.int, hb.int, q _ _ _ (.same sm (.bl _))⟩
  · rename_i i j he
    simp only [List.cons.injEq, and_true] at he
    obtain ⟨rfl, rfl⟩ := he
    cases e
    exact op_le_str pins s σ H x y v u Q I rx ry ⟨i, j, ha.str, hb.str, q _ _ _ (.same sm (.bl _))⟩
  · cases e
theorem o_gt : O2 X (compareOp .Gt) apGt := by
  intro pins s σ H x y v u Q I rx ry h
  obtain ⟨G, a, b, d, fr, sm, ha, hb, e, q⟩ := rBi2 h
  unfold apGt at e
  split at e
  · rename_i i j he
    simp only [List.cons.injEq, and_true] at he
    obtain ⟨rfl, rfl⟩ := he
    cases e
    exact op_gt pins s σ H x y v u Q I rx ry ⟨i, j, ha.int, hb.int, q _ _ _ (.same sm (.bl _))⟩
  · rename_i i j he
    simp only [List.cons.injEq, and_true] at he
    obtain ⟨rfl, rfl⟩ := he
    cases e
    exact op_gt_str pins s σ H x y v u Q I rx ry ⟨i, j, ha.str, hb.str, q _ _ _ (.same sm (.bl _))⟩
  · cases e
theorem o_ge : O2 X (compareOp .GtE) apGe := by
  intro pins s σ H x y v u Q I rx ry h
  obtain ⟨G, a, b, d, fr, sm, ha, hb, e, q⟩ := rBi2 h
  unfold apGe at e
  split at e
  · rename_i i j he
    simp only [List.cons.injEq, and_true] at he
    obtain ⟨rfl, rfl⟩ := he
    cases e
    exact op_ge pins s σ H x y v u Q I rx ry ⟨i, j, ha.int, hb.int, q _ _ _ (.same sm (.bl _))⟩
  · rename_i i j he
    simp only [List.cons.injEq, and_true] at he
    obtain ⟨rfl, rfl⟩ := he
    cases e
    exact op_ge_str pins s σ H x y v u Q I rx ry ⟨i, j, ha.str, hb.str, q _ _ _ (.same sm (.bl _))⟩
  · cases e
/-- is None; is True, is False of a truth -/
def isNone : D → Bool
  | .none => true
  | _ => false
def apIsN : List D → Option (D × Bool)
  | [a] => some (.bool (isNone a), false)
  | _ => none
def apNotN : List D → Option (D × Bool)
  | [a] => some (.bool (!isNone a), false)
  | _ => none
def apIsB (b : Bool) : List D → Option (D × Bool)
  | [.bool a] => some (.bool (decide (a = b)), false)
  | _ => none
def apNotB (b : Bool) : List D → Option (D × Bool)
  | [.bool a] => some (.bool (!decide (a = b)), false)
  | _ => none
theorem Pk.isNone {K : PySem.W.Frag} {G H : Hp} {v : V} {d : D} (h : Pk K G H v d) : decide (v = .non) = isNone d := by
  rcases h with h | ⟨a, rfl, h⟩
  · cases h <;> rfl
  · cases d <;> first | rfl | exact h.elim
theorem o_isN {pins : List (Addr × Obj)} {s : Shared} {σ : St} {H : Hp} {x : V} {v u : Value} {Q : VK} (I : Inv X pins σ H s) (rx : RelV x v) (ry : RelV .non u) (h : rBi X.K apIsN [x] H Q) : wpAny (model X.prog X.w) X.A (compareOp .Is v u) (EP X pins σ Q) X.xe s := by
  obtain ⟨G, a, d, fr, sm, ha, e, q⟩ := rBi1 h
  cases e
  exact op_isN pins s σ H x .non v u Q I rx ry ⟨rfl, by rw [ha.isNone]; exact q _ _ _ (.same sm (.bl _))⟩
theorem o_notN {pins : List (Addr × Obj)} {s : Shared} {σ : St} {H : Hp} {x : V} {v u : Value} {Q : VK} (I : Inv X pins σ H s) (rx : RelV x v) (ry : RelV .non u) (h : rBi X.K apNotN [x] H Q) : wpAny (model X.prog X.w) X.A (compareOp .IsNot v u) (EP X pins σ Q) X.xe s := by
  obtain ⟨G, a, d, fr, sm, ha, e, q⟩ := rBi1 h
  cases e
  exact op_notN pins s σ H x .non v u Q I rx ry ⟨rfl, by rw [ha.isNone]; exact q _ _ _ (.same sm (.bl _))⟩
theorem o_isB {b : Bool} {pins : List (Addr × Obj)} {s : Shared} {σ : St} {H : Hp} {x : V} {v u : Value} {Q : VK} (I : Inv X pins σ H s) (rx : RelV x v) (ry : RelV (.bl b) u) (h : rBi X.K (apIsB b) [x] H Q) : wpAny (model X.prog X.w) X.A (compareOp .Is v u) (EP X pins σ Q) X.xe s := by
  obtain ⟨G, a, d, fr, sm, ha, e, q⟩ := rBi1 h
  unfold apIsB at e
  split at e
  · rename_i i he
    simp only [List.cons.injEq, and_true] at he
    subst he
    cases e
    exact op_isBl pins s σ H x _ v u Q I rx ry ⟨_, _, ha.bl, rfl, q _ _ _ (.same sm (.bl _))⟩
  · cases e
theorem o_notB {b : Bool} {pins : List (Addr × Obj)} {s : Shared} {σ : St} {H : Hp} {x : V} {v u : Value} {Q : VK} (I : Inv X pins σ H s) (rx : RelV x v) (ry : RelV (.bl b) u) (h : rBi X.K (apNotB b) [x] H Q) : wpAny (model X.prog X.w) X.A (compareOp .IsNot v u) (EP X pins σ Q) X.xe s := by
  obtain ⟨G, a, d, fr, sm, ha, e, q⟩ := rBi1 h
  unfold apNotB at e
  split at e
  · rename_i i he
    simp only [List.cons.injEq, and_true] at he
    subst he
    cases e
    exact op_notBl pins s σ H x _ v u Q I rx ry ⟨_, _, ha.bl, rfl, q _ _ _ (.same sm (.bl _))⟩
  · cases e
end
/-! ### in-place operators -/
def apIAdd : List D → Option (D × Bool)
  | [.int i, .int j] => some (.int (i + j), false)
  | [.str i, .str j] => if i.length + j.length ≤ sizeLine then some (.str (i ++ j), false) else none
  | _ => none
def apISub : List D → Option (D × Bool)
  | [.int i, .int j] => some (.int (i - j), false)
  | _ => none
section
variable {X : Cx}
theorem o_iadd : OpR X (inplaceOp .Add) (fun x y H Q => rBi X.K apIAdd [x, y] H Q) := by
  intro pins s σ H x y v u Q I rx ry h
  obtain ⟨G, a, b, d, fr, sm, ha, hb, e, q⟩ := rBi2 h
  unfold apIAdd at e
  split at e
  · rename_i i j he
    simp only [List.cons.injEq, and_true] at he
    obtain ⟨rfl, rfl⟩ := he
    cases e
    exact iop_add pins s σ H x y v u Q I rx ry ⟨i, j, ha.int, hb.int, q _ _ _ (.same sm (.int _))⟩
  · rename_i i j he
    simp only [List.cons.injEq, and_true] at he
    obtain ⟨rfl, rfl⟩ := he
    split at e
    · rename_i hl
      cases e
      exact iop_add_str pins s σ H x y v u Q I rx ry ⟨i, j, ha.str, hb.str, hl, q _ _ _ (.same sm (.str _))⟩
    · cases e
  · cases e
theorem o_isub : OpR X (inplaceOp .Sub) (fun x y H Q => rBi X.K apISub [x, y] H Q) := by
  intro pins s σ H x y v u Q I rx ry h
  obtain ⟨G, a, b, d, fr, sm, ha, hb, e, q⟩ := rBi2 h
  unfold apISub at e
  split at e
  · rename_i i j he
    simp only [List.cons.injEq, and_true] at he
    obtain ⟨rfl, rfl⟩ := he
    cases e
    exact iop_sub pins s σ H x y v u Q I rx ry ⟨i, j, ha.int, hb.int, q _ _ _ (.same sm (.int _))⟩
  · cases e
end
end EV
namespace EV
open PySem PySem.Spec L2
open PyProof.Rows hiding St

/-! ### dicts as data -/
theorem kD_eq {a b : Key} : kD a = kD b ↔ a = b := by
  refine ⟨fun e => ?_, fun e => by rw [e]⟩
  cases a <;> cases b <;> simp only [kD] at e
  · injection e with e; rw [e]
  · cases e
  · cases e
  · injection e with e; rw [e]
theorem kD_of {d : D} (h : isKey d = true) : ∃ k : Key, d = kD k := by
  cases d <;> first | (cases h; done) | skip
  · exact ⟨.inl _, rfl⟩
  · exact ⟨.inr _, rfl⟩
theorem isKey_kD (k : Key) : isKey (kD k) = true := by cases k <;> rfl
section
variable {K : PySem.W.Frag} {G H : Hp} {v : V}
theorem RpK.val : ∀ {kvs : List (Key × V)} {es : List (D × D)} {k : Key}, RpK K G kvs es → (∀ d, valD es (kD k) = some d → ∃ v, valV kvs k = some v ∧ Rp K G v d) ∧ (valD es (kD k) = none → valV kvs k = none)
  | _, _, k, .nil => ⟨fun d h => by simp [valD] at h, fun _ => rfl⟩
  | _, _, k, @RpK.cons _ _ j v r d s p q => by
    obtain ⟨i1, i2⟩ := RpK.val (k := k) q
    by_cases e : j = k
    · subst e
      have h1 : valD ((kD j, d) :: s) (kD j) = some d := by simp [valD]
      refine ⟨fun x hx => ?_, fun h => by rw [h1] at h; cases h⟩
      rw [h1] at hx
      cases hx
      exact ⟨v, valV_pos rfl, p⟩
    · have ne : ¬ kD j = kD k := fun z => e (kD_eq.mp z)
      have h1 : valD ((kD j, d) :: s) (kD k) = valD s (kD k) := by simp [valD, List.find?_cons, ne]
      rw [h1, valV_neg (p := (j, v)) e]
      exact ⟨i1, i2⟩
theorem RpK.append : ∀ {as bs : List (Key × V)} {ds es : List (D × D)}, RpK K G as ds → RpK K G bs es → RpK K G (as ++ bs) (ds ++ es)
  | _, _, _, _, .nil, s => s
  | _, _, _, _, .cons p r, s => .cons p (RpK.append r s)
theorem RpK.any : ∀ {kvs : List (Key × V)} {es : List (D × D)} {k : Key}, RpK K G kvs es → (kvs.any fun p => decide (p.1 = k)) = es.any fun p => decide (p.1 = kD k)
  | _, _, _, .nil => rfl
  | _, _, k, @RpK.cons _ _ j v r d s p q => by
    rw [List.any_cons, List.any_cons, RpK.any (k := k) q]
    exact congrArg (· || _) (decide_eq_decide.mpr kD_eq.symm)
theorem RpK.repl {x : V} {y : D} (h : Rp K G x y) {k : Key} : ∀ {kvs : List (Key × V)} {es : List (D × D)}, RpK K G kvs es → RpK K G (kvs.map fun p => if p.1 = k then (p.1, x) else p) (es.map fun p => if p.1 = kD k then (p.1, y) else p)
  | _, _, .nil => .nil
  | _, _, @RpK.cons _ _ j v r d s p q => by
    rw [List.map_cons, List.map_cons]
    by_cases e : j = k
    · rw [if_pos e, if_pos (kD_eq.mpr e)]
      exact .cons h (RpK.repl h q)
    · rw [if_neg e, if_neg fun z => e (kD_eq.mp z)]
      exact .cons p (RpK.repl h q)
theorem RpK.put {kvs : List (Key × V)} {es : List (D × D)} (r : RpK K G kvs es) (k : Key) {x : V} {y : D} (h : Rp K G x y) : RpK K G (putK kvs k x) (putD es (kD k) y) := by
  unfold putK putD
  rw [r.any]
  split
  · exact r.repl h
  · exact r.append (.cons h .nil)
theorem RpK.length : ∀ {kvs : List (Key × V)} {es : List (D × D)}, RpK K G kvs es → kvs.length = es.length
  | _, _, .nil => rfl
  | _, _, .cons _ r => congrArg (· + 1) (RpK.length r)
theorem RpK.keys : ∀ {kvs : List (Key × V)} {es : List (D × D)}, RpK K G kvs es → es.map (·.1) = kvs.map fun p => kD p.1
  | _, _, .nil => rfl
  | _, _, .cons _ r => by rw [List.map_cons, List.map_cons, RpK.keys r]
/-- a dict, or a marked thing -/
theorem Pk.dct (sm : Same G H) {es : List (D × D)} (h : Pk K G H v (.dict es)) : (∃ a kvs, v = .ref a ∧ H a = some (.dK kvs) ∧ RpK K G kvs es) ∨ ∃ d, es = [(.none, d)] := by
  rcases h with h | ⟨a, rfl, kvs, h1, h2⟩
  · cases h with
    | dct h1 h2 => exact .inl ⟨_, _, rfl, sm _ _ h1, h2⟩
    | scr _ => exact .inr ⟨_, rfl⟩
    | fn _ => exact .inr ⟨_, rfl⟩
  · exact .inl ⟨a, kvs, rfl, h1, h2⟩
theorem valD_mark {d k x : D} (hk : isKey k = true) (h : valD [(.none, d)] k = some x) : False := by
  cases k <;> first | (cases hk; done) | (simp [valD] at h)
end
end EV
namespace EV
open PySem PySem.Spec L2
open PyProof.Rows hiding St

/-! ### repr -/
mutual
/-- data without the script in it -/
def cleanD : D → Bool
  | .none => true
  | .bool _ => true
  | .int _ => true
  | .str _ => true
  | .list ds => cleanDs ds
  | .tuple ds => cleanDs ds
  | .dict es => cleanKs es
def cleanDs : List D → Bool
  | [] => true
  | d :: r => cleanD d && cleanDs r
def cleanKs : List (D × D) → Bool
  | [] => true
  | (.none, _) :: _ => false
  | (_, d) :: r => cleanD d && cleanKs r
end
/-- the program's modules stand in the base heap -/
def SysB (X : Cx) : Prop := ∃ m, X.base.Ns sysModules m
section
variable {X : Cx} {pins : List (Addr × Obj)} {σ : St} {H : Hp} {s : Shared}
theorem sys_no (I : Inv X pins σ H s) (h : SysB X) : H sysModules = none := by
  obtain ⟨m, o, es, ep, e, _⟩ := h
  exact (I.bs _ _ e).2
mutual
theorem Rp.reads (I : Inv X pins σ H s) (sy : SysB X) : ∀ {v : V} {d : D}, Rp X.K H v d → ∀ {u : Value}, RelV v u → cleanD d = true → ∃ as, Reads s.heap u d as ∧ sysModules ∉ as
  | _, _, .non, u, r, _ => by cases r; exact ⟨_, Reads.none, by simp⟩
  | _, _, .bl b, u, r, _ => by cases r; exact ⟨_, Reads.bool b, by simp⟩
  | _, _, .int i, u, r, _ => by obtain ⟨t, rfl⟩ := r; exact ⟨_, Reads.int i t, by simp⟩
  | _, _, .str x, u, r, _ => by obtain ⟨t, rfl⟩ := r; exact ⟨_, Reads.str x t, by simp⟩
  | _, _, @Rp.lst _ _ a xs ds h ha, u, r, c => by
    cases r
    obtain ⟨its, rv, ⟨o, n, ho, hc, _, hd⟩, _⟩ := I.list (SqL.of h)
    obtain ⟨as, q1, q2⟩ := RpA.reads I sy ha rv (by simpa only [cleanD] using c)
    refine ⟨_, Reads.list ho hc hd q1, ?_⟩
    rw [List.mem_cons, not_or]
    refine ⟨fun z => ?_, q2⟩
    have := sys_no I sy
    rw [z, h] at this
    cases this
  | _, _, .tup h ha, u, r, c => by
    cases r
    obtain ⟨its, rv, ⟨o, ho, hc, n, hd⟩, _⟩ := I.tuple h
    obtain ⟨as, q1, q2⟩ := RpA.reads I sy ha rv (by simpa only [cleanD] using c)
    exact ⟨_, Reads.tuple ho hc hd q1, q2⟩
  | _, _, @Rp.dct _ _ a kvs es h hk, u, r, c => by
    cases r
    obtain ⟨_, hs, vs, rel, o, os, ep, e1, e2, e3, _, e4, _⟩ := dk_of I.hok h
    obtain ⟨as, bs, q1, q2, q3, q4⟩ := RpK.reads I sy hk rel e4 (by simpa only [cleanD] using c)
    refine ⟨_, Reads.dict e1 e2.1 e3 q1 q2, ?_⟩
    rw [List.cons_append, List.mem_cons, List.mem_append, not_or, not_or]
    exact ⟨fun z => (beq_eq_false_iff_ne.mp hs) z.symm, q3, q4⟩
  | _, _, .scr h, u, r, c => by simp only [cleanD, cleanKs] at c; cases c
  | _, _, .fn h, u, r, c => by simp only [cleanD, cleanKs] at c; cases c
theorem RpA.reads (I : Inv X pins σ H s) (sy : SysB X) : ∀ {vs : List V} {ds : List D}, RpA X.K H vs ds → ∀ {us : List Value}, Vals vs us → cleanDs ds = true → ∃ as, ReadsAll s.heap us ds as ∧ sysModules ∉ as
  | _, _, .nil, _, r, _ => by cases r; exact ⟨_, ReadsAll.nil, by simp⟩
  | _, _, .cons h hr, _, r, c => by
    cases r with
    | cons r1 r2 =>
      simp only [cleanDs, Bool.and_eq_true] at c
      obtain ⟨as, q1, q2⟩ := Rp.reads I sy h r1 c.1
      obtain ⟨bs, q3, q4⟩ := RpA.reads I sy hr r2 c.2
      refine ⟨_, ReadsAll.cons q1 q3, ?_⟩
      rw [List.mem_append, not_or]
      exact ⟨q2, q4⟩
theorem RpK.reads (I : Inv X pins σ H s) (sy : SysB X) : ∀ {kvs : List (Key × V)} {es : List (D × D)}, RpK X.K H kvs es → ∀ {vs : List (Key × Value)} {os : List DictEntry}, KV kvs vs → Pairs (mixKind X.prog X.w) os vs → cleanKs es = true →
    ∃ as bs, ReadsAll s.heap (os.map (·.key)) (es.map (·.1)) as ∧ ReadsAll s.heap (os.map (·.val)) (es.map (·.2)) bs ∧ sysModules ∉ as ∧ sysModules ∉ bs
  | _, _, .nil, _, _, kv, p, _ => by
    cases kv
    cases p
    exact ⟨_, _, ReadsAll.nil, ReadsAll.nil, by simp, by simp⟩
  | _, _, @RpK.cons _ _ k v r d rs h hr, _, _, kv, p, c => by
    cases kv with
    | cons k1 k2 =>
      obtain ⟨e1, e2⟩ := k1
      cases p with
      | @cons en kv' es' kvs' p1 p2 p3 =>
        have c2 : kD k ≠ .none ∧ cleanD d = true ∧ cleanKs rs = true := by
          cases k with
          | inl i => simp only [kD, cleanKs, Bool.and_eq_true] at c; exact ⟨fun z => (nomatch z), c.1, c.2⟩
          | inr x => simp only [kD, cleanKs, Bool.and_eq_true] at c; exact ⟨fun z => (nomatch z), c.1, c.2⟩
        obtain ⟨as, bs, q1, q2, q3, q4⟩ := RpK.reads I sy hr k2 p3 c2.2.2
        obtain ⟨cs, q5, q6⟩ := Rp.reads I sy h e2 c2.2.1
        have hk : Reads s.heap en.key (kD k) [] := by
          replace e1 : k = _ := e1
          rcases keyIs_shape p1 with ⟨i, t, z1, z2⟩ | ⟨x, t, z1, z2⟩
          · rw [e1, z1, z2]; exact Reads.int i t
          · rw [e1, z1, z2]; exact Reads.str x t
        refine ⟨_, _, ReadsAll.cons hk q1, ReadsAll.cons (show Reads s.heap en.val d cs by rw [p2]; exact q5) q2, by simpa using q3, ?_⟩
        rw [List.mem_append, not_or]
        exact ⟨q6, q4⟩
end
end
def apRepr : List D → Option (D × Bool)
  | [d] => if (cleanD d = true ∧ d.showable = true) ∧ d.depth ≤ 64 ∧ d.shown.length ≤ sizeLine then some (.str d.shown, false) else none
  | _ => none
section
variable {X : Cx}
theorem o_repr (sy : SysB X) (hg : X.A.guards = some []) (hu : X.A.units + 66 < cLine) : CallR X (.builtin "repr") (rBi X.K apRepr) := by
  intro pins s σ H xs us Q I r h
  obtain ⟨G, ds, d, fr, sm, p, e, q⟩ := h
  unfold apRepr at e
  split at e
  · rename_i x0
    split at e
    · rename_i hc
      cases e
      obtain ⟨x, rfl, ha⟩ := vp1 p
      obtain ⟨u, rfl, ru⟩ := vals1 r
      obtain ⟨as, rd, ns⟩ := Rp.reads I sy (ha.rp sm) ru hc.1.1
      have fin := q (.str x0.shown) G H (.same sm (.str _))
      have hz := hc.2.2
      have hs := hc.1.2
      cases rd with
      | none => exact PySem.P.repr_of_none ⟨.str _, H, I.tok _, ⟨_, rfl⟩, fin⟩
      | bool b => exact PySem.P.repr_of_bool ⟨.str _, H, I.tok _, ⟨_, rfl⟩, fin⟩
      | int i t => exact PySem.P.repr_of_int (by simpa [PyData.showable] using hs) ⟨.str _, H, I.tok _, ⟨_, rfl⟩, fin⟩
      | str y t => exact PySem.P.repr_of_str ⟨.str _, H, I.tok _, ⟨_, rfl⟩, fin⟩ hz
      | list h1 h2 h3 h4 => exact repr_of_reads' (Reads.list h1 h2 h3 h4) hs (fun _ => ns) hg (by omega) (fun b o z => z) (fun h' u tk hk => ⟨.str _, H, I.kept hk, ⟨_, rfl⟩, fin⟩) hz
      | tuple h1 h2 h3 h4 => exact repr_of_reads' (Reads.tuple h1 h2 h3 h4) hs (fun _ => ns) hg (by omega) (fun b o z => z) (fun h' u tk hk => ⟨.str _, H, I.kept hk, ⟨_, rfl⟩, fin⟩) hz
      | dict h1 h2 h3 h4 h5 => exact repr_of_reads' (Reads.dict h1 h2 h3 h4 h5) hs (fun _ => ns) hg (by omega) (fun b o z => z) (fun h' u tk hk => ⟨.str _, H, I.kept hk, ⟨_, rfl⟩, fin⟩) hz
    · cases e
  · cases e
end
end EV
namespace EV
open PySem PySem.Spec L2
open PyProof.Rows hiding St

/-! ### the relation through a step -/
section
variable {K : PySem.W.Frag} {am : Amb} {G H G' H' : Hp} {sl : Ss} {σ : St} {v : V} {d : D} {fr : Bool}
theorem RS.grow (r : RS K am G H sl σ) (hh : Same H H') (gg : Same G G') (gh : Same G' H') (nw : ∀ b, G' b ≠ none → G b ≠ none ∨ H b = none) : RS K am G' H' sl σ := by
  refine ⟨gh, r.len, fun i x w e1 e2 => ?_, r.inj, fun p hp => r.fresh p (Same.free hh hp), fun b o e n => hh b o (r.frame b o e n), fun b e => ?_, fun b e => ?_, Same.trans r.g0 gg, r.pin⟩
  · have q := r.rel i x w e1 e2
    cases x with
    | un => trivial
    | val d => obtain ⟨v, h1, h2⟩ := q; exact ⟨v, h1, h2.mono gg⟩
    | own d =>
      obtain ⟨a, h1, h2, h3, h4, h5⟩ := q
      obtain ⟨u, hu, _⟩ := h5.some
      refine ⟨a, h1, ?_, h3, h4, ?_⟩
      · cases q : G' a with
        | none => rfl
        | some z => 
          rcases nw a (by rw [q]; exact fun h => nomatch h) with h | h
          · exact absurd h2 h
          · rw [hu] at h; cases h
      · rw [hh a u hu, ← hu]; exact h5.mono gg
    | bor d =>
      obtain ⟨a, h1, h2, h3, h5⟩ := q
      obtain ⟨u, hu, _⟩ := h5.some
      refine ⟨a, h1, ?_, h3, ?_⟩
      · cases q : G' a with
        | none => rfl
        | some z => 
          rcases nw a (by rw [q]; exact fun h => nomatch h) with h | h
          · exact absurd h2 h
          · rw [hu] at h; cases h
      · rw [hh a u hu, ← hu]; exact h5.mono gg
  · have q := r.dom b e
    cases z : H b with
    | none => exact absurd z q
    | some o => rw [hh b o z]; exact fun h => nomatch h
  · rcases nw b e with h | h
    · exact r.gg b h
    · exact .inr (r.fresh b h).1
theorem RS.mutAt (r : RS K am G H sl σ) {i : Nat} {x : Sl} {a : Addr} (e : sl[i]? = some x) (m : x.mut = true) (h : σ[i]? = some (some (.ref a))) : (∃ u, H a = some u) ∧ G a = none := by
  have q := r.rel i x _ e h
  cases x with
  | un => cases m
  | val d => cases m
  | own d =>
    obtain ⟨b, h1, h2, h3, h4, h5⟩ := q
    cases h1
    obtain ⟨u, hu, _⟩ := h5.some
    exact ⟨⟨u, hu⟩, h2⟩
  | bor d =>
    obtain ⟨b, h1, h2, h3, h5⟩ := q
    cases h1
    obtain ⟨u, hu, _⟩ := h5.some
    exact ⟨⟨u, hu⟩, h2⟩
theorem RS.step (r : RS K am G H sl σ) (s : Step K G H G' H' v d fr) : RS K am G' H' sl σ ∧ Res K am G' H' sl σ v d fr := by
  refine ⟨r.grow s.hh s.gg s.gh s.nw, ?_⟩
  cases fr with
  | false => exact s.res
  | true =>
    obtain ⟨a, h1, h2, h3, h4⟩ := s.res
    refine ⟨a, h1, h3, (r.fresh a h2).1, (r.fresh a h2).2, h4, fun i x e m q => ?_⟩
    obtain ⟨⟨u, hu⟩, _⟩ := r.mutAt e m q
    rw [h2] at hu; cases hu
/-- a changing object is laid still -/
theorem RS.still {a : Addr} {u : HO} (r : RS K am G H sl σ) (hu : H a = some u) (n : G a = none) (hA : am.A a) (nm : ∀ (i : Nat) (x : Sl), sl[i]? = some x → x.mut = true → σ[i]? ≠ some (some (.ref a))) : RS K am (upd G a u) H sl σ := by
  have gg : Same G (upd G a u) := fun b o q => by rw [upd_ne (ne_of_none q n)]; exact q
  have ga : ∀ b, b ≠ a → upd G a u b = G b := fun b h => upd_ne h
  refine ⟨fun b o q => ?_, r.len, fun i x w e1 e2 => ?_, r.inj, r.fresh, r.frame, r.dom, fun b e => ?_, Same.trans r.g0 gg, r.pin⟩
  · by_cases hb : b = a
    · subst hb; rw [upd_same] at q; rw [hu]; exact q
    · rw [upd_ne hb] at q; exact r.sub b o q
  · have q := r.rel i x w e1 e2
    cases x with
    | un => trivial
    | val d => obtain ⟨v, h1, h2⟩ := q; exact ⟨v, h1, h2.mono gg⟩
    | own d =>
      obtain ⟨b, h1, h2, h3, h4, h5⟩ := q
      subst h1
      have hb : b ≠ a := fun z => nm i _ e1 rfl (by rw [e2, z])
      exact ⟨b, rfl, by rw [ga b hb]; exact h2, h3, h4, h5.mono gg⟩
    | bor d =>
      obtain ⟨b, h1, h2, h3, h5⟩ := q
      subst h1
      have hb : b ≠ a := fun z => nm i _ e1 rfl (by rw [e2, z])
      exact ⟨b, rfl, by rw [ga b hb]; exact h2, h3, h5.mono gg⟩
  · by_cases hb : b = a
    · subst hb; exact .inr hA
    · rw [ga b hb] at e; exact r.gg b e
/-- what an expression gave, as a value -/
theorem RS.value (r : RS K am G H sl σ) (h : Res K am G H sl σ v d fr) : ∃ G', RS K am G' H sl σ ∧ Same G G' ∧ Rp K G' v d := by
  cases fr with
  | false => exact ⟨G, r, Same.refl _, h⟩
  | true =>
    obtain ⟨a, rfl, h2, h3, _, h5, h6⟩ := h
    obtain ⟨u, hu, _⟩ := h5.some
    rw [hu] at h5
    obtain ⟨e, p⟩ := h5.freeze h2
    exact ⟨_, r.still hu h2 h3 h6, e, p⟩
/-- a slot's changing object is laid still, the slot is a value from then on -/
theorem RS.share {i : Nat} {d : D} (r : RS K am G H sl σ) (e : sl[i]? = some (.own d)) : ∃ v G', σ[i]? = some (some v) ∧ RS K am G' H (sl.set i (.val d)) σ ∧ Same G G' ∧ Rp K G' v d := by
  have hi : i < sl.length := (List.getElem?_eq_some_iff.mp e).1
  obtain ⟨w, ew⟩ : ∃ w, σ[i]? = some w := ⟨_, List.getElem?_eq_getElem (by rw [← r.len]; exact hi)⟩
  obtain ⟨a, h1, h2, h3, h4, h5⟩ := r.rel i _ w e ew
  subst h1
  obtain ⟨u, hu, _⟩ := h5.some
  rw [hu] at h5
  obtain ⟨gg, p⟩ := h5.freeze h2
  have ne : ∀ (j : Nat) (x : Sl), (sl.set i (.val d))[j]? = some x → x.mut = true → j ≠ i ∧ sl[j]? = some x := fun j x q m => by
    by_cases hj : j = i
    · subst hj
      rw [List.getElem?_set_self hi] at q
      cases q; cases m
    · rw [List.getElem?_set_ne (Ne.symm hj)] at q
      exact ⟨hj, q⟩
  have r1 : RS K am G H (sl.set i .un) σ := by
    refine ⟨r.sub, by rw [List.length_set]; exact r.len, fun j x w e1 e2 => ?_, fun j k x y b e1 e2 m1 m2 => ?_, r.fresh, r.frame, r.dom, r.gg, r.g0, fun p hp => ?_⟩
    · by_cases hj : j = i
      · subst hj
        rw [List.getElem?_set_self hi] at e1
        cases e1; trivial
      · rw [List.getElem?_set_ne (Ne.symm hj)] at e1
        exact r.rel j x w e1 e2
    · have f1 : sl[j]? = some x := by
        by_cases hj : j = i
        · subst hj; rw [List.getElem?_set_self hi] at e1; cases e1; cases m1
        · rw [List.getElem?_set_ne (Ne.symm hj)] at e1; exact e1
      have f2 : sl[k]? = some y := by
        by_cases hj : k = i
        · subst hj; rw [List.getElem?_set_self hi] at e2; cases e2; cases m2
        · rw [List.getElem?_set_ne (Ne.symm hj)] at e2; exact e2
      exact r.inj j k x y b f1 f2 m1 m2
    · obtain ⟨q1, d', q2⟩ := r.pin p hp
      refine ⟨q1, d', ?_⟩
      have : i ≠ p.1 := fun z => by rw [← z, e] at q2; cases q2
      rw [List.getElem?_set_ne this]
      exact q2
  have r2 := r1.still (a := a) (u := u) hu h2 h3 (fun j x q m z => by
    by_cases hj : j = i
    · subst hj; rw [List.getElem?_set_self hi] at q; cases q; cases m
    · rw [List.getElem?_set_ne (Ne.symm hj)] at q
      exact hj (r.inj j i x _ a q e m rfl z ew))
  refine ⟨_, _, ew, ⟨r2.sub, by rw [List.length_set]; exact r.len, fun j x w e1 e2 => ?_, fun j k x y b e1 e2 m1 m2 => ?_, r2.fresh, r2.frame, r2.dom, r2.gg, r2.g0, fun q hq => ?_⟩, gg, p⟩
  · by_cases hj : j = i
    · subst hj
      rw [List.getElem?_set_self hi] at e1
      cases e1
      rw [ew] at e2; cases e2
      exact ⟨_, rfl, p⟩
    · have e1' : (sl.set i .un)[j]? = some x := by rw [List.getElem?_set_ne (Ne.symm hj)] at e1 ⊢; exact e1
      exact r2.rel j x w e1' e2
  · exact r.inj j k x y b (ne j x e1 m1).2 (ne k y e2 m2).2 m1 m2
  · obtain ⟨q1, d', q2⟩ := r.pin q hq
    refine ⟨q1, d', ?_⟩
    have : i ≠ q.1 := fun z => by rw [← z, e] at q2; cases q2
    rw [List.getElem?_set_ne this]
    exact q2
end
end EV
namespace EV
open PySem PySem.Spec L2
open PyProof.Rows hiding St

/-! ### readings by the evaluator -/
section
variable (K : PySem.W.Frag) (ap : ApB) (C : CallT) (am : Amb)
def rdE (c : Ex) : TE := fun σ H Q => ∃ G sl d fr sl', RS K am G H sl σ ∧ evE ap C c sl = some (d, fr, sl') ∧
  ∀ v G' H', RS K am G' H' sl' σ → Same G G' → Res K am G' H' sl' σ v d fr → Q v H'
/-- as a value -/
def rdV (c : Ex) : TE := fun σ H Q => ∃ G sl d fr sl', RS K am G H sl σ ∧ evE ap C c sl = some (d, fr, sl') ∧
  ∀ v G' H', RS K am G' H' sl' σ → Same G G' → Rp K G' v d → Q v H'
def OdOk (σ : St) (G : Hp) (v : V) : Opd → Prop
  | .d x => Rp K G v x
  | .s i => σ[i]? = some (some v)
inductive OdsOk (σ : St) (G : Hp) : List V → List Opd → Prop
  | nil : OdsOk σ G [] []
  | cons {v : V} {vs : List V} {o : Opd} {os : List Opd} : OdOk K σ G v o → OdsOk σ G vs os → OdsOk σ G (v :: vs) (o :: os)
/-- one operand -/
def evO (c : Ex) (sl : Ss) : Option (Opd × Ss) := match evOs ap C (.cons c .nil) sl with
  | some ([o], sl) => some (o, sl)
  | _ => none
def rdO (c : Ex) : TE := fun σ H Q => ∃ G sl o sl', RS K am G H sl σ ∧ evO ap C c sl = some (o, sl') ∧
  ∀ v G' H', RS K am G' H' sl' σ → Same G G' → OdOk K σ G' v o → Q v H'
def rdOs (cs : Exs) : TA := fun σ H Q => ∃ G sl os sl', RS K am G H sl σ ∧ evOs ap C cs sl = some (os, sl') ∧
  ∀ vs G' H', RS K am G' H' sl' σ → Same G G' → OdsOk K σ G' vs os → Q vs H'
def rdEs (cs : Exs) : TA := fun σ H Q => ∃ G sl ds sl', RS K am G H sl σ ∧ evEs ap C cs sl = some (ds, sl') ∧
  ∀ vs G' H', RS K am G' H' sl' σ → Same G G' → RpA K G' vs ds → Q vs H'
def rdT (c : Te) : TT := fun σ H Q => ∃ G sl b sl', RS K am G H sl σ ∧ evT ap C c sl = some (b, sl') ∧
  ∀ G' H', RS K am G' H' sl' σ → Same G G' → Q b H'
end

section
variable {K : PySem.W.Frag} {ap : ApB} {C : CallT} {am : Amb} {σ : St} {G G' H : Hp} {sl : Ss}
theorem OdOk.mono (e : Same G G') {v : V} : ∀ {o : Opd}, OdOk K σ G v o → OdOk K σ G' v o
  | .d _, h => Rp.mono e h
  | .s _, h => h
theorem OdsOk.mono (e : Same G G') {vs : List V} {os : List Opd} (h : OdsOk K σ G vs os) : OdsOk K σ G' vs os := by
  induction h with
  | nil => exact .nil
  | cons h _ ih => exact .cons (h.mono e) ih
theorem RS.deref (r : RS K am G H sl σ) {v : V} {o : Opd} {d : D} (h : OdOk K σ G v o) (e : deref sl o = some d) : Pk K G H v d := by
  cases o with
  | d x =>
    cases e
    exact .inl h
  | s i =>
    have h : σ[i]? = some (some v) := h
    simp only [EV.deref] at e
    split at e
    · cases e
      obtain ⟨w, h1, h2⟩ := r.rel i _ _ ‹_› h
      cases h1
      exact .inl h2
    · cases e
      obtain ⟨a, h1, h2, h3, h4, h5⟩ := r.rel i _ _ ‹_› h
      cases h1
      exact .inr ⟨a, rfl, h5⟩
    · cases e
      obtain ⟨a, h1, h2, h3, h5⟩ := r.rel i _ _ ‹_› h
      cases h1
      exact .inr ⟨a, rfl, h5⟩
    · cases e
theorem RS.derefs (r : RS K am G H sl σ) {vs : List V} {os : List Opd} (h : OdsOk K σ G vs os) : ∀ {ds : List D}, EV.derefs sl os = some ds → Pks K G H vs ds := by
  induction h with
  | nil =>
    intro ds e
    cases e
    exact .nil
  | cons h _ ih =>
    intro ds e
    unfold EV.derefs at e
    split at e
    · cases e
      exact .cons (r.deref h ‹_›) (ih ‹_›)
    · cases e
end

section
variable {X : Cx} {ap : ApB} {C : CallT} {am : Amb}
theorem pe_weak {e : Expr} {t t' : TE} (h : PE X e t) (w : ∀ σ H Q, t' σ H Q → t σ H Q) : PE X e t' := ⟨fun pins s σ H Q I q => h.run pins s σ H Q I (w σ H Q q)⟩
theorem pt_weak {e : Expr} {t t' : TT} (h : PT X e t) (w : ∀ σ H Q, t' σ H Q → t σ H Q) : PT X e t' := ⟨fun pins s σ H Q I q => h.run pins s σ H Q I (w σ H Q q)⟩
theorem pa_weak {e : List Expr} {t t' : TA} (h : PA X e t) (w : ∀ σ H Q, t' σ H Q → t σ H Q) : PA X e t' := ⟨fun pos pins s σ H Q I q => h.run pos pins s σ H Q I (w σ H Q q)⟩
theorem ps_weak {e : Stmt} {t t' : TS} (h : PS X e t) (w : ∀ D σ H, t' D σ H → t D σ H) : PS X e t' := ⟨fun pins s σ H Q I q => h.run pins s σ H Q I (w Q σ H q)⟩
theorem pss_weak {e : List Stmt} {t t' : TS} (h : PSs X e t) (w : ∀ D σ H, t' D σ H → t D σ H) : PSs X e t' := ⟨fun pins s σ H Q I q => h.run pins s σ H Q I (w Q σ H q)⟩

/-- an expression is what the evaluator says, whatever surrounds -/
abbrev EE (X : Cx) (ap : ApB) (C : CallT) (c : Ex) (e : Expr) : Prop := ∀ am, PE X e (rdE X.K ap C am c)
abbrev EO (X : Cx) (ap : ApB) (C : CallT) (c : Ex) (e : Expr) : Prop := ∀ am, PE X e (rdO X.K ap C am c)
theorem EE.val {c : Ex} {e : Expr} (h : EE X ap C c e) : PE X e (rdV X.K ap C am c) := pe_weak (h am) fun σ H Q q => by
  obtain ⟨G, sl, d, fr, sl', r, e, q⟩ := q
  refine ⟨G, sl, d, fr, sl', r, e, fun v G' H' r' g rs => ?_⟩
  obtain ⟨G2, r2, g2, p⟩ := r'.value rs
  exact q v G2 H' r2 (Same.trans g g2) p

/-! ### names, constants -/
theorem ee_k {d : D} {e : Expr} {v : V} (h : PE X e (tC v)) (hv : ∀ K G, Rp K G v d) : EE X ap C (.k d) e := fun am => pe_weak h fun σ H Q q => by
  obtain ⟨G, sl, d', fr, sl', r, e, q⟩ := q
  simp only [evE, Option.some.injEq, Prod.mk.injEq] at e
  obtain ⟨rfl, rfl, rfl⟩ := e
  exact q v G H r (Same.refl _) (hv _ _)
theorem ee_gl {d : D} {x : Str} {e : Expr} {v : V} (h : PE X e (tC v)) (hv : ∀ G, Rp X.K G v d) : EE X ap C (.gl x d) e := fun am => pe_weak h fun σ H Q q => by
  obtain ⟨G, sl, d', fr, sl', r, e, q⟩ := q
  simp only [evE, Option.some.injEq, Prod.mk.injEq] at e
  obtain ⟨rfl, rfl, rfl⟩ := e
  exact q v G H r (Same.refl _) (hv _)
theorem ee_v {i : Nat} {e : Expr} (h : PE X e (tVar i)) : EE X ap C (.v i) e := fun am => pe_weak h fun σ H Q q => by
  obtain ⟨G, sl, d, fr, sl', r, e, q⟩ := q
  simp only [evE] at e
  split at e
  · rename_i x hx
    cases e
    have hi : i < sl.length := (List.getElem?_eq_some_iff.mp hx).1
    have ew := List.getElem?_eq_getElem (l := σ) (i := i) (by rw [← r.len]; exact hi)
    obtain ⟨v, h1, h2⟩ := r.rel i _ _ hx ew
    rw [h1] at ew
    exact ⟨v, ew, q v G H r (Same.refl _) h2⟩
  · rename_i x hx
    cases e
    obtain ⟨v, G', h1, h2, h3, h4⟩ := r.share hx
    exact ⟨v, h1, q v G' H h2 h3 h4⟩
  · cases e
/-- a name as an operand -/
theorem evO_v {i : Nat} {sl : Ss} : evO ap C (.v i) sl = (opdV sl i).map fun o => (o, sl) := by
  unfold evO
  simp only [evOs]
  cases h : opdV sl i with
  | none => rfl
  | some o => rfl
theorem eo_v {i : Nat} {e : Expr} (h : PE X e (tVar i)) : EO X ap C (.v i) e := fun am => pe_weak h fun σ H Q q => by
  obtain ⟨G, sl, o, sl', r, e, q⟩ := q
  rw [evO_v] at e
  unfold opdV at e
  have get : ∀ x, sl[i]? = some x → ∃ w, σ[i]? = some w := fun x hx =>
    ⟨_, List.getElem?_eq_getElem (l := σ) (i := i) (by rw [← r.len]; exact (List.getElem?_eq_some_iff.mp hx).1)⟩
  split at e
  · rename_i x hx
    cases e
    obtain ⟨w, ew⟩ := get _ hx
    obtain ⟨v, h1, h2⟩ := r.rel i _ _ hx ew
    subst h1
    exact ⟨v, ew, q v G H r (Same.refl _) h2⟩
  · rename_i x hx
    cases e
    obtain ⟨w, ew⟩ := get _ hx
    obtain ⟨a, h1, h2⟩ := r.rel i _ _ hx ew
    subst h1
    exact ⟨.ref a, ew, q _ G H r (Same.refl _) ew⟩
  · rename_i x hx
    cases e
    obtain ⟨w, ew⟩ := get _ hx
    obtain ⟨a, h1, h2⟩ := r.rel i _ _ hx ew
    subst h1
    exact ⟨.ref a, ew, q _ G H r (Same.refl _) ew⟩
  · cases e
/-- what is no name -/
def Ex.isV : Ex → Bool
  | .v _ => true
  | _ => false
theorem evOs_e {c : Ex} {r : Exs} {sl : Ss} (h : c.isV = false) : evOs ap C (.cons c r) sl = (match evE ap C c sl with
    | some (d, _, sl) => match evOs ap C r sl with
      | some (os, sl) => some (.d d :: os, sl)
      | none => none
    | none => none) := by
  cases c with
  | v i => cases h
  | _ => simp only [evOs] <;> rfl
theorem evO_e {c : Ex} {sl : Ss} (h : c.isV = false) : evO ap C c sl = (evE ap C c sl).map fun p => (.d p.1, p.2.2) := by
  unfold evO
  rw [evOs_e h]
  cases e : evE ap C c sl with
  | none => rfl
  | some p => 
    obtain ⟨d, fr, sl'⟩ := p
    simp only [evOs]
    rfl
theorem EE.opd {c : Ex} {e : Expr} (h : EE X ap C c e) (n : c.isV = false) : EO X ap C c e := fun am => pe_weak (h.val (am := am)) fun σ H Q q => by
  obtain ⟨G, sl, o, sl', r, e, q⟩ := q
  rw [evO_e n] at e
  cases e' : evE ap C c sl with
  | none => rw [e'] at e; cases e
  | some p =>
    obtain ⟨d, fr, sl2⟩ := p
    rw [e'] at e
    cases e
    exact ⟨G, sl, d, fr, _, r, e', fun v G' H' r' g p => q v G' H' r' g p⟩
theorem evOs_cons {c : Ex} {cs : Exs} {sl : Ss} : evOs ap C (.cons c cs) sl = (match evO ap C c sl with
    | some (o, sl) => match evOs ap C cs sl with
      | some (os, sl) => some (o :: os, sl)
      | none => none
    | none => none) := by
  cases hc : c.isV with
  | true =>
    cases c with
    | v i => 
      rw [evO_v]
      simp only [evOs]
      cases opdV sl i <;> rfl
    | _ => cases hc
  | false =>
    rw [evOs_e hc, evO_e hc]
    cases evE ap C c sl <;> rfl

/-! ### operations -/
theorem RS.bi {K : PySem.W.Frag} {σ : St} {G G1 H : Hp} {sl : Ss} {vs : List V} {os : List Opd} {ds : List D} {d : D} {fr : Bool} {g : List D → Option (D × Bool)} {Q : VK} (r : RS K am G H sl σ) (o : OdsOk K σ G vs os) (e1 : EV.derefs sl os = some ds) (e2 : g ds = some (d, fr))
    (gg : Same G1 G) (q : ∀ v G' H', RS K am G' H' sl σ → Same G1 G' → Res K am G' H' sl σ v d fr → Q v H') : rBi K g vs H Q :=
  ⟨G, ds, d, fr, r.sub, r.derefs o e1, e2, fun v G' H' st => 
    let ⟨r', rs⟩ := r.step st
    q v G' H' r' (Same.trans gg st.gg) rs⟩
theorem ee_bi2 {f : Bi} {ca cb : Ex} {a b : Expr} {op : Operator} {pos : Pos} (o : O2 X (binaryOp op) (ap f)) (ha : EO X ap C ca a) (hb : EO X ap C cb b) : EE X ap C (.bi f (.cons ca (.cons cb .nil))) (.BinOp a op b pos) := fun am =>
  pe_weak (pe_op o (ha am) (hb am)) fun σ H Q q => by
    obtain ⟨G, sl, d, fr, sl', r, e, q⟩ := q
    simp only [evE] at e
    rw [evOs_cons] at e
    split at e
    · rename_i os sl2 e0
      split at e
      · rename_i ds e1
        split at e
        · rename_i d' fr' e2
          cases e
          cases e3 : evO ap C ca sl with
          | none => rw [e3] at e0; cases e0
          | some p =>
            obtain ⟨oa, sla⟩ := p
            rw [e3] at e0
            simp only at e0
            rw [evOs_cons] at e0
            cases e4 : evO ap C cb sla with
            | none => rw [e4] at e0; cases e0
            | some p =>
              obtain ⟨ob, slb⟩ := p
              rw [e4] at e0
              simp only [evOs] at e0
              cases e0
              refine ⟨G, sl, oa, sla, r, e3, fun x G1 H1 r1 g1 o1 => ⟨G1, sla, ob, _, r1, e4, fun y G2 H2 r2 g2 o2 => ?_⟩⟩
              exact r2.bi (.cons (o1.mono g2) (.cons o2 .nil)) e1 e2 (Same.trans g1 g2) q
        · cases e
      · cases e
    · cases e
end
end EV
namespace EV
open PySem PySem.Spec L2
open PyProof.Rows hiding St

/-! ### lists of expressions -/
def noStar : Expr → Bool
  | .Starred _ _ => false
  | _ => true
theorem star_cons {e : Expr} {es : List Expr} {env : Env} (h : noStar e = true) : starEach (e :: es) env = (false, eval e env) :: starEach es env := by
  cases e <;> first | rfl | cases h
theorem star_plain {pos : Pos} {env : Env} : ∀ {es : List Expr}, es.all noStar = true → (backTo pos (starEach es env)).any (·.1) = false
  | [], _ => rfl
  | e :: es, h => by
    rw [List.all_cons, Bool.and_eq_true] at h
    rw [star_cons h.1]
    have ih := star_plain (pos := pos) (env := env) h.2
    show (false || (backTo pos (starEach es env)).any (·.1)) = false
    rw [ih]
    rfl
section
variable {X : Cx} {ap : ApB} {C : CallT} {am : Amb}
theorem pa_os_nil : PA X [] (rdOs X.K ap C am .nil) := pa_weak pa_nil fun σ H Q q => by
  obtain ⟨G, sl, os, sl', r, e, q⟩ := q
  simp only [evOs] at e
  cases e
  exact q [] G H r (Same.refl _) .nil
theorem pa_os_cons {c : Ex} {cs : Exs} {e : Expr} {es : List Expr} (he : EO X ap C c e) (hs : PA X es (rdOs X.K ap C am cs)) (n : noStar e = true) : PA X (e :: es) (rdOs X.K ap C am (.cons c cs)) :=
  pa_weak (pa_cons (he am) hs (star_cons n)) fun σ H Q q => by
    obtain ⟨G, sl, os, sl', r, e, q⟩ := q
    rw [evOs_cons] at e
    split at e
    · rename_i o sl1 e1
      split at e
      · rename_i os' sl2 e2
        cases e
        exact ⟨G, sl, o, sl1, r, e1, fun x G1 H1 r1 g1 o1 => ⟨G1, sl1, os', _, r1, e2, fun xs G2 H2 r2 g2 o2 => q _ G2 H2 r2 (Same.trans g1 g2) (.cons (o1.mono g2) o2)⟩⟩
      · cases e
    · cases e
theorem pa_es_nil : PA X [] (rdEs X.K ap C am .nil) := pa_weak pa_nil fun σ H Q q => by
  obtain ⟨G, sl, os, sl', r, e, q⟩ := q
  simp only [evEs] at e
  cases e
  exact q [] G H r (Same.refl _) .nil
theorem pa_es_cons {c : Ex} {cs : Exs} {e : Expr} {es : List Expr} (he : EE X ap C c e) (hs : PA X es (rdEs X.K ap C am cs)) (n : noStar e = true) : PA X (e :: es) (rdEs X.K ap C am (.cons c cs)) :=
  pa_weak (pa_cons (he.val (am := am)) hs (star_cons n)) fun σ H Q q => by
    obtain ⟨G, sl, os, sl', r, e, q⟩ := q
    simp only [evEs] at e
    split at e
    · rename_i d fr sl1 e1
      split at e
      · rename_i os' sl2 e2
        cases e
        exact ⟨G, sl, d, fr, sl1, r, e1, fun x G1 H1 r1 g1 o1 => ⟨G1, sl1, os', _, r1, e2, fun xs G2 H2 r2 g2 o2 => q _ G2 H2 r2 (Same.trans g1 g2) (.cons (o1.mono g2) o2)⟩⟩
      · cases e
    · cases e

/-! ### operations by a call -/
theorem bi_split {f : Bi} {cs : Exs} {sl sl' : Ss} {d : D} {fr : Bool} (e : evE ap C (.bi f cs) sl = some (d, fr, sl')) : ∃ os ds, evOs ap C cs sl = some (os, sl') ∧ derefs sl' os = some ds ∧ ap f ds = some (d, fr) := by
  simp only [evE] at e
  split at e
  · split at e
    · split at e
      · cases e
        exact ⟨_, _, ‹_›, ‹_›, ‹_›⟩
      · cases e
    · cases e
  · cases e
/-- from the reading of a list of operands -/
theorem ee_bi {f : Bi} {cs : Exs} {e : Expr} {t : TA} {r : List V → Hp → VK → Prop} (h : PE X e (tCB r t)) (ht : ∀ am σ H Q, rdOs X.K ap C am cs σ H Q → t σ H Q) (hr : ∀ vs H Q, rBi X.K (ap f) vs H Q → r vs H Q) : EE X ap C (.bi f cs) e := fun am =>
  pe_weak h fun σ H Q q => by
    obtain ⟨G, sl, d, fr, sl', r0, e, q⟩ := q
    obtain ⟨os, ds, e1, e2, e3⟩ := bi_split e
    exact ht am _ _ _ ⟨G, sl, os, sl', r0, e1, fun vs G' H' r' g o => hr _ _ _ (r'.bi o e2 e3 g q)⟩
abbrev ON (X : Cx) (f : Value) (g : List D → Option (D × Bool)) : Prop := CallR X f (rBi X.K g)
theorem ee_callB {f : Bi} {id : String} {x : Str} {c : Ex} {cs : Exs} {e : Expr} {es : List Expr} {p pos : Pos} (o : ON X (.builtin id) (ap f)) (hg : Gl X x) (hm : X.mg x = none) (hv : bootBuiltins x = some (.builtin id))
    (ha : ∀ am, PA X (e :: es) (rdOs X.K ap C am (.cons c cs))) (hs : (e :: es).all noStar = true) (hn : x ≠ "__name__") (hdb : (x == ("__debug__" : Str)) = false) : EE X ap C (.bi f (.cons c cs)) (.Call (.Name x p) (e :: es) [] pos) := fun am => by
  rw [List.all_cons, Bool.and_eq_true] at hs
  exact pe_weak (pe_callB o hg hm hv (ha am) hn hdb (star_cons hs.1) (star_plain hs.2)) fun σ H Q q => by
    obtain ⟨G, sl, d, fr, sl', r0, e, q⟩ := q
    obtain ⟨os, ds, e1, e2, e3⟩ := bi_split e
    exact ⟨G, sl, os, sl', r0, e1, fun vs G' H' r' g o => (r'.bi o e2 e3 g q)⟩
theorem ee_callTy {f : Bi} {T : String} {x : Str} {c : Ex} {cs : Exs} {e : Expr} {es : List Expr} {p pos : Pos} (o : ON X (.type T) (ap f)) (hg : Gl X x) (hm : X.mg x = none) (hv : bootBuiltins x = some (.type T))
    (ha : ∀ am, PA X (e :: es) (rdOs X.K ap C am (.cons c cs))) (hs : (e :: es).all noStar = true) (hn : x ≠ "__name__") (hdb : (x == ("__debug__" : Str)) = false) : EE X ap C (.bi f (.cons c cs)) (.Call (.Name x p) (e :: es) [] pos) := fun am => by
  rw [List.all_cons, Bool.and_eq_true] at hs
  exact pe_weak (pe_callTy o hg hm hv (ha am) hn hdb (star_cons hs.1) (star_plain hs.2)) fun σ H Q q => by
    obtain ⟨G, sl, d, fr, sl', r0, e, q⟩ := q
    obtain ⟨os, ds, e1, e2, e3⟩ := bi_split e
    exact ⟨G, sl, os, sl', r0, e1, fun vs G' H' r' g o => (r'.bi o e2 e3 g q)⟩
/-- two operands, one after the other -/
theorem rd2 {ca cb : Ex} {a b : Expr} {r : R2} {f : Bi} {e : Expr} (ta tb : TE) (h : PE X e (tOp r ta tb)) (ha : ∀ σ H Q, rdO X.K ap C am ca σ H Q → ta σ H Q) (hb : ∀ σ H Q, rdO X.K ap C am cb σ H Q → tb σ H Q) (hr : ∀ x y H Q, rBi X.K (ap f) [x, y] H Q → r x y H Q) :
    PE X e (rdE X.K ap C am (.bi f (.cons ca (.cons cb .nil)))) := pe_weak h fun σ H Q q => by
  obtain ⟨G, sl, d, fr, sl', r, e, q⟩ := q
  obtain ⟨os, ds, e0, e1, e2⟩ := bi_split e
  rw [evOs_cons] at e0
  split at e0
  · rename_i oa sla e3
    rw [evOs_cons] at e0
    split at e0
    · rename_i e5
      split at e5
      · rename_i ob slb e4
        simp only [evOs] at e5
        cases e5
        cases e0
        refine ha _ _ _ ⟨G, sl, oa, sla, r, e3, fun x G1 H1 r1 g1 o1 => hb _ _ _ ⟨G1, sla, ob, _, r1, e4, fun y G2 H2 r2 g2 o2 => hr _ _ _ _ ?_⟩⟩
        exact r2.bi (.cons (o1.mono g2) (.cons o2 .nil)) e1 e2 (Same.trans g1 g2) q
      · cases e5
    · cases e0
  · cases e0
theorem ee_cmp {f : Bi} {ca cb : Ex} {a b : Expr} {op : CmpOp} {pos : Pos} (o : O2 X (compareOp op) (ap f)) (ha : EO X ap C ca a) (hb : EO X ap C cb b) (hm : behindInMarks op b = false) : EE X ap C (.bi f (.cons ca (.cons cb .nil))) (.Compare a [op] [b] pos) := fun am =>
  rd2 (a := a) (b := b) _ _ (pe_cmpR o (ha am) (hb am) hm) (fun _ _ _ q => q) (fun _ _ _ q => q) fun _ _ _ _ q => q
theorem rd1 {ca : Ex} {r : V → Hp → VK → Prop} {f : Bi} {e : Expr} (h : PE X e (tUn r (rdO X.K ap C am ca))) (hr : ∀ x H Q, rBi X.K (ap f) [x] H Q → r x H Q) :
    PE X e (rdE X.K ap C am (.bi f (.cons ca .nil))) := pe_weak h fun σ H Q q => by
  obtain ⟨G, sl, d, fr, sl', r, e, q⟩ := q
  obtain ⟨os, ds, e0, e1, e2⟩ := bi_split e
  rw [evOs_cons] at e0
  split at e0
  · rename_i oa sla e3
    simp only [evOs] at e0
    cases e0
    refine ⟨G, sl, oa, _, r, e3, fun x G1 H1 r1 g1 o1 => hr _ _ _ ?_⟩
    exact r1.bi (.cons o1 .nil) e1 e2 g1 q
  · cases e0
theorem ee_un {f : Bi} {ca : Ex} {a : Expr} {op : UnaryOp} {pos : Pos} (o : UnR X (unaryOp op) (fun x H Q => rBi X.K (ap f) [x] H Q)) (ha : EO X ap C ca a) : EE X ap C (.bi f (.cons ca .nil)) (.UnaryOp op a pos) := fun am =>
  rd1 (pe_un o (ha am)) fun _ _ _ q => q
theorem ee_item {f : Bi} {ca cb : Ex} {a b : Expr} {pos : Pos} (o : IxR X (fun x y H Q => rBi X.K (ap f) [x, y] H Q)) (ha : EO X ap C ca a) (hb : EO X ap C cb b) (hp : PlainIx b) : EE X ap C (.bi f (.cons ca (.cons cb .nil))) (.Subscript a b pos) := fun am =>
  rd2 (a := a) (b := b) _ _ (pe_ix o (ha am) (hb am) hp) (fun _ _ _ q => q) (fun _ _ _ q => q) fun _ _ _ _ q => q

/-! ### displays -/
def Exs.len : Exs → Nat
  | .nil => 0
  | .cons _ r => Exs.len r + 1
theorem evEs_len : ∀ {cs : Exs} {sl sl' : Ss} {ds : List D}, evEs ap C cs sl = some (ds, sl') → ds.length = cs.len
  | .nil, _, _, _, e => by
    simp only [evEs] at e
    cases e
    rfl
  | .cons c cs, _, _, _, e => by
    simp only [evEs] at e
    split at e
    · split at e
      · rename_i h
        cases e
        have ih := evEs_len h
        show _ + 1 = _ + 1
        rw [ih]
      · cases e
    · cases e
theorem ee_tup {cs : Exs} {es : List Expr} {k : Nat} {pos : Pos} (h : ∀ am, PA X es (rdEs X.K ap C am cs)) (hl : cs.len ≤ 1000) : EE X ap C (.tup cs) (.Tuple es k pos) := fun am =>
  pe_weak (pe_tup (h am)) fun σ H Q q => by
    obtain ⟨G, sl, d, fr, sl', r, e, q⟩ := q
    simp only [evE] at e
    split at e
    · rename_i ds sl2 e1
      cases e
      refine ⟨G, sl, ds, _, r, e1, fun vs G1 H1 r1 g1 o => ⟨?_, fun p hp => ?_⟩⟩
      · rw [o.length, evEs_len e1]
        exact Nat.le_trans hl (by decide)
      · obtain ⟨r2, rs⟩ := r1.step (Step.tup r1.sub hp o)
        exact q _ _ _ r2 (Same.trans g1 (fun b o q => by rw [upd_ne (ne_of_none q (Same.free r1.sub hp))]; exact q)) rs
    · cases e
theorem ee_lst {cs : Exs} {es : List Expr} {pos : Pos} (h : ∀ am, PA X es (rdEs X.K ap C am cs)) (hl : cs.len ≤ 1000) : EE X ap C (.lst cs) (.List es pos) := fun am =>
  pe_weak (pe_lst (h am)) fun σ H Q q => by
    obtain ⟨G, sl, d, fr, sl', r, e, q⟩ := q
    simp only [evE] at e
    split at e
    · rename_i ds sl2 e1
      cases e
      refine ⟨G, sl, ds, _, r, e1, fun vs G1 H1 r1 g1 o => ⟨?_, fun p hp => ?_⟩⟩
      · rw [o.length, evEs_len e1]
        exact Nat.le_trans hl (by decide)
      · obtain ⟨r2, rs⟩ := r1.step (Step.lst r1.sub hp o)
        exact q _ _ _ r2 g1 rs
    · cases e

/-! ### tests -/
abbrev ET (X : Cx) (ap : ApB) (C : CallT) (c : Te) (e : Expr) : Prop := ∀ am, PT X e (rdT X.K ap C am c)
theorem RS.tru {K : PySem.W.Frag} {σ : St} {G H : Hp} {sl : Ss} {v : V} {d : D} {b : Bool} (r : RS K am G H sl σ) (p : Pk K G H v d) (e : tr d = some b) : TruV K v H b := by
  have s := r.sub
  cases d with
  | none => have := p.non; subst this; cases e; rfl
  | bool c => have := p.bl; subst this; cases e; rfl
  | int i => have := p.int; subst this; cases e; rfl
  | str x =>
    have := p.str; subst this
    simp only [tr] at e
    split at e
    · rename_i h
      cases e
      refine ⟨h, ?_⟩
      rw [Bool.eq_iff_iff, bne_iff_ne, bne_iff_ne]
      omega
    · cases e
  | list ds =>
    obtain ⟨a, xs, rfl, h1, h2⟩ := p.lst s
    cases e
    refine .inl ⟨xs, SqL.of h1, ?_⟩
    cases h2 <;> rfl
  | tuple ds =>
    obtain ⟨a, xs, rfl, h1, h2⟩ := p.tup
    cases e
    refine .inr (.inl ⟨xs, Same.seqT s h1, ?_⟩)
    cases h2 <;> rfl
  | dict es =>
    have q := p.rp s
    cases q with
    | dct h1 h2 => 
      refine .inr (.inr ⟨_, h1, ?_⟩)
      cases h2 with
      | nil => cases e; rfl
      | cons h3 h4 =>
        rename_i k _ _ _ _
        cases k <;> (cases e; rfl)
    | scr h => cases e
    | fn h => cases e
theorem tr_bool {b : Bool} : tr (.bool b) = some b := rfl
/-- which tests are plain: the value is taken, then its truth -/
def plainTest : Expr → Bool
  | .UnaryOp .Not _ _ => false
  | .BoolOp _ _ _ => false
  | .IfExp _ _ _ _ => false
  | .Compare _ _ _ _ => false
  | _ => true
theorem plainTest_ok {e : Expr} {env : Env} (h : plainTest e = true) : ∀ whole, isTrue e env whole = (do let v ← whole; standAt e.pos; holding [v] (truthy v)) := by
  intro whole
  cases e with
  | UnaryOp op a p => cases op <;> first | rfl | cases h
  | BoolOp _ _ _ => cases h
  | IfExp _ _ _ _ => cases h
  | Compare _ _ _ _ => cases h
  | _ => rfl
/-- a test of a value, by the operand's reading -/
theorem evT_ex {c : Ex} {sl : Ss} : evT ap C (.ex c) sl = (match evO ap C c sl with
    | some (o, sl) => match deref sl o with
      | some d => match tr d with
        | some b => some (b, sl)
        | none => none
      | none => none
    | none => none) := by
  cases hc : c.isV with
  | true =>
    cases c with
    | v i => 
      rw [evO_v]
      simp only [evT]
      cases opdV sl i with
      | none => rfl
      | some o => rfl
    | _ => cases hc
  | false =>
    rw [evO_e hc]
    have : evT ap C (.ex c) sl = (match evE ap C c sl with
      | some (d, _, sl) => match tr d with
        | some b => some (b, sl)
        | none => none
      | none => none) := by
      cases c with
      | v i => cases hc
      | _ => simp only [evT] <;> rfl
    rw [this]
    cases evE ap C c sl <;> rfl
theorem et_ex {c : Ex} {e : Expr} (h : EO X ap C c e) (p : plainTest e = true) : ET X ap C (.ex c) e := fun am =>
  pt_weak (pt_truth (h am) (plainTest_ok p)) fun σ H Q q => by
    obtain ⟨G, sl, b, sl', r, e, q⟩ := q
    rw [evT_ex] at e
    split at e
    · rename_i o sl1 e1
      split at e
      · rename_i d e2
        split at e
        · rename_i b' e3
          cases e
          exact ⟨G, sl, o, _, r, e1, fun v G1 H1 r1 g1 o1 => ⟨b, r1.tru (r1.deref o1 e2) e3, q G1 H1 r1 g1⟩⟩
        · cases e
      · cases e
    · cases e
/-- a comparison as a test -/
theorem et_cmp {f : Bi} {ca cb : Ex} {a b : Expr} {op : CmpOp} {pos : Pos} (hf : ∀ ds d fr, ap f ds = some (d, fr) → fr = false ∧ ∃ k, d = .bool k) (o : O2 X (compareOp op) (ap f)) (ha : EO X ap C ca a) (hb : EO X ap C cb b) (hm : behindInMarks op b = false) : ET X ap C (.ex (.bi f (.cons ca (.cons cb .nil)))) (.Compare a [op] [b] pos) := fun am =>
  pt_weak (pt_cmpR o (ha am) (hb am) hm) fun σ H Q q => by
    obtain ⟨G, sl, b, sl', r, e, q⟩ := q
    simp only [evT] at e
    split at e
    · rename_i d fr sl1 e1
      split at e
      · rename_i b' e3
        cases e
        obtain ⟨os, ds, e0, e1', e2⟩ := bi_split e1
        obtain ⟨rfl, k, rfl⟩ := hf _ _ _ e2
        cases e3
        rw [evOs_cons] at e0
        split at e0
        · rename_i oa sla e3
          rw [evOs_cons] at e0
          split at e0
          · rename_i e5
            split at e5
            · rename_i ob slb e4
              simp only [evOs] at e5
              cases e5
              cases e0
              refine ⟨G, sl, oa, sla, r, e3, fun x G1 H1 r1 g1 o1 => ⟨G1, sla, ob, _, r1, e4, fun y G2 H2 r2 g2 o2 => ?_⟩⟩
              refine r2.bi (.cons (o1.mono g2) (.cons o2 .nil)) e1' e2 (Same.trans g1 g2) fun v G' H' r' g rs => ?_
              have rs : Rp X.K G' v (.bool b) := rs
              cases rs
              exact ⟨b, rfl, q G' H' r' g⟩
            · cases e5
          · cases e0
        · cases e0
      · cases e
    · cases e
theorem et_not {c : Te} {e : Expr} {pos : Pos} (h : ET X ap C c e) : ET X ap C (.not c) (.UnaryOp .Not e pos) := fun am =>
  pt_weak (pt_not (h am)) fun σ H Q q => by
    obtain ⟨G, sl, b, sl', r, e, q⟩ := q
    simp only [evT] at e
    split at e
    · cases e
      exact ⟨G, sl, _, _, r, ‹_›, fun G1 H1 r1 g1 => q G1 H1 r1 g1⟩
    · cases e
abbrev EW (X : Cx) (ap : ApB) (C : CallT) (c : Te) (e : Expr) : Prop := ∀ am, PW X e (rdT X.K ap C am c)
theorem pw_weak {e : Expr} {t t' : TT} (h : PW X e t) (w : ∀ σ H Q, t' σ H Q → t σ H Q) : PW X e t' := ⟨fun wh pins s σ H Q I q => h.run wh pins s σ H Q I (w σ H Q q)⟩
theorem ew_and1 {c : Te} {e : Expr} {pos : Pos} (h : ET X ap C c e) : EW X ap C c (.BoolOp .And [e] pos) := fun am => pw_and1 (h am)
theorem ew_or1 {c : Te} {e : Expr} {pos : Pos} (h : ET X ap C c e) : EW X ap C c (.BoolOp .Or [e] pos) := fun am => pw_or1 (h am)
theorem ew_and {c d : Te} {a b : Expr} {rest : List Expr} {pos : Pos} (h : ET X ap C c a) (h2 : EW X ap C d (.BoolOp .And (b :: rest) pos)) : EW X ap C (.and c d) (.BoolOp .And (a :: b :: rest) pos) := fun am =>
  pw_weak (pw_and (h am) (h2 am)) fun σ H Q q => by
    obtain ⟨G, sl, b, sl', r, e, q⟩ := q
    simp only [evT] at e
    split at e
    · exact ⟨G, sl, _, _, r, ‹_›, fun G1 H1 r1 g1 => iteT ⟨G1, _, b, sl', r1, e, fun G2 H2 r2 g2 => q G2 H2 r2 (Same.trans g1 g2)⟩⟩
    · cases e
      exact ⟨G, sl, _, _, r, ‹_›, fun G1 H1 r1 g1 => iteF (q G1 H1 r1 g1)⟩
    · cases e
theorem ew_or {c d : Te} {a b : Expr} {rest : List Expr} {pos : Pos} (h : ET X ap C c a) (h2 : EW X ap C d (.BoolOp .Or (b :: rest) pos)) : EW X ap C (.or c d) (.BoolOp .Or (a :: b :: rest) pos) := fun am =>
  pw_weak (pw_or (h am) (h2 am)) fun σ H Q q => by
    obtain ⟨G, sl, b, sl', r, e, q⟩ := q
    simp only [evT] at e
    split at e
    · exact ⟨G, sl, _, _, r, ‹_›, fun G1 H1 r1 g1 => iteF ⟨G1, _, b, sl', r1, e, fun G2 H2 r2 g2 => q G2 H2 r2 (Same.trans g1 g2)⟩⟩
    · cases e
      exact ⟨G, sl, _, _, r, ‹_›, fun G1 H1 r1 g1 => iteT (q G1 H1 r1 g1)⟩
    · cases e
theorem EW.pt {c : Te} {e : Expr} (h : EW X ap C c e) : ET X ap C c e := fun am => (h am).pt

/-! ### values by tests -/
theorem ee_ife {c : Te} {ca cb : Ex} {t a b : Expr} {pos : Pos} (ht : ET X ap C c t) (ha : EE X ap C ca a) (hb : EE X ap C cb b) : EE X ap C (.ife c ca cb) (.IfExp t a b pos) := fun am =>
  pe_weak (pe_ifExp (ht am) (ha.val (am := am)) (hb.val (am := am))) fun σ H Q q => by
    obtain ⟨G, sl, d, fr, sl', r, e, q⟩ := q
    simp only [evE] at e
    split at e
    · split at e
      · cases e
        exact ⟨G, sl, _, _, r, ‹_›, fun G1 H1 r1 g1 => iteT ⟨G1, _, d, _, sl', r1, ‹_›, fun v G2 H2 r2 g2 p => q v G2 H2 r2 (Same.trans g1 g2) p⟩⟩
      · cases e
    · split at e
      · cases e
        exact ⟨G, sl, _, _, r, ‹_›, fun G1 H1 r1 g1 => iteF ⟨G1, _, d, _, sl', r1, ‹_›, fun v G2 H2 r2 g2 p => q v G2 H2 r2 (Same.trans g1 g2) p⟩⟩
      · cases e
    · cases e
end
end EV
namespace EV
open PySem PySem.Spec L2
open PyProof.Rows hiding St

/-! ### functions called where no container is being shown: so repr is open to them -/
structure RoomG (k : Nat) (A : Around) : Prop where
  r : Room k A
  g : A.guards = some []
theorem RoomG.mono {j k : Nat} {A : Around} (h : RoomG k A) (l : j ≤ k) : RoomG j A := ⟨h.r.mono l, h.g⟩
theorem RoomG.deeper {k : Nat} {A : Around} (h : RoomG (k + 1) A) (env : Env) : RoomG k (A.deeper env) := ⟨h.r.deeper env, h.g⟩
/-- a promise: arguments, heap, what is wanted of value and heap -/
abbrev SpG := List V → Hp → VK → Prop
structure FnG (P : Program) (w : World) (K : PySem.W.Frag) (mg : Str → Option Value) (base : Heap) (k : Nat) (fa : Addr) (fd : FuncData) (ps : List Str) (sp : SpG) : Prop where
  len : ∀ vs H Q, sp vs H Q → vs.length = ps.length
  run : ∀ (A : Around) (outer : List Env) (s : Shared) (H : Hp) (args : Args) (us : List Value) (vs : List V) (Q : VK), RoomG k A → Env0 P w K mg base A outer s H → BindsTo s fd args (ps.zip us) → Vals vs us → sp vs H Q →
    codeAny (model P w) A (.call (.ref fa) args) (CR CX0 outer P w H s Q L2.E0) s

theorem fnG_of {P : Program} {w : World} {K : PySem.W.Frag} {mg : Str → Option Value} {base : Heap} {x qual : Str} {st : Stmt} {fa : Addr} {fd : FuncData} {N ps : List Str} {k : Nat} {sp : SpG}
    (F : L2.Fun K x qual st fa fd) (S : FnScope N ps (defScope st)) (len : ∀ vs H Q, sp vs H Q → vs.length = ps.length)
    (body : ∀ (cdv : Value) (A : Around) (outer : List Env) (s : Shared) (H : Hp) (vs : List V) (Q : VK), RoomG k (A.deeper (envOfC qual (defScope st) s.heap.objs.size fa cdv)) → sp vs H Q →
      ∃ t, PSs (cxOf CX0 P w K mg base N qual (defScope st) fa cdv A outer s H L2.E0).nox (defBody st) t ∧ t { nx := fun _ H' => Q .non H', rt := Q } (L2.start N vs) H) :
    FnG P w K mg base (k + 1) fa fd ps sp := by
  obtain ⟨oc, od, kV, doc, pm, an, cdv, ct, osl, hfd, found, code⟩ := F.ex
  subst hfd
  constructor
  · exact len
  intro A outer s H args us vs Q room en binds vals want
  have many := len vs H Q want
  have heapK : K.In s.heap := en.mod.kin.keeps (fun a o z => (en.bs a o z).1)
  have free := en.mod.nolimit.keeps (fun a o z => (en.bs a o z).1)
  have kinds : ∀ y ∈ ps.zip us, (defScope st).names.lookup y.1 = some .local ∨ ((defScope st).names.lookup y.1 = some .cell ∧ ((cellsFrom (s.heap.objs.size + 1) (defScope st).names []).lookup y.1).isSome = true) := by
    rintro ⟨nm, v⟩ hy
    have hp := S.par nm (List.of_mem_zip hy).1
    cases hp with
    | inl q => exact Or.inl q
    | inr q => exact Or.inr ⟨q, PySem.W.cellsFrom_some _ _ _ (Or.inl q)⟩
  apply codeAny_call_function room.r.depth (heapK _ _ found) rfl S.co S.gen rfl (PySem.W.codeRec_of heapK code) (binds _ _ _ _ ?_)
  apply wpAny_newFunctionEnv_cells S.kind kinds
  intro env same s1 inn
  subst same
  constructor
  · exact free.keeps inn.toInCall.keep
  apply codeAny_func
  obtain ⟨t, walk, reads⟩ := body cdv A outer s H vs Q (room.deeper _) want
  have J := inv_start (CX := CX0) (E := L2.E0) S room.r.hd en many vals inn
  apply wpAny_mono (walk.nox.run [] s1 (L2.start N vs) H _ J reads) ?_ (fun e s' z => z)
  intro fl s' z
  cases fl with
  | ret u =>
    obtain ⟨v, σ', H', J', rv, q⟩ := z
    exact ⟨v, H', J'.os, J'.bare, J'.base, J'.hok, rv, q⟩
  | next =>
    obtain ⟨σ', H', J', q⟩ := z
    exact ⟨V.non, H', J'.os, J'.bare, J'.base, J'.hok, rfl, q⟩
  | brk =>
    obtain ⟨_, _, _, q⟩ := z
    cases q
  | cont =>
    obtain ⟨_, _, _, q⟩ := z
    cases q

section
variable {X : Cx} {k : Nat} {fa : Addr} {fd : FuncData} {ps : List Str} {sp : SpG} {x : Str} {p pos : Pos} {e : Expr} {es : List Expr} {t : TA}
theorem runG {pins : List (Addr × Obj)} {σ : St} {H : Hp} {s : Shared} {Q : VK} {us zs : List Value} {kw : List (Str × Value)} {vs : List V} (F : FnG X.prog X.w X.K X.mg X.base k fa fd ps sp) (room : RoomG k X.A)
    (I : Inv X pins σ H s) (binds : BindsTo s fd ⟨us, kw⟩ (ps.zip zs)) (r : Vals vs zs) (h : sp vs H Q) : wpAny (model X.prog X.w) X.A (call (.ref fa) us kw) (EP X pins σ Q) X.xe s := by
  refine wpAny_call (codeAny_mono (F.run X.A X.stack s H ⟨us, kw⟩ zs vs Q room I.env0 binds r h) ?_)
  intro r s' z
  match r, z with
  | .error e, z => exact z.elim
  | .ok (.ret u), z => exact I.after z
  | .ok .next, z => exact z.elim
  | .ok .brk, z => exact z.elim
  | .ok .cont, z => exact z.elim
/-- a written call of a def -/
def tG (sp : SpG) (t : TA) : TE := fun σ H Q => t σ H fun vs H1 => sp vs H1 Q
theorem pe_callG (F : FnG X.prog X.w X.K X.mg X.base k fa fd ps sp) (room : RoomG k X.A) (hg : Gl X x) (hm : X.mg x = some (.ref fa)) (hk : PySem.W.keepIn X.K (.ref fa) = true) (hb : Binds X.K fd ps []) (ha : PA X (e :: es) t) (hdb : (x == ("__debug__" : Str)) = false)
    (he : starEach (e :: es) X.env = (false, eval e X.env) :: starEach es X.env) (hpl : (backTo pos (starEach es X.env)).any (·.1) = false) : PE X (.Call (.Name x p) (e :: es) [] pos) (tG sp t) := by
  constructor
  intro pins s σ H Q I want
  apply wpAny_Call_Name_kw (ld_glob I hg hm ?_ hdb)
  refine PySem.W.callWith_K (h₀ := X.base) I.ok.mod.kin hk (thn (ha.run pos pins s σ H _ I want) ?_) he hpl
  rintro us s1 ⟨vs, H1, I1, r, q⟩
  refine ⟨I1.kIn, ?_⟩
  have hl : us.length = ps.length := by rw [← r.length]; exact F.len _ _ _ q
  have b := hb s1 us I1.kIn (by rw [List.append_nil]; exact hl)
  rw [List.append_nil] at b
  exact runG F room I1 b r q
theorem pe_callG0 (F : FnG X.prog X.w X.K X.mg X.base k fa fd ps sp) (room : RoomG k X.A) (hg : Gl X x) (hm : X.mg x = some (.ref fa)) (hk : PySem.W.keepIn X.K (.ref fa) = true) (hb : Binds X.K fd ps []) (hdb : (x == ("__debug__" : Str)) = false) :
    PE X (.Call (.Name x p) [] [] pos) (fun σ H Q => sp [] H Q) := by
  constructor
  intro pins s σ H Q I want
  apply wpAny_Call_Name_kw (ld_glob I hg hm ?_ hdb)
  refine PySem.W.callWith_K0 I.kIn hk ?_
  have b := hb s [] I.kIn (F.len _ _ _ want)
  rw [List.append_nil] at b
  exact runG F room I b .nil want
/-- what a place holds is called -/
def tGV (i : Nat) (S : Addr → SpG → Prop) (t : TA) : TE := fun σ H Q => ∃ f sp, σ[i]? = some (some (.ref f)) ∧ S f sp ∧ t σ H fun vs H1 => sp vs H1 Q
theorem pe_callGV {i : Nat} {S : Addr → SpG → Prop} (hS : ∀ f sp, S f sp → ∃ k fd ps, FnG X.prog X.w X.K X.mg X.base k f fd ps sp ∧ RoomG k X.A ∧ PySem.W.keepIn X.K (.ref f) = true ∧ Binds X.K fd ps []) (hv : PE X (.Name x p) (tVar i)) (ha : PA X (e :: es) t)
    (he : starEach (e :: es) X.env = (false, eval e X.env) :: starEach es X.env) (hpl : (backTo pos (starEach es X.env)).any (·.1) = false) : PE X (.Call (.Name x p) (e :: es) [] pos) (tGV i S t) := by
  refine ⟨fun pins s σ H Q I h => ?_⟩
  obtain ⟨f, sp, hs, hf, ht⟩ := h
  obtain ⟨k, fd, ps, F, room, hk, hb⟩ := hS f sp hf
  refine wpAny_Call_Name_kw (thn (hv.run pins s σ H (fun v H1 => v = .ref f ∧ H1 = H) I ⟨.ref f, hs, rfl, rfl⟩) fun u s1 ⟨v, H1, I1, r1, q1⟩ => ?_)
  obtain ⟨rfl, rfl⟩ := q1
  cases r1
  refine PySem.W.callWith_K (h₀ := X.base) I.ok.mod.kin hk (thn (ha.run pos pins s1 σ _ _ I1 ht) ?_) he hpl
  rintro us s2 ⟨vs, H2, I2, r, q⟩
  refine ⟨I2.kIn, ?_⟩
  have hl : us.length = ps.length := by rw [← r.length]; exact F.len _ _ _ q
  have b := hb s2 us I2.kIn (by rw [List.append_nil]; exact hl)
  rw [List.append_nil] at b
  exact runG F room I2 b r q
end

/-! ### the law's call -/
theorem lawG {P : Program} {w : World} {K : PySem.W.Frag} {mg mb : Str → Option Value} {k : Nat} {fa a : Addr} {fd : FuncData} {x : Str} {sp : SpG} {s₁ : Shared} {vs : List Value} {ns : List Int}
    (kin : K.In s₁.heap) (glob : s₁.heap.Ns mainGlobals mg) (bins : s₁.heap.Ns builtinsNs mb) (boot : ∀ y : Str, y ≠ "__name__" → mb y = bootBuiltins y) (lim : s₁.heap.NoLimit) (noGen : s₁.gens = #[])
    (at_a : s₁.heap.get? a = some { cls := .type "list", data := .seq vs.toArray }) (whole : IntsAre vs ns) (few : ns.length ≤ sizeLine) (room : RoomG k callerA)
    (mods : ∃ mm, s₁.heap.Ns sysModules mm) (F : ∀ base : Heap, K.In base → base.Ns mainGlobals mg → (∃ mm, base.Ns sysModules mm) → FnG P w K mg base k fa fd [x] sp) (binds : ∀ (s : Shared) (u : Value), BindsTo s fd ⟨[u], []⟩ [(x, u)])
    (want : ∀ H : Hp, Only H → SqL K H a (ns.map V.int) → sp [.ref a] H (fun v _ => v = .bl true)) :
    codeAny (model P w) callerA (.call (.ref fa) ⟨[.ref a], []⟩) (fun r s' => r = .ok (.ret (.bool true)) ∧ OldK s₁.heap s'.heap ∧ s'.os = s₁.os ∧ AllBare s'.gens) s₁ := by
  have vals := vals_ints whole
  have many : vs.length = ns.length := whole.length
  -- the end, from any abstract heap that tracks the script at most
  have go : ∀ H : Hp, Only H → SqL K H a (ns.map V.int) → HOk P w H s₁.heap → (∀ b, H b ≠ none → b = a ∧ K.lookup a = none) →
      codeAny (model P w) callerA (.call (.ref fa) ⟨[.ref a], []⟩) (fun r s' => r = .ok (.ret (.bool true)) ∧ OldK s₁.heap s'.heap ∧ s'.os = s₁.os ∧ AllBare s'.gens) s₁ := fun H only seq hok one => by
    have notDict : ∀ {b : Addr} {o : Obj} {es : Array DictEntry} {ep : Nat}, s₁.heap.get? b = some o → o.data = .dict es ep → H b = none := by
      intro b o es ep g dd
      apply Classical.byContradiction
      intro ne
      obtain ⟨rfl, _⟩ := one b ne
      rw [at_a] at g
      cases g
      cases dd
    have nsB : ∀ {b : Addr} {m : Str → Option Value}, s₁.heap.Ns b m → (hidT s₁.heap H).Ns b m := by
      rintro b m ⟨o, es, ep, g, dd, r⟩
      exact ⟨o, es, ep, hidT_get g (notDict g dd), dd, r⟩
    have kinB : K.In (hidT s₁.heap H) := by
      intro b o found
      refine hidT_get (kin b o found) (Classical.byContradiction fun ne => ?_)
      obtain ⟨rfl, z⟩ := one b ne
      rw [z] at found
      cases found
    have limB : (hidT s₁.heap H).NoLimit := by
      obtain ⟨mc, h1, h2⟩ := lim
      exact ⟨mc, nsB h1, h2⟩
    have en : Env0 P w K mg (hidT s₁.heap H) callerA [] s₁ H := {
      frames := rfl
      mod := ⟨kinB, nsB glob, ⟨mb, nsB bins, boot⟩, limB⟩
      bs := fun b o g => of_hidT g
      bsz := Nat.le_of_eq (hidT_size _ _)
      funs := trivial
      frf := fun b hb => by cases hb
      hok := hok
      bare := .of_eq noGen }
    have run := (F _ kinB (nsB glob) (let ⟨mm, z⟩ := mods; ⟨mm, nsB z⟩)).run callerA [] s₁ H ⟨[.ref a], []⟩ [.ref a] [.ref a] _ room en (binds s₁ (.ref a)) (.cons rfl .nil) (want H only seq)
    apply codeAny_mono run
    intro r s' z
    match r, z with
    | .error e, z => exact z.elim
    | .ok .next, z => exact z.elim
    | .ok .brk, z => exact z.elim
    | .ok .cont, z => exact z.elim
    | .ok (.ret u), ⟨v, H', os, bare, un, hok', rv, q⟩ =>
      have q' : v = .bl true := q
      subst q'
      have eu : u = Value.bool true := rv
      subst eu
      refine ⟨rfl, OldK.of_keep ?_, os, bare⟩
      intro b o g
      cases hb : H b with
      | none => exact un.keep b o g hb (by intro z; cases z) (by simp)
      | some u =>
        rcases only b with z | ⟨ob, xs, z⟩
        · rw [hb] at z
          cases z
        · obtain ⟨g1, _⟩ := hok b _ z
          obtain ⟨g2, _⟩ := hok' b _ (un.frzs b ob _ z)
          rw [g] at g1
          cases g1
          exact g2
  cases inK : K.lookup a with
  | some o =>
    -- one of the module's own objects
    have g := kin a o inK
    rw [at_a] at g
    cases g
    refine go (fun _ => none) (fun _ => Or.inl rfl) (Or.inr ⟨_, vs.toArray, _, inK, rfl, rfl, rfl, by rw [List.size_toArray, many]; exact few, by simpa using vals⟩) ?_ ?_
    · intro b u z
      cases (show (none : Option HO) = some u from z)
    · intro b z
      exact absurd rfl z
  | none =>
    have self : (fun b => if b = a then some (HO.frz { cls := .type "list", data := .seq vs.toArray } (.lst (ns.map V.int))) else none) a = some (HO.frz { cls := .type "list", data := .seq vs.toArray } (.lst (ns.map V.int))) := if_pos rfl
    refine go (fun b => if b = a then some (.frz { cls := .type "list", data := .seq vs.toArray } (.lst (ns.map V.int))) else none) ?_ (Or.inl (Or.inr ⟨_, self⟩)) ?_ ?_
    · intro b
      by_cases e : b = a
      · exact Or.inr ⟨_, _, if_pos e⟩
      · exact Or.inl (if_neg e)
    · intro b u z
      by_cases e : b = a
      · subst e
        cases self.symm.trans z
        exact ⟨at_a, by rw [List.length_map]; exact few, vs, _, vals, at_a⟩
      · cases (if_neg e).symm.trans z
    · intro b z
      by_cases e : b = a
      · exact ⟨e, inK⟩
      · exact absurd (if_neg e) z
theorem walkG {l : PySem.W.OpenLaw} {n k : Nat} {q : Program} {loose : List Str} {XP : (Str → Option Value) → Heap → Prop} {YP : World → Heap → Prop} {d : DefRec} {K : Params → PySem.W.Frag} {sp : World → SpG} {x : Str}
    (most : l.most = some n) (small : n ≤ sizeLine) (noDef : d.params.defaults = []) (imp : importsNone q = true) (room : RoomG k callerA) (says : ∀ (w : World) (h : Heap), YP w h → (K w.params).In h)
    (F : ∀ (w : World) (mg : Str → Option Value) (fa : Addr) (h : Heap), (K w.params).In h → h.Ns mainGlobals mg → mg d.name = some (.ref fa) →
      ∃ fd : FuncData, (∀ (s : Shared) (u : Value), BindsTo s fd ⟨[u], []⟩ [(x, u)]) ∧ ∀ base : Heap, (K w.params).In base → base.Ns mainGlobals mg → (∃ mm, base.Ns sysModules mm) → FnG l.prog w (K w.params) mg base k fa fd [x] (sp w))
    (want : ∀ (w : World) (H : Hp) (a : Addr) (ns : List Int), ns.length ≤ n → Only H → SqL (K w.params) H a (ns.map V.int) → sp w [.ref a] H (fun v _ => v = .bl true)) :
    PySem.W.WalkO q loose XP YP l.row.toRowW d [] (fun f vs => PySem.call f vs) := by
  apply Att.attach_call most noDef
  intro w s₀ s₁ mg mb fa o pm cd doc a vs ns G Y ho hd hcd hmg obj whole len gens
  have kin := says w _ Y
  obtain ⟨fd, binds, ok⟩ := F w mg fa _ kin G.T.g hmg
  exact lawG kin G.T.g G.T.b G.T.builtins G.T.nolimit gens obj whole (Nat.le_trans len small) room (let ⟨mm, z, _⟩ := (G.T.seer imp).mods; ⟨mm, z⟩) ok binds fun H only seq => want w H a ns len only seq
end EV
namespace EV
open PySem PySem.Spec L2
open PyProof.Rows hiding St
section
variable {X : Cx} {ap : ApB} {C : CallT} {am : Amb}
/-! ### and, or, not as values -/
theorem ee_one {c : Ex} {e : Expr} {op : BoolOp} {pos : Pos} (h : EE X ap C c e) : EE X ap C c (.BoolOp op [e] pos) := fun am => pe_one (h am)
theorem ee_and {ca cb : Ex} {a b : Expr} {rest : List Expr} {pos : Pos} (ha : EE X ap C ca a) (hb : EE X ap C cb (.BoolOp .And (b :: rest) pos)) : EE X ap C (.and ca cb) (.BoolOp .And (a :: b :: rest) pos) := fun am =>
  pe_weak (pe_andT (ha.val (am := am)) (hb.val (am := am))) fun σ H Q q => by
    obtain ⟨G, sl, d, fr, sl', r, e, q⟩ := q
    simp only [evE] at e
    split at e
    · rename_i x fx sl1 e1
      split at e
      · rename_i e2
        split at e
        · rename_i y fy sl2 e3
          cases e
          exact ⟨G, sl, _, _, _, r, e1, fun v G1 H1 r1 g1 p1 => ⟨true, r1.tru (.inl p1) e2, iteT ⟨G1, _, _, _, _, r1, e3, fun w G2 H2 r2 g2 p2 => q w G2 H2 r2 (Same.trans g1 g2) p2⟩⟩⟩
        · cases e
      · rename_i e2
        cases e
        exact ⟨G, sl, _, _, _, r, e1, fun v G1 H1 r1 g1 p1 => ⟨false, r1.tru (.inl p1) e2, iteF (q v G1 H1 r1 g1 p1)⟩⟩
      · cases e
    · cases e
theorem ee_or {ca cb : Ex} {a b : Expr} {rest : List Expr} {pos : Pos} (ha : EE X ap C ca a) (hb : EE X ap C cb (.BoolOp .Or (b :: rest) pos)) : EE X ap C (.or ca cb) (.BoolOp .Or (a :: b :: rest) pos) := fun am =>
  pe_weak (pe_orT (ha.val (am := am)) (hb.val (am := am))) fun σ H Q q => by
    obtain ⟨G, sl, d, fr, sl', r, e, q⟩ := q
    simp only [evE] at e
    split at e
    · rename_i x fx sl1 e1
      split at e
      · rename_i e2
        split at e
        · rename_i y fy sl2 e3
          cases e
          exact ⟨G, sl, _, _, _, r, e1, fun v G1 H1 r1 g1 p1 => ⟨false, r1.tru (.inl p1) e2, iteF ⟨G1, _, _, _, _, r1, e3, fun w G2 H2 r2 g2 p2 => q w G2 H2 r2 (Same.trans g1 g2) p2⟩⟩⟩
        · cases e
      · rename_i e2
        cases e
        exact ⟨G, sl, _, _, _, r, e1, fun v G1 H1 r1 g1 p1 => ⟨true, r1.tru (.inl p1) e2, iteT (q v G1 H1 r1 g1 p1)⟩⟩
      · cases e
    · cases e
/-- not x, as a value -/
theorem ee_not {c : Ex} {e : Expr} {pos : Pos} (h : EO X ap C c e) : EE X ap C (.tst (.not (.ex c))) (.UnaryOp .Not e pos) := fun am =>
  pe_weak (pe_notT (h am)) fun σ H Q q => by
    obtain ⟨G, sl, d, fr, sl', r, e, q⟩ := q
    simp only [evE] at e
    split at e
    · rename_i b sl1 e0
      cases e
      rw [evT.eq_def] at e0
      simp only at e0
      rw [evT_ex] at e0
      split at e0
      · rename_i b' sl2 e1
        cases e0
        split at e1
        · rename_i o sl3 e2
          split at e1
          · rename_i x e3
            split at e1
            · rename_i b2 e4
              cases e1
              exact ⟨G, sl, o, _, r, e2, fun v G1 H1 r1 g1 o1 => ⟨b', r1.tru (r1.deref o1 e3) e4, q _ G1 H1 r1 g1 (.bl _)⟩⟩
            · cases e1
          · cases e1
        · cases e1
      · cases e0
    · cases e

/-! ### calls of own functions -/
theorem backS_spec : ∀ {is : List Nat} {ds : List D} {sl sl2 : Ss}, backS is ds sl = some sl2 → nodupB is = true →
    is.length = ds.length ∧ sl2.length = sl.length ∧ (∀ (j : Nat), j ∉ is → sl2[j]? = sl[j]?) ∧ (∀ (k j : Nat) (d : D), is[k]? = some j → ds[k]? = some d → (∃ d0, sl[j]? = some (Sl.own d0) ∧ sl2[j]? = some (Sl.own d)) ∨ (∃ d0, sl[j]? = some (Sl.bor d0) ∧ sl2[j]? = some (Sl.bor d)))
  | [], [], sl, sl2, e, _ => by
    cases e
    exact ⟨rfl, rfl, fun _ _ => rfl, fun k j d h => by simp at h⟩
  | [], _ :: _, sl, sl2, e, _ => by cases e
  | _ :: _, [], sl, sl2, e, _ => by cases e
  | i :: is, d :: ds, sl, sl2, e, n => by
    have n1 : i ∉ is ∧ nodupB is = true := by
      unfold nodupB at n
      simp only [Bool.and_eq_true, Bool.not_eq_true', List.contains_eq_mem, decide_eq_false_iff_not] at n
      exact n
    unfold backS at e
    have step : ∀ x : Sl, backS is ds (sl.set i x) = some sl2 → (∃ y, sl[i]? = some y) → is.length + 1 = ds.length + 1 ∧ sl2.length = sl.length ∧ (∀ (j : Nat), j ∉ i :: is → sl2[j]? = sl[j]?) ∧ sl2[i]? = some x ∧ (∀ (k j : Nat) (d : D), is[k]? = some j → ds[k]? = some d → (∃ d0, sl[j]? = some (Sl.own d0) ∧ sl2[j]? = some (Sl.own d)) ∨ (∃ d0, sl[j]? = some (Sl.bor d0) ∧ sl2[j]? = some (Sl.bor d))) := fun x e2 hy => by
      obtain ⟨h1, h2, h3, h4⟩ := backS_spec e2 n1.2
      obtain ⟨y, hy⟩ := hy
      have hi : i < sl.length := (List.getElem?_eq_some_iff.mp hy).1
      refine ⟨by rw [h1], by rw [h2, List.length_set], fun j hj => ?_, ?_, fun k j d e1 e2 => ?_⟩
      · rw [List.mem_cons, not_or] at hj
        rw [h3 j hj.2, List.getElem?_set_ne (fun z => hj.1 z.symm)]
      · rw [h3 i n1.1, List.getElem?_set_self hi]
      · have hji : i ≠ j := fun z => n1.1 (by rw [z]; exact List.mem_of_getElem? e1)
        have := h4 k j d e1 e2
        rw [List.getElem?_set_ne hji] at this
        exact this
    split at e
    · rename_i d0 hd
      obtain ⟨h1, h2, h3, h4, h5⟩ := step _ e ⟨_, hd⟩
      refine ⟨h1, h2, h3, fun k j d' e1 e2 => ?_⟩
      cases k with
      | zero =>
        simp only [List.getElem?_cons_zero, Option.some.injEq] at e1 e2
        subst e1 e2
        exact .inl ⟨_, hd, h4⟩
      | succ k => exact h5 k j d' (by simpa using e1) (by simpa using e2)
    · rename_i d0 hd
      obtain ⟨h1, h2, h3, h4, h5⟩ := step _ e ⟨_, hd⟩
      refine ⟨h1, h2, h3, fun k j d' e1 e2 => ?_⟩
      cases k with
      | zero =>
        simp only [List.getElem?_cons_zero, Option.some.injEq] at e1 e2
        subst e1 e2
        exact .inr ⟨_, hd, h4⟩
      | succ k => exact h5 k j d' (by simpa using e1) (by simpa using e2)
    · cases e

/-- the arguments of a call -/
inductive ArgOk (K : PySem.W.Frag) (G H : Hp) : List V → List (Bool × D) → Prop
  | nil : ArgOk K G H [] []
  | val {v : V} {vs : List V} {d : D} {r : List (Bool × D)} : Rp K G v d → ArgOk K G H vs r → ArgOk K G H (v :: vs) ((false, d) :: r)
  | lent {a : Addr} {vs : List V} {d : D} {r : List (Bool × D)} : G a = none → Hold K G (H a) d → ArgOk K G H vs r → ArgOk K G H (.ref a :: vs) ((true, d) :: r)
def refA : List V → List (Bool × D) → List Addr
  | .ref a :: vs, (true, _) :: r => a :: refA vs r
  | _ :: vs, _ :: r => refA vs r
  | _, _ => []
inductive OutsOk (K : PySem.W.Frag) (G H : Hp) : List Addr → List D → Prop
  | nil : OutsOk K G H [] []
  | cons {a : Addr} {as : List Addr} {d : D} {ds : List D} : Hold K G (H a) d → OutsOk K G H as ds → OutsOk K G H (a :: as) (d :: ds)
theorem OutsOk.get {K : PySem.W.Frag} {G H : Hp} {as : List Addr} {ds : List D} (h : OutsOk K G H as ds) : ∀ {k : Nat} {a : Addr} {d : D}, as[k]? = some a → ds[k]? = some d → Hold K G (H a) d := by
  induction h with
  | nil => intro k a d e; simp at e
  | cons h _ ih =>
    intro k a d e1 e2
    cases k with
    | zero =>
      simp only [List.getElem?_cons_zero, Option.some.injEq] at e1 e2
      subst e1 e2
      exact h
    | succ k => exact ih (by simpa using e1) (by simpa using e2)
/-- a call's end -/
structure CallEnd (K : PySem.W.Frag) (G H : Hp) (as : List Addr) (outs : List D) (G' H' : Hp) (v : V) (d : D) (fr : Bool) : Prop where
  gg : Same G G'
  gh : Same G' H'
  frame : ∀ b o, H b = some o → b ∉ as → H' b = some o
  dom : ∀ b, H b ≠ none → H' b ≠ none
  nw : ∀ b, G' b ≠ none → G b ≠ none ∨ H b = none
  outs : OutsOk K G' H' as outs
  res : match fr with
    | false => Rp K G' v d
    | true => ∃ a, v = .ref a ∧ H a = none ∧ G' a = none ∧ Hold K G' (H' a) d
def spF (K : PySem.W.Frag) (C : CallT) (f : Nat) (np : Nat) : SpG := fun vs H Q => ∃ (G : Hp) (args : List (Bool × D)) (d : D) (fr : Bool) (outs : List D), args.length = np ∧ Same G H ∧ ArgOk K G H vs args ∧ (refA vs args).Nodup ∧ C f args = some (d, fr, outs) ∧
  ∀ v G' H', CallEnd K G H (refA vs args) outs G' H' v d fr → Q v H'
theorem ArgOk.length {K : PySem.W.Frag} {G H : Hp} {vs : List V} {args : List (Bool × D)} (h : ArgOk K G H vs args) : vs.length = args.length := by
  induction h with
  | nil => rfl
  | val _ _ ih => exact congrArg (· + 1) ih
  | lent _ _ _ ih => exact congrArg (· + 1) ih

/-- evaluated arguments -/
inductive AgsOk (K : PySem.W.Frag) (σ : St) (G : Hp) : List V → List Ag → Prop
  | nil : AgsOk K σ G [] []
  | val {v : V} {vs : List V} {d : D} {r : List Ag} : Rp K G v d → AgsOk K σ G vs r → AgsOk K σ G (v :: vs) (.v d :: r)
  | lent {v : V} {vs : List V} {i : Nat} {r : List Ag} : σ[i]? = some (some v) → AgsOk K σ G vs r → AgsOk K σ G (v :: vs) (.r i :: r)
def rdAs (K : PySem.W.Frag) (ap : ApB) (C : CallT) (am : Amb) (refs : List Bool) (cs : Exs) : TA := fun σ H Q => ∃ G sl ags sl', RS K am G H sl σ ∧ evAs ap C refs cs sl = some (ags, sl') ∧
  ∀ vs G' H', RS K am G' H' sl' σ → Same G G' → AgsOk K σ G' vs ags → Q vs H'
theorem pa_as_nil : PA X [] (rdAs X.K ap C am [] .nil) := pa_weak pa_nil fun σ H Q q => by
  obtain ⟨G, sl, os, sl', r, e, q⟩ := q
  simp only [evAs] at e
  cases e
  exact q [] G H r (Same.refl _) .nil
theorem pa_as_val {c : Ex} {cs : Exs} {e : Expr} {es : List Expr} {refs : List Bool} (he : EE X ap C c e) (hs : PA X es (rdAs X.K ap C am refs cs)) (n : noStar e = true) : PA X (e :: es) (rdAs X.K ap C am (false :: refs) (.cons c cs)) :=
  pa_weak (pa_cons (he.val (am := am)) hs (star_cons n)) fun σ H Q q => by
    obtain ⟨G, sl, os, sl', r, e, q⟩ := q
    simp only [evAs] at e
    split at e
    · rename_i d fr sl1 e1
      split at e
      · rename_i os' sl2 e2
        cases e
        refine ⟨G, sl, d, fr, sl1, r, e1, fun x G1 H1 r1 g1 o1 => ⟨G1, sl1, os', _, r1, e2, fun xs G2 H2 r2 g2 o2 => q _ G2 H2 r2 (Same.trans g1 g2) (.val (o1.mono g2) o2)⟩⟩
      · cases e
    · cases e
theorem pa_as_lent {i : Nat} {cs : Exs} {e : Expr} {es : List Expr} {refs : List Bool} (he : PE X e (tVar i)) (hs : PA X es (rdAs X.K ap C am refs cs)) (n : noStar e = true) : PA X (e :: es) (rdAs X.K ap C am (true :: refs) (.cons (.v i) cs)) :=
  pa_weak (pa_cons he hs (star_cons n)) fun σ H Q q => by
    obtain ⟨G, sl, os, sl', r, e, q⟩ := q
    simp only [evAs] at e
    split at e
    · rename_i hm
      split at e
      · rename_i os' sl2 e2
        cases e
        unfold mutAt at hm
        split at hm
        · rename_i x hx
          obtain ⟨w, ew⟩ : ∃ w, σ[i]? = some w := ⟨_, List.getElem?_eq_getElem (l := σ) (i := i) (by rw [← r.len]; exact (List.getElem?_eq_some_iff.mp hx).1)⟩
          have hr := r.rel i x w hx ew
          have hv : ∃ v, w = some v := by
            cases x with
            | un => cases hm
            | val d => cases hm
            | own d => obtain ⟨a, h, _⟩ := hr; exact ⟨_, h⟩
            | bor d => obtain ⟨a, h, _⟩ := hr; exact ⟨_, h⟩
          obtain ⟨v, rfl⟩ := hv
          exact ⟨v, ew, ⟨G, sl, os', _, r, e2, fun xs G2 H2 r2 g2 o2 => q _ G2 H2 r2 g2 (.lent ew o2)⟩⟩
        · cases hm
      · cases e
    · cases e

theorem AgsOk.length {K : PySem.W.Frag} {σ : St} {G : Hp} {vs : List V} {ags : List Ag} (h : AgsOk K σ G vs ags) : vs.length = ags.length := by
  induction h with
  | nil => rfl
  | val _ _ ih => exact congrArg (· + 1) ih
  | lent _ _ ih => exact congrArg (· + 1) ih
/-- from evaluated arguments to a call's -/
theorem RS.args {K : PySem.W.Frag} {σ : St} {G H : Hp} {sl : Ss} (r : RS K am G H sl σ) {vs : List V} {ags : List Ag} (o : AgsOk K σ G vs ags) : ∀ {args : List (Bool × D)}, agD sl ags = some args → ArgOk K G H vs args ∧
    (∀ (k j : Nat), (Ag.slots ags)[k]? = some j → ∃ (a : Addr) (x : Sl), (refA vs args)[k]? = some a ∧ sl[j]? = some x ∧ x.mut = true ∧ σ[j]? = some (some (.ref a))) ∧ (refA vs args).length = (Ag.slots ags).length := by
  induction o with
  | nil =>
    intro args e
    cases e
    exact ⟨.nil, fun k j h => by simp [Ag.slots] at h, rfl⟩
  | @val v vs d r' h _ ih =>
    intro args e
    unfold agD at e
    split at e
    · cases e
      obtain ⟨h1, h2, h3⟩ := ih ‹_›
      refine ⟨.val h h1, fun k j hk => ?_, ?_⟩
      · obtain ⟨a, x, q1, q2⟩ := h2 k j hk
        refine ⟨a, x, ?_, q2⟩
        cases v <;> exact q1
      · cases v <;> exact h3
    · cases e
  | lent h _ ih =>
    intro args e
    unfold agD at e
    split at e
    · rename_i d l hx hl
      cases e
      obtain ⟨h1, h2, h3⟩ := ih hl
      obtain ⟨a, q1, q2, q3, q4, q5⟩ := r.rel _ _ _ hx h
      cases q1
      refine ⟨.lent q2 q5 h1, fun k j hk => ?_, congrArg (· + 1) h3⟩
      cases k with
      | zero =>
        simp only [Ag.slots, List.getElem?_cons_zero, Option.some.injEq] at hk
        subst hk
        exact ⟨a, _, rfl, hx, rfl, h⟩
      | succ k => exact h2 k j (by simpa [Ag.slots] using hk)
    · rename_i d l hx hl
      cases e
      obtain ⟨h1, h2, h3⟩ := ih hl
      obtain ⟨a, q1, q2, q3, q5⟩ := r.rel _ _ _ hx h
      cases q1
      refine ⟨.lent q2 q5 h1, fun k j hk => ?_, congrArg (· + 1) h3⟩
      cases k with
      | zero =>
        simp only [Ag.slots, List.getElem?_cons_zero, Option.some.injEq] at hk
        subst hk
        exact ⟨a, _, rfl, hx, rfl, h⟩
      | succ k => exact h2 k j (by simpa [Ag.slots] using hk)
    · cases e
theorem nodupB_get : ∀ {is : List Nat} {k l j : Nat}, nodupB is = true → is[k]? = some j → is[l]? = some j → k = l
  | [], k, l, j, _, h, _ => by simp at h
  | i :: is, k, l, j, n, h1, h2 => by
    unfold nodupB at n
    simp only [Bool.and_eq_true, Bool.not_eq_true', List.contains_eq_mem, decide_eq_false_iff_not] at n
    cases k with
    | zero =>
      simp only [List.getElem?_cons_zero, Option.some.injEq] at h1
      subst h1
      cases l with
      | zero => rfl
      | succ l => exact absurd (List.mem_of_getElem? (by simpa using h2)) n.1
    | succ k =>
      cases l with
      | zero =>
        simp only [List.getElem?_cons_zero, Option.some.injEq] at h2
        subst h2
        exact absurd (List.mem_of_getElem? (by simpa using h1)) n.1
      | succ l => exact congrArg (· + 1) (nodupB_get n.2 (by simpa using h1) (by simpa using h2))
theorem nodup_of_get {as : List Addr} (h : ∀ (k l : Nat) (a : Addr), as[k]? = some a → as[l]? = some a → k = l) : as.Nodup := by
  rw [List.nodup_iff_pairwise_ne, List.pairwise_iff_getElem]
  intro i j hi hj hij he
  have := h i j as[j] (by rw [List.getElem?_eq_getElem hi, he]) (List.getElem?_eq_getElem hj)
  omega
/-- behind a call -/
theorem RS.call {K : PySem.W.Frag} {σ : St} {G H G' H' : Hp} {sl sl2 : Ss} {is : List Nat} {as : List Addr} {outs : List D} {v : V} {d : D} {fr : Bool} (r : RS K am G H sl σ)
    (hs : ∀ (k j : Nat), is[k]? = some j → ∃ (a : Addr) (x : Sl), as[k]? = some a ∧ sl[j]? = some x ∧ x.mut = true ∧ σ[j]? = some (some (.ref a))) (hl : as.length = is.length) (n : nodupB is = true) (c : CallEnd K G H as outs G' H' v d fr) (b : backS is outs sl = some sl2) :
    RS K am G' H' sl2 σ ∧ Res K am G' H' sl2 σ v d fr := by
  obtain ⟨b1, b2, b3, b4⟩ := backS_spec b n
  -- what is not lent stays
  have other : ∀ {j : Nat} {x : Sl} {a : Addr}, j ∉ is → sl[j]? = some x → x.mut = true → σ[j]? = some (some (.ref a)) → a ∉ as := fun {j x a} hj hx hm hσ ha => by
    obtain ⟨k, hk⟩ := List.getElem?_of_mem ha
    obtain ⟨i, hi⟩ : ∃ i, is[k]? = some i := ⟨_, List.getElem?_eq_getElem (by rw [← hl]; exact (List.getElem?_eq_some_iff.mp hk).1)⟩
    obtain ⟨a', y, q1, q2, q3, q4⟩ := hs k i hi
    rw [hk] at q1; cases q1
    have := r.inj j i x y a hx q2 hm q3 hσ q4
    subst this
    exact hj (List.mem_of_getElem? hi)
  have back : ∀ (j : Nat) (y : Sl), sl2[j]? = some y → (j ∉ is ∧ sl[j]? = some y) ∨ ∃ k a d x, is[k]? = some j ∧ as[k]? = some a ∧ outs[k]? = some d ∧ sl[j]? = some x ∧ x.mut = true ∧ σ[j]? = some (some (.ref a)) ∧ ((∃ d0, x = .own d0 ∧ y = .own d) ∨ ∃ d0, x = .bor d0 ∧ y = .bor d) := fun j y hy => by
    by_cases hj : j ∈ is
    · obtain ⟨k, hk⟩ := List.getElem?_of_mem hj
      obtain ⟨a, x, q1, q2, q3, q4⟩ := hs k j hk
      obtain ⟨d, hd⟩ : ∃ d, outs[k]? = some d := ⟨_, List.getElem?_eq_getElem (by rw [← b1]; exact (List.getElem?_eq_some_iff.mp hk).1)⟩
      refine .inr ⟨k, a, d, x, hk, q1, hd, q2, q3, q4, ?_⟩
      rcases b4 k j d hk hd with ⟨d0, z1, z2⟩ | ⟨d0, z1, z2⟩
      · rw [q2] at z1; cases z1
        rw [hy] at z2; cases z2
        exact .inl ⟨d0, rfl, rfl⟩
      · rw [q2] at z1; cases z1
        rw [hy] at z2; cases z2
        exact .inr ⟨d0, rfl, rfl⟩
    · rw [b3 j hj] at hy
      exact .inl ⟨hj, hy⟩
  have gnone : ∀ {a : Addr} {u : HO}, G a = none → H a = some u → G' a = none := fun {a u} h1 h2 => by
    cases q : G' a with
    | none => rfl
    | some z =>
      rcases c.nw a (by rw [q]; exact fun h => nomatch h) with h | h
      · exact absurd h1 h
      · rw [h2] at h; cases h
  have mutOld : ∀ (j : Nat) (y : Sl), sl2[j]? = some y → y.mut = true → ∃ x, sl[j]? = some x ∧ x.mut = true := fun j y hy hm => by
    rcases back j y hy with ⟨_, h⟩ | ⟨k, a, d, x, _, _, _, h, hm', _, _⟩
    · exact ⟨y, h, hm⟩
    · exact ⟨x, h, hm'⟩
  have hA : ∀ a ∈ as, am.A a := fun a ha => by
    obtain ⟨k, hk⟩ := List.getElem?_of_mem ha
    obtain ⟨i, hi⟩ : ∃ i, is[k]? = some i := ⟨_, List.getElem?_eq_getElem (by rw [← hl]; exact (List.getElem?_eq_some_iff.mp hk).1)⟩
    obtain ⟨a', y, q1, q2, q3, q4⟩ := hs k i hi
    rw [hk] at q1; cases q1
    have := r.rel i y _ q2 q4
    cases y with
    | un => cases q3
    | val d => cases q3
    | own d => obtain ⟨b, z1, _, z3, _⟩ := this; cases z1; exact z3
    | bor d => obtain ⟨b, z1, _, z3, _⟩ := this; cases z1; exact z3
  have R : RS K am G' H' sl2 σ := by
    refine ⟨c.gh, by rw [b2]; exact r.len, fun j y w e1 e2 => ?_, fun i j x y a e1 e2 m1 m2 => ?_, fun p hp => r.fresh p ?_, fun b o e nA => c.frame b o (r.frame b o e nA) fun z => nA (hA b z), fun b e => c.dom b (r.dom b e), fun b e => ?_, Same.trans r.g0 c.gg, fun p hp => ?_⟩
    · rcases back j y e1 with ⟨hj, h⟩ | ⟨k, a, d, x, hk, ha, hd, hx, hm, hσ, hc⟩
      · have q := r.rel j y w h e2
        cases y with
        | un => trivial
        | val d => obtain ⟨v, h1, h2⟩ := q; exact ⟨v, h1, h2.mono c.gg⟩
        | own d =>
          obtain ⟨a, h1, h2, h3, h4, h5⟩ := q
          subst h1
          obtain ⟨u, hu, _⟩ := h5.some
          refine ⟨a, rfl, gnone h2 hu, h3, h4, ?_⟩
          rw [c.frame a u hu (other hj h rfl e2), ← hu]
          exact h5.mono c.gg
        | bor d =>
          obtain ⟨a, h1, h2, h3, h5⟩ := q
          subst h1
          obtain ⟨u, hu, _⟩ := h5.some
          refine ⟨a, rfl, gnone h2 hu, h3, ?_⟩
          rw [c.frame a u hu (other hj h rfl e2), ← hu]
          exact h5.mono c.gg
      · rw [hσ] at e2; cases e2
        have ho := c.outs.get ha hd
        have q := r.rel j x _ hx hσ
        rcases hc with ⟨d0, rfl, rfl⟩ | ⟨d0, rfl, rfl⟩
        · obtain ⟨b, h1, h2, h3, h4, h5⟩ := q
          cases h1
          obtain ⟨u, hu, _⟩ := h5.some
          exact ⟨a, rfl, gnone h2 hu, h3, h4, ho⟩
        · obtain ⟨b, h1, h2, h3, h5⟩ := q
          cases h1
          obtain ⟨u, hu, _⟩ := h5.some
          exact ⟨a, rfl, gnone h2 hu, h3, ho⟩
    · obtain ⟨x', h1, m1'⟩ := mutOld i x e1 m1
      obtain ⟨y', h2, m2'⟩ := mutOld j y e2 m2
      exact r.inj i j x' y' a h1 h2 m1' m2'
    · cases z : H p with
      | none => rfl
      | some o => exact absurd hp (c.dom p (by rw [z]; exact fun h => nomatch h))
    · rcases c.nw b e with h | h
      · exact r.gg b h
      · exact .inr (r.fresh b h).1
    · obtain ⟨q1, d', q2⟩ := r.pin p hp
      refine ⟨q1, ?_⟩
      by_cases hj : p.1 ∈ is
      · obtain ⟨k, hk⟩ := List.getElem?_of_mem hj
        obtain ⟨d2, hd⟩ : ∃ d, outs[k]? = some d := ⟨_, List.getElem?_eq_getElem (by rw [← b1]; exact (List.getElem?_eq_some_iff.mp hk).1)⟩
        rcases b4 k _ d2 hk hd with ⟨d0, z1, z2⟩ | ⟨d0, z1, z2⟩
        · rw [q2] at z1; cases z1
        · exact ⟨d2, z2⟩
      · exact ⟨d', by rw [b3 _ hj]; exact q2⟩
  refine ⟨R, ?_⟩
  have rs := c.res
  cases fr with
  | false => exact rs
  | true =>
    obtain ⟨a, h1, h2, h3, h4⟩ := rs
    refine ⟨a, h1, h3, (r.fresh a h2).1, (r.fresh a h2).2, h4, fun i x e m q => ?_⟩
    obtain ⟨x', h5, m'⟩ := mutOld i x e m
    obtain ⟨⟨u, hu⟩, _⟩ := r.mutAt h5 m' q
    rw [h2] at hu; cases hu

/-- an own function, as it stands -/
structure FnLk (X : Cx) (C : CallT) (f : Nat) (np : Nat) (x : Str) : Prop where
  ex : ∃ (k : Nat) (fa : Addr) (fd : FuncData) (ps : List Str), FnG X.prog X.w X.K X.mg X.base k fa fd ps (spF X.K C f np) ∧ RoomG k X.A ∧ X.mg x = some (.ref fa) ∧ PySem.W.keepIn X.K (.ref fa) = true ∧ Binds X.K fd ps []
theorem ee_call {f : Nat} {refs : List Bool} {x : Str} {c : Ex} {cs : Exs} {e : Expr} {es : List Expr} {p pos : Pos} (F : FnLk X C f refs.length x) (hg : Gl X x) (ha : ∀ am, PA X (e :: es) (rdAs X.K ap C am refs (.cons c cs)))
    (hs : (e :: es).all noStar = true) (hdb : (x == ("__debug__" : Str)) = false) (hlen : ∀ sl ags sl', evAs ap C refs (.cons c cs) sl = some (ags, sl') → ags.length = refs.length) : EE X ap C (.call f refs (.cons c cs)) (.Call (.Name x p) (e :: es) [] pos) := fun am => by
  obtain ⟨k, fa, fd, ps, G, hr, hm, hk, hb⟩ := F.ex
  rw [List.all_cons, Bool.and_eq_true] at hs
  refine pe_weak (pe_callG G hr hg hm hk hb (ha am) hdb (star_cons hs.1) (star_plain hs.2)) fun σ H Q q => ?_
  obtain ⟨G, sl, d, fr, sl', r, e, q⟩ := q
  simp only [evE] at e
  split at e
  · rename_i ags sl1 e1
    split at e
    · rename_i args n e2
      split at e
      · rename_i d' fr' outs e3
        split at e
        · rename_i sl2 e4
          cases e
          refine ⟨G, sl, ags, sl1, r, e1, fun vs G1 H1 r1 g1 o1 => ?_⟩
          obtain ⟨h1, h2, h3⟩ := r1.args o1 e2
          show spF X.K C f refs.length vs H1 Q
          have hlen' : args.length = refs.length := by
            rw [← h1.length]
            rw [o1.length]
            exact hlen _ _ _ e1
          refine ⟨G1, args, d, fr, outs, hlen', r1.sub, h1, nodup_of_get fun k l a q1 q2 => ?_, e3, fun v G' H' c => ?_⟩
          · obtain ⟨i, hi⟩ : ∃ i, (Ag.slots ags)[k]? = some i := ⟨_, List.getElem?_eq_getElem (by rw [← h3]; exact (List.getElem?_eq_some_iff.mp q1).1)⟩
            obtain ⟨j, hj⟩ : ∃ i, (Ag.slots ags)[l]? = some i := ⟨_, List.getElem?_eq_getElem (by rw [← h3]; exact (List.getElem?_eq_some_iff.mp q2).1)⟩
            obtain ⟨a1, x1, z1, z2, z3, z4⟩ := h2 k i hi
            obtain ⟨a2, x2, y1, y2, y3, y4⟩ := h2 l j hj
            rw [q1] at z1; cases z1
            rw [q2] at y1; cases y1
            have := r1.inj i j _ _ _ z2 y2 z3 y3 z4 y4
            subst this
            exact nodupB_get n hi hj
          · obtain ⟨r2, rs⟩ := r1.call h2 h3 n c e4
            exact q v G' H' r2 (Same.trans g1 c.gg) rs
        · cases e
      · cases e
    · cases e
  · cases e
/-- without arguments -/
theorem ee_call0 {f : Nat} {x : Str} {p pos : Pos} (F : FnLk X C f 0 x) (hg : Gl X x) (hdb : (x == ("__debug__" : Str)) = false) : EE X ap C (.call f [] .nil) (.Call (.Name x p) [] [] pos) := fun am => by
  obtain ⟨k, fa, fd, ps, G, hr, hm, hk, hb⟩ := F.ex
  refine pe_weak (pe_callG0 G hr hg hm hk hb hdb) fun σ H Q q => ?_
  obtain ⟨G, sl, d, fr, sl', r, e, q⟩ := q
  simp only [evE, evAs, Ag.slots, nodupB, agD] at e
  split at e
  · rename_i d' fr' outs e3
    cases outs with
    | nil =>
      simp only [backS] at e
      cases e
      refine ⟨G, [], d, fr, [], rfl, r.sub, .nil, List.nodup_nil, e3, fun v G' H' c => ?_⟩
      obtain ⟨r2, rs⟩ := r.call (is := []) (as := []) (outs := []) (sl2 := sl) (fun k j hk => by simp at hk) rfl rfl c rfl
      exact q v G' H' r2 c.gg rs
    | cons o os => simp only [backS] at e; cases e
  · cases e
end
end EV
namespace EV
open PySem PySem.Spec L2
open PyProof.Rows hiding St

/-! ### calls by keywords -/
def isLit : D → Bool
  | .none => true
  | .bool _ => true
  | .int _ => true
  | .str _ => true
  | _ => false
def litV : D → V
  | .bool b => .bl b
  | .int i => .int i
  | .str x => .str x
  | _ => .non
theorem Rp.lit {K : PySem.W.Frag} {G : Hp} : ∀ {d : D}, isLit d = true → Rp K G (litV d) d
  | .none, _ => .non
  | .bool b, _ => .bl b
  | .int i, _ => .int i
  | .str x, _ => .str x
  | .list _, h => (nomatch h)
  | .tuple _, h => (nomatch h)
  | .dict _, h => (nomatch h)
def fillV : List (Option D) → List V → List V
  | [], _ => []
  | none :: t, z :: zs => z :: fillV t zs
  | none :: _, [] => []
  | some d :: t, zs => litV d :: fillV t zs
def litTail (tail : List (Option D)) : Bool := tail.all fun o => match o with
  | none => true
  | some d => isLit d
theorem fill_rp {K : PySem.W.Frag} {G : Hp} : ∀ {tail : List (Option D)} {vs : List V} {ds ts : List D}, litTail tail = true → RpA K G vs ds → fillD tail ds = some ts → RpA K G (fillV tail vs) ts
  | [], _, _, ts, _, .nil, e => by cases e; exact .nil
  | [], _, _, ts, _, .cons _ _, e => by cases e
  | none :: t, _, _, ts, _, .nil, e => by cases e
  | none :: t, _, _, ts, l, .cons h r, e => by
    simp only [fillD] at e
    cases h1 : fillD t _ with
    | none => rw [h1] at e; cases e
    | some xs =>
      rw [h1] at e; cases e
      simp only [litTail, List.all_cons, Bool.and_eq_true] at l
      exact .cons h (fill_rp l.2 r h1)
  | some d :: t, vs, ds, ts, l, r, e => by
    have e : (fillD t ds).map (d :: ·) = some ts := by
      cases ds <;> exact e
    cases h1 : fillD t ds with
    | none => rw [h1] at e; cases e
    | some xs =>
      rw [h1] at e; cases e
      simp only [litTail, List.all_cons, Bool.and_eq_true] at l
      exact .cons (.lit l.1) (fill_rp l.2 r h1)
/-- an own function that is called with keywords -/
structure FnLkK (X : Cx) (C : CallT) (f n : Nat) (ks : List Str) (tail : List (Option D)) (x : Str) : Prop where
  ex : ∃ (k : Nat) (fa : Addr) (fd : FuncData) (ps : List Str) (g : List Value → List Value → List Value) (gV : List V → List V → List V), FnG X.prog X.w X.K X.mg X.base k fa fd ps (spF X.K C f (n + tail.length)) ∧ RoomG k X.A ∧ X.mg x = some (.ref fa) ∧ PySem.W.keepIn X.K (.ref fa) = true ∧ KBn X.K fd ps n ks g gV ∧
    (∀ vs zs, vs.length = n → zs.length = ks.length → gV vs zs = vs ++ fillV tail zs) ∧ litTail tail = true
section
variable {X : Cx} {ap : ApB} {C : CallT} {am : Amb}
theorem pk_weak {kws : List Keyword} {t t' : TA} (h : PK X kws t) (w : ∀ σ H Q, t' σ H Q → t σ H Q) : PK X kws t' := ⟨fun pos pins s σ H Q I q => h.run pos pins s σ H Q I (w σ H Q q)⟩
theorem pk_es_nil : PK X [] (rdEs X.K ap C am .nil) := pk_weak pk_nil fun σ H Q q => by
  obtain ⟨G, sl, os, sl', r, e, q⟩ := q
  simp only [evEs] at e
  cases e
  exact q [] G H r (Same.refl _) .nil
theorem pk_es_cons {nm : Option Str} {kpos : Pos} {c : Ex} {cs : Exs} {e : Expr} {kws : List Keyword} (he : EE X ap C c e) (hs : PK X kws (rdEs X.K ap C am cs)) : PK X (⟨nm, e, kpos⟩ :: kws) (rdEs X.K ap C am (.cons c cs)) :=
  pk_weak (pk_cons (he.val (am := am)) hs) fun σ H Q q => by
    obtain ⟨G, sl, os, sl', r, e, q⟩ := q
    simp only [evEs] at e
    split at e
    · rename_i d fr sl1 e1
      split at e
      · rename_i os' sl2 e2
        cases e
        exact ⟨G, sl, d, fr, sl1, r, e1, fun x G1 H1 r1 g1 o1 => ⟨G1, sl1, os', _, r1, e2, fun xs G2 H2 r2 g2 o2 => q _ G2 H2 r2 (Same.trans g1 g2) (.cons (o1.mono g2) o2)⟩⟩
      · cases e
    · cases e
/-- the keywords' names -/
def kwNames : List Keyword → Option (List Str)
  | [] => some []
  | ⟨some x, _, _⟩ :: r => (kwNames r).map (x :: ·)
  | ⟨none, _, _⟩ :: _ => none
theorem kwNames_ok {pos : Pos} {env : Env} : ∀ {kws : List Keyword} {ks : List Str}, kwNames kws = some ks → (backToKw pos (keywordEach kws env)).all (·.1.isSome) = true ∧ (backToKw pos (keywordEach kws env)).filterMap (·.1) = ks ∧ (backToKw pos (keywordEach kws env)).any (·.1.isNone) = false
  | [], _, h => by cases h; exact ⟨rfl, rfl, rfl⟩
  | ⟨some x, e, p⟩ :: r, ks, h => by
    simp only [kwNames] at h
    cases h1 : kwNames r with
    | none => rw [h1] at h; cases h
    | some l =>
      rw [h1] at h; cases h
      obtain ⟨a, b, c⟩ := kwNames_ok (pos := pos) (env := env) h1
      refine ⟨?_, ?_, ?_⟩
      · show (true && (backToKw pos (keywordEach r env)).all (·.1.isSome)) = true
        rw [a]; rfl
      · show x :: (backToKw pos (keywordEach r env)).filterMap (·.1) = x :: l
        rw [b]
      · show (false || (backToKw pos (keywordEach r env)).any (·.1.isNone)) = false
        rw [c]; rfl
  | ⟨none, _, _⟩ :: _, _, h => by cases h
theorem argOk_vals {K : PySem.W.Frag} {G H : Hp} : ∀ {vs : List V} {ds : List D}, RpA K G vs ds → ArgOk K G H vs (ds.map fun d => (false, d)) ∧ refA vs (ds.map fun d => (false, d)) = []
  | _, _, .nil => ⟨.nil, rfl⟩
  | _, _, @RpA.cons _ _ v _ d _ h r => by
    obtain ⟨a, b⟩ := argOk_vals (H := H) r
    exact ⟨.val h a, by cases v <;> exact b⟩
theorem RS.callV {K : PySem.W.Frag} {σ : St} {G H G' H' : Hp} {sl : Ss} {v : V} {d : D} {fr : Bool} (r : RS K am G H sl σ) (c : CallEnd K G H [] [] G' H' v d fr) : RS K am G' H' sl σ ∧ Res K am G' H' sl σ v d fr :=
  r.call (is := []) (fun k j h => by simp at h) rfl rfl c rfl
theorem ee_callK {f n : Nat} {ks : List Str} {tail : List (Option D)} {x : Str} {ca ck : Exs} {e : Expr} {es : List Expr} {kws : List Keyword} {p pos : Pos} (F : FnLkK X C f n ks tail x) (hg : Gl X x) (ha : ∀ am, PA X (e :: es) (rdEs X.K ap C am ca)) (hk : ∀ am, PK X kws (rdEs X.K ap C am ck))
    (hs : (e :: es).all noStar = true) (hdb : (x == ("__debug__" : Str)) = false) (hn : ∀ sl ds sl', evEs ap C ca sl = some (ds, sl') → ds.length = n) (hm : ∀ sl ds sl', evEs ap C ck sl = some (ds, sl') → ds.length = ks.length) (hks : kwNames kws = some ks) (hc : kws = [] → ck = .nil) :
    EE X ap C (.callK f ca ck tail) (.Call (.Name x p) (e :: es) kws pos) := fun am => by
  obtain ⟨k, fa, fd, ps, g, gV, G, hr, hmg, hkp, hb, hgv, hlit⟩ := F.ex
  rw [List.all_cons, Bool.and_eq_true] at hs
  have hst := star_cons (es := es) (env := X.env) hs.1
  have hpl := star_plain (pos := pos) (env := X.env) hs.2
  -- behind the arguments
  have behind : ∀ {pins : List (Addr × Obj)} {s : Shared} {σ : St} {H1 : Hp} {Q : VK} {us ws : List Value} {vs zs : List V} {G1 : Hp} {sl1 : Ss} {ds es : List D} {ts : List D} {d : D} {fr : Bool}, Inv X pins σ H1 s → RS X.K am G1 H1 sl1 σ → Vals vs us → Vals zs ws → RpA X.K G1 vs ds → RpA X.K G1 zs es → vs.length = n → zs.length = ks.length →
      fillD tail es = some ts → C f ((ds ++ ts).map fun d => (false, d)) = some (d, fr, []) → (∀ v G' H', RS X.K am G' H' sl1 σ → Same G1 G' → Res X.K am G' H' sl1 σ v d fr → Q v H') → wpAny (model X.prog X.w) X.A (call (.ref fa) us (ks.zip ws)) (EP X pins σ Q) X.xe s := by
    intro pins s σ H1 Q us ws vs zs G1 sl1 ds es ts d fr I r rv rz oa ok l1 l2 e1 e2 q
    have rel := hb.rel rv rz
    rw [hgv vs zs l1 l2] at rel
    have oall := oa.append (fill_rp hlit ok e1)
    obtain ⟨b1, b2⟩ := argOk_vals (H := H1) oall
    have hlen : (ds ++ ts).length = n + tail.length := by
      have : ts.length = tail.length := by
        clear e2 q b1 b2 oall
        revert es ts
        intro es ts ok e1
        have : ∀ (t : List (Option D)) (es ts : List D), fillD t es = some ts → ts.length = t.length := by
          intro t
          induction t with
          | nil => intro es ts h; cases es <;> cases h; rfl
          | cons o t ih =>
            intro es ts h
            cases o with
            | none =>
              cases es with
              | nil => cases h
              | cons e es =>
                simp only [fillD] at h
                cases h1 : fillD t es with
                | none => rw [h1] at h; cases h
                | some xs => rw [h1] at h; cases h; exact congrArg (· + 1) (ih _ _ h1)
            | some d =>
              have h : (fillD t es).map (d :: ·) = some ts := by cases es <;> exact h
              cases h1 : fillD t es with
              | none => rw [h1] at h; cases h
              | some xs => rw [h1] at h; cases h; exact congrArg (· + 1) (ih _ _ h1)
        exact this _ _ _ e1
      rw [List.length_append, this, ← oa.length, l1]
    have b := hb.to s us ws I.kIn (by rw [← rv.length, l1]) (by rw [← rz.length, l2])
    refine runG G hr I b rel ⟨G1, (ds ++ ts).map fun d => (false, d), d, fr, [], by rw [List.length_map, hlen], r.sub, b1, by rw [b2]; exact List.nodup_nil, e2, fun v G' H' c => ?_⟩
    rw [b2] at c
    obtain ⟨r2, rs⟩ := r.callV c
    exact q v G' H' r2 c.gg rs
  refine ⟨fun pins s σ H Q I q => ?_⟩
  obtain ⟨G, sl, d, fr, sl', r, e0, q⟩ := q
  simp only [evE] at e0
  split at e0
  · rename_i ds sl1 e1
    split at e0
    · rename_i es2 sl2 e2
      split at e0
      · rename_i ts e3
        split at e0
        · rename_i d' fr' e4
          cases e0
          apply wpAny_Call_Name_kw (ld_glob I hg hmg ?_ hdb)
          cases kws with
          | nil =>
            cases hks
            cases hc rfl
            simp only [evEs] at e2
            cases e2
            refine PySem.W.callWith_K (h₀ := X.base) I.ok.mod.kin hkp (thn ((ha am).run pos pins s σ H _ I ⟨G, sl, ds, sl', r, e1, fun vs G1 H1 r1 g1 o1 => (⟨G1, r1, g1, o1⟩ : ∃ G1, RS X.K am G1 H1 sl' σ ∧ Same G G1 ∧ RpA X.K G1 vs ds)⟩) ?_) hst hpl
            rintro us s1 ⟨vs, H1, I1, rv, G1, r1, g1, o1⟩
            refine ⟨I1.kIn, ?_⟩
            exact behind (ws := []) (zs := []) I1 r1 rv .nil o1 .nil (by rw [o1.length]; exact hn _ _ _ e1) rfl e3 e4 fun v G' H' r' g' rs => q v G' H' r' (Same.trans g1 g') rs
          | cons kw kws =>
            obtain ⟨n1, n2, n3⟩ := kwNames_ok (pos := pos) (env := X.env) hks
            refine PySem.W.callWith_KW (h₀ := X.base) I.ok.mod.kin hkp n1 (thn ((ha am).run pos pins s σ H _ I ⟨G, sl, ds, sl1, r, e1, fun vs G1 H1 r1 g1 o1 => (⟨G1, r1, g1, o1⟩ : ∃ G1, RS X.K am G1 H1 sl1 σ ∧ Same G G1 ∧ RpA X.K G1 vs ds)⟩) ?_) ?_ hst
            · rintro us s1 ⟨vs, H1, I1, rv, G1, r1, g1, o1⟩
              refine thn ((hk am).run pos pins s1 σ H1 _ I1 ⟨G1, sl1, es2, sl', r1, e2, fun zs G2 H2 r2 g2 o2 => (⟨G2, r2, g2, o2⟩ : ∃ G2, RS X.K am G2 H2 sl' σ ∧ Same G1 G2 ∧ RpA X.K G2 zs es2)⟩) ?_
              rintro ws s2 ⟨zs, H2, I2, rz, G2, r2, g2, o2⟩
              refine ⟨I2.kIn, ?_⟩
              rw [n2]
              exact behind I2 r2 rv rz (o1.mono g2) o2 (by rw [o1.length]; exact hn _ _ _ e1) (by rw [o2.length]; exact hm _ _ _ e2) e3 e4 fun v G' H' r' g' rs => q v G' H' r' (Same.trans g1 (Same.trans g2 g')) rs
            · rw [hst, n3]
              show ((false || (backTo pos (starEach es X.env)).any (·.1)) || false) = false
              rw [hpl]
              rfl
        · cases e0
      · cases e0
    · cases e0
  · cases e0
/-- a call of what a place holds -/
theorem ee_callV {i n : Nat} {cs : List (Str × Nat)} {x : Str} {ca : Exs} {e : Expr} {es : List Expr} {p pos : Pos} (F : ∀ y f, cs.lookup y = some f → FnLk X C f n y) (ns : ∀ y u, PySem.W.nsIn X.K mainGlobals y = some (some u) → X.mg y = some u) (hv : PE X (.Name x p) (tVar i)) (ha : ∀ am, PA X (e :: es) (rdEs X.K ap C am ca))
    (hs : (e :: es).all noStar = true) (hn : ∀ sl ds sl', evEs ap C ca sl = some (ds, sl') → ds.length = n) : EE X ap C (.callV i cs ca) (.Call (.Name x p) (e :: es) [] pos) := fun am => by
  rw [List.all_cons, Bool.and_eq_true] at hs
  refine pe_weak (pe_callGV (S := fun fa sp => ∃ y f, cs.lookup y = some f ∧ X.mg y = some (.ref fa) ∧ sp = spF X.K C f n) (fun fa sp h => ?_) hv (ha am) (star_cons hs.1) (star_plain hs.2)) fun σ H Q q => ?_
  · obtain ⟨y, f, h1, h2, rfl⟩ := h
    obtain ⟨k, fa', fd, ps, G, hr, hm, hk, hb⟩ := (F y f h1).ex
    rw [h2] at hm
    cases hm
    exact ⟨k, fd, ps, G, hr, hk, hb⟩
  · obtain ⟨G, sl, d, fr, sl', r, e, q⟩ := q
    simp only [evE] at e
    split at e
    · rename_i f hf
      split at e
      · rename_i ds sl1 e1
        split at e
        · rename_i d' fr' e2
          cases e
          unfold fnAt at hf
          split at hf
          · rename_i dv hx
            cases hd : fnName dv with
            | none => rw [hd] at hf; cases hf
            | some y =>
              rw [hd] at hf
              simp only [Option.bind_some] at hf
              have hi : i < sl.length := (List.getElem?_eq_some_iff.mp hx).1
              have ew := List.getElem?_eq_getElem (l := σ) (i := i) (by rw [← r.len]; exact hi)
              obtain ⟨v, h1, h2⟩ := r.rel i _ _ hx ew
              rw [h1] at ew
              unfold fnName at hd
              split at hd
              · cases hd
                obtain ⟨fa, rfl, hns⟩ : ∃ fa, v = .ref fa ∧ PySem.W.nsIn X.K mainGlobals y = some (some (.ref fa)) := by
                  generalize hdd : PyData.dict [(.none, .str y)] = dd at h2
                  cases h2 with
                  | fn h => injection hdd with hdd; injection hdd with hdd _; injection hdd with _ hdd; injection hdd with hdd; subst hdd; exact ⟨_, rfl, h⟩
                  | scr h => injection hdd with hdd; injection hdd with hdd _; injection hdd with _ hdd; cases hdd
                  | dct k1 k2 =>
                    injection hdd with hdd
                    subst hdd
                    generalize hk : (PyData.none, PyData.str y) = pp at k2
                    generalize hl : [pp] = l at k2
                    cases k2 with
                    | nil => cases hl
                    | cons h3 h4 =>
                      rename_i k _ _ _ _
                      injection hl with hl _
                      subst hl
                      injection hk with hk _
                      cases k <;> cases hk
                  | _ => cases hdd
                refine ⟨fa, _, ew, ⟨y, f, hf, ns _ _ hns, rfl⟩, G, sl, ds, sl', r, e1, fun vs G1 H1 r1 g1 o1 => ?_⟩
                obtain ⟨b1, b2⟩ := argOk_vals (H := H1) o1
                refine ⟨G1, ds.map fun d => (false, d), d, fr, [], by rw [List.length_map]; exact hn _ _ _ e1, r1.sub, b1, by rw [b2]; exact List.nodup_nil, e2, fun v G' H' c => ?_⟩
                rw [b2] at c
                obtain ⟨r2, rs⟩ := r1.callV c
                exact q v G' H' r2 (Same.trans g1 c.gg) rs
              · cases hd
          · cases hf
        · cases e
      · cases e
    · cases e
end
end EV
namespace EV
open PySem PySem.Spec L2
open PyProof.Rows hiding St
section
variable {K : PySem.W.Frag} {am : Amb} {σ : St} {G H : Hp} {sl : Ss}
theorem RS.lt (r : RS K am G H sl σ) {i : Nat} {x : Sl} (h : sl[i]? = some x) : i < sl.length ∧ i < σ.length := by
  have hi : i < sl.length := (List.getElem?_eq_some_iff.mp h).1
  exact ⟨hi, by rw [← r.len]; exact hi⟩
/-- a slot is stored -/
theorem RS.set (r : RS K am G H sl σ) {i : Nat} {x y : Sl} {v : V} (hx : sl[i]? = some x) (nb : ∀ d, x ≠ .bor d) (ok : SlOk K am.A am.N G H (some v) y)
    (nm : y.mut = true → ∀ a, v = .ref a → ∀ (j : Nat) (z : Sl), sl[j]? = some z → z.mut = true → σ[j]? ≠ some (some (.ref a))) : RS K am G H (sl.set i y) (σ.set i (some v)) := by
  obtain ⟨h1, h2⟩ := r.lt hx
  refine ⟨r.sub, by rw [List.length_set, List.length_set]; exact r.len, fun j z w e1 e2 => ?_, fun j k z u a e1 e2 m1 m2 s1 s2 => ?_, r.fresh, r.frame, r.dom, r.gg, r.g0, fun p hp => ?_⟩
  · by_cases hj : j = i
    · subst hj
      rw [List.getElem?_set_self h1] at e1
      rw [List.getElem?_set_self h2] at e2
      cases e1; cases e2
      exact ok
    · rw [List.getElem?_set_ne (Ne.symm hj)] at e1 e2
      exact r.rel j z w e1 e2
  · by_cases hj : j = i
    · by_cases hk : k = i
      · rw [hj, hk]
      · subst hj
        rw [List.getElem?_set_self h1] at e1
        rw [List.getElem?_set_self h2] at s1
        rw [List.getElem?_set_ne (Ne.symm hk)] at e2 s2
        cases e1
        injection s1 with s1; injection s1 with s1
        exact absurd s2 (nm m1 a s1 k u e2 m2)
    · by_cases hk : k = i
      · subst hk
        rw [List.getElem?_set_self h1] at e2
        rw [List.getElem?_set_self h2] at s2
        rw [List.getElem?_set_ne (Ne.symm hj)] at e1 s1
        cases e2
        injection s2 with s2; injection s2 with s2
        exact absurd s1 (nm m2 a s2 j z e1 m1)
      · rw [List.getElem?_set_ne (Ne.symm hj)] at e1 s1
        rw [List.getElem?_set_ne (Ne.symm hk)] at e2 s2
        exact r.inj j k z u a e1 e2 m1 m2 s1 s2
  · obtain ⟨q1, d', q2⟩ := r.pin p hp
    have hne : i ≠ p.1 := fun z => by rw [← z, hx] at q2; exact nb d' (Option.some.inj q2)
    exact ⟨by rw [List.getElem?_set_ne hne]; exact q1, d', by rw [List.getElem?_set_ne hne]; exact q2⟩
theorem RS.setVal (r : RS K am G H sl σ) {i : Nat} {x : Sl} {v : V} {d : D} (hx : sl[i]? = some x) (nb : ∀ d, x ≠ .bor d) (p : Rp K G v d) : RS K am G H (sl.set i (.val d)) (σ.set i (some v)) :=
  r.set hx nb ⟨v, rfl, p⟩ fun z => Bool.noConfusion z
theorem RS.setOwn (r : RS K am G H sl σ) {i : Nat} {x : Sl} {v : V} {d : D} (hx : sl[i]? = some x) (nb : ∀ d, x ≠ .bor d) (p : Res K am G H sl σ v d true) : RS K am G H (sl.set i (.own d)) (σ.set i (some v)) := by
  obtain ⟨a, rfl, h2, h3, h4, h5, h6⟩ := p
  exact r.set hx nb ⟨a, rfl, h2, h3, h4, h5⟩ fun _ b e j z hz m => by cases e; exact h6 j z hz m
end

/-! ### targets -/
section
variable {X : Cx} {ap : ApB} {C : CallT} {am : Amb}
/-! the slots of a target -/
mutual
def Tg.sls : Tg → List Nat
  | .n i => [i]
  | .t ts _ => Tgs.sls ts
  | .st a i b => Tgs.sls a ++ (i :: Tgs.sls b)
def Tgs.sls : Tgs → List Nat
  | .nil => []
  | .cons t r => Tg.sls t ++ Tgs.sls r
end
/-- the places but those of vs are as they were -/
def Agr (vs : List Nat) (σ σ' : St) : Prop := σ'.length = σ.length ∧ ∀ j, j ∉ vs → σ'[j]? = σ[j]?
theorem Agr.refl (vs : List Nat) (σ : St) : Agr vs σ σ := ⟨rfl, fun _ _ => rfl⟩
theorem Agr.trans {us vs : List Nat} {σ σ1 σ2 : St} (a : Agr us σ σ1) (b : Agr vs σ1 σ2) : Agr (us ++ vs) σ σ2 := ⟨b.1.trans a.1, fun j hj => by
  rw [List.mem_append, not_or] at hj
  rw [b.2 j hj.2, a.2 j hj.1]⟩
def rdG (K : PySem.W.Frag) (am : Amb) (t : Tg) : TG := fun v σ H Q => ∃ G sl d sl', RS K am G H sl σ ∧ Rp K G v d ∧ asgT t d sl = some sl' ∧ ∀ σ', RS K am G H sl' σ' → Agr t.sls σ σ' → Q σ' H
def rdGs (K : PySem.W.Frag) (am : Amb) (t : Tgs) : TGs := fun vs σ H Q => ∃ G sl ds sl', RS K am G H sl σ ∧ RpA K G vs ds ∧ asgTs t ds sl = some sl' ∧ ∀ σ', RS K am G H sl' σ' → Agr t.sls σ σ' → Q σ' H
theorem pg_weak {e : Expr} {t t' : TG} (h : PG X e t) (w : ∀ v σ H Q, t' v σ H Q → t v σ H Q) : PG X e t' := ⟨fun pins s σ H v u Q I r q => h.run pins s σ H v u Q I r (w v σ H Q q)⟩
theorem pgs_weak {e : List Expr} {t t' : TGs} (h : PGs X e t) (w : ∀ v σ H Q, t' v σ H Q → t v σ H Q) : PGs X e t' := ⟨fun pins s σ H v u Q I r q => h.run pins s σ H v u Q I r (w v σ H Q q)⟩
abbrev EG (X : Cx) (t : Tg) (e : Expr) : Prop := ∀ am, PG X e (rdG X.K am t)
theorem eg_n {i : Nat} {e : Expr} (h : PG X e (gName i)) : EG X (.n i) e := fun am => pg_weak h fun v σ H Q q => by
  obtain ⟨G, sl, d, sl', r, p, e, q⟩ := q
  simp only [asgT] at e
  split at e
  · cases e
  · rename_i x nb hx
    cases e
    exact q _ (r.setVal hx (fun d z => nb d z) p) ⟨List.length_set, fun j hj => List.getElem?_set_ne (fun z => hj (by rw [← z]; exact List.mem_singleton.mpr rfl))⟩
  · cases e
theorem asg_cons {e : Expr} {es : List Expr} {env : Env} (h : noStar e = true) : assignEach (e :: es) env = (false, assign e env) :: assignEach es env := by
  cases e <;> first | rfl | cases h
theorem asg_len {env : Env} : ∀ {es : List Expr}, es.all noStar = true → (assignEach es env).length = es.length ∧ (assignEach es env).findIdx? (·.1) = none
  | [], _ => ⟨rfl, rfl⟩
  | e :: es, h => by
    rw [List.all_cons, Bool.and_eq_true] at h
    obtain ⟨h1, h2⟩ := asg_len (env := env) h.2
    rw [asg_cons h.1]
    refine ⟨congrArg (· + 1) h1, ?_⟩
    rw [List.findIdx?_cons, h2]
    rfl
theorem egs_nil : PGs X [] (rdGs X.K am .nil) := pgs_weak pgs_nil fun v σ H Q q => by
  obtain ⟨G, sl, d, sl', r, p, e, q⟩ := q
  cases d with
  | nil => cases p; simp only [asgTs] at e; cases e; exact ⟨rfl, q _ r (Agr.refl _ _)⟩
  | cons _ _ => simp only [asgTs] at e; cases e
theorem egs_cons {t : Tg} {ts : Tgs} {e : Expr} {es : List Expr} (h1 : EG X t e) (h2 : PGs X es (rdGs X.K am ts)) (n : noStar e = true) : PGs X (e :: es) (rdGs X.K am (.cons t ts)) :=
  pgs_weak (pgs_cons (h1 am) h2 (by rw [asg_cons n]; rfl)) fun v σ H Q q => by
    obtain ⟨G, sl, d, sl', r, p, e, q⟩ := q
    cases d with
    | nil => simp only [asgTs] at e; cases e
    | cons d ds =>
      cases p with
      | cons p1 p2 =>
        simp only [asgTs] at e
        split at e
        · rename_i sl1 e1
          exact ⟨_, _, rfl, G, sl, d, sl1, r, p1, e1, fun σ1 r1 a1 => ⟨G, sl1, ds, sl', r1, p2, e, fun σ2 r2 a2 => q σ2 r2 (a1.trans a2)⟩⟩
        · cases e
def Tgs.len : Tgs → Nat
  | .nil => 0
  | .cons _ r => Tgs.len r + 1
theorem asgTs_len : ∀ {ts : Tgs} {ds : List D} {sl sl' : Ss}, asgTs ts ds sl = some sl' → ds.length = ts.len
  | .nil, [], _, _, _ => rfl
  | .nil, _ :: _, _, _, e => by simp only [asgTs] at e; cases e
  | .cons _ _, [], _, _, e => by simp only [asgTs] at e; cases e
  | .cons t ts, d :: ds, _, _, e => by
    simp only [asgTs] at e
    split at e
    · exact congrArg (· + 1) (asgTs_len e)
    · cases e
/-- a tuple is taken apart -/
theorem eg_t {ts : Tgs} {es : List Expr} {k : Nat} {pos : Pos} (hc : X.calm = true) (h : ∀ am, PGs X es (rdGs X.K am ts)) (n : es.all noStar = true) (hl : es.length = ts.len) : EG X (.t ts true) (.Tuple es k pos) := fun am =>
  pg_weak (pg_tup hc (h am) rfl (asg_len n).2) fun v σ H Q q => by
    obtain ⟨G, sl, d, sl', r, p, e, q⟩ := q
    cases d with
    | tuple ds =>
      simp only [asgT] at e
      cases p with
      | tup h1 h2 =>
        refine ⟨_, _, rfl, Same.seqT r.sub h1, ?_, G, sl, ds, sl', r, h2, e, q⟩
        rw [h2.length, asgTs_len e, (asg_len n).1, hl]
    | _ => simp only [asgT] at e; cases e
end
end EV
namespace EV
open PySem PySem.Spec L2
open PyProof.Rows hiding St

/-! ### what is walked -/
/-- the iterator gives the items, one after another -/
structure Wk (K : PySem.W.Frag) (J : It) (Gi : Hp) (items : List D) : Prop where
  ex : ∃ (P : Hp → Prop) (Y : Nat → Hp → V → Hp → Prop), Walk J items.length P Y ∧ (∀ G, Same Gi G → P G) ∧
    ∀ (i : Nat) (H : Hp) (x : V) (H' : Hp) (G : Hp), Same Gi G → Same G H → Y i H x H' → ∃ d G', items[i]? = some d ∧ Same H H' ∧ Same G G' ∧ Same G' H' ∧ (∀ b, G' b ≠ none → G b ≠ none ∨ H b = none) ∧ Rp K G' x d
section
variable {K : PySem.W.Frag}
theorem Wk.list {G : Hp} {a : Addr} {xs : List V} {ds : List D} (h : G a = some (.lst xs)) (r : RpA K G xs ds) : Wk K (Itl K a) G ds := by
  refine ⟨⟨_, _, r.length ▸ walk_list (K := K) (a := a) (xs := xs), fun G' e => SqL.of (e _ _ h), fun i H x H' G' e1 e2 y => ?_⟩⟩
  obtain ⟨rfl, hx⟩ := y
  obtain ⟨d, hd, p⟩ := r.get hx
  exact ⟨d, G', hd, Same.refl _, Same.refl _, e2, fun _ z => .inl z, p.mono e1⟩
theorem Wk.tup {G : Hp} {a : Addr} {xs : List V} {ds : List D} (h : SqT K G a xs) (r : RpA K G xs ds) : Wk K (Itt K a) G ds := by
  refine ⟨⟨_, _, r.length ▸ walk_tup (K := K) (a := a) (xs := xs), fun G' e => Same.seqT e h, fun i H x H' G' e1 e2 y => ?_⟩⟩
  obtain ⟨rfl, hx⟩ := y
  obtain ⟨d, hd, p⟩ := r.get hx
  exact ⟨d, G', hd, Same.refl _, Same.refl _, e2, fun _ z => .inl z, p.mono e1⟩
theorem Wk.str {G : Hp} {z : Str} : Wk K (Its z) G (z.cps.toList.map fun c => PyData.str ⟨#[c]⟩) := by
  have hl : (z.cps.toList.map fun c => PyData.str ⟨#[c]⟩).length = z.cps.size := by simp
  refine ⟨⟨_, _, hl ▸ walk_str (z := z), fun _ _ => trivial, fun i H x H' G' e1 e2 y => ?_⟩⟩
  obtain ⟨rfl, c, hc, rfl⟩ := y
  refine ⟨.str ⟨#[c]⟩, G', ?_, Same.refl _, Same.refl _, e2, fun _ z => .inl z, .str _⟩
  rw [List.getElem?_map, Array.getElem?_toList, hc]
  rfl
theorem rangeT_len : ∀ (n : Nat) (lo : Int), (rangeT lo n).length = n
  | 0, _ => rfl
  | n + 1, lo => congrArg (· + 1) (rangeT_len n (lo + 1))
theorem rangeT_get : ∀ (n : Nat) (lo : Int) (i : Nat), i < n → (rangeT lo n)[i]? = some (.int (lo + i))
  | 0, _, _, h => absurd h (Nat.not_lt_zero _)
  | n + 1, lo, 0, _ => by simp [rangeT]
  | n + 1, lo, i + 1, h => by
    show (rangeT (lo + 1) n)[i]? = _
    rw [rangeT_get n (lo + 1) i (Nat.lt_of_succ_lt_succ h)]
    congr 2
    omega
theorem Wk.range {G : Hp} {lo : Int} {n : Nat} : Wk K (Itr lo n) G (rangeT lo n) := by
  refine ⟨⟨fun _ => True, fun i H x H' => i < n ∧ H' = H ∧ x = .int (lo + i), ?_, fun _ _ => trivial, fun i H x H' G' e1 e2 y => ?_⟩⟩
  · rw [rangeT_len]
    exact ⟨fun _ _ hi _ => hi, fun _ _ => Nat.le_refl _, fun _ _ _ _ hi _ y => ⟨hi, y⟩⟩
  · obtain ⟨hi, rfl, rfl⟩ := y
    exact ⟨_, G', rangeT_get n lo i hi, Same.refl _, Same.refl _, e2, fun _ z => .inl z, .int _⟩
/-- a new pair -/
theorem pair_new {G H : Hp} {T : Addr} {x y : V} {d e : D} (s : Same G H) (n : H T = none) (p : Rp K G x d) (q : Rp K G y e) :
    ∃ G', Same H (upd H T (.tup [x, y])) ∧ Same G G' ∧ Same G' (upd H T (.tup [x, y])) ∧ (∀ b, G' b ≠ none → G b ≠ none ∨ H b = none) ∧ Rp K G' (.ref T) (.tuple [d, e]) := by
  have st := Step.tup (K := K) s n (.cons p (.cons q .nil))
  exact ⟨_, st.hh, st.gg, st.gh, st.nw, st.res⟩
theorem enumFrom_len : ∀ (ds : List D) (k : Int), (enumFrom k ds).length = ds.length
  | [], _ => rfl
  | _ :: ds, k => congrArg (· + 1) (enumFrom_len ds (k + 1))
theorem enumFrom_get : ∀ (ds : List D) (k : Int) (i : Nat) (d : D), ds[i]? = some d → (enumFrom k ds)[i]? = some (.tuple [.int (k + i), d])
  | [], _, _, _, h => by simp at h
  | _ :: ds, k, 0, d, h => by simp at h; subst h; simp [enumFrom]
  | _ :: ds, k, i + 1, d, h => by
    show (enumFrom (k + 1) ds)[i]? = _
    rw [enumFrom_get ds (k + 1) i d (by simpa using h)]
    have e : k + 1 + (i : Int) = k + ((i + 1 : Nat) : Int) := by omega
    rw [e]
theorem Wk.enum {G : Hp} {a : Addr} {xs : List V} {ds : List D} (h : G a = some (.lst xs)) (r : RpA K G xs ds) : Wk K (Ite K a) G (enumFrom 0 ds) := by
  have hl : (enumFrom 0 ds).length = xs.length := by rw [enumFrom_len, r.length]
  refine ⟨⟨_, _, hl ▸ walk_enum (K := K) (a := a) (xs := xs), fun G' e => SqL.of (e _ _ h), fun i H x H' G' e1 e2 y => ?_⟩⟩
  obtain ⟨T, x1, x2, rfl, nT, rfl, h1, h2⟩ := y
  injection h1 with h1
  subst h1
  obtain ⟨d, hd, p⟩ := r.get h2
  obtain ⟨G2, a1, a2, a3, a4, a5⟩ := pair_new e2 nT (Rp.int (i : Nat)) (p.mono e1)
  refine ⟨.tuple [.int (i : Nat), d], G2, ?_, a1, a2, a3, a4, a5⟩
  rw [enumFrom_get ds 0 i d hd, Int.zero_add]
theorem zipT_len : ∀ (ds es : List D), (zipT ds es).length = min ds.length es.length
  | [], _ => by simp [zipT]
  | _ :: _, [] => by simp [zipT]
  | _ :: ds, _ :: es => by
    show (zipT ds es).length + 1 = _
    rw [zipT_len ds es]
    simp only [List.length_cons]
    omega
theorem zipT_get : ∀ (ds es : List D) (i : Nat) (d e : D), ds[i]? = some d → es[i]? = some e → (zipT ds es)[i]? = some (.tuple [d, e])
  | [], _, _, _, _, h, _ => by simp at h
  | _ :: _, [], _, _, _, _, h => by simp at h
  | _ :: ds, _ :: es, 0, d, e, h1, h2 => by simp at h1 h2; subst h1 h2; simp [zipT]
  | _ :: ds, _ :: es, i + 1, d, e, h1, h2 => by
    show (zipT ds es)[i]? = _
    exact zipT_get ds es i d e (by simpa using h1) (by simpa using h2)
theorem Wk.zip {G : Hp} {a b : Addr} {xs ys : List V} {ds es : List D} (h : G a = some (.lst xs)) (r : RpA K G xs ds) (h' : G b = some (.lst ys)) (r' : RpA K G ys es) : Wk K (Itz K a b) G (zipT ds es) := by
  refine ⟨⟨_, _, walk_zip (K := K) (a := a) (b := b) (xs := xs) (ys := ys) (by rw [zipT_len, r.length, r'.length]), fun G' e => ⟨SqL.of (e _ _ h), SqL.of (e _ _ h')⟩, fun i H x H' G' e1 e2 y => ?_⟩⟩
  obtain ⟨T, x1, x2, rfl, nT, rfl, h1, h2⟩ := y
  obtain ⟨d, hd, p⟩ := r.get h1
  obtain ⟨e, he, p'⟩ := r'.get h2
  obtain ⟨G2, a1, a2, a3, a4, a5⟩ := pair_new e2 nT (p.mono e1) (p'.mono e1)
  exact ⟨_, G2, zipT_get ds es i d e hd he, a1, a2, a3, a4, a5⟩
end

section
variable {X : Cx} {ap : ApB} {C : CallT} {am : Amb}
def rdI (K : PySem.W.Frag) (ap : ApB) (C : CallT) (am : Amb) (ik : Ik) (cs : Exs) : TI := fun σ H R => ∃ G sl ss items sl', RS K am G H sl σ ∧ evEs ap C cs sl = some (ss, sl') ∧ itemsOf ik ss = some items ∧
  ∀ J G' H', RS K am G' H' sl' σ → Same G G' → Wk K J G' items → R J H'
theorem pi_weak {tg e : Expr} {t t' : TI} (h : PI X tg e t) (w : ∀ σ H Q, t' σ H Q → t σ H Q) : PI X tg e t' := ⟨fun pins s σ H R I q => h.run pins s σ H R I (w σ H R q)⟩
theorem pi_or {tg e : Expr} {t t' : TI} (h : PI X tg e t) (h' : PI X tg e t') : PI X tg e (fun σ H R => t σ H R ∨ t' σ H R) := ⟨fun pins s σ H R I q => q.elim (h.run pins s σ H R I) (h'.run pins s σ H R I)⟩
abbrev EI (X : Cx) (ap : ApB) (C : CallT) (ik : Ik) (cs : Exs) (tg e : Expr) : Prop := ∀ am, PI X tg e (rdI X.K ap C am ik cs)
theorem evEs_one {c : Ex} {sl sl' : Ss} {ss : List D} (e : evEs ap C (.cons c .nil) sl = some (ss, sl')) : ∃ d fr, evE ap C c sl = some (d, fr, sl') ∧ ss = [d] := by
  simp only [evEs] at e
  split at e
  · rename_i d fr sl1 e1
    cases e
    exact ⟨_, _, e1, rfl⟩
  · cases e
theorem ei_any {c : Ex} {tg e : Expr} (h : EE X ap C c e) : EI X ap C .any (.cons c .nil) tg e := fun am =>
  pi_weak (pi_or (pi_list (tg := tg) (h.val (am := am))) (pi_or (pi_tup (tg := tg) (h.val (am := am))) (pi_str (tg := tg) (h.val (am := am))))) fun σ H R q => by
    obtain ⟨G, sl, ss, items, sl', r, e, hi, q⟩ := q
    obtain ⟨d, fr, e1, rfl⟩ := evEs_one e
    cases d with
    | list ds =>
      cases hi
      refine .inl ⟨G, sl, _, fr, sl', r, e1, fun v G1 H1 r1 g1 p => ?_⟩
      cases p with
      | lst h1 h2 => exact ⟨_, rfl, ⟨_, SqL.of (r1.sub _ _ h1)⟩, q _ _ _ r1 g1 (Wk.list h1 h2)⟩
    | tuple ds =>
      cases hi
      refine .inr (.inl ⟨G, sl, _, fr, sl', r, e1, fun v G1 H1 r1 g1 p => ?_⟩)
      cases p with
      | tup h1 h2 => exact ⟨_, rfl, ⟨_, Same.seqT r1.sub h1⟩, q _ _ _ r1 g1 (Wk.tup h1 h2)⟩
    | str z =>
      cases hi
      refine .inr (.inr ⟨G, sl, _, fr, sl', r, e1, fun v G1 H1 r1 g1 p => ?_⟩)
      cases p
      exact ⟨_, rfl, q _ _ _ r1 g1 Wk.str⟩
    | _ => cases hi
theorem ei_range1 {c : Ex} {tg e : Expr} {p pos : Pos} (hg : Gl X "range") (hm : X.mg "range" = none) (h : EE X ap C c e) (n : noStar e = true) : EI X ap C .range1 (.cons c .nil) tg (.Call (.Name "range" p) [e] [] pos) := fun am =>
  pi_weak (pi_range1 (tg := tg) hg hm (pa_es_cons (am := am) h pa_es_nil n) (star_cons n)) fun σ H R q => by
    obtain ⟨G, sl, ss, items, sl', r, e, hi, q⟩ := q
    obtain ⟨d, fr, e1, rfl⟩ := evEs_one e
    cases d with
    | int j =>
      simp only [itemsOf, itR1] at hi
      split at hi
      · rename_i hj
        cases hi
        refine ⟨G, sl, _, sl', r, e, fun vs G1 H1 r1 g1 p => ?_⟩
        cases p with
        | cons p1 p2 => cases p2; cases p1; exact ⟨j, rfl, hj.1, hj.2, q _ _ _ r1 g1 Wk.range⟩
      · cases hi
    | _ => cases hi
theorem ei_range2 {ca cb : Ex} {tg a b : Expr} {p pos : Pos} (hg : Gl X "range") (hm : X.mg "range" = none) (ha : EE X ap C ca a) (hb : EE X ap C cb b) (na : noStar a = true) (nb : noStar b = true) : EI X ap C .range2 (.cons ca (.cons cb .nil)) tg (.Call (.Name "range" p) [a, b] [] pos) := fun am =>
  pi_weak (pi_range2 (tg := tg) hg hm (pa_es_cons (am := am) ha (pa_es_cons hb pa_es_nil nb) na) (by rw [star_cons na, star_cons nb]; rfl) (by rw [star_cons nb]; rfl)) fun σ H R q => by
    obtain ⟨G, sl, ss, items, sl', r, e, hi, q⟩ := q
    simp only [itemsOf] at hi
    unfold itR2 at hi
    split at hi
    · split at hi
      · rename_i i j hj
        cases hi
        refine ⟨G, sl, _, sl', r, e, fun vs G1 H1 r1 g1 p => ?_⟩
        cases p with
        | cons p1 p2 => cases p2 with
          | cons p2 p3 => cases p3; cases p1; cases p2; exact ⟨i, j, rfl, hj, q _ _ _ r1 g1 Wk.range⟩
      · cases hi
    · cases hi
theorem ei_enum {c : Ex} {e : Expr} {elts : List Expr} {kk : Nat} {p pos tpos : Pos} (hg : Gl X "enumerate") (hm : X.mg "enumerate" = none) (h : EE X ap C c e) (n : noStar e = true) : EI X ap C .enum (.cons c .nil) (.Tuple elts kk tpos) (.Call (.Name "enumerate" p) [e] [] pos) := fun am =>
  pi_weak (pi_enum (elts := elts) (kk := kk) (tpos := tpos) hg hm (pa_es_cons (am := am) h pa_es_nil n) (star_cons n)) fun σ H R q => by
    obtain ⟨G, sl, ss, items, sl', r, e, hi, q⟩ := q
    simp only [itemsOf] at hi
    unfold itEnum at hi
    split at hi
    · cases hi
      refine ⟨G, sl, _, sl', r, e, fun vs G1 H1 r1 g1 p => ?_⟩
      cases p with
      | cons p1 p2 =>
        cases p2
        cases p1 with
        | lst h1 h2 => exact ⟨_, _, rfl, SqL.of (r1.sub _ _ h1), q _ _ _ r1 g1 (Wk.enum h1 h2)⟩
    · cases hi
theorem Wk.zipT {K : PySem.W.Frag} {G : Hp} {a b : Addr} {xs ys : List V} {ds es : List D} (h : SqT K G a xs) (r : RpA K G xs ds) (h' : SqT K G b ys) (r' : RpA K G ys es) : Wk K (RZ.ItzT K a b) G (EV.zipT ds es) := by
  have hl : (EV.zipT ds es).length = min xs.length ys.length := by rw [zipT_len, r.length, r'.length]
  refine ⟨⟨fun H => SqT K H a xs ∧ SqT K H b ys, YPair (fun i => xs[i]?) (fun i => ys[i]?), ?_, fun G' e => ⟨Same.seqT e h, Same.seqT e h'⟩, fun i H x H' G' e1 e2 y => ?_⟩⟩
  · rw [hl]
    refine ⟨fun i _ hi q => ?_, fun _ q => ⟨xs, ys, q.1, q.2, by omega⟩, fun i H v H' _ q y => ?_⟩
    · have h1 : i < xs.length := by omega
      have h2 : i < ys.length := by omega
      exact ⟨xs, ys, xs[i], ys[i], q.1, q.2, by simp [h1], by simp [h2]⟩
    · obtain ⟨T, x, z, h1, h2, h3, h4, h5⟩ := y
      exact ⟨T, x, z, h1, h2, h3, h4 xs q.1, h5 ys q.2⟩
  · obtain ⟨T, x1, x2, rfl, nT, rfl, h1, h2⟩ := y
    obtain ⟨d, hd, p⟩ := r.get h1
    obtain ⟨e, he, p'⟩ := r'.get h2
    obtain ⟨G2, a1, a2, a3, a4, a5⟩ := pair_new e2 nT (p.mono e1) (p'.mono e1)
    exact ⟨_, G2, zipT_get ds es i d e hd he, a1, a2, a3, a4, a5⟩
theorem ei_zip {ca cb : Ex} {a b : Expr} {elts : List Expr} {kk : Nat} {p pos tpos : Pos} (hg : Gl X "zip") (hm : X.mg "zip" = none) (ha : EE X ap C ca a) (hb : EE X ap C cb b) (na : noStar a = true) (nb : noStar b = true) : EI X ap C .zip (.cons ca (.cons cb .nil)) (.Tuple elts kk tpos) (.Call (.Name "zip" p) [a, b] [] pos) := fun am =>
  pi_weak (RZ.pi_zipA (elts := elts) (kk := kk) (tpos := tpos) hg hm (pa_es_cons (am := am) ha (pa_es_cons hb pa_es_nil nb) na) (star_cons na) (star_plain (by rw [List.all_cons, nb]; rfl))) fun σ H R q => by
    obtain ⟨G, sl, ss, items, sl', r, e, hi, q⟩ := q
    simp only [itemsOf] at hi
    unfold itZip at hi
    split at hi
    · cases hi
      refine ⟨G, sl, _, sl', r, e, fun vs G1 H1 r1 g1 p => ?_⟩
      cases p with
      | cons p1 p2 => cases p2 with
        | cons p2 p3 =>
          cases p3
          cases p1 with
          | lst h1 h2 => cases p2 with
            | lst h3 h4 => exact ⟨_, _, _, _, rfl, .inl ⟨SqL.of (r1.sub _ _ h1), SqL.of (r1.sub _ _ h3), q _ _ _ r1 g1 (Wk.zip h1 h2 h3 h4)⟩⟩
    · cases hi
      refine ⟨G, sl, _, sl', r, e, fun vs G1 H1 r1 g1 p => ?_⟩
      cases p with
      | cons p1 p2 => cases p2 with
        | cons p2 p3 =>
          cases p3
          cases p1 with
          | tup h1 h2 => cases p2 with
            | tup h3 h4 => exact ⟨_, _, _, _, rfl, .inr ⟨Same.seqT r1.sub h1, Same.seqT r1.sub h3, q _ _ _ r1 g1 (Wk.zipT h1 h2 h3 h4)⟩⟩
    · cases hi
end
end EV
namespace EV
open PySem PySem.Spec L2
open PyProof.Rows hiding St

/-! ### the slots of a block -/
theorem wipeS_length (sl : Ss) : ∀ vs : List Nat, (wipeS sl vs).length = sl.length
  | [] => rfl
  | v :: vs => by unfold wipeS; rw [List.length_set, wipeS_length sl vs]
theorem wipeS_ne {sl : Ss} {j : Nat} : ∀ {vs : List Nat}, j ∉ vs → (wipeS sl vs)[j]? = sl[j]?
  | [], _ => rfl
  | v :: vs, h => by
    rw [List.mem_cons, not_or] at h
    unfold wipeS
    rw [List.getElem?_set_ne (fun z => h.1 z.symm), wipeS_ne h.2]
theorem wipeS_in {sl : Ss} {j : Nat} {x : Sl} : ∀ {vs : List Nat}, j ∈ vs → (wipeS sl vs)[j]? = some x → x = .un
  | [], h, _ => by cases h
  | v :: vs, h, e => by
    unfold wipeS at e
    by_cases hj : v = j
    · subst hj
      by_cases hv : v < (wipeS sl vs).length
      · rw [List.getElem?_set_self hv] at e
        exact (Option.some.inj e).symm
      · rw [List.getElem?_eq_none (by rw [List.length_set]; omega)] at e
        cases e
    · rw [List.getElem?_set_ne hj] at e
      rcases List.mem_cons.mp h with z | z
      · exact absurd z.symm hj
      · exact wipeS_in z e
theorem wipe_ne {σ : St} {j : Nat} : ∀ {vs : List Nat}, j ∉ vs → (wipe σ vs)[j]? = σ[j]?
  | [], _ => rfl
  | v :: vs, h => by
    rw [List.mem_cons, not_or] at h
    unfold wipe
    rw [List.getElem?_set_ne (fun z => h.1 z.symm), wipe_ne h.2]
theorem wipe_in {σ : St} {j : Nat} : ∀ {vs : List Nat}, j ∈ vs → j < σ.length → (wipe σ vs)[j]? = some none
  | [], h, _ => by cases h
  | v :: vs, h, hl => by
    unfold wipe
    by_cases hj : v = j
    · subst hj
      rw [List.getElem?_set_self (by rw [wipe_length]; exact hl)]
    · rw [List.getElem?_set_ne hj]
      rcases List.mem_cons.mp h with z | z
      · exact absurd z.symm hj
      · exact wipe_in z hl
theorem wipe_agr {σ σ' : St} {vs us : List Nat} (a : Agr us σ σ') (s : ∀ u ∈ us, u ∈ vs) : wipe σ' vs = wipe σ vs := by
  apply List.ext_getElem?
  intro j
  by_cases hj : j ∈ vs
  · by_cases hl : j < σ.length
    · rw [wipe_in hj hl, wipe_in hj (by rw [a.1]; exact hl)]
    · rw [List.getElem?_eq_none (by rw [wipe_length, a.1]; omega), List.getElem?_eq_none (by rw [wipe_length]; omega)]
  · rw [wipe_ne hj, wipe_ne hj, a.2 j fun z => hj (s j z)]
theorem wipe_wipe {σ : St} {vs : List Nat} : wipe (wipe σ vs) vs = wipe σ vs := by
  apply List.ext_getElem?
  intro j
  by_cases hj : j ∈ vs
  · by_cases hl : j < σ.length
    · rw [wipe_in hj hl, wipe_in hj (by rw [wipe_length]; exact hl)]
    · rw [List.getElem?_eq_none (by rw [wipe_length, wipe_length]; omega), List.getElem?_eq_none (by rw [wipe_length]; omega)]
  · rw [wipe_ne hj]
theorem restS_length (sl0 sl : Ss) : ∀ vs : List Nat, (restS sl0 sl vs).length = sl.length
  | [] => rfl
  | v :: vs => by unfold restS; rw [List.length_set, restS_length sl0 sl vs]
theorem restS_ne {sl0 sl : Ss} {j : Nat} : ∀ {vs : List Nat}, j ∉ vs → (restS sl0 sl vs)[j]? = sl[j]?
  | [], _ => rfl
  | v :: vs, h => by
    rw [List.mem_cons, not_or] at h
    unfold restS
    rw [List.getElem?_set_ne (fun z => h.1 z.symm), restS_ne h.2]
theorem restS_in {sl0 sl : Ss} {j : Nat} {x : Sl} : ∀ {vs : List Nat}, j ∈ vs → (restS sl0 sl vs)[j]? = some x → x = sl0.getD j .un
  | [], h, _ => by cases h
  | v :: vs, h, e => by
    unfold restS at e
    by_cases hj : v = j
    · subst hj
      by_cases hv : v < (restS sl0 sl vs).length
      · rw [List.getElem?_set_self hv] at e
        exact (Option.some.inj e).symm
      · rw [List.getElem?_eq_none (by rw [List.length_set]; omega)] at e
        cases e
    · rw [List.getElem?_set_ne hj] at e
      rcases List.mem_cons.mp h with z | z
      · exact absurd z.symm hj
      · exact restS_in z e
section
variable {K : PySem.W.Frag} {am : Amb} {σ : St} {G H : Hp} {sl : Ss}
theorem RS.wipe (r : RS K am G H sl σ) {vs : List Nat} (hp : ∀ p ∈ am.pin, p.1 ∉ vs) : RS K am G H (wipeS sl vs) (wipe σ vs) := by
  have old : ∀ {j : Nat} {x : Sl}, (wipeS sl vs)[j]? = some x → x = .un ∨ (j ∉ vs ∧ sl[j]? = some x) := fun {j x} e => by
    by_cases hj : j ∈ vs
    · exact .inl (wipeS_in hj e)
    · exact .inr ⟨hj, by rw [wipeS_ne hj] at e; exact e⟩
  refine ⟨r.sub, by rw [wipeS_length, wipe_length]; exact r.len, fun j x w e1 e2 => ?_, fun j k x y a e1 e2 m1 m2 s1 s2 => ?_, r.fresh, r.frame, r.dom, r.gg, r.g0, fun p hq => ?_⟩
  · rcases old e1 with rfl | ⟨hj, e1⟩
    · trivial
    · rw [wipe_ne hj] at e2
      exact r.rel j x w e1 e2
  · rcases old e1 with rfl | ⟨hj, e1⟩
    · cases m1
    · rcases old e2 with rfl | ⟨hk, e2⟩
      · cases m2
      · rw [wipe_ne hj] at s1
        rw [wipe_ne hk] at s2
        exact r.inj j k x y a e1 e2 m1 m2 s1 s2
  · obtain ⟨q1, d, q2⟩ := r.pin p hq
    have h := hp p hq
    exact ⟨by rw [wipe_ne h]; exact q1, d, by rw [wipeS_ne h]; exact q2⟩
/-- back from the block -/
theorem RS.unwipe {G0 H0 : Hp} {sl0 : Ss} (r0 : RS K am G0 H0 sl0 σ) (r : RS K am G H (wipeS sl vs) (L2.wipe σ vs)) (g : Same G0 G) (nm : noMut sl0 vs = true) : RS K am G H (restS sl0 sl vs) σ := by
  have nm' : ∀ v ∈ vs, ∃ x, sl0[v]? = some x ∧ x.mut = false := fun v hv => by
    unfold noMut at nm
    rw [List.all_eq_true] at nm
    have := nm v hv
    split at this
    · exact ⟨_, ‹_›, by simpa using this⟩
    · cases this
  have hlen : sl.length = σ.length := by
    have := r.len
    rw [wipeS_length, wipe_length] at this
    exact this
  have old : ∀ {j : Nat} {x : Sl}, (restS sl0 sl vs)[j]? = some x → (j ∈ vs ∧ sl0[j]? = some x ∧ x.mut = false) ∨ (j ∉ vs ∧ (wipeS sl vs)[j]? = some x) := fun {j x} e => by
    by_cases hj : j ∈ vs
    · obtain ⟨y, h1, h2⟩ := nm' j hj
      have := restS_in hj e
      rw [List.getD_eq_getElem?_getD, h1] at this
      simp only [Option.getD_some] at this
      subst this
      exact .inl ⟨hj, h1, h2⟩
    · exact .inr ⟨hj, by rw [restS_ne hj] at e; rw [wipeS_ne hj]; exact e⟩
  refine ⟨r.sub, by rw [restS_length]; exact hlen, fun j x w e1 e2 => ?_, fun j k x y a e1 e2 m1 m2 s1 s2 => ?_, r.fresh, r.frame, r.dom, r.gg, r.g0, fun p hq => ?_⟩
  · rcases old e1 with ⟨hj, h1, h2⟩ | ⟨hj, h1⟩
    · have q := r0.rel j x w h1 e2
      cases x with
      | un => trivial
      | val d => obtain ⟨v, z1, z2⟩ := q; exact ⟨v, z1, z2.mono g⟩
      | own d => cases h2
      | bor d => cases h2
    · exact r.rel j x w h1 (by rw [wipe_ne hj]; exact e2)
  · rcases old e1 with ⟨hj, _, h2⟩ | ⟨hj, h1⟩
    · rw [h2] at m1; cases m1
    · rcases old e2 with ⟨hk, _, h2⟩ | ⟨hk, h2⟩
      · rw [h2] at m2; cases m2
      · exact r.inj j k x y a h1 h2 m1 m2 (by rw [wipe_ne hj]; exact s1) (by rw [wipe_ne hk]; exact s2)
  · obtain ⟨q1, d, q2⟩ := r.pin p hq
    have hj : p.1 ∉ vs := fun z => by have := wipeS_in z q2; cases this
    exact ⟨by rw [wipe_ne hj] at q1; exact q1, d, by rw [wipeS_ne hj] at q2; rw [restS_ne hj]; exact q2⟩
/-- other surroundings: D is not to be changed -/
def Amb.but (am : Amb) (D : Addr) (G H : Hp) : Amb := ⟨fun b => am.A b ∧ b ≠ D, fun b => am.N b ∧ b ≠ D, H, G, am.pin⟩
theorem RS.into (r : RS K am G H sl σ) {D : Addr} (hD : ∃ u, H D = some u) (nm : ∀ (j : Nat) (x : Sl), sl[j]? = some x → x.mut = true → σ[j]? ≠ some (some (.ref D))) : RS K (am.but D G H) G H sl σ := by
  obtain ⟨u, hu⟩ := hD
  refine ⟨r.sub, r.len, fun j x w e1 e2 => ?_, r.inj, fun p hp => ?_, fun b o e _ => e, fun b e => e, fun b e => .inl e, Same.refl _, r.pin⟩
  · have q := r.rel j x w e1 e2
    cases x with
    | un => trivial
    | val d => exact q
    | own d =>
      obtain ⟨a, h1, h2, h3, h4, h5⟩ := q
      have ne : a ≠ D := fun z => nm j _ e1 rfl (by rw [e2, h1, z])
      exact ⟨a, h1, h2, ⟨h3, ne⟩, ⟨h4, ne⟩, h5⟩
    | bor d =>
      obtain ⟨a, h1, h2, h3, h5⟩ := q
      have ne : a ≠ D := fun z => nm j _ e1 rfl (by rw [e2, h1, z])
      exact ⟨a, h1, h2, ⟨h3, ne⟩, h5⟩
  · have ne : p ≠ D := fun z => by rw [z, hu] at hp; cases hp
    exact ⟨⟨(r.fresh p hp).1, ne⟩, (r.fresh p hp).2, ne⟩
theorem RS.outof {G0 H0 : Hp} {sl0 : Ss} {σ0 : St} {D : Addr} (r0 : RS K am G0 H0 sl0 σ0) (r : RS K (am.but D G0 H0) G H sl σ) : RS K am G H sl σ := by
  refine ⟨r.sub, r.len, fun j x w e1 e2 => ?_, r.inj, fun p hp => ⟨(r.fresh p hp).1.1, (r.fresh p hp).2.1⟩, fun b o e nA => r.frame b o (r0.frame b o e nA) fun z => nA z.1, fun b e => r.dom b (r0.dom b e), fun b e => ?_, Same.trans r0.g0 r.g0, r.pin⟩
  · have q := r.rel j x w e1 e2
    cases x with
    | un => trivial
    | val d => exact q
    | own d => obtain ⟨a, h1, h2, h3, h4, h5⟩ := q; exact ⟨a, h1, h2, h3.1, h4.1, h5⟩
    | bor d => obtain ⟨a, h1, h2, h3, h5⟩ := q; exact ⟨a, h1, h2, h3.1, h5⟩
  · rcases r.gg b e with h | h
    · exact r0.gg b h
    · exact .inr h.1
/-- another object is changed, which nobody here holds -/
theorem RS.put (r : RS K am G H sl σ) {D : Addr} {o u : HO} (hD : H D = some o) (n : G D = none) (hA : am.A D) (nm : ∀ (j : Nat) (x : Sl), sl[j]? = some x → x.mut = true → σ[j]? ≠ some (some (.ref D))) : RS K am G (upd H D u) sl σ := by
  refine ⟨fun b o' e => ?_, r.len, fun j x w e1 e2 => ?_, r.inj, fun p hp => ?_, fun b o' e nA => ?_, fun b e => ?_, r.gg, r.g0, r.pin⟩
  · rw [upd_ne (ne_of_none e n)]; exact r.sub b o' e
  · have q := r.rel j x w e1 e2
    cases x with
    | un => trivial
    | val d => exact q
    | own d =>
      obtain ⟨a, h1, h2, h3, h4, h5⟩ := q
      have ne : a ≠ D := fun z => nm j _ e1 rfl (by rw [e2, h1, z])
      exact ⟨a, h1, h2, h3, h4, by rw [upd_ne ne]; exact h5⟩
    | bor d =>
      obtain ⟨a, h1, h2, h3, h5⟩ := q
      have ne : a ≠ D := fun z => nm j _ e1 rfl (by rw [e2, h1, z])
      exact ⟨a, h1, h2, h3, by rw [upd_ne ne]; exact h5⟩
  · have ne : p ≠ D := fun z => by rw [z, upd_same] at hp; cases hp
    rw [upd_ne ne] at hp
    exact r.fresh p hp
  · have ne : b ≠ D := fun z => nA (by rw [z]; exact hA)
    rw [upd_ne ne]; exact r.frame b o' e nA
  · by_cases hb : b = D
    · subst hb; rw [upd_same]; exact fun z => nomatch z
    · rw [upd_ne hb]; exact r.dom b e
/-- a new object that nobody here holds -/
theorem RS.lay (r : RS K am G H sl σ) {D : Addr} {u : HO} (hD : H D = none) : RS K am G (upd H D u) sl σ :=
  r.grow (fun b o e => by rw [upd_ne (ne_of_none e hD)]; exact e) (Same.refl _) (fun b o e => by rw [upd_ne (ne_of_none (r.sub _ _ e) hD)]; exact r.sub _ _ e) fun b e => .inl e
theorem RS.notAt (r : RS K am G H sl σ) {D : Addr} (h : H D = none ∨ ¬ am.A D) : ∀ (j : Nat) (x : Sl), sl[j]? = some x → x.mut = true → σ[j]? ≠ some (some (.ref D)) := fun j x e m q => by
  have z := r.rel j x _ e q
  rcases h with h | h
  · obtain ⟨⟨u, hu⟩, _⟩ := r.mutAt e m q
    rw [h] at hu; cases hu
  · cases x with
    | un => cases m
    | val d => cases m
    | own d => obtain ⟨a, h1, _, h3, _⟩ := z; cases h1; exact h h3
    | bor d => obtain ⟨a, h1, _, h3, _⟩ := z; cases h1; exact h h3
end

/-! ### list comprehensions -/
section
variable {X : Cx} {ap : ApB} {C : CallT} {am : Amb}
/-- one turn -/
def lcTurn (ap : ApB) (C : CallT) (tg : Tg) (ifs : Te) (elt : Ex) (own : List Nat) : D → Ss → Option (Option D × Ss) := fun d sl => match asgT tg d (wipeS sl own) with
  | some sl => match evT ap C ifs sl with
    | some (true, sl) => match evE ap C elt sl with
      | some (x, _, sl) => some (some x, sl)
      | none => none
    | some (false, sl) => some (none, sl)
    | none => none
  | none => none
theorem evE_lc {elt : Ex} {tg : Tg} {ik : Ik} {src : Exs} {ifs : Te} {own : List Nat} {sl : Ss} : evE ap C (.lc elt tg ik src ifs own) sl = (match noMut sl own, evEs ap C src sl with
    | true, some (ss, sl) => match noMut sl own, itemsOf ik ss with
      | true, some items => match lcGo (lcTurn ap C tg ifs elt own) items sl with
        | some (rs, sl') => if rs.length ≤ sizeLine then some (.list rs, true, restS sl sl' own) else none
        | none => none
      | _, _ => none
    | _, _ => none) := by
  simp only [evE]
  rfl
theorem upd_lst {H : Hp} {D : Addr} {xs : List V} : upd (upd H D (.lst [])) D (.lst xs) = upd H D (.lst xs) := upd_upd
/-- what holds between two turns -/
structure LcInv (K : PySem.W.Frag) (am : Amb) (own : List Nat) (σ : St) (G1 : Hp) (D : Addr) (turn : EV.D → Ss → Option (Option EV.D × Ss)) (items : List EV.D) (rs : List EV.D) (sl' : Ss) (H : Hp) : Prop where
  ex : ∃ (G : Hp) (sl : Ss) (acc : List V) (ds rest : List EV.D), Same G1 G ∧ RS K am G H (wipeS sl own) (wipe σ own) ∧ G D = none ∧ H D = some (.lst acc) ∧ RpA K G acc ds ∧ lcGo turn items sl = some (rest, sl') ∧ rs = ds ++ rest ∧
    ∀ (j : Nat) (x : Sl), (wipeS sl own)[j]? = some x → x.mut = true → (wipe σ own)[j]? ≠ some (some (.ref D))
theorem lc_read {elt : Ex} {tg : Tg} {ik : Ik} {src : Exs} {ifs : Te} {own : List Nat} {wi : TI} {g : TG} {tt : TT} {te : TE} (hw : ∀ am σ H R, rdI X.K ap C am ik src σ H R → wi σ H R) (hg : ∀ am v σ H Q, rdG X.K am tg v σ H Q → g v σ H Q)
    (ht : ∀ am σ H Q, rdT X.K ap C am ifs σ H Q → tt σ H Q) (he : ∀ am σ H Q, rdV X.K ap C am elt σ H Q → te σ H Q) (hs : ∀ u ∈ tg.sls, u ∈ own) :
    ∀ am σ H Q, rdE X.K ap C am (.lc elt tg ik src ifs own) σ H Q → tLc wi g tt te own σ H Q := by
  intro am σ H Q q
  obtain ⟨G, sl, d, fr, sl', r, e, q⟩ := q
  rw [evE_lc] at e
  split at e
  · rename_i ss sl1 nm0 e1
    split at e
    · rename_i items nm e2
      split at e
      · rename_i rs sl2 e3
        split at e
        · rename_i hsz
          cases e
          refine hw am _ _ _ ⟨G, sl, ss, items, sl1, r, e1, e2, fun J G1 H1 r1 g1 wk => ?_⟩
          intro D hD
          obtain ⟨P, Y, W, hP, hY⟩ := wk.ex
          obtain ⟨aD, nD⟩ := r1.fresh D hD
          have gD : G1 D = none := Same.free r1.sub hD
          have hpin : ∀ p ∈ am.pin, p.1 ∉ own := fun p hp hz => by
            obtain ⟨_, d, q2⟩ := r1.pin p hp
            unfold noMut at nm
            rw [List.all_eq_true] at nm
            have := nm _ hz
            rw [q2] at this
            cases this
          refine lc_it W (fun i H => LcInv X.K am own σ G1 D (lcTurn ap C tg ifs elt own) (items.drop i) rs sl2 H) ?_ ?_ ?_ ?_
          · refine ⟨G1, sl1, [], [], rs, Same.refl _, (r1.lay hD).wipe hpin, gD, upd_same, .nil, e3, rfl, (r1.wipe hpin).notAt (.inl hD)⟩
          · rintro i H hi ⟨G, sl, acc, ds, rest, a1, a2, a3, a4, a5, a6, a7, nmD⟩
            exact hP H (Same.trans a1 a2.sub)
          · rintro i x H H' hi ⟨G, sl, acc, ds, rest, a1, a2, a3, a4, a5, a6, a7, nmD⟩ y
            obtain ⟨d, G2, hd, b1, b2, b3, b4, b5⟩ := hY i H x H' G a1 a2.sub y
            have a2' := a2.grow b1 b2 b3 b4
            have hD' : H' D = some (.lst acc) := b1 _ _ a4
            have gD' : G2 D = none := by
              cases z : G2 D with
              | none => rfl
              | some u => 
                rcases b4 D (by rw [z]; exact fun h => nomatch h) with h | h
                · exact absurd a3 h
                · rw [a4] at h; cases h
            have r3 := a2'.into ⟨_, hD'⟩ nmD
            have hdrop : items.drop i = d :: items.drop (i + 1) := by
              rw [List.drop_eq_getElem_cons hi]
              congr 1
              rw [List.getElem?_eq_getElem hi] at hd
              exact Option.some.inj hd
            rw [hdrop] at a6
            simp only [lcGo] at a6
            split at a6
            · rename_i o sl3 e4
              split at a6
              · rename_i rs2 sl4 e5
                cases a6
                unfold lcTurn at e4
                split at e4
                · rename_i sl5 e6
                  refine hg _ _ _ _ _ ⟨G2, wipeS sl own, d, sl5, r3, b5, e6, fun σ2 r4 ag => ⟨?_, ?_⟩⟩
                  · rw [wipe_agr ag hs, wipe_wipe]
                  · have wσ : wipe σ2 own = wipe σ own := by rw [wipe_agr ag hs, wipe_wipe]
                    -- the end of a turn: from the block's relation
                    have fin : ∀ {G3 H3 : Hp} {sl6 : Ss}, RS X.K (am.but D G2 H') G3 H3 sl6 σ2 → H3 D = some (.lst acc) ∧ G3 D = none ∧ RS X.K am G3 H3 (wipeS sl6 own) (wipe σ own) ∧ ∀ (j : Nat) (x : Sl), (wipeS sl6 own)[j]? = some x → x.mut = true → (wipe σ own)[j]? ≠ some (some (.ref D)) := fun {G3 H3 sl6} r6 => by
                      refine ⟨r6.frame D _ hD' fun z => z.2 rfl, ?_, ?_, ?_⟩
                      · cases z : G3 D with
                        | none => rfl
                        | some u =>
                          rcases r6.gg D (by rw [z]; exact fun h => nomatch h) with h | h
                          · exact absurd gD' h
                          · exact absurd rfl h.2
                      · rw [← wσ]
                        exact (a2'.outof r6).wipe hpin
                      · have := (r6.wipe (vs := own) hpin).notAt (D := D) (.inr fun z => z.2 rfl)
                        rw [wσ] at this
                        exact this
                    split at e4
                    · rename_i sl6 e7
                      split at e4
                      · rename_i z fz sl7 e8
                        cases e4
                        refine ht _ _ _ _ ⟨G2, sl5, true, sl6, r4, e7, fun G3 H3 r5 g3 => ?_⟩
                        refine iteT (he _ _ _ _ ⟨G3, sl6, z, fz, sl3, r5, e8, fun v G4 H4 r6 g4 p4 => ?_⟩)
                        obtain ⟨c1, c2, c3, nmD'⟩ := fin r6
                        refine ⟨acc, c1, ?_, ?_⟩
                        · have : acc.length + 1 ≤ rs.length := by
                            rw [a7, List.length_append, a5.length]
                            simp
                          omega
                        · refine ⟨G4, sl3, acc ++ [v], ds ++ [z], rs2, Same.trans a1 (Same.trans b2 (Same.trans g3 g4)), c3.put c1 c2 aD nmD', c2, upd_same, ?_, e5, ?_, ?_⟩
                          · exact (a5.mono (Same.trans b2 (Same.trans g3 g4))).append (.cons p4 .nil)
                          · rw [a7]; simp
                          · exact nmD'
                      · cases e4
                    · rename_i sl6 e7
                      cases e4
                      refine ht _ _ _ _ ⟨G2, sl5, false, sl3, r4, e7, fun G3 H3 r5 g3 => ?_⟩
                      obtain ⟨c1, c2, c3, nmD'⟩ := fin r5
                      exact iteF ⟨G3, sl3, acc, ds, rs2, Same.trans a1 (Same.trans b2 g3), c3, c2, c1, a5.mono (Same.trans b2 g3), e5, a7, nmD'⟩
                    · cases e4
                · cases e4
              · cases a6
            · cases a6
          · rintro H ⟨G, sl, acc, ds, rest, a1, a2, a3, a4, a5, a6, a7, nmD⟩
            rw [List.drop_length] at a6
            simp only [lcGo] at a6
            cases a6
            rw [List.append_nil] at a7
            subst a7
            have r9 := r1.unwipe a2 a1 nm
            refine q (.ref D) G H r9 (Same.trans g1 a1) ⟨D, rfl, a3, aD, nD, ⟨acc, a4, a5⟩, fun j x hx hm => ?_⟩
            by_cases hj : j ∈ own
            · have hx' := restS_in hj hx
              obtain ⟨y, h1, h2⟩ : ∃ y, sl1[j]? = some y ∧ y.mut = false := by
                unfold noMut at nm
                rw [List.all_eq_true] at nm
                have := nm j hj
                split at this
                · exact ⟨_, ‹_›, by simpa using this⟩
                · cases this
              rw [List.getD_eq_getElem?_getD, h1] at hx'
              simp only [Option.getD_some] at hx'
              rw [hx', h2] at hm
              cases hm
            · have := nmD j x (by rw [wipeS_ne hj]; rw [restS_ne hj] at hx; exact hx) hm
              rw [wipe_ne hj] at this
              exact this
        · cases e
      · cases e
    · cases e
  · cases e
end
end EV
namespace EV
open PySem PySem.Spec L2
open PyProof.Rows hiding St

/-! ### statements -/
abbrev ApM := Mu → D → List D → Option D
abbrev ApS := D → D → D → Option D
def FlEnd (K : PySem.W.Frag) (am : Amb) (G : Hp) (sl : Ss) (D : Ends) : Fl → Prop
  | .nx => ∀ G' H' σ', RS K am G' H' sl σ' → Same G G' → D.nx σ' H'
  | .bk => ∀ G' H' σ', RS K am G' H' sl σ' → Same G G' → D.bk σ' H'
  | .ct => ∀ G' H' σ', RS K am G' H' sl σ' → Same G G' → D.ct σ' H'
  | .rt d fr => ∀ v G' H' σ', RS K am G' H' sl σ' → Same G G' → Res K am G' H' sl σ' v d fr → D.rt v H'
theorem FlEnd.mono {K : PySem.W.Frag} {am : Amb} {G G1 : Hp} {sl : Ss} {D : Ends} {f : Fl} (h : FlEnd K am G sl D f) (g : Same G G1) : FlEnd K am G1 sl D f := by
  cases f with
  | nx => exact fun G' H' σ' r g' => h G' H' σ' r (Same.trans g g')
  | bk => exact fun G' H' σ' r g' => h G' H' σ' r (Same.trans g g')
  | ct => exact fun G' H' σ' r g' => h G' H' σ' r (Same.trans g g')
  | rt d fr => exact fun v G' H' σ' r g' => h v G' H' σ' r (Same.trans g g')
section
variable (K : PySem.W.Frag) (ap : ApB) (aM : ApM) (aS : ApS) (C : CallT) (am : Amb)
def rdS (c : Stm) : TS := fun D σ H => ∃ G sl f sl', RS K am G H sl σ ∧ evS ap aM aS C c sl = some (f, sl') ∧ FlEnd K am G sl' D f
def rdSs (c : Stms) : TS := fun D σ H => ∃ G sl f sl', RS K am G H sl σ ∧ evSs ap aM aS C c sl = some (f, sl') ∧ FlEnd K am G sl' D f
end
section
variable {X : Cx} {ap : ApB} {aM : ApM} {aS : ApS} {C : CallT} {am : Amb}
abbrev ES (X : Cx) (ap : ApB) (aM : ApM) (aS : ApS) (C : CallT) (c : Stm) (s : Stmt) : Prop := ∀ am, PS X s (rdS X.K ap aM aS C am c)
abbrev ESs (X : Cx) (ap : ApB) (aM : ApM) (aS : ApS) (C : CallT) (c : Stms) (s : List Stmt) : Prop := ∀ am, PSs X s (rdSs X.K ap aM aS C am c)
theorem ess_nil : ESs X ap aM aS C .nil [] := fun am => pss_weak pss_nil fun D σ H q => by
  obtain ⟨G, sl, f, sl', r, e, q⟩ := q
  simp only [evSs] at e
  cases e
  exact q G H σ r (Same.refl _)
theorem ess_cons {c : Stm} {cs : Stms} {s : Stmt} {ss : List Stmt} (h : ES X ap aM aS C c s) (h2 : ESs X ap aM aS C cs ss) : ESs X ap aM aS C (.cons c cs) (s :: ss) := fun am =>
  pss_weak (pss_cons (h am) (h2 am)) fun D σ H q => by
    obtain ⟨G, sl, f, sl', r, e, q⟩ := q
    simp only [evSs] at e
    split at e
    · rename_i sl1 e1
      exact ⟨G, sl, .nx, sl1, r, e1, fun G1 H1 σ1 r1 g1 => ⟨G1, sl1, f, sl', r1, e, q.mono g1⟩⟩
    · rename_i f' sl1 nf e1
      cases e
      refine ⟨G, sl, f, sl', r, e1, ?_⟩
      cases f with
      | nx => exact (nf rfl).elim
      | bk => exact q
      | ct => exact q
      | rt d fr => exact q
    · cases e

/-! ### assignments -/
theorem es_asg_of {t : Tg} {c : Ex} {s : Stmt} {g : TG} {te : TE} (h : PS X s (tAsg te g)) (hg : ∀ v σ H Q, rdG X.K am t v σ H Q → g v σ H Q) (hv : ∀ σ H Q, rdV X.K ap C am c σ H Q → te σ H Q) : PS X s (rdS X.K ap aM aS C am (.asg t c)) :=
  ps_weak h fun D σ H q => by
    obtain ⟨G, sl, f, sl', r, e, q⟩ := q
    simp only [evS] at e
    split at e
    · rename_i d fr sl1 e1
      split at e
      · rename_i sl2 e2
        cases e
        refine hv _ _ _ ⟨G, sl, d, fr, sl1, r, e1, fun v G1 H1 r1 g1 p => hg _ _ _ _ ⟨G1, sl1, d, sl', r1, p, e2, fun σ2 r2 _ => q G1 H1 σ2 r2 g1⟩⟩
      · cases e
    · cases e
theorem es_asg {t : Tg} {c : Ex} {tg e : Expr} {pos : Pos} (he : EE X ap C c e) (hg : EG X t tg) (hs : swapsWithSole [tg] e pos.line X.env = pure false) (hw : swappedStores [tg] e X.env = pure none) (n : noStar tg = true) : ES X ap aM aS C (.asg t c) (.Assign [tg] e pos) := fun am =>
  es_asg_of (ps_asg (he.val (am := am)) (hg am) hs hw (by rw [asg_cons n]; rfl)) (fun _ _ _ _ q => q) fun _ _ _ q => q
/-- an own object for a name -/
theorem es_asgO_of {i : Nat} {c : Ex} {s : Stmt} {te : TE} (h : PS X s (tAsg te (gName i))) (hv : ∀ σ H Q, rdE X.K ap C am c σ H Q → te σ H Q) : PS X s (rdS X.K ap aM aS C am (.asgO i c)) :=
  ps_weak h fun D σ H q => by
    obtain ⟨G, sl, f, sl', r, e, q⟩ := q
    simp only [evS] at e
    split at e
    · rename_i d fr sl1 e1
      split at e
      · cases e
      · rename_i x nb hx
        cases e
        cases fr with
        | true => exact hv _ _ _ ⟨G, sl, d, true, sl1, r, e1, fun v G1 H1 r1 g1 p => q G1 H1 _ (r1.setOwn hx (fun d z => nb d z) p) g1⟩
        | false => exact hv _ _ _ ⟨G, sl, d, false, sl1, r, e1, fun v G1 H1 r1 g1 p => q G1 H1 _ (r1.setVal hx (fun d z => nb d z) p) g1⟩
      · cases e
    · cases e
theorem es_ret {c : Ex} {e : Expr} {pos : Pos} (he : EE X ap C c e) (n : c.isV = false) : ES X ap aM aS C (.ret c) (.Return (some e) pos) := fun am =>
  ps_weak (ps_ret (he am)) fun D σ H q => by
    obtain ⟨G, sl, f, sl', r, e, q⟩ := q
    have e : (match evE ap C c sl with
      | some (d, fr, sl) => some (Fl.rt d fr, sl)
      | none => none) = some (f, sl') := by
      cases c with
      | v i => cases n
      | _ => exact e
    split at e
    · rename_i d fr sl1 e1
      cases e
      exact ⟨G, sl, d, fr, sl', r, e1, fun v G1 H1 r1 g1 p => q v G1 H1 σ r1 g1 p⟩
    · cases e
/-- a name handed back: an own object goes along -/
theorem es_retV {i : Nat} {e : Expr} {pos : Pos} (he : PE X e (tVar i)) : ES X ap aM aS C (.ret (.v i)) (.Return (some e) pos) := fun am =>
  ps_weak (ps_ret he) fun D σ H q => by
    obtain ⟨G, sl, f, sl', r, e, q⟩ := q
    simp only [evS] at e
    split at e
    · rename_i d hx
      cases e
      obtain ⟨h1, h2⟩ := r.lt hx
      have ew := List.getElem?_eq_getElem h2
      obtain ⟨v, z1, z2⟩ := r.rel i _ _ hx ew
      rw [z1] at ew
      exact ⟨v, ew, q v G H σ r (Same.refl _) z2⟩
    · rename_i d hx
      cases e
      obtain ⟨h1, h2⟩ := r.lt hx
      have ew := List.getElem?_eq_getElem h2
      obtain ⟨a, z1, z2, z3, z4, z5⟩ := r.rel i _ _ hx ew
      rw [z1] at ew
      have ne : ∀ (j : Nat) (x : Sl), (sl.set i .un)[j]? = some x → x.mut = true → j ≠ i ∧ sl[j]? = some x := fun j x q m => by
        by_cases hj : j = i
        · subst hj
          rw [List.getElem?_set_self h1] at q
          cases q; cases m
        · rw [List.getElem?_set_ne (Ne.symm hj)] at q
          exact ⟨hj, q⟩
      have r1 : RS X.K am G H (sl.set i .un) σ := by
        refine ⟨r.sub, by rw [List.length_set]; exact r.len, fun j x w e1 e2 => ?_, fun j k x y b e1 e2 m1 m2 => r.inj j k x y b (ne j x e1 m1).2 (ne k y e2 m2).2 m1 m2, r.fresh, r.frame, r.dom, r.gg, r.g0, fun p hp => ?_⟩
        · by_cases hj : j = i
          · subst hj
            rw [List.getElem?_set_self h1] at e1
            cases e1; trivial
          · rw [List.getElem?_set_ne (Ne.symm hj)] at e1
            exact r.rel j x w e1 e2
        · obtain ⟨q1, d', q2⟩ := r.pin p hp
          refine ⟨q1, d', ?_⟩
          have : i ≠ p.1 := fun z => by rw [← z, hx] at q2; cases q2
          rw [List.getElem?_set_ne this]
          exact q2
      refine ⟨.ref a, ew, q _ G H σ r1 (Same.refl _) ⟨a, rfl, z2, z3, z4, z5, fun j x q m z => (ne j x q m).1 (r.inj j i x _ a (ne j x q m).2 hx m rfl z ew)⟩⟩
    · cases e
theorem es_retN {pos : Pos} : ES X ap aM aS C .retN (.Return none pos) := fun am => ps_weak ps_retN fun D σ H q => by
  obtain ⟨G, sl, f, sl', r, e, q⟩ := q
  simp only [evS] at e
  cases e
  exact q .non G H σ r (Same.refl _) .non
theorem es_ex {c : Ex} {e : Expr} {pos : Pos} (he : EE X ap C c e) (hs : swapsWith e none pos.line X.env = pure false) : ES X ap aM aS C (.ex c) (.Expr e pos) := fun am =>
  ps_weak (ps_expr (he.val (am := am)) hs) fun D σ H q => by
    obtain ⟨G, sl, f, sl', r, e, q⟩ := q
    simp only [evS] at e
    split at e
    · cases e
      exact ⟨G, sl, _, _, _, r, ‹_›, fun v G1 H1 r1 g1 _ => q G1 H1 σ r1 g1⟩
    · cases e
theorem es_brk {pos : Pos} : ES X ap aM aS C .brk (.Break pos) := fun am => ps_weak ps_break fun D σ H q => by
  obtain ⟨G, sl, f, sl', r, e, q⟩ := q
  simp only [evS] at e
  cases e
  exact q G H σ r (Same.refl _)
theorem es_cont {pos : Pos} : ES X ap aM aS C .cont (.Continue pos) := fun am => ps_weak ps_continue fun D σ H q => by
  obtain ⟨G, sl, f, sl', r, e, q⟩ := q
  simp only [evS] at e
  cases e
  exact q G H σ r (Same.refl _)
theorem es_pass {pos : Pos} : ES X ap aM aS C .pass (.Pass pos) := fun am => ps_weak ps_pass fun D σ H q => by
  obtain ⟨G, sl, f, sl', r, e, q⟩ := q
  simp only [evS] at e
  cases e
  exact q G H σ r (Same.refl _)
theorem es_ife {c : Te} {ca cb : Stms} {t : Expr} {a b : List Stmt} {pos : Pos} (ht : ET X ap C c t) (ha : ESs X ap aM aS C ca a) (hb : ESs X ap aM aS C cb b) : ES X ap aM aS C (.ife c ca cb) (.If t a b pos) := fun am =>
  ps_weak (ps_if (ht am) (ha am) (hb am)) fun D σ H q => by
    obtain ⟨G, sl, f, sl', r, e, q⟩ := q
    simp only [evS] at e
    split at e
    · exact ⟨G, sl, _, _, r, ‹_›, fun G1 H1 r1 g1 => iteT ⟨G1, _, f, sl', r1, e, q.mono g1⟩⟩
    · exact ⟨G, sl, _, _, r, ‹_›, fun G1 H1 r1 g1 => iteF ⟨G1, _, f, sl', r1, e, q.mono g1⟩⟩
    · cases e

/-! ### loops -/
theorem es_for {t : Tg} {ik : Ik} {src : Exs} {body : Stms} {tg iter : Expr} {b : List Stmt} {pos : Pos} (hx : X.xe = fun _ _ => False) (hc : X.calm = true) (hi : EI X ap C ik src tg iter) (hg : EG X t tg) (hb : ESs X ap aM aS C body b) (hs : ∀ x, foldedSetIterable iter X.env x = pure x) :
    ES X ap aM aS C (.for_ t ik src body) (.For tg iter b [] pos) := fun am => by
  refine ps_weak (ps_for (by rw [hx]; exact PassesOwn.never) hc (hi am) (hg am) (hb am) hs) fun D σ H q => ?_
  obtain ⟨G, sl, f, sl', r, e, q⟩ := q
  simp only [evS] at e
  split at e
  · rename_i ss sl1 e1
    split at e
    · rename_i items e2
      refine ⟨G, sl, ss, items, sl1, r, e1, e2, fun J G1 H1 r1 g1 wk => ?_⟩
      obtain ⟨P, Y, W, hP, hY⟩ := wk.ex
      generalize hturn : (fun d sl => match asgT t d sl with
          | some sl => evSs ap aM aS C body sl
          | none => none) = turn at e
      refine for_it W (fun i σ H => ∃ G sl, Same G1 G ∧ RS X.K am G H sl σ ∧ forGo turn (items.drop i) sl = some (f, sl')) ⟨G1, sl1, Same.refl _, r1, e⟩ ?_ ?_ ?_
      · rintro i σ H hi ⟨G, sl, a1, a2, a3⟩
        exact hP H (Same.trans a1 a2.sub)
      · rintro i x σ H H' hi ⟨G, sl, a1, a2, a3⟩ y
        obtain ⟨d, G2, hd, b1, b2, b3, b4, b5⟩ := hY i H x H' G a1 a2.sub y
        have a2' := a2.grow b1 b2 b3 b4
        have hdrop : items.drop i = d :: items.drop (i + 1) := by
          rw [List.drop_eq_getElem_cons hi]
          congr 1
          rw [List.getElem?_eq_getElem hi] at hd
          exact Option.some.inj hd
        rw [hdrop] at a3
        have turn_eq : turn d sl = (match asgT t d sl with
          | some sl => evSs ap aM aS C body sl
          | none => none) := by rw [← hturn]
        simp only [forGo] at a3
        rw [turn_eq] at a3
        cases e3 : asgT t d sl with
        | none => rw [e3] at a3; cases a3
        | some sl2 =>
          rw [e3] at a3
          simp only at a3
          refine ⟨G2, sl, d, sl2, a2', b5, e3, fun σ2 r2 _ => ?_⟩
          cases e4 : evSs ap aM aS C body sl2 with
          | none => rw [e4] at a3; cases a3
          | some p =>
            obtain ⟨f2, sl3⟩ := p
            rw [e4] at a3
            refine ⟨G2, sl2, f2, sl3, r2, e4, ?_⟩
            cases f2 with
            | nx => exact fun G' H' σ' r' g' => ⟨G', sl3, Same.trans a1 (Same.trans b2 g'), r', a3⟩
            | ct => exact fun G' H' σ' r' g' => ⟨G', sl3, Same.trans a1 (Same.trans b2 g'), r', a3⟩
            | bk =>
              simp only at a3
              cases a3
              exact fun G' H' σ' r' g' => q G' H' σ' r' (Same.trans g1 (Same.trans a1 (Same.trans b2 g')))
            | rt d2 fr2 =>
              simp only at a3
              cases a3
              exact fun v G' H' σ' r' g' => q v G' H' σ' r' (Same.trans g1 (Same.trans a1 (Same.trans b2 g')))
      · rintro σ H ⟨G, sl, a1, a2, a3⟩
        rw [List.drop_length] at a3
        simp only [forGo] at a3
        cases a3
        exact q G H σ a2 (Same.trans g1 a1)
    · cases e
  · cases e
theorem es_while {c : Te} {body : Stms} {t : Expr} {b : List Stmt} {pos : Pos} (hx : X.xe = fun _ _ => False) (ht : ET X ap C c t) (hb : ESs X ap aM aS C body b) : ES X ap aM aS C (.while_ c body) (.While t b [] pos) := fun am => by
  refine ps_weak (ps_while (by rw [hx]; exact PassesOwn.never) (ht am) (hb am)) fun D σ H q => ?_
  obtain ⟨G0, sl, f, sl', r, e, q⟩ := q
  simp only [evS] at e
  refine ⟨fun m σ H => ∃ G sl, Same G0 G ∧ RS X.K am G H sl σ ∧ whileGo (fun sl => evT ap C c sl) (fun sl => evSs ap aM aS C body sl) m sl = some (f, sl'), ⟨whileFuel, G0, sl, Same.refl _, r, e⟩, ?_⟩
  rintro m σ H ⟨G, sl, a1, a2, a3⟩
  cases m with
  | zero => simp only [whileGo] at a3; cases a3
  | succ m =>
    simp only [whileGo] at a3
    split at a3
    · rename_i sl1 e1
      refine ⟨G, sl, true, sl1, a2, e1, fun G1 H1 r1 g1 => iteT ⟨fun σ H => ∃ G sl, Same G0 G ∧ RS X.K am G H sl σ ∧ whileGo (fun sl => evT ap C c sl) (fun sl => evSs ap aM aS C body sl) m sl = some (f, sl'), fun σ' H' n => ⟨m, Nat.lt_succ_self m, n⟩, ?_⟩⟩
      split at a3
      · rename_i sl2 e2
        exact ⟨G1, sl1, .nx, sl2, r1, e2, fun G' H' σ' r' g' => ⟨G', sl2, Same.trans a1 (Same.trans g1 g'), r', a3⟩⟩
      · rename_i sl2 e2
        exact ⟨G1, sl1, .ct, sl2, r1, e2, fun G' H' σ' r' g' => ⟨G', sl2, Same.trans a1 (Same.trans g1 g'), r', a3⟩⟩
      · rename_i sl2 e2
        cases a3
        exact ⟨G1, sl1, .bk, _, r1, e2, fun G' H' σ' r' g' => q G' H' σ' r' (Same.trans a1 (Same.trans g1 g'))⟩
      · rename_i d fr sl2 e2
        cases a3
        exact ⟨G1, sl1, .rt d fr, _, r1, e2, fun v G' H' σ' r' g' => q v G' H' σ' r' (Same.trans a1 (Same.trans g1 g'))⟩
      · cases a3
    · rename_i sl1 e1
      cases a3
      exact ⟨G, sl, false, _, a2, e1, fun G1 H1 r1 g1 => iteF (q G1 H1 σ r1 (Same.trans a1 g1))⟩
    · cases a3
end
end EV
namespace EV
open PySem PySem.Spec L2
open PyProof.Rows hiding St

/-! ### changes in place -/
section
variable {K : PySem.W.Frag} {am : Amb} {σ : St} {G H : Hp} {sl : Ss}
theorem RS.mutate (r : RS K am G H sl σ) {i : Nat} {x y : Sl} {a : Addr} {d d' : D} {o : HO} (hx : sl[i]? = some x) (hσ : σ[i]? = some (some (.ref a))) (hd : (x = .own d ∧ y = .own d') ∨ (x = .bor d ∧ y = .bor d')) (h : Hold K G (some o) d') :
    RS K am G (upd H a o) (sl.set i y) σ := by
  obtain ⟨h1, h2⟩ := r.lt hx
  have q := r.rel i x _ hx hσ
  have facts : G a = none ∧ am.A a ∧ (∃ u, H a = some u) ∧ x.mut = true ∧ y.mut = true := by
    rcases hd with ⟨rfl, rfl⟩ | ⟨rfl, rfl⟩
    · obtain ⟨b, z1, z2, z3, z4, z5⟩ := q; cases z1; obtain ⟨u, hu, _⟩ := z5.some; exact ⟨z2, z3, ⟨u, hu⟩, rfl, rfl⟩
    · obtain ⟨b, z1, z2, z3, z5⟩ := q; cases z1; obtain ⟨u, hu, _⟩ := z5.some; exact ⟨z2, z3, ⟨u, hu⟩, rfl, rfl⟩
  obtain ⟨ga, hA, ⟨u, hu⟩, mx, my⟩ := facts
  have old : ∀ (j : Nat) (z : Sl), (sl.set i y)[j]? = some z → (j = i ∧ z = y) ∨ (j ≠ i ∧ sl[j]? = some z) := fun j z e => by
    by_cases hj : j = i
    · subst hj
      rw [List.getElem?_set_self h1] at e
      exact .inl ⟨rfl, (Option.some.inj e).symm⟩
    · rw [List.getElem?_set_ne (Ne.symm hj)] at e
      exact .inr ⟨hj, e⟩
  have mutOld : ∀ (j : Nat) (z : Sl), (sl.set i y)[j]? = some z → z.mut = true → ∃ z', sl[j]? = some z' ∧ z'.mut = true := fun j z e m => by
    rcases old j z e with ⟨rfl, rfl⟩ | ⟨_, e⟩
    · exact ⟨x, hx, mx⟩
    · exact ⟨z, e, m⟩
  refine ⟨fun b o' e => ?_, by rw [List.length_set]; exact r.len, fun j z w e1 e2 => ?_, fun j k z z' b e1 e2 m1 m2 => ?_, fun p hp => ?_, fun b o' e nA => ?_, fun b e => ?_, r.gg, r.g0, fun p hp => ?_⟩
  · rw [upd_ne (ne_of_none e ga)]; exact r.sub b o' e
  · rcases old j z e1 with ⟨rfl, rfl⟩ | ⟨hj, e1⟩
    · rw [hσ] at e2; cases e2
      rcases hd with ⟨rfl, rfl⟩ | ⟨rfl, rfl⟩
      · obtain ⟨b, z1, z2, z3, z4, z5⟩ := q; cases z1
        exact ⟨a, rfl, z2, z3, z4, by rw [upd_same]; exact h⟩
      · obtain ⟨b, z1, z2, z3, z5⟩ := q; cases z1
        exact ⟨a, rfl, z2, z3, by rw [upd_same]; exact h⟩
    · have q' := r.rel j z w e1 e2
      cases z with
      | un => trivial
      | val d => exact q'
      | own d =>
        obtain ⟨b, z1, z2, z3, z4, z5⟩ := q'
        subst z1
        have ne : b ≠ a := fun z => hj (r.inj j i _ x a e1 hx rfl mx (by rw [e2, z]) hσ)
        exact ⟨b, rfl, z2, z3, z4, by rw [upd_ne ne]; exact z5⟩
      | bor d =>
        obtain ⟨b, z1, z2, z3, z5⟩ := q'
        subst z1
        have ne : b ≠ a := fun z => hj (r.inj j i _ x a e1 hx rfl mx (by rw [e2, z]) hσ)
        exact ⟨b, rfl, z2, z3, by rw [upd_ne ne]; exact z5⟩
  · obtain ⟨w1, e1', m1'⟩ := mutOld j z e1 m1
    obtain ⟨w2, e2', m2'⟩ := mutOld k z' e2 m2
    exact r.inj j k w1 w2 b e1' e2' m1' m2'
  · have ne : p ≠ a := fun z => by rw [z, upd_same] at hp; cases hp
    rw [upd_ne ne] at hp
    exact r.fresh p hp
  · have ne : b ≠ a := fun z => nA (by rw [z]; exact hA)
    rw [upd_ne ne]; exact r.frame b o' e nA
  · by_cases hb : b = a
    · subst hb; rw [upd_same]; exact fun z => nomatch z
    · rw [upd_ne hb]; exact r.dom b e
  · obtain ⟨q1, d2, q2⟩ := r.pin p hp
    refine ⟨q1, ?_⟩
    by_cases hj : p.1 = i
    · rw [hj, hx] at q2
      rcases hd with ⟨rfl, rfl⟩ | ⟨rfl, rfl⟩
      · cases q2
      · exact ⟨d', by rw [hj, List.getElem?_set_self h1]⟩
    · exact ⟨d2, by rw [List.getElem?_set_ne (Ne.symm hj)]; exact q2⟩
/-- the slot of a changing object -/
theorem RS.ofMut (r : RS K am G H sl σ) {i : Nat} (h : EV.mutAt sl i = true) : ∃ a, σ[i]? = some (some (.ref a)) := by
  unfold EV.mutAt at h
  split at h
  · rename_i x hx
    obtain ⟨_, h2⟩ := r.lt hx
    have ew := List.getElem?_eq_getElem h2
    have q := r.rel i x _ hx ew
    cases x with
    | un => cases h
    | val d => cases h
    | own d => obtain ⟨a, z, _⟩ := q; rw [z] at ew; exact ⟨a, ew⟩
    | bor d => obtain ⟨a, z, _⟩ := q; rw [z] at ew; exact ⟨a, ew⟩
  · cases h
end

/-- a method that changes its object, on data: what it holds (d), the arguments, the new content -/
def rMu (K : PySem.W.Frag) (g : D → List D → Option D) : V → List V → Hp → VK → Prop := fun x vs H Q => ∃ (G : Hp) (a : Addr) (d : D) (ds : List D) (d' : D), Same G H ∧ G a = none ∧ x = .ref a ∧ Hold K G (H a) d ∧ RpA K G vs ds ∧ g d ds = some d' ∧
  ∀ o, Hold K G (some o) d' → Q .non (upd H a o)
def muAppend : D → List D → Option D
  | .list ds, [d] => if ds.length < sizeLine then some (.list (ds ++ [d])) else none
  | _, _ => none
def muExtend : D → List D → Option D
  | .list ds, [.list es] => if ds.length + es.length ≤ sizeLine then some (.list (ds ++ es)) else none
  | _, _ => none
def muReverse : D → List D → Option D
  | .list ds, [] => some (.list ds.reverse)
  | _, _ => none
def muClear : D → List D → Option D
  | .list ds, [] => some (.list [])
  | _, _ => none
def aM : ApM
  | .append => muAppend
  | .extend => muExtend
  | .reverse => muReverse
  | .clear => muClear
theorem RpA.reverse {K : PySem.W.Frag} {G : Hp} {vs : List V} {ds : List D} (h : RpA K G vs ds) : RpA K G vs.reverse ds.reverse := by
  have : ∀ (vs : List V) (ds : List D), RpA K G vs ds → RpA K G vs.reverse ds.reverse := by
    intro vs
    induction vs with
    | nil => intro ds h; cases h; exact .nil
    | cons v vs ih =>
      intro ds h
      cases h with
      | cons h1 h2 =>
        rw [List.reverse_cons, List.reverse_cons]
        exact (ih _ h2).append (.cons h1 .nil)
  exact this _ _ h
section
variable {X : Cx} {ap : ApB} {C : CallT} {am : Amb}
theorem mu_append : MtR X "list.append" (rMu X.K muAppend) := by
  intro pins s σ H x vs v us Q I rx rv h
  obtain ⟨G, a, d, ds, d', sm, ga, rfl, ho, r, e, q⟩ := h
  unfold muAppend at e
  split at e
  · split at e
    · rename_i hz
      cases e
      obtain ⟨xs, h1, h2⟩ := ho
      cases r with
      | cons p r =>
        cases r
        exact L2.mt_append pins s σ H _ _ v us Q I rx rv ⟨a, xs, _, rfl, rfl, h1, by rw [h2.length]; exact hz, q _ ⟨_, rfl, h2.append (.cons p .nil)⟩⟩
    · cases e
  · cases e
theorem mu_extend : MtR X "list.extend" (rMu X.K muExtend) := by
  intro pins s σ H x vs v us Q I rx rv h
  obtain ⟨G, a, d, ds, d', sm, ga, rfl, ho, r, e, q⟩ := h
  unfold muExtend at e
  split at e
  · split at e
    · rename_i hz
      cases e
      obtain ⟨xs, h1, h2⟩ := ho
      cases r with
      | cons p r =>
        cases r
        cases p with
        | lst z1 z2 =>
          exact L2.mt_extend pins s σ H _ _ v us Q I rx rv ⟨a, _, xs, _, rfl, rfl, h1, sm _ _ z1, by rw [h2.length, z2.length]; exact hz, q _ ⟨_, rfl, h2.append z2⟩⟩
    · cases e
  · cases e
theorem mu_reverse : MtR X "list.reverse" (rMu X.K muReverse) := by
  intro pins s σ H x vs v us Q I rx rv h
  obtain ⟨G, a, d, ds, d', sm, ga, rfl, ho, r, e, q⟩ := h
  unfold muReverse at e
  split at e
  · cases e
    obtain ⟨xs, h1, h2⟩ := ho
    cases r
    exact L2.mt_reverse pins s σ H _ _ v us Q I rx rv ⟨a, xs, rfl, rfl, h1, q _ ⟨_, rfl, h2.reverse⟩⟩
  · cases e
theorem mu_clear : MtR X "list.clear" (rMu X.K muClear) := by
  intro pins s σ H x vs v us Q I rx rv h
  obtain ⟨G, a, d, ds, d', sm, ga, rfl, ho, r, e, q⟩ := h
  unfold muClear at e
  split at e
  · cases e
    obtain ⟨xs, h1, h2⟩ := ho
    cases r
    exact L2.mt_clear pins s σ H _ _ v us Q I rx rv ⟨a, xs, rfl, rfl, h1, q _ ⟨_, rfl, .nil⟩⟩
  · cases e

/-- the slot of a list -/
theorem RS.ofList {K : PySem.W.Frag} {am : Amb} {σ : St} {G H : Hp} {sl : Ss} (r : RS K am G H sl σ) {i : Nat} (h : listAt sl i = true) : ∃ a, σ[i]? = some (some (.ref a)) ∧ tyV K "list" (.ref a) H := by
  unfold listAt at h
  split at h
  · rename_i ds hx
    obtain ⟨_, h2⟩ := r.lt hx
    have ew := List.getElem?_eq_getElem h2
    obtain ⟨a, z, _, _, _, xs, hl, _⟩ := r.rel i _ _ hx ew
    rw [z] at ew
    exact ⟨a, ew, .inl ⟨rfl, xs, SqL.of hl⟩⟩
  · rename_i ds hx
    obtain ⟨_, h2⟩ := r.lt hx
    have ew := List.getElem?_eq_getElem h2
    obtain ⟨a, z, _, _, xs, hl, _⟩ := r.rel i _ _ hx ew
    rw [z] at ew
    exact ⟨a, ew, .inl ⟨rfl, xs, SqL.of hl⟩⟩
  · cases h
theorem es_mu_of {aS : ApS} {m : Mu} {i : Nat} {cs : Exs} {e : Expr} {pos : Pos} {te : TE} (h : PE X e te) (hs : swapsWith e none pos.line X.env = pure false)
    (hr : ∀ σ H Q, (∃ a, σ[i]? = some (some (.ref a)) ∧ tyV X.K "list" (.ref a) H ∧ rdEs X.K ap C am cs σ H fun vs H2 => rMu X.K (aM m) (.ref a) vs H2 Q) → te σ H Q) : PS X (.Expr e pos) (rdS X.K ap aM aS C am (.mu m i cs)) :=
  ps_weak (ps_expr h hs) fun D σ H q => by
    obtain ⟨G, sl, f, sl', r, e, q⟩ := q
    simp only [evS] at e
    split at e
    · rename_i ds sl1 hm e1
      obtain ⟨a, ha, ty⟩ := r.ofList hm
      refine hr _ _ _ ⟨a, ha, ty, G, sl, ds, sl1, r, e1, fun vs G1 H1 r1 g1 p => ?_⟩
      split at e
      · rename_i d hx
        split at e
        · rename_i d' e2
          cases e
          obtain ⟨b, z1, z2, z3, z4, z5⟩ := r1.rel i _ _ hx ha
          cases z1
          exact ⟨G1, a, d, ds, d', r1.sub, z2, rfl, z5, p, e2, fun o ho => q G1 _ σ (r1.mutate hx ha (.inl ⟨rfl, rfl⟩) ho) g1⟩
        · cases e
      · rename_i d hx
        split at e
        · rename_i d' e2
          cases e
          obtain ⟨b, z1, z2, z3, z5⟩ := r1.rel i _ _ hx ha
          cases z1
          exact ⟨G1, a, d, ds, d', r1.sub, z2, rfl, z5, p, e2, fun o ho => q G1 _ σ (r1.mutate hx ha (.inr ⟨rfl, rfl⟩) ho) g1⟩
        · cases e
      · cases e
    · cases e
theorem es_mu {aS : ApS} {m : Mu} {id : String} {i : Nat} {c : Ex} {cs : Exs} {nm : Str} {o e : Expr} {es : List Expr} {apos cpos pos : Pos} (slot : Slot "list" nm id) (hty : typeOf (.builtin id) = pure (.type "method_descriptor")) (hm : MtR X id (rMu X.K (aM m))) (ho : PE X o (tVar i)) (ha : ∀ am, PA X (e :: es) (rdEs X.K ap C am (.cons c cs)))
    (hb : attributeBase o nm X.env (eval o X.env) = eval o X.env) (hn : (e :: es).all noStar = true) (hf : (e :: es).length < 29) (hl : (apos.endLine == cpos.line) = true) : ES X ap aM aS C (.mu m i (.cons c cs)) (.Expr (.Call (.Attribute o nm apos) (e :: es) [] cpos) pos) := fun am => by
  have hn' := hn
  rw [List.all_cons, Bool.and_eq_true] at hn'
  have st : ∀ (l : List Expr), l.all noStar = true → (backTo cpos (starEach l X.env)).all (fun x => !x.1) = true := fun l => by
    induction l with
    | nil => intro _; rfl
    | cons a l ih =>
      intro h
      rw [List.all_cons, Bool.and_eq_true] at h
      rw [star_cons h.1]
      show (!false && (backTo cpos (starEach l X.env)).all (fun x => !x.1)) = true
      rw [ih h.2]
      rfl
  refine es_mu_of (pe_bm PySem.F.plainAttrs_list slot hty hm ho (ha am) hb ?_ hl (star_cons hn'.1) (star_plain hn'.2)) rfl fun σ H Q q => ?_
  · rw [Bool.and_eq_true, Bool.and_eq_true]
    refine ⟨⟨st _ hn, rfl⟩, ?_⟩
    simp only [decide_eq_true_eq, List.length_nil, List.isEmpty_nil, if_true, Nat.add_zero]
    omega
  · obtain ⟨a, h1, h2, h3⟩ := q
    exact ⟨_, h1, h2, h3⟩
theorem es_mu0 {aS : ApS} {m : Mu} {id : String} {i : Nat} {nm : Str} {o : Expr} {apos cpos pos : Pos} (slot : Slot "list" nm id) (hty : typeOf (.builtin id) = pure (.type "method_descriptor")) (hm : MtR X id (rMu X.K (aM m))) (ho : PE X o (tVar i))
    (hb : attributeBase o nm X.env (eval o X.env) = eval o X.env) (hl : (apos.endLine == cpos.line) = true) : ES X ap aM aS C (.mu m i .nil) (.Expr (.Call (.Attribute o nm apos) [] [] cpos) pos) := fun am => by
  refine es_mu_of (pe_bm0 PySem.F.plainAttrs_list slot hty hm ho hb hl) rfl fun σ H Q q => ?_
  obtain ⟨a, h1, h2, G, sl, ds, sl', r, e, h3⟩ := q
  simp only [evEs] at e
  cases e
  exact ⟨_, h1, h2, h3 [] G H r (Same.refl _) .nil⟩

/-! ### x[i] = e -/
def aS : ApS
  | .list ds, .int k, d => (ixN ds.length k).map fun j => .list (ds.set j d)
  | .dict es, k, d => if isKey k = true ∧ es.length < sizeLine then some (.dict (putD es k d)) else none
  | _, _, _ => none
/-- d[k] = v -/
def rSetD : V → V → V → Hp → (Hp → Prop) → Prop := fun o i v H Q => ∃ (a : Addr) (kvs : List (Key × V)) (k : Key), o = .ref a ∧ i = kV k ∧ H a = some (.dK kvs) ∧ kvs.length < sizeLine ∧ Q (upd H a (.dK (putK kvs k v)))
theorem set_dict (hu : X.A.units + 1 < cLine) : PSet X rSetD := by
  intro pins s σ H o i v ov iv u Q I ro ri rv h
  obtain ⟨a, kvs, k, rfl, rfl, hp, hl, q⟩ := h
  obtain rfl : ov = Value.ref a := ro
  exact d_setItem hu I (DPut.k hp hl) ri rv fun s' I' => ⟨_, I', q⟩
theorem set_or {t t' : V → V → V → Hp → (Hp → Prop) → Prop} (h : PSet X t) (h' : PSet X t') : PSet X fun o i v H Q => t o i v H Q ∨ t' o i v H Q := by
  intro pins s σ H o i v ov iv u Q I ro ri rv q
  exact q.elim (h pins s σ H o i v ov iv u Q I ro ri rv) (h' pins s σ H o i v ov iv u Q I ro ri rv)
theorem es_setI (hu : X.A.units + 1 < cLine) {i : Nat} {cx cv : Ex} {o ix e : Expr} {pos tpos : Pos} (ho : PE X o (tVar i)) (hi : EE X ap C cx ix) (he : EE X ap C cv e)
    (hs : swapsWithSole [.Subscript o ix tpos] e pos.line X.env = pure false) (hw : swappedStores [.Subscript o ix tpos] e X.env = pure none) (ha : ∀ v, assign (.Subscript o ix tpos) X.env v = (do
      let ov ← holding [v] (eval o X.env)
      let iv ← holding [v, ov] (eval ix X.env)
      standAt tpos
      holding [v, ov, iv] (setItem ov iv v)
      release [v, ov, iv] [])) : ES X ap aM aS C (.setI i cx cv) (.Assign [.Subscript o ix tpos] e pos) := fun am =>
  ps_weak (ps_asg (he.val (am := am)) (pg_sub ho (hi.val (am := am)) (set_or set_list (set_dict hu)) ha) hs hw (by rfl)) fun D σ H q => by
    obtain ⟨G, sl, f, sl', r, e, q⟩ := q
    simp only [evS] at e
    split at e
    · rename_i x fx sl1 e1
      refine ⟨G, sl, x, fx, sl1, r, e1, fun v G1 H1 r1 g1 p1 => ?_⟩
      split at e
      · rename_i j fj sl2 hm e2
        obtain ⟨a, ha⟩ := r1.ofMut hm
        refine ⟨_, ha, G1, sl1, j, fj, sl2, r1, e2, fun w G2 H2 r2 g2 p2 => ?_⟩
        have key : ∀ {y z : Sl} {d d' : PySem.PyData}, sl2[i]? = some y → (y = .own d ∧ z = .own d') ∨ (y = .bor d ∧ z = .bor d') → aS d j x = some d' → f = .nx → sl' = sl2.set i z → (rSetL (.ref a) w v H2 fun H3 => D.nx σ H3) ∨ (rSetD (.ref a) w v H2 fun H3 => D.nx σ H3) := fun {y z d d'} hx hd ea hf hsl => by
          subst hf hsl
          cases d with
          | list ds =>
            cases j with
            | int k =>
              simp only [aS] at ea
              cases hk : ixN ds.length k with
              | none => rw [hk] at ea; cases ea
              | some jj =>
                rw [hk] at ea
                cases ea
                cases p2
                have ho : ∃ xs, H2 a = some (.lst xs) ∧ RpA X.K G2 xs ds := by
                  have q' := r2.rel i _ _ hx ha
                  rcases hd with ⟨rfl, rfl⟩ | ⟨rfl, rfl⟩
                  · obtain ⟨b, z1, z2, z3, z4, z5⟩ := q'; cases z1; exact z5
                  · obtain ⟨b, z1, z2, z3, z5⟩ := q'; cases z1; exact z5
                obtain ⟨xs, h1, h2⟩ := ho
                refine .inl ⟨a, xs, k, jj, rfl, rfl, h1, by rw [h2.length]; exact hk, ?_⟩
                exact q G2 _ σ (r2.mutate hx ha hd ⟨_, rfl, h2.set (p1.mono g2) jj⟩) (Same.trans g1 g2)
            | _ => cases ea
          | dict es =>
            simp only [aS] at ea
            split at ea
            · rename_i hk
              cases ea
              obtain ⟨kk, rfl⟩ := kD_of hk.1
              have ho : ∃ kvs, H2 a = some (.dK kvs) ∧ RpK X.K G2 kvs es := by
                have q' := r2.rel i _ _ hx ha
                rcases hd with ⟨rfl, rfl⟩ | ⟨rfl, rfl⟩
                · obtain ⟨b, z1, z2, z3, z4, z5⟩ := q'; cases z1; exact z5
                · obtain ⟨b, z1, z2, z3, z5⟩ := q'; cases z1; exact z5
              obtain ⟨kvs, h1, h2⟩ := ho
              have ew : w = kV kk := by
                cases kk with
                | inl i => cases p2; rfl
                | inr x => cases p2; rfl
              refine .inr ⟨a, kvs, kk, rfl, ew, h1, by rw [h2.length]; exact hk.2, ?_⟩
              exact q G2 _ σ (r2.mutate hx ha hd ⟨_, rfl, h2.put kk (p1.mono g2)⟩) (Same.trans g1 g2)
            · cases ea
          | _ => cases ea
        split at e
        · rename_i d hx
          split at e
          · rename_i d' e3
            cases e
            exact key hx (.inl ⟨rfl, rfl⟩) e3 rfl rfl
          · cases e
        · rename_i d hx
          split at e
          · rename_i d' e3
            cases e
            exact key hx (.inr ⟨rfl, rfl⟩) e3 rfl rfl
          · cases e
        · cases e
      · cases e
    · cases e

/-! ### x op= e -/
theorem es_aug {aM' : ApM} {aS' : ApS} {i : Nat} {f : Bi} {c : Ex} {x : Str} {e : Expr} {op : Operator} {pos pos' : Pos} (hN : X.N.Nodup) (hi : X.N[i]? = some x) (hx : Loc X.env.scope x) (hf : X.fn x = true ∨ X.env.scope.names.lookup x = some .local) (he : EE X ap C c e)
    (o : OpR X (inplaceOp op) (fun x y H Q => rBi X.K (ap f) [x, y] H Q)) (hfr : ∀ ds d fr, ap f ds = some (d, fr) → fr = false) : ES X ap aM' aS' C (.aug i f c) (.AugAssign (.Name x pos') op e pos) := fun am =>
  ps_weak (ps_aug (ti := fun x y H Q => rBi X.K (ap f) [x, y] H Q) hN hi hx (he.val (am := am)) o hf) fun D σ H q => by
    obtain ⟨G, sl, fl, sl', r, e, q⟩ := q
    simp only [evS] at e
    split at e
    · rename_i x0 hx0
      split at e
      · rename_i y fy sl1 e1
        split at e
        · rename_i d fr e2
          split at e
          rename_i x1 hy1
          cases e
          obtain ⟨_, h2⟩ := r.lt hx0
          have ew := List.getElem?_eq_getElem h2
          obtain ⟨v, z1, z2⟩ := r.rel i _ _ hx0 ew
          rw [z1] at ew
          have := hfr _ _ _ e2
          subst this
          refine ⟨v, ew, G, sl, y, fy, sl1, r, e1, fun w G1 H1 r1 g1 p1 => ?_⟩
          refine r1.bi (vs := [v, w]) (os := [.d x0, .d y]) (.cons (z2.mono g1) (.cons p1 .nil)) rfl e2 g1 fun u G2 H2 r2 g2 p2 => ?_
          exact q G2 H2 _ (r2.setVal hy1 (fun d z => by cases z) p2) g2
          cases e
        · cases e
      · cases e
    · cases e
end
end EV
namespace EV
open PySem PySem.Spec L2
open PyProof.Rows hiding St
section
variable {X : Cx}
/-! ### subscripts -/
def apItem : List D → Option (D × Bool)
  | [.list ds, .int i] => (atI ds i).map fun d => (d, false)
  | [.tuple ds, .int i] => (atI ds i).map fun d => (d, false)
  | [.str z, .int i] => if z.length ≤ sizeLine then (atI z.cps.toList i).map fun c => (.str ⟨#[c]⟩, false) else none
  | [.dict [(.none, .list ds)], .int i] => (atI ds i).map fun d => (d, false)
  | [.dict es, k] => if isKey k = true then (valD es k).map fun d => (d, false) else none
  | _ => none
theorem atI_rp {K : PySem.W.Frag} {G : Hp} {vs : List V} {ds : List D} {i : Int} {d : D} (r : RpA K G vs ds) (e : atI ds i = some d) : ∃ v, atI vs i = some v ∧ Rp K G v d := by
  unfold atI at e ⊢
  rw [r.length]
  cases h : ixN ds.length i with
  | none => rw [h] at e; cases e
  | some j =>
    rw [h] at e
    exact r.getD (by simpa using e)
theorem Pk.scr {K : PySem.W.Frag} {G H : Hp} {v : V} {ds : List D} (sm : Same G H) (h : Pk K G H v (.dict [(.none, .list ds)])) : ∃ (a : Addr) (ns : List Int), v = .ref a ∧ SqL K H a (ns.map V.int) ∧ ds = ns.map PyData.int := by
  rcases h with h | ⟨a, rfl, kvs, h1, h2⟩
  · generalize hd : PyData.dict [(.none, .list ds)] = d at h
    cases h with
    | scr h => injection hd with hd; injection hd with hd _; injection hd with _ hd; injection hd with hd; exact ⟨_, _, rfl, L2.Same.seq sm h, hd⟩
    | fn h => injection hd with hd; injection hd with hd _; injection hd with _ hd; cases hd
    | dct h1 h2 =>
      injection hd with hd
      subst hd
      generalize hk : (PyData.none, PyData.list ds) = p at h2
      generalize hl : [p] = l at h2
      cases h2 with
      | nil => cases hl
      | cons h3 h4 =>
        rename_i k _ _ _ _
        injection hl with hl _
        rw [← hk] at hl
        injection hl with hl _
        cases k <;> cases hl
    | _ => cases hd
  · exfalso
    generalize hk : (PyData.none, PyData.list ds) = p at h2
    generalize hl : [p] = l at h2
    cases h2 with
    | nil => cases hl
    | cons h3 h4 =>
      rename_i k _ _ _ _
      injection hl with hl _
      rw [← hk] at hl
      injection hl with hl _
      cases k <;> cases hl
theorem atI_map {α β : Type} (f : α → β) (xs : List α) (i : Int) : atI (xs.map f) i = (atI xs i).map f := by
  unfold atI
  rw [List.length_map]
  cases ixN xs.length i with
  | none => rfl
  | some j => simp [List.getElem?_map]
theorem o_item (hu : X.A.units + 2 < cLine) : IxR X (fun x y H Q => rBi X.K apItem [x, y] H Q) := by
  intro value slice pins s σ H x y v u Q I rx ry h hs
  obtain ⟨G, a, b, d, fr, sm, ha, hb, e, q⟩ := rBi2 h
  unfold apItem at e
  split at e
  · rename_i ds i he
    simp only [List.cons.injEq, and_true] at he
    obtain ⟨rfl, rfl⟩ := he
    cases h1 : atI ds i with
    | none => rw [h1] at e; cases e
    | some d' =>
      rw [h1] at e; cases e
      obtain ⟨a, xs, rfl, h2, r⟩ := ha.lst sm
      obtain ⟨z, h3, p⟩ := atI_rp r h1
      exact ix_list value slice pins s σ H _ y v u Q I rx ry ⟨a, xs, i, z, rfl, hb.int, SqL.of h2, h3, q _ _ _ (.same sm p)⟩ hs
  · rename_i ds i he
    simp only [List.cons.injEq, and_true] at he
    obtain ⟨rfl, rfl⟩ := he
    cases h1 : atI ds i with
    | none => rw [h1] at e; cases e
    | some d' =>
      rw [h1] at e; cases e
      obtain ⟨a, xs, rfl, h2, r⟩ := ha.tup
      obtain ⟨z, h3, p⟩ := atI_rp r h1
      exact ix_tup value slice pins s σ H _ y v u Q I rx ry ⟨a, xs, i, z, rfl, hb.int, Same.seqT sm h2, h3, q _ _ _ (.same sm p)⟩ hs
  · rename_i z i he
    simp only [List.cons.injEq, and_true] at he
    obtain ⟨rfl, rfl⟩ := he
    split at e
    · rename_i hz
      cases h1 : atI z.cps.toList i with
      | none => rw [h1] at e; cases e
      | some c =>
        rw [h1] at e; cases e
        exact ix_str value slice pins s σ H x y v u Q I rx ry ⟨z, i, c, ha.str, hb.int, hz, h1, q _ _ _ (.same sm (.str _))⟩ hs
    · cases e
  · rename_i ds i he
    simp only [List.cons.injEq, and_true] at he
    obtain ⟨rfl, rfl⟩ := he
    obtain ⟨a, ns, rfl, h2, rfl⟩ := ha.scr sm
    rw [atI_map] at e
    cases h1 : atI ns i with
    | none => rw [h1] at e; cases e
    | some k =>
      rw [h1] at e; cases e
      exact ix_list value slice pins s σ H _ y v u Q I rx ry ⟨a, _, i, .int k, rfl, hb.int, h2, by rw [atI_map, h1]; rfl, q _ _ _ (.same sm (.int _))⟩ hs
  · rename_i es k _ he
    simp only [List.cons.injEq, and_true] at he
    obtain ⟨rfl, rfl⟩ := he
    split at e
    · rename_i hk
      cases h1 : valD es b with
      | none => rw [h1] at e; cases e
      | some d' =>
        rw [h1] at e; cases e
        rcases ha.dct sm with ⟨a, kvs, rfl, h2, r⟩ | ⟨d, rfl⟩
        · obtain ⟨kk, rfl⟩ := kD_of hk
          obtain ⟨z, z1, z2⟩ := (r.val (k := kk)).1 _ h1
          have ey : y = kV kk := by
            cases kk with
            | inl i => exact hb.int
            | inr x => exact hb.str
          subst ey
          have g : DGet H a (kV kk) (some z) := by rw [← z1]; exact DGet.k h2
          obtain rfl : v = Value.ref a := rx
          exact tail_any (dict_typeIs I g) PySem.F.slot_dict_getitem.lookup (d_getItem (by omega) I g ry fun w' s' I' rw' => ⟨z, H, I', rw', q _ _ _ (.same sm z2)⟩) hs
        · exact (valD_mark hk h1).elim
    · cases e
  · cases e

/-! ### slices -/
theorem RpA.cut {K : PySem.W.Frag} {G : Hp} {vs : List V} {ds : List D} (r : RpA K G vs ds) (lo hi : Option Int) : RpA K G (cutV vs lo hi) (cutD ds lo hi) := by
  unfold cutV cutD
  rw [r.length]
  exact (r.drop _).take _
/-- what a slice's reading asks -/
def rCut (K : PySem.W.Frag) : V → Option Int → Option Int → Hp → VK → Prop := fun x lo hi H Q => ∃ (G : Hp) (a d : D) (fr : Bool), Same G H ∧ Pk K G H x a ∧ apCut a lo hi = some (d, fr) ∧ ∀ v G' H', Step K G H G' H' v d fr → Q v H'
theorem o_cut : SlR X (rCut X.K) := by
  intro pins s σ H x v vl vu lo hi sl Q I rx hs pl pu h
  obtain ⟨G, a, d, fr, sm, ha, e, q⟩ := h
  cases a with
  | list ds =>
    cases e
    obtain ⟨a, xs, rfl, h2, r⟩ := ha.lst sm
    exact sl_list pins s σ H _ v vl vu _ _ sl Q I rx hs pl pu ⟨a, xs, rfl, SqL.of h2, fun p hp => q _ _ _ (.lst sm hp (r.cut _ _))⟩
  | tuple ds =>
    cases e
    obtain ⟨a, xs, rfl, h2, r⟩ := ha.tup
    refine sl_tupA pins s σ H _ v vl vu _ _ sl Q I rx hs pl pu ⟨a, xs, rfl, Same.seqT sm h2, fun hw => ?_, fun _ p hp => q _ _ _ (.tup sm hp (r.cut _ _))⟩
    have e : cutD ds lo hi = ds := by
      unfold cutD
      rw [← r.length, hw.1, hw.2, r.length]
      simp
    rw [e] at q
    exact q _ _ _ (.same sm (.tup h2 r))
  | str z =>
    simp only [apCut] at e
    split at e
    · rename_i hz
      cases e
      exact sl_str pins s σ H x v vl vu _ _ sl Q I rx hs pl pu ⟨z, ha.str, hz, q _ _ _ (.same sm (.str _))⟩
    · cases e
  | _ => cases e

/-! ### built-in functions -/
def apLen : List D → Option (D × Bool)
  | [.list ds] => some (.int ds.length, false)
  | [.tuple ds] => some (.int ds.length, false)
  | [.str z] => if z.length ≤ sizeLine then some (.int z.length, false) else none
  | [.dict [(.none, .list ds)]] => some (.int ds.length, false)
  | [.dict es] => if es.all (fun p => isKey p.1) = true then some (.int es.length, false) else none
  | _ => none
abbrev ON' (X : Cx) (f : Value) (g : List D → Option (D × Bool)) : Prop := CallR X f (rBi X.K g)
theorem o_len : ON' X (.builtin "len") apLen := by
  intro pins s σ H xs us Q I r h
  obtain ⟨G, ds, d, fr, sm, p, e, q⟩ := h
  unfold apLen at e
  split at e
  · cases e
    obtain ⟨x, rfl, ha⟩ := vp1 p
    obtain ⟨a, ys, rfl, h2, r'⟩ := ha.lst sm
    exact call_len_seq pins s σ H _ us Q I r ⟨a, ys, rfl, .inl (SqL.of h2), by rw [r'.length]; exact q _ _ _ (.same sm (.int _))⟩
  · cases e
    obtain ⟨x, rfl, ha⟩ := vp1 p
    obtain ⟨a, ys, rfl, h2, r'⟩ := ha.tup
    exact call_len_seq pins s σ H _ us Q I r ⟨a, ys, rfl, .inr (Same.seqT sm h2), by rw [r'.length]; exact q _ _ _ (.same sm (.int _))⟩
  · split at e
    · rename_i z hz
      cases e
      obtain ⟨x, rfl, ha⟩ := vp1 p
      rw [ha.str] at r
      exact call_len_str pins s σ H _ us Q I r ⟨z, rfl, hz, q _ _ _ (.same sm (.int _))⟩
    · cases e
  · cases e
    obtain ⟨x, rfl, ha⟩ := vp1 p
    obtain ⟨a, ns, rfl, h2, rfl⟩ := ha.scr sm
    refine call_len_seq pins s σ H _ us Q I r ⟨a, _, rfl, .inl h2, ?_⟩
    rw [List.length_map] at q ⊢
    exact q _ _ _ (.same sm (.int _))
  · rename_i es _
    split at e
    · rename_i hk
      cases e
      obtain ⟨x, rfl, ha⟩ := vp1 p
      rcases ha.dct sm with ⟨a, kvs, rfl, h2, r'⟩ | ⟨d, rfl⟩
      · rw [Vals.ref1 r]
        exact d_len I (.inl h2) fun t s' I' => ⟨.int kvs.length, H, I', ⟨t, rfl⟩, by rw [r'.length]; exact q _ _ _ (.same sm (.int _))⟩
      · cases hk
    · cases e
  · cases e
def apAbs : List D → Option (D × Bool)
  | [.int i] => some (.int (if i < 0 then -i else i), false)
  | _ => none
theorem o_abs : ON' X (.builtin "abs") apAbs := by
  intro pins s σ H xs us Q I r h
  obtain ⟨G, ds, d, fr, sm, p, e, q⟩ := h
  unfold apAbs at e
  split at e
  · rename_i i
    cases e
    obtain ⟨x, rfl, ha⟩ := vp1 p
    rw [ha.int] at r
    exact call_abs pins s σ H _ us Q I r ⟨i, rfl, q _ _ _ (.same sm (.int _))⟩
  · cases e
def apMax : List D → Option (D × Bool)
  | [.int i, .int j] => some (.int (if j > i then j else i), false)
  | _ => none
def apMin : List D → Option (D × Bool)
  | [.int i, .int j] => some (.int (if j < i then j else i), false)
  | _ => none
theorem o_max (hc : X.calm = true) : ON' X (.builtin "max") apMax := by
  intro pins s σ H xs us Q I r h
  obtain ⟨G, ds, d, fr, sm, p, e, q⟩ := h
  unfold apMax at e
  split at e
  · rename_i i j
    cases e
    obtain ⟨x, y, rfl, ha, hb⟩ := vp2 p
    rw [ha.int, hb.int] at r
    exact call_max2 hc pins s σ H _ us Q I r ⟨i, j, rfl, q _ _ _ (.same sm (.int _))⟩
  · cases e
theorem o_min (hc : X.calm = true) : ON' X (.builtin "min") apMin := by
  intro pins s σ H xs us Q I r h
  obtain ⟨G, ds, d, fr, sm, p, e, q⟩ := h
  unfold apMin at e
  split at e
  · rename_i i j
    cases e
    obtain ⟨x, y, rfl, ha, hb⟩ := vp2 p
    rw [ha.int, hb.int] at r
    exact call_min2 hc pins s σ H _ us Q I r ⟨i, j, rfl, q _ _ _ (.same sm (.int _))⟩
  · cases e
def apInt : List D → Option (D × Bool)
  | [.int i] => some (.int i, false)
  | [.bool k] => some (.int (if k then 1 else 0), false)
  | _ => none
theorem o_int : ON' X (.type "int") apInt := by
  intro pins s σ H xs us Q I r h
  obtain ⟨G, ds, d, fr, sm, p, e, q⟩ := h
  unfold apInt at e
  split at e
  · rename_i i
    cases e
    obtain ⟨x, rfl, ha⟩ := vp1 p
    rw [ha.int] at r
    exact call_int1 pins s σ H _ us Q I r (.inl ⟨i, rfl, q _ _ _ (.same sm (.int _))⟩)
  · rename_i k
    cases e
    obtain ⟨x, rfl, ha⟩ := vp1 p
    rw [ha.bl] at r
    exact call_int1 pins s σ H _ us Q I r (.inr ⟨k, rfl, q _ _ _ (.same sm (.int _))⟩)
  · cases e
def apTuple : List D → Option (D × Bool)
  | [.list ds] => some (.tuple ds, false)
  | [.tuple ds] => some (.tuple ds, false)
  | _ => none
theorem o_tuple : ON' X (.type "tuple") apTuple := by
  intro pins s σ H xs us Q I r h
  obtain ⟨G, ds, d, fr, sm, p, e, q⟩ := h
  unfold apTuple at e
  split at e
  · cases e
    obtain ⟨x, rfl, ha⟩ := vp1 p
    obtain ⟨a, ys, rfl, h2, r'⟩ := ha.lst sm
    exact call_tuple_of pins s σ H _ us Q I r ⟨a, ys, rfl, .inl ⟨SqL.of h2, fun p hp => q _ _ _ (.tup sm hp r')⟩⟩
  · cases e
    obtain ⟨x, rfl, ha⟩ := vp1 p
    obtain ⟨a, ys, rfl, h2, r'⟩ := ha.tup
    exact call_tuple_of pins s σ H _ us Q I r ⟨a, ys, rfl, .inr ⟨Same.seqT sm h2, q _ _ _ (.same sm (.tup h2 r'))⟩⟩
  · cases e
def apList : List D → Option (D × Bool)
  | [.list ds] => some (.list ds, true)
  | [.tuple ds] => some (.list ds, true)
  | _ => none
theorem o_list : ON' X (.type "list") apList := by
  intro pins s σ H xs us Q I r h
  obtain ⟨G, ds, d, fr, sm, p, e, q⟩ := h
  unfold apList at e
  split at e
  · cases e
    obtain ⟨x, rfl, ha⟩ := vp1 p
    obtain ⟨a, ys, rfl, h2, r'⟩ := ha.lst sm
    exact call_list_of pins s σ H _ us Q I r ⟨a, ys, rfl, .inl (SqL.of h2), fun p hp => q _ _ _ (.lst sm hp r')⟩
  · cases e
    obtain ⟨x, rfl, ha⟩ := vp1 p
    obtain ⟨a, ys, rfl, h2, r'⟩ := ha.tup
    exact call_list_of pins s σ H _ us Q I r ⟨a, ys, rfl, .inr (Same.seqT sm h2), fun p hp => q _ _ _ (.lst sm hp r')⟩
  · cases e
def boolsOf : List D → Option (List Bool)
  | [] => some []
  | .bool b :: r => (boolsOf r).map (b :: ·)
  | _ => none
theorem bools_rp {K : PySem.W.Frag} {G : Hp} : ∀ {vs : List V} {ds : List D} {bs : List Bool}, RpA K G vs ds → boolsOf ds = some bs → vs = bs.map V.bl
  | _, _, _, .nil, e => by cases e; rfl
  | v :: vs, d :: ds, bs, .cons h r, e => by
    cases d with
    | bool b =>
      simp only [boolsOf] at e
      cases h2 : boolsOf ds with
      | none => rw [h2] at e; cases e
      | some cs =>
        rw [h2] at e; cases e
        cases h
        rw [bools_rp r h2]
        rfl
    | _ => cases e
def apAll : List D → Option (D × Bool)
  | [.list ds] => (boolsOf ds).map fun bs => (.bool (bs.all id), false)
  | _ => none
def apAny : List D → Option (D × Bool)
  | [.list ds] => (boolsOf ds).map fun bs => (.bool (bs.any id), false)
  | _ => none
theorem o_all (hc : X.calm = true) : ON' X (.builtin "all") apAll := by
  intro pins s σ H xs us Q I r h
  obtain ⟨G, ds, d, fr, sm, p, e, q⟩ := h
  unfold apAll at e
  split at e
  · rename_i ds
    cases h1 : boolsOf ds with
    | none => rw [h1] at e; cases e
    | some bs =>
      rw [h1] at e; cases e
      obtain ⟨x, rfl, ha⟩ := vp1 p
      obtain ⟨a, ys, rfl, h2, r'⟩ := ha.lst sm
      have := bools_rp r' h1
      subst this
      exact cr_all hc pins s σ H _ us Q I r ⟨a, bs, rfl, SqL.of h2, q _ _ _ (.same sm (.bl _))⟩
  · cases e
theorem o_any (hc : X.calm = true) : ON' X (.builtin "any") apAny := by
  intro pins s σ H xs us Q I r h
  obtain ⟨G, ds, d, fr, sm, p, e, q⟩ := h
  unfold apAny at e
  split at e
  · rename_i ds
    cases h1 : boolsOf ds with
    | none => rw [h1] at e; cases e
    | some bs =>
      rw [h1] at e; cases e
      obtain ⟨x, rfl, ha⟩ := vp1 p
      obtain ⟨a, ys, rfl, h2, r'⟩ := ha.lst sm
      have := bools_rp r' h1
      subst this
      exact cr_any hc pins s σ H _ us Q I r ⟨a, bs, rfl, SqL.of h2, q _ _ _ (.same sm (.bl _))⟩
  · cases e

/-! ### isinstance -/
def tyName : D → String
  | .none => "NoneType"
  | .bool _ => "bool"
  | .int _ => "int"
  | .str _ => "str"
  | .list _ => "list"
  | .tuple _ => "tuple"
  | .dict _ => "dict"
def isScr : D → Bool
  | .dict ((.none, _) :: _) => true
  | _ => false
def apIsin (t : String) : List D → Option (D × Bool)
  | [a] => if isScr a = true then none else (kitB (tyName a) t).map fun b => (.bool b, false)
  | _ => none
theorem Pk.ty {K : PySem.W.Frag} {G H : Hp} {v : V} {d : D} (sm : Same G H) (h : Pk K G H v d) (n : isScr d = false) : TyX K H v (.type (tyName d)) := by
  cases h.rp sm with
  | non => exact .base .non
  | bl b => exact .base (.bl b)
  | int i => exact .base (.int i)
  | str x => exact .base (.str x)
  | lst h1 _ => exact .base (.lst h1)
  | tup h1 _ =>
    rcases h1 with (h1 | ⟨o, h1⟩) | ⟨o, its, k, h1, hc, _⟩
    · exact .base (.tup h1)
    · exact .fTuple h1
    · exact .kTuple h1 hc
  | dct h1 _ => exact .base (.dK h1)
  | scr h1 => cases n
  | fn h1 => cases n
theorem o_isin {t : String} {pins : List (Addr × Obj)} {s : Shared} {σ : St} {H : Hp} {x : V} {us : List Value} {Q : VK} (I : Inv X pins σ H s) (r : Vals [x, .ty t] us) (h : rBi X.K (apIsin t) [x] H Q) : wpAny (model X.prog X.w) X.A (call (.builtin "isinstance") us) (EP X pins σ Q) X.xe s := by
  obtain ⟨G, a, d, fr, sm, ha, e, q⟩ := rBi1 h
  simp only [apIsin] at e
  split at e
  · cases e
  · rename_i n
    cases h1 : kitB (tyName a) t with
    | none => rw [h1] at e; cases e
    | some b =>
      rw [h1] at e; cases e
      exact call_isi pins s σ H _ us Q I r ⟨x, .ty t, _, _, b, rfl, .ty t, ha.ty sm (by simpa using n), kit_ty h1, q _ _ _ (.same sm (.bl _))⟩
end
end EV
namespace EV
open PySem PySem.Spec L2
open PyProof.Rows hiding St
section
variable {X : Cx} {ap : ApB} {C : CallT} {am : Amb}
theorem evOs_two {ca cb : Ex} {sl sl' : Ss} {os : List Opd} (e : evOs ap C (.cons ca (.cons cb .nil)) sl = some (os, sl')) : ∃ oa sla ob, evO ap C ca sl = some (oa, sla) ∧ evO ap C cb sla = some (ob, sl') ∧ os = [oa, ob] := by
  rw [evOs_cons] at e
  split at e
  · rename_i oa sla e3
    rw [evOs_cons] at e
    split at e
    · rename_i e5
      split at e5
      · rename_i ob slb e4
        simp only [evOs] at e5
        cases e5
        cases e
        exact ⟨oa, sla, ob, e3, e4, rfl⟩
      · cases e5
    · cases e
  · cases e
theorem evOs_one {ca : Ex} {sl sl' : Ss} {os : List Opd} (e : evOs ap C (.cons ca .nil) sl = some (os, sl')) : ∃ oa, evO ap C ca sl = some (oa, sl') ∧ os = [oa] := by
  rw [evOs_cons] at e
  split at e
  · rename_i oa sla e3
    simp only [evOs] at e
    cases e
    exact ⟨oa, e3, rfl⟩
  · cases e
/-- a < b < c -/
theorem chain_read {f g : Bi} {ca cb cc : Ex} (hf : ∀ ds d fr, ap f ds = some (d, fr) → fr = false) : ∀ σ H Q, rdE X.K ap C am (.ch f g (.cons ca (.cons cb .nil)) (.cons cc .nil)) σ H Q →
    tChain (fun x y H Q => rBi X.K (ap f) [x, y] H Q) (fun x y H Q => rBi X.K (ap g) [x, y] H Q) (rdO X.K ap C am ca) (rdO X.K ap C am cb) (rdO X.K ap C am cc) σ H Q := by
  intro σ H Q q
  obtain ⟨G, sl, d, fr, sl', r, e, q⟩ := q
  simp only [evE] at e
  split at e
  · rename_i oa ob sl2 e0
    obtain ⟨oa', sla, ob', e3, e4, he⟩ := evOs_two e0
    injection he with h1 h2
    injection h2 with h2 _
    subst h1 h2
    split at e
    · rename_i ds e1
      refine ⟨G, sl, oa, sla, r, e3, fun x G1 H1 r1 g1 o1 => ⟨G1, sla, ob, sl2, r1, e4, fun y G2 H2 r2 g2 o2 => ?_⟩⟩
      split at e
      · rename_i fr1 e2
        have := hf _ _ _ e2; subst this
        refine r2.bi (.cons (o1.mono g2) (.cons o2 .nil)) e1 e2 (Same.refl G2) fun v G3 H3 r3 g3 rs => ?_
        have rs : Rp X.K G3 v (.bool true) := rs
        cases rs
        refine ⟨true, rfl, iteT ?_⟩
        split at e
        · rename_i oc sl3 e5
          obtain ⟨oc', e6, he⟩ := evOs_one e5
          injection he with h1 _
          subst h1
          split at e
          · rename_i es e7
            split at e
            · rename_i d' e8
              cases e
              refine ⟨G3, sl2, oc, _, r3, e6, fun w G4 H4 r4 g4 o4 => ?_⟩
              have g24 : Same G2 G4 := Same.trans g3 g4
              exact r4.bi (.cons (o2.mono g24) (.cons o4 .nil)) e7 e8 (Same.trans g1 (Same.trans g2 g24)) q
            · cases e
          · cases e
        · cases e
      · rename_i fr1 e2
        cases e
        have := hf _ _ _ e2; subst this
        refine r2.bi (.cons (o1.mono g2) (.cons o2 .nil)) e1 e2 (Same.refl G2) fun v G3 H3 r3 g3 rs => ?_
        have rs : Rp X.K G3 v (.bool false) := rs
        cases rs
        exact ⟨false, rfl, iteF (q _ _ _ r3 (Same.trans g1 (Same.trans g2 g3)) (.bl _))⟩
      · cases e
    · cases e
  · cases e

theorem ee_chain {f g : Bi} {ca cb cc : Ex} {a b c : Expr} {op op' : CmpOp} {pos : Pos} (hf : ∀ ds d fr, ap f ds = some (d, fr) → fr = false) (o : O2 X (compareOp op) (ap f)) (o' : O2 X (compareOp op') (ap g)) (ha : EO X ap C ca a) (hb : EO X ap C cb b) (hc : EO X ap C cc c)
    (hm : lastMarks [op, op'] [b, c] = false) : EE X ap C (.ch f g (.cons ca (.cons cb .nil)) (.cons cc .nil)) (.Compare a [op, op'] [b, c] pos) := fun am =>
  pe_weak (pe_chain o o' (ha am) (hb am) (hc am) hm) (chain_read hf)
theorem tChain_mono {r r' : R2} {ta tb tc : TE} {σ : St} {H : Hp} {Q Q' : VK} (h : tChain r r' ta tb tc σ H Q) (e : Q = Q') : tChain r r' ta tb tc σ H Q' := e ▸ h
/-- a chain as a test -/
theorem et_chain {f g : Bi} {ca cb cc : Ex} {a b c : Expr} {op op' : CmpOp} {pos : Pos} (hf : ∀ ds d fr, ap f ds = some (d, fr) → fr = false) (hg : ∀ ds d fr, ap g ds = some (d, fr) → ∃ k, d = .bool k) (o : O2 X (compareOp op) (ap f)) (o' : O2 X (compareOp op') (ap g)) (ha : EO X ap C ca a) (hb : EO X ap C cb b) (hc : EO X ap C cc c)
    (hm : lastMarks [op, op'] [b, c] = false) : ET X ap C (.ex (.ch f g (.cons ca (.cons cb .nil)) (.cons cc .nil))) (.Compare a [op, op'] [b, c] pos) := fun am =>
  pt_weak (pt_chain o o' (ha am) (hb am) (hc am) hm) fun σ H Q q => by
    obtain ⟨G, sl, b, sl', r, e, q⟩ := q
    rw [evT_ex, evO_e rfl] at e
    cases e1 : evE ap C (.ch f g (.cons ca (.cons cb .nil)) (.cons cc .nil)) sl with
    | none => rw [e1] at e; cases e
    | some p =>
      obtain ⟨d, fr, sl2⟩ := p
      rw [e1] at e
      simp only [Option.map_some, deref] at e
      split at e
      · rename_i b' e2
        cases e
        refine chain_read hf _ _ _ ⟨G, sl, d, fr, _, r, e1, fun v G1 H1 r1 g1 rs => ?_⟩
        have hd : fr = false ∧ ∃ k, d = .bool k := by
          simp only [evE] at e1
          split at e1
          · split at e1
            · split at e1
              · split at e1
                · split at e1
                  · split at e1
                    · rename_i d' e8
                      cases e1
                      exact ⟨rfl, hg _ _ _ e8⟩
                    · cases e1
                  · cases e1
                · cases e1
              · cases e1
                exact ⟨rfl, _, rfl⟩
              · cases e1
            · cases e1
          · cases e1
        obtain ⟨rfl, k, rfl⟩ := hd
        cases e2
        have rs : Rp X.K G1 v (.bool b) := rs
        cases rs
        exact ⟨b, rfl, q G1 H1 r1 g1⟩
      · cases e

/-! ### is None, is True -/
theorem pe_isK {ca : Ex} {a e2 : Expr} {op : CmpOp} {f : Bi} {k : V} {pos : Pos} (h2 : PE X e2 (tC k)) (hm : behindInMarks op e2 = false)
    (o : ∀ (pins : List (Addr × Obj)) (s : Shared) (σ : St) (H : Hp) (x : V) (v u : Value) (Q : VK), Inv X pins σ H s → RelV x v → RelV k u → rBi X.K (ap f) [x] H Q → wpAny (model X.prog X.w) X.A (compareOp op v u) (EP X pins σ Q) X.xe s)
    (ha : EO X ap C ca a) : EE X ap C (.bi f (.cons ca .nil)) (.Compare a [op] [e2] pos) := fun am =>
  rd1 (r := fun x H Q => rBi X.K (ap f) [x] H Q) (pe_weak (pe_cmpR (r := fun x y H Q => y = k ∧ rBi X.K (ap f) [x] H Q) (fun pins s σ H x y v u Q I rx ry q => by
    obtain ⟨rfl, q⟩ := q
    exact o pins s σ H x v u Q I rx ry q) (ha am) h2 hm) fun σ H Q q => by
      obtain ⟨G, sl, o, sl', r, e, q⟩ := q
      exact ⟨G, sl, o, sl', r, e, fun v G' H' r' g p => ⟨rfl, q v G' H' r' g p⟩⟩) fun _ _ _ q => q
/-- a value of truths as a test, the compare's way -/
theorem et_cmp1 {f : Bi} {ca : Ex} {a e2 : Expr} {op : CmpOp} {k : V} {pos : Pos} (hf : ∀ ds d fr, ap f ds = some (d, fr) → fr = false ∧ ∃ k, d = .bool k) (h2 : PE X e2 (tC k)) (hm : behindInMarks op e2 = false)
    (o : ∀ (pins : List (Addr × Obj)) (s : Shared) (σ : St) (H : Hp) (x : V) (v u : Value) (Q : VK), Inv X pins σ H s → RelV x v → RelV k u → rBi X.K (ap f) [x] H Q → wpAny (model X.prog X.w) X.A (compareOp op v u) (EP X pins σ Q) X.xe s)
    (ha : EO X ap C ca a) : ET X ap C (.ex (.bi f (.cons ca .nil))) (.Compare a [op] [e2] pos) := fun am =>
  pt_weak (pt_cmpR (r := fun x y H Q => y = k ∧ rBi X.K (ap f) [x] H Q) (fun pins s σ H x y v u Q I rx ry q => by
    obtain ⟨rfl, q⟩ := q
    exact o pins s σ H x v u Q I rx ry q) (ha am) h2 hm) fun σ H Q q => by
      obtain ⟨G, sl, b, sl', r, e, q⟩ := q
      simp only [evT] at e
      split at e
      · rename_i d fr sl1 e1
        split at e
        · rename_i b' e3
          cases e
          obtain ⟨os, ds, e0, e1', e2⟩ := bi_split e1
          obtain ⟨rfl, k', rfl⟩ := hf _ _ _ e2
          cases e3
          obtain ⟨oa, e4, rfl⟩ := evOs_one e0
          refine ⟨G, sl, oa, _, r, e4, fun x G1 H1 r1 g1 o1 => ⟨rfl, ?_⟩⟩
          refine r1.bi (.cons o1 .nil) e1' e2 g1 fun v G' H' r' g rs => ?_
          have rs : Rp X.K G' v (.bool b) := rs
          cases rs
          exact ⟨b, rfl, q G' H' r' g⟩
        · cases e
      · cases e

/-! ### slices -/
theorem sl_split {hl hu : Bool} {ca : Ex} {bs : Exs} {sl sl' : Ss} {d : D} {fr : Bool} (e : evE ap C (.sl hl hu (.cons ca .nil) bs) sl = some (d, fr, sl')) :
    ∃ oa sla ds x lo hi, evO ap C ca sl = some (oa, sla) ∧ evEs ap C bs sla = some (ds, sl') ∧ deref sl' oa = some x ∧ cutArgs hl hu ds = some (lo, hi) ∧ apCut x lo hi = some (d, fr) := by
  simp only [evE] at e
  split at e
  · rename_i oa sla e0
    obtain ⟨oa', e3, he⟩ := evOs_one e0
    injection he with he _
    subst he
    split at e
    · rename_i ds sl2 e1
      split at e
      · rename_i x lo hi e4 e5
        split at e
        · rename_i d' fr' e6
          cases e
          exact ⟨oa, sla, ds, x, lo, hi, e3, e1, e4, e5, e6⟩
        · cases e
      · cases e
    · cases e
  · cases e
theorem RS.cut {K : PySem.W.Frag} {σ : St} {G G1 H : Hp} {sl : Ss} {x : V} {oa : Opd} {a : D} {lo hi : Option Int} {d : D} {fr : Bool} {Q : VK} (r : RS K am G H sl σ) (o : OdOk K σ G x oa) (e1 : EV.deref sl oa = some a) (e2 : apCut a lo hi = some (d, fr)) (gg : Same G1 G)
    (q : ∀ v G' H', RS K am G' H' sl σ → Same G1 G' → Res K am G' H' sl σ v d fr → Q v H') : rCut K x lo hi H Q :=
  ⟨G, a, d, fr, r.sub, r.deref o e1, e2, fun v G' H' st => let ⟨r', rs⟩ := r.step st; q v G' H' r' (Same.trans gg st.gg) rs⟩
theorem ee_sl0 {ca : Ex} {a : Expr} {p2 pos : Pos} (ha : EO X ap C ca a) : EE X ap C (.sl false false (.cons ca .nil) .nil) (.Subscript a (.Slice none none none p2) pos) := fun am =>
  pe_weak (pe_slice o_cut (ha am) po_none po_none) fun σ H Q q => by
    obtain ⟨G, sl, d, fr, sl', r, e, q⟩ := q
    obtain ⟨oa, sla, ds, x, lo, hi, e3, e1, e4, e5, e6⟩ := sl_split e
    simp only [evEs] at e1
    cases e1
    cases e5
    exact ⟨G, sl, oa, _, r, e3, fun x' G1 H1 r1 g1 o1 => r1.cut o1 e4 e6 g1 q⟩
theorem evEs_two {ca cb : Ex} {sl sl' : Ss} {ss : List D} (e : evEs ap C (.cons ca (.cons cb .nil)) sl = some (ss, sl')) : ∃ d fr sl1 d2 fr2, evE ap C ca sl = some (d, fr, sl1) ∧ evE ap C cb sl1 = some (d2, fr2, sl') ∧ ss = [d, d2] := by
  simp only [evEs] at e
  split at e
  · rename_i d fr sl1 e1
    split at e
    · rename_i ds sl2 e2
      split at e2
      · rename_i d2 fr2 sl3 e3
        cases e2
        cases e
        exact ⟨_, _, _, _, _, e1, e3, rfl⟩
      · cases e2
    · cases e
  · cases e
theorem ee_slL {ca cb : Ex} {a b : Expr} {p2 pos : Pos} (ha : EO X ap C ca a) (hb : EE X ap C cb b) : EE X ap C (.sl true false (.cons ca .nil) (.cons cb .nil)) (.Subscript a (.Slice (some b) none none p2) pos) := fun am =>
  pe_weak (pe_slice o_cut (ha am) (po_some (hb.val (am := am))) po_none) fun σ H Q q => by
    obtain ⟨G, sl, d, fr, sl', r, e, q⟩ := q
    obtain ⟨oa, sla, ds, x, lo, hi, e3, e1, e4, e5, e6⟩ := sl_split e
    obtain ⟨db, fb, e7, rfl⟩ := evEs_one e1
    cases db with
    | int i =>
      simp only [cutArgs] at e5
      cases e5
      exact ⟨G, sl, oa, sla, r, e3, fun x' G1 H1 r1 g1 o1 => ⟨G1, sla, _, fb, sl', r1, e7, fun y G2 H2 r2 g2 p2 => by
        cases p2
        exact ⟨i, rfl, r2.cut (o1.mono g2) e4 e6 (Same.trans g1 g2) q⟩⟩⟩
    | _ => simp only [cutArgs] at e5; cases e5
theorem ee_slU {ca cb : Ex} {a b : Expr} {p2 pos : Pos} (ha : EO X ap C ca a) (hb : EE X ap C cb b) : EE X ap C (.sl false true (.cons ca .nil) (.cons cb .nil)) (.Subscript a (.Slice none (some b) none p2) pos) := fun am =>
  pe_weak (pe_slice o_cut (ha am) po_none (po_some (hb.val (am := am)))) fun σ H Q q => by
    obtain ⟨G, sl, d, fr, sl', r, e, q⟩ := q
    obtain ⟨oa, sla, ds, x, lo, hi, e3, e1, e4, e5, e6⟩ := sl_split e
    obtain ⟨db, fb, e7, rfl⟩ := evEs_one e1
    cases db with
    | int i =>
      simp only [cutArgs] at e5
      cases e5
      exact ⟨G, sl, oa, sla, r, e3, fun x' G1 H1 r1 g1 o1 => ⟨G1, sla, _, fb, sl', r1, e7, fun y G2 H2 r2 g2 p2 => by
        cases p2
        exact ⟨i, rfl, r2.cut (o1.mono g2) e4 e6 (Same.trans g1 g2) q⟩⟩⟩
    | _ => simp only [cutArgs] at e5; cases e5
theorem ee_sl2 {ca cb cc : Ex} {a b c : Expr} {p2 pos : Pos} (ha : EO X ap C ca a) (hb : EE X ap C cb b) (hc : EE X ap C cc c) : EE X ap C (.sl true true (.cons ca .nil) (.cons cb (.cons cc .nil))) (.Subscript a (.Slice (some b) (some c) none p2) pos) := fun am =>
  pe_weak (pe_slice o_cut (ha am) (po_some (hb.val (am := am))) (po_some (hc.val (am := am)))) fun σ H Q q => by
    obtain ⟨G, sl, d, fr, sl', r, e, q⟩ := q
    obtain ⟨oa, sla, ds, x, lo, hi, e3, e1, e4, e5, e6⟩ := sl_split e
    obtain ⟨db, fb, slb, dc, fc, e7, e8, rfl⟩ := evEs_two e1
    cases db with
    | int i =>
      cases dc with
      | int j =>
        simp only [cutArgs] at e5
        cases e5
        exact ⟨G, sl, oa, sla, r, e3, fun x' G1 H1 r1 g1 o1 => ⟨G1, sla, _, fb, slb, r1, e7, fun y G2 H2 r2 g2 p2 => by
          cases p2
          exact ⟨i, rfl, G2, slb, _, fc, sl', r2, e8, fun z G3 H3 r3 g3 p3 => by
            cases p3
            exact ⟨j, rfl, r3.cut (o1.mono (Same.trans g2 g3)) e4 e6 (Same.trans g1 (Same.trans g2 g3)) q⟩⟩⟩⟩
      | _ => simp only [cutArgs] at e5; cases e5
    | _ => simp only [cutArgs] at e5; cases e5

/-! ### in, join, str -/
def apIn : List D → Option (D × Bool)
  | [.str i, .str j] => some (.bool (!(Builtin.Str.occurrences j i 0 j.length 1).isEmpty), false)
  | [d, .list ds] => if SeqAt.shaped d = true ∧ SeqAt.shaped (.list ds) = true then some (.bool (ds.any fun z => PyData.eqv z d), false) else none
  | [d, .tuple ds] => if SeqAt.shaped d = true ∧ SeqAt.shaped (.tuple ds) = true then some (.bool (ds.any fun z => PyData.eqv z d), false) else none
  | [k, .dict es] => if isKey k = true ∧ es.all (fun p => isKey p.1) = true then some (.bool (valD es k).isSome, false) else none
  | _ => none
def apNin : List D → Option (D × Bool)
  | [.str i, .str j] => some (.bool (!(!(Builtin.Str.occurrences j i 0 j.length 1).isEmpty)), false)
  | [d, .list ds] => if SeqAt.shaped d = true ∧ SeqAt.shaped (.list ds) = true then some (.bool (!ds.any fun z => PyData.eqv z d), false) else none
  | [d, .tuple ds] => if SeqAt.shaped d = true ∧ SeqAt.shaped (.tuple ds) = true then some (.bool (!ds.any fun z => PyData.eqv z d), false) else none
  | [k, .dict es] => if isKey k = true ∧ es.all (fun p => isKey p.1) = true then some (.bool (!(valD es k).isSome), false) else none
  | _ => none
/-- a dict and a key -/
theorem in_dict {K : PySem.W.Frag} {G H : Hp} {x y : V} {b : D} {es : List (D × D)} (sm : Same G H) (hb : Pk K G H x b) (ha : Pk K G H y (.dict es)) (hk : isKey b = true) (he : es.all (fun p => isKey p.1) = true) :
    ∃ a k o, y = .ref a ∧ x = kV k ∧ DGet H a (kV k) o ∧ o.isSome = (valD es b).isSome := by
  rcases ha.dct sm with ⟨a, kvs, rfl, h2, r⟩ | ⟨d, rfl⟩
  · obtain ⟨kk, rfl⟩ := kD_of hk
    have ey : x = kV kk := by
      cases kk with
      | inl i => exact hb.int
      | inr x => exact hb.str
    refine ⟨a, kk, _, rfl, ey, DGet.k h2, ?_⟩
    obtain ⟨q1, q2⟩ := r.val (k := kk)
    cases h : valD es (kD kk) with
    | none => rw [q2 h]; rfl
    | some d => obtain ⟨v, e, _⟩ := q1 d h; rw [e]; rfl
  · cases he
theorem o_in (hu : X.A.units + 65 < cLine) : O2 X (compareOp .In) apIn := by
  intro pins s σ H x y v u Q I rx ry h
  obtain ⟨G, a, b, d, fr, sm, ha, hb, e, q⟩ := rBi2 h
  unfold apIn at e
  split at e
  · rename_i i j he
    simp only [List.cons.injEq, and_true] at he
    obtain ⟨rfl, rfl⟩ := he
    cases e
    exact op_in_str pins s σ H x y v u Q I rx ry ⟨i, j, ha.str, hb.str, q _ _ _ (.same sm (.bl _))⟩
  · rename_i i j he
    simp only [List.cons.injEq, and_true] at he
    obtain ⟨rfl, rfl⟩ := he
    split at e
    · rename_i hs
      cases e
      exact op_inD hu pins s σ H x y v u Q I rx ry ⟨_, _, ha.dp sm hs.1, hb.dp sm hs.2, hs.1, hs.2, q _ _ _ (.same sm (.bl _))⟩
    · cases e
  · rename_i j he
    simp only [List.cons.injEq, and_true] at he
    obtain ⟨rfl, rfl⟩ := he
    split at e
    · rename_i hs
      cases e
      obtain ⟨as, r1⟩ := Dp.reads I _ x v (ha.dp sm hs.1) rx
      obtain ⟨bs, r2⟩ := Dp.reads I _ y u (hb.dp sm hs.2) ry
      have hd := SeqAt.depth_of_shaped hs.1
      exact SeqAt.in_tuple_reads r2 r1 (SeqAt.canLay_of_shaped hs.2) (SeqAt.canLay_of_shaped hs.1) (by
        have hm := Nat.min_le_right (PyData.depthAll j) a.depth
        omega) ⟨.bl _, H, I, rfl, q _ _ _ (.same sm (.bl _))⟩
    · cases e
  · rename_i k es _ he
    simp only [List.cons.injEq, and_true] at he
    obtain ⟨rfl, rfl⟩ := he
    split at e
    · rename_i hs
      cases e
      obtain ⟨a, kk, o, rfl, rfl, g, ho⟩ := in_dict sm ha hb hs.1 hs.2
      obtain rfl : u = Value.ref a := ry
      exact d_in (by omega) I g rx fun s' I' => ⟨.bl o.isSome, H, I', rfl, by rw [ho]; exact q _ _ _ (.same sm (.bl _))⟩
    · cases e
  · cases e
theorem o_nin (hu : X.A.units + 65 < cLine) : O2 X (compareOp .NotIn) apNin := by
  intro pins s σ H x y v u Q I rx ry h
  obtain ⟨G, a, b, d, fr, sm, ha, hb, e, q⟩ := rBi2 h
  unfold apNin at e
  split at e
  · rename_i i j he
    simp only [List.cons.injEq, and_true] at he
    obtain ⟨rfl, rfl⟩ := he
    cases e
    exact op_notin_str pins s σ H x y v u Q I rx ry ⟨i, j, ha.str, hb.str, q _ _ _ (.same sm (.bl _))⟩
  · rename_i i j he
    simp only [List.cons.injEq, and_true] at he
    obtain ⟨rfl, rfl⟩ := he
    split at e
    · rename_i hs
      cases e
      exact op_notInD hu pins s σ H x y v u Q I rx ry ⟨_, _, ha.dp sm hs.1, hb.dp sm hs.2, hs.1, hs.2, q _ _ _ (.same sm (.bl _))⟩
    · cases e
  · rename_i j he
    simp only [List.cons.injEq, and_true] at he
    obtain ⟨rfl, rfl⟩ := he
    split at e
    · rename_i hs
      cases e
      obtain ⟨as, r1⟩ := Dp.reads I _ x v (ha.dp sm hs.1) rx
      obtain ⟨bs, r2⟩ := Dp.reads I _ y u (hb.dp sm hs.2) ry
      have hd := SeqAt.depth_of_shaped hs.1
      exact SeqAt.notIn_tuple_reads r2 r1 (SeqAt.canLay_of_shaped hs.2) (SeqAt.canLay_of_shaped hs.1) (by
        have hm := Nat.min_le_right (PyData.depthAll j) a.depth
        omega) ⟨.bl _, H, I, rfl, q _ _ _ (.same sm (.bl _))⟩
    · cases e
  · rename_i k es _ he
    simp only [List.cons.injEq, and_true] at he
    obtain ⟨rfl, rfl⟩ := he
    split at e
    · rename_i hs
      cases e
      obtain ⟨a, kk, o, rfl, rfl, g, ho⟩ := in_dict sm ha hb hs.1 hs.2
      obtain rfl : u = Value.ref a := ry
      exact d_notIn (by omega) I g rx fun s' I' => ⟨.bl (!o.isSome), H, I', rfl, by rw [ho]; exact q _ _ _ (.same sm (.bl _))⟩
    · cases e
  · cases e
def strsOf : List D → Option (List Str)
  | [] => some []
  | .str b :: r => (strsOf r).map (b :: ·)
  | _ => none
theorem strs_rp {K : PySem.W.Frag} {G : Hp} : ∀ {vs : List V} {ds : List D} {bs : List Str}, RpA K G vs ds → strsOf ds = some bs → vs = bs.map V.str
  | _, _, _, .nil, e => by cases e; rfl
  | v :: vs, d :: ds, bs, .cons h r, e => by
    cases d with
    | str b =>
      simp only [strsOf] at e
      cases h2 : strsOf ds with
      | none => rw [h2] at e; cases e
      | some cs =>
        rw [h2] at e; cases e
        cases h
        rw [strs_rp r h2]
        rfl
    | _ => cases e
def apJoin : List D → Option (D × Bool)
  | [.str a, .list ds] => match strsOf ds with
    | some ys => if (ys.map (·.length)).sum + ys.length * a.length ≤ 16777216 then some (.str (Txt.join a ys), false) else none
    | none => none
  | _ => none
theorem mc_split {f : Bi} {ca : Ex} {cs : Exs} {sl sl' : Ss} {d : D} {fr : Bool} (e : evE ap C (.mc f (.cons ca .nil) cs) sl = some (d, fr, sl')) :
    ∃ x fx sla os ds, evE ap C ca sl = some (x, fx, sla) ∧ evOs ap C cs sla = some (os, sl') ∧ derefs sl' os = some ds ∧ ap f (x :: ds) = some (d, fr) := by
  simp only [evE] at e
  split at e
  · rename_i x sla e0
    obtain ⟨d0, f0, e1, he⟩ := evEs_one e0
    injection he with he _
    subst he
    split at e
    · rename_i os sl2 e2
      split at e
      · rename_i ds e3
        split at e
        · rename_i d' fr' e4
          cases e
          exact ⟨_, _, _, _, _, e1, e2, e3, e4⟩
        · cases e
      · cases e
    · cases e
  · cases e
/-- a text's method of one argument -/
theorem ee_mc1 {f : Bi} {ca cb : Ex} {a b : Expr} {e : Expr} {r : V → List V → Hp → VK → Prop} (h : ∀ to te, PE X a to → PE X b te → PE X e (tM1 r to te)) (hs : ∀ x y d fr, ap f [x, y] = some (d, fr) → ∃ z, x = .str z)
    (hr : ∀ x y H Q, rBi X.K (ap f) [x, y] H Q → r x [y] H Q) (ha : EE X ap C ca a) (hb : EO X ap C cb b) : EE X ap C (.mc f (.cons ca .nil) (.cons cb .nil)) e := fun am =>
  pe_weak (h _ _ (ha.val (am := am)) (hb am)) fun σ H Q q => by
    obtain ⟨G, sl, d, fr, sl', r, e, q⟩ := q
    obtain ⟨x, fx, sla, os, ds, e1, e2, e3, e4⟩ := mc_split e
    obtain ⟨ob, e5, rfl⟩ := evOs_one e2
    refine ⟨G, sl, x, fx, sla, r, e1, fun v G1 H1 r1 g1 p1 => ?_⟩
    have hds : ∃ y, ds = [y] := by
      simp only [derefs] at e3
      split at e3
      · rename_i h
        cases h
        cases e3
        exact ⟨_, rfl⟩
      · cases e3
    obtain ⟨y, rfl⟩ := hds
    obtain ⟨z, rfl⟩ := hs _ _ _ _ e4
    cases p1
    refine ⟨⟨z, rfl⟩, G1, sla, ob, sl', r1, e5, fun w G2 H2 r2 g2 o2 => hr _ _ _ _ ?_⟩
    exact r2.bi (vs := [.str z, w]) (os := [.d (.str z), ob]) (.cons (.str z) (.cons o2 .nil)) (by simp only [derefs] at e3 ⊢; rw [show deref sl' (.d (.str z)) = some (.str z) from rfl]; rw [e3]) e4 (Same.trans g1 g2) q
theorem ee_mc0 {f : Bi} {ca : Ex} {a : Expr} {e : Expr} {r : V → List V → Hp → VK → Prop} (h : ∀ to, PE X a to → PE X e (tM0 r to)) (hs : ∀ x d fr, ap f [x] = some (d, fr) → ∃ z, x = .str z)
    (hr : ∀ x H Q, rBi X.K (ap f) [x] H Q → r x [] H Q) (ha : EE X ap C ca a) : EE X ap C (.mc f (.cons ca .nil) .nil) e := fun am =>
  pe_weak (h _ (ha.val (am := am))) fun σ H Q q => by
    obtain ⟨G, sl, d, fr, sl', r, e, q⟩ := q
    obtain ⟨x, fx, sla, os, ds, e1, e2, e3, e4⟩ := mc_split e
    simp only [evOs] at e2
    cases e2
    cases e3
    refine ⟨G, sl, x, fx, _, r, e1, fun v G1 H1 r1 g1 p1 => ?_⟩
    obtain ⟨z, rfl⟩ := hs _ _ _ e4
    cases p1
    refine ⟨⟨z, rfl⟩, hr _ _ _ ?_⟩
    exact r1.bi (vs := [.str z]) (os := [.d (.str z)]) (.cons (.str z) .nil) rfl e4 g1 q
theorem ee_join {f : Bi} {ca cb : Ex} {a b : Expr} {apos pos : Pos} (hf : ap f = apJoin) (ha : EE X ap C ca a) (hb : EO X ap C cb b) (n : noStar b = true) (hbase : attributeBase a "join" X.env (eval a X.env) = eval a X.env) (hline : (apos.endLine == pos.line) = true) :
    EE X ap C (.mc f (.cons ca .nil) (.cons cb .nil)) (.Call (.Attribute a "join" apos) [b] [] pos) :=
  ee_mc1 (fun to te h1 h2 => pe_join h1 h2 (by rw [star_cons n]; rfl) hbase hline) (fun x y d fr e => by
    rw [hf] at e
    unfold apJoin at e
    split at e
    · rename_i h; simp only [List.cons.injEq, and_true] at h; exact ⟨_, h.1⟩
    · cases e) (fun x y H Q h => by
    obtain ⟨G, a, b, d, fr, sm, ha, hb, e, q⟩ := rBi2 h
    rw [hf] at e
    unfold apJoin at e
    split at e
    · rename_i z es he
      simp only [List.cons.injEq, and_true] at he
      obtain ⟨rfl, rfl⟩ := he
      split at e
      · rename_i ys h1
        split at e
        · rename_i hz
          cases e
          obtain ⟨a, xs, rfl, h2, r'⟩ := hb.lst sm
          have := strs_rp r' h1
          subst this
          exact ⟨z, a, ys, ha.str, rfl, .inl (SqL.of h2), hz, q _ _ _ (.same sm (.str _))⟩
        · cases e
      · cases e
    · cases e) ha hb
def apUpper : List D → Option (D × Bool)
  | [.str a] => if a.length ≤ 5592405 then some (.str (Txt.upper a), false) else none
  | _ => none
theorem ee_upper {f : Bi} {ca : Ex} {a : Expr} {apos pos : Pos} (hf : ap f = apUpper) (ha : EE X ap C ca a) (hbase : attributeBase a "upper" X.env (eval a X.env) = eval a X.env) (hline : (apos.endLine == pos.line) = true) :
    EE X ap C (.mc f (.cons ca .nil) .nil) (.Call (.Attribute a "upper" apos) [] [] pos) :=
  ee_mc0 (fun to h1 => pe_upper h1 hbase hline) (fun x d fr e => by
    rw [hf] at e
    unfold apUpper at e
    split at e
    · rename_i h; simp only [List.cons.injEq, and_true] at h; exact ⟨_, h⟩
    · cases e) (fun x H Q h => by
    obtain ⟨G, a, d, fr, sm, ha, e, q⟩ := rBi1 h
    rw [hf] at e
    unfold apUpper at e
    split at e
    · rename_i z he
      simp only [List.cons.injEq, and_true] at he
      subst he
      split at e
      · rename_i hz
        cases e
        exact ⟨z, ha.str, rfl, hz, q _ _ _ (.same sm (.str _))⟩
      · cases e
    · cases e) ha
def apStr : List D → Option (D × Bool)
  | [.int i] => if i.natAbs.log2 < 1920 then some (.str (toString i), false) else none
  | _ => none
theorem o_str : ON' X (.type "str") apStr := by
  intro pins s σ H xs us Q I r h
  obtain ⟨G, ds, d, fr, sm, p, e, q⟩ := h
  unfold apStr at e
  split at e
  · rename_i i
    split at e
    · rename_i hz
      cases e
      obtain ⟨x, rfl, ha⟩ := vp1 p
      rw [ha.int] at r
      exact call_str_int pins s σ H _ us Q I r ⟨i, rfl, hz, q _ _ _ (.same sm (.str _))⟩
    · cases e
  · cases e

/-! ### dict displays -/
theorem ee_d0 {pos : Pos} : EE X ap C (.dct .nil) (.Dict [] [] pos) := fun am => pe_weak pe_dnewK fun σ H Q q => by
  obtain ⟨G, sl, d, fr, sl', r, e, q⟩ := q
  simp only [evE, evEs] at e
  cases e
  intro p hp
  have st : Step X.K G H G (upd H p (.dK [])) (.ref p) (.dict []) true :=
    ⟨fun b o e => by rw [upd_ne (ne_of_none e hp)]; exact e, Same.refl _, fun b o e => by rw [upd_ne (ne_of_none (r.sub _ _ e) hp)]; exact r.sub _ _ e, fun b e => .inl e, p, rfl, hp, Same.free r.sub hp, [], upd_same, .nil⟩
  obtain ⟨r2, rs⟩ := r.step st
  exact q _ _ _ r2 (Same.refl _) rs
/-- whatever surrounds -/
def rdVx (K : PySem.W.Frag) (ap : ApB) (C : CallT) (c : Ex) : TE := fun σ H Q => ∃ am, rdV K ap C am c σ H Q
theorem EE.valx {c : Ex} {e : Expr} (h : EE X ap C c e) : PE X e (rdVx X.K ap C c) := ⟨fun pins s σ H Q I ⟨am, q⟩ => (h.val (am := am)).run pins s σ H Q I q⟩
theorem key_rp {K : PySem.W.Frag} {G : Hp} {v : V} {d : D} (h : Rp K G v d) (n : isKey d = true) : ∃ k : Key, v = kV k ∧ d = kD k := by
  cases h with
  | int i => exact ⟨.inl i, rfl, rfl⟩
  | str x => exact ⟨.inr x, rfl, rfl⟩
  | _ => cases n
theorem ee_d1 {ck cv : Ex} {k v : Expr} {pos : Pos} (hk : EE X ap C ck k) (hv : EE X ap C cv v) : EE X ap C (.dct (.cons ck (.cons cv .nil))) (.Dict [some k] [v] pos) := fun am =>
  pe_weak (pe_disp (pps_cons hk.valx hv.valx pps_nil) rfl rfl (fun z => by cases z) (Nat.le_of_ble_eq_true rfl)) fun σ H Q q => by
    obtain ⟨G, sl, d, fr, sl', r, e, q⟩ := q
    simp only [evE] at e
    split at e
    · rename_i e0
      obtain ⟨_, _, _, _, _, _, _, h⟩ := evEs_two e0
      cases h
    · rename_i dk dv sl2 e0
      split at e
      · rename_i hkey
        cases e
        obtain ⟨dk', fk, sl1, dv', fv, e1, e2, h⟩ := evEs_two e0
        cases h
        intro p hp
        obtain ⟨aD, nD⟩ := r.fresh p hp
        have gD : G p = none := Same.free r.sub hp
        have r0 := r.lay (u := .dK []) hp
        have nm := r.notAt (.inl hp)
        have r1 := r0.into (D := p) ⟨_, upd_same⟩ nm
        refine ⟨_, G, sl, dk, fk, sl1, r1, e1, fun x G1 H1 r2 g1 p1 => ⟨_, G1, sl1, dv, fv, sl', r2, e2, fun y G2 H2 r3 g2 p2 => ?_⟩⟩
        have hp2 : H2 p = some (.dK []) := r3.frame p _ upd_same fun z => z.2 rfl
        refine ⟨hp2, ?_⟩
        obtain ⟨kk, rfl, rfl⟩ := key_rp p1 hkey
        refine ⟨[(kk, y)], rfl, Nat.le_of_ble_eq_true rfl, ?_⟩
        have gD2 : G2 p = none := by
          cases z : G2 p with
          | none => rfl
          | some u =>
            rcases r3.gg p (by rw [z]; exact fun h => nomatch h) with h | h
            · exact absurd gD h
            · exact absurd rfl h.2
        have nm3 := r3.notAt (D := p) (.inr fun z => z.2 rfl)
        have r4 := (r0.outof r3).put (u := .dK (mergeK [] [(kk, y)])) hp2 gD2 aD nm3
        refine q (.ref p) G2 _ r4 (Same.trans g1 g2) ⟨p, rfl, gD2, aD, nD, ⟨_, upd_same, ?_⟩, nm3⟩
        exact .cons p2 .nil
      · cases e
    · cases e
end
end EV
namespace EV
open PySem PySem.Spec L2
open PyProof.Rows hiding St

/-! ### a starred target -/
section
variable {prog : Program} {w : World} {A : Around} {E : Value → Shared → Prop} {s : Shared} {Q : List Value → Shared → Prop} {l : Addr} {items : Array Value} {n i : Nat}
theorem star_list (hl : s.heap.IsList l items) (hh : A.handled = none) (lt : i < n) (many : n ≤ items.size + 1) (small : items.size ≤ sizeLine)
    (want : ∀ (h₂ : Heap) (tk : Nat), (∀ b o, s.heap.get? b = some o → h₂.get? b = some o) → Q (items.toList.take i ++ [.ref h₂.objs.size] ++ (items.toList.drop i).drop (items.size + 1 - n)) { s with heap := h₂.push { cls := .type "list", data := .seq ((items.toList.drop i).take (items.size + 1 - n)).toArray }, toks := tk }) :
    wpAny (model prog w) A (unpackItems (.ref l) n (some i)) Q E s := by
  have other : l ≠ s.heap.objs.size := by
    obtain ⟨o, ho, _⟩ := hl
    exact Nat.ne_of_lt (Heap.lt_size ho)
  unfold unpackItems
  apply wpAny_bind
  unfold notIterableAtAll
  apply wpAny_bind
  apply wpAny_specialOf hl.typeIs slot_list_iter.lookup
  apply wpAny_pure
  rw [if_neg Bool.false_ne_true]
  apply wpAny_bind
  apply wpAny_holding
  apply wpAny_pyIter_list hl
  apply wpAny_bind
  apply wpAny_holding
  refine PySem.W.kun_draw other i 0 _ _ ⟨_, Heap.get?_push_size _ rfl, rfl, rfl⟩ (hl.push _) (by omega) fun h₁ at₁ but₁ => ?_
  have hl₁ : h₁.IsList l items := (hl.push _).extBut but₁.extBut other
  rw [Nat.zero_add] at at₁
  have it₁ : s.heap.objs.size < h₁.objs.size := by
    obtain ⟨o, ho, _⟩ := id at₁
    exact Heap.lt_size ho
  have l₁ : l < h₁.objs.size := by
    obtain ⟨o, ho, _⟩ := id hl₁
    exact Heap.lt_size ho
  rw [List.drop_zero]
  have len1 : (items.toList.take i).length = i := by
    rw [List.length_take, Array.length_toList]
    omega
  rw [if_neg (by rw [len1]; omega)]
  apply wpAny_bind
  apply wpAny_holding
  refine PySem.W.kun_collect (s := { s with heap := h₁ }) (T := "list_iterator") (.inr (.inr (.inl rfl))) (Walks.list (A := A.in1) hh s.heap.objs.size l other items) (fun j u st => st.1.typeIs) (k := i) (by omega) ⟨at₁, hl₁⟩ it₁ l₁ (fun h₂ tk keep => ?_) small
  have len2 : (items.toList.drop i).length = items.size - i := by rw [List.length_drop, Array.length_toList]
  have mid : (items.toList.drop i).length - (n - 1 - i) = items.size + 1 - n := by
    rw [len2]
    omega
  show wpAny _ _ (if (items.toList.drop i).length < n - 1 - i then _ else newList ((items.toList.drop i).take ((items.toList.drop i).length - (n - 1 - i))) >>= fun d => pure (items.toList.take i ++ [d] ++ (items.toList.drop i).drop ((items.toList.drop i).length - (n - 1 - i)))) _ _ _
  rw [if_neg (by rw [len2]; omega), mid]
  apply wpAny_bind
  refine wpAny_newList ?_ ?_
  · exact wpAny_pure (want h₂ tk fun b o g => keep b o (Nat.ne_of_lt (Heap.lt_size g)) (but₁.extBut b o (Nat.ne_of_lt (Heap.lt_size g)) (Heap.get?_push_of_some _ g)))
  · rw [List.length_take, len2]
    omega
theorem star_tup (ht : IsTup s.heap l items) (hh : A.handled = none) (lt : i < n) (many : n ≤ items.size + 1) (small : items.size ≤ sizeLine)
    (want : ∀ (h₂ : Heap) (tk : Nat), (∀ b o, s.heap.get? b = some o → h₂.get? b = some o) → Q (items.toList.take i ++ [.ref h₂.objs.size] ++ (items.toList.drop i).drop (items.size + 1 - n)) { s with heap := h₂.push { cls := .type "list", data := .seq ((items.toList.drop i).take (items.size + 1 - n)).toArray }, toks := tk }) :
    wpAny (model prog w) A (unpackItems (.ref l) n (some i)) Q E s := by
  have other : l ≠ s.heap.objs.size := by
    obtain ⟨o, ho, _⟩ := ht
    exact Nat.ne_of_lt (Heap.lt_size ho)
  unfold unpackItems
  apply wpAny_bind
  unfold notIterableAtAll
  apply wpAny_bind
  apply wpAny_specialOf ht.typeIs slot_tuple_iter.lookup
  apply wpAny_pure
  rw [if_neg Bool.false_ne_true]
  apply wpAny_bind
  apply wpAny_holding
  apply iter_tuple ht
  apply wpAny_bind
  apply wpAny_holding
  refine draw_tuple other i 0 _ _ ⟨_, Heap.get?_push_size _ rfl, rfl, rfl⟩ (ht.push _) (by omega) fun h₁ at₁ but₁ => ?_
  have ht₁ : IsTup h₁ l items := (ht.push _).extBut but₁.extBut other
  rw [Nat.zero_add] at at₁
  have it₁ : s.heap.objs.size < h₁.objs.size := by
    obtain ⟨o, ho, _⟩ := id at₁
    exact Heap.lt_size ho
  have l₁ : l < h₁.objs.size := by
    obtain ⟨o, ho, _⟩ := id ht₁
    exact Heap.lt_size ho
  rw [List.drop_zero]
  have len1 : (items.toList.take i).length = i := by
    rw [List.length_take, Array.length_toList]
    omega
  rw [if_neg (by rw [len1]; omega)]
  apply wpAny_bind
  apply wpAny_holding
  refine PySem.W.kun_collect (s := { s with heap := h₁ }) (T := "tuple_iterator") (.inr (.inr (.inr rfl))) (PySem.Walks.tuple (A := A.in1) hh s.heap.objs.size l other items) (fun j u st => st.1.typeIs) (k := i) (by omega) ⟨at₁, ht₁⟩ it₁ l₁ (fun h₂ tk keep => ?_) small
  have len2 : (items.toList.drop i).length = items.size - i := by rw [List.length_drop, Array.length_toList]
  have mid : (items.toList.drop i).length - (n - 1 - i) = items.size + 1 - n := by
    rw [len2]
    omega
  show wpAny _ _ (if (items.toList.drop i).length < n - 1 - i then _ else newList ((items.toList.drop i).take ((items.toList.drop i).length - (n - 1 - i))) >>= fun d => pure (items.toList.take i ++ [d] ++ (items.toList.drop i).drop ((items.toList.drop i).length - (n - 1 - i)))) _ _ _
  rw [if_neg (by rw [len2]; omega), mid]
  apply wpAny_bind
  refine wpAny_newList ?_ ?_
  · exact wpAny_pure (want h₂ tk fun b o g => keep b o (Nat.ne_of_lt (Heap.lt_size g)) (but₁.extBut b o (Nat.ne_of_lt (Heap.lt_size g)) (Heap.get?_push_of_some _ g)))
  · rw [List.length_take, len2]
    omega
end

def gStar (K : PySem.W.Frag) (n i : Nat) (t : TGs) : TG := fun v σ H Q => ∃ a xs, v = .ref a ∧ (SqL K H a xs ∨ SqT K H a xs) ∧ n ≤ xs.length + 1 ∧ xs.length ≤ sizeLine ∧
  ∀ p, H p = none → t (xs.take i ++ [.ref p] ++ (xs.drop i).drop (xs.length + 1 - n)) σ (upd H p (.lst ((xs.drop i).take (xs.length + 1 - n)))) Q
section
variable {X : Cx} {ap : ApB} {C : CallT} {am : Amb}
theorem pg_star {es es' : List Expr} {k n i : Nat} {pos : Pos} {t : TGs} (hc : X.calm = true) (h : PGs X es' t) (hm : (assignEach es X.env).map (·.2) = (assignEach es' X.env).map (·.2)) (hn : (assignEach es X.env).length = n) (hst : (assignEach es X.env).findIdx? (·.1) = some i) (lt : i < n) : PG X (.Tuple es k pos) (gStar X.K n i t) := by
  refine ⟨fun pins s σ H v u Q I r want => ?_⟩
  obtain ⟨a, xs, rfl, hq, many, small, want⟩ := want
  cases r
  rw [assign_Tuple]
  apply wpAny_bind
  apply wpAny_standAt
  unfold unpack
  rw [hn, hst, hm]
  apply wpAny_bind
  apply wpAny_holding
  have fin : ∀ {its : List Value} (rv : Vals xs its) (h₂ : Heap) (tk : Nat), (∀ b o, s.heap.get? b = some o → h₂.get? b = some o) →
      wpAny (model X.prog X.w) X.A (assignInOrder ((assignEach es' X.env).map (·.2)) (its.toArray.toList.take i ++ [.ref h₂.objs.size] ++ (its.toArray.toList.drop i).drop (its.toArray.size + 1 - n))) (fun _ s' => ∃ σ' H', Inv X pins σ' H' s' ∧ Q σ' H') X.xe
        { s with heap := h₂.push { cls := .type "list", data := .seq ((its.toArray.toList.drop i).take (its.toArray.size + 1 - n)).toArray }, toks := tk } := fun {its} rv h₂ tk keep => by
    have I2 : Inv X pins σ H { s with heap := h₂, toks := tk } := I.kept keep
    have len := rv.length
    have e1 : its.toArray.toList = its := rfl
    have e2 : its.toArray.size = xs.length := by rw [List.size_toArray, len]
    rw [e1, e2]
    have I3 := I2.laid (t' := tk) (o := .lst ((xs.drop i).take (xs.length + 1 - n))) (h' := h₂.push { cls := .type "list", data := .seq ((its.drop i).take (xs.length + 1 - n)).toArray }) (fun b u e => Heap.get?_push_of_some _ e) (Nat.le_refl _) ⟨Nat.le_trans (by rw [List.length_take, List.length_drop]; omega) small, _, 0, (rv.drop i).take _, Heap.get?_push_size _ rfl⟩
    exact h.run pins _ σ _ _ _ Q I3 (((rv.take i).append (.cons (show L2.RelV (V.ref h₂.objs.size) (Value.ref h₂.objs.size) from rfl) .nil)).append ((rv.drop i).drop _)) (want _ (I2.hok.fresh (Nat.le_refl _)))
  rcases hq with hq | hq
  · obtain ⟨its, rv, ht, hz⟩ := I.list hq
    exact star_list ht.isList (I.ok.hd hc) lt (by rw [List.size_toArray, ← rv.length]; exact many) (by rw [List.size_toArray, ← rv.length]; exact small) (fin rv)
  · obtain ⟨its, rv, ht, hz⟩ := I.tuple hq
    exact star_tup ht (I.ok.hd hc) lt (by rw [List.size_toArray, ← rv.length]; exact many) (by rw [List.size_toArray, ← rv.length]; exact small) (fin rv)
theorem es_star {aM : ApM} {aS : ApS} {ts : Tgs} {c : Ex} {es es' : List Expr} {e : Expr} {k n i : Nat} {tp pos : Pos} (hc : X.calm = true) (he : EE X ap C c e) (hg : ∀ am, PGs X es' (rdGs X.K am ts)) (hm : (assignEach es X.env).map (·.2) = (assignEach es' X.env).map (·.2)) (hn : (assignEach es X.env).length = n) (hst : (assignEach es X.env).findIdx? (·.1) = some i) (lt : i < n)
    (hs : swapsWithSole [.Tuple es k tp] e pos.line X.env = pure false) (hw : swappedStores [.Tuple es k tp] e X.env = pure none) : ES X ap aM aS C (.starA n i ts c) (.Assign [.Tuple es k tp] e pos) := fun am =>
  ps_weak (ps_asg (he.val (am := am)) (pg_star hc (hg am) hm hn hst lt) hs hw rfl) fun Dn σ H q => by
    obtain ⟨G, sl, f, sl', r, e, q⟩ := q
    simp only [evS] at e
    split at e
    · rename_i d fr sl1 e1
      split at e
      · rename_i ds e2
        split at e
        · rename_i sl2 e3
          cases e
          refine ⟨G, sl, d, fr, sl1, r, e1, fun v G1 H1 r1 g1 p => ?_⟩
          have mk : ∀ {xs : List V} {xd : List D} {a : Addr}, RpA X.K G1 xs xd → starL n i xd = some ds → v = .ref a → (SqL X.K H1 a xs ∨ SqT X.K H1 a xs) → gStar X.K n i (rdGs X.K am ts) v σ H1 Dn.nx := fun {xs xd a} ra es hv hq => by
            unfold starL at es
            split at es
            · rename_i hc
              cases es
              rw [← ra.length] at hc e3
              refine ⟨a, xs, hv, hq, hc.1, hc.2.2, fun p np => ?_⟩
              have mids := RpA.take (xs.length + 1 - n) (RpA.drop i ra)
              obtain ⟨r2, rs⟩ := r1.step (Step.lst r1.sub np mids)
              obtain ⟨G2, r3, g2, rp⟩ := r2.value rs
              exact ⟨G2, sl1, _, sl', r3, (RpA.append ((RpA.take i ra).mono g2) (.cons rp .nil)).append ((RpA.drop _ (RpA.drop i ra)).mono g2), e3, fun σ2 r4 _ => q G2 _ σ2 r4 (Same.trans g1 g2)⟩
            · cases es
          cases d with
          | list xd =>
            cases p with
            | lst h1 h2 => exact mk h2 e2 rfl (.inl (SqL.of (r1.sub _ _ h1)))
          | tuple xd =>
            cases p with
            | tup h1 h2 => exact mk h2 e2 rfl (.inr (Same.seqT r1.sub h1))
          | _ => cases e2
        · cases e
      · cases e
    · cases e

/-! ### a new object is lent -/
theorem RS.push {K : PySem.W.Frag} {G H : Hp} {sl : Ss} {σ : St} {v : V} {d : D} {a : Addr} (r : RS K am G H sl σ) (hv : v = .ref a) (p : Res K am G H sl σ v d true) : RS K am G H (sl ++ [.own d]) (σ ++ [some v]) := by
  obtain ⟨b, h1, h2, h3, h4, h5, h6⟩ := p
  have lo : ∀ {j : Nat} {x : Sl}, (sl ++ [Sl.own d])[j]? = some x → (j < sl.length ∧ sl[j]? = some x) ∨ (j = sl.length ∧ x = .own d) := fun {j x} e => by
    by_cases hj : j < sl.length
    · rw [List.getElem?_append_left hj] at e
      exact .inl ⟨hj, e⟩
    · rw [List.getElem?_append_right (by omega)] at e
      have : j - sl.length = 0 := by
        cases hz : j - sl.length with
        | zero => rfl
        | succ m => rw [hz] at e; simp at e
      rw [this] at e
      cases e
      exact .inr ⟨by omega, rfl⟩
  have ls : ∀ {j : Nat}, j < sl.length → (σ ++ [some v])[j]? = σ[j]? := fun {j} hj => List.getElem?_append_left (by rw [← r.len]; exact hj)
  have le : (σ ++ [some v])[sl.length]? = some (some v) := by rw [r.len, List.getElem?_append_right (Nat.le_refl _), Nat.sub_self]; rfl
  refine ⟨r.sub, by rw [List.length_append, List.length_append, r.len]; rfl, fun j x w e1 e2 => ?_, fun j k x y c e1 e2 m1 m2 z1 z2 => ?_, r.fresh, r.frame, r.dom, r.gg, r.g0, fun p hp => ?_⟩
  · rcases lo e1 with ⟨hj, h⟩ | ⟨hj, h⟩
    · rw [ls hj] at e2
      exact r.rel j x w h e2
    · subst hj h
      rw [le] at e2
      cases e2
      exact ⟨b, by rw [h1], h2, h3, h4, h5⟩
  · rcases lo e1 with ⟨hj, h⟩ | ⟨hj, h⟩
    · rw [ls hj] at z1
      rcases lo e2 with ⟨hk, g⟩ | ⟨hk, g⟩
      · rw [ls hk] at z2
        exact r.inj j k x y c h g m1 m2 z1 z2
      · subst hk
        rw [le, h1] at z2
        cases z2
        exact absurd z1 (h6 j x h m1)
    · subst hj
      rw [le, h1] at z1
      cases z1
      rcases lo e2 with ⟨hk, g⟩ | ⟨hk, g⟩
      · rw [ls hk] at z2
        exact absurd z2 (h6 k y g m2)
      · exact hk.symm
  · obtain ⟨q1, d', q2⟩ := r.pin p hp
    have hj : p.1 < sl.length := (List.getElem?_eq_some_iff.mp q2).1
    exact ⟨by rw [ls hj]; exact q1, d', by rw [List.getElem?_append_left hj]; exact q2⟩
theorem RS.pop {K : PySem.W.Frag} {G H : Hp} {sl : Ss} {σ : St} {w : Option V} {d : D} (r : RS K am G H (sl ++ [.own d]) (σ ++ [w])) : RS K am G H sl σ := by
  have len : sl.length = σ.length := by
    have := r.len
    rw [List.length_append, List.length_append] at this
    exact Nat.add_right_cancel this
  have up : ∀ {j : Nat} {x : Sl}, sl[j]? = some x → (sl ++ [Sl.own d])[j]? = some x := fun {j x} e => by rw [List.getElem?_append_left (List.getElem?_eq_some_iff.mp e).1]; exact e
  have us : ∀ {j : Nat} {u : Option V}, σ[j]? = some u → (σ ++ [w])[j]? = some u := fun {j x} e => by rw [List.getElem?_append_left (List.getElem?_eq_some_iff.mp e).1]; exact e
  refine ⟨r.sub, len, fun j x u e1 e2 => r.rel j x u (up e1) (us e2), fun j k x y c e1 e2 m1 m2 z1 z2 => r.inj j k x y c (up e1) (up e2) m1 m2 (us z1) (us z2), r.fresh, r.frame, r.dom, r.gg, r.g0, fun p hp => ?_⟩
  obtain ⟨q1, d', q2⟩ := r.pin p hp
  have hj : p.1 < sl.length := by
    apply Classical.byContradiction
    intro hj
    rw [List.getElem?_append_right (by omega)] at q2
    cases hz : p.1 - sl.length with
    | zero => rw [hz] at q2; cases q2
    | succ m => rw [hz] at q2; simp at q2
  rw [List.getElem?_append_left (by omega)] at q1
  rw [List.getElem?_append_left hj] at q2
  exact ⟨q1, d', q2⟩
theorem ee_callF {f : Nat} {x : Str} {c : Ex} {e : Expr} {p pos : Pos} (F : FnLk X C f 1 x) (hg : Gl X x) (he : EE X ap C c e) (hn : noStar e = true) (hdb : (x == ("__debug__" : Str)) = false) : EE X ap C (.callF f c) (.Call (.Name x p) [e] [] pos) := fun am => by
  obtain ⟨k, fa, fd, ps, G, hr, hm, hk, hb⟩ := F.ex
  refine pe_weak (pe_callG G hr hg hm hk hb (pa_cons (he am) pa_nil (star_cons hn)) hdb (star_cons hn) rfl) fun σ H Q q => ?_
  obtain ⟨G, sl, d, fr, sl', r, e, q⟩ := q
  simp only [evE] at e
  split at e
  · rename_i d0 sl1 e1
    split at e
    · rename_i d1 fr1 out e2
      cases e
      refine ⟨G, sl, d0, true, sl', r, e1, fun v G1 H1 r1 g1 p1 => ?_⟩
      obtain ⟨a, rfl, h2, h3, h4, h5, h6⟩ := id p1
      show spF X.K C f 1 [V.ref a] H1 Q
      refine ⟨G1, [(true, d0)], d, fr, [out], rfl, r1.sub, .lent h2 h5 .nil, (show [a].Nodup from List.nodup_cons.mpr ⟨List.not_mem_nil, List.nodup_nil⟩), e2, fun v G' H' c => ?_⟩
      have rp := r1.push rfl p1
      have bk : backS [sl'.length] [out] (sl' ++ [.own d0]) = some (sl' ++ [.own out]) := by
        unfold backS
        rw [List.getElem?_append_right (Nat.le_refl _), Nat.sub_self]
        simp only [List.getElem?_cons_zero, backS, List.set_append, Nat.lt_irrefl, if_false, Nat.sub_self, List.set_cons_zero]
      obtain ⟨r2, rs⟩ := rp.call (is := [sl'.length]) (as := [a]) (outs := [out]) (fun k j hk => by
        cases k with
        | succ k => simp at hk
        | zero =>
          simp only [List.getElem?_cons_zero, Option.some.injEq] at hk
          subst hk
          exact ⟨a, .own d0, rfl, by rw [List.getElem?_append_right (Nat.le_refl _), Nat.sub_self]; rfl, rfl, by rw [r1.len, List.getElem?_append_right (Nat.le_refl _), Nat.sub_self]; rfl⟩) rfl rfl c bk
      refine q v G' H' r2.pop (Same.trans g1 c.gg) ?_
      cases fr with
      | false => exact rs
      | true =>
        obtain ⟨b, z1, z2, z3, z4, z5, z6⟩ := rs
        refine ⟨b, z1, z2, z3, z4, z5, fun i x hx m hs => z6 i x ?_ m ?_⟩
        · rw [List.getElem?_append_left (List.getElem?_eq_some_iff.mp hx).1]; exact hx
        · rw [List.getElem?_append_left (List.getElem?_eq_some_iff.mp hs).1]; exact hs
    · cases e
  · cases e

/-! ### x[::-1] of a list, of a tuple -/
section
variable {prog : Program} {w : World} {A : Around} {E : Value → Shared → Prop} {s : Shared}
theorem adjust_rev (n : Nat) : Builtin.Slice.sliceAdjust none none (-1) (n : Int) = ((n : Int) - 1, -1) := by
  unfold Builtin.Slice.sliceAdjust
  have h1 : (-1 : Int) < 0 := by decide
  simp only [h1, if_true]
theorem places_rev (n : Nat) : Builtin.Slice.slicePlaces ((n : Int) - 1) (-1) (-1) = n := by
  unfold Builtin.Slice.slicePlaces
  have h1 : ¬ ((-1 : Int) > 0) := by decide
  simp only [h1, if_false]
  have e1 : (- -1 : Int) = 1 := by decide
  rw [e1, Int.ediv_one]
  split <;> omega
theorem fm_congr {α β : Type} {f g : α → Option β} : ∀ {l : List α}, (∀ a ∈ l, f a = g a) → l.filterMap f = l.filterMap g
  | [], _ => rfl
  | a :: r, h => by
    rw [List.filterMap_cons, List.filterMap_cons, h a List.mem_cons_self, fm_congr fun b hb => h b (List.mem_cons_of_mem _ hb)]
theorem pick_rev (xs : Array Value) : ((List.range xs.size).filterMap fun (m : Nat) => xs[(((xs.size : Int) - 1) + (m : Int) * (-1)).toNat]?).toArray = xs.toList.reverse.toArray := by
  have e2 : ((List.range xs.size).filterMap fun (m : Nat) => xs[(((xs.size : Int) - 1) + (m : Int) * (-1)).toNat]?) = ((List.range xs.size).map fun k => xs.size - 1 - k).filterMap (xs[·]?) := by
    rw [List.filterMap_map]
    refine fm_congr fun m hm => ?_
    have hlt := List.mem_range.mp hm
    have e : (((xs.size : Int) - 1) + (m : Int) * (-1)).toNat = xs.size - 1 - m := by omega
    simp only [Function.comp_apply]
    rw [e]
  rw [e2, PySem.W.krv_range, List.filterMap_reverse, PySem.W.krv_all]
theorem applied_rev {sl : Addr} {vs : Value} {n : Nat} {Q : Int × Int × Nat → Shared → Prop} (hs : s.heap.IsSliceOf sl .none .none vs) (ps : IsPart vs (some (-1)))
    (h : Q ((n : Int) - 1, -1, n) s) : wpAny (model prog w) A (Builtin.Slice.sliceApplied (.ref sl) (pure (n : Int))) Q E s := by
  obtain ⟨os, hos, hcs, hds⟩ := id hs
  unfold Builtin.Slice.sliceApplied Builtin.Slice.sliceFields
  refine wpAny_bind (wpAny_bind (wpAny_field hos hds (x := .none) rfl (wpAny_bind (wpAny_field hos hds (x := .none) rfl (wpAny_bind (wpAny_field hos hds (x := vs) rfl (wpAny_pure ?_)))))))
  refine wpAny_bind (HT.slicePart_ ps ?_)
  show wpAny _ _ (if ((-1 : Int) == 0) = true then _ else _) _ _ s
  rw [if_neg (by decide)]
  refine wpAny_bind (slicePart_none (wpAny_bind (slicePart_none (wpAny_bind (wpAny_pure ?_)))))
  show wpAny _ _ (match Builtin.Slice.sliceAdjust none none (-1) (n : Int) with | (lo, hi) => pure (lo, (-1 : Int), Builtin.Slice.slicePlaces lo hi (-1))) _ _ s
  rw [adjust_rev n]
  show wpAny _ _ (pure ((n : Int) - 1, (-1 : Int), Builtin.Slice.slicePlaces ((n : Int) - 1) (-1) (-1))) _ _ s
  rw [places_rev]
  exact wpAny_pure h
theorem getItem_tuple_rev {t sl : Addr} {items : Array Value} {vs : Value} {Q : Value → Shared → Prop} (ht : IsTup s.heap t items) (hs : s.heap.IsSliceOf sl .none .none vs) (ps : IsPart vs (some (-1)))
    (h : Q (.ref s.heap.objs.size) { s with heap := s.heap.push { cls := .type "tuple", data := .seq items.toList.reverse.toArray } })
    (hsz : items.size ≤ sizeLine) : wpAny (model prog w) A (getItem (.ref t) (.ref sl)) Q E s := by
  have htake : sizeOk (.seq items.toList.reverse.toArray) := by
    show items.toList.reverse.toArray.size ≤ sizeLine
    rw [List.size_toArray, List.length_reverse, Array.length_toList]
    exact hsz
  obtain ⟨os, hos, hcs, hds⟩ := id hs
  have hTs : s.TypeIs (.ref sl) "slice" := ⟨os, hos, hcs⟩
  unfold getItem
  try with_reducible refine wpAny_holding ?_
  first | refine wpAny_bind (wpAny_pure ?_) | skip
  refine wpAny_bind (wpAny_sequenceKey ht.typeIs (by decide) ?_)
  refine wpAny_bind (wpAny_callSpecial?_slot (name := Str.ofString "__getitem__") ht.typeIs PyProof.Rows.slot_tuple_getitem
    (wpAny_call_entry PyProof.Rows.slot_tuple_getitem ht.typeIs entry_tuple_getitem ?_ (args_tuple_getitem _ _)))
  show wpAny _ _ (Builtin.Tuple.tupleItemsOf (.ref t) >>= _) _ _ s
  refine wpAny_bind (tupleItemsOf_ ht ?_)
  refine wpAny_bind (wpAny_typeOf hTs ?_)
  rw [if_pos (by decide)]
  refine wpAny_bind (applied_rev hs ps ?_)
  have hno : ¬ ((((items.size : Int) - 1) == 0 && (-1 : Int) == 1 && items.size == items.size) = true) := by
    intro q
    rw [Bool.and_eq_true, Bool.and_eq_true] at q
    exact absurd (eq_of_beq q.1.2) (by decide)
  show wpAny _ _ (if (((items.size : Int) - 1) == 0 && (-1 : Int) == 1 && items.size == items.size) = true then _ else _) _ _ s
  rw [if_neg hno, pick_rev]
  first
    | exact wpAny_bind (m := Builtin.Tuple.tupleExact _) (wpAny_newObj_type (wpAny_pure ⟨_, rfl, wpAny_pure h⟩) htake)
    | exact wpAny_bind (m := Builtin.Tuple.tupleExact _) (wpAny_newObj_type (wpAny_bind (wpAny_pure (wpAny_pure ⟨_, rfl, wpAny_pure h⟩))) htake)
    | exact wpAny_bind (wpAny_bind (m := Builtin.Tuple.tupleExact _) (wpAny_newObj_type (wpAny_pure (wpAny_pure ⟨_, rfl, wpAny_pure h⟩)) htake))
    | exact wpAny_bind (wpAny_bind (m := Builtin.Tuple.tupleExact _) (wpAny_newObj_type (wpAny_pure ⟨_, rfl, wpAny_pure h⟩) htake))
end
def tRevA (K : PySem.W.Frag) (te : TE) : TE := fun σ H Q => te σ H fun x H1 => ∃ a xs, x = .ref a ∧ ((SqL K H1 a xs ∧ ∀ p, H1 p = none → Q (.ref p) (upd H1 p (.lst xs.reverse))) ∨ (SqT K H1 a xs ∧ ∀ p, H1 p = none → Q (.ref p) (upd H1 p (.tup xs.reverse))))
theorem pe_revA {e : Expr} {te : TE} {k : Nat} {p1 p2 p3 pos : Pos} (he : PE X e te) : PE X (.Subscript e (.Slice none none (some (.UnaryOp .USub (.Constant (.int 1) k p1) p2)) p3) pos) (tRevA X.K te) := by
  refine ⟨fun pins s σ H Q I h => ?_⟩
  refine Subscript_ (thn (he.run pins s σ H _ I h) fun v s1 ⟨x, H1, I1, r1, q1⟩ => ?_)
  obtain ⟨a, xs, ex, q⟩ := q1
  subst ex
  cases r1
  have hst : PO X (some (.UnaryOp .USub (.Constant (.int 1) k p1) p2)) (tPart (tUn (rU fun i => .int (-i)) (tC (.int 1)))) := po_some (pe_un un_neg pe_int)
  refine wpAny_Slice (thn (po_none.run pins s1 σ H1 (fun o H2 => o = none ∧ H2 = H1) I1 ⟨rfl, rfl⟩) fun vl s2 ⟨l, H2, I2, pl, el, e2⟩ => ?_)
  subst el e2
  refine thn (po_none.run pins s2 σ H2 (fun o H3 => o = none ∧ H3 = H2) I2 ⟨rfl, rfl⟩) fun vu s3 ⟨u, H3, I3, pu, eu, e3⟩ => ?_
  subst eu e3
  refine thn (hst.run pins s3 σ H3 (fun o H4 => o = some (-1) ∧ H4 = H3) I3 ⟨1, rfl, -1, rfl, rfl, rfl⟩) fun vs s4 ⟨o, H4, I4, ps, eo, e4⟩ => ?_
  subst eo e4
  have I5 : Inv X pins σ H4 { s4 with heap := s4.heap.push { cls := .type "slice", data := .fields #[vl, vu, vs] } } := I4.kept (t' := s4.toks) fun b ob q => Heap.get?_push_of_some _ q
  cases pl
  cases pu
  show wpAny (model X.prog X.w) X.A (subscriptTail e (.Slice none none (some (.UnaryOp .USub (.Constant (.int 1) k p1) p2)) p3) (.ref a) (.ref s4.heap.objs.size)) (EP X pins σ Q) X.xe { s4 with heap := s4.heap.push { cls := .type "slice", data := .fields #[.none, .none, vs] } }
  rcases q with ⟨hx, q⟩ | ⟨hx, q⟩
  · obtain ⟨its, r, ht, hz⟩ := I5.list hx
    have hlen := r.length
    refine tail_any (ops := [.ref a, .ref s4.heap.objs.size]) ht.isList.typeIs (PySem.slot_list_getitem.lookup) ?_ (by with_unfolding_all rfl)
    refine wpAny_getItem_list_slice ht.isList (Heap.IsSliceOf.new _ .none .none vs) .none .none ps (by decide) ?_ (by rw [List.size_toArray]; omega)
    rw [PySem.W.krv_pick]
    refine ⟨.ref _, _, I5.laid (t' := s4.toks) (o := .lst xs.reverse) (fun b ob q => Heap.get?_push_of_some _ q) (Nat.le_refl _) ?_, rfl, q _ (I5.hok.fresh (Nat.le_refl _))⟩
    exact ⟨by rw [List.length_reverse]; exact hz, _, 0, r.reverse, Heap.get?_push_size _ rfl⟩
  · obtain ⟨its, r, ht, hz⟩ := I5.tuple hx
    have hlen := r.length
    refine tail_any (ops := [.ref a, .ref s4.heap.objs.size]) ht.typeIs (PyProof.Rows.slot_tuple_getitem.lookup) ?_ (by with_unfolding_all rfl)
    refine getItem_tuple_rev ht (Heap.IsSliceOf.new _ .none .none vs) ps ?_ (by rw [List.size_toArray]; omega)
    refine ⟨.ref _, _, I5.laid (t' := s4.toks) (o := .tup xs.reverse) (fun b ob q => Heap.get?_push_of_some _ q) (Nat.le_refl _) ?_, rfl, q _ (I5.hok.fresh (Nat.le_refl _))⟩
    exact ⟨by rw [List.length_reverse]; exact hz, its.reverse, r.reverse, IsTup.new _ _⟩
def apRev : List D → Option (D × Bool)
  | [.list ds] => some (.list ds.reverse, true)
  | [.tuple ds] => some (.tuple ds.reverse, false)
  | _ => none
theorem ee_rev {f : Bi} {c : Ex} {e : Expr} {k : Nat} {p1 p2 p3 pos : Pos} (hf : ap f = apRev) (he : EO X ap C c e) : EE X ap C (.bi f (.cons c .nil)) (.Subscript e (.Slice none none (some (.UnaryOp .USub (.Constant (.int 1) k p1) p2)) p3) pos) := fun am =>
  pe_weak (pe_revA (he am)) fun σ H Q q => by
    obtain ⟨G, sl, d, fr, sl', r, e, q⟩ := q
    obtain ⟨os, ds, e0, e1, e2⟩ := bi_split e
    obtain ⟨oa, e3, rfl⟩ := evOs_one e0
    refine ⟨G, sl, oa, _, r, e3, fun v G1 H1 r1 g1 o1 => ?_⟩
    have key := r1.bi (g := ap f) (.cons o1 .nil) e1 e2 g1 q
    obtain ⟨G2, a, d2, fr2, sm, ha, e4, q2⟩ := rBi1 key
    rw [hf] at e4
    unfold apRev at e4
    split at e4
    · rename_i xd he
      rw [List.cons.injEq] at he
      obtain ⟨rfl, _⟩ := he
      cases e4
      obtain ⟨b, xs, rfl, h2, h3⟩ := ha.lst sm
      exact ⟨b, xs, rfl, .inl ⟨SqL.of h2, fun p hp => q2 _ _ _ (.lst sm hp h3.reverse)⟩⟩
    · rename_i xd he
      rw [List.cons.injEq] at he
      obtain ⟨rfl, _⟩ := he
      cases e4
      obtain ⟨b, xs, rfl, h2, h3⟩ := ha.tup
      exact ⟨b, xs, rfl, .inr ⟨Same.seqT sm h2, fun p hp => q2 _ _ _ (.tup sm hp h3.reverse)⟩⟩
    · cases e4
end
end EV
namespace EV
open PySem PySem.Spec L2
open PyProof.Rows hiding St

/-! ### xs.count(truth) -/
def apCount : List D → Option (D × Bool)
  | [.list ds, .bool b] => (boolsOf ds).map fun bs => (.int (bs.count b), false)
  | _ => none
def eqB (k : Bool) (v : Value) : Bool := match v with
  | .bool n => n == k
  | _ => false
theorem vals_bl : ∀ {bs : List Bool} {us : List Value}, Vals (bs.map V.bl) us → us = bs.map Value.bool
  | [], _, .nil => rfl
  | b :: bs, _, .cons r t => by
    cases r
    rw [vals_bl t] <;> rfl
theorem count_bl (b : Bool) : ∀ bs : List Bool, (bs.map Value.bool).countP (eqB b) = bs.count b
  | [] => rfl
  | a :: r => by
    rw [List.map_cons, List.countP_cons, List.count_cons, count_bl b r]
    rfl
section
variable {X : Cx}
theorem mt_count : MtR X "list.count" (fun x xs H Q => ∃ y, xs = [y] ∧ rBi X.K apCount [x, y] H Q) := by
  intro pins s σ H x xs v us Q I rx rxs h
  obtain ⟨y, rfl, h⟩ := h
  obtain ⟨G, a, b, d, fr, sm, ha, hb, e, q⟩ := rBi2 h
  unfold apCount at e
  split at e
  · rename_i ds b0 he
    simp only [List.cons.injEq, and_true] at he
    obtain ⟨rfl, rfl⟩ := he
    cases h1 : boolsOf ds with
    | none => rw [h1] at e; cases e
    | some bs =>
      rw [h1] at e; cases e
      have e0 := hb.bl
      subst e0
      obtain ⟨p, ws, rfl, h2, r⟩ := ha.lst sm
      have e2 := bools_rp r h1
      subst e2
      cases rx
      obtain ⟨u, rfl, ru⟩ := rxs.one
      cases ru
      obtain ⟨its, rv, ⟨⟨cls, dd, data, sl⟩, n, ho, hc, hdn, hd⟩, hlen⟩ := I.list (SqL.of (K := X.K) h2)
      simp only at hc hd
      subst hc hd
      have ev := vals_bl rv
      refine call_meets PySem.F.slot_list_count ⟨_, ho, rfl⟩ PySem.F.entry_list_count (PySem.F.args_list_count_2 _ _)
        (SeqAt.list_countAt p its.toArray n dd sl (.bool b0) (eqB b0)) ⟨ho, fun y hy => ?_, ?_⟩
      · have hy : y ∈ its := by simpa using hy
        rw [ev] at hy
        obtain ⟨c, _, rfl⟩ := List.mem_map.mp hy
        exact SeqAt.EqAt.bool_bool c b0
      · have ec : its.toArray.toList.countP (eqB b0) = bs.count b0 := by rw [ev]; exact count_bl b0 bs
        refine ⟨.int (bs.count b0 : Nat), H, I.tok _, ⟨s.toks, ?_⟩, q _ _ _ (.same sm (.int _))⟩
        show Value.int ((its.toArray.toList.countP (eqB b0) : Nat) : Int) s.toks = Value.int ((bs.count b0 : Nat) : Int) s.toks
        rw [ec]
  · cases e
variable {C : CallT} {ap : ApB}
/-- a list's method of one argument -/
theorem ee_mcL {f : Bi} {ca cb : Ex} {a b : Expr} {name : Str} {id : String} {apos pos : Pos} {g : List D → Option (D × Bool)} (hf : ap f = g) (slot : Slot "list" name id) (hty : typeOf (.builtin id) = pure (.type "method_descriptor"))
    (hm : MtR X id (fun x xs H Q => ∃ y, xs = [y] ∧ rBi X.K g [x, y] H Q)) (hs : ∀ x y d fr, g [x, y] = some (d, fr) → ∃ z, x = .list z) (ha : EE X ap C ca a) (hb : EO X ap C cb b) (n : noStar b = true)
    (hbase : attributeBase a name X.env (eval a X.env) = eval a X.env) (hline : (apos.endLine == pos.line) = true) :
    EE X ap C (.mc f (.cons ca .nil) (.cons cb .nil)) (.Call (.Attribute a name apos) [b] [] pos) := fun am =>
  pe_weak (pe_bm PySem.F.plainAttrs_list slot hty hm (ha.val (am := am)) (pa_os_cons hb pa_os_nil n) hbase (by rw [star_cons n]; rfl) hline (star_cons n) rfl) fun σ H Q q => by
    obtain ⟨G, sl, d, fr, sl', r, e, q⟩ := q
    obtain ⟨x, fx, sla, os, ds, e1, e2, e3, e4⟩ := mc_split e
    obtain ⟨ob, e5, rfl⟩ := evOs_one e2
    refine ⟨G, sl, x, fx, sla, r, e1, fun v G1 H1 r1 g1 p1 => ?_⟩
    have hds : ∃ y, ds = [y] := by
      simp only [derefs] at e3
      split at e3
      · rename_i h
        cases h
        cases e3
        exact ⟨_, rfl⟩
      · cases e3
    obtain ⟨y, rfl⟩ := hds
    rw [hf] at e4
    obtain ⟨z, rfl⟩ := hs _ _ _ _ e4
    obtain ⟨p, ws, rfl, h2, h3⟩ := Pk.lst (H := H1) r1.sub (.inl p1)
    refine ⟨.inl ⟨rfl, ws, SqL.of h2⟩, G1, sla, [ob], sl', r1, e2, fun vs G2 H2 r2 g2 o2 => ?_⟩
    obtain ⟨w, rfl⟩ : ∃ w, vs = [w] := by
      cases o2 with
      | cons _ o => cases o; exact ⟨_, rfl⟩
    have o2 := match o2 with | .cons o _ => o
    refine ⟨w, rfl, ?_⟩
    exact r2.bi (g := g) (vs := [.ref p, w]) (os := [.d (.list z), ob]) (.cons (p1.mono g2) (.cons o2 .nil)) (by simp only [derefs] at e3 ⊢; rw [show deref sl' (.d (.list z)) = some (.list z) from rfl]; rw [e3]) e4 (Same.trans g1 g2) q
end
end EV
namespace EV
open PySem PySem.Spec L2
open PyProof.Rows hiding St

/-! ### orders of rows -/
structure Lin {α : Type} (lt : α → α → Bool) : Prop where
  irr : ∀ a, lt a a = false
  tr : ∀ a b c, lt a b = true → lt b c = true → lt a c = true
  tri : ∀ a b, lt a b = false → lt b a = false → a = b
theorem Lin.asym {α : Type} {lt : α → α → Bool} (h : Lin lt) {a b : α} (g : lt a b = true) : lt b a = false := by
  cases e : lt b a with
  | false => rfl
  | true => exact absurd (h.tr _ _ _ g e) (by rw [h.irr]; decide)
theorem Lin.swo {α β : Type} {lt : α → α → Bool} (h : Lin lt) (k : β → α) : SrtO.Swo fun x y => lt (k x) (k y) := by
  refine ⟨fun x y g => h.asym g, fun x y z g1 g2 => ?_⟩
  cases e : lt (k z) (k x) with
  | false => rfl
  | true =>
    cases e2 : lt (k x) (k y) with
    | true => exact absurd (h.tr _ _ _ e e2) (by rw [g2]; decide)
    | false =>
      have := h.tri _ _ g1 e2
      rw [this] at g2
      rw [g2] at e
      cases e
def lexG {α : Type} [DecidableEq α] (lt : α → α → Bool) : List α → List α → Bool
  | [], [] => false
  | [], _ :: _ => true
  | _ :: _, [] => false
  | a :: as, b :: bs => if a = b then lexG lt as bs else lt a b
theorem Lin.lex {α : Type} [DecidableEq α] {lt : α → α → Bool} (h : Lin lt) : Lin (lexG lt) := by
  refine ⟨fun a => ?_, fun a => ?_, fun a => ?_⟩
  · induction a with
    | nil => rfl
    | cons a as ih => rw [lexG, if_pos rfl, ih]
  · induction a with
    | nil =>
      intro b c g1 g2
      cases b with
      | nil => cases g1
      | cons b bs =>
        cases c with
        | nil => cases g2
        | cons c cs => rfl
    | cons a as ih =>
      intro b c g1 g2
      cases b with
      | nil => cases g1
      | cons b bs =>
        cases c with
        | nil => cases g2
        | cons c cs =>
          simp only [lexG] at g1 g2 ⊢
          by_cases e1 : a = b
          · subst e1
            rw [if_pos rfl] at g1
            by_cases e2 : a = c
            · rw [if_pos e2] at g2 ⊢
              exact ih _ _ g1 g2
            · rw [if_neg e2] at g2 ⊢
              exact g2
          · rw [if_neg e1] at g1
            by_cases e2 : b = c
            · subst e2
              rw [if_neg e1]
              exact g1
            · rw [if_neg e2] at g2
              have e3 : a ≠ c := by
                rintro rfl
                rw [h.asym g1] at g2
                cases g2
              rw [if_neg e3]
              exact h.tr _ _ _ g1 g2
  · induction a with
    | nil =>
      intro b g1 g2
      cases b with
      | nil => rfl
      | cons b bs => cases g1
    | cons a as ih =>
      intro b g1 g2
      cases b with
      | nil => cases g2
      | cons b bs =>
        simp only [lexG] at g1 g2
        by_cases e : a = b
        · subst e
          rw [if_pos rfl] at g1 g2
          rw [ih _ g1 g2]
        · rw [if_neg e] at g1
          rw [if_neg (fun z => e z.symm)] at g2
          exact absurd (h.tri _ _ g1 g2) e
def ltI (a b : Int) : Bool := decide (a < b)
theorem lin_int : Lin ltI := by
  refine ⟨fun a => decide_eq_false (Int.lt_irrefl a), fun a b c g1 g2 => ?_, fun a b g1 g2 => ?_⟩
  · unfold ltI at *
    rw [decide_eq_true_eq] at *
    omega
  · unfold ltI at *
    rw [decide_eq_false_iff_not] at *
    omega
abbrev Kt := List (List Int)
def ltK : Kt → Kt → Bool := lexG (lexG ltI)
theorem lin_k : Lin ltK := lin_int.lex.lex

/-! ### keys of data -/
def aK : D → List Int
  | .none => [0]
  | .int i => [1, i]
  | .str s => 2 :: s.cps.toList.map Int.ofNat
  | .bool b => [3, if b then 1 else 0]
  | _ => [4]
def dK : D → Kt
  | .tuple ds => ds.map aK
  | d => [aK d]
def isStr : D → Bool
  | .str _ => true
  | _ => false
def isInt : D → Bool
  | .int _ => true
  | _ => false
def isAtom : D → Bool
  | .none => true
  | .int _ => true
  | .str _ => true
  | _ => false
/-- a tuple of small things, a text ahead -/
def isRowT : D → Bool
  | .tuple (a :: r) => isStr a && r.all isAtom
  | _ => false
def kin : D → D → Bool
  | .str _, .str _ => true
  | .int _, .int _ => true
  | _, _ => false
def cmpT : List D → List D → Bool
  | a :: as, b :: bs => if a = b then cmpT as bs else kin a b
  | _, _ => true
def rowOf : D → List D
  | .tuple ds => ds
  | _ => []
/-- what may be sorted -/
def sortOk (ds : List D) : Bool := decide (ds.length ≤ sizeLine) && (ds.all isStr || (ds.all isInt || (ds.all isRowT && ds.all fun d => ds.all fun e => cmpT (rowOf d) (rowOf e))))
def leD (a b : D) : Bool := !ltK (dK b) (dK a)
def sortD (ds : List D) : List D := ds.mergeSort leD
theorem map_nat_inj : ∀ {a b : List Nat}, a.map Int.ofNat = b.map Int.ofNat → a = b
  | [], [], _ => rfl
  | [], _ :: _, h => by cases h
  | _ :: _, [], h => by cases h
  | a :: as, b :: bs, h => by
    injection h with h1 h2
    injection h1 with h1
    rw [h1, map_nat_inj h2]
theorem aK_inj : ∀ {a b : D}, isAtom a = true → isAtom b = true → aK a = aK b → a = b := by
  intro a b ha hb h
  cases a <;> cases b <;> first | (cases ha; done) | (cases hb; done) | skip
  all_goals simp only [aK] at h
  · rfl
  · cases h
  · cases h
  · cases h
  · injection h with _ h; injection h with h _; rw [h]
  · cases h
  · cases h
  · cases h
  · injection h with _ h
    have := map_nat_inj h
    exact congrArg PyData.str (by
      rename_i x y
      obtain ⟨x⟩ := x
      obtain ⟨y⟩ := y
      exact congrArg Str.mk (Array.toList_inj.mp this))
theorem rows_inj : ∀ {as bs : List D}, as.all isAtom = true → bs.all isAtom = true → as.map aK = bs.map aK → as = bs
  | [], [], _, _, _ => rfl
  | [], _ :: _, _, _, h => by cases h
  | _ :: _, [], _, _, h => by cases h
  | a :: as, b :: bs, ha, hb, h => by
    rw [List.all_cons, Bool.and_eq_true] at ha hb
    injection h with h1 h2
    rw [aK_inj ha.1 hb.1 h1, rows_inj ha.2 hb.2 h2]
theorem isAtom_str {d : D} (h : isStr d = true) : isAtom d = true := by cases d <;> first | rfl | cases h
theorem isAtom_int {d : D} (h : isInt d = true) : isAtom d = true := by cases d <;> first | rfl | cases h
theorem isRowT_of {d : D} (h : isRowT d = true) : ∃ s r, d = .tuple (.str s :: r) ∧ r.all isAtom = true := by
  unfold isRowT at h
  split at h
  · rw [Bool.and_eq_true] at h
    rename_i a r
    cases a <;> first | exact ⟨_, _, rfl, h.2⟩ | cases h.1
  · cases h
/-- one sort of things -/
inductive Sort1 (ds : List D) : Prop where
  | ofS (h : ∀ d ∈ ds, isStr d = true)
  | ofI (h : ∀ d ∈ ds, isInt d = true)
  | ofR (h : ∀ d ∈ ds, isRowT d = true) (g : ∀ d ∈ ds, ∀ e ∈ ds, cmpT (rowOf d) (rowOf e) = true)
theorem sortOk_of {ds : List D} (h : sortOk ds = true) : ds.length ≤ sizeLine ∧ Sort1 ds := by
  unfold sortOk at h
  rw [Bool.and_eq_true, decide_eq_true_eq, Bool.or_eq_true, Bool.or_eq_true, Bool.and_eq_true] at h
  refine ⟨h.1, ?_⟩
  rcases h.2 with h | h | ⟨h, g⟩
  · exact .ofS (List.all_eq_true.mp h)
  · exact .ofI (List.all_eq_true.mp h)
  · exact .ofR (List.all_eq_true.mp h) fun d hd e he => List.all_eq_true.mp (List.all_eq_true.mp g d hd) e he
theorem Sort1.inj {ds : List D} (h : Sort1 ds) {a b : D} (ha : a ∈ ds) (hb : b ∈ ds) (e : dK a = dK b) : a = b := by
  cases h with
  | ofS h =>
    have h1 := h a ha
    have h2 := h b hb
    refine aK_inj (isAtom_str h1) (isAtom_str h2) ?_
    cases a <;> first | (cases h1; done) | skip
    cases b <;> first | (cases h2; done) | skip
    simpa [dK] using e
  | ofI h =>
    have h1 := h a ha
    have h2 := h b hb
    refine aK_inj (isAtom_int h1) (isAtom_int h2) ?_
    cases a <;> first | (cases h1; done) | skip
    cases b <;> first | (cases h2; done) | skip
    simpa [dK] using e
  | ofR h _ =>
    obtain ⟨s, r, rfl, h1⟩ := isRowT_of (h a ha)
    obtain ⟨t, q, rfl, h2⟩ := isRowT_of (h b hb)
    have := rows_inj (as := .str s :: r) (bs := .str t :: q) (by rw [List.all_cons, h1]; rfl) (by rw [List.all_cons, h2]; rfl) (by simpa [dK] using e)
    rw [this]
/-- the sorted row is the one that is sorted -/
theorem sortD_eq {ds es : List D} (h : Sort1 ds) (p : es.Perm ds) (s : es.Pairwise fun a b => ltK (dK b) (dK a) = false) : es = sortD ds := by
  have hp : (sortD ds).Perm ds := List.mergeSort_perm _ _
  refine List.Perm.eq_of_pairwise (le := fun a b => ltK (dK b) (dK a) = false) (fun a b ha hb g1 g2 => ?_) s ?_ (p.trans hp.symm)
  · exact h.inj (p.mem_iff.mp ha) (hp.mem_iff.mp hb) (lin_k.tri _ _ g2 g1)
  · have q := List.pairwise_mergeSort (le := leD) (fun a b c g1 g2 => ?_) (fun a b => ?_) ds
    · refine q.imp fun {a b} g => ?_
      unfold leD at g
      simpa using g
    · unfold leD at *
      have o := lin_k.swo (fun d : D => dK d)
      rw [Bool.not_eq_true'] at *
      exact o.tr a b c g1 g2
    · unfold leD
      cases e : ltK (dK b) (dK a) with
      | false => rfl
      | true => rw [lin_k.asym e]; rfl
theorem perm_lift {α β : Type} {f : α → β} : ∀ {l m : List β}, l.Perm m → ∀ {t : List α}, t.map f = m → ∃ t' : List α, t'.map f = l ∧ t'.Perm t := by
  intro l m h
  induction h with
  | nil => intro t e; exact ⟨t, e, .refl _⟩
  | cons x _ ih =>
    intro t e
    cases t with
    | nil => cases e
    | cons a t =>
      injection e with e1 e2
      obtain ⟨t', q1, q2⟩ := ih e2
      exact ⟨a :: t', by rw [List.map_cons, q1, e1], q2.cons _⟩
  | swap x y l =>
    intro t e
    match t, e with
    | a :: b :: t, e =>
      injection e with e1 e2
      injection e2 with e2 e3
      exact ⟨b :: a :: t, by rw [List.map_cons, List.map_cons, e1, e2, e3], .swap _ _ _⟩
  | trans _ _ ih1 ih2 =>
    intro t e
    obtain ⟨t2, q1, q2⟩ := ih2 e
    obtain ⟨t1, q3, q4⟩ := ih1 q1
    exact ⟨t1, q3, q4.trans q2⟩

/-! ### keys of values -/
def avK : Value → List Int
  | .none => [0]
  | .int i _ => [1, i]
  | .str s _ => 2 :: s.cps.toList.map Int.ofNat
  | .bool b => [3, if b then 1 else 0]
  | _ => [4]
def vK (h : Heap) : Value → Kt
  | .ref a => match h.get? a with
    | some o => match o.data with
      | .seq its _ => its.toList.map avK
      | _ => []
    | none => []
  | v => [avK v]
/-- a value that has data d: an atom, or a tuple of atoms -/
inductive AtV : Value → D → Prop where
  | non : AtV .none .none
  | int (i : Int) (t : Tok) : AtV (.int i t) (.int i)
  | str (s : Str) (t : Tok) : AtV (.str s t) (.str s)
inductive AtVs : List Value → List D → Prop where
  | nil : AtVs [] []
  | cons {v : Value} {d : D} {vs : List Value} {ds : List D} : AtV v d → AtVs vs ds → AtVs (v :: vs) (d :: ds)
inductive SoV (h : Heap) : Value → D → Prop where
  | str (s : Str) (t : Tok) : SoV h (.str s t) (.str s)
  | int (i : Int) (t : Tok) : SoV h (.int i t) (.int i)
  | row {a : Addr} {its : Array Value} {s : Str} {r : List D} : IsTup h a its → AtVs its.toList (.str s :: r) → SoV h (.ref a) (.tuple (.str s :: r))
theorem AtV.key {v : Value} {d : D} (h : AtV v d) : avK v = aK d := by cases h <;> rfl
theorem AtVs.keys : ∀ {vs : List Value} {ds : List D}, AtVs vs ds → vs.map avK = ds.map aK
  | _, _, .nil => rfl
  | _, _, .cons h t => by rw [List.map_cons, List.map_cons, h.key, t.keys]
theorem SoV.key {h : Heap} {v : Value} {d : D} (x : SoV h v d) : vK h v = dK d := by
  cases x with
  | str s t => rfl
  | int i t => rfl
  | row ht ha =>
    obtain ⟨o, ho, hc, n, hd⟩ := ht
    simp only [vK, ho, hd]
    exact ha.keys
theorem SoV.keep {h h' : Heap} {v : Value} {d : D} (x : SoV h v d) (k : ∀ b o, h.get? b = some o → o.cls = .type "tuple" → h'.get? b = some o) : SoV h' v d := by
  cases x with
  | str s t => exact .str s t
  | int i t => exact .int i t
  | row ht ha =>
    obtain ⟨o, ho, hc, r⟩ := ht
    exact .row ⟨o, k _ _ ho hc, hc, r⟩ ha
section
variable {prog : Program} {w : World} {A : Around} {E : Value → Shared → Prop} {s : Shared}
theorem ltL (a b : List Nat) : lexG ltI (a.map Int.ofNat) (b.map Int.ofNat) = decide (a < b) := by
  induction a generalizing b with
  | nil =>
    cases b with
    | nil => exact (decide_eq_false (by simp)).symm
    | cons b bs => exact (decide_eq_true (by simp)).symm
  | cons a as ih =>
    cases b with
    | nil => exact (decide_eq_false (by simp)).symm
    | cons b bs =>
      rw [List.map_cons, List.map_cons, lexG]
      by_cases e : a = b
      · subst e
        rw [if_pos rfl, ih]
        exact decide_eq_decide.mpr (by rw [List.cons_lt_cons_self])
      · rw [if_neg (fun z => e (Int.ofNat.inj z))]
        unfold ltI
        refine decide_eq_decide.mpr ?_
        rw [List.cons_lt_cons_iff]
        constructor
        · intro z
          exact .inl (Int.ofNat_lt.mp z)
        · rintro (z | ⟨z, _⟩)
          · exact Int.ofNat_lt.mpr z
          · exact absurd z e
theorem at_eq {u v : Value} {a b : D} (ha : AtV u a) (hb : AtV v b) : SeqAt.EqAt A s u v (decide (a = b)) := by
  cases ha with
  | non =>
    cases hb with
    | non => exact SeqAt.EqAt.same _
    | int i t => exact SeqAt.EqAt.none_int _ _
    | str x t => exact SeqAt.EqAt.none_str _ _
  | int i t =>
    cases hb with
    | non => exact SeqAt.EqAt.int_none _ _
    | int j u =>
      have := SeqAt.EqAt.int_int (A := A) (s := s) i t j u
      have e : (i == j) = decide (PyData.int i = .int j) := by
        by_cases h : i = j
        · subst h; rw [decide_eq_true rfl]; exact beq_self_eq_true i
        · rw [decide_eq_false (fun z => h (by injection z))]; exact beq_eq_false_iff_ne.mpr h
      rw [e] at this
      exact this
    | str x u => exact SeqAt.EqAt.int_str _ _ _ _
  | str x t =>
    cases hb with
    | non => exact SeqAt.EqAt.str_none _ _
    | int i u => exact SeqAt.EqAt.str_int _ _ _ _
    | str y u =>
      have := SeqAt.EqAt.str_str (A := A) (s := s) x t y u
      have e : (x == y) = decide (PyData.str x = .str y) := by
        by_cases h : x = y
        · subst h; rw [decide_eq_true rfl]; exact beq_self_eq_true x
        · rw [decide_eq_false (fun z => h (by injection z))]; exact beq_eq_false_iff_ne.mpr h
      rw [e] at this
      exact this
theorem ltK_int (i j : Int) : lexG ltI [1, i] [1, j] = decide (i < j) := by
  rw [lexG, if_pos rfl, lexG]
  by_cases e : i = j
  · subst e
    rw [if_pos rfl, decide_eq_false (Int.lt_irrefl i)]
    rfl
  · rw [if_neg e]
    rfl
/-- the first unlike place tells -/
theorem lex_rows {b : Bool} {Q : Bool → Shared → Prop} : ∀ {us vs : List Value} {as bs : List D} (i : Nat), AtVs us as → AtVs vs bs → cmpT as bs = true → (b = true → i = 0 → ∃ x y r q, as = .str x :: r ∧ bs = .str y :: q) →
    Q (lexG (lexG ltI) (as.map aK) (bs.map aK)) s → PySem.W.KatLex prog w A b (decide (us.length < vs.length)) Q (us.zip vs) i s
  | _, _, _, _, i, .nil, .nil, _, _, h => PySem.W.kat_nil h
  | _, _, _, _, i, .nil, .cons hb tb, _, _, h => by
    refine PySem.W.kat_nil ?_
    rw [decide_eq_true (by simp)]
    exact h
  | _, _, _, _, i, .cons ha ta, .nil, _, _, h => by
    refine PySem.W.kat_nil ?_
    rw [decide_eq_false (by simp)]
    exact h
  | _, _, _, _, i, @AtVs.cons u a us as ha ta, @AtVs.cons v b' vs bs hb tb, hc, h0, h => by
    have el : decide ((u :: us).length < (v :: vs).length) = decide (us.length < vs.length) := decide_eq_decide.mpr (by simp only [List.length_cons]; omega)
    rw [el]
    refine PySem.W.kat_cons (at_eq ha hb prog w _ _ ?_)
    rw [cmpT] at hc
    by_cases e : a = b'
    · rw [decide_eq_true e]
      rw [if_pos e] at hc
      refine PySem.W.kat_yes (lex_rows (i + 1) ta tb hc (fun _ z => by omega) ?_)
      rw [List.map_cons, List.map_cons, lexG, if_pos (by rw [e])] at h
      exact h
    · rw [decide_eq_false e]
      rw [if_neg e] at hc
      refine PySem.W.kat_no ?_
      rw [List.map_cons, List.map_cons, lexG] at h
      cases ha with
      | non => cases hb <;> cases hc
      | int x t =>
        cases hb with
        | int y t2 =>
          rw [if_neg (by intro z; simp only [aK] at z; injection z with _ z; injection z with z _; exact e (by rw [z]))] at h
          simp only [aK, ltK_int] at h
          cases hb0 : (b && i == 0) with
          | false => exact PySem.W.kat_one _ _ (PyProof.Rows.lt_int h)
          | true =>
            rw [Bool.and_eq_true, beq_iff_eq] at hb0
            obtain ⟨_, _, _, _, z, _⟩ := h0 hb0.1 hb0.2
            cases z
        | _ => cases hc
      | str x t =>
        cases hb with
        | str y t2 =>
          have ne : ¬ aK (.str x) = aK (.str y) := fun z => e (aK_inj rfl rfl z)
          rw [if_neg ne] at h
          simp only [aK] at h
          rw [lexG, if_pos rfl, ltL] at h
          cases hb0 : (b && i == 0) with
          | false => exact PySem.W.kat_one _ _ (PyProof.Rows.lt_str h)
          | true => exact PyProof.Rows.oneLt_str h
        | _ => cases hc
end
/-! ### sorted(xs) -/
theorem ltK_str (x y : Str) : ltK [aK (.str x)] [aK (.str y)] = decide (x.cps.toList < y.cps.toList) := by
  show lexG (lexG ltI) [aK (.str x)] [aK (.str y)] = _
  rw [lexG]
  by_cases e : aK (.str x) = aK (.str y)
  · have := aK_inj rfl rfl e
    injection this with this
    subst this
    rw [if_pos rfl, decide_eq_false (List.lt_irrefl _)]
    rfl
  · rw [if_neg e]
    simp only [aK]
    rw [lexG, if_pos rfl, ltL]
theorem ltK_int1 (x y : Int) : ltK [aK (.int x)] [aK (.int y)] = decide (x < y) := by
  show lexG (lexG ltI) [aK (.int x)] [aK (.int y)] = _
  rw [lexG]
  by_cases e : aK (.int x) = aK (.int y)
  · have := aK_inj rfl rfl e
    injection this with this
    subst this
    rw [if_pos rfl, decide_eq_false (Int.lt_irrefl _)]
    rfl
  · rw [if_neg e]
    simp only [aK, ltK_int]
section
variable {X : Cx} {pins : List (Addr × Obj)} {σ : St} {H G : Hp} {s : Shared}
theorem atV_of {v : V} {u : Value} {d : D} (r : Rp X.K G v d) (rv : RelV v u) (h : isAtom d = true) : AtV u d := by
  cases r with
  | non => cases rv; exact .non
  | int i => obtain ⟨t, rfl⟩ := rv; exact .int i t
  | str x => obtain ⟨t, rfl⟩ := rv; exact .str x t
  | _ => cases h
theorem atVs_of : ∀ {xs : List V} {us : List Value} {ds : List D}, RpA X.K G xs ds → Vals xs us → ds.all isAtom = true → AtVs us ds
  | _, _, _, .nil, .nil, _ => .nil
  | _, _, _, .cons r rs, .cons v vs, h => by
    rw [List.all_cons, Bool.and_eq_true] at h
    exact .cons (atV_of r v h.1) (atVs_of rs vs h.2)
theorem soV_of (I : Inv X pins σ H s) (sm : Same G H) {v : V} {u : Value} {d : D} (r : Rp X.K G v d) (rv : RelV v u) (h : isStr d = true ∨ isInt d = true ∨ isRowT d = true) : SoV s.heap u d := by
  rcases h with h | h | h
  · have := atV_of r rv (isAtom_str h)
    cases this with
    | str x t => exact .str x t
    | _ => cases h
  · have := atV_of r rv (isAtom_int h)
    cases this with
    | int x t => exact .int x t
    | _ => cases h
  · obtain ⟨x, q, rfl, hq⟩ := isRowT_of h
    cases r with
    | tup h1 h2 =>
      cases rv
      obtain ⟨its, r, ht, hz⟩ := I.tuple (Same.seqT sm h1)
      exact .row ht (by simpa using atVs_of h2 r (by rw [List.all_cons, hq]; rfl))
/-- items, their values, their data -/
structure Tri (X : Cx) (G : Hp) (h : Heap) (t : V × Value × D) : Prop where
  rp : Rp X.K G t.1 t.2.2
  rel : RelV t.1 t.2.1
  so : SoV h t.2.1 t.2.2
theorem tri_of (I : Inv X pins σ H s) (sm : Same G H) : ∀ {xs : List V} {us : List Value} {ds : List D}, RpA X.K G xs ds → Vals xs us → (∀ d ∈ ds, isStr d = true ∨ isInt d = true ∨ isRowT d = true) →
    ∃ T : List (V × Value × D), T.map (·.1) = xs ∧ T.map (·.2.1) = us ∧ T.map (·.2.2) = ds ∧ ∀ t ∈ T, Tri X G s.heap t
  | _, _, _, .nil, .nil, _ => ⟨[], rfl, rfl, rfl, fun t h => (nomatch h)⟩
  | _, _, _, @RpA.cons _ _ v _ d _ r rs, .cons rv rvs, h => by
    obtain ⟨T, a, b, c, e⟩ := tri_of I sm rs rvs fun d hd => h d (List.mem_cons_of_mem _ hd)
    refine ⟨(v, _, d) :: T, by rw [List.map_cons, a], by rw [List.map_cons, b], by rw [List.map_cons, c], fun t ht => ?_⟩
    rcases List.mem_cons.mp ht with rfl | q
    · exact ⟨r, rv, soV_of I sm r rv (h d List.mem_cons_self)⟩
    · exact e t q
theorem tri_rp : ∀ {T : List (V × Value × D)} {h : Heap}, (∀ t ∈ T, Tri X G h t) → RpA X.K G (T.map (·.1)) (T.map (·.2.2)) ∧ Vals (T.map (·.1)) (T.map (·.2.1))
  | [], _, _ => ⟨.nil, .nil⟩
  | t :: T, _, h => by
    obtain ⟨a, b⟩ := tri_rp fun t ht => h t (List.mem_cons_of_mem _ ht)
    have q := h t List.mem_cons_self
    exact ⟨.cons q.rp a, .cons q.rel b⟩
theorem Sort1.good {ds : List D} (h : Sort1 ds) : ∀ d ∈ ds, isStr d = true ∨ isInt d = true ∨ isRowT d = true := fun d hd => by
  cases h with
  | ofS h => exact .inl (h d hd)
  | ofI h => exact .inr (.inl (h d hd))
  | ofR h _ => exact .inr (.inr (h d hd))
theorem soV_kat {h : Heap} : ∀ {us : List Value}, (∀ u ∈ us, ∃ d, SoV h u d ∧ isRowT d = true) → ∃ fs, PySem.W.KatTups h us fs ∧ fs.length = us.length ∧ ∀ f ∈ fs, ∃ x t, f = Value.str x t
  | [], _ => ⟨[], True.intro, rfl, fun f hf => (nomatch hf)⟩
  | u :: us, hu => by
    obtain ⟨fs, a, b, c⟩ := soV_kat fun u hu' => hu u (List.mem_cons_of_mem _ hu')
    obtain ⟨d, h1, h2⟩ := hu u List.mem_cons_self
    cases h1 with
    | str x t => cases h2
    | int x t => cases h2
    | row ht ha =>
      rename_i ad its x r
      obtain ⟨o, ho, hc, n, hd⟩ := ht
      obtain ⟨its⟩ := its
      cases ha with
      | cons a1 a2 =>
        rename_i f fr
        cases a1 with
        | str _ t => exact ⟨Value.str x t :: fs, PySem.W.KatTups.cons ho hc hd (by simp) a, by rw [List.length_cons, List.length_cons, b], fun f hf => by
            rcases List.mem_cons.mp hf with rfl | q
            · exact ⟨_, _, rfl⟩
            · exact c f q⟩
theorem sortable {prog : Program} {w : World} {A : Around} {h₁ : Heap} {a : Addr} {T : List (V × Value × D)} (h : ∀ t ∈ T, Tri X G s.heap t) (so : Sort1 (T.map (·.2.2))) (h2 : 2 ≤ (T.map (·.2.1)).length) (ha : h₁.get? a = some (seqObj "list" (T.map (·.2.1)).toArray 0))
    (keep : ∀ b o, s.heap.get? b = some o → b ≠ a ∧ h₁.get? b = some o) : SrtO.SortableO prog w A { s with heap := h₁ } a (T.map (·.2.1)) fun v u => ltK (vK s.heap v) (vK s.heap u) := by
  intro h' hk
  have so' : ∀ t ∈ T, SoV h' t.2.1 t.2.2 := fun t ht => (h t ht).so.keep fun b o e c => hk b o (keep b o e).1 (keep b o e).2
  have find : ∀ u ∈ T.map (·.2.1), ∃ t ∈ T, t.2.1 = u := fun u hu => by
    obtain ⟨t, h1, h2⟩ := List.mem_map.mp hu
    exact ⟨t, h1, h2⟩
  have memd : ∀ t ∈ T, t.2.2 ∈ T.map (·.2.2) := fun t ht => List.mem_map.mpr ⟨t, ht, rfl⟩
  have key : ∀ t ∈ T, vK s.heap t.2.1 = dK t.2.2 := fun t ht => (h t ht).so.key
  cases so with
  | ofS hs =>
    refine ⟨oneType', fun Q E q => PySem.W.kas_kind (T := .type "str") h2 (fun v hv => ?_) (by decide) (by decide) q, fun p q hp hq => ?_⟩
    · obtain ⟨t, ht, rfl⟩ := find v hv
      have g := so' t ht
      have hd := hs _ (memd t ht)
      revert hd
      generalize t.2.1 = u1 at g ⊢
      generalize t.2.2 = a1 at g ⊢
      cases g with
      | str x t => exact fun _ => PySem.W.Looks.now
      | int x t => exact fun z => by cases z
      | row _ _ => exact fun z => by cases z
    · obtain ⟨t1, ht1, e1⟩ := find _ hp
      obtain ⟨t2, ht2, e2⟩ := find _ hq
      show wpAny (model prog w) A (keyLt' oneType' p.1 q.1) (fun r s' => s' = _ ∧ r = ltK (vK s.heap p.1) (vK s.heap q.1)) (fun _ _ => False) _
      rw [← e1, ← e2, key t1 ht1, key t2 ht2, keyLt'_oneType]
      have g1 := so' t1 ht1
      have g2 := so' t2 ht2
      have d1 := hs _ (memd t1 ht1)
      have d2 := hs _ (memd t2 ht2)
      revert d1 d2
      generalize t1.2.1 = u1 at g1 ⊢
      generalize t1.2.2 = a1 at g1 ⊢
      generalize t2.2.1 = u2 at g2 ⊢
      generalize t2.2.2 = a2 at g2 ⊢
      intro d1 d2
      cases g1 with
      | str x t =>
        cases g2 with
        | str y t' => exact PyProof.Rows.oneLt_str ⟨rfl, (ltK_str x y).symm⟩
        | int _ _ => cases d2
        | row _ _ => cases d2
      | int _ _ => cases d1
      | row _ _ => cases d1
  | ofI hs =>
    refine ⟨oneType', fun Q E q => PySem.W.kas_kind (T := .type "int") h2 (fun v hv => ?_) (by decide) (by decide) q, fun p q hp hq => ?_⟩
    · obtain ⟨t, ht, rfl⟩ := find v hv
      have g := so' t ht
      have hd := hs _ (memd t ht)
      revert hd
      generalize t.2.1 = u1 at g ⊢
      generalize t.2.2 = a1 at g ⊢
      cases g with
      | str x t => exact fun z => by cases z
      | int x t => exact fun _ => PySem.W.Looks.now
      | row _ _ => exact fun z => by cases z
    · obtain ⟨t1, ht1, e1⟩ := find _ hp
      obtain ⟨t2, ht2, e2⟩ := find _ hq
      show wpAny (model prog w) A (keyLt' oneType' p.1 q.1) (fun r s' => s' = _ ∧ r = ltK (vK s.heap p.1) (vK s.heap q.1)) (fun _ _ => False) _
      rw [← e1, ← e2, key t1 ht1, key t2 ht2, keyLt'_oneType]
      have g1 := so' t1 ht1
      have g2 := so' t2 ht2
      have d1 := hs _ (memd t1 ht1)
      have d2 := hs _ (memd t2 ht2)
      revert d1 d2
      generalize t1.2.1 = u1 at g1 ⊢
      generalize t1.2.2 = a1 at g1 ⊢
      generalize t2.2.1 = u2 at g2 ⊢
      generalize t2.2.2 = a2 at g2 ⊢
      intro d1 d2
      cases g1 with
      | int x t =>
        cases g2 with
        | int y t' => exact PyProof.Rows.oneLt_int ⟨rfl, (ltK_int1 x y).symm⟩
        | str _ _ => cases d2
        | row _ _ => cases d2
      | str _ _ => cases d1
      | row _ _ => cases d1
  | ofR hs hc =>
    obtain ⟨fs, f1, f2, f3⟩ := soV_kat (h := h') (us := T.map (·.2.1)) fun u hu => by
      obtain ⟨t, ht, rfl⟩ := find u hu
      exact ⟨_, so' t ht, hs _ (memd t ht)⟩
    refine ⟨tuples' true, fun Q E q => PySem.W.kat_kind (T := .type "str") f1 (by omega) (fun f hf => ?_) (by decide) ?_, fun p q hp hq => ?_⟩
    · obtain ⟨x, t, rfl⟩ := f3 f hf
      exact PySem.W.Looks.now
    · have e : (Value.type "str" != Value.type "tuple") = true := by decide
      rw [e]
      exact q
    · obtain ⟨t1, ht1, e1⟩ := find _ hp
      obtain ⟨t2, ht2, e2⟩ := find _ hq
      show wpAny (model prog w) A (keyLt' (tuples' true) p.1 q.1) (fun r s' => s' = _ ∧ r = ltK (vK s.heap p.1) (vK s.heap q.1)) (fun _ _ => False) _
      rw [← e1, ← e2, key t1 ht1, key t2 ht2]
      have g1 := so' t1 ht1
      have g2 := so' t2 ht2
      have d1 := hs _ (memd t1 ht1)
      have d2 := hs _ (memd t2 ht2)
      have d3 := hc _ (memd t1 ht1) _ (memd t2 ht2)
      revert d1 d2 d3
      generalize t1.2.1 = u1 at g1 ⊢
      generalize t1.2.2 = a1 at g1 ⊢
      generalize t2.2.1 = u2 at g2 ⊢
      generalize t2.2.2 = a2 at g2 ⊢
      intro d1 d2 d3
      cases g1 with
      | row k1 l1 =>
        cases g2 with
        | row k2 l2 =>
          obtain ⟨o1, ho1, _, n1, hd1⟩ := k1
          obtain ⟨o2, ho2, _, n2, hd2⟩ := k2
          refine PySem.W.kat_lt ho1 hd1 ho2 hd2 ?_
          have := lex_rows (prog := prog) (w := w) (A := A) (b := true) (s := { s with heap := h' }) (Q := fun r s' => s' = { s with heap := h' } ∧ r = ltK (dK (.tuple (.str _ :: _))) (dK (.tuple (.str _ :: _)))) 0 l1 l2 d3 (fun _ _ => ⟨_, _, _, _, rfl, rfl⟩) ⟨rfl, rfl⟩
          rw [Array.length_toList, Array.length_toList] at this
          exact this
        | str _ _ => cases d2
        | int _ _ => cases d2
      | str _ _ => cases d1
      | int _ _ => cases d1
def apSorted : List D → Option (D × Bool)
  | [.list ds] => if sortOk ds = true then some (.list (sortD ds), true) else none
  | _ => none
theorem o_sorted : CallR X (.builtin "sorted") (rBi X.K apSorted) := by
  intro pins s σ H vs us Q I r h
  obtain ⟨G, as, d, fr, sm, p, e, q⟩ := h
  unfold apSorted at e
  split at e
  · rename_i ds
    split at e
    · rename_i hok
      cases e
      obtain ⟨hlen, so⟩ := sortOk_of hok
      obtain ⟨x, rfl, ha⟩ := vp1 p
      obtain ⟨a, xs, rfl, h2, r'⟩ := ha.lst sm
      rw [Vals.ref1 r]
      obtain ⟨its, rv, pl, hz⟩ := I.list (SqL.of (K := X.K) h2)
      obtain ⟨T, t1, t2, t3, tt⟩ := tri_of I sm r' rv so.good
      subst t1 t2 t3
      have hl : (T.map (·.2.1)).length = (T.map (·.2.2)).length := by rw [List.length_map, List.length_map]
      refine SrtO.sorted_ord (vs := T.map (·.2.1)) (lin_k.swo (vK s.heap)) pl.isList (by rw [hl]; exact hlen) (fun h2 h₁ b hb keep => sortable tt so h2 hb keep) fun out hs hb => ?_
      obtain ⟨T', e1, e2⟩ := perm_lift hb.perm (t := T) rfl
      have tt' : ∀ t ∈ T', Tri X G s.heap t := fun t ht => tt t (e2.mem_iff.mp ht)
      obtain ⟨rr, vv⟩ := tri_rp tt'
      have es : T'.map (·.2.2) = sortD (T.map (·.2.2)) := by
        refine sortD_eq so (e2.map _) ?_
        rw [← e1] at hs
        have hs := List.pairwise_map.mp hs
        refine List.pairwise_map.mpr (hs.imp_of_mem fun {t u} ht hu g => ?_)
        have g : ltK (vK s.heap u.2.1) (vK s.heap t.2.1) = false := g
        rw [(tt' t ht).so.key, (tt' u hu).so.key] at g
        exact g
      rw [es] at rr
      subst e1
      obtain ⟨ep, he⟩ := PyProof.Rows.sortedAll_at s.heap (T.map (·.2.1)) (T'.map (·.2.1)).toArray
      have hlen2 : (T'.map (·.1)).length ≤ sizeLine := by rw [List.length_map, e2.length_eq, ← List.length_map (f := (·.2.2))]; exact hlen
      have hn : H (s.heap.objs.size + 1) = none := I.hok.fresh (Nat.le_succ _)
      exact ⟨.ref _, upd H (s.heap.objs.size + 1) (.lst (T'.map (·.1))), I.laid (t' := s.toks) (fun _ _ => PyProof.Rows.sortedAll_old) (Nat.le_succ _) ⟨hlen2, T'.map (·.2.1), ep, vv, he⟩, rfl, q _ _ _ (.lst sm hn rr)⟩
    · cases e
  · cases e
end
end EV
namespace EV
open PySem PySem.Spec L2
open PyProof.Rows hiding St

/-! ### sets of rows: tuples of things that are carried by value -/
section
variable {P : Program} {w : World} {κ : Type} [DecidableEq κ]
/-- what a search asks of the things in a row -/
structure Leafy (kn : KeyKind P w κ) : Prop where
  cl : ∀ {k : κ} {v : Value}, kn.is k v = true → ∀ n, ofAClassStatement n v = pure false
  hb : ∀ {k : κ} {v : Value}, kn.is k v = true → ∀ n, ∃ b, hashByValue n v = pure b
variable {kn : KeyKind P w κ} {A : Around} {E : Value → Shared → Prop} {s : Shared}
theorem items_each {k : List κ} {vs : List Value} (h : ItemsAre kn k vs) : ∀ v ∈ vs, ∃ i, kn.is i v = true := by
  induction h with
  | nil => exact fun v hv => nomatch hv
  | cons a _ ih => exact fun v hv => (List.mem_cons.mp hv).elim (fun e => ⟨_, e ▸ a⟩) (ih v)
theorem row_cl (lf : Leafy kn) {k : List κ} {b : Addr} {Q : Bool → Shared → Prop} (hk : IsTupleKey kn s.heap k b) (q : Q false s) : wpAny (model P w) A (ofAClassStatement 8 (.ref b)) Q E s := by
  have ty := hk.typeIs
  obtain ⟨o, its, n, e1, _, e2, e3⟩ := hk
  unfold ofAClassStatement
  refine wpAny_bind (wpAny_typeOf ty ?_)
  dsimp only
  rw [show (("tuple" : String) == "tuple") = true from by decide]
  simp only [if_true, Bool.not_true, Bool.false_eq_true, if_false]
  try refine wpAny_bind (wpAny_pure ?_)
  try simp only [Bool.not_true, Bool.false_eq_true, if_false]
  refine wpAny_bind (show wpAny _ _ (seqItems? (.ref b)) _ _ s from wpAny_seqItems e1 e2 ?_)
  dsimp only
  refine wpAny_bind (show wpAny _ _ (forIn its _ _) _ _ s from ?_)
  rw [← Array.forIn_toList]
  refine wpAny_forIn_list _ (fun rest r s1 => r.1 = none ∧ s1 = s ∧ ∀ v ∈ rest, ∃ i, kn.is i v = true) _ (fun v rest r s1 I => ?_) (fun r s1 I => ?_) _ _ ⟨rfl, rfl, items_each e3⟩
  · obtain ⟨_, rfl, al⟩ := I
    obtain ⟨i, hi⟩ := al v (List.mem_cons_self ..)
    rw [lf.cl hi]
    refine wpAny_bind (wpAny_pure ?_)
    simp only [Bool.false_eq_true, if_false]
    exact wpAny_pure ⟨rfl, rfl, fun u hu => al u (.tail _ hu)⟩
  · obtain ⟨z, rfl, _⟩ := I
    obtain ⟨r1, r2⟩ := r
    cases z
    exact wpAny_pure q
theorem row_hb (lf : Leafy kn) {k : List κ} {b : Addr} {Q : Bool → Shared → Prop} (hk : IsTupleKey kn s.heap k b) (q : ∀ c, Q c s) : wpAny (model P w) A (hashByValue 8 (.ref b)) Q E s := by
  have ty := hk.typeIs
  obtain ⟨o, its, n, e1, _, e2, e3⟩ := hk
  unfold hashByValue
  refine wpAny_bind (wpAny_specialOf ty F.slot_tuple_hash.lookup ?_)
  refine wpAny_bind (show wpAny _ _ (seqItems? (.ref b)) _ _ s from wpAny_seqItems e1 e2 ?_)
  refine wpAny_bind (show wpAny _ _ (forIn its _ _) _ _ s from ?_)
  rw [← Array.forIn_toList]
  refine wpAny_forIn_list _ (fun rest r s1 => s1 = s ∧ ∀ v ∈ rest, ∃ i, kn.is i v = true) _ (fun v rest r s1 I => ?_) (fun r s1 I => ?_) _ _ ⟨rfl, items_each e3⟩
  · obtain ⟨rfl, al⟩ := I
    obtain ⟨i, hi⟩ := al v (List.mem_cons_self ..)
    obtain ⟨c, e⟩ := lf.hb hi 7
    rw [e]
    refine wpAny_bind (wpAny_pure ?_)
    cases c
    · simp only [Bool.not_false, if_true]
      obtain ⟨r1, r2⟩ := r
      first
        | exact wpAny_pure ⟨rfl, fun u hu => al u (.tail _ hu)⟩
        | exact wpAny_pure (by cases r1 <;> exact wpAny_pure (q _))
        | skip
    · simp only [Bool.not_true, Bool.false_eq_true, if_false]
      exact wpAny_pure ⟨rfl, fun u hu => al u (.tail _ hu)⟩
  · obtain ⟨rfl, _⟩ := I
    obtain ⟨r1, r2⟩ := r
    cases r1 <;> exact wpAny_pure (q _)
theorem row_seen (lf : Leafy kn) {k : List κ} {b : Addr} {Q : Bool → Shared → Prop} (hk : IsTupleKey kn s.heap k b) {ys : List Value} (hy : ∀ y ∈ ys, ∃ j c, y = Value.ref c ∧ IsTupleKey kn s.heap j c) (q : Q false s) :
    wpAny (model P w) A (searchCouldBeSeen (.ref b) ys) Q E s := by
  unfold searchCouldBeSeen
  refine wpAny_bind ?_
  refine wpAny_forIn_list _ (fun rest r s1 => r.1 = none ∧ s1 = s ∧ ∀ y ∈ rest, ∃ j c, y = Value.ref c ∧ IsTupleKey kn s.heap j c) _ (fun v rest r s1 I => ?_) (fun r s1 I => ?_) _ _ ⟨rfl, rfl, hy⟩
  · obtain ⟨_, rfl, al⟩ := I
    obtain ⟨j, c, rfl, hc⟩ := al v (List.mem_cons_self ..)
    have al2 : ∀ y ∈ rest, ∃ j c, y = Value.ref c ∧ IsTupleKey kn s1.heap j c := fun u hu => al u (.tail _ hu)
    dsimp only
    refine wpAny_ite ?_
    split
    · exact wpAny_pure ⟨rfl, rfl, al2⟩
    · refine wpAny_bind (wpAny_eqIsQuiet_tuple hk ?_)
      simp only [Bool.not_true, Bool.false_eq_true, if_false]
      refine wpAny_bind (wpAny_eqIsQuiet_tuple hc ?_)
      simp only [Bool.not_true, Bool.false_eq_true, if_false]
      refine wpAny_bind (row_cl lf hk ?_)
      simp only [Bool.false_eq_true, if_false]
      refine wpAny_bind (row_cl lf hc ?_)
      simp only [Bool.false_eq_true, if_false]
      exact wpAny_pure ⟨rfl, rfl, al2⟩
  · obtain ⟨z, rfl, _⟩ := I
    obtain ⟨r1, r2⟩ := r
    cases z
    exact wpAny_pure q

/-- the set at a: its rows by their addresses and keys -/
def enOf (kn : KeyKind P w κ) (p : Addr × List κ) : Int × Value := (tupleKeyHash kn p.2, Value.ref p.1)
structure RowSet (kn : KeyKind P w κ) (h : Heap) (a : Addr) (L : List (Addr × List κ)) (es : Array (Int × Value)) (ep : Nat) (t : SetTable) : Prop where
  ob : ∃ o, h.get? a = some o ∧ o.ExactSet ∧ o.data = .set es ep t
  en : es.toList = L.map (enOf kn)
  tab : TabOk t (L.map fun p => tupleKeyHash kn p.2)
  nd : (L.map (·.2)).Nodup
  row : ∀ p ∈ L, IsTupleKey kn h p.2 p.1
  led : w.params.followText "set-order" = true ∨ t.led = true
  gap : L.length * 5 < t.mask * 3
  few : L.length < 64
variable {a : Addr} {L : List (Addr × List κ)} {es : Array (Int × Value)} {ep : Nat} {t : SetTable}
theorem en_size (h : es.toList = L.map (enOf kn)) : es.size = L.length := by
  rw [← Array.length_toList, h, List.length_map]
theorem en_at (h : es.toList = L.map (enOf kn)) {i : Nat} {p : Addr × List κ} (e : L[i]? = some p) : es[i]? = some (enOf kn p) := by
  rw [← Array.getElem?_toList, h, List.getElem?_map, e]
  rfl
theorem RowSet.fit (R : RowSet kn s.heap a L es ep t) : t.fits es.size = true := by
  have h1 : t.place.size = (L.map fun p => tupleKeyHash kn p.2).length := R.tab.sz
  have h2 := en_size R.en
  have h3 := R.gap
  rw [List.length_map] at h1
  unfold SetTable.fits SetTable.fill
  rw [R.tab.dm, Bool.and_eq_true, beq_iff_eq, decide_eq_true_eq]
  refine ⟨by omega, ?_⟩
  show t.place.size + 0 ≤ t.mask
  omega
theorem RowSet.here (R : RowSet kn s.heap a L es ep t) : ¬ t.gaveWay = true := by
  rw [SetTable.gaveWay, mask_odd R.tab.mok]
  decide
theorem nth_clean (m : Nat) : ∀ (n : Nat) (p : SetTable.Probe), p.dummy = none → (nth m p n).dummy = none
  | 0, _, h => h
  | n + 1, p, h => nth_clean m n (adv m p) (by unfold adv; split <;> exact h)
/-- where a search stands behind c steps -/
abbrev stp (t : SetTable) (h : Int) (c : Nat) : SetTable.Probe := nth t.mask (runAt t.mask (SetTable.bits h % (t.mask + 1)) (SetTable.bits h)) c
theorem stp_add {h : Int} {c q : Nat} : nth t.mask (stp t h c) q = stp t h (c + q) := (nth_add t.mask c _ q).symm
theorem stp_j {h : Int} {c : Nat} : (stp t h c).j = way t.mask h c := rfl
/-- the search for a row that may be there, from the c-th step on -/
theorem RowSet.look (lf : Leafy kn) (R : RowSet kn s.heap a L es ep t) {x : Addr} {k : List κ} (hx : IsTupleKey kn s.heap k x) (hu : A.units < cLine) {N : Nat} (n1 : N < 10 * SetTable.turns t.mask)
    (n2 : way t.mask (tupleKeyHash kn k) N ∉ t.place.toList) (n3 : ∀ c, c < N → way t.mask (tupleKeyHash kn k) c ∈ t.place.toList) {Q : SetFound → Shared → Prop}
    (yes : k ∈ L.map (·.2) → Q (.there none) s) (no : k ∉ L.map (·.2) → Q (.free (way t.mask (tupleKeyHash kn k) N) false) s) (f : Nat) :
    ∀ (c : Nat) (st : Option SetTable.Probe), st.getD (t.probeStart (tupleKeyHash kn k)) = stp t (tupleKeyHash kn k) c → c ≤ N → N - c < f →
      (∀ (i : Nat) p, L[i]? = some p → p.2 = k → ∃ d, c ≤ d ∧ d < N ∧ t.place.toList[i]? = some (way t.mask (tupleKeyHash kn k) d)) →
      wpAny (model P w) A (setSearchFrom a (.ref x) (tupleKeyHash kn k) true f st) Q E s := by
  obtain ⟨o, gO, _, gD⟩ := R.ob
  induction f with
  | zero => exact fun c st _ _ z => absurd z (Nat.not_lt_zero _)
  | succ f ih =>
    intro c st e0 c1 c2 c3
    rw [setSearchFrom_succ]
    refine wpAny_bind (wpAny_setState_of gO gD R.fit ?_)
    dsimp only
    refine wp_if_neg R.here ?_
    try refine wpAny_bind (wpAny_pure ?_)
    generalize hH : tupleKeyHash kn k = H at *
    have eN : c + (N - c) = N := by omega
    have cases2 := go_spec t R.tab.ris R.tab.dm (fun i => (es[i]?.map (·.1)).getD 0) H (10 * SetTable.turns t.mask) (N - c) (stp t H c) (nth_clean _ c _ rfl) (by omega)
      (fun q hq => by rw [stp_add, stp_j]; exact n3 (c + q) (by omega)) (by rw [stp_add, stp_j, eN]; exact n2)
    have hsh : ∀ (i : Nat) p, L[i]? = some p → (es[i]?.map (·.1)).getD 0 = tupleKeyHash kn p.2 := fun i p e => by rw [en_at R.en e]; rfl
    rcases cases2 with ⟨q, i, q1, q2, q3, q4, q5⟩ | ⟨q4, q5⟩
    · rw [stp_add, stp_j] at q2
      have pr : t.probe (fun i => (es[i]?.map (·.1)).getD 0) H (st.getD (t.probeStart H)) = some (.candidate (way t.mask H (c + q)) i (stp t H (c + (q + 1)))) := by
        rw [e0, ← stp_j, ← stp_add, ← stp_add]
        exact q5
      rw [pr]
      dsimp only
      have il : i < L.length := by
        have z1 := (List.getElem?_eq_some_iff.mp q2).1
        have z2 : t.place.size = (L.map fun p => tupleKeyHash kn p.2).length := R.tab.sz
        rw [List.length_map] at z2
        rw [Array.length_toList] at z1
        omega
      obtain ⟨p, hp⟩ : ∃ p, L[i]? = some p := ⟨_, List.getElem?_eq_getElem il⟩
      have pm : p ∈ L := List.mem_of_getElem? hp
      have tail : wpAny (model P w) A (searchRest a (.ref x) H true f es t (way t.mask H (c + q)) i (stp t H (c + (q + 1)))) Q E s := by
        unfold searchRest
        rw [en_at R.en hp]
        dsimp only [enOf]
        refine wpAny_bind (wpAny_holding (wpAny_eqBool_tuple hu (R.row p pm) hx ?_))
        refine wpAny_bind (wpAny_setState_of gO gD R.fit ?_)
        dsimp only
        by_cases ek : p.2 = k
        · refine wp_if_pos (by rw [decide_eq_true ek]; rfl) ?_
          exact wpAny_pure (yes (List.mem_map.mpr ⟨p, pm, ek⟩))
        · refine wp_if_neg (by rw [decide_eq_false ek]; decide) ?_
          try refine wpAny_bind (wpAny_pure ?_)
          rw [sameMem]
          dsimp only
          have live : t.slot (way t.mask H (c + q)) = .live i := slot_live R.tab.ris q2
          simp only [if_true, live, en_at R.en hp, enOf]
          refine wpAny_bind (wpAny_isSame_ref_self (wpAny_bind (wpAny_pure ?_)))
          simp only [if_true]
          refine wp_if_neg (by rw [decide_eq_false ek]; decide) ?_
          refine ih (c + (q + 1)) _ rfl (by omega) (by omega) fun i' p' z1 z2 => ?_
          obtain ⟨d, d1, d2, d3⟩ := c3 i' p' z1 z2
          refine ⟨d, ?_, d2, d3⟩
          by_cases dlt : d < c + q
          · refine absurd ?_ (q4 (d - c) i' (by omega) (by rw [stp_add, stp_j, show c + (d - c) = d by omega]; exact d3))
            rw [hsh _ _ z1, z2, hH]
          · by_cases deq : d = c + q
            · exfalso
              rw [deq] at d3
              have l2 := slot_live R.tab.ris d3
              rw [live] at l2
              injection l2 with l2
              rw [← l2, hp] at z1
              exact ek (by cases z1; exact z2)
            · omega
      by_cases hl : t.led = true
      · refine wp_if_neg (by rw [hl]; decide) ?_
        try refine wpAny_bind (wpAny_pure ?_)
        exact tail
      · refine wp_if_pos (by cases h : t.led <;> first | rfl | exact absurd h hl) ?_
        refine wpAny_bind (row_seen lf hx (fun y hy => ?_) ?_)
        · obtain ⟨e, h1, rfl⟩ := List.mem_map.mp hy
          have h2 : e ∈ es.toList := by
            have : e ∈ es ∧ e.1 = H := by simpa using h1
            exact Array.mem_toList_iff.mpr this.1
          rw [R.en] at h2
          obtain ⟨p2, h3, rfl⟩ := List.mem_map.mp h2
          exact ⟨p2.2, p2.1, rfl, R.row p2 h3⟩
        · refine wp_if_neg (by decide) ?_
          try refine wpAny_bind (wpAny_pure ?_)
          exact tail
    · have pr : t.probe (fun i => (es[i]?.map (·.1)).getD 0) H (st.getD (t.probeStart H)) = some (.empty (way t.mask H N) none) := by
        rw [e0]
        refine q5.trans ?_
        rw [stp_add, stp_j, eN]
      rw [pr]
      dsimp only
      refine wpAny_pure (no fun hm => ?_)
      obtain ⟨p, pm, ek⟩ := List.mem_map.mp hm
      obtain ⟨i, il, ei⟩ := List.getElem_of_mem pm
      have hp : L[i]? = some p := by rw [List.getElem?_eq_getElem il, ei]
      obtain ⟨d, d1, d2, d3⟩ := c3 i p hp ek
      refine absurd ?_ (q4 (d - c) i (by omega) (by rw [stp_add, stp_j, show c + (d - c) = d by omega]; exact d3))
      rw [hsh _ _ hp, ek, hH]
theorem RowSet.seek (lf : Leafy kn) (R : RowSet kn s.heap a L es ep t) {x : Addr} {k : List κ} (hx : IsTupleKey kn s.heap k x) (hu : A.units < cLine) {Q : SetFound → Shared → Prop} (yes : k ∈ L.map (·.2) → Q (.there none) s)
    (no : ∀ N, k ∉ L.map (·.2) → way t.mask (tupleKeyHash kn k) N ∉ t.place.toList → (∀ c, c < N → way t.mask (tupleKeyHash kn k) c ∈ t.place.toList) → Q (.free (way t.mask (tupleKeyHash kn k) N) false) s) :
    wpAny (model P w) A (setSearch a (.ref x) (tupleKeyHash kn k) true) Q E s := by
  have g := R.gap
  obtain ⟨N, n1, n2, n3⟩ := R.tab.first (by rw [List.length_map]; omega) (tupleKeyHash kn k)
  have big : 10 * SetTable.turns t.mask ≤ 1420 := by
    unfold SetTable.turns
    rcases R.tab.mok with e | e | e <;> omega
  unfold setSearch
  refine R.look lf hx hu n1 n2 n3 yes (fun z => no N z n2 n3) 100000 0 none rfl (Nat.zero_le _) (by omega) fun i p hp ek => ?_
  have z1 : (L.map fun p => tupleKeyHash kn p.2)[i]? = some (tupleKeyHash kn k) := by rw [List.getElem?_map, hp, ← ek]; rfl
  have z2 : t.place.size = (L.map fun p => tupleKeyHash kn p.2).length := R.tab.sz
  rw [List.length_map] at z2
  have il : i < t.place.toList.length := by
    have := (List.getElem?_eq_some_iff.mp hp).1
    rw [Array.length_toList]
    omega
  obtain ⟨d, d1, d2⟩ := R.tab.before n2 z1 (List.getElem?_eq_getElem il)
  exact ⟨d, Nat.zero_le _, d1, by rw [List.getElem?_eq_getElem il, d2]⟩

/-! ### adding -/
theorem row_apart {h h' : Heap} {k : List κ} {b : Addr} {o : Obj} (hb : IsTupleKey kn h k b) (gO : h.get? a = some o) (gD : o.data = .set es ep t) (sb : Heap.SameBut a h h') : IsTupleKey kn h' k b := by
  obtain ⟨o2, its, n, e1, e2, e3, e4⟩ := hb
  refine ⟨o2, its, n, (sb.2 b fun z => ?_).trans e1, e2, e3, e4⟩
  rw [z, gO] at e1
  cases e1
  rw [gD] at e3
  cases e3
theorem row_stay {h h' : Heap} {k : List κ} {b : Addr} (hb : IsTupleKey kn h k b) (kp : ∀ c o, h.get? c = some o → h'.get? c = some o) : IsTupleKey kn h' k b := by
  obtain ⟨o2, its, n, e1, r⟩ := hb
  exact ⟨o2, its, n, kp b o2 e1, r⟩
theorem RowSet.stay {h h' : Heap} (R : RowSet kn h a L es ep t) (ha : ∀ o, h.get? a = some o → h'.get? a = some o) (hr : ∀ p ∈ L, IsTupleKey kn h' p.2 p.1) : RowSet kn h' a L es ep t :=
  let ⟨o, e, r⟩ := R.ob
  ⟨⟨o, ha o e, r⟩, R.en, R.tab, R.nd, hr, R.led, R.gap, R.few⟩
/-- the entries in the order of another table -/
theorem en_order (hr : es.toList = L.map (enOf kn)) {order : Array Nat} (hp : order.toList.Perm (List.range L.length)) :
    ∃ M : List (Addr × List κ), (order.filterMap (es[·]?)).toList = M.map (enOf kn) ∧ M.Perm L ∧ (M.map fun p => tupleKeyHash kn p.2) = order.toList.map fun i => (es.map (·.1)).getD i 0 := by
  refine ⟨order.toList.filterMap fun i => L[i]?, ?_, ?_, ?_⟩
  · rw [Array.toList_filterMap]
    have : (fun i : Nat => es[i]?) = fun i => (L[i]?).map (enOf kn) := funext fun i => by rw [← Array.getElem?_toList, hr, List.getElem?_map]
    rw [this, ← List.map_filterMap]
  · refine (hp.filterMap fun i => L[i]?).trans ?_
    have full : ∀ M : List (Addr × List κ), (List.range M.length).filterMap (fun i => M[i]?) = M := fun M => by
      have : (List.range M.length).filterMap (fun i => M[i]?) = ((List.range M.length).map fun i => M[i]?).filterMap id := by rw [List.filterMap_map]; rfl
      rw [this]
      have : ((List.range M.length).map fun i => M[i]?) = M.map some := by
        refine List.ext_getElem (by simp) fun i h1 h2 => ?_
        simp at h1 ⊢
      rw [this, List.filterMap_map]
      exact List.filterMap_some
    rw [full]
  · have within : ∀ i ∈ order.toList, i < L.length := fun i hi => List.mem_range.mp (hp.mem_iff.mp hi)
    revert within
    generalize order.toList = l
    intro within
    induction l with
    | nil => rfl
    | cons i l ih =>
      have il := within i (List.mem_cons_self ..)
      rw [List.filterMap_cons_some (List.getElem?_eq_getElem il), List.map_cons, List.map_cons, ih fun j hj => within j (.tail _ hj)]
      have e1 : (es.map (·.1))[i]? = some (tupleKeyHash kn (L[i]).2) := by rw [Array.getElem?_map, en_at hr (List.getElem?_eq_getElem il)]; rfl
      rw [Array.getD_eq_getD_getElem?, e1]
      rfl
theorem insP {α : Type} (l : List α) (p : Nat) (x : α) : (l.take p ++ x :: l.drop p).Perm (x :: l) := by
  have := (List.perm_middle : (l.take p ++ x :: l.drop p).Perm (x :: (l.take p ++ l.drop p)))
  rwa [List.take_append_drop] at this
theorem upd_at {h : Heap} {o : Obj} {es' : Array (Int × Value)} {t' : SetTable} (gO : h.get? a = some o) (gD : o.data = .set es ep t) : (h.update a (Obj.putSet es' t')).get? a = some { o with data := .set es' (ep + 1) t' } := store_at gO gD
/-- a table laid anew -/
theorem relay_rows {o : Obj} (gO : s.heap.get? a = some o) (gX : o.ExactSet) (gD : o.data = .set es ep t) (en : es.toList = L.map (enOf kn)) (psz : t.place.size = es.size) (dm : t.dummies = #[]) (wide : es.size ≤ t.mask)
    (nd : (L.map (·.2)).Nodup) (row : ∀ p ∈ L, IsTupleKey kn s.heap p.2 p.1) (led : w.params.followText "set-order" = true ∨ t.led = true) (few : L.length < 64) {want M : Nat}
    (w1 : SetTable.sizeAbove want - 1 = M) (w2 : MaskOk M) (w3 : SetTable.sizeAbove want ≤ 128) (w4 : L.length * 5 < M * 3) {Q : Unit → Shared → Prop}
    (q : ∀ h' L' es' ep' t', Heap.SameBut a s.heap h' → RowSet kn h' a L' es' ep' t' → L'.Perm L → Q () { s with heap := h' }) : wpAny (model P w) A (setRelay a want) Q E s := by
  have sz := en_size en
  have fit : t.fits es.size = true := by
    unfold SetTable.fits SetTable.fill
    rw [dm, Bool.and_eq_true, beq_iff_eq, decide_eq_true_eq]
    refine ⟨psz, ?_⟩
    show t.place.size + 0 ≤ t.mask
    omega
  obtain ⟨t2, order, e, hp, T, em, el, _, ed⟩ := relaid_ok t (hs := es.map (·.1)) (wanted := want) w1 w2 (by rw [Array.size_map, sz]; omega)
  rw [Array.size_map, sz] at hp
  obtain ⟨M2, m1, m2, m3⟩ := en_order en hp
  rw [← m3] at T
  have sz2 : (order.filterMap (es[·]?)).size = es.size := by rw [en_size m1, m2.length_eq, sz]
  rw [setRelay_eq]
  refine wpAny_bind (wpAny_setState_of gO gD fit ?_)
  dsimp only
  refine wp_if_neg (by rw [sizeLine_eq]; omega) ?_
  try refine wpAny_bind (wpAny_pure ?_)
  rw [e]
  dsimp only
  refine wpAny_bind ?_
  refine wp_if_neg (by rw [sz2]; simp) ?_
  try refine wpAny_bind (wpAny_pure ?_)
  refine wpAny_pure ?_
  dsimp only
  refine wpAny_storeSet_of gO gD ?_ (by rw [sz2, sz, sizeLine_eq]; omega)
  have sb : Heap.SameBut a s.heap (s.heap.update a (Obj.putSet (order.filterMap (es[·]?)) t2)) := Heap.SameBut.update ..
  refine q _ M2 _ (ep + 1) t2 sb ⟨⟨_, upd_at gO gD, ⟨gX.1, gX.2.1, gX.2.2⟩, rfl⟩, m1, T, (m2.map (·.2)).nodup_iff.mpr nd, fun p pm => row_apart (row p (m2.mem_iff.mp pm)) gO gD sb, by rw [el]; exact led, ?_, by rw [m2.length_eq]; exact few⟩ m2
  rw [m2.length_eq, em]
  exact w4
theorem TabOk.plainly {hs : List Int} {c : Bool} (T : TabOk t hs) : TabOk (if c = true then t else { t with plain := false }) hs := by
  cases c
  · obtain ⟨a1, a2, a3, a4, a5, a6⟩ := T
    exact ⟨a1, a2, a3, a4, a5, a6⟩
  · exact T
/-- a row is put to the set -/
theorem RowSet.add (lf : Leafy kn) (R : RowSet kn s.heap a L es ep t) {x : Addr} {k : List κ} (hx : IsTupleKey kn s.heap k x) (hu : A.units < cLine) (few : L.length + 1 < 64) {Q : Bool → Shared → Prop}
    (q : ∀ b h' L' es' ep' t', Heap.SameBut a s.heap h' → RowSet kn h' a L' es' ep' t' → (k ∈ L.map (·.2) → L' = L) → (k ∉ L.map (·.2) → L'.Perm ((x, k) :: L)) → Q b { s with heap := h' }) :
    wpAny (model P w) A (setAddHashed a (.ref x) (tupleKeyHash kn k)) Q E s := by
  obtain ⟨o, gO, gX, gD⟩ := R.ob
  have sz := en_size R.en
  have gap := R.gap
  unfold setAddHashed
  refine wpAny_holding ?_
  rw [show (100000 : Nat) = 99999 + 1 from rfl, setAddHashedIn_succ]
  refine wpAny_bind (wpAny_setState_of gO gD R.fit ?_)
  dsimp only
  refine wp_if_neg (by rw [byScan, show (Value.ref x).scannable = false from rfl, Bool.false_and, Bool.false_and]; decide) ?_
  try refine wpAny_bind (wpAny_pure ?_)
  refine wpAny_bind (R.seek lf hx hu (fun hm => ?_) fun N hm n2 n3 => ?_)
  · dsimp only
    exact wpAny_pure (q false s.heap L es ep t (Heap.SameBut.refl a s.heap) R (fun _ => rfl) fun z => absurd hm z)
  · dsimp only
    refine wpAny_bind (wpAny_setState_of gO gD R.fit ?_)
    dsimp only
    obtain ⟨q1, q2, q3, q4, q5, q6, q7, q8, q9⟩ := R.tab.put n2 n3
    generalize hpt : t.put (way t.mask (tupleKeyHash kn k) N) = pt at q1 q3 q4 q5 q6 q7 q8 q9 ⊢
    obtain ⟨t1, pl⟩ := pt
    dsimp only at q1 q3 q4 q5 q6 q7 q8 q9 ⊢
    subst q1
    generalize SetTable.below t.place (way t.mask (tupleKeyHash kn k) N) = pl at q2 q3 ⊢
    have pm := insP L pl (x, k)
    have hen : (SetTable.insertAt es pl (tupleKeyHash kn k, Value.ref x)).toList = (L.take pl ++ (x, k) :: L.drop pl).map (enOf kn) := by
      rw [SetTable.toList_insertAt, R.en, List.map_append, List.map_cons, List.map_take, List.map_drop]
      rfl
    have q3 : TabOk t1 ((L.take pl ++ (x, k) :: L.drop pl).map fun p => tupleKeyHash kn p.2) := by
      rw [List.map_append, List.map_cons, List.map_take, List.map_drop]
      exact q3
    generalize L.take pl ++ (x, k) :: L.drop pl = L1 at pm hen q3
    generalize SetTable.insertAt es pl (tupleKeyHash kn k, Value.ref x) = es1 at hen ⊢
    have len1 : L1.length = L.length + 1 := pm.length_eq
    have sz1 := en_size hen
    have nd1 : (L1.map (·.2)).Nodup := (pm.map (·.2)).nodup_iff.mpr (List.nodup_cons.mpr ⟨hm, R.nd⟩)
    have rest : ∀ c : Bool, wpAny (model P w) A (do
        storeSet a es1 (if c = true then t1 else { t1 with plain := false })
        if (!false && (if c = true then t1 else { t1 with plain := false }).tooFull) = true then setRelay a (SetTable.grown (es.size + 1)); pure true else pure true) Q E s := fun c => by
      have q3' : TabOk (if c = true then t1 else { t1 with plain := false }) _ := TabOk.plainly (c := c) q3
      have q4' : (if c = true then t1 else { t1 with plain := false }).mask = t.mask := by cases c <;> exact q4
      have q5' : (if c = true then t1 else { t1 with plain := false }).led = t.led := by cases c <;> exact q5
      have q9' : (if c = true then t1 else { t1 with plain := false }).fill = t1.fill := by cases c <;> rfl
      generalize (if c = true then t1 else { t1 with plain := false } : SetTable) = t3 at q3' q4' q5' q9' ⊢
      rw [q9] at q9'
      refine wpAny_bind (wpAny_storeSet_of gO gD ?_ (by rw [sz1, len1, sizeLine_eq]; omega))
      have sb : Heap.SameBut a s.heap (s.heap.update a (Obj.putSet es1 t3)) := Heap.SameBut.update ..
      have g1 := upd_at (es' := es1) (t' := t3) gO gD
      generalize s.heap.update a (Obj.putSet es1 t3) = h1 at sb g1 ⊢
      have row1 : ∀ p ∈ L1, IsTupleKey kn h1 p.2 p.1 := fun p hp => by
        rcases List.mem_cons.mp (pm.mem_iff.mp hp) with rfl | z
        · exact row_apart hx gO gD sb
        · exact row_apart (R.row p z) gO gD sb
      have led1 : w.params.followText "set-order" = true ∨ t3.led = true := by rw [q5']; exact R.led
      rw [List.length_map] at q9'
      by_cases full : t3.tooFull = true
      · refine wp_if_pos (by rw [full]; rfl) ?_
        have hf : (L.length + 1) * 5 ≥ t3.mask * 3 := by
          have z := full
          unfold SetTable.tooFull at z
          rw [decide_eq_true_eq, q9'] at z
          omega
        rw [sz]
        have psz1 : t3.place.size = es1.size := by
          have z : t3.place.size = (L1.map fun p => tupleKeyHash kn p.2).length := q3'.sz
          rw [z, List.length_map, sz1]
        have go : ∀ M, SetTable.sizeAbove (SetTable.grown (L.length + 1)) - 1 = M → MaskOk M → SetTable.sizeAbove (SetTable.grown (L.length + 1)) ≤ 128 → (L.length + 1) * 5 < M * 3 → L1.length ≤ t3.mask →
            wpAny (model P w) A (do setRelay a (SetTable.grown (L.length + 1)); pure true) Q E { s with heap := h1 } := fun M w1 w2 w3 w4 w5 => by
          refine wpAny_bind (relay_rows (s := { s with heap := h1 }) g1 ⟨gX.1, gX.2.1, gX.2.2⟩ rfl hen psz1 q3'.dm (by rw [sz1]; exact w5) nd1 row1 led1 (by rw [len1]; exact few) w1 w2 w3 (by rw [len1]; exact w4) ?_)
          intro h2 L2 es2 ep2 t2 sb2 R2 pm2
          exact wpAny_pure (q true h2 L2 es2 ep2 t2 (sb.trans sb2) R2 (fun z => absurd z hm) fun _ => pm2.trans pm)
        rcases R.tab.mok with e | e | e
        · have l4 : L.length = 4 := by omega
          exact go 31 (by rw [l4, size_20]) (.inr (.inl rfl)) (by rw [l4, size_20]; decide) (by omega) (by omega)
        · have l18 : L.length = 18 := by omega
          exact go 127 (by rw [l18, size_76]) (.inr (.inr rfl)) (by rw [l18, size_76]; decide) (by omega) (by omega)
        · exfalso; omega
      · refine wp_if_neg (by rw [Bool.not_eq_true] at full; rw [full]; decide) ?_
        refine wpAny_pure (q true h1 L1 es1 (ep + 1) t3 sb ⟨⟨_, g1, ⟨gX.1, gX.2.1, gX.2.2⟩, rfl⟩, hen, q3', nd1, row1, led1, ?_, by rw [len1]; exact few⟩ (fun z => absurd z hm) fun _ => pm)
        have z := full
        unfold SetTable.tooFull at z
        rw [decide_eq_true_eq, q9'] at z
        omega
    by_cases pln : t1.plain = true
    · first
        | (refine wpAny_bind (wp_if_pos pln (row_hb lf hx fun c => rest c)))
        | (refine wp_if_pos pln (wpAny_bind (row_hb lf hx fun c => rest c)))
    · first
        | (refine wpAny_bind (wp_if_neg pln (wpAny_pure (rest true))))
        | (refine wp_if_neg pln (wpAny_bind (wpAny_pure (rest true))))
        | (refine wp_if_neg pln (rest true))

/-! ### set(..) of a list or a tuple of rows -/
/-- L holds the rows of ks, each key once -/
structure Same1 (ks L : List (Addr × List κ)) : Prop where
  sub : ∀ p ∈ L, p ∈ ks
  all : ∀ p ∈ ks, p.2 ∈ L.map (·.2)
  len : L.length ≤ ks.length
theorem Same1.grow {ks L L' : List (Addr × List κ)} {x : Addr × List κ} (g : Same1 ks L) (c1 : x.2 ∈ L.map (·.2) → L' = L) (c2 : x.2 ∉ L.map (·.2) → L'.Perm (x :: L)) : Same1 (ks ++ [x]) L' := by
  by_cases c : x.2 ∈ L.map (·.2)
  · rw [c1 c]
    refine ⟨fun p hp => List.mem_append_left _ (g.sub p hp), fun p hp => ?_, by have := g.len; rw [List.length_append]; omega⟩
    rcases List.mem_append.mp hp with z | z
    · exact g.all p z
    · rw [List.mem_singleton.mp z]; exact c
  · have pm := c2 c
    refine ⟨fun p hp => ?_, fun p hp => ?_, ?_⟩
    · rcases List.mem_cons.mp (pm.mem_iff.mp hp) with rfl | z
      · exact List.mem_append_right _ (List.mem_singleton.mpr rfl)
      · exact List.mem_append_left _ (g.sub p z)
    · rw [(pm.map (·.2)).mem_iff, List.map_cons]
      rcases List.mem_append.mp hp with z | z
      · exact .tail _ (g.all p z)
      · rw [List.mem_singleton.mp z]; exact List.mem_cons_self ..
    · have := g.len
      rw [pm.length_eq, List.length_append, List.length_cons]
      show L.length + 1 ≤ ks.length + 1
      omega
def newSetO (w : World) : Obj := { cls := .type "set", dict := none, data := .set #[] 0 (.fresh 0 0 (!w.params.followText "set-order")) }
theorem RowSet.fresh {h : Heap} (e : h.get? a = some (newSetO w)) : RowSet kn h a [] #[] 0 (.fresh 0 0 (!w.params.followText "set-order")) := by
  refine ⟨⟨_, e, ⟨rfl, rfl, rfl⟩, rfl⟩, rfl, ⟨List.Pairwise.nil, rfl, rfl, .inl rfl, fun x hx => (nomatch hx), fun i h j hi => (by simp at hi)⟩, List.nodup_nil, fun p hp => (nomatch hp), ?_, by show 0 * 5 < 7 * 3; decide, by show 0 < 64; decide⟩
  show _ ∨ (!w.params.followText "set-order") = true
  cases w.params.followText "set-order"
  · exact .inr rfl
  · exact .inl rfl
/-- what holds while rows are put to the set at S, from the heap h0 on -/
structure Puts (kn : KeyKind P w κ) (h0 : Heap) (S : Addr) (ks : List (Addr × List κ)) (h : Heap) : Prop where
  kp : ∀ b o, h0.get? b = some o → h.get? b = some o
  st : ∃ L es ep t, RowSet kn h S L es ep t ∧ Same1 ks L
/-- T ks h: what holds of the heap behind ks, put to the set at S, from the heap h0 on -/
structure PutInv (P : Program) (w : World) (A : Around) (S : Addr) {α : Type} (vof : α → Value) (T : List α → Heap → Prop) (h0 : Heap) (ks : List α) : Prop where
  e0 : h0.get? S = none
  stay : ∀ (i : Nat) (h h' : Heap), (∀ b o, h0.get? b = some o → h'.get? b = some o) → (∀ o, h.get? S = some o → h'.get? S = some o) → T (ks.take i) h → T (ks.take i) h'
  kp : ∀ (i : Nat) h, T (ks.take i) h → ∀ b o, h0.get? b = some o → h.get? b = some o
  add : ∀ (i : Nat) p (s : Shared) (Q : Bool → Shared → Prop) (E : Value → Shared → Prop), ks[i]? = some p → T (ks.take i) s.heap →
    (∀ b h' tk, s.toks ≤ tk → Heap.SameBut S s.heap h' → T (ks.take (i + 1)) h' → Q b { s with heap := h', toks := tk }) → wpAny (model P w) A (setAdd S (vof p)) Q E s
theorem upd_loop {α : Type} {vof : α → Value} {T : List α → Heap → Prop} {h0 : Heap} {ks : List α} {S : Addr} (U : PutInv P w A.in1 S vof T h0 ks) {I : Addr} {fp wr : List Addr} {G : Array GenState → Array GenState → Prop} {n : Nat} {Pv : Nat → Value → Prop} {St : Nat → Shared → Prop} {R : Result → Shared → Prop}
    (W : WalksS P w A.in1 I fp wr G n Pv St) (nS : S ∉ fp) (hn : ks.length = n) (val : ∀ i v, Pv i v → ∃ p, ks[i]? = some p ∧ v = vof p) (ew : ∀ b ∈ wr, h0.get? b = none) :
    ∀ (m i : Nat) (s : Shared), n - i = m → i ≤ n → St i s → T (ks.take i) s.heap →
      (∀ s', Moved (S :: wr) G s s' → T ks s'.heap → R (.ok (.ret .none)) s') → codeAny (model P w) A (.builtin "set.update.loop" ⟨[.ref S, .ref I], []⟩) R s := by
  have wS : S ∉ wr := fun h => nS (W.sub _ h)
  have wid : ∀ b ∈ wr, b ∈ S :: wr := fun b hb => .tail _ hb
  have move : ∀ {s s' : Shared} {i : Nat}, Moved wr G s s' → T (ks.take i) s.heap → T (ks.take i) s'.heap := fun {s s' i} mv p =>
    U.stay i _ _ (fun b o e => mv.heap b o (fun hb => by rw [ew b hb] at e; cases e) (U.kp i _ p b o e)) (fun o e => mv.heap S o wS e) p
  intro m
  induction m with
  | zero =>
    intro i s hm hi st p k
    have hin : i = n := by omega
    subst hin
    refine codeAny_builtin F.entry_set_update_loop ?_
    rw [Around.under_plainId F.plain_set_update_loop _]
    refine wpAny_bind (show wpAny _ A.in1 (pyNext (.ref I)) _ _ s from W.done s _ _ st fun s' mv => ?_)
    have p2 := move mv p
    rw [← hn, List.take_length] at p2
    exact (show wpAny _ A.in1 (ret Value.none) _ _ s' from wpAny_pure (k s' (mv.mono wid) p2))
  | succ m ih =>
    intro i s hm hi st p k
    have lt : i < n := by omega
    refine codeAny_builtin F.entry_set_update_loop ?_
    rw [Around.under_plainId F.plain_set_update_loop _]
    refine wpAny_bind (show wpAny _ A.in1 (pyNext (.ref I)) _ _ s from W.item i s _ _ lt st fun v s' hv st' mv => ?_)
    obtain ⟨x, hx, rfl⟩ := val i v hv
    have p2 := move mv p
    refine wpAny_bind (show wpAny _ A.in1 (holding [vof x] (setAdd S (vof x))) _ _ s' from wpAny_holding ?_)
    refine U.add i x s' _ _ hx p2 fun b h' tk lk sb p3 => ?_
    refine wpAny_pure ⟨plainId_quiet F.plain_set_update_loop _, ih (i + 1) _ (by omega) lt (W.frame _ s' _ _ st' lk fun b hb o e => ?_) p3 fun s2 mv2 p4 => k s2 ?_ p4⟩
    · rw [sb.2 b (fun z : b = S => nS (z ▸ hb))]; exact e
    · refine Moved.trans W.gtrans ((mv.mono wid).then_heap lk fun b o hb e => ?_) mv2
      rw [sb.2 b (fun z : b = S => hb (z ▸ List.mem_cons_self ..))]; exact e
theorem rows_put (lf : Leafy kn) {h0 : Heap} {S : Addr} {ks : List (Addr × List κ)} (e0 : h0.get? S = none) (row : ∀ p ∈ ks, IsTupleKey kn h0 p.2 p.1) (few : ks.length < 64) (hu : A.units < cLine) :
    PutInv P w A S (fun p : Addr × List κ => Value.ref p.1) (fun ks h => Puts kn h0 S ks h) h0 ks := by
  refine ⟨e0, fun i h h' kp kS p => ?_, fun i h p => p.kp, fun i x s Q E hx p q => ?_⟩
  · obtain ⟨L, es, ep, t, r, g⟩ := p.st
    exact ⟨kp, L, es, ep, t, r.stay kS fun q hq => row_stay (row q (List.mem_of_mem_take (g.sub q hq))) kp, g⟩
  · obtain ⟨L, es, ep, t, r, g⟩ := p.st
    unfold setAdd
    refine wpAny_holding ?_
    have rx : IsTupleKey kn s.heap x.2 x.1 := row_stay (row x (List.mem_of_getElem? hx)) p.kp
    refine wpAny_bind (wpAny_pyHash_tuple hu rx ?_)
    have lft := g.len
    have lt := (List.getElem?_eq_some_iff.mp hx).1
    rw [List.length_take] at lft
    refine RowSet.add (s := { s with toks := s.toks + (x.2.length + 1) }) lf r rx hu (by omega) fun b h' L' es' ep' t' sb r2 c1 c2 => ?_
    have kp2 : ∀ b o, h0.get? b = some o → h'.get? b = some o := fun b o e => (sb.2 b (fun z => by rw [z, e0] at e; cases e)).trans (p.kp b o e)
    have g2 := g.grow (x := x) c1 c2
    have tk1 : ks.take (i + 1) = ks.take i ++ [x] := by rw [List.take_succ, hx]; rfl
    rw [← tk1] at g2
    exact q b h' _ (Nat.le_add_right _ _) sb ⟨kp2, L', es', ep', t', r2, g2⟩

/-- set(v): what set.__init__ does with the new set -/
theorem set_call {v : Value} {R : Shared → Prop} {Q : Value → Shared → Prop} (hb : wpAny (model P w) A.in1.in1 (Builtin.«set.__init__» ⟨[.ref s.heap.objs.size, v], []⟩) (fun fin s' => fin = Fin.done (.ret .none) ∧ R s') E { s with heap := s.heap.push (newSetO w) })
    (q : ∀ s', R s' → Q (.ref s.heap.objs.size) s') : wpAny (model P w) A (call (.type "set") [v]) Q E s := by
  obtain ⟨c, tl, hmro⟩ := F.called_set.mro
  have hmade := F.called_set.made
  have hsub := F.called_set.sub
  refine wpAny_call (codeAny_of_tree (show wpAny _ _ (callAny (.type "set") _) _ _ _ from ?_))
  refine wpAny_pure ⟨Code.quiet_builtin _ (by decide +kernel), codeAny_builtin F.entry_type_call ?_⟩
  rw [Around.under_plain (weight_type_call_type "set" [v] []) rfl]
  have h1 := F.called_set.notType
  have h2 := F.called_set.canCreate
  have hct := F.typeCall_set_1 v
  repeat (any_goals (first | assumption | wp_step))
  refine codeAny_mono (code_set_led1 v (E := E) (Q₁ := fun obj s₁ => obj = .ref s.heap.objs.size ∧ s₁ = { s with heap := s.heap.push (newSetO w) }) ⟨rfl, rfl⟩) fun r s₁ hr => ?_
  cases r with
  | error e => exact hr
  | ok fl =>
    cases fl with
    | ret obj =>
      obtain ⟨rfl, rfl⟩ := hr
      have gS : (s.heap.push (newSetO w)).get? s.heap.objs.size = some (newSetO w) := Heap.get?_push_size _ rfl
      have hT : Shared.TypeIs { s with heap := s.heap.push (newSetO w) } (.ref s.heap.objs.size) "set" := ⟨_, gS, rfl⟩
      have hli := F.called_set.init.lookup
      have hbi := F.called_set.init.bind (.ref s.heap.objs.size)
      repeat (any_goals (first | assumption | wp_step))
      refine codeAny_mono (codeAny_call_builtin (R := wants (fun r s₂ => r = .none ∧ R s₂) E) F.called_set.init.plain F.entry_set_init (check_set_init_1 hT (wpAny_mono hb (fun fin s' z => ?_) fun _ _ z => z))) fun r₂ s₂ hr₂ => ?_
      · obtain ⟨rfl, z⟩ := z
        exact ⟨rfl, z⟩
      · cases r₂ with
        | error e => exact hr₂
        | ok fl₂ =>
          cases fl₂ with
          | ret r =>
            obtain ⟨rfl, z⟩ := hr₂
            clear hb
            repeat (any_goals (first | assumption | wp_step))
            exact q _ z
          | _ => exact hr₂.elim
    | _ => exact hr.elim

/-- set(xs), xs a list -/
theorem set_of_list {α : Type} {vof : α → Value} {T : List α → Heap → Prop} {l : Addr} {items : Array Value} {ks : List α} {Q : Value → Shared → Prop} (hh : A.handled = none) (hl : s.heap.IsList l items) (hit : items.toList = ks.map vof)
    (U : PutInv P w A.in1.in1.in1 s.heap.objs.size vof T s.heap ks)
    (new : ∀ h' : Heap, h'.get? s.heap.objs.size = some (newSetO w) → (∀ b o, s.heap.get? b = some o → h'.get? b = some o) → T [] h')
    (q : ∀ (h' : Heap) (tk : Nat), T ks h' → Q (.ref s.heap.objs.size) { s with heap := h', toks := tk }) :
    wpAny (model P w) A (call (.type "set") [.ref l]) Q E s := by
  have isz : ks.length = items.size := by rw [← Array.length_toList, hit, List.length_map]
  refine set_call (R := fun s₂ => ∃ h' tk, s₂ = { s with heap := h', toks := tk } ∧ T ks h') ?_ fun s' ⟨h', tk, e, p⟩ => by rw [e]; exact q h' tk p
  obtain ⟨ol, hol, hcl, nl, hdl⟩ := hl
  obtain ⟨ocls, odict, odata, oslots⟩ := ol
  simp only at hcl hdl
  subst hcl; subst hdl
  have hsub := F.called_set.sub
  have hol' := Heap.get?_push_of_some (newSetO w) hol
  have hl1 : (s.heap.push (newSetO w)).IsList l items := ⟨_, hol', rfl, nl, rfl⟩
  have hsls := F.sub_list_set
  have hslf := F.sub_list_frozenset
  have hne : (Value.type "list" == Value.type "dict") = false := by decide
  have lS : l < s.heap.objs.size := Heap.lt_size hol
  have gS : (s.heap.push (newSetO w)).get? s.heap.objs.size = some (newSetO w) := Heap.get?_push_size _ rfl
  have zS : (s.heap.push (newSetO w)).objs.size = s.heap.objs.size + 1 := Heap.size_push ..
  have nI : l ≠ (s.heap.push (newSetO w)).objs.size := by rw [zS]; exact Nat.ne_of_lt (Nat.lt_succ_of_lt lS)
  have nS : s.heap.objs.size ∉ [(s.heap.push (newSetO w)).objs.size, l] := by
    rw [zS]
    simp only [List.mem_cons, List.not_mem_nil, or_false, not_or]
    exact ⟨Nat.ne_of_lt (Nat.lt_succ_self _), Nat.ne_of_gt lS⟩
  have val : ∀ (i : Nat) (v : Value), items[i]? = some v → ∃ p, ks[i]? = some p ∧ v = vof p := fun i v hv => by
    rw [← Array.getElem?_toList, hit, List.getElem?_map] at hv
    obtain ⟨p, e1, e2⟩ := Option.map_eq_some_iff.mp hv
    exact ⟨p, e1, e2.symm⟩
  have gone : ∀ b, s.heap.objs.size ≤ b → s.heap.get? b = none := fun b hb => by
    cases z : s.heap.get? b with
    | none => rfl
    | some o => exact absurd (Nat.lt_of_lt_of_le (Heap.lt_size z) hb) (Nat.lt_irrefl _)
  unfold Builtin.«set.__init__» noKeywords Builtin.Frozenset.updateFrom
  generalize hPI : pyIter = PI
  wp_walk
  subst hPI
  refine wpAny_pyIter_list hl1 ?_
  refine wpAny_bind (wpAny_runValue ?_)
  refine upd_loop U ((Walks.list (show A.in1.in1.in1.handled = none by simp [hh]) _ l nI items).toS) nS isz val
    (fun b hb => gone b (by rw [List.mem_singleton.mp hb, zS]; exact Nat.le_succ _)) (items.size - 0) 0 _ (by omega) (Nat.zero_le _)
    ⟨⟨_, Heap.get?_push_size _ rfl, rfl, rfl⟩, hl1.push _⟩ (new _ (Heap.get?_push_of_some _ gS) fun b o e => Heap.get?_push_of_some _ (Heap.get?_push_of_some _ e)) fun s' mv p => ?_
  obtain ⟨h', g2, d', tk', os'⟩ := s'
  obtain ⟨_, eg, ed, eo, _⟩ := mv
  simp only at eg ed eo
  subst eg ed eo
  refine wpAny_pure ?_
  exact (show wpAny _ _ (ret Value.none) _ _ _ from wpAny_pure ⟨rfl, h', tk', rfl, p⟩)
/-- set(xs), xs a tuple -/
theorem set_of_tuple {α : Type} {vof : α → Value} {T : List α → Heap → Prop} {l : Addr} {items : Array Value} {ks : List α} {Q : Value → Shared → Prop} (hh : A.handled = none) (hl : s.heap.IsTuple l items) (hit : items.toList = ks.map vof)
    (U : PutInv P w A.in1.in1.in1 s.heap.objs.size vof T s.heap ks)
    (new : ∀ h' : Heap, h'.get? s.heap.objs.size = some (newSetO w) → (∀ b o, s.heap.get? b = some o → h'.get? b = some o) → T [] h')
    (q : ∀ (h' : Heap) (tk : Nat), T ks h' → Q (.ref s.heap.objs.size) { s with heap := h', toks := tk }) :
    wpAny (model P w) A (call (.type "set") [.ref l]) Q E s := by
  have isz : ks.length = items.size := by rw [← Array.length_toList, hit, List.length_map]
  refine set_call (R := fun s₂ => ∃ h' tk, s₂ = { s with heap := h', toks := tk } ∧ T ks h') ?_ fun s' ⟨h', tk, e, p⟩ => by rw [e]; exact q h' tk p
  obtain ⟨ol, hol, hcl, nl, hdl⟩ := hl
  obtain ⟨ocls, odict, odata, oslots⟩ := ol
  simp only at hcl hdl
  subst hcl; subst hdl
  have hsub := F.called_set.sub
  have hol' := Heap.get?_push_of_some (newSetO w) hol
  have hl1 : (s.heap.push (newSetO w)).IsTuple l items := ⟨_, hol', rfl, nl, rfl⟩
  have hsls := F.sub_tuple_set
  have hslf := F.sub_tuple_frozenset
  have hne : (Value.type "tuple" == Value.type "dict") = false := by decide
  have lS : l < s.heap.objs.size := Heap.lt_size hol
  have gS : (s.heap.push (newSetO w)).get? s.heap.objs.size = some (newSetO w) := Heap.get?_push_size _ rfl
  have zS : (s.heap.push (newSetO w)).objs.size = s.heap.objs.size + 1 := Heap.size_push ..
  have nI : l ≠ (s.heap.push (newSetO w)).objs.size := by rw [zS]; exact Nat.ne_of_lt (Nat.lt_succ_of_lt lS)
  have nS : s.heap.objs.size ∉ [(s.heap.push (newSetO w)).objs.size, l] := by
    rw [zS]
    simp only [List.mem_cons, List.not_mem_nil, or_false, not_or]
    exact ⟨Nat.ne_of_lt (Nat.lt_succ_self _), Nat.ne_of_gt lS⟩
  have val : ∀ (i : Nat) (v : Value), items[i]? = some v → ∃ p, ks[i]? = some p ∧ v = vof p := fun i v hv => by
    rw [← Array.getElem?_toList, hit, List.getElem?_map] at hv
    obtain ⟨p, e1, e2⟩ := Option.map_eq_some_iff.mp hv
    exact ⟨p, e1, e2.symm⟩
  have gone : ∀ b, s.heap.objs.size ≤ b → s.heap.get? b = none := fun b hb => by
    cases z : s.heap.get? b with
    | none => rfl
    | some o => exact absurd (Nat.lt_of_lt_of_le (Heap.lt_size z) hb) (Nat.lt_irrefl _)
  unfold Builtin.«set.__init__» noKeywords Builtin.Frozenset.updateFrom
  generalize hPI : pyIter = PI
  wp_walk
  subst hPI
  refine wpAny_pyIter_tuple hl1 ?_
  refine wpAny_bind (wpAny_runValue ?_)
  refine upd_loop U ((Walks.tuple (show A.in1.in1.in1.handled = none by simp [hh]) _ l nI items).toS) nS isz val
    (fun b hb => gone b (by rw [List.mem_singleton.mp hb, zS]; exact Nat.le_succ _)) (items.size - 0) 0 _ (by omega) (Nat.zero_le _)
    ⟨⟨_, Heap.get?_push_size _ rfl, rfl, rfl⟩, hl1.push _⟩ (new _ (Heap.get?_push_of_some _ gS) fun b o e => Heap.get?_push_of_some _ (Heap.get?_push_of_some _ e)) fun s' mv p => ?_
  obtain ⟨h', g2, d', tk', os'⟩ := s'
  obtain ⟨_, eg, ed, eo, _⟩ := mv
  simp only at eg ed eo
  subst eg ed eo
  refine wpAny_pure ?_
  exact (show wpAny _ _ (ret Value.none) _ _ _ from wpAny_pure ⟨rfl, h', tk', rfl, p⟩)

theorem Puts.new {h0 h' : Heap} {S : Addr} (e : h'.get? S = some (newSetO w)) (kp : ∀ b o, h0.get? b = some o → h'.get? b = some o) : Puts kn h0 S [] h' :=
  ⟨kp, [], #[], 0, _, RowSet.fresh e, ⟨fun p hp => (nomatch hp), fun p hp => (nomatch hp), Nat.le_refl _⟩⟩
end
end EV
namespace EV
open PySem PySem.Spec L2
open PyProof.Rows hiding St

/-! ### sets of things that are carried by value -/
section
variable {P : Program} {w : World} {κ : Type} [DecidableEq κ] {kn : KeyKind P w κ} {A : Around} {E : Value → Shared → Prop} {s : Shared}
def enV (kn : KeyKind P w κ) (p : κ × Value) : Int × Value := (kn.hash p.1, p.2)
structure ValSet (kn : KeyKind P w κ) (h : Heap) (a : Addr) (L : List (κ × Value)) (es : Array (Int × Value)) (ep : Nat) (t : SetTable) : Prop where
  ob : ∃ o, h.get? a = some o ∧ o.ExactSet ∧ o.data = .set es ep t
  en : es.toList = L.map (enV kn)
  tab : TabOk t (L.map fun p => kn.hash p.1)
  nd : (L.map (·.1)).Nodup
  is : ∀ p ∈ L, kn.is p.1 p.2 = true ∧ p.2.scannable = true
  led : w.params.followText "set-order" = true ∨ t.led = true
  gap : L.length * 5 < t.mask * 3
  few : L.length < 64
variable {a : Addr} {L : List (κ × Value)} {es : Array (Int × Value)} {ep : Nat} {t : SetTable}
theorem env_size (h : es.toList = L.map (enV kn)) : es.size = L.length := by
  rw [← Array.length_toList, h, List.length_map]
theorem ValSet.elems (R : ValSet kn s.heap a L es ep t) : ElemsOf kn es.toList := fun e he => by
  rw [R.en] at he
  obtain ⟨p, pm, rfl⟩ := List.mem_map.mp he
  exact ⟨⟨p.1, (R.is p pm).1, rfl⟩, (R.is p pm).2⟩
theorem fit_of {hs : List Int} (T : TabOk t hs) (n : es.size = hs.length) (g : hs.length ≤ t.mask) : t.fits es.size = true := by
  have h1 := T.sz
  unfold SetTable.fits SetTable.fill
  rw [T.dm, Bool.and_eq_true, beq_iff_eq, decide_eq_true_eq]
  refine ⟨by omega, ?_⟩
  show t.place.size + 0 ≤ t.mask
  omega
theorem ValSet.fit (R : ValSet kn s.heap a L es ep t) : t.fits es.size = true := by
  have g := R.gap
  refine fit_of R.tab (by rw [env_size R.en, List.length_map]) (by rw [List.length_map]; omega)
theorem env_order (hr : es.toList = L.map (enV kn)) {order : Array Nat} (hp : order.toList.Perm (List.range L.length)) :
    ∃ M : List (κ × Value), (order.filterMap (es[·]?)).toList = M.map (enV kn) ∧ M.Perm L ∧ (M.map fun p => kn.hash p.1) = order.toList.map fun i => (es.map (·.1)).getD i 0 := by
  refine ⟨order.toList.filterMap fun i => L[i]?, ?_, ?_, ?_⟩
  · rw [Array.toList_filterMap]
    have : (fun i : Nat => es[i]?) = fun i => (L[i]?).map (enV kn) := funext fun i => by rw [← Array.getElem?_toList, hr, List.getElem?_map]
    rw [this, ← List.map_filterMap]
  · refine (hp.filterMap fun i => L[i]?).trans ?_
    have full : ∀ M : List (κ × Value), (List.range M.length).filterMap (fun i => M[i]?) = M := fun M => by
      have : (List.range M.length).filterMap (fun i => M[i]?) = ((List.range M.length).map fun i => M[i]?).filterMap id := by rw [List.filterMap_map]; rfl
      rw [this]
      have : ((List.range M.length).map fun i => M[i]?) = M.map some := by
        refine List.ext_getElem (by simp) fun i h1 h2 => ?_
        simp at h1 ⊢
      rw [this, List.filterMap_map]
      exact List.filterMap_some
    rw [full]
  · have within : ∀ i ∈ order.toList, i < L.length := fun i hi => List.mem_range.mp (hp.mem_iff.mp hi)
    revert within
    generalize order.toList = l
    intro within
    induction l with
    | nil => rfl
    | cons i l ih =>
      have il := within i (List.mem_cons_self ..)
      rw [List.filterMap_cons_some (List.getElem?_eq_getElem il), List.map_cons, List.map_cons, ih fun j hj => within j (.tail _ hj)]
      have e1 : (es.map (·.1))[i]? = some (kn.hash (L[i]).1) := by rw [Array.getElem?_map, ← Array.getElem?_toList, hr, List.getElem?_map, List.getElem?_eq_getElem il]; rfl
      rw [Array.getD_eq_getD_getElem?, e1]
      rfl
/-- the free place for a hash -/
theorem free_at {hs : List Int} (T : TabOk t hs) (g : hs.length ≤ t.mask) (H : Int) : ∃ N, t.freeSlot H = some (way t.mask H N, false) ∧ way t.mask H N ∉ t.place.toList ∧ ∀ c, c < N → way t.mask H c ∈ t.place.toList := by
  obtain ⟨N, n1, n2, n3⟩ := T.first g H
  refine ⟨N, ?_, n2, n3⟩
  have big := go_spec t T.ris T.dm (fun _ => H + 1) H (10 * SetTable.turns t.mask) N (stp t H 0) rfl n1 (fun q hq => n3 q hq) n2
  have ne : H + 1 ≠ H := by omega
  rcases big with ⟨_, _, _, _, z, _⟩ | ⟨_, z⟩
  · exact absurd z ne
  · unfold SetTable.freeSlot
    have : t.probe (fun _ => H + 1) H (t.probeStart H) = some (.empty (way t.mask H N) none) := z
    rw [this]
    rfl
theorem ValSet.add (R : ValSet kn s.heap a L es ep t) {x : Value} {k : κ} (hx : kn.is k x = true) (hs : x.scannable = true) (few : L.length + 1 < 64) {Q : Bool → Shared → Prop}
    (q : ∀ b h' L' es' ep' t', Heap.SameBut a s.heap h' → ValSet kn h' a L' es' ep' t' → (k ∈ L.map (·.1) → L' = L) → (k ∉ L.map (·.1) → L'.Perm ((k, x) :: L)) → Q b { s with heap := h' }) :
    wpAny (model P w) A (setAddHashed a x (kn.hash k)) Q E s := by
  obtain ⟨o, gO, gX, gD⟩ := R.ob
  have sz := env_size R.en
  have gap := R.gap
  have few0 := R.few
  unfold setAddHashed
  refine wpAny_holding ?_
  rw [show (100000 : Nat) = 99999 + 1 from rfl, setAddHashedIn_succ]
  refine wpAny_bind (wpAny_setState_of gO gD R.fit ?_)
  dsimp only
  refine wp_if_pos (byScan_of hs (by rw [sz, show scanBound = 4096 from rfl]; omega) R.elems) ?_
  unfold setAddByScan
  refine wpAny_bind (wpAny_bind (wpAny_rule ?_))
  refine wpAny_bind (wpAny_setScan_of hx gO gD R.fit R.elems ?_)
  have seen : ∀ j, es.toList.findIdx? (fun e => kn.is k e.2) = some j → k ∈ L.map (·.1) := fun j hj => by
    obtain ⟨h1, h2, _⟩ := List.findIdx?_eq_some_iff_getElem.mp hj
    have hm : es.toList[j] ∈ L.map (enV kn) := R.en ▸ List.getElem_mem h1
    obtain ⟨p, pm, pe⟩ := List.mem_map.mp hm
    rw [← pe] at h2
    exact List.mem_map.mpr ⟨p, pm, kn.inj p.2 _ _ (R.is p pm).1 h2⟩
  cases hf : es.toList.findIdx? (fun e => kn.is k e.2) with
  | some j =>
    dsimp only
    exact wpAny_pure (wpAny_pure (q false s.heap L es ep t (Heap.SameBut.refl a s.heap) R (fun _ => rfl) fun z => absurd (seen j hf) z))
  | none =>
    dsimp only
    have hm : k ∉ L.map (·.1) := fun z => by
      obtain ⟨p, pm, pe⟩ := List.mem_map.mp z
      have h1 : enV kn p ∈ es.toList := by rw [R.en]; exact List.mem_map.mpr ⟨p, pm, rfl⟩
      have h2 := List.findIdx?_eq_none_iff.mp hf _ h1
      rw [← pe] at h2
      rw [show (enV kn p).2 = p.2 from rfl, (R.is p pm).1] at h2
      cases h2
    obtain ⟨N, n1, n2, n3⟩ := free_at R.tab (by rw [List.length_map]; omega) (kn.hash k)
    obtain ⟨q1, q2, q3, q4, q5, q6, q7, q8, q9⟩ := R.tab.put n2 n3
    generalize hpt : t.put (way t.mask (kn.hash k) N) = pt at q1 q3 q4 q5 q6 q7 q8 q9
    obtain ⟨t1, pl⟩ := pt
    dsimp only at q1 q3 q4 q5 q6 q7 q8 q9
    subst q1
    have pm := insP L (SetTable.below t.place (way t.mask (kn.hash k) N)) (k, x)
    have hen : (SetTable.insertAt es (SetTable.below t.place (way t.mask (kn.hash k) N)) (kn.hash k, x)).toList = (L.take (SetTable.below t.place (way t.mask (kn.hash k) N)) ++ (k, x) :: L.drop (SetTable.below t.place (way t.mask (kn.hash k) N))).map (enV kn) := by
      rw [SetTable.toList_insertAt, R.en, List.map_append, List.map_cons, List.map_take, List.map_drop]
      rfl
    have q3 : TabOk t1 ((L.take (SetTable.below t.place (way t.mask (kn.hash k) N)) ++ (k, x) :: L.drop (SetTable.below t.place (way t.mask (kn.hash k) N))).map fun p => kn.hash p.1) := by
      rw [List.map_append, List.map_cons, List.map_take, List.map_drop]
      exact q3
    have lay0 : layNew t es (kn.hash k) x = (SetTable.insertAt es (SetTable.below t.place (way t.mask (kn.hash k) N)) (kn.hash k, x), t1.orStandIn (SetTable.insertAt es (SetTable.below t.place (way t.mask (kn.hash k) N)) (kn.hash k, x)).size, false, !t1.fits (SetTable.insertAt es (SetTable.below t.place (way t.mask (kn.hash k) N)) (kn.hash k, x)).size) := by
      unfold layNew
      rw [n1]
      dsimp only
      rw [hpt]
    generalize L.take (SetTable.below t.place (way t.mask (kn.hash k) N)) ++ (k, x) :: L.drop (SetTable.below t.place (way t.mask (kn.hash k) N)) = L1 at pm hen q3
    generalize SetTable.insertAt es (SetTable.below t.place (way t.mask (kn.hash k) N)) (kn.hash k, x) = es1 at hen lay0
    have len1 : L1.length = L.length + 1 := pm.length_eq
    have sz1 := env_size hen
    have fit1 : t1.fits es1.size = true := fit_of q3 (by rw [sz1, List.length_map]) (by rw [List.length_map, len1, q4]; omega)
    have lay : layNew t es (kn.hash k) x = (es1, t1, false, false) := by
      rw [lay0, SetTable.orStandIn, if_pos fit1, fit1]
      rfl
    rw [lay]
    dsimp only
    have nd1 : (L1.map (·.1)).Nodup := (pm.map (·.1)).nodup_iff.mpr (List.nodup_cons.mpr ⟨hm, R.nd⟩)
    have is1 : ∀ p ∈ L1, kn.is p.1 p.2 = true ∧ p.2.scannable = true := fun p hp => by
      rcases List.mem_cons.mp (pm.mem_iff.mp hp) with rfl | z
      · exact ⟨hx, hs⟩
      · exact R.is p z
    refine wpAny_bind (show wpAny _ _ (pure ()) _ _ s from wpAny_pure ?_)
    have rest : ∀ c : Bool, wpAny (model P w) A (do
        storeSet a es1 (if c = true then t1 else { t1 with plain := false })
        if (!false && (if c = true then t1 else { t1 with plain := false }).tooFull) = true then
          (match (relayAll (if c = true then t1 else { t1 with plain := false }) es1 (SetTable.grown es1.size)).2.2 with
            | true => rule "set.scan.the-table-gave-way"
            | false => pure ())
          storeSet a (relayAll (if c = true then t1 else { t1 with plain := false }) es1 (SetTable.grown es1.size)).1 (relayAll (if c = true then t1 else { t1 with plain := false }) es1 (SetTable.grown es1.size)).2.1
          pure (some true)
        else pure (some true)) (fun r s' => wpAny (model P w) A (match r with | some added => pure added | none => setAddHashedIn a x (kn.hash k) 99999) Q E s') E s := fun c => by
      have q3' : TabOk (if c = true then t1 else { t1 with plain := false }) _ := TabOk.plainly (c := c) q3
      have q4' : (if c = true then t1 else { t1 with plain := false }).mask = t.mask := by cases c <;> exact q4
      have q5' : (if c = true then t1 else { t1 with plain := false }).led = t.led := by cases c <;> exact q5
      have q9' : (if c = true then t1 else { t1 with plain := false }).fill = t1.fill := by cases c <;> rfl
      generalize (if c = true then t1 else { t1 with plain := false } : SetTable) = t3 at q3' q4' q5' q9' ⊢
      rw [q9, List.length_map] at q9'
      refine wpAny_bind (wpAny_storeSet_of gO gD ?_ (by rw [sz1, len1, sizeLine_eq]; omega))
      have sb : Heap.SameBut a s.heap (s.heap.update a (Obj.putSet es1 t3)) := Heap.SameBut.update ..
      have g1 := upd_at (es' := es1) (t' := t3) gO gD
      generalize s.heap.update a (Obj.putSet es1 t3) = h1 at sb g1 ⊢
      have led1 : w.params.followText "set-order" = true ∨ t3.led = true := by rw [q5']; exact R.led
      by_cases full : t3.tooFull = true
      · refine wp_if_pos (by rw [full]; rfl) ?_
        have hf : (L.length + 1) * 5 ≥ t3.mask * 3 := by
          have z := full
          unfold SetTable.tooFull at z
          rw [decide_eq_true_eq, q9'] at z
          omega
        have go : ∀ M, SetTable.sizeAbove (SetTable.grown (L.length + 1)) - 1 = M → MaskOk M → (L.length + 1) * 5 < M * 3 →
            wpAny (model P w) A (do
              (match (relayAll t3 es1 (SetTable.grown es1.size)).2.2 with
                | true => rule "set.scan.the-table-gave-way"
                | false => pure ())
              storeSet a (relayAll t3 es1 (SetTable.grown es1.size)).1 (relayAll t3 es1 (SetTable.grown es1.size)).2.1
              pure (some true)) (fun r s' => wpAny (model P w) A (match r with | some added => pure added | none => setAddHashedIn a x (kn.hash k) 99999) Q E s') E { s with heap := h1 } := fun M w1 w2 w4 => by
          obtain ⟨t2, order, e, hp, T, em, el, _, ed⟩ := relaid_ok t3 (hs := es1.map (·.1)) (wanted := SetTable.grown es1.size) (M := M) (by rw [sz1, len1]; exact w1) w2 (by rw [Array.size_map, sz1, len1]; omega)
          rw [Array.size_map, sz1] at hp
          obtain ⟨M2, m1, m2, m3⟩ := env_order hen hp
          rw [← m3] at T
          have sz2 : (order.filterMap (es1[·]?)).size = es1.size := by rw [env_size m1, m2.length_eq, sz1]
          have fit2 : t2.fits (order.filterMap (es1[·]?)).size = true := fit_of T (by rw [env_size m1, List.length_map]) (by rw [List.length_map, m2.length_eq, len1, em]; omega)
          have cov : coversAll order es1.size = true := by
            unfold coversAll
            rw [sz1]
            exact List.isPerm_iff.mpr hp
          have ra : relayAll t3 es1 (SetTable.grown es1.size) = (order.filterMap (es1[·]?), t2, false) := by
            unfold relayAll
            rw [e]
            dsimp only
            rw [cov, fit2]
            rfl
          rw [ra]
          dsimp only
          refine wpAny_bind (wpAny_pure ?_)
          refine wpAny_bind (wpAny_storeSet_of g1 rfl ?_ (by rw [sz2, sz1, len1, sizeLine_eq]; omega))
          have sb2 : Heap.SameBut a h1 (h1.update a (Obj.putSet (order.filterMap (es1[·]?)) t2)) := Heap.SameBut.update ..
          refine wpAny_pure (wpAny_pure (q true _ M2 _ _ t2 (sb.trans sb2) ⟨⟨_, upd_at g1 rfl, ⟨gX.1, gX.2.1, gX.2.2⟩, rfl⟩, m1, T, (m2.map (·.1)).nodup_iff.mpr nd1, fun p pp => is1 p (m2.mem_iff.mp pp), by rw [el]; exact led1, ?_, by rw [m2.length_eq, len1]; exact few⟩ (fun z => absurd z hm) fun _ => m2.trans pm))
          rw [m2.length_eq, len1, em]
          exact w4
        rcases R.tab.mok with e | e | e
        · have l4 : L.length = 4 := by omega
          exact go 31 (by rw [l4, size_20]) (.inr (.inl rfl)) (by omega)
        · have l18 : L.length = 18 := by omega
          exact go 127 (by rw [l18, size_76]) (.inr (.inr rfl)) (by omega)
        · exfalso; omega
      · refine wp_if_neg (by rw [Bool.not_eq_true] at full; rw [full]; decide) ?_
        refine wpAny_pure (wpAny_pure (q true h1 L1 es1 (ep + 1) t3 sb ⟨⟨_, g1, ⟨gX.1, gX.2.1, gX.2.2⟩, rfl⟩, hen, q3', nd1, is1, led1, ?_, by rw [len1]; exact few⟩ (fun z => absurd z hm) fun _ => pm))
        have z := full
        unfold SetTable.tooFull at z
        rw [decide_eq_true_eq, q9'] at z
        omega
    by_cases pln : t1.plain = true
    · first
        | (refine wpAny_bind (wp_if_pos pln ?_); rw [hashByValue_scannable 8 hs]; exact wpAny_pure (rest _))
        | (refine wp_if_pos pln ?_; rw [hashByValue_scannable 8 hs]; exact wpAny_bind (wpAny_pure (rest _)))
    · first
        | (refine wpAny_bind (wp_if_neg pln (wpAny_pure (rest true))))
        | (refine wp_if_neg pln (wpAny_bind (wpAny_pure (rest true))))
        | (refine wp_if_neg pln (rest true))
end
end EV
namespace EV
open PySem PySem.Spec L2
open PyProof.Rows hiding St

/-! ### sets of values are filled -/
section
variable {P : Program} {w : World} {κ : Type} [DecidableEq κ] {kn : KeyKind P w κ} {A : Around} {E : Value → Shared → Prop} {s : Shared}
structure SameV (ks L : List (κ × Value)) : Prop where
  sub : ∀ p ∈ L, p ∈ ks
  all : ∀ p ∈ ks, p.1 ∈ L.map (·.1)
  len : L.length ≤ ks.length
theorem SameV.nil : SameV ([] : List (κ × Value)) [] := ⟨fun p hp => (nomatch hp), fun p hp => (nomatch hp), Nat.le_refl _⟩
theorem SameV.grow {ks L L' : List (κ × Value)} {x : κ × Value} (g : SameV ks L) (c1 : x.1 ∈ L.map (·.1) → L' = L) (c2 : x.1 ∉ L.map (·.1) → L'.Perm (x :: L)) : SameV (ks ++ [x]) L' := by
  by_cases c : x.1 ∈ L.map (·.1)
  · obtain rfl := c1 c
    refine ⟨fun p hp => List.mem_append_left _ (g.sub p hp), fun p hp => ?_, Nat.le_trans g.len (by simp)⟩
    rcases List.mem_append.mp hp with z | z
    · exact g.all p z
    · obtain rfl := List.mem_singleton.mp z
      exact c
  · have pm := c2 c
    have pk := pm.map (fun p : κ × Value => p.1)
    refine ⟨fun p hp => ?_, fun p hp => ?_, ?_⟩
    · rcases List.mem_cons.mp (pm.mem_iff.mp hp) with z | z
      · exact List.mem_append_right _ (by rw [z]; exact List.mem_singleton.mpr rfl)
      · exact List.mem_append_left _ (g.sub p z)
    · refine pk.mem_iff.mpr ?_
      rcases List.mem_append.mp hp with z | z
      · exact List.mem_cons_of_mem _ (g.all p z)
      · rw [List.mem_singleton.mp z]
        exact List.mem_cons_self
    · have e1 := pm.length_eq
      have e2 := g.len
      simp only [List.length_cons] at e1
      simp only [List.length_append, List.length_cons, List.length_nil]
      omega
structure PutsV (kn : KeyKind P w κ) (h0 : Heap) (S : Addr) (ks : List (κ × Value)) (h : Heap) : Prop where
  kp : ∀ b o, h0.get? b = some o → h.get? b = some o
  st : ∃ L es ep t, ValSet kn h S L es ep t ∧ SameV ks L
theorem ValSet.stay {h h' : Heap} {a : Addr} {L : List (κ × Value)} {es : Array (Int × Value)} {ep : Nat} {t : SetTable} (R : ValSet kn h a L es ep t) (ha : ∀ o, h.get? a = some o → h'.get? a = some o) : ValSet kn h' a L es ep t :=
  let ⟨o, e, r⟩ := R.ob
  ⟨⟨o, ha o e, r⟩, R.en, R.tab, R.nd, R.is, R.led, R.gap, R.few⟩
theorem ValSet.fresh {h : Heap} {a : Addr} (e : h.get? a = some (newSetO w)) : ValSet kn h a [] #[] 0 (.fresh 0 0 (!w.params.followText "set-order")) := by
  have q := RowSet.fresh (kn := kn) e
  exact ⟨q.ob, rfl, q.tab, List.nodup_nil, fun p hp => (nomatch hp), q.led, q.gap, q.few⟩
theorem vals_put {h0 : Heap} {S : Addr} {ks : List (κ × Value)} (e0 : h0.get? S = none) (is : ∀ p ∈ ks, kn.is p.1 p.2 = true ∧ p.2.scannable = true) (few : ks.length < 64) :
    PutInv P w A S (fun p : κ × Value => p.2) (fun ks h => PutsV kn h0 S ks h) h0 ks := by
  refine ⟨e0, fun i h h' kp kS p => ?_, fun i h p => p.kp, fun i x s Q E hx p q => ?_⟩
  · obtain ⟨L, es, ep, t, r, g⟩ := p.st
    exact ⟨kp, L, es, ep, t, r.stay kS, g⟩
  · obtain ⟨L, es, ep, t, r, g⟩ := p.st
    obtain ⟨i1, i2⟩ := is x (List.mem_of_getElem? hx)
    unfold setAdd
    refine wpAny_holding (wpAny_bind (kn.pyHash i1 ?_))
    have lt := (List.getElem?_eq_some_iff.mp hx).1
    have few2 := g.len
    rw [List.length_take] at few2
    refine ValSet.add (s := { s with toks := s.toks + 1 }) r i1 i2 (by omega) fun b h' L' es' ep' t' sb r2 c1 c2 => ?_
    have g2 := g.grow (x := x) c1 c2
    have tk1 : ks.take (i + 1) = ks.take i ++ [x] := by rw [List.take_succ, hx]; rfl
    rw [← tk1] at g2
    exact q b h' _ (Nat.le_succ _) sb ⟨fun b o e => (sb.2 b (fun z => by rw [z, e0] at e; cases e)).trans (p.kp b o e), L', es', ep', t', r2, g2⟩
theorem PutsV.new {h0 h' : Heap} {S : Addr} (e : h'.get? S = some (newSetO w)) (kp : ∀ b o, h0.get? b = some o → h'.get? b = some o) : PutsV kn h0 S [] h' :=
  ⟨kp, [], #[], 0, _, ValSet.fresh e, SameV.nil⟩
theorem leaf_mix : Leafy (mixKind P w) := by
  refine ⟨fun {k v} h n => ?_, fun {k v} h n => ?_⟩
  · rcases keyIs_shape h with ⟨i, t, rfl, rfl⟩ | ⟨x, t, rfl, rfl⟩
    · unfold ofAClassStatement; rfl
    · unfold ofAClassStatement; rfl
  · rcases keyIs_shape h with ⟨i, t, rfl, rfl⟩ | ⟨x, t, rfl, rfl⟩
    · exact ⟨true, by unfold hashByValue; rfl⟩
    · exact ⟨false, by unfold hashByValue; rfl⟩
end

/-! ### what is told of a filled set -/
/-- the set at a: the things in it, in the order of its entries -/
def SetIs (w : World) (h : Heap) (a : Addr) (xs : List V) : Prop := ∃ es ep t, (∃ o, h.get? a = some o ∧ o.ExactSet ∧ o.data = .set es ep t) ∧ t.fits es.size = true ∧ es.size < 64 ∧ Ris t.place.toList ∧
  (w.params.followText "set-order" = true ∨ t.led = true) ∧ Vals xs (es.toList.map (·.2))
theorem SetIs.stay {w : World} {h h' : Heap} {a : Addr} {xs : List V} (R : SetIs w h a xs) (k : ∀ o, h.get? a = some o → h'.get? a = some o) : SetIs w h' a xs := by
  obtain ⟨es, ep, t, ⟨o, e, r⟩, z⟩ := R
  exact ⟨es, ep, t, ⟨o, k o e, r⟩, z⟩
def SetHO (w : World) (a : Addr) (xs : List V) : HO := .ext fun h => SetIs w h a xs
def dedup : List D → List D
  | [] => []
  | d :: ds => if d ∈ ds then dedup ds else d :: dedup ds
theorem mem_dedup : ∀ {ds : List D} {d : D}, d ∈ dedup ds ↔ d ∈ ds
  | [], d => Iff.rfl
  | e :: ds, d => by
    rw [dedup]
    split
    · rename_i he
      rw [mem_dedup, List.mem_cons]
      exact ⟨.inr, fun z => z.elim (fun z => z ▸ he) id⟩
    · rw [List.mem_cons, List.mem_cons, mem_dedup]
theorem nodup_dedup : ∀ ds : List D, (dedup ds).Nodup
  | [] => List.nodup_nil
  | e :: ds => by
    rw [dedup]
    split
    · exact nodup_dedup ds
    · rename_i he
      exact List.nodup_cons.mpr ⟨fun z => he (mem_dedup.mp z), nodup_dedup ds⟩
theorem dedup_nodup : ∀ {ds : List D}, ds.Nodup → dedup ds = ds
  | [], _ => rfl
  | e :: ds, h => by
    obtain ⟨h1, h2⟩ := List.nodup_cons.mp h
    rw [dedup, if_neg h1, dedup_nodup h2]
theorem lift_sub {α β : Type} {f : α → β} {T : List α} : ∀ {L : List β}, (∀ p ∈ L, p ∈ T.map f) → ∃ T' : List α, T'.map f = L ∧ ∀ t ∈ T', t ∈ T
  | [], _ => ⟨[], rfl, fun t ht => (nomatch ht)⟩
  | p :: L, h => by
    obtain ⟨T', e, m⟩ := lift_sub (L := L) fun q hq => h q (List.mem_cons_of_mem _ hq)
    obtain ⟨t, ht, et⟩ := List.mem_map.mp (h p List.mem_cons_self)
    exact ⟨t :: T', by rw [List.map_cons, e, et], fun u hu => (List.mem_cons.mp hu).elim (fun z => z ▸ ht) (m u)⟩
def isKeyRow : D → Bool
  | .tuple r => isRowT (.tuple r) && r.all isKey
  | _ => false
/-- what may go to a set -/
def setKind (ds : List D) : Bool := decide (ds.length < 64) && (ds.all isStr || (ds.all isInt || ds.all isKeyRow))
theorem setKind_of {ds : List D} (h : setKind ds = true) : ds.length < 64 ∧ ((∀ d ∈ ds, isStr d = true ∨ isInt d = true) ∨ ∀ d ∈ ds, isKeyRow d = true) := by
  unfold setKind at h
  rw [Bool.and_eq_true, decide_eq_true_eq, Bool.or_eq_true, Bool.or_eq_true] at h
  refine ⟨h.1, ?_⟩
  rcases h.2 with h | h | h
  · exact .inl fun d hd => .inl (List.all_eq_true.mp h d hd)
  · exact .inl fun d hd => .inr (List.all_eq_true.mp h d hd)
  · exact .inr fun d hd => List.all_eq_true.mp h d hd
theorem setKind_good {ds : List D} (h : (∀ d ∈ ds, isStr d = true ∨ isInt d = true) ∨ ∀ d ∈ ds, isKeyRow d = true) : ∀ d ∈ ds, isStr d = true ∨ isInt d = true ∨ isRowT d = true := fun d hd => by
  rcases h with h | h
  · rcases h d hd with z | z
    · exact .inl z
    · exact .inr (.inl z)
  · have z := h d hd
    unfold isKeyRow at z
    split at z
    · rw [Bool.and_eq_true] at z
      exact .inr (.inr z.1)
    · cases z
def keyD : D → Key
  | .int i => .inl i
  | .str x => .inr x
  | _ => .inl 0
def keysD : D → List Key
  | .tuple r => r.map keyD
  | _ => []
def addrU : Value → Addr
  | .ref a => a
  | _ => 0
theorem keyD_inj {a b : D} (ha : isKey a = true) (hb : isKey b = true) (e : keyD a = keyD b) : a = b := by
  cases a <;> first | (cases ha; done) | skip
  all_goals cases b <;> first | (cases hb; done) | skip
  all_goals simp only [keyD] at e
  · injection e with e; rw [e]
  · cases e
  · cases e
  · injection e with e; rw [e]
theorem keysD_inj : ∀ {as bs : List D}, as.all isKey = true → bs.all isKey = true → as.map keyD = bs.map keyD → as = bs
  | [], [], _, _, _ => rfl
  | [], _ :: _, _, _, h => by cases h
  | _ :: _, [], _, _, h => by cases h
  | a :: as, b :: bs, ha, hb, h => by
    rw [List.all_cons, Bool.and_eq_true] at ha hb
    injection h with h1 h2
    rw [keyD_inj ha.1 hb.1 h1, keysD_inj ha.2 hb.2 h2]
theorem isKey_of {d : D} (h : isStr d = true ∨ isInt d = true) : isKey d = true := by
  cases d <;> first | rfl | (rcases h with h | h <;> cases h)
section
variable {X : Cx} {pins : List (Addr × Obj)} {σ : St} {H G : Hp} {s : Shared}
theorem so_key {h : Heap} {u : Value} {d : D} (x : SoV h u d) (n : isKey d = true) : (mixKind X.prog X.w).is (keyD d) u = true ∧ u.scannable = true := by
  cases x with
  | str x t => exact ⟨mixKind_str _ _ _ _, rfl⟩
  | int i t => exact ⟨mixKind_int _ _ _ _, rfl⟩
  | row _ _ => cases n
theorem at_keys : ∀ {vs : List Value} {ds : List D}, AtVs vs ds → ds.all isKey = true → ItemsAre (mixKind X.prog X.w) (ds.map keyD) vs
  | _, _, .nil, _ => .nil
  | _, _, .cons h t, n => by
    rw [List.all_cons, Bool.and_eq_true] at n
    refine .cons ?_ (at_keys t n.2)
    cases h with
    | non => cases n.1
    | int i t => exact mixKind_int _ _ _ _
    | str x t => exact mixKind_str _ _ _ _
theorem so_row {h : Heap} {u : Value} {d : D} (x : SoV h u d) (n : isKeyRow d = true) : u = .ref (addrU u) ∧ IsTupleKey (mixKind X.prog X.w) h (keysD d) (addrU u) := by
  cases x with
  | str _ _ => cases n
  | int _ _ => cases n
  | row ht ha =>
    rename_i a its x r
    obtain ⟨o, e, c, n0, e2⟩ := ht
    unfold isKeyRow at n
    rw [Bool.and_eq_true] at n
    exact ⟨rfl, o, its, n0, e, c, e2, at_keys ha n.2⟩
theorem keyRow_inj {a b : D} (ha : isKeyRow a = true) (hb : isKeyRow b = true) (e : keysD a = keysD b) : a = b := by
  unfold isKeyRow at ha hb
  split at ha
  · split at hb
    · rw [Bool.and_eq_true] at ha hb
      exact congrArg PyData.tuple (keysD_inj ha.2 hb.2 e)
    · cases hb
  · cases ha
theorem nodup_of_map {α β : Type} {f : α → β} {l : List α} (h : (l.map f).Nodup) : l.Nodup := by
  refine List.Pairwise.of_map f (fun a b g z => g (by rw [z])) h
theorem setHO_new {P : Program} {w : World} {H : Hp} {h : Heap} {a : Addr} {xs : List V} (R : SetIs w h a xs) : ObjOk P w H h a (SetHO w a xs) := by
  obtain ⟨_, _, _, ⟨o, e, _⟩, _⟩ := id R
  exact ⟨R, ⟨o, e⟩, fun h1 h2 p k => SetIs.stay p k⟩
/-- set(xs) -/
def rSet (K : PySem.W.Frag) (w : World) : List V → Hp → VK → Prop := fun vs H Q => ∃ (G : Hp) (d : D) (ds : List D), (d = .list ds ∨ d = .tuple ds) ∧ Same G H ∧ Pks K G H vs [d] ∧ setKind ds = true ∧
  ∀ (S : Addr) (xs : List V) (es : List D), H S = none → RpA K G xs es → es.Nodup → (∀ e, e ∈ es ↔ e ∈ ds) → Q (.ref S) (upd H S (SetHO w S xs))
/-- from the things put there to the set -/
theorem set_fin {h : Heap} {S : Addr} {T : List (V × Value × D)} (tt : ∀ t ∈ T, Tri X G s.heap t) (hk : (∀ d ∈ T.map (·.2.2), isStr d = true ∨ isInt d = true) ∨ ∀ d ∈ T.map (·.2.2), isKeyRow d = true)
    (p : (∃ L es ep t, ValSet (mixKind X.prog X.w) h S L es ep t ∧ SameV (T.map fun t => (keyD t.2.2, t.2.1)) L ∧ ∀ d ∈ T.map (·.2.2), isKey d = true) ∨
      (∃ L es ep t, RowSet (mixKind X.prog X.w) h S L es ep t ∧ Same1 (T.map fun t => (addrU t.2.1, keysD t.2.2)) L ∧ ∀ d ∈ T.map (·.2.2), isKeyRow d = true)) :
    ∃ xs es, SetIs X.w h S xs ∧ RpA X.K G xs es ∧ es.Nodup ∧ ∀ e, e ∈ es ↔ e ∈ T.map (·.2.2) := by
  rcases p with ⟨L, es, ep, t, R, g, hd⟩ | ⟨L, es, ep, t, R, g, hd⟩
  · obtain ⟨T', e1, m⟩ := lift_sub g.sub
    have tt' : ∀ t ∈ T', Tri X G s.heap t := fun t ht => tt t (m t ht)
    obtain ⟨rr, vv⟩ := tri_rp tt'
    refine ⟨_, _, ⟨es, ep, t, R.ob, ValSet.fit (s := { s with heap := h }) R, by rw [env_size R.en]; exact R.few, R.tab.ris, R.led, ?_⟩, rr, ?_, fun e => ⟨fun he => ?_, fun he => ?_⟩⟩
    · rw [R.en, List.map_map, ← e1, List.map_map]
      exact vv
    · have nd := R.nd
      rw [← e1, List.map_map] at nd
      have : (T'.map ((·.1) ∘ fun t : V × Value × D => (keyD t.2.2, t.2.1))) = (T'.map (·.2.2)).map keyD := by rw [List.map_map]; rfl
      rw [this] at nd
      exact nodup_of_map nd
    · obtain ⟨t, ht, rfl⟩ := List.mem_map.mp he
      exact List.mem_map.mpr ⟨t, m t ht, rfl⟩
    · obtain ⟨t0, ht, rfl⟩ := List.mem_map.mp he
      have q := g.all (keyD t0.2.2, t0.2.1) (List.mem_map.mpr ⟨t0, ht, rfl⟩)
      rw [← e1, List.map_map] at q
      obtain ⟨t1, h1, h2⟩ := List.mem_map.mp q
      refine List.mem_map.mpr ⟨t1, h1, ?_⟩
      exact keyD_inj (hd _ (List.mem_map.mpr ⟨t1, m t1 h1, rfl⟩)) (hd _ he) h2
  · obtain ⟨T', e1, m⟩ := lift_sub g.sub
    have tt' : ∀ t ∈ T', Tri X G s.heap t := fun t ht => tt t (m t ht)
    obtain ⟨rr, vv⟩ := tri_rp tt'
    refine ⟨_, _, ⟨es, ep, t, R.ob, RowSet.fit (s := { s with heap := h }) R, by rw [en_size R.en]; exact R.few, R.tab.ris, R.led, ?_⟩, rr, ?_, fun e => ⟨fun he => ?_, fun he => ?_⟩⟩
    · rw [R.en, List.map_map, ← e1, List.map_map]
      have : T'.map ((((·.2) : Int × Value → Value) ∘ enOf (mixKind X.prog X.w)) ∘ fun t : V × Value × D => (addrU t.2.1, keysD t.2.2)) = T'.map (·.2.1) := List.map_congr_left fun t ht => by
        have z := (so_row (X := X) (tt' t ht).so (hd _ (List.mem_map.mpr ⟨t, m t ht, rfl⟩))).1
        exact z.symm
      rw [this]
      exact vv
    · have nd := R.nd
      rw [← e1, List.map_map] at nd
      have : (T'.map ((·.2) ∘ fun t : V × Value × D => (addrU t.2.1, keysD t.2.2))) = (T'.map (·.2.2)).map keysD := by rw [List.map_map]; rfl
      rw [this] at nd
      exact nodup_of_map nd
    · obtain ⟨t, ht, rfl⟩ := List.mem_map.mp he
      exact List.mem_map.mpr ⟨t, m t ht, rfl⟩
    · obtain ⟨t0, ht, rfl⟩ := List.mem_map.mp he
      have q := g.all (addrU t0.2.1, keysD t0.2.2) (List.mem_map.mpr ⟨t0, ht, rfl⟩)
      rw [← e1, List.map_map] at q
      obtain ⟨t1, h1, h2⟩ := List.mem_map.mp q
      refine List.mem_map.mpr ⟨t1, h1, ?_⟩
      exact keyRow_inj (hd _ (List.mem_map.mpr ⟨t1, m t1 h1, rfl⟩)) (hd _ he) h2
theorem o_set (hc : X.calm = true) (hu : X.A.units + 66 < cLine) : CallR X (.type "set") (rSet X.K X.w) := by
  intro pins s σ H vs us Q I r h
  obtain ⟨G, d, ds, hd, sm, p, hk, q⟩ := h
  obtain ⟨few, kind⟩ := setKind_of hk
  have hh := I.ok.hd hc
  have fin : ∀ {T : List (V × Value × D)} {h' : Heap} {tk : Nat}, T.map (·.2.2) = ds → (∀ t ∈ T, Tri X G s.heap t) → (∀ b o, s.heap.get? b = some o → h'.get? b = some o) →
      ((∃ L es ep t, ValSet (mixKind X.prog X.w) h' s.heap.objs.size L es ep t ∧ SameV (T.map fun t => (keyD t.2.2, t.2.1)) L ∧ ∀ d ∈ T.map (·.2.2), isKey d = true) ∨
      (∃ L es ep t, RowSet (mixKind X.prog X.w) h' s.heap.objs.size L es ep t ∧ Same1 (T.map fun t => (addrU t.2.1, keysD t.2.2)) L ∧ ∀ d ∈ T.map (·.2.2), isKeyRow d = true)) →
      EP X pins σ Q (.ref s.heap.objs.size) { s with heap := h', toks := tk } := by
    intro T h' tk e tt kp p
    obtain ⟨xs, es, R, rr, nd, me⟩ := set_fin tt (by rw [e]; exact kind) p
    rw [e] at me
    exact ⟨.ref _, upd H s.heap.objs.size (SetHO X.w s.heap.objs.size xs), I.laid (t' := tk) kp (Nat.le_refl _) (setHO_new R), rfl, q _ _ _ (I.hok.fresh (Nat.le_refl _)) rr nd me⟩
  have none0 : s.heap.get? s.heap.objs.size = none := by
    cases z : s.heap.get? s.heap.objs.size with
    | none => rfl
    | some o => exact absurd (Heap.lt_size z) (Nat.lt_irrefl _)
  have uA : X.A.in1.in1.in1.units < cLine := by show X.A.units + 1 + 1 + 1 < cLine; omega
  rcases hd with rfl | rfl
  · obtain ⟨x, rfl, ha⟩ := vp1 p
    obtain ⟨a, xs, rfl, h2, r'⟩ := ha.lst sm
    rw [Vals.ref1 r]
    obtain ⟨its, rv, pl, hz⟩ := I.list (SqL.of (K := X.K) h2)
    obtain ⟨T, t1, t2, t3, tt⟩ := tri_of I sm r' rv (setKind_good kind)
    have lT : T.length < 64 := by rw [← t3, List.length_map] at few; exact few
    rcases kind with kd | kd
    · have kd' : ∀ t ∈ T, isKey t.2.2 = true := fun t ht => isKey_of (kd _ (by rw [← t3]; exact List.mem_map.mpr ⟨t, ht, rfl⟩))
      refine set_of_list (A := X.A) (vof := fun p : Key × Value => p.2) (ks := T.map fun t => (keyD t.2.2, t.2.1)) hh pl.isList ?_ (vals_put (kn := mixKind X.prog X.w) none0 (fun p hp => ?_) (by rw [List.length_map]; exact lT)) (fun h' e k => PutsV.new e k) fun h' tk p => fin t3 tt p.kp ?_
      · rw [← t2, List.map_map]; rfl
      · obtain ⟨t, ht, rfl⟩ := List.mem_map.mp hp
        exact so_key (tt t ht).so (kd' t ht)
      · obtain ⟨L, es, ep, t, R, g⟩ := p.st
        refine .inl ⟨L, es, ep, t, R, g, fun d hd => ?_⟩
        obtain ⟨t, ht, rfl⟩ := List.mem_map.mp hd
        exact kd' t ht
    · have kd' : ∀ t ∈ T, isKeyRow t.2.2 = true := fun t ht => kd _ (by rw [← t3]; exact List.mem_map.mpr ⟨t, ht, rfl⟩)
      refine set_of_list (A := X.A) (vof := fun p : Addr × List Key => Value.ref p.1) (ks := T.map fun t => (addrU t.2.1, keysD t.2.2)) hh pl.isList ?_ (rows_put (kn := mixKind X.prog X.w) leaf_mix none0 (fun p hp => ?_) (by rw [List.length_map]; exact lT) uA) (fun h' e k => Puts.new e k) fun h' tk p => fin t3 tt p.kp ?_
      · rw [← t2, List.map_map]
        exact List.map_congr_left fun t ht => (so_row (X := X) (tt t ht).so (kd' t ht)).1
      · obtain ⟨t, ht, rfl⟩ := List.mem_map.mp hp
        exact (so_row (tt t ht).so (kd' t ht)).2
      · obtain ⟨L, es, ep, t, R, g⟩ := p.st
        refine .inr ⟨L, es, ep, t, R, g, fun d hd => ?_⟩
        obtain ⟨t, ht, rfl⟩ := List.mem_map.mp hd
        exact kd' t ht
  · obtain ⟨x, rfl, ha⟩ := vp1 p
    obtain ⟨a, xs, rfl, h2, r'⟩ := ha.tup
    rw [Vals.ref1 r]
    obtain ⟨its, rv, pl, hz⟩ := I.tuple (Same.seqT sm h2)
    obtain ⟨T, t1, t2, t3, tt⟩ := tri_of I sm r' rv (setKind_good kind)
    have lT : T.length < 64 := by rw [← t3, List.length_map] at few; exact few
    rcases kind with kd | kd
    · have kd' : ∀ t ∈ T, isKey t.2.2 = true := fun t ht => isKey_of (kd _ (by rw [← t3]; exact List.mem_map.mpr ⟨t, ht, rfl⟩))
      refine set_of_tuple (A := X.A) (vof := fun p : Key × Value => p.2) (ks := T.map fun t => (keyD t.2.2, t.2.1)) hh pl ?_ (vals_put (kn := mixKind X.prog X.w) none0 (fun p hp => ?_) (by rw [List.length_map]; exact lT)) (fun h' e k => PutsV.new e k) fun h' tk p => fin t3 tt p.kp ?_
      · rw [← t2, List.map_map]; rfl
      · obtain ⟨t, ht, rfl⟩ := List.mem_map.mp hp
        exact so_key (tt t ht).so (kd' t ht)
      · obtain ⟨L, es, ep, t, R, g⟩ := p.st
        refine .inl ⟨L, es, ep, t, R, g, fun d hd => ?_⟩
        obtain ⟨t, ht, rfl⟩ := List.mem_map.mp hd
        exact kd' t ht
    · have kd' : ∀ t ∈ T, isKeyRow t.2.2 = true := fun t ht => kd _ (by rw [← t3]; exact List.mem_map.mpr ⟨t, ht, rfl⟩)
      refine set_of_tuple (A := X.A) (vof := fun p : Addr × List Key => Value.ref p.1) (ks := T.map fun t => (addrU t.2.1, keysD t.2.2)) hh pl ?_ (rows_put (kn := mixKind X.prog X.w) leaf_mix none0 (fun p hp => ?_) (by rw [List.length_map]; exact lT) uA) (fun h' e k => Puts.new e k) fun h' tk p => fin t3 tt p.kp ?_
      · rw [← t2, List.map_map]
        exact List.map_congr_left fun t ht => (so_row (X := X) (tt t ht).so (kd' t ht)).1
      · obtain ⟨t, ht, rfl⟩ := List.mem_map.mp hp
        exact (so_row (tt t ht).so (kd' t ht)).2
      · obtain ⟨L, es, ep, t, R, g⟩ := p.st
        refine .inr ⟨L, es, ep, t, R, g, fun d hd => ?_⟩
        obtain ⟨t, ht, rfl⟩ := List.mem_map.mp hd
        exact kd' t ht
/-- sorted(a set) -/
def rSortS (K : PySem.W.Frag) (P : Program) (w : World) : List V → Hp → VK → Prop := fun vs H Q => ∃ (G : Hp) (S : Addr) (o : HO) (ds : List D), vs = [.ref S] ∧ H S = some o ∧ Same G H ∧
  (∀ H' h, ObjOk P w H' h S o → ∃ xs es, SetIs w h S xs ∧ RpA K G xs es ∧ es.Nodup ∧ ∀ e, e ∈ es ↔ e ∈ ds) ∧ sortOk (dedup ds) = true ∧
  ∀ (p : Addr) (ys : List V), H p = none → RpA K G ys (sortD (dedup ds)) → Q (.ref p) (upd H p (.lst ys))
theorem o_sortedS (hc : X.calm = true) : CallR X (.builtin "sorted") (rSortS X.K X.prog X.w) := by
  intro pins s σ H vs us Q I r h
  obtain ⟨G, S, o, ds, rfl, hS, sm, hset, hok, q⟩ := h
  rw [Vals.ref1 r]
  obtain ⟨xs, es, R, rr, nd, me⟩ := hset _ _ (I.hok S o hS)
  obtain ⟨en, ep, t, ⟨ob, g1, g2, g3⟩, ft, sz, ri, ld, vv⟩ := R
  have pm : es.Perm (dedup ds) := (List.perm_ext_iff_of_nodup nd (nodup_dedup ds)).mpr fun e => by rw [me, mem_dedup]
  obtain ⟨hlen, so⟩ := sortOk_of hok
  have good : ∀ d ∈ es, isStr d = true ∨ isInt d = true ∨ isRowT d = true := fun d hd => so.good d (pm.mem_iff.mp hd)
  refine Calls.call_function_entry kind_sorted plain_sorted entry_sorted (args_sorted1 _) ?_
  unfold Builtin.«sorted»
  refine wpAny_bind (m := checkCount "sorted" 1 1 _) (wpAny_pure ?_)
  refine wpAny_bind (collect_set (A := X.A.in1) (I.ok.hd hc) ⟨ob, g1, g2.1, g3⟩ ft (by rw [show scanBound = 4096 from rfl]; omega) ri ld fun s1 out k1 hz gg oo pm2 => ?_)
  have I1 : Inv X pins σ H s1 := I.call' (ch := []) oo (Un.kept k1) (I.hok.kept k1) (by rw [gg]; exact I.bare) (fun _ z => nomatch z)
  obtain ⟨T, t1, t2, t3, tt⟩ := tri_of I1 sm rr vv good
  obtain ⟨T1, f1, f2⟩ := perm_lift pm2 (t := T) t2
  have tt1 : ∀ t ∈ T1, Tri X G s1.heap t := fun t ht => tt t (f2.mem_iff.mp ht)
  have so1 : Sort1 (T1.map (·.2.2)) := by
    have pT : (T1.map (·.2.2)).Perm (dedup ds) := (f2.map _).trans (t3 ▸ pm)
    cases so with
    | ofS h => exact .ofS fun d hd => h d (pT.mem_iff.mp hd)
    | ofI h => exact .ofI fun d hd => h d (pT.mem_iff.mp hd)
    | ofR h g => exact .ofR (fun d hd => h d (pT.mem_iff.mp hd)) fun d hd e he => g d (pT.mem_iff.mp hd) e (pT.mem_iff.mp he)
  have lout : out.length ≤ sizeLine := by
    rw [pm2.length_eq, List.length_map, Array.length_toList, sizeLine_eq]; omega
  refine wpAny_bind (wpAny_newList ?_ lout)
  have hoL : (s1.heap.push (seqObj "list" out.toArray 0)).get? s1.heap.objs.size = some (seqObj "list" out.toArray 0) := Heap.get?_push_size _ rfl
  have keep : ∀ b o, s1.heap.get? b = some o → b ≠ s1.heap.objs.size ∧ (s1.heap.push (seqObj "list" out.toArray 0)).get? b = some o := fun b o e => ⟨Nat.ne_of_lt (Heap.lt_size e), Heap.get?_push_of_some _ e⟩
  subst f1
  refine wpAny_bind (wpAny_holding (wpAny_call_entry slot_list_sort ⟨_, hoL, rfl⟩ entry_list_sort (SrtO.list_sort_ord (s := { s1 with heap := s1.heap.push (seqObj "list" (T1.map (·.2.1)).toArray 0) }) (lin_k.swo (vK s1.heap)) hoL lout (fun h2 => ?_) fun out hs hb => ⟨_, rfl, ?_⟩) (args_list_sort _)))
  · exact sortable (s := s1) tt1 so1 h2 hoL keep
  obtain ⟨T', e1, e2⟩ := perm_lift hb.perm (t := T1) rfl
  have tt' : ∀ t ∈ T', Tri X G s1.heap t := fun t ht => tt1 t (e2.mem_iff.mp ht)
  obtain ⟨rr', vv'⟩ := tri_rp tt'
  have es' : T'.map (·.2.2) = sortD (dedup ds) := by
    refine sortD_eq so (((e2.map _).trans (f2.map _)).trans (t3 ▸ pm)) ?_
    rw [← e1] at hs
    have hs := List.pairwise_map.mp hs
    refine List.pairwise_map.mpr (hs.imp_of_mem fun {t u} ht hu g => ?_)
    have g : ltK (vK s1.heap u.2.1) (vK s1.heap t.2.1) = false := g
    rw [(tt' t ht).so.key, (tt' u hu).so.key] at g
    exact g
  rw [es'] at rr'
  subst e1
  obtain ⟨c, hcc⟩ := sortedHeap_at (vs := T1.map (·.2.1)) (out := (T'.map (·.2.1)).toArray) hoL
  have lT : (T'.map (·.1)).length ≤ sizeLine := by
    rw [List.length_map, e2.length_eq]
    rw [List.length_map] at lout
    exact lout
  refine wpAny_pure ⟨_, rfl, .ref s1.heap.objs.size, upd H s1.heap.objs.size (.lst (T'.map (·.1))), I1.laid (t' := s1.toks) (fun b u e => ?_) (Nat.le_refl _) ⟨lT, T'.map (·.2.1), c, vv', hcc⟩, rfl, q _ _ (I1.hok.fresh (Nat.le_refl _)) rr'⟩
  have hlt := Heap.lt_size e
  rw [sortedHeap_old (Nat.ne_of_lt hlt) (by rw [size_push']; exact Nat.lt_succ_of_lt hlt)]
  exact Heap.get?_push_of_some _ e
def apSortedSet : List D → Option (D × Bool)
  | [.list ds] => if setKind ds = true ∧ sortOk (dedup ds) = true then some (.list (sortD (dedup ds)), true) else none
  | [.tuple ds] => if setKind ds = true ∧ sortOk (dedup ds) = true then some (.list (sortD (dedup ds)), true) else none
  | _ => none
end
end EV
namespace EV
open PySem PySem.Spec L2
open PyProof.Rows hiding St

/-! ### walks with any body -/
theorem loop_it {J : It} {n : Nat} {Gp : Hp → Prop} {Y : Nat → Hp → V → Hp → Prop} (w : Walk J n Gp Y) {B : (Hp → Prop) → V → Hp → Prop} {H0 : Hp} {Qd : Hp → Prop} (Pv : Nat → Hp → Prop) (h0 : Pv 0 H0) (hG : ∀ i H, i ≤ n → Pv i H → Gp H)
    (hs : ∀ i x H H', i < n → Pv i H → Y i H x H' → B (Pv (i + 1)) x H') (hd : ∀ H, Pv n H → Qd H) :
    ∃ Z : Nat → Nat → Hp → Prop, (∃ m, Z 0 m H0) ∧ ∀ i m H, Z i m H → (J.stop i H ∧ Qd H) ∨ (J.go i H ∧ ∃ Nx : Hp → Prop, (∀ H', Nx H' → ∃ m', m' < m ∧ Z (i + 1) m' H') ∧ ∀ x H', J.yld i H x H' → B Nx x H') := by
  refine ⟨fun i m H => i ≤ n ∧ m = n - i ∧ Pv i H, ⟨n, Nat.zero_le _, rfl, h0⟩, fun i m H z => ?_⟩
  obtain ⟨hi, rfl, p⟩ := z
  rcases Nat.lt_or_ge i n with lt | ge
  · exact .inr ⟨w.goes i H lt (hG i H hi p), Pv (i + 1), fun H' p' => ⟨n - (i + 1), by omega, lt, rfl, p'⟩, fun x H' y => hs i x H H' lt p (w.yields i H x H' lt (hG i H hi p) y)⟩
  · obtain rfl : i = n := Nat.le_antisymm hi ge
    exact .inl ⟨w.stops H (hG i H hi p), hd H p⟩
/-! ### comprehensions of two clauses -/
def lc2Turn (ap : ApB) (C : CallT) (tg : Tg) (ifs : Te) (ik1 : Ik) (src1 : Exs) (turn1 : D → Ss → Option (Option D × Ss)) (own : List Nat) : D → Ss → Option (List D × Ss) := fun d sl => match asgT tg d (wipeS sl own) with
  | some sl => match evT ap C ifs sl with
    | some (true, sl) => match evEs ap C src1 sl with
      | some (ss, sl) => match itemsOf ik1 ss with
        | some items => lcGo turn1 items sl
        | none => none
      | none => none
    | some (false, sl) => some ([], sl)
    | none => none
  | none => none
def tC2 (o0 : Addr → HO) (put : Addr → V → Hp → (Hp → Prop) → Prop) (wi : TI) (g : TG) (tt : TT) (wi1 : TI) (g1 : TG) (tt1 : TT) (te : TE) (vs vs1 : List Nat) : TE := fun σ H Q => wi σ H fun J H1 => ∀ D, H1 D = none → ∃ W : Nat → Nat → Hp → Prop, (∃ m, W 0 m (upd H1 D (o0 D))) ∧ ∀ i m H, W i m H →
  (J.stop i H ∧ Q (.ref D) H) ∨ (J.go i H ∧ ∃ Nx : Hp → Prop, (∀ H', Nx H' → ∃ m', m' < m ∧ W (i + 1) m' H') ∧ ∀ x H', J.yld i H x H' → g x (wipe σ vs) H' fun σ2 H2 => wipe σ2 vs = wipe σ vs ∧ tt σ2 H2 fun b H3 =>
    if b = true then wi1 σ2 H3 fun J1 H4 => ∃ W1 : Nat → Nat → Hp → Prop, (∃ m, W1 0 m H4) ∧ ∀ j k H, W1 j k H →
      (J1.stop j H ∧ Nx H) ∨ (J1.go j H ∧ ∃ Nx1 : Hp → Prop, (∀ H', Nx1 H' → ∃ k', k' < k ∧ W1 (j + 1) k' H') ∧ ∀ x H', J1.yld j H x H' → g1 x (wipe σ2 vs1) H' fun σ3 H5 => wipe σ3 vs1 = wipe σ2 vs1 ∧ tt1 σ3 H5 fun b H6 =>
        if b = true then te σ3 H6 fun y H7 => put D y H7 Nx1 else Nx1 H6)
    else Nx H3)
theorem tLc2_eq {wi : TI} {g : TG} {tt : TT} {wi1 : TI} {g1 : TG} {tt1 : TT} {te : TE} {vs vs1 : List Nat} : tLc2 wi g tt wi1 g1 tt1 te vs vs1 =
    tC2 (fun _ => .lst []) (fun D y H N => ∃ acc, H D = some (.lst acc) ∧ acc.length < sizeLine ∧ N (upd H D (.lst (acc ++ [y])))) wi g tt wi1 g1 tt1 te vs vs1 := rfl
theorem wipeS_sub {sl : Ss} {us vs : List Nat} (h : ∀ u ∈ us, u ∈ vs) : wipeS (wipeS sl us) vs = wipeS sl vs := by
  refine List.ext_getElem? fun j => ?_
  by_cases hj : j ∈ vs
  · by_cases hl : j < sl.length
    · have l1 : j < (wipeS (wipeS sl us) vs).length := by rw [wipeS_length, wipeS_length]; exact hl
      have l2 : j < (wipeS sl vs).length := by rw [wipeS_length]; exact hl
      have e1 := wipeS_in hj (List.getElem?_eq_getElem l1)
      have e2 := wipeS_in hj (List.getElem?_eq_getElem l2)
      rw [List.getElem?_eq_getElem l1, List.getElem?_eq_getElem l2, e1, e2]
    · rw [List.getElem?_eq_none (by rw [wipeS_length, wipeS_length]; omega), List.getElem?_eq_none (by rw [wipeS_length]; omega)]
  · rw [wipeS_ne hj, wipeS_ne hj, wipeS_ne fun z => hj (h j z)]
theorem wipe_sub {σ : St} {us vs : List Nat} (h : ∀ u ∈ us, u ∈ vs) : wipe (wipe σ us) vs = wipe σ vs := by
  refine List.ext_getElem? fun j => ?_
  by_cases hj : j ∈ vs
  · by_cases hl : j < σ.length
    · rw [wipe_in hj (by rw [wipe_length]; exact hl), wipe_in hj hl]
    · rw [List.getElem?_eq_none (by rw [wipe_length, wipe_length]; omega), List.getElem?_eq_none (by rw [wipe_length]; omega)]
  · rw [wipe_ne hj, wipe_ne hj, wipe_ne fun z => hj (h j z)]
section
variable {X : Cx} {ap : ApB} {C : CallT}
/-- the object at D gathers; rs all that comes, of which ds is there -/
structure Gath (K : PySem.W.Frag) (am : Amb) (Acc : Addr → List V → HO) (D : Addr) (G1 G H : Hp) (sl : Ss) (σ : St) (ds : List EV.D) : Prop where
  ex : ∃ acc : List V, Same G1 G ∧ RS K am G H sl σ ∧ G D = none ∧ H D = some (Acc D acc) ∧ RpA K G acc ds ∧ ∀ (j : Nat) (x : Sl), sl[j]? = some x → x.mut = true → σ[j]? ≠ some (some (.ref D))
theorem Gath.wipe {K : PySem.W.Frag} {am : Amb} {Acc : Addr → List V → HO} {D : Addr} {G1 G H : Hp} {sl : Ss} {σ : St} {ds : List EV.D} (h : Gath K am Acc D G1 G H sl σ ds) {vs : List Nat} (hp : ∀ p ∈ am.pin, p.1 ∉ vs) : Gath K am Acc D G1 G H (wipeS sl vs) (L2.wipe σ vs) ds := by
  obtain ⟨acc, a1, a2, a3, a4, a5, nm⟩ := h
  refine ⟨acc, a1, a2.wipe hp, a3, a4, a5, fun j x e m => ?_⟩
  by_cases hj : j ∈ vs
  · rw [wipeS_in hj e] at m; cases m
  · rw [wipeS_ne hj] at e
    rw [wipe_ne hj]
    exact nm j x e m
/-- behind a turn's end, where D was let alone -/
theorem Gath.back {K : PySem.W.Frag} {am : Amb} {Acc : Addr → List V → HO} {D : Addr} {G1 G0 H0 G H : Hp} {sl0 sl : Ss} {σ0 σ : St} {ds : List EV.D} {acc : List V} (a1 : Same G1 G0) (r0 : RS K am G0 H0 sl0 σ0) (g0 : G0 D = none) (h0 : H0 D = some (Acc D acc)) (p0 : RpA K G0 acc ds) (g : Same G0 G) (r : RS K (am.but D G0 H0) G H sl σ) :
    H D = some (Acc D acc) ∧ G D = none ∧ RpA K G acc ds ∧ RS K am G H sl σ ∧ ∀ (j : Nat) (x : Sl), sl[j]? = some x → x.mut = true → σ[j]? ≠ some (some (.ref D)) := by
  refine ⟨r.frame D _ h0 fun z => z.2 rfl, ?_, p0.mono g, r0.outof r, r.notAt (.inr fun z => z.2 rfl)⟩
  cases z : G D with
  | none => rfl
  | some u =>
    rcases r.gg D (by rw [z]; exact fun h => nomatch h) with h | h
    · exact absurd g0 h
    · exact absurd rfl h.2
/-- an item has come: D is let alone from here on -/
theorem Gath.item {K : PySem.W.Frag} {am : Amb} {Acc : Addr → List V → HO} {D : Addr} {G1 G H G2 H2 : Hp} {sl : Ss} {σ : St} {ds : List EV.D} (h : Gath K am Acc D G1 G H sl σ ds) (b1 : Same H H2) (b2 : Same G G2) (b3 : Same G2 H2) (b4 : ∀ b, G2 b ≠ none → G b ≠ none ∨ H b = none) :
    ∃ acc, Same G1 G2 ∧ RS K am G2 H2 sl σ ∧ G2 D = none ∧ H2 D = some (Acc D acc) ∧ RpA K G2 acc ds ∧ RS K (am.but D G2 H2) G2 H2 sl σ := by
  obtain ⟨acc, a1, a2, a3, a4, a5, nm⟩ := h
  have a2' := a2.grow b1 b2 b3 b4
  have hD := b1 _ _ a4
  have gD : G2 D = none := by
    cases z : G2 D with
    | none => rfl
    | some u =>
      rcases b4 D (by rw [z]; exact fun h => nomatch h) with h | h
      · exact absurd a3 h
      · rw [a4] at h; cases h
  exact ⟨acc, Same.trans a1 b2, a2', gD, hD, a5.mono b2, a2'.into ⟨_, hD⟩ nm⟩
theorem c2_read {tg tg1 : Tg} {ik ik1 : Ik} {src src1 : Exs} {ifs ifs1 : Te} {elt : Ex} {own vs1 : List Nat} {wi wi1 : TI} {g g1 : TG} {tt tt1 : TT} {te : TE} (Acc : Addr → List V → HO) (room : List V → V → Prop) (okR : List EV.D → Prop)
    (hw : ∀ am σ H R, rdI X.K ap C am ik src σ H R → wi σ H R) (hg : ∀ am v σ H Q, rdG X.K am tg v σ H Q → g v σ H Q) (ht : ∀ am σ H Q, rdT X.K ap C am ifs σ H Q → tt σ H Q)
    (hw1 : ∀ am σ H R, rdI X.K ap C am ik1 src1 σ H R → wi1 σ H R) (hg1 : ∀ am v σ H Q, rdG X.K am tg1 v σ H Q → g1 v σ H Q) (ht1 : ∀ am σ H Q, rdT X.K ap C am ifs1 σ H Q → tt1 σ H Q)
    (he : ∀ am σ H Q, rdV X.K ap C am elt σ H Q → te σ H Q) (hs : ∀ u ∈ tg.sls, u ∈ own) (hs1 : ∀ u ∈ tg1.sls, u ∈ vs1) (hv : ∀ u ∈ vs1, u ∈ own)
    (hroom : ∀ G acc ds v d rest, RpA X.K G acc ds → Rp X.K G v d → okR (ds ++ d :: rest) → room acc v) :
    ∀ am σ H (Q : VK), (∃ G sl ss items sl1 rs sl2, RS X.K am G H sl σ ∧ noMut sl own = true ∧ evEs ap C src sl = some (ss, sl1) ∧ noMut sl1 own = true ∧ itemsOf ik ss = some items ∧ lcGo2 (lc2Turn ap C tg ifs ik1 src1 (lcTurn ap C tg1 ifs1 elt vs1) own) items sl1 = some (rs, sl2) ∧ okR rs ∧
      ∀ D G' H' acc, RS X.K am G' H' (restS sl1 sl2 own) σ → Same G G' → G' D = none → am.A D → am.N D → H' D = some (Acc D acc) → RpA X.K G' acc rs → (∀ (j : Nat) (x : Sl), (restS sl1 sl2 own)[j]? = some x → x.mut = true → σ[j]? ≠ some (some (.ref D))) → Q (.ref D) H') →
      tC2 (fun D => Acc D []) (fun D y H N => ∃ acc, H D = some (Acc D acc) ∧ room acc y ∧ N (upd H D (Acc D (acc ++ [y])))) wi g tt wi1 g1 tt1 te own vs1 σ H Q := by
  intro am σ H Q q
  obtain ⟨G, sl, ss, items, sl1, rs, sl2, r, nm0, e1, nm, e2, e3, hok, q⟩ := q
  refine hw am _ _ _ ⟨G, sl, ss, items, sl1, r, e1, e2, fun J GJ HJ r1 gJ wk => ?_⟩
  intro D hD
  obtain ⟨Pw, Y, Wk0, hP, hY⟩ := wk.ex
  obtain ⟨aD, nD⟩ := r1.fresh D hD
  have gD : GJ D = none := Same.free r1.sub hD
  have hpin : ∀ p ∈ am.pin, p.1 ∉ own := fun p hp hz => by
    obtain ⟨_, d, q2⟩ := r1.pin p hp
    unfold noMut at nm
    rw [List.all_eq_true] at nm
    have := nm _ hz
    rw [q2] at this
    cases this
  have hpin1 : ∀ p ∈ am.pin, p.1 ∉ vs1 := fun p hp hz => hpin p hp (hv _ hz)
  refine loop_it Wk0 (B := fun Nx x H' => g x (wipe σ own) H' fun σ2 H2 => wipe σ2 own = wipe σ own ∧ tt σ2 H2 fun b H3 =>
    if b = true then wi1 σ2 H3 fun J1 H4 => ∃ W1 : Nat → Nat → Hp → Prop, (∃ m, W1 0 m H4) ∧ ∀ j k H, W1 j k H →
      (J1.stop j H ∧ Nx H) ∨ (J1.go j H ∧ ∃ Nx1 : Hp → Prop, (∀ H', Nx1 H' → ∃ k', k' < k ∧ W1 (j + 1) k' H') ∧ ∀ x H', J1.yld j H x H' → g1 x (wipe σ2 vs1) H' fun σ3 H5 => wipe σ3 vs1 = wipe σ2 vs1 ∧ tt1 σ3 H5 fun b H6 =>
        if b = true then te σ3 H6 fun y H7 => ∃ acc, H7 D = some (Acc D acc) ∧ room acc y ∧ Nx1 (upd H7 D (Acc D (acc ++ [y]))) else Nx1 H6)
    else Nx H3)
    (fun i H => ∃ G sl ds rest, Gath X.K am Acc D GJ G H (wipeS sl own) (wipe σ own) ds ∧ lcGo2 (lc2Turn ap C tg ifs ik1 src1 (lcTurn ap C tg1 ifs1 elt vs1) own) (items.drop i) sl = some (rest, sl2) ∧ rs = ds ++ rest) ?_ ?_ ?_ ?_
  · exact ⟨GJ, sl1, [], rs, ⟨[], Same.refl _, (r1.lay hD).wipe hpin, gD, upd_same, .nil, (r1.wipe hpin).notAt (.inl hD)⟩, e3, rfl⟩
  · rintro i H hi ⟨G, sl, ds, rest, ⟨acc, a1, a2, _⟩, _⟩
    exact hP H (Same.trans a1 a2.sub)
  · rintro i x H H' hi ⟨G, sl, ds, rest, ga, a6, a7⟩ y
    obtain ⟨acc0, a1, a2, _⟩ := id ga
    obtain ⟨d, G2, hd, b1, b2, b3, b4, b5⟩ := hY i H x H' G a1 a2.sub y
    obtain ⟨acc, c1, c2, c3, c4, c5, r3⟩ := ga.item b1 b2 b3 b4
    have hdrop : items.drop i = d :: items.drop (i + 1) := by
      rw [List.getElem?_eq_getElem hi] at hd
      rw [List.drop_eq_getElem_cons hi, Option.some.inj hd]
    rw [hdrop] at a6
    simp only [lcGo2] at a6
    split at a6
    · rename_i o sl3 e4
      split at a6
      · rename_i rs2 sl4 e5
        cases a6
        unfold lc2Turn at e4
        split at e4
        · rename_i sl5 e6
          refine hg _ _ _ _ _ ⟨G2, wipeS sl own, d, sl5, r3, b5, e6, fun σ2 r4 ag => ?_⟩
          have wσ : wipe σ2 own = wipe σ own := by rw [wipe_agr ag hs, wipe_wipe]
          refine ⟨wσ, ?_⟩
          split at e4
          · rename_i sl6 e7
            split at e4
            · rename_i ss1 sl7 e8
              split at e4
              · rename_i items1 e9
                refine ht _ _ _ _ ⟨G2, sl5, true, sl6, r4, e7, fun G3 H3 r5 g3 => ?_⟩
                refine iteT (hw1 _ _ _ _ ⟨G3, sl6, ss1, items1, sl7, r5, e8, e9, fun J1 G4 H4 r6 g4 wk1 => ?_⟩)
                obtain ⟨Pw1, Y1, Wk1, hP1, hY1⟩ := wk1.ex
                obtain ⟨f1, f2, f3, f4, f5⟩ := Gath.back c1 c2 c3 c4 c5 (Same.trans g3 g4) r6
                refine loop_it Wk1 (B := fun Nx1 x H' => g1 x (wipe σ2 vs1) H' fun σ3 H5 => wipe σ3 vs1 = wipe σ2 vs1 ∧ tt1 σ3 H5 fun b H6 =>
                    if b = true then te σ3 H6 fun y H7 => ∃ acc, H7 D = some (Acc D acc) ∧ room acc y ∧ Nx1 (upd H7 D (Acc D (acc ++ [y]))) else Nx1 H6)
                  (fun j H => ∃ G sl ds1 rest1, Gath X.K am Acc D G4 G H (wipeS sl vs1) (wipe σ2 vs1) (ds ++ ds1) ∧ lcGo (lcTurn ap C tg1 ifs1 elt vs1) (items1.drop j) sl = some (rest1, sl3) ∧ o = ds1 ++ rest1) ?_ ?_ ?_ ?_
                · exact ⟨G4, sl7, [], o, Gath.wipe ⟨acc, Same.refl _, f4, f2, f1, by rw [List.append_nil]; exact f3, f5⟩ hpin1, e4, rfl⟩
                · rintro j H hj ⟨G, sl, ds1, rest1, ⟨acc, a1, a2, _⟩, _⟩
                  exact hP1 H (Same.trans a1 a2.sub)
                · rintro j x H5 H6 hj ⟨G5, sl8, ds1, rest1, gb, a6, a8⟩ y1
                  obtain ⟨acc1, k1, k2, _⟩ := id gb
                  obtain ⟨d1, G6, hd1, b11, b12, b13, b14, b15⟩ := hY1 j H5 x H6 G5 k1 k2.sub y1
                  obtain ⟨acc2, m1, m2, m3, m4, m5, r7⟩ := gb.item b11 b12 b13 b14
                  have hdrop1 : items1.drop j = d1 :: items1.drop (j + 1) := by
                    rw [List.getElem?_eq_getElem hj] at hd1
                    rw [List.drop_eq_getElem_cons hj, Option.some.inj hd1]
                  rw [hdrop1] at a6
                  simp only [lcGo] at a6
                  split at a6
                  · rename_i o1 sl9 e10
                    split at a6
                    · rename_i rs3 sl10 e11
                      cases a6
                      unfold lcTurn at e10
                      split at e10
                      · rename_i sl11 e12
                        refine hg1 _ _ _ _ _ ⟨G6, wipeS sl8 vs1, d1, sl11, r7, b15, e12, fun σ3 r8 ag1 => ?_⟩
                        have wσ1 : wipe σ3 vs1 = wipe σ2 vs1 := by rw [wipe_agr ag1 hs1, wipe_wipe]
                        refine ⟨wσ1, ?_⟩
                        split at e10
                        · rename_i sl12 e13
                          split at e10
                          · rename_i z fz sl13 e14
                            cases e10
                            refine ht1 _ _ _ _ ⟨G6, sl11, true, sl12, r8, e13, fun G7 H7 r9 g7 => ?_⟩
                            refine iteT (he _ _ _ _ ⟨G7, sl12, z, fz, sl9, r9, e14, fun v G8 H8 r10 g8 p8 => ?_⟩)
                            obtain ⟨n1, n2, n3, n4, n5⟩ := Gath.back m1 m2 m3 m4 m5 (Same.trans g7 g8) r10
                            refine ⟨acc2, n1, ?_, ?_⟩
                            · refine hroom G8 acc2 (ds ++ ds1) v z (rs3 ++ rs2) n3 p8 ?_
                              rw [a7, a8] at hok
                              simpa [List.append_assoc] using hok
                            · refine ⟨G8, sl9, ds1 ++ [z], rs3, ?_, e11, by rw [a8]; simp⟩
                              rw [← wσ1]
                              refine Gath.wipe ⟨acc2 ++ [v], Same.trans m1 (Same.trans g7 g8), n4.put n1 n2 aD n5, n2, upd_same, ?_, n5⟩ hpin1
                              rw [← List.append_assoc]
                              exact n3.append (.cons p8 .nil)
                          · cases e10
                        · rename_i sl12 e13
                          cases e10
                          refine ht1 _ _ _ _ ⟨G6, sl11, false, sl9, r8, e13, fun G7 H7 r9 g7 => ?_⟩
                          obtain ⟨n1, n2, n3, n4, n5⟩ := Gath.back m1 m2 m3 m4 m5 g7 r9
                          refine iteF ⟨G7, sl9, ds1, rs3, ?_, e11, a8⟩
                          rw [← wσ1]
                          exact Gath.wipe ⟨acc2, Same.trans m1 g7, n4, n2, n1, n3, n5⟩ hpin1
                        · cases e10
                      · cases e10
                    · cases a6
                  · cases a6
                · rintro H5 ⟨G5, sl8, ds1, rest1, gb, a6, a8⟩
                  rw [List.drop_length] at a6
                  simp only [lcGo] at a6
                  cases a6
                  rw [List.append_nil] at a8
                  subst a8
                  refine ⟨G5, sl3, ds ++ o, rs2, ?_, e5, by rw [a7]; simp⟩
                  obtain ⟨acc3, k1, k2, k3, k4, k5, k6⟩ := gb
                  have := Gath.wipe (Acc := Acc) ⟨acc3, Same.trans (Same.trans c1 (Same.trans g3 g4)) k1, k2, k3, k4, k5, k6⟩ hpin
                  rw [wipeS_sub hv, wipe_sub hv, wσ] at this
                  exact this
              · cases e4
            · cases e4
          · rename_i sl6 e7
            cases e4
            refine ht _ _ _ _ ⟨G2, sl5, false, sl3, r4, e7, fun G3 H3 r5 g3 => ?_⟩
            obtain ⟨f1, f2, f3, f4, f5⟩ := Gath.back c1 c2 c3 c4 c5 g3 r5
            refine iteF ⟨G3, sl3, ds, rs2, ?_, e5, a7⟩
            rw [← wσ]
            exact Gath.wipe ⟨acc, Same.trans c1 g3, f4, f2, f1, f3, f5⟩ hpin
          · cases e4
        · cases e4
      · cases a6
    · cases a6
  · rintro H ⟨G5, sl8, ds, rest, ⟨acc, a1, a2, a3, a4, a5, nmD⟩, a6, a7⟩
    rw [List.drop_length] at a6
    simp only [lcGo2] at a6
    cases a6
    rw [List.append_nil] at a7
    subst a7
    refine q D G5 H acc (r1.unwipe a2 a1 nm) (Same.trans gJ a1) a3 aD nD a4 a5 fun j x hx hm => ?_
    by_cases hj : j ∈ own
    · have hx' := restS_in hj hx
      unfold noMut at nm
      rw [List.all_eq_true] at nm
      have nj := nm j hj
      split at nj
      · rename_i y h1
        rw [List.getD_eq_getElem?_getD, h1] at hx'
        simp only [Option.getD_some] at hx'
        rw [hx'] at hm
        rw [hm] at nj
        cases nj
      · cases nj
    · rw [restS_ne hj] at hx
      have := nmD j x (by rw [wipeS_ne hj]; exact hx) hm
      rw [wipe_ne hj] at this
      exact this
end
end EV
namespace EV
open PySem PySem.Spec L2
open PyProof.Rows hiding St

/-! ### sets of keys as tracked things -/
structure KeySet (P : Program) (w : World) (h : Heap) (a : Addr) (ks : List Key) : Prop where
  ex : ∃ L es ep t, ValSet (mixKind P w) h a L es ep t ∧ (∀ k, k ∈ L.map (·.1) ↔ k ∈ ks) ∧ L.length ≤ ks.length
def KeyHO (P : Program) (w : World) (a : Addr) (ks : List Key) : HO := .ext fun h => KeySet P w h a ks
theorem KeySet.stay {P : Program} {w : World} {h h' : Heap} {a : Addr} {ks : List Key} (R : KeySet P w h a ks) (k : ∀ o, h.get? a = some o → h'.get? a = some o) : KeySet P w h' a ks := by
  obtain ⟨L, es, ep, t, r, g⟩ := R
  exact ⟨L, es, ep, t, r.stay k, g⟩
theorem keyHO_new {P : Program} {w : World} {H : Hp} {h : Heap} {a : Addr} {ks : List Key} (R : KeySet P w h a ks) : ObjOk P w H h a (KeyHO P w a ks) := by
  obtain ⟨L, es, ep, t, r, g⟩ := id R
  obtain ⟨o, e, _⟩ := r.ob
  exact ⟨R, ⟨o, e⟩, fun h1 h2 p k => KeySet.stay p k⟩
theorem kV_of {k : Key} {v : Value} (h : keyIs k v = true) : RelV (kV k) v ∧ v.scannable = true := by
  rcases keyIs_shape h with ⟨i, t, rfl, rfl⟩ | ⟨x, t, rfl, rfl⟩
  · exact ⟨⟨t, rfl⟩, rfl⟩
  · exact ⟨⟨t, rfl⟩, rfl⟩
theorem rel_scan {k : Key} {v : Value} (h : RelV (kV k) v) : v.scannable = true := by
  cases k with
  | inl i => obtain ⟨t, rfl⟩ := (show ∃ t, v = Value.int i t from h); rfl
  | inr x => obtain ⟨t, rfl⟩ := (show ∃ t, v = Value.str x t from h); rfl
theorem rp_key {K : PySem.W.Frag} {G : Hp} (k : Key) : Rp K G (kV k) (kD k) := by
  cases k with
  | inl i => exact .int i
  | inr x => exact .str x
theorem kD_inj {a b : Key} (e : kD a = kD b) : a = b := by
  cases a <;> cases b <;> simp only [kD] at e
  · injection e with e; rw [e]
  · cases e
  · cases e
  · injection e with e; rw [e]
/-- what a set of keys tells -/
theorem keySet_is {P : Program} {w : World} {K : PySem.W.Frag} {G : Hp} {h : Heap} {a : Addr} {ks : List Key} (R : KeySet P w h a ks) : ∃ xs es, SetIs w h a xs ∧ RpA K G xs es ∧ es.Nodup ∧ ∀ e, e ∈ es ↔ e ∈ ks.map kD := by
  obtain ⟨L, es, ep, t, r, g, l⟩ := R
  have rel : ∀ M : List (Key × Value), (∀ p ∈ M, keyIs p.1 p.2 = true) → Vals (M.map fun p => kV p.1) (M.map (·.2)) ∧ RpA K G (M.map fun p => kV p.1) (M.map fun p => kD p.1) := by
    intro M
    induction M with
    | nil => exact fun _ => ⟨.nil, .nil⟩
    | cons p M ih =>
      intro q
      obtain ⟨i1, i2⟩ := ih fun p hp => q p (List.mem_cons_of_mem _ hp)
      exact ⟨.cons (kV_of (q p List.mem_cons_self)).1 i1, .cons (rp_key _) i2⟩
  obtain ⟨v1, v2⟩ := rel L fun p hp => (r.is p hp).1
  refine ⟨_, _, ⟨es, ep, t, r.ob, fit_of r.tab (by rw [env_size r.en, List.length_map]) (by have := r.gap; rw [List.length_map]; omega), by rw [env_size r.en]; exact r.few, r.tab.ris, r.led, ?_⟩, v2, ?_, fun e => ?_⟩
  · rw [r.en, List.map_map]
    exact v1
  · have := List.Pairwise.map (R := fun a b => a ≠ b) (S := fun a b => a ≠ b) kD (fun a b n z => n (kD_inj z)) r.nd
    rw [List.map_map] at this
    exact this
  · constructor
    · intro he
      obtain ⟨p, hp, rfl⟩ := List.mem_map.mp he
      exact List.mem_map.mpr ⟨p.1, (g p.1).mp (List.mem_map.mpr ⟨p, hp, rfl⟩), rfl⟩
    · intro he
      obtain ⟨k, hk, rfl⟩ := List.mem_map.mp he
      obtain ⟨p, hp, e⟩ := List.mem_map.mp ((g k).mpr hk)
      exact List.mem_map.mpr ⟨p, hp, by rw [e]⟩
section
variable {X : Cx}
theorem addK_ok {pins : List (Addr × Obj)} {σ : St} {H : Hp} {s : Shared} {E : Value → Shared → Prop} {D : Addr} {ks : List Key} {k : Key} {v : Value} {Q : Value → Shared → Prop} (I : Inv X pins σ H s) (hD : H D = some (KeyHO X.prog X.w D ks)) (rv : RelV (kV k) v) (few : ks.length + 1 < 64)
    (h : ∀ s', Inv X pins σ (upd H D (KeyHO X.prog X.w D (ks ++ [k]))) s' → Q .none s') : wpAny (model X.prog X.w) X.A (call (.builtin "set.add") [.ref D, v]) Q E s := by
  obtain ⟨L, es, ep, t, r, g, l⟩ := (show KeySet X.prog X.w s.heap D ks from (I.hok D _ hD).1)
  obtain ⟨o, go, gx, gd⟩ := r.ob
  refine wpAny_call_entry F.slot_set_add ⟨o, go, gx.1⟩ F.entry_set_add ?_ (F.args_set_add_2 _ _)
  unfold Builtin.«set.add» Builtin.Frozenset.oneOther
  simp only [List.isEmpty_nil, bind_assoc]
  unfold Builtin.Frozenset.addrOf setAdd
  refine wpAny_bind (wpAny_pure ?_)
  try dsimp only
  refine wpAny_bind (wpAny_pure ?_)
  try dsimp only
  refine wpAny_bind (wpAny_holding (wpAny_bind ((mixKind X.prog X.w).pyHash (kV_is rv) ?_)))
  refine ValSet.add (s := { s with toks := s.toks + 1 }) r (kV_is rv) (rel_scan rv) (by omega) fun b h' L' es' ep' t' sb r2 c1 c2 => ?_
  show wpAny _ _ (ret Value.none) _ _ _
  have new : KeySet X.prog X.w h' D (ks ++ [k]) := by
    refine ⟨L', es', ep', t', r2, fun j => ?_, ?_⟩
    · by_cases c : k ∈ L.map (·.1)
      · rw [c1 c, g j, List.mem_append, List.mem_singleton]
        exact ⟨.inl, fun z => z.elim id fun z => z ▸ (g k).mp c⟩
      · rw [((c2 c).map (·.1)).mem_iff, List.map_cons, List.mem_cons, g j, List.mem_append, List.mem_singleton]
        exact ⟨fun z => z.elim .inr .inl, fun z => z.elim .inr .inl⟩
    · rw [List.length_append]
      by_cases c : k ∈ L.map (·.1)
      · rw [c1 c]; exact Nat.le_trans l (Nat.le_add_right _ _)
      · have := (c2 c).length_eq
        simp only [List.length_cons, List.length_nil] at this ⊢
        omega
  have he : ∃ u, h'.get? D = some u := by
    obtain ⟨o, e, _⟩ := r2.ob
    exact ⟨o, e⟩
  exact wpAny_pure ⟨_, rfl, h _ (I.write (e := D) (t' := s.toks + 1) (by rw [hD]; trivial) (.inl rfl) (fun b u hb hu => (sb.2 b hb).trans hu) he (keyHO_new new))⟩
end

/-! ### a set comprehension of two clauses -/
abbrev sc2E (elt tg iter tg1 iter1 : Expr) (ifs ifs1 : List Expr) (scope : Scope) (pos : Pos) : Expr := .SetComp elt [⟨tg, iter, ifs, 0⟩, ⟨tg1, iter1, ifs1, 0⟩] scope pos
section
variable {prog : Program} {w : World} {A : Around} {R : Result → Shared → Prop} {s : Shared} {elt tg iter tg1 iter1 : Expr} {ifs ifs1 : List Expr} {scope : Scope} {pos : Pos} {it acc : Value} {env : Env}
theorem sc2_turn0 (elt tg iter tg1 iter1 : Expr) (ifs ifs1 : List Expr) (scope : Scope) (pos : Pos) (it acc : Value) (env : Env) :
    compTurn (sc2E elt tg iter tg1 iter1 ifs ifs1 scope pos) 0 it acc env = (do
      standAt iter.pos
      match ← pyNext it with
      | none => pure (.done .next)
      | some item =>
        letOwnedTupleGo tg it item
        assign tg env item
        let mut good := true
        for q in ifs do
          if good then good ← isTrue q env (eval q env)
        if good then
          let y ← eval iter1 env
          standAt iter1.pos
          let y ← foldedSetIterable iter1 env y
          let _ ← runOwn (.compStart (sc2E elt tg iter tg1 iter1 ifs ifs1 scope pos) 1 (← holding [y] (pyIter y)) acc env) env
        again (.compLoop (sc2E elt tg iter tg1 iter1 ifs ifs1 scope pos) 0 it acc env)) := by rfl
theorem sc2_turn1 (elt tg iter tg1 iter1 : Expr) (ifs ifs1 : List Expr) (scope : Scope) (pos : Pos) (it acc : Value) (env : Env) :
    compTurn (sc2E elt tg iter tg1 iter1 ifs ifs1 scope pos) 1 it acc env = (do
      standAt iter1.pos
      match ← pyNext it with
      | none => pure (.done .next)
      | some item =>
        letOwnedTupleGo tg1 it item
        assign tg1 env item
        let mut good := true
        for q in ifs1 do
          if good then good ← isTrue q env (eval q env)
        if good then
          (do let item ← eval elt env; standAt elt.pos; let _ ← call (.builtin "set.add") [acc, item])
        again (.compLoop (sc2E elt tg iter tg1 iter1 ifs ifs1 scope pos) 1 it acc env)) := by rfl
abbrev nb (prog : Program) (w : World) (A : Around) (R : Result → Shared → Prop) (env : Env) : Value → Shared → Prop := notedBy (model prog w) A env fun e s' => R (.error e) s'
abbrev testsOf (cs : List Expr) (env : Env) : Sem Bool := forIn cs true fun c r => if r = true then do let ok ← isTrue c env (eval c env); pure (ForInStep.yield ok) else pure (ForInStep.yield r)
theorem sc2_loop0 (fold : ∀ x, foldedSetIterable iter1 env x = pure x) (I : Nat → Shared → Prop)
    (turn : ∀ n s, I n s → wpAny (model prog w) A (pyNext it) (fun r s1 => match r with
      | none => R (.ok .next) s1
      | some v => wpAny (model prog w) A (letOwnedTupleGo tg it v) (fun _ s2 => wpAny (model prog w) A (assign tg env v) (fun _ s3 => wpAny (model prog w) A (testsOf ifs env) (fun ok s4 =>
          if ok = true then wpAny (model prog w) A (eval iter1 env) (fun x s5 => wpAny (model prog w) A (pyIter x) (fun it1 s6 =>
              codeAny (model prog w) A (.compStart (sc2E elt tg iter tg1 iter1 ifs ifs1 scope pos) 1 it1 acc env) (fun r s' => match r with
                | .ok _ => ∃ m, m < n ∧ I m s'
                | .error _ => False) s6) (nb prog w A R env) s5) (nb prog w A R env) s4
          else ∃ m, m < n ∧ I m s4) (nb prog w A R env) s3) (nb prog w A R env) s2) (nb prog w A R env) s1) (nb prog w A R env) s)
    (n : Nat) (h : I n s) : codeAny (model prog w) A (.compLoop (sc2E elt tg iter tg1 iter1 ifs ifs1 scope pos) 0 it acc env) R s := by
  refine codeAny_loop rfl I (fun n s hI => ?_) n h
  show wpAny _ A ((compTurn (sc2E elt tg iter tg1 iter1 ifs ifs1 scope pos) 0 it acc env).onRaise (fun x => do noteFrame x env; theTreesLotGoes x)) _ _ s
  refine wpAny_noted ?_
  rw [sc2_turn0]
  refine wpAny_bind (wpAny_standAt (wpAny_bind (wpAny_mono (turn n s hI) (fun r s1 h1 => ?_) fun _ _ z => z)))
  cases r with
  | none => exact wpAny_pure h1
  | some v =>
    refine wpAny_bind (wpAny_mono h1 (fun _ s2 h2 => wpAny_bind (wpAny_mono h2 (fun _ s3 h3 => wpAny_bind (wpAny_mono h3 (fun ok s4 h4 => ?_) fun _ _ z => z)) fun _ _ z => z)) fun _ _ z => z)
    cases ok with
    | false => exact wpAny_pure ⟨rfl, h4⟩
    | true =>
      refine wpAny_bind (wpAny_mono h4 (fun x s5 h5 => wpAny_bind (wpAny_standAt (wpAny_bind (wpAny_of_eq (fold x) (wpAny_bind (wpAny_holding (wpAny_mono h5 (fun it1 s6 h6 => ?_) fun _ _ z => z))))))) fun _ _ z => z)
      refine wpAny_bind (wpAny_runOwn ?_)
      rw [Around.mark_none]
      refine codeAny_mono h6 fun r s' hr => ?_
      cases r with
      | error e => exact hr.elim
      | ok f =>
        first
          | exact wpAny_pure ⟨rfl, hr⟩
          | exact wpAny_bind (wpAny_pure (wpAny_pure ⟨rfl, hr⟩))
theorem sc2_loop1 (I : Nat → Shared → Prop)
    (turn : ∀ n s, I n s → wpAny (model prog w) A (pyNext it) (fun r s1 => match r with
      | none => R (.ok .next) s1
      | some v => wpAny (model prog w) A (letOwnedTupleGo tg1 it v) (fun _ s2 => wpAny (model prog w) A (assign tg1 env v) (fun _ s3 => wpAny (model prog w) A (testsOf ifs1 env) (fun ok s4 =>
          if ok = true then wpAny (model prog w) A (eval elt env) (fun x s5 => wpAny (model prog w) A (call (.builtin "set.add") [acc, x]) (fun _ s6 => ∃ m, m < n ∧ I m s6) (nb prog w A R env) s5) (nb prog w A R env) s4
          else ∃ m, m < n ∧ I m s4) (nb prog w A R env) s3) (nb prog w A R env) s2) (nb prog w A R env) s1) (nb prog w A R env) s)
    (n : Nat) (h : I n s) : codeAny (model prog w) A (.compLoop (sc2E elt tg iter tg1 iter1 ifs ifs1 scope pos) 1 it acc env) R s := by
  refine codeAny_loop rfl I (fun n s hI => ?_) n h
  show wpAny _ A ((compTurn (sc2E elt tg iter tg1 iter1 ifs ifs1 scope pos) 1 it acc env).onRaise (fun x => do noteFrame x env; theTreesLotGoes x)) _ _ s
  refine wpAny_noted ?_
  rw [sc2_turn1]
  refine wpAny_bind (wpAny_standAt (wpAny_bind (wpAny_mono (turn n s hI) (fun r s1 h1 => ?_) fun _ _ z => z)))
  cases r with
  | none => exact wpAny_pure h1
  | some v =>
    refine wpAny_bind (wpAny_mono h1 (fun _ s2 h2 => wpAny_bind (wpAny_mono h2 (fun _ s3 h3 => wpAny_bind (wpAny_mono h3 (fun ok s4 h4 => ?_) fun _ _ z => z)) fun _ _ z => z)) fun _ _ z => z)
    cases ok with
    | false => exact wpAny_pure ⟨rfl, h4⟩
    | true =>
      exact wpAny_bind (wpAny_bind (wpAny_mono h4 (fun x s5 h5 => wpAny_bind (wpAny_standAt (wpAny_bind (wpAny_mono h5 (fun _ s6 h6 => wpAny_pure (wpAny_pure ⟨rfl, h6⟩)) fun _ _ z => z)))) fun _ _ z => z))
theorem sc2_start1 (h0 : codeAny (model prog w) A (.compLoop (sc2E elt tg iter tg1 iter1 ifs ifs1 scope pos) 1 it acc env) R s)
    (h : wpAny (model prog w) A (pyIter it) (fun it' s' => codeAny (model prog w) A (.compLoop (sc2E elt tg iter tg1 iter1 ifs ifs1 scope pos) 1 it' acc env) R s') (nb prog w A R env) s) :
    codeAny (model prog w) A (.compStart (sc2E elt tg iter tg1 iter1 ifs ifs1 scope pos) 1 it acc env) R s := by
  refine codeAny_of_tree ?_
  show wpAny _ _ ((compStart (sc2E elt tg iter tg1 iter1 ifs ifs1 scope pos) 1 it acc env).onRaise (fun x => do noteFrame x env; standAt theWindowsPlace)) _ _ s
  refine wpAny_notedAt ?_
  unfold compStart
  show wpAny _ _ (ask >>= _) _ _ s
  refine wpAny_bind (wpAny_askSetting (wpAny_ite ?_))
  split
  · first
      | exact wpAny_bind (wpAny_pure (wpAny_pure (And.intro rfl h0)))
      | exact wpAny_pure (And.intro rfl h0)
  · first
      | exact wpAny_bind (wpAny_rule (wpAny_bind (wpAny_standAt (wpAny_bind (wpAny_mono h (fun it' s' h' => wpAny_pure (And.intro rfl h')) fun _ _ x => x)))))
      | (refine wpAny_bind (wpAny_rule ?_); show wpAny _ _ (standAt iter1.pos >>= _) _ _ s; exact wpAny_bind (wpAny_standAt (wpAny_bind (wpAny_mono h (fun it' s' h' => wpAny_pure (And.intro rfl h')) fun _ _ x => x))))
end
section
variable {X : Cx}
def keyV : V → Key
  | .int i => .inl i
  | .str x => .inr x
  | _ => .inl 0
theorem keyV_kV (k : Key) : keyV (kV k) = k := by cases k <;> rfl
def AccS (P : Program) (w : World) (D : Addr) (acc : List V) : HO := KeyHO P w D (acc.map keyV)
def roomS (acc : List V) (y : V) : Prop := (∃ k, y = kV k) ∧ acc.length + 1 < 64
abbrev putS (P : Program) (w : World) : Addr → V → Hp → (Hp → Prop) → Prop := fun D y H N => ∃ acc, H D = some (AccS P w D acc) ∧ roomS acc y ∧ N (upd H D (AccS P w D (acc ++ [y])))
/-- the parts in a block -/
abbrev InBlk (X : Cx) (scope : Scope) (f : Cx → Prop) : Prop := ∀ (s : Shared) (H : Hp) (C : Addr) (cl : List (Str × Addr)) (fp : List Addr), f (X.blk s H scope (compEnvC scope cl C X.env) fp)
theorem pe_sc2 {elt tg iter tg1 iter1 : Expr} {ifs ifs1 : List Expr} {scope : Scope} {own : List (Str × Nat)} {vs1 : List Nat} {pos : Pos} {wi wi1 : TI} {g g1 : TG} {tt tt1 : TT} {te : TE} (hc : X.calm = true) (hN : X.N.Nodup) (hi : PI X tg iter wi) (ok : BlkOk X.N X.env.scope scope own) (hv : ∀ i ∈ vs1, i ∈ own.map (·.2))
    (hg : InBlk X scope fun Y => PG Y tg g) (ht : InBlk X scope fun Y => PTs Y ifs tt) (hi1 : InBlk X scope fun Y => PI Y tg1 iter1 wi1) (hg1 : InBlk X scope fun Y => PG Y tg1 g1) (ht1 : InBlk X scope fun Y => PTs Y ifs1 tt1) (he : InBlk X scope fun Y => PE Y elt te)
    (hs : ∀ x, foldedSetIterable iter X.env x = pure x) (hs1 : ∀ env x, foldedSetIterable iter1 env x = pure x) :
    PE X (sc2E elt tg iter tg1 iter1 ifs ifs1 scope pos) (tC2 (fun D => AccS X.prog X.w D []) (putS X.prog X.w) wi g tt wi1 g1 tt1 te (own.map (·.2)) vs1) := by
  refine ⟨fun pins s σ H Q I h => ?_⟩
  rw [PpSet.eval_SetComp]
  have hfree : ∀ y ∈ scope.names, y.2 = .free → ∃ c, X.env.cells.lookup y.1 = some c := fun y hy e => (ok.free y hy e).elim (fun k => I.ok.has _ (.inl k)) fun k => I.ok.has _ (.inr k)
  show wpAny _ _ (comprehension (sc2E elt tg iter tg1 iter1 ifs ifs1 scope pos) scope X.env _ (newSet (.type "set")) false (eval iter X.env) none) _ _ s
  refine wpAny_comprehension_free (use := none) rfl hs (closure_ok hfree) ok.kind (fun y hy e => by rw [ok.uniq y hy, e]) (thn (hi.run pins s σ H _ I h) fun xv s1 hx => thn hx fun itv s2 h2 => ?_)
  obtain ⟨it, fp, tn, J, H2, e, I2, T, st2, f2, q⟩ := h2
  subst e
  refine PpSet.newSet_ok (newEnv_comp ?_)
  generalize hD : s2.heap.objs.size = D
  obtain ⟨W, ⟨m0, w0⟩, turn⟩ := q D (I2.hok.fresh (Nat.le_of_eq hD))
  generalize hs3 : ({ s2 with heap := s2.heap.push { cls := .type "set", dict := none, data := .set #[] 0 (.fresh 0 0 (!X.w.params.followText "set-order")) } } : Shared) = s3
  have h3 : s3.heap = s2.heap.push (newSetO X.w) := by rw [← hs3]; rfl
  have I3 : Inv X pins σ (upd H2 D (AccS X.prog X.w D [])) s3 := by
    rw [← hs3]
    refine I2.laid (t' := s2.toks) (fun b o e => Heap.get?_push_of_some _ e) (Nat.le_of_eq hD) ?_
    rw [← hD]
    exact keyHO_new ⟨[], #[], 0, _, ValSet.fresh (Heap.get?_push_size _ rfl), fun k => Iff.rfl, Nat.le_refl _⟩
  have sz : ∀ b ∈ fp, b < s2.heap.objs.size := fun b hb => let ⟨_, e, _⟩ := T.obj _ _ st2 b hb; Heap.lt_size e
  have f3 : ∀ b ∈ fp, FpOk X pins (upd H2 D (AccS X.prog X.w D [])) b ∧ b < s3.heap.objs.size := fun b hb => by
    have ne : b ≠ D := by rw [← hD]; exact Nat.ne_of_lt (sz b hb)
    refine ⟨⟨by rw [upd_ne ne]; exact (f2 b hb).1, (f2 b hb).2⟩, ?_⟩
    rw [h3, Heap.size_push]
    exact Nat.lt_succ_of_lt (sz b hb)
  have st3 : tn 0 s3.heap := T.keep _ _ _ st2 fun b _ o e => by rw [h3]; exact Heap.get?_push_of_some _ e
  have I4 := block_start I3 ok hN f3
  have go : ∀ {f : Cx → Prop}, InBlk X scope f → f (X.blk s3 (upd H2 D (AccS X.prog X.w D [])) scope (compEnvC scope (cellsFrom (s3.heap.objs.size + 1) scope.names (cloFrom X.env.cells scope.names [])) s3.heap.objs.size X.env) fp) := fun k => k _ _ _ _ _
  have pg := go hg
  have pt := go ht
  have pe := go he
  have pi1 := go hi1
  have pg1 := go hg1
  have pt1 := go ht1
  clear go
  show codeAny _ _ (.compStart (sc2E elt tg iter tg1 iter1 ifs ifs1 scope pos) 0 (.ref it) (.ref D) (compEnvC scope (cellsFrom (s3.heap.objs.size + 1) scope.names (cloFrom X.env.cells scope.names [])) s3.heap.objs.size X.env)) (compPost (model X.prog X.w) X.A X.xe none _ (.ref D) s3.heap.objs.size) { s3 with heap := pushCells (s3.heap.push { cls := .type "dict", data := .dict #[] }) scope.names }
  have nfp : ∀ b ∈ fp, (upd H2 D (AccS X.prog X.w D [])) b = none := fun b hb => (f3 b hb).1.1
  generalize hce : compEnvC scope (cellsFrom (s3.heap.objs.size + 1) scope.names (cloFrom X.env.cells scope.names [])) s3.heap.objs.size X.env = ce at I4 pg pt pe pi1 pg1 pt1 ⊢
  have cL : ce.locals = s3.heap.objs.size := by subst hce; rfl
  generalize hH3 : upd H2 D (AccS X.prog X.w D []) = H3 at I3 I4 pg pt pe pi1 pg1 pt1 w0 nfp f3
  generalize hs4 : ({ s3 with heap := pushCells (s3.heap.push { cls := .type "dict", data := .dict #[] }) scope.names } : Shared) = s4 at I4 ⊢
  have st4 : tn 0 s4.heap := T.keep _ _ _ st3 fun b _ o e => by rw [← hs4]; exact pushCells_keeps _ _ _ _ (Heap.get?_push_of_some _ e)
  have stat : ∀ {σ' : St} {H' : Hp} {s' : Shared}, Inv (X.blk s3 H3 scope ce fp) [] σ' H' s' → (∀ b ∈ fp, H' b = none) → ∀ b ∈ fp, FpOk (X.blk s3 H3 scope ce fp) [] H' b := fun I' hn b hb =>
    ⟨hn b hb, (I'.ok.exf b hb).1, I'.ok.exfs b hb, .inl hb, fun x c e => (I'.ok.exf b hb).2 x c e, fun p hp => absurd (show p ∈ ([] : List (Addr × Obj)) ++ [] from hp) (by simp)⟩
  have loop : codeAny (model X.prog X.w) X.A (.compLoop (sc2E elt tg iter tg1 iter1 ifs ifs1 scope pos) 0 (.ref it) (.ref D) ce) (compPost (model X.prog X.w) X.A X.xe none (EP X pins σ Q) (.ref D) s3.heap.objs.size) s4 := by
    refine sc2_loop0 (hs1 ce) (fun n s' => ∃ i H', Inv (X.blk s3 H3 scope ce fp) [] (wipe σ (own.map (·.2))) H' s' ∧ tn i s'.heap ∧ (∀ b ∈ fp, H' b = none) ∧ W i n H') ?_ m0 ⟨0, H3, I4, st4, nfp, w0⟩
    rintro n s5 ⟨i, H5, I5, st5, n5, w5⟩
    rcases turn i n H5 w5 with ⟨stop, qq⟩ | ⟨goes, Nx, hNx, step⟩
    · refine thnF (T.done (X.blk s3 H3 scope ce fp) rfl rfl rfl hc i [] s5 _ H5 (fun _ _ => False) I5 (stat I5 n5) st5 stop) fun r s6 ⟨hr, I6⟩ => ?_
      subst hr
      have I7 : Inv X pins σ H5 s6 := I3.call' (ch := fp) I6.os I6.base I6.hok I6.bare fun b hb => let z := (f3 b hb).1.2; ⟨z.2.2.1, z.1, z.2.2.2.1, z.2.2.2.2⟩
      have nC : H5 s3.heap.objs.size = none := by
        have z : H5 ce.locals = none := I6.free
        rwa [cL] at z
      obtain ⟨m, hn, _⟩ := I6.loc
      have hn : s6.heap.Ns ce.locals m := hn
      rw [cL] at hn
      obtain ⟨k0, k1, k2, k3, k4, k5⟩ := I3.fpOk (Nat.le_refl _) nC
      exact ⟨m, hn, fun h'' sb => ⟨.ref D, H5, I7.turned (t' := s6.toks) (fun b o hb e => (sb.2 b hb).trans e) k0 k1 k3 k4 k5, rfl, qq⟩⟩
    · refine thnF (T.item (X.blk s3 H3 scope ce fp) rfl rfl rfl hc i [] s5 _ H5 (fun _ _ => False) I5 (stat I5 n5) st5 goes) fun r s6 ⟨u, hr, h6⟩ => ?_
      subst hr
      refine thnF h6 fun _ s7 ⟨x, H7, I7, r7, y7, st7, n7⟩ => ?_
      refine thnF (pg.run _ s7 _ H7 x u _ (I7.pinned (stat I7 n7) (T.obj _ _ st7)) r7 (step x H7 y7)) fun _ s8 ⟨σ8, H8, I8, hw8, q8⟩ => ?_
      refine thnF (pt.run _ s8 σ8 H8 _ I8 q8) fun b s9 ⟨H9, I9, q9⟩ => ?_
      have fin : ∀ {σ9 : St} {s' : Shared} {H' : Hp}, Inv (X.blk s3 H3 scope ce fp) ([] ++ pinsAt fp s7.heap) σ9 H' s' → (wipe σ (own.map (·.2))).length = σ9.length → (∀ (j : Nat) v, (wipe σ (own.map (·.2)))[j]? = some (some v) → σ9[j]? = some (some v)) → Nx H' →
          ∃ m, m < n ∧ ∃ i H', Inv (X.blk s3 H3 scope ce fp) [] (wipe σ (own.map (·.2))) H' s' ∧ tn i s'.heap ∧ (∀ b ∈ fp, H' b = none) ∧ W i m H' := fun {σ9 s' H'} I' hl hk nx => by
        obtain ⟨m', hm, w'⟩ := hNx H' nx
        have pin' : ∀ b ∈ fp, ∀ o, s7.heap.get? b = some o → s'.heap.get? b = some o ∧ H' b = none := fun b hb o e =>
          let z := I'.pin (b, o) (List.mem_append_right _ (List.mem_append_right _ (mem_pinsAt hb e)))
          ⟨z.1, z.2.1⟩
        exact ⟨m', hm, i + 1, H', (I'.unpinned (pins := [])).weak hl hk, T.keep _ _ _ st7 fun b hb o e => (pin' b hb o e).1, fun b hb => let ⟨o, e, _⟩ := T.obj _ _ st7 b hb; (pin' b hb o e).2, w'⟩
      have hl8 : (wipe σ (own.map (·.2))).length = σ8.length := by rw [← hw8, wipe_length]
      have hk8 : ∀ (j : Nat) v, (wipe σ (own.map (·.2)))[j]? = some (some v) → σ8[j]? = some (some v) ∧ j ∉ own.map (·.2) := fun j v e => wipe_some (by rw [hw8]; exact e)
      cases b with
      | false =>
        simp only [Bool.false_eq_true, if_false] at q9 ⊢
        exact fin I9 hl8 (fun j v e => (hk8 j v e).1) q9
      | true =>
        simp only [if_true] at q9 ⊢
        refine thnF (pi1.run _ s9 σ8 H9 _ I9 q9) fun xv s10 hx => thnF hx fun itv s11 h11 => ?_
        obtain ⟨it1, fp1, tn1, J1, H11, e1, I11, T1, st11, f11, W1, ⟨m1, w1⟩, turn1⟩ := h11
        subst e1
        have stat1 : ∀ {H' : Hp}, (∀ b ∈ fp1, H' b = none) → ∀ b ∈ fp1, FpOk (X.blk s3 H3 scope ce fp) ([] ++ pinsAt fp s7.heap) H' b := fun hn b hb => ⟨hn b hb, (f11 b hb).2⟩
        have loop1 : codeAny (model X.prog X.w) X.A (.compLoop (sc2E elt tg iter tg1 iter1 ifs ifs1 scope pos) 1 (.ref it1) (.ref D) ce)
            (fun r s' => match r with
              | .ok _ => ∃ m, m < n ∧ ∃ i H', Inv (X.blk s3 H3 scope ce fp) [] (wipe σ (own.map (·.2))) H' s' ∧ tn i s'.heap ∧ (∀ b ∈ fp, H' b = none) ∧ W i m H'
              | .error _ => False) s11 := by
          refine sc2_loop1 (fun k s' => ∃ j H', Inv (X.blk s3 H3 scope ce fp) ([] ++ pinsAt fp s7.heap) (wipe σ8 vs1) H' s' ∧ tn1 j s'.heap ∧ (∀ b ∈ fp1, H' b = none) ∧ W1 j k H') ?_ m1 ⟨0, H11, I11.weak (wipe_length _ _) (fun j v e => (wipe_some e).1), st11, fun b hb => (f11 b hb).1, w1⟩
          rintro k s12 ⟨j, H12, I12, st12, n12, w12⟩
          rcases turn1 j k H12 w12 with ⟨stop1, nx1⟩ | ⟨goes1, Nx1, hNx1, step1⟩
          · refine thnF (T1.done (X.blk s3 H3 scope ce fp) rfl rfl rfl hc j _ s12 (wipe σ8 vs1) H12 (fun _ _ => False) I12 (stat1 n12) st12 stop1) fun r s13 ⟨hr, I13⟩ => ?_
            subst hr
            refine fin I13 (hl8.trans (wipe_length σ8 vs1).symm) (fun j v e => ?_) nx1
            obtain ⟨z1, z2⟩ := hk8 j v e
            rw [wipe_ne fun z => z2 (hv j z)]
            exact z1
          · refine thnF (T1.item (X.blk s3 H3 scope ce fp) rfl rfl rfl hc j _ s12 (wipe σ8 vs1) H12 (fun _ _ => False) I12 (stat1 n12) st12 goes1) fun r s13 ⟨u1, hr, h13⟩ => ?_
            subst hr
            refine thnF h13 fun _ s14 ⟨x1, H14, I14, r14, y14, st14, n14⟩ => ?_
            refine thnF (pg1.run _ s14 (wipe σ8 vs1) H14 x1 u1 _ (I14.pinned (stat1 n14) (T1.obj _ _ st14)) r14 (step1 x1 H14 y14)) fun _ s15 ⟨σ15, H15, I15, hw15, q15⟩ => ?_
            refine thnF (pt1.run _ s15 σ15 H15 _ I15 q15) fun b1 s16 ⟨H16, I16, q16⟩ => ?_
            have fin1 : ∀ {s' : Shared} {H' : Hp}, Inv (X.blk s3 H3 scope ce fp) (([] ++ pinsAt fp s7.heap) ++ pinsAt fp1 s14.heap) σ15 H' s' → Nx1 H' → ∃ m, m < k ∧ ∃ j H', Inv (X.blk s3 H3 scope ce fp) ([] ++ pinsAt fp s7.heap) (wipe σ8 vs1) H' s' ∧ tn1 j s'.heap ∧ (∀ b ∈ fp1, H' b = none) ∧ W1 j m H' := fun {s' H'} I' nx => by
              obtain ⟨m', hm, w'⟩ := hNx1 H' nx
              have pin' : ∀ b ∈ fp1, ∀ o, s14.heap.get? b = some o → s'.heap.get? b = some o ∧ H' b = none := fun b hb o e =>
                let z := I'.pin (b, o) (List.mem_append_right _ (List.mem_append_right _ (mem_pinsAt hb e)))
                ⟨z.1, z.2.1⟩
              exact ⟨m', hm, j + 1, H', I'.unpinned.weak (by rw [← hw15, wipe_length]) (fun j v e => (wipe_some (by rw [hw15]; exact e)).1), T1.keep _ _ _ st14 fun b hb o e => (pin' b hb o e).1, fun b hb => let ⟨o, e, _⟩ := T1.obj _ _ st14 b hb; (pin' b hb o e).2, w'⟩
            cases b1 with
            | false =>
              simp only [Bool.false_eq_true, if_false] at q16 ⊢
              exact fin1 I16 q16
            | true =>
              simp only [if_true] at q16 ⊢
              refine thnF (pe.run _ s16 σ15 H16 _ I16 q16) fun z s17 ⟨yv, H17, I17, r17, acc, hD17, ⟨⟨kk, ek⟩, hz17⟩, nx⟩ => ?_
              subst ek
              unfold AccS at nx hD17
              rw [List.map_append, List.map_cons, List.map_nil, keyV_kV] at nx
              exact addK_ok (X := X.blk s3 H3 scope ce fp) I17 hD17 r17 (by rw [List.length_map]; exact hz17) fun s18 I18 => fin1 I18 nx
        exact sc2_start1 loop1 (T1.self X.A 0 _ _ _ st11 loop1)
  exact PpSet.codeAny_compStart_set loop (T.self X.A 0 _ _ _ st4 loop)
end
end EV
namespace EV
open PySem PySem.Spec L2
open PyProof.Rows hiding St

section
variable {X : Cx} {ap : ApB} {C : CallT}
/-- a new list at p -/
theorem RS.newL {am : Amb} {G H : Hp} {sl : Ss} {σ : St} (r : RS X.K am G H sl σ) {p : Addr} {ys : List V} {ds : List D} (hp : H p = none) (h : RpA X.K G ys ds) : RS X.K am G (upd H p (.lst ys)) sl σ ∧ Res X.K am G (upd H p (.lst ys)) sl σ (.ref p) (.list ds) true := by
  obtain ⟨aD, nD⟩ := r.fresh p hp
  exact ⟨r.lay hp, p, rfl, Same.free r.sub hp, aD, nD, ⟨ys, upd_same, h⟩, r.notAt (.inl hp)⟩
/-! ### sorted(set(e)) -/
theorem ee_sortedSet {ca : Ex} {a : Expr} {p p2 pos pos2 : Pos} (hap : ap .sortedSet = apSortedSet) (hc : X.calm = true) (hu : X.A.units + 66 < cLine) (hg : Gl X "sorted") (hm : X.mg "sorted" = none) (hg2 : Gl X "set") (hm2 : X.mg "set" = none) (ha : EO X ap C ca a) (n : noStar a = true) :
    EE X ap C (.bi .sortedSet (.cons ca .nil)) (.Call (.Name "sorted" p) [.Call (.Name "set" p2) [a] [] pos2] [] pos) := fun am =>
  pe_weak (pe_callB (o_sortedS hc) hg hm (by decide +kernel) (pa_cons (pe_callTy (o_set hc hu) hg2 hm2 (by decide +kernel) (pa_cons (ha am) pa_nil (star_cons n)) (by decide) (by decide) (star_cons n) rfl) pa_nil (star_cons rfl)) (by decide) (by decide) (star_cons rfl) rfl) fun σ H Q q => by
    obtain ⟨G, sl, d, fr, sl', r, e, q⟩ := q
    obtain ⟨os, ds, e0, e1, e2⟩ := bi_split e
    obtain ⟨oa, e3, rfl⟩ := evOs_one e0
    refine ⟨G, sl, oa, _, r, e3, fun v G1 H1 r1 g1 o1 => ?_⟩
    have pk := r1.derefs (.cons o1 .nil) e1
    rw [hap] at e2
    have fin : ∀ l x, ds = [x] → (x = .list l ∨ x = .tuple l) → setKind l = true → sortOk (dedup l) = true → d = .list (sortD (dedup l)) → fr = true → rSet X.K X.w [v] H1 (fun x H2 => rSortS X.K X.prog X.w [x] H2 Q) := fun l x hx hxl k1 k2 hd hf => by
      subst hx hd hf
      refine ⟨G1, x, l, hxl, r1.sub, pk, k1, fun S xs es hS rr nd me => ⟨G1, S, SetHO X.w S xs, l, rfl, upd_same, fun b o q => ?_, fun H' h ok => ⟨xs, es, ok.1, rr, nd, me⟩, k2, fun p ys hp rys => ?_⟩⟩
      · have q' := r1.sub b o q
        rw [upd_ne (ne_of_none q' hS)]
        exact q'
      · obtain ⟨r2, r3⟩ := (r1.lay (u := SetHO X.w S xs) hS).newL hp rys
        exact q _ _ _ r2 g1 r3
    unfold apSortedSet at e2
    split at e2
    · split at e2
      · rename_i hk
        cases e2
        exact fin _ _ rfl (.inl rfl) hk.1 hk.2 rfl rfl
      · cases e2
    · split at e2
      · rename_i hk
        cases e2
        exact fin _ _ rfl (.inr rfl) hk.1 hk.2 rfl rfl
      · cases e2
    · cases e2
/-! ### [.. for .. for ..] -/
theorem evE_c2 {st : Bool} {elt : Ex} {tg : Tg} {ik : Ik} {src : Exs} {ifs : Te} {tg1 : Tg} {ik1 : Ik} {src1 : Exs} {ifs1 : Te} {own own1 : List Nat} {sl : Ss} : evE ap C (.c2 st elt tg ik src ifs tg1 ik1 src1 ifs1 own own1) sl = (match noMut sl own, evEs ap C src sl with
    | true, some (ss, sl) => match noMut sl own, itemsOf ik ss with
      | true, some items => match lcGo2 (lc2Turn ap C tg ifs ik1 src1 (lcTurn ap C tg1 ifs1 elt own1) own) items sl with
        | some (rs, sl') => match st with
          | true => if rs.length < 64 ∧ rs.all isKey = true then match ap .sortedSet [.list rs] with
              | some (d, true) => some (d, true, restS sl sl' own)
              | _ => none
            else none
          | false => if rs.length ≤ sizeLine then some (.list rs, true, restS sl sl' own) else none
        | none => none
      | _, _ => none
    | _, _ => none) := by
  simp only [evE]
  rfl
structure C2Rd (X : Cx) (ap : ApB) (C : CallT) (tg : Tg) (ik : Ik) (src : Exs) (ifs : Te) (tg1 : Tg) (ik1 : Ik) (src1 : Exs) (ifs1 : Te) (elt : Ex) (own vs1 : List Nat) (wi : TI) (g : TG) (tt : TT) (wi1 : TI) (g1 : TG) (tt1 : TT) (te : TE) : Prop where
  hw : ∀ am σ H R, rdI X.K ap C am ik src σ H R → wi σ H R
  hg : ∀ am v σ H Q, rdG X.K am tg v σ H Q → g v σ H Q
  ht : ∀ am σ H Q, rdT X.K ap C am ifs σ H Q → tt σ H Q
  hw1 : ∀ am σ H R, rdI X.K ap C am ik1 src1 σ H R → wi1 σ H R
  hg1 : ∀ am v σ H Q, rdG X.K am tg1 v σ H Q → g1 v σ H Q
  ht1 : ∀ am σ H Q, rdT X.K ap C am ifs1 σ H Q → tt1 σ H Q
  he : ∀ am σ H Q, rdV X.K ap C am elt σ H Q → te σ H Q
  hs : ∀ u ∈ tg.sls, u ∈ own
  hs1 : ∀ u ∈ tg1.sls, u ∈ vs1
  hv : ∀ u ∈ vs1, u ∈ own
section
variable {tg tg1 : Tg} {ik ik1 : Ik} {src src1 : Exs} {ifs ifs1 : Te} {elt : Ex} {own vs1 : List Nat} {wi wi1 : TI} {g g1 : TG} {tt tt1 : TT} {te : TE}
theorem lc2_read (h : C2Rd X ap C tg ik src ifs tg1 ik1 src1 ifs1 elt own vs1 wi g tt wi1 g1 tt1 te) : ∀ am σ H Q, rdE X.K ap C am (.c2 false elt tg ik src ifs tg1 ik1 src1 ifs1 own vs1) σ H Q → tLc2 wi g tt wi1 g1 tt1 te own vs1 σ H Q := by
  intro am σ H Q q
  obtain ⟨G, sl, d, fr, sl', r, e, q⟩ := q
  rw [evE_c2] at e
  split at e
  · rename_i ss sl1 nm0 e1
    split at e
    · rename_i items nm e2
      split at e
      · rename_i rs sl2 e3
        simp only at e
        split at e
        · rename_i hsz
          cases e
          rw [tLc2_eq]
          refine c2_read (ap := ap) (C := C) (Acc := fun _ acc => .lst acc) (room := fun acc _ => acc.length < sizeLine) (okR := fun rs => rs.length ≤ sizeLine) h.hw h.hg h.ht h.hw1 h.hg1 h.ht1 h.he h.hs h.hs1 h.hv (fun G acc ds v d rest ra _ hl => ?_) am σ H Q ⟨G, sl, ss, items, sl1, rs, sl2, r, nm0, e1, nm, e2, e3, hsz, fun D G' H' acc r' g' hD aD nD hH ra nmD => ?_⟩
          · rw [List.length_append, List.length_cons, ← ra.length] at hl
            omega
          · exact q (.ref D) G' H' r' g' ⟨D, rfl, hD, aD, nD, ⟨acc, hH, ra⟩, nmD⟩
        · cases e
      · cases e
    · cases e
  · cases e
theorem keys_of {K : PySem.W.Frag} {G : Hp} : ∀ {acc : List V} {rs : List D}, RpA K G acc rs → rs.all isKey = true → (acc.map keyV).map kD = rs
  | _, _, .nil, _ => rfl
  | _, _, .cons (v := v) (d := d) h r, k => by
    rw [List.all_cons, Bool.and_eq_true] at k
    obtain ⟨kk, rfl⟩ := kD_of k.1
    have ev : v = kV kk := by
      cases kk with
      | inl i => cases h; rfl
      | inr x => cases h; rfl
    rw [List.map_cons, List.map_cons, keys_of r k.2, ev, keyV_kV]
theorem sc2_read (hap : ap .sortedSet = apSortedSet) (h : C2Rd X ap C tg ik src ifs tg1 ik1 src1 ifs1 elt own vs1 wi g tt wi1 g1 tt1 te) : ∀ am σ H (Q : VK), rdE X.K ap C am (.c2 true elt tg ik src ifs tg1 ik1 src1 ifs1 own vs1) σ H Q →
    tC2 (fun D => AccS X.prog X.w D []) (putS X.prog X.w) wi g tt wi1 g1 tt1 te own vs1 σ H (fun x H2 => rSortS X.K X.prog X.w [x] H2 Q) := by
  intro am σ H Q q
  obtain ⟨G, sl, d, fr, sl', r, e, q⟩ := q
  rw [evE_c2] at e
  split at e
  · rename_i ss sl1 nm0 e1
    split at e
    · rename_i items nm e2
      split at e
      · rename_i rs sl2 e3
        simp only at e
        split at e
        · rename_i hsz
          rw [hap] at e
          simp only [apSortedSet] at e
          split at e
          · rename_i dd he
            cases e
            split at he
            · rename_i hk
              cases he
              refine c2_read (ap := ap) (C := C) (Acc := AccS X.prog X.w) (room := roomS) (okR := fun rs => rs.length < 64 ∧ rs.all isKey = true) h.hw h.hg h.ht h.hw1 h.hg1 h.ht1 h.he h.hs h.hs1 h.hv (fun G acc ds v d rest ra pv hl => ?_) am σ H _ ⟨G, sl, ss, items, sl1, rs, sl2, r, nm0, e1, nm, e2, e3, hsz, fun D G' H' acc r' g' hD aD nD hH ra nmD => ?_⟩
              · obtain ⟨h1, h2⟩ := hl
                rw [List.length_append, List.length_cons, ← ra.length] at h1
                rw [List.all_append, List.all_cons, Bool.and_eq_true, Bool.and_eq_true] at h2
                obtain ⟨kk, rfl⟩ := kD_of h2.2.1
                refine ⟨⟨kk, ?_⟩, by omega⟩
                cases kk with
                | inl i => cases pv; rfl
                | inr x => cases pv; rfl
              · refine ⟨G', D, _, rs, rfl, hH, r'.sub, fun H2 h2 ok => ?_, hk.2, fun p ys hp rys => ?_⟩
                · obtain ⟨xs, es, a1, a2, a3, a4⟩ := keySet_is (K := X.K) (G := G') (show KeySet X.prog X.w h2 D (acc.map keyV) from ok.1)
                  refine ⟨xs, es, a1, a2, a3, fun e => ?_⟩
                  rw [a4, keys_of ra hsz.2]
                · obtain ⟨r2, r3⟩ := r'.newL hp rys
                  exact q _ _ _ r2 g' r3
            · cases he
          · cases e
        · cases e
      · cases e
    · cases e
  · cases e
end
/-! ### dict comprehensions -/
def dcTurn (ap : ApB) (C : CallT) (tg : Tg) (ifs : Te) (kx vx : Ex) (own : List Nat) : D → Ss → Option (Option (D × D) × Ss) := fun d sl => match asgT tg d (wipeS sl own) with
  | some sl => match evT ap C ifs sl with
    | some (true, sl) => match evE ap C kx sl with
      | some (k, _, sl) => match evE ap C vx sl with
        | some (x, _, sl) => some (some (k, x), sl)
        | none => none
      | none => none
    | some (false, sl) => some (none, sl)
    | none => none
  | none => none
theorem evE_dc {kx vx : Ex} {tg : Tg} {ik : Ik} {src : Exs} {ifs : Te} {own : List Nat} {sl : Ss} : evE ap C (.dc kx vx tg ik src ifs own) sl = (match noMut sl own, evEs ap C src sl with
    | true, some (ss, sl) => match noMut sl own, itemsOf ik ss with
      | true, some items => if items.length < sizeLine then match dcGo (dcTurn ap C tg ifs kx vx own) items [] sl with
        | some (rs, sl') => some (.dict rs, true, restS sl sl' own)
        | none => none
        else none
      | _, _ => none
    | _, _ => none) := by
  simp only [evE]
  rfl
structure GathD (K : PySem.W.Frag) (am : Amb) (D : Addr) (n : Nat) (G1 G H : Hp) (sl : Ss) (σ : St) (ds : List (EV.D × EV.D)) : Prop where
  ex : ∃ acc : List (Key × V), Same G1 G ∧ RS K am G H sl σ ∧ G D = none ∧ H D = some (.dK acc) ∧ RpK K G acc ds ∧ acc.length ≤ n ∧ ∀ (j : Nat) (x : Sl), sl[j]? = some x → x.mut = true → σ[j]? ≠ some (some (.ref D))
theorem nm_wipe {sl : Ss} {σ : St} {D : Addr} (nm : ∀ (j : Nat) (x : Sl), sl[j]? = some x → x.mut = true → σ[j]? ≠ some (some (.ref D))) (vs : List Nat) : ∀ (j : Nat) (x : Sl), (wipeS sl vs)[j]? = some x → x.mut = true → (L2.wipe σ vs)[j]? ≠ some (some (.ref D)) := fun j x e m => by
  by_cases hj : j ∈ vs
  · rw [wipeS_in hj e] at m; cases m
  · rw [wipeS_ne hj] at e
    rw [wipe_ne hj]
    exact nm j x e m
theorem nm_rest {sl1 sl2 : Ss} {σ : St} {D : Addr} {own : List Nat} (nm : noMut sl1 own = true) (h : ∀ (j : Nat) (x : Sl), (wipeS sl2 own)[j]? = some x → x.mut = true → (L2.wipe σ own)[j]? ≠ some (some (.ref D))) : ∀ (j : Nat) (x : Sl), (restS sl1 sl2 own)[j]? = some x → x.mut = true → σ[j]? ≠ some (some (.ref D)) := fun j x hx hm => by
  by_cases hj : j ∈ own
  · have hx' := restS_in hj hx
    unfold noMut at nm
    rw [List.all_eq_true] at nm
    have nj := nm j hj
    split at nj
    · rename_i y h1
      rw [List.getD_eq_getElem?_getD, h1] at hx'
      simp only [Option.getD_some] at hx'
      rw [hx'] at hm
      rw [hm] at nj
      cases nj
    · cases nj
  · rw [restS_ne hj] at hx
    have := h j x (by rw [wipeS_ne hj]; exact hx) hm
    rw [wipe_ne hj] at this
    exact this
theorem RS.back {K : PySem.W.Frag} {am : Amb} {o : HO} {D : Addr} {G0 H0 G H : Hp} {sl0 sl : Ss} {σ0 σ : St} (r0 : RS K am G0 H0 sl0 σ0) (g0 : G0 D = none) (h0 : H0 D = some o) (r : RS K (am.but D G0 H0) G H sl σ) :
    H D = some o ∧ G D = none ∧ RS K am G H sl σ ∧ ∀ (j : Nat) (x : Sl), sl[j]? = some x → x.mut = true → σ[j]? ≠ some (some (.ref D)) := by
  refine ⟨r.frame D _ h0 fun z => z.2 rfl, ?_, r0.outof r, r.notAt (.inr fun z => z.2 rfl)⟩
  cases z : G D with
  | none => rfl
  | some u =>
    rcases r.gg D (by rw [z]; exact fun h => nomatch h) with h | h
    · exact absurd g0 h
    · exact absurd rfl h.2
theorem dc_read {kx vx : Ex} {tg : Tg} {ik : Ik} {src : Exs} {ifs : Te} {own : List Nat} {wi : TI} {g : TG} {tt : TT} {tk tv : TE} (hw : ∀ am σ H R, rdI X.K ap C am ik src σ H R → wi σ H R) (hg : ∀ am v σ H Q, rdG X.K am tg v σ H Q → g v σ H Q)
    (ht : ∀ am σ H Q, rdT X.K ap C am ifs σ H Q → tt σ H Q) (hk : ∀ am σ H Q, rdV X.K ap C am kx σ H Q → tk σ H Q) (he : ∀ am σ H Q, rdV X.K ap C am vx σ H Q → tv σ H Q) (hs : ∀ u ∈ tg.sls, u ∈ own) :
    ∀ am σ H Q, rdE X.K ap C am (.dc kx vx tg ik src ifs own) σ H Q → tDc wi g tt tk tv own σ H Q := by
  intro am σ H Q q
  obtain ⟨G, sl, d, fr, sl', r, e, q⟩ := q
  rw [evE_dc] at e
  split at e
  · rename_i ss sl1 nm0 e1
    split at e
    · rename_i items nm e2
      split at e
      · rename_i hsz
        split at e
        · rename_i rs sl2 e3
          cases e
          refine hw am _ _ _ ⟨G, sl, ss, items, sl1, r, e1, e2, fun J GJ HJ r1 gJ wk => ?_⟩
          intro D hD
          obtain ⟨Pw, Y, Wk0, hP, hY⟩ := wk.ex
          obtain ⟨aD, nD⟩ := r1.fresh D hD
          have gD : GJ D = none := Same.free r1.sub hD
          have hpin : ∀ p ∈ am.pin, p.1 ∉ own := fun p hp hz => by
            obtain ⟨_, d, q2⟩ := r1.pin p hp
            unfold noMut at nm
            rw [List.all_eq_true] at nm
            have := nm _ hz
            rw [q2] at this
            cases this
          refine loop_it Wk0 (B := fun Nx x H' => g x (wipe σ own) H' fun σ2 H2 => wipe σ2 own = wipe σ own ∧ tt σ2 H2 fun b H3 =>
            if b = true then tk σ2 H3 fun y H4 => tv σ2 H4 fun z H5 => ∃ kvs k, y = kV k ∧ H5 D = some (.dK kvs) ∧ kvs.length < sizeLine ∧ Nx (upd H5 D (.dK (putK kvs k z))) else Nx H3)
            (fun i H => ∃ G sl ds, GathD X.K am D i GJ G H (wipeS sl own) (wipe σ own) ds ∧ dcGo (dcTurn ap C tg ifs kx vx own) (items.drop i) ds sl = some (rs, sl2)) ?_ ?_ ?_ ?_
          · exact ⟨GJ, sl1, [], ⟨[], Same.refl _, (r1.lay hD).wipe hpin, gD, upd_same, .nil, Nat.le_refl _, (r1.wipe hpin).notAt (.inl hD)⟩, e3⟩
          · rintro i H hi ⟨G, sl, ds, ⟨acc, a1, a2, _⟩, _⟩
            exact hP H (Same.trans a1 a2.sub)
          · rintro i x H H' hi ⟨G, sl, ds, ⟨acc, a1, a2, a3, a4, a5, an, nmD⟩, a6⟩ y
            obtain ⟨d, G2, hd, b1, b2, b3, b4, b5⟩ := hY i H x H' G a1 a2.sub y
            have a2' := a2.grow b1 b2 b3 b4
            have hD' := b1 _ _ a4
            have gD' : G2 D = none := by
              cases z : G2 D with
              | none => rfl
              | some u =>
                rcases b4 D (by rw [z]; exact fun h => nomatch h) with h | h
                · exact absurd a3 h
                · rw [a4] at h; cases h
            have r3 := a2'.into ⟨_, hD'⟩ nmD
            have hdrop : items.drop i = d :: items.drop (i + 1) := by
              rw [List.getElem?_eq_getElem hi] at hd
              rw [List.drop_eq_getElem_cons hi, Option.some.inj hd]
            rw [hdrop] at a6
            simp only [dcGo] at a6
            cases e4 : dcTurn ap C tg ifs kx vx own d sl with
            | none => rw [e4] at a6; cases a6
            | some pr =>
            obtain ⟨o, sl3⟩ := pr
            rw [e4] at a6
            unfold dcTurn at e4
            split at e4
            · rename_i sl5 e6
              refine hg _ _ _ _ _ ⟨G2, wipeS sl own, d, sl5, r3, b5, e6, fun σ2 r4 ag => ?_⟩
              have wσ : wipe σ2 own = wipe σ own := by rw [wipe_agr ag hs, wipe_wipe]
              refine ⟨wσ, ?_⟩
              split at e4
              · rename_i sl6 e7
                split at e4
                · rename_i kd fk sl7 e8
                  split at e4
                  · rename_i xd fx sl8 e9
                    cases e4
                    simp only at a6
                    split at a6
                    · rename_i hkey
                      obtain ⟨kk, rfl⟩ := kD_of hkey
                      refine ht _ _ _ _ ⟨G2, sl5, true, sl6, r4, e7, fun G3 H3 r5 g3 => ?_⟩
                      refine iteT (hk _ _ _ _ ⟨G3, sl6, kD kk, fk, sl7, r5, e8, fun yv G4 H4 r6 g4 p4 => ?_⟩)
                      refine he _ _ _ _ ⟨G4, sl7, xd, fx, sl3, r6, e9, fun v G5 H5 r7 g5 p5 => ?_⟩
                      obtain ⟨f1, f2, f3, f4⟩ := RS.back a2' gD' hD' r7
                      have ey : yv = kV kk := by
                        cases kk with
                        | inl i => cases p4; rfl
                        | inr x => cases p4; rfl
                      have a5' := a5.mono (Same.trans b2 (Same.trans g3 (Same.trans g4 g5)))
                      have hz : acc.length < sizeLine := by
                        have : i < items.length := hi
                        omega
                      refine ⟨acc, kk, ey, f1, hz, G5, sl3, putD ds (kD kk) xd, ⟨putK acc kk v, Same.trans a1 (Same.trans b2 (Same.trans g3 (Same.trans g4 g5))), ?_, f2, upd_same, a5'.put kk p5, ?_, ?_⟩, a6⟩
                      · rw [← wσ]
                        exact (f3.put f1 f2 aD f4).wipe hpin
                      · have := length_putK acc kk v
                        omega
                      · rw [← wσ]
                        exact nm_wipe f4 own
                    · cases a6
                  · cases e4
                · cases e4
              · rename_i sl6 e7
                cases e4
                simp only at a6
                refine ht _ _ _ _ ⟨G2, sl5, false, sl3, r4, e7, fun G3 H3 r5 g3 => ?_⟩
                obtain ⟨f1, f2, f3, f4⟩ := RS.back a2' gD' hD' r5
                refine iteF ⟨G3, sl3, ds, ⟨acc, Same.trans a1 (Same.trans b2 g3), ?_, f2, f1, a5.mono (Same.trans b2 g3), by omega, ?_⟩, a6⟩
                · rw [← wσ]
                  exact f3.wipe hpin
                · rw [← wσ]
                  exact nm_wipe f4 own
              · cases e4
            · cases e4
          · rintro H ⟨G5, sl8, ds, ⟨acc, a1, a2, a3, a4, a5, an, nmD⟩, a6⟩
            rw [List.drop_length] at a6
            simp only [dcGo] at a6
            cases a6
            exact q (.ref D) G5 H (r1.unwipe a2 a1 nm) (Same.trans gJ a1) ⟨D, rfl, a3, aD, nD, ⟨acc, a4, a5⟩, nm_rest nm nmD⟩
        · cases e
      · cases e
    · cases e
  · cases e
end
end EV
namespace EV
open PySem PySem.Spec L2
open PyProof.Rows hiding St

/-! ### sorted(a dict) -/
theorem str_order (x y : Str) : ltK (dK (.str x)) (dK (.str y)) = ltCps x.cps.toList y.cps.toList := by
  rw [ltCps_eq, ← ltL]
  show lexG (lexG ltI) [aK (.str x)] [aK (.str y)] = _
  simp only [lexG, aK]
  split
  · rename_i e
    injection e with _ e
    rw [e]
    exact (lin_int.lex.irr _).symm
  · simp
theorem rising_pair : ∀ (l : List Str) (p : Str), risingS p l = true → (∀ y ∈ l, ltK (dK (.str y)) (dK (.str p)) = false) ∧ l.Pairwise fun a b => ltK (dK (.str b)) (dK (.str a)) = false
  | [], _, _ => ⟨fun y hy => (nomatch hy), .nil⟩
  | x :: r, p, h => by
    simp only [risingS, Bool.and_eq_true, Bool.not_eq_true'] at h
    obtain ⟨h1, h2⟩ := rising_pair r x h.2
    have hx : ltK (dK (.str x)) (dK (.str p)) = false := by rw [str_order]; exact h.1
    have o := lin_k.swo (fun d : D => dK d)
    refine ⟨fun y hy => ?_, .cons h1 h2⟩
    rcases List.mem_cons.mp hy with rfl | hy
    · exact hx
    · exact o.tr _ _ _ hx (h1 y hy)
theorem sortedS_pair {l : List Str} (h : sortedS l = true) : l.Pairwise fun a b => ltK (dK (.str b)) (dK (.str a)) = false := by
  cases l with
  | nil => exact .nil
  | cons x r => exact .cons (rising_pair r x h).1 (rising_pair r x h).2
def apSortK : List D → Option (D × Bool)
  | [.dict es] => if es.length < 64 ∧ es.all (fun p => isStr p.1) = true then some (.list (sortD (es.map (·.1))), true) else none
  | ds => apSorted ds
theorem rpA_strs {K : PySem.W.Frag} {G : Hp} : ∀ ys : List Str, RpA K G (ys.map V.str) (ys.map PyData.str)
  | [] => .nil
  | y :: r => .cons (.str y) (rpA_strs r)
theorem keysS {K : PySem.W.Frag} {G : Hp} : ∀ {kvs : List (Key × V)} {es : List (D × D)}, RpK K G kvs es → es.all (fun p => isStr p.1) = true → ∃ ks : List Str, kvs.map (·.1) = ks.map Sum.inr ∧ es.map (·.1) = ks.map PyData.str
  | _, _, .nil, _ => ⟨[], rfl, rfl⟩
  | _, _, .cons (k := k) h r, e => by
    rw [List.all_cons, Bool.and_eq_true] at e
    obtain ⟨ks, h1, h2⟩ := keysS r e.2
    cases k with
    | inl i => cases e.1
    | inr x => exact ⟨x :: ks, by rw [List.map_cons, List.map_cons, h1], by rw [List.map_cons, List.map_cons, h2]; rfl⟩
section
variable {X : Cx}
theorem o_sortK (hc : X.calm = true) : CallR X (.builtin "sorted") (rBi X.K apSortK) := by
  intro pins s σ H vs us Q I r h
  obtain ⟨G, as, d, fr, sm, p, e, q⟩ := h
  unfold apSortK at e
  split at e
  · rename_i es
    split at e
    · rename_i hk
      cases e
      obtain ⟨x, rfl, ha⟩ := vp1 p
      rcases ha.dct sm with ⟨a, kvs, rfl, h2, r'⟩ | ⟨d, rfl⟩
      · obtain ⟨ks, k1, k2⟩ := keysS r' hk.2
        refine call_sortedD hc pins s σ H _ us Q I r ⟨a, kvs, ks, rfl, .inl h2, k1, ?_, fun ys p hp hs hn => ?_⟩
        · have := congrArg List.length k2
          rw [List.length_map, List.length_map] at this
          omega
        · have e1 : ys.map PyData.str = sortD (es.map (·.1)) := by
            refine sortD_eq (.ofS fun d hd => ?_) ?_ ?_
            · rw [k2] at hd
              obtain ⟨x, _, rfl⟩ := List.mem_map.mp hd
              rfl
            · rw [k2]
              exact hp.map _
            · exact List.pairwise_map.mpr (sortedS_pair hs)
          rw [← e1] at q
          exact q _ _ _ (.lst sm hn (rpA_strs ys))
      · exact Bool.noConfusion hk.2
    · cases e
  · exact o_sorted pins s σ H vs us Q I r ⟨G, as, d, fr, sm, p, e, q⟩
end
end EV
namespace EV
open PySem PySem.Spec L2
open PyProof.Rows hiding St

/-- all operations -/
def ap : ApB
  | .add => apAdd | .sub => apSub | .mul => apMul | .fdiv => apFdiv | .mod => apMod | .pow => apPow | .neg => apNeg
  | .iadd => apIAdd | .isub => apISub
  | .eq => apEq | .ne => apNe | .lt => apLt | .le => apLe | .gt => apGt | .ge => apGe
  | .isN => apIsN | .notN => apNotN | .isB b => apIsB b | .notB b => apNotB b
  | .inn => apIn | .nin => apNin
  | .item => apItem
  | .rev => apRev
  | .len => apLen | .abs => apAbs | .repr => apRepr | .str => apStr | .int => apInt | .tuple => apTuple | .list => apList | .max2 => apMax | .min2 => apMin
  | .allv => apAll | .anyv => apAny
  | .isin t => apIsin t
  | .join => apJoin | .upper => apUpper
  | .count => apCount
  | .sorted => apSortK
  | .sortedSet => apSortedSet
  | _ => fun _ => none

/-! ### from the text to compact code -/
structure CE where
  N : List Str
  names : List (Str × NameKind)
  fns : List (Str × (Nat × List Bool))
  pats : List ((Str × Nat × List Str) × (Nat × List (Option D)))
  consts : List (Str × D)
  blts : List Str
  own : List Str
def idxOf (x : Str) : List Str → Nat → Option Nat
  | [], _ => none
  | y :: r, n => if x = y then some n else idxOf x r (n + 1)
theorem idxOf_get {x : Str} : ∀ {l : List Str} {n i : Nat}, idxOf x l n = some i → ∃ j, i = n + j ∧ l[j]? = some x
  | [], _, _, h => by cases h
  | y :: r, n, i, h => by
    unfold idxOf at h
    split at h
    · rename_i e
      cases h
      exact ⟨0, rfl, by rw [e]; rfl⟩
    · obtain ⟨j, h1, h2⟩ := idxOf_get h
      exact ⟨j + 1, by omega, h2⟩
def kd (ce : CE) (x : Str) : Option NameKind := ce.names.lookup x
def slotOf (ce : CE) (x : Str) : Option Nat := match kd ce x with
  | some .local => idxOf x ce.N 0
  | some .cell => idxOf x ce.N 0
  | some .free => idxOf x ce.N 0
  | _ => none
structure CtxOk (X : Cx) (ce : CE) (C : CallT) : Prop where
  hN : X.N = ce.N
  nd : ce.N.Nodup
  calm : X.calm = true
  xe : X.xe = fun _ _ => False
  kind : X.env.scope.kind = .function
  loc : ∀ x, kd ce x = some .local → X.env.scope.names.lookup x = some .local
  cel : ∀ x, kd ce x = some .cell → X.env.scope.names.lookup x = some .cell ∧ X.fn x = true
  fre : ∀ x, kd ce x = some .free → X.env.scope.names.lookup x = some .cell ∨ X.env.scope.names.lookup x = some .free
  glb : ∀ x, kd ce x = some .globalImplicit → Gl X x
  fn : ∀ x f refs, ce.fns.lookup x = some (f, refs) → FnLk X C f refs.length x
  pat : ∀ x n ks f tail, ce.pats.lookup (x, n, ks) = some (f, tail) → FnLkK X C f n ks tail x
  cst : ∀ x d, ce.consts.lookup x = some d → ∃ u v, X.mg x = some u ∧ RelV v u ∧ ∀ G, Rp X.K G v d
  blt : ∀ x, ce.blts.contains x = true → X.mg x = none
  ns : ∀ x u, PySem.W.nsIn X.K mainGlobals x = some (some u) → X.mg x = some u
  un : X.A.units + 66 < cLine
  grd : X.A.guards = some []
  sysb : SysB X
theorem CtxOk.un5 {X : Cx} {ce : CE} {C : CallT} (k : CtxOk X ce C) : X.A.units + 65 < cLine := Nat.lt_of_succ_lt k.un
section
variable {X : Cx} {ce : CE} {C : CallT}
theorem CtxOk.slot (k : CtxOk X ce C) {x : Str} {i : Nat} (h : slotOf ce x = some i) : X.N[i]? = some x ∧ Vis X.env.scope x := by
  unfold slotOf at h
  split at h
  · rename_i e
    obtain ⟨j, h1, h2⟩ := idxOf_get h
    refine ⟨by rw [k.hN, h1, Nat.zero_add]; exact h2, .inl (k.loc x e)⟩
  · rename_i e
    obtain ⟨j, h1, h2⟩ := idxOf_get h
    refine ⟨by rw [k.hN, h1, Nat.zero_add]; exact h2, .inr (.inl (k.cel x e).1)⟩
  · rename_i e
    obtain ⟨j, h1, h2⟩ := idxOf_get h
    refine ⟨by rw [k.hN, h1, Nat.zero_add]; exact h2, ?_⟩
    rcases k.fre x e with z | z
    · exact .inr (.inl z)
    · exact .inr (.inr z)
  · cases h
/-- a place that may be stored -/
def tslotOf (ce : CE) (x : Str) : Option Nat := match kd ce x with
  | some .local => idxOf x ce.N 0
  | some .cell => idxOf x ce.N 0
  | _ => none
theorem CtxOk.tslot (k : CtxOk X ce C) {x : Str} {i : Nat} (h : tslotOf ce x = some i) : X.N[i]? = some x ∧ Loc X.env.scope x ∧ (X.fn x = true ∨ X.env.scope.names.lookup x = some .local) ∧ slotOf ce x = some i := by
  unfold tslotOf at h
  split at h
  · rename_i e
    obtain ⟨j, h1, h2⟩ := idxOf_get h
    refine ⟨by rw [k.hN, h1, Nat.zero_add]; exact h2, .inl (k.loc x e), .inr (k.loc x e), ?_⟩
    unfold slotOf
    rw [e]
    exact h
  · rename_i e
    obtain ⟨j, h1, h2⟩ := idxOf_get h
    refine ⟨by rw [k.hN, h1, Nat.zero_add]; exact h2, .inr (k.cel x e).1, .inl (k.cel x e).2, ?_⟩
    unfold slotOf
    rw [e]
    exact h
  · cases h
theorem CtxOk.ndX (k : CtxOk X ce C) : X.N.Nodup := by rw [k.hN]; exact k.nd
end
def okName (x : Str) : Bool := !(x == ("__debug__" : Str)) && !(x == ("__classdict__" : Str)) && decide (x ≠ "__name__")
theorem okName_ok {x : Str} (h : okName x = true) : (x == ("__debug__" : Str)) = false ∧ (x == ("__classdict__" : Str)) = false ∧ x ≠ "__name__" := by
  unfold okName at h
  simp only [Bool.and_eq_true, Bool.not_eq_true', decide_eq_true_eq] at h
  exact ⟨h.1.1, h.1.2, h.2⟩

/-- the code c is right for e -/
def GoodE (ce : CE) (c : Ex) (e : Expr) : Prop := ∀ X C, CtxOk X ce C → EE X ap C c e ∧ ∀ i, c = .v i → PE X e (tVar i)
def GoodT (ce : CE) (c : Te) (e : Expr) : Prop := ∀ X C, CtxOk X ce C → ET X ap C c e
theorem GoodE.op {ce : CE} {c : Ex} {e : Expr} (h : GoodE ce c e) {X : Cx} {C : CallT} (k : CtxOk X ce C) : EO X ap C c e := by
  obtain ⟨h1, h2⟩ := h X C k
  cases hc : c.isV with
  | false => exact h1.opd hc
  | true =>
    cases c with
    | v i => exact eo_v (h2 i rfl)
    | _ => cases hc
theorem good_of {ce : CE} {c : Ex} {e : Expr} (n : c.isV = false) (h : ∀ X C, CtxOk X ce C → EE X ap C c e) : GoodE ce c e := fun X C k => ⟨h X C k, fun i z => by rw [z] at n; cases n⟩
abbrev RE := CE → Expr → Option Ex
abbrev RT := CE → Expr → Option Te
abbrev REok (r : RE) : Prop := ∀ ce e c, r ce e = some c → GoodE ce c e
abbrev RTok (r : RT) : Prop := ∀ ce e c, r ce e = some c → GoodT ce c e

/-! constants, names -/
def hConst : Const → Option Ex
  | .none => some (.k .none)
  | .bool b => some (.k (.bool b))
  | .int i => some (.k (.int i))
  | .str s => some (.k (.str s))
  | _ => none
theorem hConst_ok {ce : CE} {c : Const} {k : Nat} {pos : Pos} {x : Ex} (h : hConst c = some x) : GoodE ce x (.Constant c k pos) := by
  cases c <;> cases h
  · exact good_of rfl fun X C _ => ee_k pe_non fun _ _ => .non
  · exact good_of rfl fun X C _ => ee_k pe_bl fun _ _ => .bl _
  · exact good_of rfl fun X C _ => ee_k pe_int fun _ _ => .int _
  · exact good_of rfl fun X C _ => ee_k pe_str fun _ _ => .str _
def hName (ce : CE) (x : Str) : Option Ex := if okName x = true then match slotOf ce x with
    | some i => some (.v i)
    | none => match kd ce x with
      | some .globalImplicit => (ce.consts.lookup x).map fun d => .gl x d
      | _ => none
  else none
theorem hName_ok {ce : CE} {x : Str} {pos : Pos} {c : Ex} (h : hName ce x = some c) : GoodE ce c (.Name x pos) := by
  unfold hName at h
  split at h
  · rename_i hx
    obtain ⟨o1, o2, o3⟩ := okName_ok hx
    split at h
    · rename_i i hi
      cases h
      intro X C k
      obtain ⟨a1, a2⟩ := k.slot hi
      exact ⟨ee_v (pe_var a1 a2 o1 o2), fun j z => by cases z; exact pe_var a1 a2 o1 o2⟩
    · split at h
      · rename_i hk
        cases hd : ce.consts.lookup x with
        | none => rw [hd] at h; cases h
        | some d =>
          rw [hd] at h; cases h
          refine good_of rfl fun X C k => ?_
          obtain ⟨u, v, h1, h2, h3⟩ := k.cst x d hd
          exact ee_gl (pe_glob (k.glb x hk) h1 h2 o1) h3
      · cases h
  · cases h

/-! lists -/
def cEs (r : RE) (ce : CE) : List Expr → Option Exs
  | [] => some .nil
  | e :: es => if noStar e = true then match r ce e, cEs r ce es with
      | some c, some cs => some (.cons c cs)
      | _, _ => none
    else none
theorem cEs_os {r : RE} (hr : REok r) {ce : CE} {X : Cx} {C : CallT} (k : CtxOk X ce C) : ∀ {es : List Expr} {cs : Exs}, cEs r ce es = some cs → (∀ am, PA X es (rdOs X.K ap C am cs)) ∧ es.all noStar = true
  | [], cs, h => by cases h; exact ⟨fun am => pa_os_nil, rfl⟩
  | e :: es, cs, h => by
    unfold cEs at h
    split at h
    · rename_i hn
      split at h
      · rename_i c cs' h1 h2
        cases h
        obtain ⟨a1, a2⟩ := cEs_os hr k h2
        exact ⟨fun am => pa_os_cons ((hr _ _ _ h1).op k) (a1 am) hn, by rw [List.all_cons, hn, a2]; rfl⟩
      · cases h
    · cases h
theorem cEs_es {r : RE} (hr : REok r) {ce : CE} {X : Cx} {C : CallT} (k : CtxOk X ce C) : ∀ {es : List Expr} {cs : Exs}, cEs r ce es = some cs → ∀ am, PA X es (rdEs X.K ap C am cs)
  | [], cs, h => by cases h; exact fun am => pa_es_nil
  | e :: es, cs, h => by
    unfold cEs at h
    split at h
    · rename_i hn
      split at h
      · rename_i c cs' h1 h2
        cases h
        exact fun am => pa_es_cons ((hr _ _ _ h1) X C k).1 (cEs_es hr k h2 am) hn
      · cases h
    · cases h
def hTuple (r : RE) (ce : CE) (es : List Expr) : Option Ex := match cEs r ce es with
  | some cs => if cs.len ≤ 1000 then some (.tup cs) else none
  | none => none
theorem hTuple_ok {r : RE} (hr : REok r) {ce : CE} {es : List Expr} {k : Nat} {pos : Pos} {c : Ex} (h : hTuple r ce es = some c) : GoodE ce c (.Tuple es k pos) := by
  unfold hTuple at h
  split at h
  · split at h
    · cases h
      exact good_of rfl fun X C k => ee_tup (cEs_es hr k ‹_›) ‹_›
    · cases h
  · cases h
def hList (r : RE) (ce : CE) (es : List Expr) : Option Ex := match cEs r ce es with
  | some cs => if cs.len ≤ 1000 then some (.lst cs) else none
  | none => none
theorem hList_ok {r : RE} (hr : REok r) {ce : CE} {es : List Expr} {pos : Pos} {c : Ex} (h : hList r ce es = some c) : GoodE ce c (.List es pos) := by
  unfold hList at h
  split at h
  · split at h
    · cases h
      exact good_of rfl fun X C k => ee_lst (cEs_es hr k ‹_›) ‹_›
    · cases h
  · cases h
def hDict (r : RE) (ce : CE) : List (Option Expr) → List Expr → Option Ex
  | [], [] => some (.dct .nil)
  | [some k], [v] => match r ce k, r ce v with
    | some ck, some cv => some (.dct (.cons ck (.cons cv .nil)))
    | _, _ => none
  | _, _ => none
theorem hDict_ok {r : RE} (hr : REok r) {ce : CE} {ks : List (Option Expr)} {vs : List Expr} {pos : Pos} {c : Ex} (h : hDict r ce ks vs = some c) : GoodE ce c (.Dict ks vs pos) := by
  unfold hDict at h
  split at h
  · cases h
    exact good_of rfl fun X C k => ee_d0
  · split at h
    · rename_i h1 h2
      cases h
      exact good_of rfl fun X C k => ee_d1 ((hr _ _ _ h1) X C k).1 ((hr _ _ _ h2) X C k).1
    · cases h
  · cases h

/-! operators -/
def opBi : Operator → Option Bi
  | .Add => some .add | .Sub => some .sub | .Mult => some .mul | .FloorDiv => some .fdiv | .Mod => some .mod | .Pow => some .pow
  | _ => none
theorem opBi_ok {X : Cx} {op : Operator} {f : Bi} (h : opBi op = some f) : O2 X (binaryOp op) (ap f) := by
  cases op <;> cases h
  · exact o_add
  · exact o_sub
  · exact o_mul
  · exact o_mod
  · exact o_pow
  · exact o_fdiv
def hBin (r : RE) (ce : CE) (a : Expr) (op : Operator) (b : Expr) : Option Ex := match opBi op, r ce a, r ce b with
  | some f, some ca, some cb => some (.bi f (.cons ca (.cons cb .nil)))
  | _, _, _ => none
theorem hBin_ok {r : RE} (hr : REok r) {ce : CE} {a b : Expr} {op : Operator} {pos : Pos} {c : Ex} (h : hBin r ce a op b = some c) : GoodE ce c (.BinOp a op b pos) := by
  unfold hBin at h
  split at h
  · rename_i h1 h2 h3
    cases h
    exact good_of rfl fun X C k => ee_bi2 (opBi_ok h1) ((hr _ _ _ h2).op k) ((hr _ _ _ h3).op k)
  · cases h
def hUn (r : RE) (ce : CE) : UnaryOp → Expr → Option Ex
  | .USub, a => (r ce a).map fun ca => .bi .neg (.cons ca .nil)
  | .Not, a => (r ce a).map fun ca => .tst (.not (.ex ca))
  | _, _ => none
theorem hUn_ok {r : RE} (hr : REok r) {ce : CE} {a : Expr} {op : UnaryOp} {pos : Pos} {c : Ex} (h : hUn r ce op a = some c) : GoodE ce c (.UnaryOp op a pos) := by
  cases op with
  | USub =>
    simp only [hUn] at h
    cases h1 : r ce a with
    | none => rw [h1] at h; cases h
    | some ca => rw [h1] at h; cases h; exact good_of rfl fun X C k => ee_un o_neg ((hr _ _ _ h1).op k)
  | Not =>
    simp only [hUn] at h
    cases h1 : r ce a with
    | none => rw [h1] at h; cases h
    | some ca => rw [h1] at h; cases h; exact good_of rfl fun X C k => ee_not ((hr _ _ _ h1).op k)
  | _ => cases h
def hBool (r : RE) (ce : CE) (op : BoolOp) (es : List Expr) (pos : Pos) : Option Ex := match es with
  | [a] => match r ce a with
    | some c => if c.isV = false then some c else none
    | none => none
  | a :: b :: rest => match r ce a, r ce (.BoolOp op (b :: rest) pos) with
    | some ca, some cb => some (match op with | .And => .and ca cb | .Or => .or ca cb)
    | _, _ => none
  | [] => none
theorem hBool_ok {r : RE} (hr : REok r) {ce : CE} {op : BoolOp} {es : List Expr} {pos : Pos} {c : Ex} (h : hBool r ce op es pos = some c) : GoodE ce c (.BoolOp op es pos) := by
  unfold hBool at h
  split at h
  · split at h
    · split at h
      · rename_i h1 hv
        cases h
        exact good_of hv fun X C k => ee_one ((hr _ _ _ h1) X C k).1
      · cases h
    · cases h
  · split at h
    · rename_i h1 h2
      cases h
      cases op with
      | And => exact good_of rfl fun X C k => ee_and ((hr _ _ _ h1) X C k).1 ((hr _ _ _ h2) X C k).1
      | Or => exact good_of rfl fun X C k => ee_or ((hr _ _ _ h1) X C k).1 ((hr _ _ _ h2) X C k).1
    · cases h
  · cases h
def hIf (r : RE) (t : RT) (ce : CE) (c a b : Expr) : Option Ex := match t ce c, r ce a, r ce b with
  | some cc, some ca, some cb => some (.ife cc ca cb)
  | _, _, _ => none
theorem hIf_ok {r : RE} {t : RT} (hr : REok r) (ht : RTok t) {ce : CE} {c0 a b : Expr} {pos : Pos} {c : Ex} (h : hIf r t ce c0 a b = some c) : GoodE ce c (.IfExp c0 a b pos) := by
  unfold hIf at h
  split at h
  · rename_i h1 h2 h3
    cases h
    exact good_of rfl fun X C k => ee_ife ((ht _ _ _ h1) X C k) ((hr _ _ _ h2) X C k).1 ((hr _ _ _ h3) X C k).1
  · cases h

/-! comparisons -/
def cmpBi : CmpOp → Option Bi
  | .Eq => some .eq | .NotEq => some .ne | .Lt => some .lt | .LtE => some .le | .Gt => some .gt | .GtE => some .ge | .In => some .inn | .NotIn => some .nin
  | _ => none
theorem cmpBi_ok {X : Cx} (hu : X.A.units + 65 < cLine) {op : CmpOp} {f : Bi} (h : cmpBi op = some f) : O2 X (compareOp op) (ap f) := by
  cases op <;> cases h
  · exact o_eq (by omega)
  · exact o_ne (by omega)
  · exact o_lt
  · exact o_le
  · exact o_gt
  · exact o_ge
  · exact o_in hu
  · exact o_nin hu
theorem cmpBi_fr {op : CmpOp} {f : Bi} (h : cmpBi op = some f) : ∀ ds d fr, ap f ds = some (d, fr) → fr = false ∧ ∃ k, d = .bool k := by
  intro ds d fr e
  cases op <;> cases h <;> simp only [ap, apEq, apNe, apLt, apLe, apGt, apGe, apIn, apNin] at e
  all_goals
    split at e
    all_goals first
      | (cases e; exact ⟨rfl, _, rfl⟩)
      | (split at e
         · cases e; exact ⟨rfl, _, rfl⟩
         · cases e)
      | (split at e
         · cases e; exact ⟨rfl, _, rfl⟩
         · split at e
           · cases e; exact ⟨rfl, _, rfl⟩
           · cases e)
      | cases e
/-- is, is not of a constant -/
def isBi : CmpOp → Const → Option Bi
  | .Is, .none => some .isN
  | .IsNot, .none => some .notN
  | .Is, .bool b => some (.isB b)
  | .IsNot, .bool b => some (.notB b)
  | _, _ => none
theorem isBi_fr {op : CmpOp} {c : Const} {f : Bi} (h : isBi op c = some f) : ∀ ds d fr, ap f ds = some (d, fr) → fr = false ∧ ∃ k, d = .bool k := by
  intro ds d fr e
  unfold isBi at h
  split at h <;> cases h <;> simp only [ap, apIsN, apNotN, apIsB, apNotB] at e
  all_goals
    split at e
    all_goals first
      | (cases e; exact ⟨rfl, _, rfl⟩)
      | cases e
theorem isBi_ok {X : Cx} {op : CmpOp} {c : Const} {f : Bi} {n : Nat} {p : Pos} (h : isBi op c = some f) : ∃ k : V, PE X (.Constant c n p) (tC k) ∧
    ∀ (pins : List (Addr × Obj)) (s : Shared) (σ : St) (H : Hp) (x : V) (v u : Value) (Q : VK), Inv X pins σ H s → RelV x v → RelV k u → rBi X.K (ap f) [x] H Q → wpAny (model X.prog X.w) X.A (compareOp op v u) (EP X pins σ Q) X.xe s := by
  unfold isBi at h
  split at h <;> cases h
  · exact ⟨.non, pe_non, fun pins s σ H x v u Q I rx ry q => o_isN I rx ry q⟩
  · exact ⟨.non, pe_non, fun pins s σ H x v u Q I rx ry q => o_notN I rx ry q⟩
  · exact ⟨.bl _, pe_bl, fun pins s σ H x v u Q I rx ry q => o_isB I rx ry q⟩
  · exact ⟨.bl _, pe_bl, fun pins s σ H x v u Q I rx ry q => o_notB I rx ry q⟩
def hCmp (r : RE) (ce : CE) (a : Expr) : List CmpOp → List Expr → Option Ex
  | [op], [b] => match b, (match b with | .Constant c _ _ => isBi op c | _ => none) with
    | _, some f => (r ce a).map fun ca => .bi f (.cons ca .nil)
    | b, none => match cmpBi op, r ce a, r ce b with
      | some f, some ca, some cb => if behindInMarks op b = false then some (.bi f (.cons ca (.cons cb .nil))) else none
      | _, _, _ => none
  | [op, op'], [b, c] => match cmpBi op, cmpBi op', r ce a, r ce b, r ce c with
    | some f, some g, some ca, some cb, some cc => if lastMarks [op, op'] [b, c] = false then some (.ch f g (.cons ca (.cons cb .nil)) (.cons cc .nil)) else none
    | _, _, _, _, _ => none
  | _, _ => none
theorem hCmp_ok {r : RE} (hr : REok r) {ce : CE} {a : Expr} {ops : List CmpOp} {bs : List Expr} {pos : Pos} {c : Ex} (h : hCmp r ce a ops bs = some c) : GoodE ce c (.Compare a ops bs pos) ∧ GoodT ce (.ex c) (.Compare a ops bs pos) := by
  unfold hCmp at h
  split at h
  · rename_i op b
    split at h
    · rename_i b f hb
      cases h1 : r ce a with
      | none => rw [h1] at h; cases h
      | some ca =>
        rw [h1] at h; cases h
        split at hb
        · rename_i cc n p
          refine ⟨good_of rfl fun X C k => ?_, fun X C k => ?_⟩
          · obtain ⟨kv, h2, h3⟩ := isBi_ok (X := X) (n := n) (p := p) hb
            exact pe_isK h2 (by cases op <;> rfl) h3 ((hr _ _ _ h1).op k)
          · obtain ⟨kv, h2, h3⟩ := isBi_ok (X := X) (n := n) (p := p) hb
            exact et_cmp1 (isBi_fr hb) h2 (by cases op <;> rfl) h3 ((hr _ _ _ h1).op k)
        · cases hb
    · split at h
      · rename_i h1 h2 h3
        split at h
        · rename_i hm
          cases h
          exact ⟨good_of rfl fun X C k => ee_cmp (cmpBi_ok k.un5 h1) ((hr _ _ _ h2).op k) ((hr _ _ _ h3).op k) hm,
            fun X C k => et_cmp (cmpBi_fr h1) (cmpBi_ok k.un5 h1) ((hr _ _ _ h2).op k) ((hr _ _ _ h3).op k) hm⟩
        · cases h
      · cases h
  · split at h
    · rename_i h1 h2 h3 h4 h5
      split at h
      · rename_i hm
        cases h
        exact ⟨good_of rfl fun X C k => ee_chain (fun _ _ _ e => (cmpBi_fr h1 _ _ _ e).1) (cmpBi_ok k.un5 h1) (cmpBi_ok k.un5 h2) ((hr _ _ _ h3).op k) ((hr _ _ _ h4).op k) ((hr _ _ _ h5).op k) hm,
          fun X C k => et_chain (fun _ _ _ e => (cmpBi_fr h1 _ _ _ e).1) (fun _ _ _ e => (cmpBi_fr h2 _ _ _ e).2) (cmpBi_ok k.un5 h1) (cmpBi_ok k.un5 h2) ((hr _ _ _ h3).op k) ((hr _ _ _ h4).op k) ((hr _ _ _ h5).op k) hm⟩
      · cases h
    · cases h
  · cases h
end EV
namespace EV
open PySem PySem.Spec L2
open PyProof.Rows hiding St

/-! subscripts -/
def isSlice : Expr → Bool
  | .Slice _ _ _ _ => true
  | _ => false
theorem plainIx {b : Expr} (h : isSlice b = false) : PlainIx b := by
  intro o i
  cases b <;> first | rfl | cases h
def hSub (r : RE) (ce : CE) (a b : Expr) : Option Ex := match b with
  | .Slice none none none _ => (r ce a).map fun ca => .sl false false (.cons ca .nil) .nil
  | .Slice (some l) none none _ => match r ce a, r ce l with
    | some ca, some cl => some (.sl true false (.cons ca .nil) (.cons cl .nil))
    | _, _ => none
  | .Slice none (some u) none _ => match r ce a, r ce u with
    | some ca, some cu => some (.sl false true (.cons ca .nil) (.cons cu .nil))
    | _, _ => none
  | .Slice (some l) (some u) none _ => match r ce a, r ce l, r ce u with
    | some ca, some cl, some cu => some (.sl true true (.cons ca .nil) (.cons cl (.cons cu .nil)))
    | _, _, _ => none
  | .Slice none none (some (.UnaryOp .USub (.Constant (.int 1) _ _) _)) _ => (r ce a).map fun ca => .bi .rev (.cons ca .nil)
  | .Slice _ _ (some _) _ => none
  | b => match r ce a, r ce b with
    | some ca, some cb => some (.bi .item (.cons ca (.cons cb .nil)))
    | _, _ => none
theorem hSub_ok {r : RE} (hr : REok r) {ce : CE} {a b : Expr} {pos : Pos} {c : Ex} (h : hSub r ce a b = some c) : GoodE ce c (.Subscript a b pos) := by
  unfold hSub at h
  split at h
  · cases h1 : r ce a with
    | none => rw [h1] at h; cases h
    | some ca => rw [h1] at h; cases h; exact good_of rfl fun X C k => ee_sl0 ((hr _ _ _ h1).op k)
  · split at h
    · rename_i h1 h2
      cases h
      exact good_of rfl fun X C k => ee_slL ((hr _ _ _ h1).op k) ((hr _ _ _ h2) X C k).1
    · cases h
  · split at h
    · rename_i h1 h2
      cases h
      exact good_of rfl fun X C k => ee_slU ((hr _ _ _ h1).op k) ((hr _ _ _ h2) X C k).1
    · cases h
  · split at h
    · rename_i h1 h2 h3
      cases h
      exact good_of rfl fun X C k => ee_sl2 ((hr _ _ _ h1).op k) ((hr _ _ _ h2) X C k).1 ((hr _ _ _ h3) X C k).1
    · cases h
  · cases h1 : r ce a with
    | none => rw [h1] at h; cases h
    | some ca => rw [h1] at h; cases h; exact good_of rfl fun X C k => ee_rev rfl ((hr _ _ _ h1).op k)
  · cases h
  · rename_i n1 n2 n3 n4 n6 n5
    split at h
    · rename_i h1 h2
      cases h
      have hs : isSlice b = false := by
        cases b with
        | Slice l u s p =>
          cases s with
          | some s => exact (n5 _ _ _ _ rfl).elim
          | none =>
            cases l with
            | none => cases u with
              | none => exact (n1 _ rfl).elim
              | some u => exact (n3 _ _ rfl).elim
            | some l => cases u with
              | none => exact (n2 _ _ rfl).elim
              | some u => exact (n4 _ _ _ rfl).elim
        | _ => rfl
      exact good_of rfl fun X C k => ee_item (o_item (by have := k.un; omega)) ((hr _ _ _ h1).op k) ((hr _ _ _ h2).op k) (plainIx hs)
    · cases h

/-! calls -/
/-- built-in functions by name and number of arguments: whether a type, its id, the operation -/
def bltOf2 (x : Str) (n : Nat) : Option (Bool × String × Bi) :=
  if x = "sorted" ∧ n = 1 then some (false, "sorted", .sorted)
  else none
theorem bltOf2_ok {X : Cx} {x : Str} {n : Nat} {b : Bool} {id : String} {f : Bi} (h : bltOf2 x n = some (b, id, f)) (hc : X.calm = true) (sy : SysB X) (hg : X.A.guards = some []) (hu : X.A.units + 66 < cLine) :
    (b = false → bootBuiltins x = some (.builtin id) ∧ ON X (.builtin id) (ap f)) ∧ (b = true → bootBuiltins x = some (.type id) ∧ ON X (.type id) (ap f)) := by
  unfold bltOf2 at h
  split at h
  · rename_i e; obtain ⟨rfl, _⟩ := e; cases h; exact ⟨fun _ => ⟨by decide +kernel, o_sortK hc⟩, fun z => Bool.noConfusion z⟩
  cases h
def bltOf (x : Str) (n : Nat) : Option (Bool × String × Bi) :=
  if x = "len" ∧ n = 1 then some (false, "len", .len)
  else if x = "abs" ∧ n = 1 then some (false, "abs", .abs)
  else if x = "max" ∧ n = 2 then some (false, "max", .max2)
  else if x = "min" ∧ n = 2 then some (false, "min", .min2)
  else if x = "all" ∧ n = 1 then some (false, "all", .allv)
  else if x = "any" ∧ n = 1 then some (false, "any", .anyv)
  else if x = "int" ∧ n = 1 then some (true, "int", .int)
  else if x = "str" ∧ n = 1 then some (true, "str", .str)
  else if x = "tuple" ∧ n = 1 then some (true, "tuple", .tuple)
  else if x = "list" ∧ n = 1 then some (true, "list", .list)
  else if x = "repr" ∧ n = 1 then some (false, "repr", .repr)
  else bltOf2 x n
theorem bltOf_ok {X : Cx} {x : Str} {n : Nat} {b : Bool} {id : String} {f : Bi} (h : bltOf x n = some (b, id, f)) (hc : X.calm = true) (sy : SysB X) (hg : X.A.guards = some []) (hu : X.A.units + 66 < cLine) :
    (b = false → bootBuiltins x = some (.builtin id) ∧ ON X (.builtin id) (ap f)) ∧ (b = true → bootBuiltins x = some (.type id) ∧ ON X (.type id) (ap f)) := by
  unfold bltOf at h
  split at h
  · rename_i e; obtain ⟨rfl, _⟩ := e; cases h; exact ⟨fun _ => ⟨by decide +kernel, o_len⟩, fun z => Bool.noConfusion z⟩
  split at h
  · rename_i e; obtain ⟨rfl, _⟩ := e; cases h; exact ⟨fun _ => ⟨by decide +kernel, o_abs⟩, fun z => Bool.noConfusion z⟩
  split at h
  · rename_i e; obtain ⟨rfl, _⟩ := e; cases h; exact ⟨fun _ => ⟨by decide +kernel, o_max hc⟩, fun z => Bool.noConfusion z⟩
  split at h
  · rename_i e; obtain ⟨rfl, _⟩ := e; cases h; exact ⟨fun _ => ⟨by decide +kernel, o_min hc⟩, fun z => Bool.noConfusion z⟩
  split at h
  · rename_i e; obtain ⟨rfl, _⟩ := e; cases h; exact ⟨fun _ => ⟨by decide +kernel, o_all hc⟩, fun z => Bool.noConfusion z⟩
  split at h
  · rename_i e; obtain ⟨rfl, _⟩ := e; cases h; exact ⟨fun _ => ⟨by decide +kernel, o_any hc⟩, fun z => Bool.noConfusion z⟩
  split at h
  · rename_i e; obtain ⟨rfl, _⟩ := e; cases h; exact ⟨fun z => Bool.noConfusion z, fun _ => ⟨by decide +kernel, o_int⟩⟩
  split at h
  · rename_i e; obtain ⟨rfl, _⟩ := e; cases h; exact ⟨fun z => Bool.noConfusion z, fun _ => ⟨by decide +kernel, o_str⟩⟩
  split at h
  · rename_i e; obtain ⟨rfl, _⟩ := e; cases h; exact ⟨fun z => Bool.noConfusion z, fun _ => ⟨by decide +kernel, o_tuple⟩⟩
  split at h
  · rename_i e; obtain ⟨rfl, _⟩ := e; cases h; exact ⟨fun z => Bool.noConfusion z, fun _ => ⟨by decide +kernel, o_list⟩⟩
  split at h
  · rename_i e; obtain ⟨rfl, _⟩ := e; cases h; exact ⟨fun _ => ⟨by decide +kernel, o_repr sy hg hu⟩, fun z => Bool.noConfusion z⟩
  exact bltOf2_ok h hc sy hg hu
/-- the arguments of an own function: names for what is lent -/
def cAs (r : RE) (ce : CE) : List Bool → List Expr → Option Exs
  | [], [] => some .nil
  | true :: bs, .Name x _ :: es => match okName x, slotOf ce x, cAs r ce bs es with
    | true, some i, some cs => some (.cons (.v i) cs)
    | _, _, _ => none
  | false :: bs, e :: es => if noStar e = true then match r ce e, cAs r ce bs es with
      | some c, some cs => some (.cons c cs)
      | _, _ => none
    else none
  | _, _ => none
theorem cAs_ok {r : RE} (hr : REok r) {ce : CE} {X : Cx} {C : CallT} (k : CtxOk X ce C) : ∀ {bs : List Bool} {es : List Expr} {cs : Exs}, cAs r ce bs es = some cs → (∀ am, PA X es (rdAs X.K ap C am bs cs)) ∧ es.all noStar = true ∧
    ∀ sl ags sl', evAs ap C bs cs sl = some (ags, sl') → ags.length = bs.length
  | [], [], cs, h => by cases h; exact ⟨fun am => pa_as_nil, rfl, fun sl ags sl' e => by simp only [evAs] at e; cases e; rfl⟩
  | true :: bs, [], cs, h => by cases h
  | false :: bs, [], cs, h => by cases h
  | [], _ :: _, cs, h => by cases h
  | true :: bs, e :: es, cs, h => by
    cases e with
    | Name x p =>
      simp only [cAs] at h
      split at h
      · rename_i i cs' h0 h1 h2
        cases h
        obtain ⟨a1, a2, a3⟩ := cAs_ok hr k h2
        obtain ⟨o1, o2, o3⟩ := okName_ok h0
        obtain ⟨s1, s2⟩ := k.slot h1
        refine ⟨fun am => pa_as_lent (pe_var s1 s2 o1 o2) (a1 am) rfl, by rw [List.all_cons, a2]; rfl, fun sl ags sl' e => ?_⟩
        simp only [evAs] at e
        split at e
        · split at e
          · rename_i h3
            cases e
            exact congrArg (· + 1) (a3 _ _ _ h3)
          · cases e
        · cases e
      · cases h
    | _ => cases h
  | false :: bs, e :: es, cs, h => by
    simp only [cAs] at h
    split at h
    · rename_i hn
      split at h
      · rename_i c cs' h1 h2
        cases h
        obtain ⟨a1, a2, a3⟩ := cAs_ok hr k h2
        refine ⟨fun am => pa_as_val ((hr _ _ _ h1) X C k).1 (a1 am) hn, by rw [List.all_cons, hn, a2]; rfl, fun sl ags sl' e => ?_⟩
        simp only [evAs] at e
        split at e
        · split at e
          · rename_i h3
            cases e
            exact congrArg (· + 1) (a3 _ _ _ h3)
          · cases e
        · cases e
      · cases h
    · cases h
/-- which types isinstance asks of -/
def tyOf (x : Str) : Option String :=
  if x = "str" then some "str" else if x = "int" then some "int" else if x = "bool" then some "bool" else if x = "tuple" then some "tuple" else if x = "list" then some "list" else if x = "dict" then some "dict" else none
theorem tyOf_ok {x : Str} {t : String} (h : tyOf x = some t) : bootBuiltins x = some (.type t) := by
  unfold tyOf at h
  split at h
  · rename_i e; subst e; cases h; decide +kernel
  split at h
  · rename_i e; subst e; cases h; decide +kernel
  split at h
  · rename_i e; subst e; cases h; decide +kernel
  split at h
  · rename_i e; subst e; cases h; decide +kernel
  split at h
  · rename_i e; subst e; cases h; decide +kernel
  split at h
  · rename_i e; subst e; cases h; decide +kernel
  cases h
def isBlt (ce : CE) (x : Str) : Bool := okName x && ce.blts.contains x && decide (kd ce x = some .globalImplicit)
theorem isBlt_ok {X : Cx} {ce : CE} {C : CallT} {x : Str} (k : CtxOk X ce C) (h : isBlt ce x = true) : Gl X x ∧ X.mg x = none ∧ (x == ("__debug__" : Str)) = false ∧ x ≠ "__name__" := by
  unfold isBlt at h
  simp only [Bool.and_eq_true, decide_eq_true_eq] at h
  obtain ⟨o1, o2, o3⟩ := okName_ok h.1.1
  exact ⟨k.glb x h.2, k.blt x h.1.2, o1, o3⟩
theorem ee_isin {t : String} {ca : Ex} {a : Expr} {x : Str} {p p2 pos : Pos} {C : CallT} {X : Cx} (hg : Gl X "isinstance") (hm : X.mg "isinstance" = none) (ha : EO X ap C ca a) (n : noStar a = true) (gt : Gl X x) (mt : X.mg x = none) (ht : bootBuiltins x = some (.type t)) (hd : (x == ("__debug__" : Str)) = false) (hn : x ≠ "__name__") :
    EE X ap C (.bi (.isin t) (.cons ca .nil)) (.Call (.Name "isinstance" p) [a, .Name x p2] [] pos) := fun am =>
  pe_weak (pe_callB (r := fun xs H Q => ∃ y, xs = [y, .ty t] ∧ rBi X.K (apIsin t) [y] H Q) (id := "isinstance") (fun pins s σ H xs us Q I r q => by
    obtain ⟨y, rfl, q⟩ := q
    exact o_isin I r q) hg hm (by decide +kernel) (pa_cons (ha am) (pa_cons (pe_bltn (v := .ty t) gt mt ht rfl hn hd) pa_nil) (star_cons n)) (by decide) (by decide) (star_cons n) rfl) fun σ H Q q => by
    obtain ⟨G, sl, d, fr, sl', r, e, q⟩ := q
    obtain ⟨os, ds, e0, e1, e2⟩ := bi_split e
    obtain ⟨oa, e3, rfl⟩ := evOs_one e0
    exact ⟨G, sl, oa, _, r, e3, fun v G1 H1 r1 g1 o1 => ⟨v, rfl, r1.bi (g := apIsin t) (.cons o1 .nil) e1 e2 g1 q⟩⟩
def hCall (r : RE) (ce : CE) (f : Expr) (args : List Expr) (pos : Pos) : Option Ex := match f with
  | .Name x _ => match ce.fns.lookup x with
    | some (id, refs) => if okName x = true ∧ kd ce x = some .globalImplicit then match args with
        | _ :: _ => (cAs r ce refs args).map fun cs => .call id refs cs
        | [] => if refs = [] then some (.call id [] .nil) else none
      else none
    | none => if isBlt ce x = true then
        if x = "isinstance" then match args with
          | [a, .Name y _] => match r ce a, tyOf y, isBlt ce y, noStar a with
            | some ca, some t, true, true => some (.bi (.isin t) (.cons ca .nil))
            | _, _, _, _ => none
          | _ => none
        else match bltOf x args.length, cEs r ce args with
          | some (_, _, bi), some (.cons c cs) => some (.bi bi (.cons c cs))
          | _, _ => none
      else none
  | .Attribute o m apos => if (apos.endLine == pos.line) = true then
      if m = "join" then match args with
        | [b] => match r ce o, r ce b, noStar b, o with
          | some ca, some cb, true, .Constant _ _ _ => some (.mc .join (.cons ca .nil) (.cons cb .nil))
          | _, _, _, _ => none
        | _ => none
      else if m = "upper" then match args with
        | [] => match r ce o, o with
          | some ca, .Name _ _ => some (.mc .upper (.cons ca .nil) .nil)
          | _, _ => none
        | _ => none
      else if m = "count" then match args with
        | [b] => match r ce o, r ce b, noStar b, o with
          | some ca, some cb, true, .Name _ _ => some (.mc .count (.cons ca .nil) (.cons cb .nil))
          | _, _, _, _ => none
        | _ => none
      else none
    else none
  | _ => none
theorem cEs_cons {r : RE} {ce : CE} {es : List Expr} {c : Ex} {cs : Exs} (h : cEs r ce es = some (.cons c cs)) : ∃ e l, es = e :: l := by
  cases es with
  | nil => cases h
  | cons e l => exact ⟨e, l, rfl⟩
theorem cAs_cons {r : RE} {ce : CE} {bs : List Bool} {e : Expr} {es : List Expr} {cs : Exs} (h : cAs r ce bs (e :: es) = some cs) : ∃ c l, cs = .cons c l := by
  unfold cAs at h
  split at h
  · rename_i q; cases q
  · split at h
    · cases h; exact ⟨_, _, rfl⟩
    · cases h
  · split at h
    · split at h
      · cases h; exact ⟨_, _, rfl⟩
      · cases h
    · cases h
  · cases h
theorem hCall_ok {r : RE} (hr : REok r) {ce : CE} {f : Expr} {args : List Expr} {pos : Pos} {c : Ex} (h : hCall r ce f args pos = some c) : GoodE ce c (.Call f args [] pos) := by
  unfold hCall at h
  split at h
  · rename_i x p
    split at h
    · rename_i id refs hf
      split at h
      · rename_i hx
        obtain ⟨o1, o2, o3⟩ := okName_ok hx.1
        split at h
        · rename_i a as
          cases h1 : cAs r ce refs (a :: as) with
          | none => rw [h1] at h; cases h
          | some cs =>
            rw [h1] at h; cases h
            obtain ⟨c0, l, rfl⟩ := cAs_cons h1
            exact good_of rfl fun X C k => by
              obtain ⟨a1, a2, a3⟩ := cAs_ok hr k h1
              exact ee_call (k.fn x id refs hf) (k.glb x hx.2) a1 a2 o1 a3
        · split at h
          · rename_i hr0
            subst hr0
            cases h
            exact good_of rfl fun X C k => ee_call0 (k.fn x id [] hf) (k.glb x hx.2) o1
          · cases h
      · cases h
    · split at h
      · rename_i hb
        split at h
        · rename_i hx
          subst hx
          split at h
          · rename_i a y p2
            split at h
            · rename_i h1 h2 h3 h4
              cases h
              exact good_of rfl fun X C k => by
                obtain ⟨b1, b2, b3, b4⟩ := isBlt_ok k hb
                obtain ⟨t1, t2, t3, t4⟩ := isBlt_ok k h3
                exact ee_isin b1 b2 ((hr _ _ _ h1).op k) h4 t1 t2 (tyOf_ok h2) t3 t4
            · cases h
          · cases h
        · split at h
          · rename_i ty id bi c0 cs h1 h2
            cases h
            obtain ⟨e, l, rfl⟩ := cEs_cons h2
            exact good_of rfl fun X C k => by
              obtain ⟨b1, b2, b3, b4⟩ := isBlt_ok k hb
              obtain ⟨q1, q2⟩ := bltOf_ok h1 k.calm k.sysb k.grd k.un
              obtain ⟨a1, a2⟩ := cEs_os hr k h2
              cases ty with
              | false => exact ee_callB (q1 rfl).2 b1 b2 (q1 rfl).1 a1 a2 b4 b3
              | true => exact ee_callTy (q2 rfl).2 b1 b2 (q2 rfl).1 a1 a2 b4 b3
          · cases h
      · cases h
  · rename_i o m apos
    split at h
    · rename_i hl
      split at h
      · rename_i hm
        subst hm
        split at h
        · rename_i b
          split at h
          · rename_i h2 h3 h1
            cases h
            exact good_of rfl fun X C k => ee_join rfl ((hr _ _ _ h1) X C k).1 ((hr _ _ _ h2).op k) h3 rfl hl
          · cases h
        · cases h
      · split at h
        · rename_i hm
          subst hm
          split at h
          · split at h
            · rename_i h1
              cases h
              exact good_of rfl fun X C k => ee_upper rfl ((hr _ _ _ h1) X C k).1 rfl hl
            · cases h
          · cases h
        · split at h
          · rename_i hm
            subst hm
            split at h
            · rename_i b
              split at h
              · rename_i h2 h3 h1
                cases h
                exact good_of rfl fun X C k => ee_mcL (g := apCount) rfl PySem.F.slot_list_count PySem.F.type_list_count mt_count (fun x y d fr e => by
                  unfold apCount at e
                  split at e
                  · rename_i he
                    simp only [List.cons.injEq, and_true] at he
                    exact ⟨_, he.1⟩
                  · cases e) ((hr _ _ _ h1) X C k).1 ((hr _ _ _ h2).op k) h3 rfl hl
              · cases h
            · cases h
          · cases h
    · cases h
  · cases h

/-! calls by keywords -/
def cKs (r : RE) (ce : CE) : List Keyword → Option Exs
  | [] => some .nil
  | ⟨_, e, _⟩ :: kws => match r ce e, cKs r ce kws with
    | some c, some cs => some (.cons c cs)
    | _, _ => none
theorem cKs_ok {r : RE} (hr : REok r) {ce : CE} {X : Cx} {C : CallT} (k : CtxOk X ce C) : ∀ {kws : List Keyword} {cs : Exs}, cKs r ce kws = some cs → (∀ am, PK X kws (rdEs X.K ap C am cs)) ∧ cs.len = kws.length
  | [], cs, h => by cases h; exact ⟨fun am => pk_es_nil, rfl⟩
  | ⟨nm, e, p⟩ :: kws, cs, h => by
    simp only [cKs] at h
    split at h
    · rename_i c cs' h1 h2
      cases h
      obtain ⟨a, b⟩ := cKs_ok hr k h2
      exact ⟨fun am => pk_es_cons ((hr _ _ _ h1) X C k).1 (a am), congrArg (· + 1) b⟩
    · cases h
theorem kwNames_len : ∀ {kws : List Keyword} {ks : List Str}, kwNames kws = some ks → ks.length = kws.length
  | [], _, h => by cases h; rfl
  | ⟨some x, e, p⟩ :: r, ks, h => by
    simp only [kwNames] at h
    cases h1 : kwNames r with
    | none => rw [h1] at h; cases h
    | some l => rw [h1] at h; cases h; exact congrArg (· + 1) (kwNames_len h1)
  | ⟨none, _, _⟩ :: _, _, h => by cases h
theorem cEs_len {r : RE} {ce : CE} : ∀ {es : List Expr} {cs : Exs}, cEs r ce es = some cs → cs.len = es.length
  | [], cs, h => by cases h; rfl
  | e :: es, cs, h => by
    unfold cEs at h
    split at h
    · split at h
      · rename_i h1 h2
        cases h
        exact congrArg (· + 1) (cEs_len h2)
      · cases h
    · cases h
def hCallK (r : RE) (ce : CE) (f : Expr) (args : List Expr) (kws : List Keyword) : Option Ex := match f, args with
  | .Name x _, e :: es => if okName x = true ∧ kd ce x = some .globalImplicit then match kwNames kws with
      | some ks => match ce.pats.lookup (x, (e :: es).length, ks), cEs r ce (e :: es), cKs r ce kws with
        | some (f, tail), some ca, some ck => some (.callK f ca ck tail)
        | _, _, _ => none
      | none => none
    else none
  | _, _ => none
theorem hCallK_ok {r : RE} (hr : REok r) {ce : CE} {f : Expr} {args : List Expr} {kws : List Keyword} {pos : Pos} {c : Ex} (h : hCallK r ce f args kws = some c) : GoodE ce c (.Call f args kws pos) := by
  unfold hCallK at h
  split at h
  · rename_i x p e es
    split at h
    · rename_i hx
      split at h
      · rename_i ks hks
        split at h
        · rename_i id tail ca ck h1 h2 h3
          cases h
          obtain ⟨o1, o2, o3⟩ := okName_ok hx.1
          exact good_of rfl fun X C k => by
            obtain ⟨a1, a2⟩ := cKs_ok hr k h3
            refine ee_callK (k.pat _ _ _ _ _ h1) (k.glb x hx.2) (cEs_es hr k h2) a1 (cEs_os hr k h2).2 o1 (fun sl ds sl' e => by rw [evEs_len e, cEs_len h2]) (fun sl ds sl' e => by rw [evEs_len e, a2, kwNames_len hks]) hks (fun z => ?_)
            subst z
            cases h3
            rfl
        · cases h
      · cases h
    · cases h
  · cases h

/-- a new object lent -/
def hCallF (r : RE) (ce : CE) (f : Expr) (args : List Expr) : Option Ex := match f, args with
  | .Name x _, [e] => if okName x = true ∧ kd ce x = some .globalImplicit ∧ noStar e = true then match ce.fns.lookup x, r ce e with
      | some (id, [true]), some c => some (.callF id c)
      | _, _ => none
    else none
  | _, _ => none
theorem hCallF_ok {r : RE} (hr : REok r) {ce : CE} {f : Expr} {args : List Expr} {pos : Pos} {c : Ex} (h : hCallF r ce f args = some c) : GoodE ce c (.Call f args [] pos) := by
  unfold hCallF at h
  split at h
  · rename_i x p e
    split at h
    · rename_i hx
      split at h
      · rename_i id c0 h1 h2
        cases h
        obtain ⟨o1, o2, o3⟩ := okName_ok hx.1
        exact good_of rfl fun X C k => ee_callF (k.fn _ _ _ h1) (k.glb x hx.2.1) ((hr _ _ _ h2) X C k).1 hx.2.2 o1
      · cases h
    · cases h
  · cases h

/-- a call of what a name holds: the functions of the text that stand as values -/
def fvals (ce : CE) (n : Nat) : List (Str × Nat) := ce.consts.filterMap fun p => if p.2 = fnD p.1 then match ce.fns.lookup p.1 with
    | some (f, refs) => if refs = List.replicate n false then some (p.1, f) else none
    | none => none
  else none
theorem fvals_ok {ce : CE} {n : Nat} {y : Str} {f : Nat} (h : (fvals ce n).lookup y = some f) : ∃ refs, ce.fns.lookup y = some (f, refs) ∧ refs.length = n := by
  have q := PySem.mem_of_lookup h
  obtain ⟨p, h1, h2⟩ := List.mem_filterMap.mp q
  split at h2
  · split at h2
    · rename_i f' refs hf
      split at h2
      · rename_i hr
        cases h2
        exact ⟨refs, hf, by rw [hr, List.length_replicate]⟩
      · cases h2
    · cases h2
  · cases h2
def hCallV (r : RE) (ce : CE) (f : Expr) (args : List Expr) : Option Ex := match f, args with
  | .Name x _, e :: es => if okName x = true then match slotOf ce x, cEs r ce (e :: es) with
      | some i, some cs => some (.callV i (fvals ce (e :: es).length) cs)
      | _, _ => none
    else none
  | _, _ => none
theorem hCallV_ok {r : RE} (hr : REok r) {ce : CE} {f : Expr} {args : List Expr} {pos : Pos} {c : Ex} (h : hCallV r ce f args = some c) : GoodE ce c (.Call f args [] pos) := by
  unfold hCallV at h
  split at h
  · rename_i x p e es
    split at h
    · rename_i hx
      split at h
      · rename_i i cs h1 h2
        cases h
        obtain ⟨o1, o2, o3⟩ := okName_ok hx
        exact good_of rfl fun X C k => by
          obtain ⟨s1, s2⟩ := k.slot h1
          refine ee_callV (n := (e :: es).length) (fun y f hy => ?_) k.ns (pe_var s1 s2 o1 o2) (cEs_es hr k h2) (cEs_os hr k h2).2 fun sl ds sl' e => by rw [evEs_len e, cEs_len h2]
          obtain ⟨refs, q1, q2⟩ := fvals_ok hy
          rw [← q2]
          exact k.fn _ _ _ q1
      · cases h
    · cases h
  · cases h

/-! tests -/
def hTest (r : RE) (t : RT) (ce : CE) (e : Expr) : Option Te := match e with
  | .UnaryOp .Not a _ => (t ce a).map .not
  | .BoolOp op [a] _ => t ce a
  | .BoolOp op (a :: b :: rest) pos => match t ce a, t ce (.BoolOp op (b :: rest) pos) with
    | some ca, some cb => some (match op with | .And => .and ca cb | .Or => .or ca cb)
    | _, _ => none
  | .Compare a ops bs _ => (hCmp r ce a ops bs).map .ex
  | e => if plainTest e = true then (r ce e).map .ex else none
/-- tests and chains of tests -/
def GoodW (ce : CE) (c : Te) (e : Expr) : Prop := ∀ X C, CtxOk X ce C → EW X ap C c e
def isBoolOp : Expr → Bool
  | .BoolOp _ _ _ => true
  | _ => false
abbrev RTok2 (t : RT) : Prop := ∀ ce e c, t ce e = some c → GoodT ce c e ∧ (isBoolOp e = true → GoodW ce c e)
theorem hTest_ok {r : RE} {t : RT} (hr : REok r) (ht : RTok2 t) {ce : CE} {e : Expr} {c : Te} (h : hTest r t ce e = some c) : GoodT ce c e ∧ (isBoolOp e = true → GoodW ce c e) := by
  unfold hTest at h
  split at h
  · rename_i a p
    cases h1 : t ce a with
    | none => rw [h1] at h; cases h
    | some ca => rw [h1] at h; cases h; exact ⟨fun X C k => et_not ((ht _ _ _ h1).1 X C k), fun z => Bool.noConfusion z⟩
  · rename_i op a p
    have hw : GoodW ce c (.BoolOp op [a] p) := fun X C k => by
      cases op with
      | And => exact ew_and1 ((ht _ _ _ h).1 X C k)
      | Or => exact ew_or1 ((ht _ _ _ h).1 X C k)
    exact ⟨fun X C k => (hw X C k).pt, fun _ => hw⟩
  · rename_i op a b rest p
    split at h
    · rename_i h1 h2
      cases h
      cases op with
      | And =>
        have hw := fun X C (k : CtxOk X ce C) => ew_and (pos := p) ((ht _ _ _ h1).1 X C k) ((ht _ _ _ h2).2 rfl X C k)
        exact ⟨fun X C k => (hw X C k).pt, fun _ => hw⟩
      | Or =>
        have hw := fun X C (k : CtxOk X ce C) => ew_or (pos := p) ((ht _ _ _ h1).1 X C k) ((ht _ _ _ h2).2 rfl X C k)
        exact ⟨fun X C k => (hw X C k).pt, fun _ => hw⟩
    · cases h
  · rename_i a ops bs p
    cases h1 : hCmp r ce a ops bs with
    | none => rw [h1] at h; cases h
    | some ca => rw [h1] at h; cases h; exact ⟨(hCmp_ok hr h1).2, fun z => Bool.noConfusion z⟩
  · rename_i n1 n2 n3 n4
    split at h
    · rename_i hp
      cases h1 : r ce e with
      | none => rw [h1] at h; cases h
      | some ca =>
        rw [h1] at h; cases h
        refine ⟨fun X C k => et_ex ((hr _ _ _ h1).op k) hp, fun z => ?_⟩
        cases e <;> first | (cases hp; done) | (cases z; done)
    · cases h
end EV
namespace EV
open PySem PySem.Spec L2
open PyProof.Rows hiding St

/-! ### blocks of comprehensions -/
theorem lookup_rel_free {sc : Scope} : ∀ {names : List (Str × NameKind)} {x : Str}, names.lookup x = some .free →
    (names.map fun (n, k) => if (k == NameKind.free && sc.kind == .function && sc.names.lookup n == some .cell) then (n, NameKind.cell) else (n, k)).lookup x = some .cell ∨
    (names.map fun (n, k) => if (k == NameKind.free && sc.kind == .function && sc.names.lookup n == some .cell) then (n, NameKind.cell) else (n, k)).lookup x = some .free
  | [], _, h => by cases h
  | (n, q) :: r, x, h => by
    rw [List.map_cons]
    cases hx : x == n with
    | true =>
      simp only [List.lookup_cons, hx] at h
      cases h
      by_cases hc : (NameKind.free == NameKind.free && sc.kind == .function && sc.names.lookup n == some .cell) = true
      · refine .inl ?_
        show List.lookup x ((if (NameKind.free == NameKind.free && sc.kind == .function && sc.names.lookup n == some .cell) = true then (n, NameKind.cell) else (n, .free)) :: _) = _
        rw [if_pos hc]; simp only [List.lookup_cons, hx]
      · refine .inr ?_
        show List.lookup x ((if (NameKind.free == NameKind.free && sc.kind == .function && sc.names.lookup n == some .cell) = true then (n, NameKind.cell) else (n, .free)) :: _) = _
        rw [if_neg hc]; simp only [List.lookup_cons, hx]
    | false =>
      simp only [List.lookup_cons, hx] at h
      have ih := @lookup_rel_free sc r x h
      have cut : ∀ w, List.lookup x ((if (q == NameKind.free && sc.kind == .function && sc.names.lookup n == some .cell) = true then (n, NameKind.cell) else (n, q)) :: (r.map fun (n, k) => if (k == NameKind.free && sc.kind == .function && sc.names.lookup n == some .cell) then (n, NameKind.cell) else (n, k))) = w ↔
          List.lookup x (r.map fun (n, k) => if (k == NameKind.free && sc.kind == .function && sc.names.lookup n == some .cell) then (n, NameKind.cell) else (n, k)) = w := fun w => by
        by_cases hc : (q == NameKind.free && sc.kind == .function && sc.names.lookup n == some .cell) = true
        · rw [if_pos hc]; simp only [List.lookup_cons, hx]
        · rw [if_neg hc]; simp only [List.lookup_cons, hx]
      exact ih.imp (cut _).mpr (cut _).mpr
def blkOwn (ce : CE) : List (Str × NameKind) → List (Str × Nat)
  | [] => []
  | (x, .local) :: r => match idxOf x ce.N 0 with
    | some i => (x, i) :: blkOwn ce r
    | none => blkOwn ce r
  | (x, .cell) :: r => match idxOf x ce.N 0 with
    | some i => (x, i) :: blkOwn ce r
    | none => blkOwn ce r
  | _ :: r => blkOwn ce r
def isFn : ScopeKind → Bool
  | .function => true
  | _ => false
def blkCk (ce : CE) (scope : Scope) : Bool :=
  isFn scope.kind && (scope.names.all fun y => decide (scope.names.lookup y.1 = some y.2)) && ((blkOwn ce scope.names).all fun p => decide (ce.N[p.2]? = some p.1)) &&
    (scope.names.all fun y => match y.2 with
      | .free => decide (kd ce y.1 = some .cell) || decide (kd ce y.1 = some .free)
      | .local => decide (y.1 ∈ (blkOwn ce scope.names).map (·.1)) || decide (y.1 ∉ ce.N)
      | .cell => decide (y.1 ∈ (blkOwn ce scope.names).map (·.1)) || decide (y.1 ∉ ce.N)
      | _ => true)
theorem blkCk_ok {ce : CE} {scope : Scope} {X : Cx} {C : CallT} (k : CtxOk X ce C) (h : blkCk ce scope = true) : BlkOk X.N X.env.scope scope (blkOwn ce scope.names) := by
  unfold blkCk at h
  simp only [Bool.and_eq_true, List.all_eq_true, decide_eq_true_eq] at h
  obtain ⟨⟨⟨h1, h2⟩, h3⟩, h4⟩ := h
  rw [k.hN]
  refine ⟨?_, h2, h3, fun y hy e => ?_, fun y hy e => ?_⟩
  · unfold isFn at h1
    split at h1
    · assumption
    · cases h1
  · have q := h4 y hy
    simp only [e, Bool.or_eq_true, decide_eq_true_eq] at q
    rcases q with q | q
    · exact .inl (k.cel _ q).1
    · exact k.fre _ q
  · have q := h4 y hy
    rcases e with e | e <;> (simp only [e, Bool.or_eq_true, decide_eq_true_eq] at q; exact q)
abbrev blkCE (ce : CE) (scope : Scope) : CE := { ce with names := scope.names, own := (blkOwn ce scope.names).map (·.1) }
theorem CtxOk.blk {X : Cx} {ce : CE} {C : CallT} {scope : Scope} (k : CtxOk X ce C) (h : isFn scope.kind = true) (s : Shared) (H : Hp) (cl : List (Str × Addr)) (D : Addr) (fp : List Addr) :
    CtxOk (X.blk s H scope (compEnvC scope cl D X.env) fp) (blkCE ce scope) C := by
  have keep : ∀ x q, q ≠ .free → scope.names.lookup x = some q → (compEnvC scope cl D X.env).scope.names.lookup x = some q := fun x q hq hl => lookup_relS_keep (sc := X.env.scope) hq hl
  refine ⟨k.hN, k.nd, k.calm, rfl, ?_, fun x e => keep x _ (by decide) e, fun x e => ⟨keep x _ (by decide) e, ?_⟩, fun x e => lookup_rel_free (sc := X.env.scope) e, fun x e => keep x _ (by decide) e, fun x f refs e => ⟨(k.fn x f refs e).ex⟩, fun x n ks f tail e => ⟨(k.pat x n ks f tail e).ex⟩, k.cst, k.blt, k.ns, k.un, k.grd, k.sysb⟩
  · show scope.kind = .function
    unfold isFn at h
    split at h
    · assumption
    · cases h
  · show (scope.names.lookup x == some .cell) = true
    have e' : scope.names.lookup x = some .cell := e
    rw [e']
    rfl

/-! ### what is walked over -/
section
variable {X : Cx} {C : CallT}
theorem pi_ex {α : Type} {tg e : Expr} {t : α → TI} (h : ∀ a, PI X tg e (t a)) : PI X tg e (fun σ H R => ∃ a, t a σ H R) := ⟨fun pins s σ H R I ⟨a, q⟩ => (h a).run pins s σ H R I q⟩
theorem pg_ex {α : Type} {e : Expr} {t : α → TG} (h : ∀ a, PG X e (t a)) : PG X e (fun v σ H Q => ∃ a, t a v σ H Q) := ⟨fun pins s σ H v u Q I r ⟨a, q⟩ => (h a).run pins s σ H v u Q I r q⟩
theorem pts_ex {α : Type} {e : List Expr} {t : α → TT} (h : ∀ a, PTs X e (t a)) : PTs X e (fun σ H Q => ∃ a, t a σ H Q) := ⟨fun pins s σ H Q I ⟨a, q⟩ => (h a).run pins s σ H Q I q⟩
theorem pts_weak {e : List Expr} {t t' : TT} (h : PTs X e t) (w : ∀ σ H Q, t' σ H Q → t σ H Q) : PTs X e t' := ⟨fun pins s σ H Q I q => h.run pins s σ H Q I (w σ H Q q)⟩
end
def GoodI (ce : CE) (ik : Ik) (cs : Exs) (tg e : Expr) : Prop := ∀ X C, CtxOk X ce C → EI X ap C ik cs tg e
def isTup : Expr → Bool
  | .Tuple _ _ _ => true
  | _ => false
/-- what is walked over by a named function: range, enumerate, zip -/
def hIterC (r : RE) (ce : CE) (tg : Expr) (x : Str) (args : List Expr) : Option (Option (Ik × Exs)) :=
  if isBlt ce x = true then
    if x = "range" then some (match args with
      | [a] => match r ce a, noStar a with
        | some ca, true => some (.range1, .cons ca .nil)
        | _, _ => none
      | [a, b] => match r ce a, r ce b, noStar a, noStar b with
        | some ca, some cb, true, true => some (.range2, .cons ca (.cons cb .nil))
        | _, _, _, _ => none
      | _ => none)
    else if x = "enumerate" then some (match args with
      | [a] => match r ce a, noStar a, isTup tg with
        | some ca, true, true => some (.enum, .cons ca .nil)
        | _, _, _ => none
      | _ => none)
    else if x = "zip" then some (match args with
      | [a, b] => match r ce a, r ce b, noStar a, noStar b, isTup tg with
        | some ca, some cb, true, true, true => some (.zip, .cons ca (.cons cb .nil))
        | _, _, _, _, _ => none
      | _ => none)
    else none
  else none
theorem isTup_ok {e : Expr} (h : isTup e = true) : ∃ es k p, e = .Tuple es k p := by
  cases e <;> first | exact ⟨_, _, _, rfl⟩ | cases h
theorem hIterC_ok {r : RE} (hr : REok r) {ce : CE} {tg : Expr} {x : Str} {args : List Expr} {p pos : Pos} {ik : Ik} {cs : Exs} (h : hIterC r ce tg x args = some (some (ik, cs))) : GoodI ce ik cs tg (.Call (.Name x p) args [] pos) := by
  unfold hIterC at h
  split at h
  · rename_i hb
    split at h
    · rename_i hx
      subst hx
      have h1 := Option.some.inj h; clear h
      split at h1
      · rename_i a
        split at h1
        · rename_i e1 e2
          cases h1
          intro X C k
          obtain ⟨b1, b2, _, _⟩ := isBlt_ok k hb
          exact ei_range1 b1 b2 ((hr _ _ _ e1) X C k).1 e2
        · cases h1
      · rename_i a b
        split at h1
        · rename_i e1 e2 e3 e4
          cases h1
          intro X C k
          obtain ⟨b1, b2, _, _⟩ := isBlt_ok k hb
          exact ei_range2 b1 b2 ((hr _ _ _ e1) X C k).1 ((hr _ _ _ e2) X C k).1 e3 e4
        · cases h1
      · cases h1
    · split at h
      · rename_i hx
        subst hx
        have h1 := Option.some.inj h; clear h
        split at h1
        · rename_i a
          split at h1
          · rename_i e1 e2 e3
            cases h1
            obtain ⟨es, k, p, rfl⟩ := isTup_ok e3
            intro X C k
            obtain ⟨b1, b2, _, _⟩ := isBlt_ok k hb
            exact ei_enum b1 b2 ((hr _ _ _ e1) X C k).1 e2
          · cases h1
        · cases h1
      · split at h
        · rename_i hx
          subst hx
          have h1 := Option.some.inj h; clear h
          split at h1
          · rename_i a b
            split at h1
            · rename_i e1 e2 e3 e4 e5
              cases h1
              obtain ⟨es, k, p, rfl⟩ := isTup_ok e5
              intro X C k
              obtain ⟨b1, b2, _, _⟩ := isBlt_ok k hb
              exact ei_zip b1 b2 ((hr _ _ _ e1) X C k).1 ((hr _ _ _ e2) X C k).1 e3 e4
            · cases h1
          · cases h1
        · cases h
  · cases h
def hIter (r : RE) (ce : CE) (tg e : Expr) : Option (Ik × Exs) := match (match e with
    | .Call (.Name x p) args [] pos => hIterC r ce tg x args
    | _ => none) with
  | some o => o
  | none => (r ce e).map fun c => (.any, .cons c .nil)
theorem hIter_ok {r : RE} (hr : REok r) {ce : CE} {tg e : Expr} {ik : Ik} {cs : Exs} (h : hIter r ce tg e = some (ik, cs)) : GoodI ce ik cs tg e := by
  unfold hIter at h
  split at h
  · rename_i o ho
    split at ho
    · subst h
      exact hIterC_ok hr ho
    · cases ho
  · cases h1 : r ce e with
    | none => rw [h1] at h; cases h
    | some c =>
      rw [h1] at h
      cases h
      exact fun X C k => ei_any ((hr _ _ _ h1) X C k).1

/-! ### targets -/
def GoodG (ce : CE) (t : Tg) (e : Expr) : Prop := ∀ X C, CtxOk X ce C → EG X t e
def GoodGs (ce : CE) (t : Tgs) (es : List Expr) : Prop := ∀ X C, CtxOk X ce C → ∀ am, PGs X es (rdGs X.K am t)
abbrev RG := CE → Expr → Option Tg
def cTs (g : RG) (ce : CE) : List Expr → Option Tgs
  | [] => some .nil
  | e :: es => match g ce e, cTs g ce es with
    | some t, some ts => if noStar e = true then some (.cons t ts) else none
    | _, _ => none
def cT : Nat → RG
  | 0 => fun _ _ => none
  | n + 1 => fun ce e => match e with
    | .Name x _ => if okName x = true then (tslotOf ce x).map .n else none
    | .Tuple es _ _ => match cTs (cT n) ce es with
      | some ts => if es.all noStar = true ∧ es.length = ts.len then some (.t ts true) else none
      | none => none
    | _ => none
theorem eg_name {ce : CE} {x : Str} {i : Nat} {p : Pos} (h : tslotOf ce x = some i) : ∀ X C, CtxOk X ce C → PG X (.Name x p) (gName i) := fun X C k => by
  obtain ⟨a1, a2, a3, a4⟩ := k.tslot h
  exact pg_name k.ndX a1 a2 a3
theorem cTs_ok {g : RG} (hg : ∀ ce e t, g ce e = some t → GoodG ce t e) {ce : CE} : ∀ {es : List Expr} {ts : Tgs}, cTs g ce es = some ts → GoodGs ce ts es
  | [], ts, h => by cases h; exact fun X C k am => egs_nil
  | e :: es, ts, h => by
    simp only [cTs] at h
    split at h
    · rename_i h1 h2
      split at h
      · rename_i hn
        cases h
        exact fun X C k am => egs_cons (hg _ _ _ h1 X C k) (cTs_ok hg h2 X C k am) hn
      · cases h
    · cases h
theorem cT_ok : ∀ (n : Nat) (ce : CE) (e : Expr) (t : Tg), cT n ce e = some t → GoodG ce t e
  | 0, _, _, _, h => by cases h
  | n + 1, ce, e, t, h => by
    simp only [cT] at h
    split at h
    · split at h
      · rename_i x p _
        cases h1 : tslotOf ce x with
        | none => rw [h1] at h; cases h
        | some i => rw [h1] at h; cases h; exact fun X C k => eg_n (eg_name h1 X C k)
      · cases h
    · split at h
      · rename_i ts h1
        split at h
        · rename_i hc
          cases h
          exact fun X C k => eg_t k.calm (cTs_ok (cT_ok n) h1 X C k) hc.1 hc.2
        · cases h
      · cases h
    · cases h
end EV
namespace EV
open PySem PySem.Spec L2
open PyProof.Rows hiding St

/-! ### list comprehensions -/
def cIfs (t : RT) (ce : CE) : List Expr → Option Te
  | [] => some .yes
  | [c] => t ce c
  | _ => none
theorem cIfs_ok {t : RT} (ht : RTok t) {ce : CE} {ifs : List Expr} {c : Te} (h : cIfs t ce ifs = some c) {X : Cx} {C : CallT} (k : CtxOk X ce C) (am : Amb) : PTs X ifs (rdT X.K ap C am c) := by
  unfold cIfs at h
  split at h
  · cases h
    exact pts_weak pts_nil fun σ H Q q => by
      obtain ⟨G, sl, b, sl', r, e, q⟩ := q
      simp only [evT] at e
      cases e
      exact q G H r (Same.refl _)
  · exact pts_one (ht _ _ _ h X C k am)
  · cases h
def isSetE : Expr → Bool
  | .Set _ _ _ => true
  | _ => false
theorem notSet {e : Expr} (h : isSetE e = false) (env : Env) (x : Value) : foldedSetIterable e env x = pure x := by
  cases e <;> first | rfl | cases h
def ownIx (ce : CE) (scope : Scope) : List Nat := (blkOwn ce scope.names).map (·.2)
def hLC (r : RE) (t : RT) (ce : CE) (elt : Expr) (gs : List Comprehension) (scope : Scope) : Option Ex := match gs with
  | [⟨tg, iter, ifs, a⟩] => if a = 0 ∧ blkCk ce scope = true ∧ isSetE iter = false then match hIter r ce tg iter, cT 8 (blkCE ce scope) tg, cIfs t (blkCE ce scope) ifs, r (blkCE ce scope) elt with
      | some (ik, src), some g, some c, some x => if (g.sls.all (ownIx ce scope).contains) = true then some (.lc x g ik src c (ownIx ce scope)) else none
      | _, _, _, _ => none
    else none
  | _ => none
structure LcParts (X : Cx) (C : CallT) (c : Ex) (elt tg iter : Expr) (ifs : List Expr) (scope : Scope) (wi : TI) (g : TG) (tt : TT) (te : TE) (own : List (Str × Nat)) : Prop where
  blk : BlkOk X.N X.env.scope scope own
  hi : PI X tg iter wi
  hg : ∀ (s : Shared) (H : Hp) (D : Addr) (cl : List (Str × Addr)) (fp : List Addr), PG (X.blk s H scope (compEnvC scope cl D X.env) fp) tg g
  ht : ∀ (s : Shared) (H : Hp) (D : Addr) (cl : List (Str × Addr)) (fp : List Addr), PTs (X.blk s H scope (compEnvC scope cl D X.env) fp) ifs tt
  he : ∀ (s : Shared) (H : Hp) (D : Addr) (cl : List (Str × Addr)) (fp : List Addr), PE (X.blk s H scope (compEnvC scope cl D X.env) fp) elt te
  hs : ∀ x, foldedSetIterable iter X.env x = pure x
  rd : ∀ am σ H Q, rdE X.K ap C am c σ H Q → tLc wi g tt te (own.map (·.2)) σ H Q
theorem hLC_parts {r : RE} {t : RT} (hr : REok r) (htt : RTok t) {ce : CE} {elt : Expr} {gs : List Comprehension} {scope : Scope} {c : Ex} (h : hLC r t ce elt gs scope = some c) :
    ∃ tg iter ifs, gs = [⟨tg, iter, ifs, 0⟩] ∧ c.isV = false ∧ ∀ X C, CtxOk X ce C → ∃ wi g tt te own, LcParts X C c elt tg iter ifs scope wi g tt te own := by
  unfold hLC at h
  split at h
  · rename_i tg iter ifs a
    split at h
    · rename_i hc
      obtain ⟨rfl, hb, hset⟩ := hc
      split at h
      · rename_i ik src g cc x h1 h2 h3 h4
        split at h
        · rename_i hs
          cases h
          refine ⟨tg, iter, ifs, rfl, rfl, fun X C k => ?_⟩
          have hk : isFn scope.kind = true := by
            unfold blkCk at hb
            simp only [Bool.and_eq_true] at hb
            exact hb.1.1.1
          have kb := fun s H cl D fp => k.blk (scope := scope) hk s H cl D fp
          refine ⟨fun σ H R => ∃ am, rdI X.K ap C am ik src σ H R, fun v σ H Q => ∃ am, rdG X.K am g v σ H Q, fun σ H Q => ∃ am, rdT X.K ap C am cc σ H Q, rdVx X.K ap C x, blkOwn ce scope.names, ?_⟩
          refine ⟨blkCk_ok k hb, pi_ex fun am => hIter_ok hr h1 X C k am, fun s H D cl fp => pg_ex fun am => cT_ok _ _ _ _ h2 _ C (kb s H cl D fp) am, fun s H D cl fp => pts_ex fun am => cIfs_ok htt h3 (kb s H cl D fp) am,
            fun s H D cl fp => ((hr _ _ _ h4) _ C (kb s H cl D fp)).1.valx, fun x => notSet hset _ _, ?_⟩
          refine lc_read (fun am _ _ _ q => ⟨am, q⟩) (fun am _ _ _ _ q => ⟨am, q⟩) (fun am _ _ _ q => ⟨am, q⟩) (fun am _ _ _ q => ⟨am, q⟩) fun u hu => ?_
          rw [List.all_eq_true] at hs
          have := hs u hu
          exact List.contains_iff_mem.mp this
        · cases h
      · cases h
    · cases h
  · cases h
theorem hLC_ok {r : RE} {t : RT} (hr : REok r) (ht : RTok t) {ce : CE} {elt : Expr} {gs : List Comprehension} {scope : Scope} {pos : Pos} {c : Ex} (h : hLC r t ce elt gs scope = some c) : GoodE ce c (.ListComp elt gs scope pos) := by
  obtain ⟨tg, iter, ifs, rfl, hv, f⟩ := hLC_parts hr ht h
  refine good_of hv fun X C k am => ?_
  obtain ⟨wi, g, tt, te, own, p⟩ := f X C k
  exact pe_weak (pe_lc k.calm k.ndX p.hi p.blk p.hg p.ht p.he p.hs) (p.rd am)

/-! ### two clauses -/
def hC2 (st : Bool) (r : RE) (t : RT) (ce : CE) (elt : Expr) (gs : List Comprehension) (scope : Scope) : Option Ex := match gs with
  | [⟨tg, iter, ifs, a⟩, ⟨tg1, iter1, ifs1, a1⟩] => if a = 0 ∧ a1 = 0 ∧ blkCk ce scope = true ∧ isSetE iter = false ∧ isSetE iter1 = false then
      match hIter r ce tg iter, cT 8 (blkCE ce scope) tg, cIfs t (blkCE ce scope) ifs, hIter r (blkCE ce scope) tg1 iter1, cT 8 (blkCE ce scope) tg1, cIfs t (blkCE ce scope) ifs1, r (blkCE ce scope) elt with
      | some (ik, src), some g, some c, some (ik1, src1), some g1, some c1, some x => if (g.sls.all (ownIx ce scope).contains) = true ∧ (g1.sls.all (ownIx ce scope).contains) = true then some (.c2 st x g ik src c g1 ik1 src1 c1 (ownIx ce scope) g1.sls) else none
      | _, _, _, _, _, _, _ => none
    else none
  | _ => none
structure C2Parts (X : Cx) (C : CallT) (st : Bool) (c : Ex) (elt tg iter : Expr) (ifs : List Expr) (tg1 iter1 : Expr) (ifs1 : List Expr) (scope : Scope) (wi : TI) (g : TG) (tt : TT) (wi1 : TI) (g1 : TG) (tt1 : TT) (te : TE) (own : List (Str × Nat)) (vs1 : List Nat) : Prop where
  blk : BlkOk X.N X.env.scope scope own
  hv : ∀ i ∈ vs1, i ∈ own.map (·.2)
  hi : PI X tg iter wi
  hg : InBlk X scope fun Y => PG Y tg g
  ht : InBlk X scope fun Y => PTs Y ifs tt
  hi1 : InBlk X scope fun Y => PI Y tg1 iter1 wi1
  hg1 : InBlk X scope fun Y => PG Y tg1 g1
  ht1 : InBlk X scope fun Y => PTs Y ifs1 tt1
  he : InBlk X scope fun Y => PE Y elt te
  hs : ∀ x, foldedSetIterable iter X.env x = pure x
  hs1 : ∀ env x, foldedSetIterable iter1 env x = pure x
  rd : ∃ cg ik src ci cg1 ik1 src1 ci1 cx, c = .c2 st cx cg ik src ci cg1 ik1 src1 ci1 (own.map (·.2)) vs1 ∧ C2Rd X ap C cg ik src ci cg1 ik1 src1 ci1 cx (own.map (·.2)) vs1 wi g tt wi1 g1 tt1 te
theorem hC2_parts {st : Bool} {r : RE} {t : RT} (hr : REok r) (htt : RTok t) {ce : CE} {elt : Expr} {gs : List Comprehension} {scope : Scope} {c : Ex} (h : hC2 st r t ce elt gs scope = some c) :
    ∃ tg iter ifs tg1 iter1 ifs1, gs = [⟨tg, iter, ifs, 0⟩, ⟨tg1, iter1, ifs1, 0⟩] ∧ c.isV = false ∧ ∀ X C, CtxOk X ce C → ∃ wi g tt wi1 g1 tt1 te own vs1, C2Parts X C st c elt tg iter ifs tg1 iter1 ifs1 scope wi g tt wi1 g1 tt1 te own vs1 := by
  unfold hC2 at h
  split at h
  · rename_i tg iter ifs a tg1 iter1 ifs1 a1
    split at h
    · rename_i hc
      obtain ⟨rfl, rfl, hb, hset, hset1⟩ := hc
      split at h
      · rename_i ik src g cc ik1 src1 g1 cc1 x h1 h2 h3 h4 h5 h6 h7
        split at h
        · rename_i hs
          cases h
          refine ⟨tg, iter, ifs, tg1, iter1, ifs1, rfl, rfl, fun X C k => ?_⟩
          have hk : isFn scope.kind = true := by
            unfold blkCk at hb
            simp only [Bool.and_eq_true] at hb
            exact hb.1.1.1
          have kb := fun s H cl D fp => k.blk (scope := scope) hk s H cl D fp
          have hin : ∀ g : Tg, (g.sls.all (ownIx ce scope).contains) = true → ∀ u ∈ g.sls, u ∈ (blkOwn ce scope.names).map (·.2) := fun g hg u hu => by
            rw [List.all_eq_true] at hg
            exact List.contains_iff_mem.mp (hg u hu)
          refine ⟨fun σ H R => ∃ am, rdI X.K ap C am ik src σ H R, fun v σ H Q => ∃ am, rdG X.K am g v σ H Q, fun σ H Q => ∃ am, rdT X.K ap C am cc σ H Q, fun σ H R => ∃ am, rdI X.K ap C am ik1 src1 σ H R, fun v σ H Q => ∃ am, rdG X.K am g1 v σ H Q, fun σ H Q => ∃ am, rdT X.K ap C am cc1 σ H Q, rdVx X.K ap C x, blkOwn ce scope.names, g1.sls, ?_⟩
          exact ⟨blkCk_ok k hb, hin g1 hs.2, pi_ex fun am => hIter_ok hr h1 X C k am, fun s H D cl fp => pg_ex fun am => cT_ok _ _ _ _ h2 _ C (kb s H cl D fp) am, fun s H D cl fp => pts_ex fun am => cIfs_ok htt h3 (kb s H cl D fp) am,
            fun s H D cl fp => pi_ex fun am => hIter_ok hr h4 _ C (kb s H cl D fp) am, fun s H D cl fp => pg_ex fun am => cT_ok _ _ _ _ h5 _ C (kb s H cl D fp) am, fun s H D cl fp => pts_ex fun am => cIfs_ok htt h6 (kb s H cl D fp) am,
            fun s H D cl fp => ((hr _ _ _ h7) _ C (kb s H cl D fp)).1.valx, fun x => notSet hset _ _, fun env x => notSet hset1 _ _, _, _, _, _, _, _, _, _, _, rfl,
            ⟨fun am _ _ _ q => ⟨am, q⟩, fun am _ _ _ _ q => ⟨am, q⟩, fun am _ _ _ q => ⟨am, q⟩, fun am _ _ _ q => ⟨am, q⟩, fun am _ _ _ _ q => ⟨am, q⟩, fun am _ _ _ q => ⟨am, q⟩, fun am _ _ _ q => ⟨am, q⟩, hin g hs.1, fun u hu => hu, hin g1 hs.2⟩⟩
        · cases h
      · cases h
    · cases h
  · cases h
theorem hC2_ok {r : RE} {t : RT} (hr : REok r) (ht : RTok t) {ce : CE} {elt : Expr} {gs : List Comprehension} {scope : Scope} {pos : Pos} {c : Ex} (h : hC2 false r t ce elt gs scope = some c) : GoodE ce c (.ListComp elt gs scope pos) := by
  obtain ⟨tg, iter, ifs, tg1, iter1, ifs1, rfl, hv, f⟩ := hC2_parts hr ht h
  refine good_of hv fun X C k am => ?_
  obtain ⟨wi, g, tt, wi1, g1, tt1, te, own, vs1, p⟩ := f X C k
  obtain ⟨cg, ik, src, ci, cg1, ik1, src1, ci1, cx, rfl, rd⟩ := p.rd
  exact pe_weak (pe_lc2 k.calm k.ndX p.hi p.blk p.hv p.hg p.ht p.hi1 p.hg1 p.ht1 p.he p.hs p.hs1) (lc2_read rd am)
/-- sorted(set(e)), sorted({.. for .. for ..}) -/
def hSortS (r : RE) (t : RT) (ce : CE) (f : Expr) (args : List Expr) : Option Ex := match f, args with
  | .Name x _, [.Call (.Name y _) [a] [] _] => if x = "sorted" ∧ y = "set" ∧ isBlt ce "sorted" = true ∧ isBlt ce "set" = true ∧ noStar a = true then (r ce a).map fun ca => .bi .sortedSet (.cons ca .nil) else none
  | .Name x _, [.SetComp elt gs scope _] => if x = "sorted" ∧ isBlt ce "sorted" = true then hC2 true r t ce elt gs scope else none
  | _, _ => none
theorem hSortS_ok {r : RE} {t : RT} (hr : REok r) (ht : RTok t) {ce : CE} {f : Expr} {args : List Expr} {pos : Pos} {c : Ex} (h : hSortS r t ce f args = some c) : GoodE ce c (.Call f args [] pos) := by
  unfold hSortS at h
  split at h
  · rename_i x p y p2 a p3
    split at h
    · rename_i hx
      obtain ⟨rfl, rfl, hb, hb2, hn⟩ := hx
      cases h1 : r ce a with
      | none => rw [h1] at h; cases h
      | some ca =>
        rw [h1] at h; cases h
        refine good_of rfl fun X C k => ?_
        obtain ⟨b1, b2, b3, b4⟩ := isBlt_ok k hb
        obtain ⟨c1, c2, c3, c4⟩ := isBlt_ok k hb2
        exact ee_sortedSet rfl k.calm k.un b1 b2 c1 c2 ((hr _ _ _ h1).op k) hn
    · cases h
  · rename_i x p elt gs scope p2
    split at h
    · rename_i hx
      obtain ⟨rfl, hb⟩ := hx
      obtain ⟨tg, iter, ifs, tg1, iter1, ifs1, rfl, hv, f⟩ := hC2_parts hr ht h
      refine good_of hv fun X C k am => ?_
      obtain ⟨b1, b2, b3, b4⟩ := isBlt_ok k hb
      obtain ⟨wi, g, tt, wi1, g1, tt1, te, own, vs1, p⟩ := f X C k
      obtain ⟨cg, ik, src, ci, cg1, ik1, src1, ci1, cx, rfl, rd⟩ := p.rd
      exact pe_weak (pe_callB (o_sortedS k.calm) b1 b2 (by decide +kernel) (pa_cons (pe_sc2 k.calm k.ndX p.hi p.blk p.hv p.hg p.ht p.hi1 p.hg1 p.ht1 p.he p.hs p.hs1) pa_nil (star_cons rfl)) (by decide) (by decide) (star_cons rfl) rfl) (sc2_read rfl rd am)
    · cases h
  · cases h
/-! ### dict comprehensions -/
def hDC (r : RE) (t : RT) (ce : CE) (kx vx : Expr) (gs : List Comprehension) (scope : Scope) : Option Ex := match gs with
  | [⟨tg, iter, ifs, a⟩] => if a = 0 ∧ blkCk ce scope = true ∧ isSetE iter = false then match hIter r ce tg iter, cT 8 (blkCE ce scope) tg, cIfs t (blkCE ce scope) ifs, r (blkCE ce scope) kx, r (blkCE ce scope) vx with
      | some (ik, src), some g, some c, some k, some x => if (g.sls.all (ownIx ce scope).contains) = true then some (.dc k x g ik src c (ownIx ce scope)) else none
      | _, _, _, _, _ => none
    else none
  | _ => none
structure DcParts (X : Cx) (C : CallT) (c : Ex) (kx vx tg iter : Expr) (ifs : List Expr) (scope : Scope) (wi : TI) (g : TG) (tt : TT) (tk tv : TE) (own : List (Str × Nat)) : Prop where
  blk : BlkOk X.N X.env.scope scope own
  hi : PI X tg iter wi
  hg : InBlk X scope fun Y => PG Y tg g
  ht : InBlk X scope fun Y => PTs Y ifs tt
  hk : InBlk X scope fun Y => PE Y kx tk
  he : InBlk X scope fun Y => PE Y vx tv
  hs : ∀ x, foldedSetIterable iter X.env x = pure x
  rd : ∀ am σ H Q, rdE X.K ap C am c σ H Q → tDc wi g tt tk tv (own.map (·.2)) σ H Q
theorem hDC_parts {r : RE} {t : RT} (hr : REok r) (htt : RTok t) {ce : CE} {kx vx : Expr} {gs : List Comprehension} {scope : Scope} {c : Ex} (h : hDC r t ce kx vx gs scope = some c) :
    ∃ tg iter ifs, gs = [⟨tg, iter, ifs, 0⟩] ∧ c.isV = false ∧ ∀ X C, CtxOk X ce C → ∃ wi g tt tk tv own, DcParts X C c kx vx tg iter ifs scope wi g tt tk tv own := by
  unfold hDC at h
  split at h
  · rename_i tg iter ifs a
    split at h
    · rename_i hc
      obtain ⟨rfl, hb, hset⟩ := hc
      split at h
      · rename_i ik src g cc ck x h1 h2 h3 h4 h5
        split at h
        · rename_i hs
          cases h
          refine ⟨tg, iter, ifs, rfl, rfl, fun X C k => ?_⟩
          have hk : isFn scope.kind = true := by
            unfold blkCk at hb
            simp only [Bool.and_eq_true] at hb
            exact hb.1.1.1
          have kb := fun s H cl D fp => k.blk (scope := scope) hk s H cl D fp
          refine ⟨fun σ H R => ∃ am, rdI X.K ap C am ik src σ H R, fun v σ H Q => ∃ am, rdG X.K am g v σ H Q, fun σ H Q => ∃ am, rdT X.K ap C am cc σ H Q, rdVx X.K ap C ck, rdVx X.K ap C x, blkOwn ce scope.names, blkCk_ok k hb, pi_ex fun am => hIter_ok hr h1 X C k am,
            fun s H D cl fp => pg_ex fun am => cT_ok _ _ _ _ h2 _ C (kb s H cl D fp) am, fun s H D cl fp => pts_ex fun am => cIfs_ok htt h3 (kb s H cl D fp) am,
            fun s H D cl fp => ((hr _ _ _ h4) _ C (kb s H cl D fp)).1.valx, fun s H D cl fp => ((hr _ _ _ h5) _ C (kb s H cl D fp)).1.valx, fun x => notSet hset _ _, ?_⟩
          refine dc_read (fun am _ _ _ q => ⟨am, q⟩) (fun am _ _ _ _ q => ⟨am, q⟩) (fun am _ _ _ q => ⟨am, q⟩) (fun am _ _ _ q => ⟨am, q⟩) (fun am _ _ _ q => ⟨am, q⟩) fun u hu => ?_
          rw [List.all_eq_true] at hs
          exact List.contains_iff_mem.mp (hs u hu)
        · cases h
      · cases h
    · cases h
  · cases h
theorem hDC_ok {r : RE} {t : RT} (hr : REok r) (htt : RTok t) {ce : CE} {kx vx : Expr} {gs : List Comprehension} {scope : Scope} {pos : Pos} {c : Ex} (h : hDC r t ce kx vx gs scope = some c) : GoodE ce c (.DictComp kx vx gs scope pos) := by
  obtain ⟨tg, iter, ifs, rfl, hv, f⟩ := hDC_parts hr htt h
  refine good_of hv fun X C k am => ?_
  obtain ⟨wi, g, tt, tk, tv, own, p⟩ := f X C k
  exact pe_weak (pe_dc k.calm k.ndX p.hi p.blk p.hg p.ht p.hk p.he p.hs) (p.rd am)

/-! ### statements -/
def GoodS (ce : CE) (c : Stm) (s : Stmt) : Prop := ∀ X C, CtxOk X ce C → ES X ap aM aS C c s
def GoodSs (ce : CE) (c : Stms) (s : List Stmt) : Prop := ∀ X C, CtxOk X ce C → ESs X ap aM aS C c s
def isComp : Expr → Bool
  | .ListComp .. => true
  | .SetComp .. => true
  | .DictComp .. => true
  | _ => false
theorem noSw {e : Expr} (h : isComp e = false) (t : Option Expr) (l : Nat) (env : Env) : swapsWith e t l env = pure false := by
  cases e <;> first | rfl | cases h
theorem noSw1 {e tg : Expr} (h : isComp e = false) (l : Nat) (env : Env) : swapsWithSole [tg] e l env = pure false := noSw h _ _ _
def isSeqE : Expr → Bool
  | .Tuple .. => true
  | .List .. => true
  | _ => false
theorem noPar {tg e : Expr} (h : isSeqE tg = false ∨ isTup e = false) (env : Env) : swappedStores [tg] e env = pure none := by
  cases tg <;> first | rfl | (cases e <;> first | rfl | (rcases h with h | h <;> cases h))
theorem noPar2 {ts vs : List Expr} {k1 k2 : Nat} {p1 p2 : Pos} (h : vs.all (foldedForSure 8) = true) (env : Env) : swappedStores [.Tuple ts k1 p1] (.Tuple vs k2 p2) env = pure none := by
  unfold swappedStores
  simp only [h, if_true]
  repeat' split
  all_goals rfl
/-- is the store one by the names of both sides -/
def parOk (ce : CE) (x y : Str) (px py : Pos) (a b : Expr) : Bool := decide (kd ce x = some .local) && decide (kd ce y = some .local) && decide (x ≠ y) && (py.line == px.line) && noStar a && noStar b && !(foldedForSure 8 a && foldedForSure 8 b) && !(constantsAlone 8 a && constantsAlone 8 b)
theorem starB {a : Expr} : noStar a = true → (match a with | .Starred .. => true | _ => false) = true → False := fun h z => by cases a <;> first | (cases z; done) | (cases h; done)
theorem parSw {ce : CE} {x y : Str} {px py p1 p2 : Pos} {k1 k2 : Nat} {a b : Expr} {X : Cx} {C : CallT} (k : CtxOk X ce C) (h : parOk ce x y px py a b = true) :
    swappedStores [.Tuple [.Name x px, .Name y py] k1 p1] (.Tuple [a, b] k2 p2) X.env = pure (some [x, y]) := by
  unfold parOk at h
  simp only [Bool.and_eq_true, decide_eq_true_eq, Bool.not_eq_true'] at h
  obtain ⟨⟨⟨⟨⟨⟨⟨h1, h2⟩, h3⟩, h4⟩, h5⟩, h6⟩, h7⟩, h8⟩ := h
  have kx : X.env.kindOf x = some .local := k.loc x h1
  have ky : X.env.kindOf y = some .local := k.loc y h2
  have hb : X.env.blockKind = .function := by unfold Env.blockKind; rw [k.kind]; rfl
  have h4' : py.line = px.line := by simpa using h4
  have hxy : (y == x) = false := by simpa using fun z => h3 z.symm
  unfold swappedStores
  simp [hb, kx, ky, h4', h7, h8, Expr.pos, List.eraseDups_cons, hxy, h3]
  intro z
  rcases z with z | z
  · exact (starB h5 z).elim
  · exact (starB h6 z).elim
/-- x, y = a, b -/
theorem es_par {i j : Nat} {x y : Str} {px py p1 p2 pos : Pos} {k1 k2 : Nat} {a b : Expr} {ca cb : Ex} {X : Cx} {C : CallT} (hc : X.calm = true) (hN : X.N.Nodup) (hi : X.N[i]? = some x) (hj : X.N[j]? = some y) (hij : i ≠ j)
    (hx : X.env.scope.names.lookup x = some .local) (hy : X.env.scope.names.lookup y = some .local) (ha : ∀ am, PA X [a, b] (rdEs X.K ap C am (.cons ca (.cons cb .nil))))
    (hw : swappedStores [.Tuple [.Name x px, .Name y py] k1 p1] (.Tuple [a, b] k2 p2) X.env = pure (some [x, y])) :
    ES X ap aM aS C (.asg (.t (.cons (.n i) (.cons (.n j) .nil)) true) (.tup (.cons ca (.cons cb .nil)))) (.Assign [.Tuple [.Name x px, .Name y py] k1 p1] (.Tuple [a, b] k2 p2) pos) := fun am =>
  ps_weak (ps_par hc hN hi hj hij hx hy (ha am) hw rfl) fun D σ H q => by
    obtain ⟨G, sl, f, sl', r, e, q⟩ := q
    simp only [evS] at e
    split at e
    · rename_i d fr sl1 e1
      split at e
      · rename_i sl2 e2
        cases e
        have e1' : (match evEs ap C (.cons ca (.cons cb .nil)) sl with
          | some (ds, sl) => some (PyData.tuple ds, false, sl)
          | none => none) = some (d, fr, sl1) := by rw [← e1]; (conv => rhs; unfold evE) <;> rfl
        split at e1'
        · rename_i ds sl3 e3
          cases e1'
          refine ⟨G, sl, ds, sl1, r, e3, fun vs G1 H1 r1 g1 p => ?_⟩
          simp only [asgT] at e2
          have hl := asgTs_len e2
          cases ds with
          | nil => cases hl
          | cons d1 ds =>
            cases ds with
            | nil => cases hl
            | cons d2 ds =>
              cases ds with
              | cons _ _ => cases hl
              | nil =>
                cases p with
                | cons p1 p =>
                  cases p with
                  | cons p2 p =>
                    cases p
                    refine ⟨_, _, rfl, ?_⟩
                    simp only [asgTs, asgT] at e2
                    split at e2
                    · rename_i sl4 e4
                      split at e4
                      · cases e4
                      · rename_i x1 nb1 hx1
                        cases e4
                        split at e2
                        · rename_i sl5 e5
                          split at e5
                          · cases e5
                          · rename_i x2 nb2 hx2
                            cases e5
                            cases e2
                            exact q G1 H1 _ ((r1.setVal hx1 (fun d z => nb1 d z) p1).setVal hx2 (fun d z => nb2 d z) p2) g1
                          · cases e5
                        · cases e2
                      · cases e4
                    · cases e2
        · cases e1'
      · cases e
    · cases e
end EV
namespace EV
open PySem PySem.Spec L2
open PyProof.Rows hiding St

/-! ### one assignment -/
/-- x = e -/
theorem es_name {ce : CE} {x : Str} {i : Nat} {c : Ex} {e : Expr} {py pos : Pos} (hx : tslotOf ce x = some i) (he : GoodE ce c e) (hn : isComp e = false) : GoodS ce (.asgO i c) (.Assign [.Name x py] e pos) := fun X C k am =>
  es_asgO_of (ps_asg ((he X C k).1 am) (eg_name hx X C k) (noSw1 hn _ _) (noPar (.inl rfl) _) rfl) fun _ _ _ q => q
theorem sw_false {elt : Expr} {gs : List Comprehension} {scope : Scope} {pos py : Pos} {y : Str} {l : Nat} {env : Env} (h : (py.line == pos.line) = false ∨ (scope.names.any fun (n, k) => n == y && (k == .local || k == .cell)) = true) :
    swapsWith (.ListComp elt gs scope pos) (some (.Name y py)) l env = pure false := by
  unfold swapsWith
  rcases h with h | h
  · simp only [Expr.pos, h, Bool.and_false, Bool.false_and]
  · simp only [h, Bool.not_true, Bool.and_false]
theorem sw_cell {e : Expr} {py : Pos} {y : Str} {l : Nat} {env : Env} (h : env.scope.names.lookup y = some .cell) : swapsWith e (some (.Name y py)) l env = pure false := by
  have k : env.kindOf y = some .cell := h
  unfold swapsWith
  split
  · have z : (NameKind.cell == NameKind.local) = false := by decide
    simp [k, z]
  · rfl
theorem tslot_kind {ce : CE} {x : Str} {i : Nat} (h : tslotOf ce x = some i) : kd ce x = some .local ∨ kd ce x = some .cell := by
  unfold tslotOf at h
  split at h
  · exact .inl ‹_›
  · exact .inr ‹_›
  · cases h
theorem sw_kind {ce : CE} {x : Str} {i : Nat} {X : Cx} {C : CallT} (k : CtxOk X ce C) (h : tslotOf ce x = some i) (hk : kd ce x ≠ some .local) (e : Expr) (py : Pos) (l : Nat) : swapsWithSole [.Name x py] e l X.env = pure false :=
  sw_cell (l := l) (k.cel x ((tslot_kind h).resolve_left hk)).1
/-- x = [..] -/
theorem es_nameLc {r : RE} {t : RT} (hr : REok r) (ht : RTok t) {ce : CE} {x : Str} {i : Nat} {c : Ex} {elt : Expr} {gs : List Comprehension} {scope : Scope} {cpos py pos : Pos} (hx : tslotOf ce x = some i) (h : hLC r t ce elt gs scope = some c) : GoodS ce (.asgO i c) (.Assign [.Name x py] (.ListComp elt gs scope cpos) pos) := by
  by_cases hkd : kd ce x = some .local
  case neg => exact fun X C k am => es_asgO_of (ps_asg ((hLC_ok hr ht h X C k).1 am) (eg_name hx X C k) (sw_kind k hx hkd _ _ _) (noPar (.inl rfl) _) rfl) fun _ _ _ q => q
  cases hb : ((py.line == cpos.line) && !(scope.names.any fun (n, k) => n == x && (k == .local || k == .cell))) with
  | true =>
    obtain ⟨tg, iter, ifs, rfl, hv, f⟩ := hLC_parts hr ht h
    intro X C k am
    obtain ⟨wi, g, tt, te, own, p⟩ := f X C k
    obtain ⟨a1, a2, a3, a4⟩ := k.tslot hx
    have hl := k.loc x hkd
    rw [Bool.and_eq_true, Bool.not_eq_true'] at hb
    exact es_asgO_of (ps_setLc k.calm k.ndX a1 hl (sw_true k.kind hl hb.1 hb.2) p.hi p.blk p.hg p.ht p.he p.hs) (p.rd am)
  | false =>
    intro X C k am
    refine es_asgO_of (ps_asg ((hLC_ok hr ht h X C k).1 am) (eg_name hx X C k) ?_ (noPar (.inl rfl) _) rfl) fun _ _ _ q => q
    refine sw_false (l := pos.line) ?_
    rw [Bool.and_eq_false_iff, Bool.not_eq_false'] at hb
    exact hb
/-- x = [.. for .. for ..] -/
theorem es_nameC2 {r : RE} {t : RT} (hr : REok r) (ht : RTok t) {ce : CE} {x : Str} {i : Nat} {c : Ex} {elt : Expr} {gs : List Comprehension} {scope : Scope} {cpos py pos : Pos} (hx : tslotOf ce x = some i) (h : hC2 false r t ce elt gs scope = some c) : GoodS ce (.asgO i c) (.Assign [.Name x py] (.ListComp elt gs scope cpos) pos) := by
  by_cases hkd : kd ce x = some .local
  case neg => exact fun X C k am => es_asgO_of (ps_asg ((hC2_ok hr ht h X C k).1 am) (eg_name hx X C k) (sw_kind k hx hkd _ _ _) (noPar (.inl rfl) _) rfl) fun _ _ _ q => q
  intro X C k am
  cases hb : ((py.line == cpos.line) && !(scope.names.any fun (n, k) => n == x && (k == .local || k == .cell))) with
  | true =>
    obtain ⟨tg, iter, ifs, tg1, iter1, ifs1, rfl, hv, f⟩ := hC2_parts hr ht h
    obtain ⟨wi, g, tt, wi1, g1, tt1, te, own, vs1, p⟩ := f X C k
    obtain ⟨a1, a2, a3, a4⟩ := k.tslot hx
    have hl := k.loc x hkd
    rw [Bool.and_eq_true, Bool.not_eq_true'] at hb
    obtain ⟨cg, ik, src, ci, cg1, ik1, src1, ci1, cx, rfl, rd⟩ := p.rd
    exact es_asgO_of (ps_setLc2 k.calm k.ndX a1 hl (sw_true k.kind hl hb.1 hb.2) p.hi p.blk p.hv p.hg p.ht p.hi1 p.hg1 p.ht1 p.he p.hs p.hs1) (lc2_read rd am)
  | false =>
    refine es_asgO_of (ps_asg ((hC2_ok hr ht h X C k).1 am) (eg_name hx X C k) ?_ (noPar (.inl rfl) _) rfl) fun _ _ _ q => q
    refine sw_false (l := pos.line) ?_
    rw [Bool.and_eq_false_iff, Bool.not_eq_false'] at hb
    exact hb
/-- x = {.. : .. for ..} -/
theorem ps_nameD {X : Cx} {i : Nat} {y : Str} {py pos spos : Pos} {kx vx tg iter : Expr} {ifs : List Expr} {scope : Scope} {own : List (Str × Nat)} {wi : TI} {g : TG} {tt : TT} {tk tv : TE} {C : CallT} {c : Ex} (k1 : X.calm = true) (k2 : X.N.Nodup) (hy : X.N[i]? = some y) (yl : X.env.scope.names.lookup y = some .local)
    (sw : swapsWith (.DictComp kx vx [⟨tg, iter, ifs, 0⟩] scope pos) (some (.Name y py)) spos.line X.env = pure true) (p : DcParts X C c kx vx tg iter ifs scope wi g tt tk tv own) :
    PS X (.Assign [.Name y py] (.DictComp kx vx [⟨tg, iter, ifs, 0⟩] scope pos) spos) (tAsg (tDc wi g tt tk tv (own.map (·.2))) (gName i)) := by
  refine ⟨fun pins s σ H D I q => ?_⟩
  have q : tDc wi g tt tk tv (own.map (·.2)) σ H (fun x H1 => gName i x σ H1 D.nx) := q
  rw [exec_Assign_Name_used _ _ _ _ sw]
  refine wpAny_bind (wpAny_standAt (wpAny_bind ?_))
  show wpAny _ X.A (comprehension (.DictComp kx vx [⟨tg, iter, ifs, 0⟩] scope pos) scope X.env (firstIterPos [⟨tg, iter, ifs, 0⟩] pos) newDict false (eval iter X.env) (some (assign (.Name y py) X.env)) >>= fun _ => pure ()) _ _ s
  refine wpAny_bind (thn (dc_core (Qf := fun _ t => SP X pins D .next t) k1 k2 I p.hi p.blk p.hg p.ht p.hk p.he p.hs q fun L E t m H2 I2 qq ns fo => ?_) fun _ t ht => wpAny_pure (wpAny_pure ht))
  show wpAny _ _ (assign (.Name y py) X.env (.ref L)) _ _ _
  obtain ⟨f0, f1, f2, f3, f4, f5⟩ := fo
  refine wpAny_assign_Name (store_ok2 (v := V.ref L) I2 k2 hy (.inl yl) rfl (fun t2 I3 ⟨a, sb, ha⟩ => ?_) (.inr yl))
  have ne : E ≠ a := by
    rcases ha with z | z
    · rw [z]; exact f1
    · intro e
      exact f4 y a z e.symm
  exact ⟨m, ns.sameBut sb ne, fun h3 sb3 => ⟨_, H2, I3.turned (t' := t2.toks) (fun b o hb e => (sb3.2 b hb).trans e) f0 f1 f3 f4 f5, qq⟩⟩
theorem es_nameDc {r : RE} {t : RT} (hr : REok r) (ht : RTok t) {ce : CE} {x : Str} {i : Nat} {c : Ex} {kx vx : Expr} {gs : List Comprehension} {scope : Scope} {cpos py pos : Pos} (hx : tslotOf ce x = some i) (h : hDC r t ce kx vx gs scope = some c) : GoodS ce (.asgO i c) (.Assign [.Name x py] (.DictComp kx vx gs scope cpos) pos) := by
  by_cases hkd : kd ce x = some .local
  case neg => exact fun X C k am => es_asgO_of (ps_asg ((hDC_ok hr ht h X C k).1 am) (eg_name hx X C k) (sw_kind k hx hkd _ _ _) (noPar (.inl rfl) _) rfl) fun _ _ _ q => q
  intro X C k am
  cases hb : ((py.line == cpos.line) && !(scope.names.any fun (n, k) => n == x && (k == .local || k == .cell))) with
  | true =>
    obtain ⟨tg, iter, ifs, rfl, hv, f⟩ := hDC_parts hr ht h
    obtain ⟨wi, g, tt, tk, tv, own, p⟩ := f X C k
    obtain ⟨a1, a2, a3, a4⟩ := k.tslot hx
    have hl := k.loc x hkd
    rw [Bool.and_eq_true, Bool.not_eq_true'] at hb
    refine es_asgO_of (ps_nameD k.calm k.ndX a1 hl ?_ p) (p.rd am)
    have ky : X.env.kindOf x = some .local := hl
    have bk : X.env.blockKind = .function := by unfold Env.blockKind; rw [k.kind]; rfl
    unfold swapsWith
    simp only [bk, ky, hb.2, Expr.pos, hb.1]
    rfl
  | false =>
    refine es_asgO_of (ps_asg ((hDC_ok hr ht h X C k).1 am) (eg_name hx X C k) ?_ (noPar (.inl rfl) _) rfl) fun _ _ _ q => q
    show swapsWith (.DictComp kx vx gs scope cpos) (some (.Name x py)) pos.line X.env = pure false
    rw [Bool.and_eq_false_iff, Bool.not_eq_false'] at hb
    unfold swapsWith
    rcases hb with h | h
    · simp only [Expr.pos, h, Bool.and_false, Bool.false_and]
    · simp only [h, Bool.not_true, Bool.and_false]
/-- a place of a list -/
theorem es_item {ce : CE} {x : Str} {i : Nat} {cx cv : Ex} {ix e : Expr} {px tpos pos : Pos} (ho : okName x = true) (hx : slotOf ce x = some i) (hi : GoodE ce cx ix) (he : GoodE ce cv e) (hn : isComp e = false) (hs : isSlice ix = false) :
    GoodS ce (.setI i cx cv) (.Assign [.Subscript (.Name x px) ix tpos] e pos) := fun X C k => by
  obtain ⟨o1, o2, o3⟩ := okName_ok ho
  obtain ⟨s1, s2⟩ := k.slot hx
  exact es_setI (by have := k.un; omega) (pe_var s1 s2 o1 o2) (hi X C k).1 (he X C k).1 (noSw1 hn _ _) (noPar (.inl rfl) _) (fun v => by cases ix <;> first | rfl | cases hs)
/-- a row of targets with one star -/
def starAt : List Expr → Nat → Option Nat
  | [], _ => none
  | .Starred _ _ :: _, n => some n
  | _ :: r, n => starAt r (n + 1)
def unStar : List Expr → List Expr
  | [] => []
  | .Starred t _ :: r => t :: r
  | e :: r => e :: unStar r
theorem star_facts {env : Env} : ∀ {es : List Expr} {n i : Nat}, starAt es n = some i → (unStar es).all noStar = true → ∃ j, i = n + j ∧ j < es.length ∧ (assignEach es env).findIdx? (·.1) = some j ∧ (assignEach es env).length = es.length ∧ (assignEach es env).map (·.2) = (assignEach (unStar es) env).map (·.2)
  | [], n, i, h, _ => by cases h
  | e :: r, n, i, h, a => by
    by_cases hs : noStar e = true
    · have h1 : starAt r (n + 1) = some i := by cases e <;> first | exact h | cases hs
      have h2 : unStar (e :: r) = e :: unStar r := by cases e <;> first | rfl | cases hs
      rw [h2, List.all_cons, Bool.and_eq_true] at a
      obtain ⟨j, b1, b2, b3, b4, b5⟩ := star_facts (env := env) h1 a.2
      refine ⟨j + 1, by omega, by rw [List.length_cons]; omega, ?_, ?_, ?_⟩
      · rw [asg_cons hs, List.findIdx?_cons, b3]; rfl
      · rw [asg_cons hs]; exact congrArg (· + 1) b4
      · rw [h2, asg_cons hs, asg_cons hs, List.map_cons, List.map_cons, b5]
    · cases e with
      | Starred t p =>
        cases h
        have a : (t :: r).all noStar = true := a
        rw [List.all_cons, Bool.and_eq_true] at a
        refine ⟨0, rfl, Nat.zero_lt_succ _, ?_, ?_, ?_⟩
        · show List.findIdx? (·.1) ((true, assign t env) :: assignEach r env) = some 0
          rw [List.findIdx?_cons]; rfl
        · show ((true, assign t env) :: assignEach r env).length = _
          exact congrArg (· + 1) (asg_len a.2).1
        · show assign t env :: (assignEach r env).map (·.2) = (assignEach (t :: r) env).map (·.2)
          rw [asg_cons a.1]; rfl
      | _ => exact absurd rfl hs
/-- two targets, the first one a row itself -/
def isRow : List Expr → Bool
  | [.Tuple _ _ _, _] => true
  | _ => false
theorem row_short (f : Expr → Option Str) {a : List Expr} {b : Nat} {c : Pos} {t2 : Expr} (h : f (.Tuple a b c) = none) : ((List.filterMap f [Expr.Tuple a b c, t2]).length != [Expr.Tuple a b c, t2].length) = true := by
  rw [List.filterMap_cons, h, bne_iff_ne]
  have : (List.filterMap f [t2]).length ≤ 1 := List.length_filterMap_le f [t2]
  intro z
  simp only [List.length_cons, List.length_nil] at z
  omega
theorem noParRow {ts : List Expr} {k1 : Nat} {p1 : Pos} {e : Expr} {env : Env} (h : isRow ts = true) : swappedStores [.Tuple ts k1 p1] e env = pure none := by
  unfold isRow at h
  split at h
  · rename_i a b c t2
    cases e with
    | Tuple vs k2 p2 =>
      unfold swappedStores
      dsimp only
      repeat' split
      all_goals first
        | rfl
        | (exfalso
           rename_i h3 _ _
           exact h3 (by rw [row_short _ rfl, Bool.true_or]))
        | (exfalso
           rename_i h3 _
           exact h3 (by rw [row_short _ rfl, Bool.true_or]))
    | _ => rfl
  · cases h
def hAsg (r : RE) (t : RT) (ce : CE) (tg e : Expr) : Option Stm := match tg with
  | .Name x py => if okName x = true then match tslotOf ce x with
      | some i => match e with
        | .ListComp elt gs scope cpos => (match hLC r t ce elt gs scope with
            | some c => some (.asgO i c)
            | none => (hC2 false r t ce elt gs scope).map fun c => .asgO i c)
        | .DictComp kx vx gs scope cpos => (hDC r t ce kx vx gs scope).map fun c => .asgO i c
        | e => if isComp e = false then (r ce e).map fun c => .asgO i c else none
      | none => none
    else none
  | .Tuple [.Name x px, .Name y py] k1 p1 => match e with
    | .Tuple [a, b] k2 p2 => if parOk ce x y px py a b = true then match idxOf x ce.N 0, idxOf y ce.N 0, r ce a, r ce b with
        | some i, some j, some ca, some cb => if i ≠ j then some (.asg (.t (.cons (.n i) (.cons (.n j) .nil)) true) (.tup (.cons ca (.cons cb .nil)))) else none
        | _, _, _, _ => none
      else if [a, b].all (foldedForSure 8) = true then match cT 8 ce (.Tuple [.Name x px, .Name y py] k1 p1), r ce (.Tuple [a, b] k2 p2) with
        | some g, some c => some (.asg g c)
        | _, _ => none
      else none
    | e => if isComp e = false ∧ isTup e = false then match cT 8 ce (.Tuple [.Name x px, .Name y py] k1 p1), r ce e with
        | some g, some c => some (.asg g c)
        | _, _ => none
      else none
  | .Tuple ts k1 p1 => if isComp e = false ∧ (isTup e = false ∨ isRow ts = true) then match starAt ts 0 with
        | none => match cT 8 ce (.Tuple ts k1 p1), r ce e with
          | some g, some c => some (.asg g c)
          | _, _ => none
        | some i => if (unStar ts).all noStar = true ∧ isTup e = false then match cTs (cT 8) ce (unStar ts), r ce e with
            | some g, some c => some (.starA ts.length i g c)
            | _, _ => none
          else none
      else none
  | .Subscript (.Name x px) ix tpos => if okName x = true ∧ isComp e = false ∧ isSlice ix = false then match slotOf ce x, r ce ix, r ce e with
      | some i, some cx, some cv => some (.setI i cx cv)
      | _, _, _ => none
    else none
  | _ => none
theorem es_tg {ce : CE} {g : Tg} {c : Ex} {tg e : Expr} {pos : Pos} (hg : GoodG ce g tg) (he : GoodE ce c e) (hn : isComp e = false) (hp : ∀ env, swappedStores [tg] e env = pure none) (ns : noStar tg = true) : GoodS ce (.asg g c) (.Assign [tg] e pos) := fun X C k =>
  es_asg (he X C k).1 (hg X C k) (noSw1 hn _ _) (hp _) ns
theorem hAsg_ok {r : RE} {t : RT} (hr : REok r) (ht : RTok t) {ce : CE} {tg e : Expr} {pos : Pos} {c : Stm} (h : hAsg r t ce tg e = some c) : GoodS ce c (.Assign [tg] e pos) := by
  unfold hAsg at h
  split at h
  · split at h
    · split at h
      · rename_i i hi
        split at h
        · rename_i elt gs scope cpos
          cases h1 : hLC r t ce elt gs scope with
          | none =>
            rw [h1] at h
            simp only at h
            cases h2 : hC2 false r t ce elt gs scope with
            | none => rw [h2] at h; cases h
            | some c0 =>
              rw [h2] at h; cases h
              exact es_nameC2 hr ht hi h2
          | some c0 =>
            rw [h1] at h; cases h
            exact es_nameLc hr ht hi h1
        · rename_i kx vx gs scope cpos
          cases h1 : hDC r t ce kx vx gs scope with
          | none => rw [h1] at h; cases h
          | some c0 =>
            rw [h1] at h; cases h
            exact es_nameDc hr ht hi h1
        · split at h
          · rename_i hc
            cases h1 : r ce e with
            | none => rw [h1] at h; cases h
            | some c0 => rw [h1] at h; cases h; exact es_name hi (hr _ _ _ h1) hc
          · cases h
      · cases h
    · cases h
  · rename_i x px y py k1 p1
    split at h
    · rename_i a b k2 p2
      split at h
      · rename_i hp
        split at h
        · rename_i i j ca cb e1 e2 e3 e4
          split at h
          · rename_i hij
            cases h
            intro X C k
            have hp' := hp
            unfold parOk at hp'
            simp only [Bool.and_eq_true, decide_eq_true_eq, Bool.not_eq_true'] at hp'
            obtain ⟨⟨⟨⟨⟨⟨⟨h1, h2⟩, h3⟩, h4⟩, h5⟩, h6⟩, h7⟩, h8⟩ := hp'
            have t1 : tslotOf ce x = some i := by unfold tslotOf; rw [h1]; exact e1
            have t2 : tslotOf ce y = some j := by unfold tslotOf; rw [h2]; exact e2
            exact es_par k.calm k.ndX (k.tslot t1).1 (k.tslot t2).1 hij (k.loc x h1) (k.loc y h2) (fun am => pa_es_cons ((hr _ _ _ e3) X C k).1 (pa_es_cons ((hr _ _ _ e4) X C k).1 pa_es_nil h6) h5) (parSw k hp)
          · cases h
        · cases h
      · split at h
        · rename_i hf
          split at h
          · rename_i h1 h2
            cases h
            exact es_tg (cT_ok _ _ _ _ h1) (hr _ _ _ h2) rfl (fun env => noPar2 hf env) rfl
          · cases h
        · cases h
    · split at h
      · rename_i hc
        split at h
        · rename_i h1 h2
          cases h
          exact es_tg (cT_ok _ _ _ _ h1) (hr _ _ _ h2) hc.1 (noPar (.inr hc.2)) rfl
        · cases h
      · cases h
  · split at h
    · rename_i hc
      split at h
      · split at h
        · rename_i h1 h2
          cases h
          refine es_tg (cT_ok _ _ _ _ h1) (hr _ _ _ h2) hc.1 (fun env => ?_) rfl
          rcases hc.2 with z | z
          · exact noPar (.inr z) env
          · exact noParRow z
        · cases h
      · rename_i i hi
        split at h
        · rename_i hu
          split at h
          · rename_i h1 h2
            cases h
            intro X C k
            obtain ⟨j, b1, b2, b3, b4, b5⟩ := star_facts (env := X.env) hi hu.1
            rw [Nat.zero_add] at b1
            subst b1
            exact es_star k.calm (hr _ _ _ h2 X C k).1 (fun am => cTs_ok (cT_ok 8) h1 X C k am) b5 b4 b3 b2 (noSw1 hc.1 _ _) (noPar (.inr hu.2) _)
          · cases h
        · cases h
    · cases h
  · split at h
    · rename_i hc
      split at h
      · rename_i h1 h2 h3
        cases h
        exact es_item hc.1 h1 (hr _ _ _ h2) (hr _ _ _ h3) hc.2.1 hc.2.2
      · cases h
    · cases h
  · cases h

end EV
namespace EV
open PySem PySem.Spec L2
open PyProof.Rows hiding St

/-! ### expressions -/
def stepE (r : RE) (t : RT) : RE := fun ce e => match e with
  | .Constant c _ _ => hConst c
  | .Name x _ => hName ce x
  | .Tuple es _ _ => hTuple r ce es
  | .List es _ => hList r ce es
  | .Dict ks vs _ => hDict r ce ks vs
  | .BinOp a op b _ => hBin r ce a op b
  | .UnaryOp op a _ => hUn r ce op a
  | .BoolOp op es pos => hBool r ce op es pos
  | .IfExp c a b _ => hIf r t ce c a b
  | .Compare a ops bs _ => hCmp r ce a ops bs
  | .Subscript a b _ => hSub r ce a b
  | .Call f args [] pos => match hSortS r t ce f args with
    | some c => some c
    | none => match hCall r ce f args pos with
    | some c => some c
    | none => match hCallF r ce f args with
      | some c => some c
      | none => match hCallV r ce f args with
        | some c => some c
        | none => hCallK r ce f args []
  | .Call f args (kw :: kws) _ => hCallK r ce f args (kw :: kws)
  | .ListComp elt gs scope _ => match hLC r t ce elt gs scope with
    | some c => some c
    | none => hC2 false r t ce elt gs scope
  | .DictComp kx vx gs scope _ => hDC r t ce kx vx gs scope
  | _ => none
theorem stepE_ok {r : RE} {t : RT} (hr : REok r) (ht : RTok2 t) : REok (stepE r t) := fun ce e c h => by
  have ht1 : RTok t := fun ce e c h => (ht ce e c h).1
  unfold stepE at h
  split at h
  · exact hConst_ok h
  · exact hName_ok h
  · exact hTuple_ok hr h
  · exact hList_ok hr h
  · exact hDict_ok hr h
  · exact hBin_ok hr h
  · exact hUn_ok hr h
  · exact hBool_ok hr h
  · exact hIf_ok hr ht1 h
  · exact (hCmp_ok hr h).1
  · exact hSub_ok hr h
  · split at h
    · rename_i h1
      cases h
      exact hSortS_ok hr ht1 h1
    · split at h
      · rename_i h1
        cases h
        exact hCall_ok hr h1
      · split at h
        · rename_i h1
          cases h
          exact hCallF_ok hr h1
        · split at h
          · rename_i h1
            cases h
            exact hCallV_ok hr h1
          · exact hCallK_ok hr h
  · exact hCallK_ok hr h
  · split at h
    · rename_i h1
      cases h
      exact hLC_ok hr ht1 h1
    · exact hC2_ok hr ht1 h
  · exact hDC_ok hr ht1 h
  · cases h
def comp : Nat → RE × RT
  | 0 => (fun _ _ => none, fun _ _ => none)
  | n + 1 => (stepE (comp n).1 (comp n).2, hTest (comp n).1 (comp n).2)
theorem comp_ok : ∀ n : Nat, REok (comp n).1 ∧ RTok2 (comp n).2
  | 0 => ⟨fun _ _ _ h => (nomatch h), fun _ _ _ h => (nomatch h)⟩
  | n + 1 => ⟨stepE_ok (comp_ok n).1 (comp_ok n).2, fun ce e c h => hTest_ok (comp_ok n).1 (comp_ok n).2 h⟩
abbrev rE : RE := (comp 40).1
abbrev rT : RT := (comp 40).2
theorem rE_ok : REok rE := (comp_ok 40).1
theorem rT_ok : RTok rT := fun ce e c h => ((comp_ok 40).2 ce e c h).1

/-! ### statements -/
def augBi : Operator → Option Bi
  | .Add => some .iadd
  | .Sub => some .isub
  | _ => none
theorem augBi_ok {op : Operator} {f : Bi} (h : augBi op = some f) : (∀ X : Cx, OpR X (inplaceOp op) (fun x y H Q => rBi X.K (ap f) [x, y] H Q)) ∧ ∀ ds d fr, ap f ds = some (d, fr) → fr = false := by
  cases op <;> cases h
  · refine ⟨fun X => o_iadd, fun ds d fr e => ?_⟩
    simp only [ap, apIAdd] at e
    split at e
    · cases e; rfl
    · split at e
      · cases e; rfl
      · cases e
    · cases e
  · refine ⟨fun X => o_isub, fun ds d fr e => ?_⟩
    simp only [ap, apISub] at e
    split at e
    · cases e; rfl
    · cases e
def muOf (x : Str) (n : Nat) : Option Mu :=
  if x = "append" ∧ n = 1 then some .append
  else if x = "extend" ∧ n = 1 then some .extend
  else if x = "reverse" ∧ n = 0 then some .reverse
  else if x = "clear" ∧ n = 0 then some .clear
  else none
structure MuOk (X : Cx) (m : Mu) (nm : Str) : Prop where
  ex : ∃ id, Slot "list" nm id ∧ typeOf (.builtin id) = pure (.type "method_descriptor") ∧ MtR X id (rMu X.K (aM m))
theorem muOf_ok {X : Cx} {x : Str} {n : Nat} {m : Mu} (h : muOf x n = some m) : MuOk X m x := by
  unfold muOf at h
  split at h
  · rename_i e; obtain ⟨rfl, _⟩ := e; cases h; exact ⟨_, PySem.F.slot_list_append, PySem.F.type_list_append, mu_append⟩
  split at h
  · rename_i e; obtain ⟨rfl, _⟩ := e; cases h; exact ⟨_, PySem.F.slot_list_extend, PySem.F.type_list_extend, mu_extend⟩
  split at h
  · rename_i e; obtain ⟨rfl, _⟩ := e; cases h; exact ⟨_, PySem.F.slot_list_reverse, PySem.F.type_list_reverse, mu_reverse⟩
  split at h
  · rename_i e; obtain ⟨rfl, _⟩ := e; cases h; exact ⟨_, PySem.F.slot_list_clear, PySem.F.type_list_clear, mu_clear⟩
  cases h
def hMu (ce : CE) (e : Expr) : Option Stm := match e with
  | .Call (.Attribute (.Name x px) m apos) args [] cpos => match muOf m args.length, slotOf ce x, cEs rE ce args with
    | some mu, some i, some cs => if okName x = true ∧ (apos.endLine == cpos.line) = true ∧ args.all noStar = true ∧ args.length < 29 then some (.mu mu i cs) else none
    | _, _, _ => none
  | _ => none
theorem hMu_ok {ce : CE} {e : Expr} {pos : Pos} {c : Stm} (h : hMu ce e = some c) : GoodS ce c (.Expr e pos) := by
  unfold hMu at h
  split at h
  · rename_i x px m apos args cpos
    split at h
    · rename_i mu i cs h1 h2 h3
      split at h
      · rename_i hc
        cases h
        intro X C k
        obtain ⟨id, m1, m2, m3⟩ := (muOf_ok (X := X) h1).ex
        obtain ⟨o1, o2, o3⟩ := okName_ok hc.1
        obtain ⟨s1, s2⟩ := k.slot h2
        have hv : PE X (.Name x px) (tVar i) := pe_var s1 s2 o1 o2
        cases args with
        | nil =>
          cases h3
          exact es_mu0 m1 m2 m3 hv rfl hc.2.1
        | cons a as =>
          obtain ⟨c0, l, rfl⟩ : ∃ c l, cs = .cons c l := by
            unfold cEs at h3
            split at h3
            · split at h3
              · cases h3; exact ⟨_, _, rfl⟩
              · cases h3
            · cases h3
          exact es_mu m1 m2 m3 hv (cEs_es rE_ok k h3) rfl hc.2.2.1 hc.2.2.2 hc.2.1
      · cases h
    · cases h
  · cases h
abbrev RSs := CE → List Stmt → Option Stms
def stepS (rs : RSs) (ce : CE) (s : Stmt) : Option Stm := match s with
  | .Assign [tg] e _ => hAsg rE rT ce tg e
  | .AugAssign (.Name x px) op e _ => match augBi op, tslotOf ce x, rE ce e with
    | some f, some i, some c => if okName x = true then some (.aug i f c) else none
    | _, _, _ => none
  | .Return (some e) _ => (rE ce e).map .ret
  | .Return none _ => some .retN
  | .Expr e _ => match hMu ce e with
    | some c => some c
    | none => if isComp e = false then (rE ce e).map .ex else none
  | .If t a b _ => match rT ce t, rs ce a, rs ce b with
    | some ct, some ca, some cb => some (.ife ct ca cb)
    | _, _, _ => none
  | .For tg iter b [] _ => match hIter rE ce tg iter, cT 8 ce tg, rs ce b with
    | some (ik, src), some g, some cb => if isSetE iter = false then some (.for_ g ik src cb) else none
    | _, _, _ => none
  | .While t b [] _ => match rT ce t, rs ce b with
    | some ct, some cb => some (.while_ ct cb)
    | _, _ => none
  | .Break _ => some .brk
  | .Continue _ => some .cont
  | .Pass _ => some .pass
  | _ => none
def RSsok (rs : RSs) : Prop := ∀ ce s c, rs ce s = some c → GoodSs ce c s
theorem stepS_ok {rs : RSs} (hrs : RSsok rs) {ce : CE} {s : Stmt} {c : Stm} (h : stepS rs ce s = some c) : GoodS ce c s := by
  unfold stepS at h
  split at h
  · exact hAsg_ok rE_ok rT_ok h
  · rename_i x px op e pos
    split at h
    · rename_i h1 h2 h3
      split at h
      · cases h
        intro X C k
        obtain ⟨a1, a2, a3, a4⟩ := k.tslot h2
        obtain ⟨b1, b2⟩ := augBi_ok h1
        exact es_aug k.ndX a1 a2 a3 ((rE_ok _ _ _ h3) X C k).1 (b1 X) b2
      · cases h
    · cases h
  · rename_i e pos
    cases h1 : rE ce e with
    | none => rw [h1] at h; cases h
    | some c0 =>
      rw [h1] at h; cases h
      intro X C k
      obtain ⟨g1, g2⟩ := (rE_ok _ _ _ h1) X C k
      cases hv : c0.isV with
      | false => exact es_ret g1 hv
      | true =>
        cases c0 with
        | v i => exact es_retV (g2 i rfl)
        | _ => cases hv
  · cases h
    exact fun X C k => es_retN
  · rename_i e pos
    split at h
    · rename_i h1
      cases h
      exact hMu_ok h1
    · split at h
      · rename_i hc
        cases h1 : rE ce e with
        | none => rw [h1] at h; cases h
        | some c0 =>
          rw [h1] at h; cases h
          exact fun X C k => es_ex ((rE_ok _ _ _ h1) X C k).1 (noSw hc _ _ _)
      · cases h
  · split at h
    · rename_i h1 h2 h3
      cases h
      exact fun X C k => es_ife (rT_ok _ _ _ h1 X C k) (hrs _ _ _ h2 X C k) (hrs _ _ _ h3 X C k)
    · cases h
  · split at h
    · rename_i h1 h2 h3
      split at h
      · rename_i hs
        cases h
        exact fun X C k => es_for k.xe k.calm (hIter_ok rE_ok h1 X C k) (cT_ok _ _ _ _ h2 X C k) (hrs _ _ _ h3 X C k) (notSet hs _)
      · cases h
    · cases h
  · split at h
    · rename_i h1 h2
      cases h
      exact fun X C k => es_while k.xe (rT_ok _ _ _ h1 X C k) (hrs _ _ _ h2 X C k)
    · cases h
  · cases h; exact fun X C k => es_brk
  · cases h; exact fun X C k => es_cont
  · cases h; exact fun X C k => es_pass
  · cases h
/-- what isn't followed stays where it is -/
theorem es_bad {ce : CE} {s : Stmt} : GoodS ce .bad s := fun X C k am => ⟨fun pins s σ H D I q => by
  obtain ⟨G, sl, f, sl', r, e, q⟩ := q
  simp only [evS] at e
  cases e⟩
def stepB (rs : RSs) (ce : CE) (s : Stmt) : Option Stm := match stepS rs ce s with
  | some c => some c
  | none => some .bad
theorem stepB_ok {rs : RSs} (hrs : RSsok rs) {ce : CE} {s : Stmt} {c : Stm} (h : stepB rs ce s = some c) : GoodS ce c s := by
  unfold stepB at h
  split at h
  · rename_i h1
    cases h
    exact stepS_ok hrs h1
  · cases h
    exact es_bad
def listS (f : CE → Stmt → Option Stm) (ce : CE) : List Stmt → Option Stms
  | [] => some .nil
  | s :: ss => match f ce s, listS f ce ss with
    | some c, some cs => some (.cons c cs)
    | _, _ => none
theorem listS_ok {f : CE → Stmt → Option Stm} (hf : ∀ ce s c, f ce s = some c → GoodS ce c s) {ce : CE} : ∀ {ss : List Stmt} {cs : Stms}, listS f ce ss = some cs → GoodSs ce cs ss
  | [], _, h => by cases h; exact fun X C k => ess_nil
  | s :: ss, cs, h => by
    simp only [listS] at h
    split at h
    · rename_i h1 h2
      cases h
      exact fun X C k => ess_cons (hf _ _ _ h1 X C k) (listS_ok hf h2 X C k)
    · cases h
def compS : Nat → RSs
  | 0 => fun _ _ => none
  | n + 1 => listS (stepB (compS n))
theorem compS_ok : ∀ n : Nat, RSsok (compS n)
  | 0 => fun _ _ _ h => (nomatch h)
  | n + 1 => fun ce s c h => listS_ok (fun ce s c h => stepB_ok (compS_ok n) h) h
end EV
namespace EV
open PySem PySem.Spec L2
open PyProof.Rows hiding St

/-! ### what must hold behind a step that gives something -/
/-- it holds simp off the parts that depend on it -/
inductive Tag {β : Type} (b : β) : Type
  | mk
def W {α : Type} (o : Option α) (Q : α → Prop) (_ : Tag Q := .mk) : Prop := ∃ a, o = some a ∧ Q a
theorem W_some {α : Type} {a : α} {Q : α → Prop} : W (some a) Q = Q a := propext ⟨fun ⟨_, e, q⟩ => (by cases e; exact q), fun q => ⟨_, rfl, q⟩⟩
theorem W_none {α : Type} {Q : α → Prop} : W none Q = False := propext ⟨fun ⟨_, e, _⟩ => (by cases e), fun q => q.elim⟩
theorem W.imp {α : Type} {o : Option α} {Q R : α → Prop} (h : W o Q) (f : ∀ a, Q a → R a) : W o R := by
  obtain ⟨a, e, q⟩ := h
  exact ⟨a, e, f a q⟩
theorem W_eq {α : Type} {o : Option α} {Q R : α → Prop} (h : ∀ a, Q a ↔ R a) : W o Q = W o R := by
  rw [funext fun a => propext (h a)]

/-! ### a function's entry and end -/
def pinsOf : Nat → List V → List (Bool × D) → List (Nat × Addr)
  | i, .ref a :: vs, (true, _) :: r => (i, a) :: pinsOf (i + 1) vs r
  | i, _ :: vs, _ :: r => pinsOf (i + 1) vs r
  | _, _, _ => []
section
variable {K : PySem.W.Frag} {G H : Hp}
theorem refA_mem : ∀ {vs : List V} {args : List (Bool × D)}, ArgOk K G H vs args → ∀ {i : Nat} {x : Sl} {a : Addr}, (argS args)[i]? = some x → x.mut = true → vs[i]? = some (.ref a) → a ∈ refA vs args
  | _, _, .nil, i, x, a, h, _, _ => by simp [argS] at h
  | _, _, @ArgOk.val _ _ _ v vs d r _ t, i, x, a, h, m, e => by
    cases i with
    | zero =>
      simp only [argS, List.getElem?_cons_zero, Option.some.injEq] at h
      subst h; cases m
    | succ i =>
      have q := refA_mem t (i := i) (x := x) (a := a) (by simpa [argS] using h) m (by simpa using e)
      cases v <;> exact q
  | _, _, .lent _ _ t, i, x, a, h, m, e => by
    cases i with
    | zero =>
      simp only [List.getElem?_cons_zero, Option.some.injEq, V.ref.injEq] at e
      subst e
      exact List.mem_cons_self
    | succ i =>
      exact List.mem_cons_of_mem _ (refA_mem t (i := i) (x := x) (a := a) (by simpa [argS] using h) m (by simpa using e))
theorem argS_inj : ∀ {vs : List V} {args : List (Bool × D)}, ArgOk K G H vs args → (refA vs args).Nodup → ∀ {i j : Nat} {x y : Sl} {a : Addr}, (argS args)[i]? = some x → (argS args)[j]? = some y → x.mut = true → y.mut = true → vs[i]? = some (.ref a) → vs[j]? = some (.ref a) → i = j
  | _, _, .nil, _, i, _, _, _, _, h, _, _, _, _, _ => by simp [argS] at h
  | _, _, @ArgOk.val _ _ _ v vs d r _ t, nd, i, j, x, y, a, h1, h2, m1, m2, e1, e2 => by
    have nd' : (refA vs r).Nodup := by cases v <;> exact nd
    cases i with
    | zero =>
      simp only [argS, List.getElem?_cons_zero, Option.some.injEq] at h1
      subst h1; cases m1
    | succ i =>
      cases j with
      | zero =>
        simp only [argS, List.getElem?_cons_zero, Option.some.injEq] at h2
        subst h2; cases m2
      | succ j => exact congrArg (· + 1) (argS_inj t nd' (by simpa [argS] using h1) (by simpa [argS] using h2) m1 m2 (by simpa using e1) (by simpa using e2))
  | _, _, @ArgOk.lent _ _ _ b vs d r _ _ t, nd, i, j, x, y, a, h1, h2, m1, m2, e1, e2 => by
    have nd' := List.nodup_cons.mp (show (b :: refA vs r).Nodup from nd)
    cases i with
    | zero =>
      cases j with
      | zero => rfl
      | succ j =>
        simp only [List.getElem?_cons_zero, Option.some.injEq, V.ref.injEq] at e1
        subst e1
        exact absurd (refA_mem t (i := j) (by simpa [argS] using h2) m2 (by simpa using e2)) nd'.1
    | succ i =>
      cases j with
      | zero =>
        simp only [List.getElem?_cons_zero, Option.some.injEq, V.ref.injEq] at e2
        subst e2
        exact absurd (refA_mem t (i := i) (by simpa [argS] using h1) m1 (by simpa using e1)) nd'.1
      | succ j => exact congrArg (· + 1) (argS_inj t nd'.2 (by simpa [argS] using h1) (by simpa [argS] using h2) m1 m2 (by simpa using e1) (by simpa using e2))
theorem argS_length : ∀ args : List (Bool × D), (argS args).length = args.length
  | [] => rfl
  | (true, _) :: r => congrArg (· + 1) (argS_length r)
  | (false, _) :: r => congrArg (· + 1) (argS_length r)
theorem argS_rel {A N : Addr → Prop} : ∀ {vs : List V} {args : List (Bool × D)}, ArgOk K G H vs args → (∀ a ∈ refA vs args, A a) → ∀ {i : Nat} {x : Sl} {v : V}, (argS args)[i]? = some x → vs[i]? = some v → SlOk K A N G H (some v) x
  | _, _, .nil, _, i, _, _, h, _ => by simp [argS] at h
  | _, _, @ArgOk.val _ _ _ v vs d r h0 t, hA, i, x, w, h1, e1 => by
    have hA' : ∀ a ∈ refA vs r, A a := fun a ha => hA a (by cases v <;> exact ha)
    cases i with
    | zero =>
      simp only [argS, List.getElem?_cons_zero, Option.some.injEq] at h1 e1
      subst h1 e1
      exact ⟨_, rfl, h0⟩
    | succ i => exact argS_rel t hA' (by simpa [argS] using h1) (by simpa using e1)
  | _, _, @ArgOk.lent _ _ _ b vs d r h0 hh t, hA, i, x, w, h1, e1 => by
    have hA' : ∀ a ∈ refA vs r, A a := fun a ha => hA a (List.mem_cons_of_mem _ ha)
    cases i with
    | zero =>
      simp only [argS, List.getElem?_cons_zero, Option.some.injEq] at h1 e1
      subst h1 e1
      exact ⟨b, rfl, h0, hA b List.mem_cons_self, hh⟩
    | succ i => exact argS_rel t hA' (by simpa [argS] using h1) (by simpa using e1)
theorem pins_spec : ∀ {vs : List V} {args : List (Bool × D)}, ArgOk K G H vs args → ∀ (k : Nat) (p : Nat × Addr), p ∈ pinsOf k vs args → ∃ i d, p.1 = k + i ∧ vs[i]? = some (.ref p.2) ∧ (argS args)[i]? = some (.bor d)
  | _, _, .nil, k, p, h => by simp [pinsOf] at h
  | _, _, @ArgOk.val _ _ _ v vs d r h0 t, k, p, h => by
    have h' : p ∈ pinsOf (k + 1) vs r := by cases v <;> exact h
    obtain ⟨i, d, h1, h2, h3⟩ := pins_spec t (k + 1) p h'
    exact ⟨i + 1, d, by omega, by simpa using h2, by simpa [argS] using h3⟩
  | _, _, @ArgOk.lent _ _ _ b vs d r h0 hh t, k, p, h => by
    rcases List.mem_cons.mp (show p ∈ (k, b) :: pinsOf (k + 1) vs r from h) with h | h
    · subst h
      exact ⟨0, d, rfl, rfl, rfl⟩
    · obtain ⟨i, d, h1, h2, h3⟩ := pins_spec t (k + 1) p h
      exact ⟨i + 1, d, by omega, by simpa using h2, by simpa [argS] using h3⟩
theorem refA_pin : ∀ {vs : List V} {args : List (Bool × D)} (k : Nat) {a : Addr}, a ∈ refA vs args → ∃ i, (i, a) ∈ pinsOf k vs args
  | [], _, _, _, h => by simp [refA] at h
  | _ :: _, [], _, _, h => by simp [refA] at h
  | v :: vs, (b, d) :: r, k, a, h => by
    cases b with
    | false =>
      have h' : a ∈ refA vs r := by cases v <;> exact h
      obtain ⟨i, q⟩ := refA_pin (k + 1) h'
      exact ⟨i, by cases v <;> exact q⟩
    | true =>
      cases v with
      | ref c =>
        rcases List.mem_cons.mp (show a ∈ c :: refA vs r from h) with h | h
        · subst h
          exact ⟨k, List.mem_cons_self⟩
        · obtain ⟨i, q⟩ := refA_pin (k + 1) h
          exact ⟨i, List.mem_cons_of_mem _ q⟩
      | _ =>
        obtain ⟨i, q⟩ := refA_pin (k + 1) (show a ∈ refA vs r from h)
        exact ⟨i, q⟩
theorem outS_ok {am : Amb} {G' H' : Hp} {sl : Ss} {σ : St} (r : RS K am G' H' sl σ) : ∀ {vs : List V} {args : List (Bool × D)} (k : Nat), ArgOk K G H vs args → (∀ p ∈ pinsOf k vs args, p ∈ am.pin) → ∀ {outs : List D}, outS args (sl.drop k) = some outs → OutsOk K G' H' (refA vs args) outs
  | _, _, k, .nil, _, outs, e => by
    simp only [outS, Option.some.injEq] at e
    subst e
    exact .nil
  | _, _, k, @ArgOk.val _ _ _ v vs d r' h0 t, hp, outs, e => by
    have hp' : ∀ p ∈ pinsOf (k + 1) vs r', p ∈ am.pin := fun p q => hp p (by cases v <;> exact q)
    cases hd : sl.drop k with
    | nil => rw [hd] at e; simp [outS] at e
    | cons x rest =>
      rw [hd] at e
      have e' : outS r' (sl.drop (k + 1)) = some outs := by
        have : sl.drop (k + 1) = rest := by rw [← List.drop_drop, hd]; rfl
        rw [this]
        simpa [outS] using e
      have q := outS_ok r (k + 1) t hp' e'
      cases v <;> exact q
  | _, _, k, @ArgOk.lent _ _ _ b vs d r' h0 hh t, hp, outs, e => by
    have hp' : ∀ p ∈ pinsOf (k + 1) vs r', p ∈ am.pin := fun p q => hp p (List.mem_cons_of_mem _ q)
    obtain ⟨q1, d', q2⟩ := r.pin _ (hp (k, b) List.mem_cons_self)
    have hk : sl.drop k = .bor d' :: sl.drop (k + 1) := by
      obtain ⟨hl, he⟩ := List.getElem?_eq_some_iff.mp q2
      rw [List.drop_eq_getElem_cons hl, he]
    rw [hk] at e
    simp only [outS] at e
    split at e
    · rename_i l hl
      cases e
      have q := r.rel k _ _ q2 q1
      obtain ⟨a, z1, z2, z3, z4⟩ := q
      cases z1
      exact .cons z4 (outS_ok r (k + 1) t hp' hl)
    · cases e
end

/-- what surrounds a call's body -/
def amOf (G H : Hp) (vs : List V) (args : List (Bool × D)) : Amb where
  A := fun b => b ∈ refA vs args ∨ H b = none
  N := fun b => H b = none
  Hb := H
  G0 := G
  pin := pinsOf 0 vs args
theorem RS.start {K : PySem.W.Frag} {G H : Hp} {vs : List V} {args : List (Bool × D)} {N : List Str} {ns : Nat} (hs : Same G H) (ok : ArgOk K G H vs args) (nd : (refA vs args).Nodup) (hn : N.length = ns) :
    RS K (amOf G H vs args) G H (argS args ++ List.replicate (ns - args.length) .un) (L2.start N vs) := by
  have hl := ok.length
  have hl2 := argS_length args
  have lo : ∀ {i : Nat} {x : Sl}, (argS args ++ List.replicate (ns - args.length) Sl.un)[i]? = some x → (i < args.length ∧ (argS args)[i]? = some x) ∨ (x = .un) := fun {i x} h => by
    by_cases hi : i < args.length
    · rw [List.getElem?_append_left (by rw [hl2]; exact hi)] at h
      exact .inl ⟨hi, h⟩
    · rw [List.getElem?_append_right (by rw [hl2]; omega), List.getElem?_replicate] at h
      split at h
      · cases h; exact .inr rfl
      · cases h
  have lv : ∀ {i : Nat}, i < args.length → (L2.start N vs)[i]? = (vs[i]?).map some := fun {i} h => by
    unfold L2.start
    rw [List.getElem?_append_left (by rw [List.length_map]; omega), List.getElem?_map]
  refine ⟨hs, ?_, fun i x w e1 e2 => ?_, fun i j x y a e1 e2 m1 m2 z1 z2 => ?_, fun p hp => ⟨.inr hp, hp⟩, fun b o e _ => e, fun b e => e, fun b e => .inl e, Same.refl _, fun p hp => ?_⟩
  · unfold L2.start
    rw [List.length_append, List.length_append, List.length_replicate, List.length_replicate, List.length_map, hl2, hl, hn]
  · rcases lo e1 with ⟨hi, h⟩ | h
    · rw [lv hi] at e2
      cases hv : vs[i]? with
      | none => rw [hv] at e2; cases e2
      | some v =>
        rw [hv] at e2
        cases e2
        exact argS_rel ok (fun a ha => .inl ha) h hv
    · subst h; trivial
  · have hmu : Sl.mut .un = false := rfl
    rcases lo e1 with ⟨hi, h⟩ | h
    · rcases lo e2 with ⟨hj, k⟩ | k
      · rw [lv hi] at z1
        rw [lv hj] at z2
        have t1 : vs[i]? = some (.ref a) := by
          cases hv : vs[i]? with
          | none => rw [hv] at z1; cases z1
          | some v => rw [hv] at z1; cases z1; rfl
        have t2 : vs[j]? = some (.ref a) := by
          cases hv : vs[j]? with
          | none => rw [hv] at z2; cases z2
          | some v => rw [hv] at z2; cases z2; rfl
        exact argS_inj ok nd h k m1 m2 t1 t2
      · subst k; cases m2
    · subst h; cases m1
  · obtain ⟨i, d, h1, h2, h3⟩ := pins_spec ok 0 p hp
    rw [Nat.zero_add] at h1
    have hi : i < args.length := by rw [← hl2]; exact (List.getElem?_eq_some_iff.mp h3).1
    refine ⟨?_, d, ?_⟩
    · rw [h1, lv hi, h2]; rfl
    · rw [h1, List.getElem?_append_left (by rw [hl2]; exact hi)]
      exact h3
theorem RS.done {K : PySem.W.Frag} {G H G' H' : Hp} {vs : List V} {args : List (Bool × D)} {sl : Ss} {σ : St} {outs : List D} {v : V} {d : D} {fr : Bool} (ok : ArgOk K G H vs args) (r : RS K (amOf G H vs args) G' H' sl σ) (o : outS args sl = some outs) (rs : Res K (amOf G H vs args) G' H' sl σ v d fr) :
    CallEnd K G H (refA vs args) outs G' H' v d fr := by
  refine ⟨r.g0, r.sub, fun b u e nb => r.frame b u e fun z => ?_, fun b e => r.dom b e, fun b e => ?_, outS_ok r 0 ok (fun p q => q) (by simpa using o), ?_⟩
  · rcases z with z | z
    · exact nb z
    · rw [e] at z; cases z
  · rcases r.gg b e with h | h
    · exact .inl h
    · rcases h with h | h
      · obtain ⟨i, q⟩ := refA_pin 0 h
        obtain ⟨q1, d', q2⟩ := r.pin _ q
        obtain ⟨a, z1, z2, _⟩ := r.rel _ _ _ q2 q1
        cases z1
        exact absurd z2 e
      · exact .inr h
  · cases fr with
    | false => exact rs
    | true =>
      obtain ⟨a, h1, h2, h3, h4, h5, _⟩ := rs
      exact ⟨a, h1, h4, h2, h5⟩

/-! ### a function of the text -/
structure Decl where
  name : Str
  st : Stmt
  N : List Str
  ps : List Str
  code : Fn
  plain : Bool
abbrev Pats := List ((Str × Nat × List Str) × (Nat × List (Option D)))
abbrev Tab := List (Nat × Decl)
def Tab.P (T : Tab) (f : Nat) : Option Fn := (T.lookup f).map Decl.code
def Tab.fns (T : Tab) : List (Str × (Nat × List Bool)) := (T.filter fun p => p.2.plain).map fun p => (p.2.name, (p.1, p.2.code.refs))
def ceOf (T : Tab) (pats : Pats) (consts : List (Str × D)) (blts : List Str) (d : Decl) : CE where
  N := d.N
  names := (defScope d.st).names
  fns := T.fns
  pats := pats
  consts := consts
  blts := blts
  own := []
/-- a look at a function -/
def Decl.wf (T : Tab) (pats : Pats) (consts : List (Str × D)) (blts : List Str) (d : Decl) : Bool :=
  C8.scC d.N d.ps (defScope d.st) && decide (compS 30 (ceOf T pats consts blts d) (defBody d.st) = some d.code.body) && decide (d.code.np = d.ps.length) && decide (d.code.ns = d.N.length) && decide (d.code.refs.length = d.ps.length)

/-- what the head says of the functions -/
structure FnIn (K : PySem.W.Frag) (mg : Str → Option Value) (d : Decl) : Prop where
  ex : ∃ (fa : Addr) (fd : FuncData), L2.Fun K d.name d.name d.st fa fd ∧ mg d.name = some (.ref fa) ∧ (d.plain = true → ∀ us : List Value, us.length = d.ps.length → bindArgs fd ⟨us, []⟩ = pure (d.ps.zip us))
/-- .. of a call by keywords -/
structure PatIn (K : PySem.W.Frag) (mg : Str → Option Value) (T : Tab) (q : (Str × Nat × List Str) × (Nat × List (Option D))) : Prop where
  ex : ∃ (d : Decl) (fa : Addr) (fd : FuncData) (g : List Value → List Value → List Value) (gV : List V → List V → List V), (q.2.1, d) ∈ T ∧ d.name = q.1.1 ∧ L2.Fun K d.name d.name d.st fa fd ∧ mg d.name = some (.ref fa) ∧ KBn K fd d.ps q.1.2.1 q.1.2.2 g gV ∧
    (∀ vs zs, vs.length = q.1.2.1 → zs.length = q.1.2.2.length → gV vs zs = vs ++ fillV q.2.2 zs) ∧ litTail q.2.2 = true ∧ d.ps.length = q.1.2.1 + q.2.2.length
structure TabIn (K : PySem.W.Frag) (mg : Str → Option Value) (T : Tab) (pats : Pats) (consts : List (Str × D)) (blts : List Str) : Prop where
  pat : ∀ q ∈ pats, PatIn K mg T q
  fn : ∀ p ∈ T, FnIn K mg p.2
  wf : ∀ p ∈ T, p.2.wf T pats consts blts = true
  nd : (T.map Prod.fst).Nodup
  cst : ∀ x d, consts.lookup x = some d → ∃ u v, mg x = some u ∧ RelV v u ∧ ∀ G, Rp K G v d
  blt : ∀ x, blts.contains x = true → mg x = none
  ns : ∀ x u, PySem.W.nsIn K mainGlobals x = some (some u) → mg x = some u
theorem lookup_of_mem {T : Tab} (nd : (T.map Prod.fst).Nodup) {p : Nat × Decl} (h : p ∈ T) : T.lookup p.1 = some p.2 := by
  induction T with
  | nil => simp at h
  | cons q r ih =>
    obtain ⟨n, d⟩ := q
    rw [List.map_cons, List.nodup_cons] at nd
    rcases List.mem_cons.mp h with h | h
    · subst h
      simp [List.lookup]
    · have : (p.1 == n) = false := by
        rw [beq_eq_false_iff_ne]
        intro z
        exact nd.1 (by rw [← z]; exact List.mem_map.mpr ⟨p, h, rfl⟩)
      rw [List.lookup, this]
      exact ih nd.2 h
theorem mem_of_lookupN {T : Tab} {f : Nat} {d : Decl} (h : T.lookup f = some d) : (f, d) ∈ T := by
  induction T with
  | nil => cases h
  | cons q r ih =>
    obtain ⟨n, e⟩ := q
    rw [List.lookup] at h
    split at h
    · rename_i q
      cases h
      rw [eq_of_beq q]
      exact List.mem_cons_self
    · exact List.mem_cons_of_mem _ (ih h)
theorem mem_of_lookupG {α β : Type} [BEq α] [LawfulBEq α] {k : α} {v : β} : ∀ {l : List (α × β)}, l.lookup k = some v → (k, v) ∈ l
  | [], h => by cases h
  | (a, b) :: r, h => by
    rw [List.lookup] at h
    split at h
    · rename_i q
      cases h
      rw [eq_of_beq q]
      exact List.mem_cons_self
    · exact List.mem_cons_of_mem _ (mem_of_lookupG h)
theorem fns_mem {T : Tab} {x : Str} {f : Nat} {refs : List Bool} (h : T.fns.lookup x = some (f, refs)) : ∃ d, (f, d) ∈ T ∧ d.name = x ∧ d.code.refs = refs ∧ d.plain = true := by
  have q := PySem.mem_of_lookup h
  obtain ⟨p, h1, h2⟩ := List.mem_map.mp q
  obtain ⟨n, d⟩ := p
  obtain ⟨h1, h3⟩ := List.mem_filter.mp h1
  cases h2
  exact ⟨d, h1, rfl, rfl, h3⟩

theorem fnOk {l : Program} {w : World} {K : PySem.W.Frag} {mg : Str → Option Value} {base : Heap} {T : Tab} {pats : Pats} {consts : List (Str × D)} {blts : List Str} (I : TabIn K mg T pats consts blts) (sy : ∃ mm, base.Ns sysModules mm) : ∀ (n : Nat) (f : Nat) (d : Decl), (f, d) ∈ T → ∀ (fa : Addr) (fd : FuncData), L2.Fun K d.name d.name d.st fa fd →
    FnG l w K mg base n fa fd d.ps (spF K (callN ap aM aS T.P n) f d.ps.length)
  | 0, f, d, hm, fa, fd, F => ⟨fun vs H Q h => by
      obtain ⟨G, args, d', fr, outs, h1, _, h2, _⟩ := h
      rw [h2.length, h1], fun A outer s H args us vs Q hr e0 hb hv h => by
      obtain ⟨G, args, d', fr, outs, h1, _, h2, _, h3, _⟩ := h
      cases h3⟩
  | n + 1, f, d, hm, fa, fd, F => by
    have hw := I.wf _ hm
    unfold Decl.wf at hw
    simp only [Bool.and_eq_true, decide_eq_true_eq] at hw
    obtain ⟨⟨⟨⟨w1, w2⟩, w3⟩, w4⟩, w5⟩ := hw
    have S : FnScope d.N d.ps (defScope d.st) := C8.fnScope_by w1
    refine fnG_of F S (fun vs H Q h => ?_) (fun cdv A outer s H vs Q hr h => ?_)
    · obtain ⟨G, args, d', fr, outs, h1, _, h2, _⟩ := h
      rw [h2.length, h1]
    · obtain ⟨G, args, d', fr, outs, h1, h0, h2, h3, h4, h5⟩ := h
      have hP : T.P f = some d.code := by
        unfold Tab.P
        rw [lookup_of_mem I.nd hm]
        rfl
      have ck : CtxOk (cxOf CX0 l w K mg base d.N d.name (defScope d.st) fa cdv A outer s H L2.E0).nox (ceOf T pats consts blts d) (callN ap aM aS T.P n) := by
        refine ⟨rfl, S.nd, rfl, rfl, S.kind, fun x h => h, fun x h => ⟨h, rfl⟩, fun x h => .inr h, fun x h => h, fun x g refs hx => ?_, fun x m ks g tail hx => ?_, I.cst, I.blt, I.ns, ?_, hr.g, sy⟩
        · obtain ⟨e, m1, m2, m3, m4⟩ := fns_mem hx
          obtain ⟨fa', fd', F', hmg, hb⟩ := (I.fn _ m1).ex
          have hwe := I.wf _ m1
          unfold Decl.wf at hwe
          simp only [Bool.and_eq_true, decide_eq_true_eq] at hwe
          refine ⟨⟨n, fa', fd', e.ps, ?_, hr, by rw [← m2]; exact hmg, F'.kp, .all (hb m4)⟩⟩
          have q := fnOk (l := l) (w := w) (base := base) I sy n g e m1 fa' fd' F'
          rw [← m3, hwe.2]
          exact q
        · obtain ⟨e, fa', fd', gg, gV, m1, m2, F', hmg, kb, sp, lt, ln⟩ := (I.pat _ (mem_of_lookupG hx)).ex
          refine ⟨⟨n, fa', fd', e.ps, gg, gV, ?_, hr, (show mg x = _ by have m2 : e.name = x := m2; rw [← m2]; exact hmg), F'.kp, kb, sp, lt⟩⟩
          have q := fnOk (l := l) (w := w) (base := base) I sy n g e m1 fa' fd' F'
          rw [ln] at q
          exact q
        · show (A.deeper _).units + 66 < cLine
          have := hr.r.un
          omega
      have hb := compS_ok 30 _ _ _ w2 _ _ ck (amOf G H vs args)
      refine ⟨_, hb, ?_⟩
      simp only [callN, hP, runFn] at h4
      rw [if_pos ⟨by rw [w3, h1], by rw [w3, w4]; have := congrArg List.length S.pre; rw [List.length_take] at this; omega⟩] at h4
      have R := RS.start (N := d.N) (ns := d.code.ns) h0 h2 h3 w4.symm
      rw [w3, ← h1] at h4
      split at h4
      · rename_i d1 fr1 sl e1
        split at h4
        · rename_i outs' e2
          cases h4
          refine ⟨G, _, .rt d' fr, sl, R, e1, fun v G' H' σ' r g rs => ?_⟩
          exact h5 v G' H' (r.done h2 e2 rs)
        · cases h4
      · rename_i sl e1
        split at h4
        · rename_i outs' e2
          cases h4
          refine ⟨G, _, .nx, sl, R, e1, fun G' H' σ' r g => ?_⟩
          exact h5 .non G' H' (r.done (d := .none) (fr := false) h2 e2 .non)
        · cases h4
      · cases h4

/-- the end: the evaluator says that the law holds -/
theorem walkE {T : Tab} {pats : Pats} {consts : List (Str × D)} {blts : List Str} {L : Nat} {D : Decl} {n : Nat} {x : Str} (hn0 : n ≤ 40) (hD : (L, D) ∈ T) (hx : D.ps = [x]) (hpl : D.plain = true) (hl : ∀ ns : List Int, ns.length ≤ 63 → W (callN ap aM aS T.P n L [(false, scrD ns)]) (fun r => r.1 = .bool true))
    {l : PySem.W.OpenLaw} {q : Program} {loose : List Str} {XP : (Str → Option Value) → Heap → Prop} {YP : World → Heap → Prop} {d : DefRec} {K : Params → PySem.W.Frag} (hn : l.most = some 63) (hdf : d.params.defaults = []) (imp : importsNone q = true)
    (hY : ∀ (w : World) (h : Heap), YP w h → (K w.params).In h) (hd : d.name = D.name)
    (F : ∀ (w : World) (mg : Str → Option Value) (fa : Addr) (h : Heap), (K w.params).In h → h.Ns mainGlobals mg → mg d.name = some (.ref fa) → TabIn (K w.params) mg T pats consts blts) :
    PySem.W.WalkO q loose XP YP l.row.toRowW d [] (fun f vs => PySem.call f vs) := by
  refine walkG (n := 63) (k := n) (x := x) (sp := fun w => spF (K w.params) (callN ap aM aS T.P n) L 1) hn (by decide) hdf imp (RoomG.mono ⟨⟨rfl, by decide, by decide⟩, rfl⟩ hn0) hY (fun w mg fa h KX G hm => ?_) (fun w H a ns hl0 _ hS => ?_)
  · have I := F w mg fa h KX G hm
    obtain ⟨fa', fd, F', hm', hb⟩ := (I.fn _ hD).ex
    rw [hd] at hm
    have e := hm.symm.trans hm'
    cases e
    refine ⟨fd, fun s u => .of_eq ?_, fun base _ _ sy => ?_⟩
    · have z := hb hpl [u] (by rw [hx]; rfl)
      rw [hx] at z
      exact z
    · have z := fnOk (l := l.prog) (w := w) (base := base) I sy n L D hD fa fd F'
      rw [hx] at z
      exact z
  · obtain ⟨⟨d', fr, outs⟩, e, q⟩ := hl ns hl0
    simp only at q
    subst q
    refine ⟨H, [(false, scrD ns)], .bool true, fr, outs, rfl, Same.refl _, .val (.scr hS) .nil, List.nodup_nil, e, fun v G' H' c => ?_⟩
    have r := c.res
    cases fr with
    | false =>
      have r : Rp (K w.params) G' v (.bool true) := r
      cases r; rfl
    | true =>
      obtain ⟨a, _, _, _, h⟩ := r
      exact h.elim
end EV
namespace EV
open PySem PySem.Spec L2
open PyProof.Rows hiding St

/-! ### branches; simp looks at the condition alone -/
def ifB (b : Bool) (A B : Prop) (_ : Tag (A, B) := .mk) : Prop := match b with
  | true => A
  | false => B
theorem ifB_t {A B : Prop} : ifB true A B = A := rfl
theorem ifB_f {A B : Prop} : ifB false A B = B := rfl
theorem ifB_not {b : Bool} {A B : Prop} : ifB (!b) A B = ifB b B A := by cases b <;> rfl
theorem ifB_of {b : Bool} {A B : Prop} (h1 : b = true → A) (h2 : b = false → B) : ifB b A B := by
  cases b
  · exact h2 rfl
  · exact h1 rfl
theorem ifD_of {p : Prop} [Decidable p] {A B : Prop} (h1 : p → A) (h2 : ¬ p → B) : ifB (decide p) A B := by
  by_cases h : p
  · rw [decide_eq_true h]; exact h1 h
  · rw [decide_eq_false h]; exact h2 h
def onSl (x : Sl) (fv fo fb : D → Prop) (_ : Tag (fv, fo, fb) := .mk) : Prop := match x with
  | .val d => fv d
  | .own d => fo d
  | .bor d => fb d
  | .un => False
theorem onSl_v {d : D} {a b c : D → Prop} : onSl (.val d) a b c = a d := rfl
theorem onSl_o {d : D} {a b c : D → Prop} : onSl (.own d) a b c = b d := rfl
theorem onSl_b {d : D} {a b c : D → Prop} : onSl (.bor d) a b c = c d := rfl
theorem onSl_u {a b c : D → Prop} : onSl .un a b c = False := rfl
def onNx (f : Fl) (A B : Prop) (_ : Tag (A, B) := .mk) : Prop := match f with
  | .nx => A
  | _ => B
theorem onNx_n {A B : Prop} : onNx .nx A B = A := rfl
theorem onNx_b {A B : Prop} : onNx .bk A B = B := rfl
theorem onNx_c {A B : Prop} : onNx .ct A B = B := rfl
theorem onNx_r {d : D} {fr : Bool} {A B : Prop} : onNx (.rt d fr) A B = B := rfl
def endF (f : Fl) (g : D → Bool → Prop) (_ : Tag g := .mk) : Prop := match f with
  | .rt d fr => g d fr
  | .nx => g .none false
  | _ => False
theorem endF_r {d : D} {fr : Bool} {g : D → Bool → Prop} : endF (.rt d fr) g = g d fr := rfl
theorem endF_n {g : D → Bool → Prop} : endF .nx g = g .none false := rfl
/-- behind a turn of a for -/
def onFl (f : Fl) (nx bk : Prop) (rt : D → Bool → Prop) (_ : Tag (nx, bk, rt) := .mk) : Prop := match f with
  | .nx => nx
  | .ct => nx
  | .bk => bk
  | .rt d fr => rt d fr
theorem onFl_n {A B : Prop} {R : D → Bool → Prop} : onFl .nx A B R = A := rfl
theorem onFl_c {A B : Prop} {R : D → Bool → Prop} : onFl .ct A B R = A := rfl
theorem onFl_b {A B : Prop} {R : D → Bool → Prop} : onFl .bk A B R = B := rfl
theorem onFl_r {A B : Prop} {R : D → Bool → Prop} {d : D} {fr : Bool} : onFl (.rt d fr) A B R = R d fr := rfl
def asB (d : D) (k : Bool → Prop) (_ : Tag k := .mk) : Prop := match d with
  | .bool b => k b
  | _ => False
theorem asB_b {b : Bool} {k : Bool → Prop} : asB (.bool b) k = k b := rfl
def as1 {α : Type} (l : List α) (k : α → Prop) (_ : Tag k := .mk) : Prop := match l with
  | [a] => k a
  | _ => False
theorem as1_1 {α : Type} {a : α} {k : α → Prop} : as1 [a] k = k a := rfl
def as2 {α : Type} (l : List α) (k : α → α → Prop) (_ : Tag k := .mk) : Prop := match l with
  | [a, b] => k a b
  | _ => False
theorem as2_2 {α : Type} {a b : α} {k : α → α → Prop} : as2 [a, b] k = k a b := rfl
section
variable {B : Bi → List D → Option (D × Bool)} {M : Mu → D → List D → Option D} {S : D → D → D → Option D} {C : CallT} {sl : Ss}
theorem w_k {d : D} {Q} : W (evE B C (.k d) sl) Q = Q (d, false, sl) := by rw [evE, W_some]
theorem w_gl {x : Str} {d : D} {Q} : W (evE B C (.gl x d) sl) Q = Q (d, false, sl) := by rw [evE, W_some]
theorem w_v {i : Nat} {Q} : W (evE B C (.v i) sl) Q = W (sl[i]?) (fun x => onSl x (fun d => Q (d, false, sl)) (fun d => Q (d, false, sl.set i (.val d))) (fun _ => False)) := by
  rw [evE]
  cases h : sl[i]? with
  | none => simp only [W_none, onSl, ifB, onNx, asB, as1, as2]
  | some x => cases x <;> simp only [W_none, W_some, onSl, ifB, onNx, asB, as1, as2]
theorem w_tup {es : Exs} {Q} : W (evE B C (.tup es) sl) Q = W (evEs B C es sl) (fun p => Q (.tuple p.1, false, p.2)) := by
  rw [evE]
  cases h : evEs B C es sl with
  | none => simp only [W_none, onSl, ifB, onNx, asB, as1, as2]
  | some x => simp only [W_some, onSl, ifB, onNx, asB, as1, as2]
theorem w_lst {es : Exs} {Q} : W (evE B C (.lst es) sl) Q = W (evEs B C es sl) (fun p => Q (.list p.1, true, p.2)) := by
  rw [evE]
  cases h : evEs B C es sl with
  | none => simp only [W_none, onSl, ifB, onNx, asB, as1, as2]
  | some x => simp only [W_some, onSl, ifB, onNx, asB, as1, as2]
theorem w_dct0 {Q} : W (evE B C (.dct .nil) sl) Q = Q (.dict [], true, sl) := by
  rw [evE, evEs]
  simp only [W_some, onSl, ifB, onNx, asB, as1, as2]
theorem w_dct1 {k v : Ex} {Q} : W (evE B C (.dct (.cons k (.cons v .nil))) sl) Q = W (evE B C k sl) (fun p => W (evE B C v p.2.2) (fun q => isKey p.1 = true ∧ Q (.dict [(p.1, q.1)], true, q.2.2))) := by
  rw [evE, evEs]
  cases h : evE B C k sl with
  | none => simp only [W_none, onSl, ifB, onNx, asB, as1, as2]
  | some x =>
    obtain ⟨a, b, sl1⟩ := x
    simp only [W_some, onSl, ifB, onNx, asB, as1, as2]
    rw [evEs]
    cases h2 : evE B C v sl1 with
    | none => simp only [W_none, onSl, ifB, onNx, asB, as1, as2]
    | some y =>
      obtain ⟨c, e, sl2⟩ := y
      simp only [W_some, evEs]
      by_cases hk : isKey a = true
      · simp only [hk, if_true, W_some, true_and]
      · rw [if_neg hk, W_none]
        simp [hk]
theorem w_bi {f : Bi} {as : Exs} {Q} : W (evE B C (.bi f as) sl) Q = W (evOs B C as sl) (fun p => W (derefs p.2 p.1) (fun ds => W (B f ds) (fun r => Q (r.1, r.2, p.2)))) := by
  rw [evE]
  cases h : evOs B C as sl with
  | none => simp only [W_none, onSl, ifB, onNx, asB, as1, as2]
  | some x =>
    obtain ⟨os, sl1⟩ := x
    simp only [W_some, onSl, ifB, onNx, asB, as1, as2]
    cases h2 : derefs sl1 os with
    | none => simp only [W_none, onSl, ifB, onNx, asB, as1, as2]
    | some ds =>
      simp only [W_some, onSl, ifB, onNx, asB, as1, as2]
      cases h3 : B f ds with
      | none => simp only [W_none, onSl, ifB, onNx, asB, as1, as2]
      | some r => simp only [W_some, onSl, ifB, onNx, asB, as1, as2]
theorem w_mc {f : Bi} {a : Ex} {as : Exs} {Q} : W (evE B C (.mc f (.cons a .nil) as) sl) Q = W (evE B C a sl) (fun x => W (evOs B C as x.2.2) (fun p => W (derefs p.2 p.1) (fun ds => W (B f (x.1 :: ds)) (fun r => Q (r.1, r.2, p.2))))) := by
  rw [evE, evEs]
  cases h0 : evE B C a sl with
  | none => simp only [W_none, onSl, ifB, onNx, asB, as1, as2]
  | some z =>
    obtain ⟨x, fx, sl0⟩ := z
    simp only [W_some, evEs]
    cases h : evOs B C as sl0 with
    | none => simp only [W_none, onSl, ifB, onNx, asB, as1, as2]
    | some y =>
      obtain ⟨os, sl1⟩ := y
      simp only [W_some, onSl, ifB, onNx, asB, as1, as2]
      cases h2 : derefs sl1 os with
      | none => simp only [W_none, onSl, ifB, onNx, asB, as1, as2]
      | some ds =>
        simp only [W_some, onSl, ifB, onNx, asB, as1, as2]
        cases h3 : B f (x :: ds) with
        | none => simp only [W_none, onSl, ifB, onNx, asB, as1, as2]
        | some r => simp only [W_some, onSl, ifB, onNx, asB, as1, as2]
theorem w_sl {hl hu : Bool} {a bs : Exs} {Q} : W (evE B C (.sl hl hu a bs) sl) Q = W (evOs B C a sl) (fun p => W (evEs B C bs p.2) (fun q => W (derefs q.2 p.1) (fun ds => as1 ds (fun x => W (cutArgs hl hu q.1) (fun c => W (apCut x c.1 c.2) (fun r => Q (r.1, r.2, q.2))))))) := by
  rw [evE]
  cases h : evOs B C a sl with
  | none => simp only [W_none, onSl, ifB, onNx, asB, as1, as2]
  | some p =>
    obtain ⟨os, sl1⟩ := p
    simp only [W_some, onSl, ifB, onNx, asB, as1, as2]
    match os with
    | [] =>
      simp only [W_none, derefs, W_some]
      refine (propext ⟨fun h => h.elim, fun ⟨_, _, h⟩ => ?_⟩)
      simp only [W_some] at h
    | [o] =>
      simp only
      cases h2 : evEs B C bs sl1 with
      | none => simp only [W_none, onSl, ifB, onNx, asB, as1, as2]
      | some q =>
        obtain ⟨ds, sl2⟩ := q
        simp only [W_some, derefs]
        cases h3 : deref sl2 o with
        | none => simp only [W_none, onSl, ifB, onNx, asB, as1, as2]
        | some x =>
          simp only [W_some, onSl, ifB, onNx, asB, as1, as2]
          cases h4 : cutArgs hl hu ds with
          | none => simp only [W_none, onSl, ifB, onNx, asB, as1, as2]
          | some c =>
            obtain ⟨lo, hi⟩ := c
            simp only [W_some, onSl, ifB, onNx, asB, as1, as2]
            cases h5 : apCut x lo hi with
            | none => simp only [W_none, onSl, ifB, onNx, asB, as1, as2]
            | some r => simp only [W_some, onSl, ifB, onNx, asB, as1, as2]
    | o :: o2 :: os =>
      simp only [W_none, onSl, ifB, onNx, asB, as1, as2]
      refine propext ⟨fun h => h.elim, fun ⟨q, _, ds, e, h⟩ => ?_⟩
      simp only [derefs] at e
      split at e
      · rename_i h1 h2
        cases e
        split at h2
        · cases h2; exact h
        · cases h2
      · cases e
theorem w_ch {f g : Bi} {ab c : Exs} {Q} : W (evE B C (.ch f g ab c) sl) Q = W (evOs B C ab sl) (fun p => as2 p.1 (fun oa ob => W (derefs p.2 [oa, ob]) (fun ds => W (B f ds) (fun r => asB r.1 (fun b => ifB b
      (W (evOs B C c p.2) (fun q => as1 q.1 (fun oc => W (derefs q.2 [ob, oc]) (fun es => W (B g es) (fun r => r.2 = false ∧ Q (r.1, false, q.2))))))
      (Q (.bool false, false, p.2))))))) := by
  rw [evE]
  cases h : evOs B C ab sl with
  | none => simp only [W_none, onSl, ifB, onNx, asB, as1, as2]
  | some p =>
    obtain ⟨os, sl1⟩ := p
    simp only [W_some, onSl, ifB, onNx, asB, as1, as2]
    match os with
    | [] => simp only [W_none, onSl, ifB, onNx, asB, as1, as2]
    | [o] => simp only [W_none, onSl, ifB, onNx, asB, as1, as2]
    | o :: o2 :: o3 :: os => simp only [W_none, onSl, ifB, onNx, asB, as1, as2]
    | [oa, ob] =>
      simp only
      cases h2 : derefs sl1 [oa, ob] with
      | none => simp only [W_none, onSl, ifB, onNx, asB, as1, as2]
      | some ds =>
        simp only [W_some, onSl, ifB, onNx, asB, as1, as2]
        cases h3 : B f ds with
        | none => simp only [W_none, onSl, ifB, onNx, asB, as1, as2]
        | some r =>
          obtain ⟨d, fr⟩ := r
          simp only [W_some, onSl, ifB, onNx, asB, as1, as2]
          cases d with
          | bool b =>
            cases b with
            | false => simp only [W_some, onSl, ifB, onNx, asB, as1, as2]
            | true =>
              simp only
              cases h4 : evOs B C c sl1 with
              | none => simp only [W_none, onSl, ifB, onNx, asB, as1, as2]
              | some q =>
                obtain ⟨ps, sl2⟩ := q
                simp only [W_some, onSl, ifB, onNx, asB, as1, as2]
                match ps with
                | [] => simp only [W_none, onSl, ifB, onNx, asB, as1, as2]
                | o :: o2 :: os => simp only [W_none, onSl, ifB, onNx, asB, as1, as2]
                | [oc] =>
                  simp only
                  cases h5 : derefs sl2 [ob, oc] with
                  | none => simp only [W_none, onSl, ifB, onNx, asB, as1, as2]
                  | some es =>
                    simp only [W_some, onSl, ifB, onNx, asB, as1, as2]
                    cases h6 : B g es with
                    | none => simp only [W_none, onSl, ifB, onNx, asB, as1, as2]
                    | some r =>
                      obtain ⟨d, fr⟩ := r
                      cases fr <;> simp [W_none, W_some, onSl, ifB, onNx, asB, as1, as2]
          | _ => simp only [W_none, onSl, ifB, onNx, asB, as1, as2]
theorem w_tst {c : Te} {Q} : W (evE B C (.tst c) sl) Q = W (evT B C c sl) (fun p => Q (.bool p.1, false, p.2)) := by
  rw [evE]
  cases h : evT B C c sl with
  | none => simp only [W_none, onSl, ifB, onNx, asB, as1, as2]
  | some x => simp only [W_some, onSl, ifB, onNx, asB, as1, as2]
theorem w_and {a b : Ex} {Q} : W (evE B C (.and a b) sl) Q = W (evE B C a sl) (fun p => W (tr p.1) (fun t => ifB t (W (evE B C b p.2.2) (fun q => Q (q.1, false, q.2.2))) (Q (p.1, false, p.2.2)))) := by
  rw [evE]
  cases h : evE B C a sl with
  | none => simp only [W_none, onSl, ifB, onNx, asB, as1, as2]
  | some x =>
    obtain ⟨d, fr, sl1⟩ := x
    simp only [W_some, onSl, ifB, onNx, asB, as1, as2]
    cases h2 : tr d with
    | none => simp only [W_none, onSl, ifB, onNx, asB, as1, as2]
    | some t =>
      cases t with
      | false => simp only [W_some, onSl, ifB, onNx, asB, as1, as2]
      | true =>
        simp only [W_some, onSl, ifB, onNx, asB, as1, as2]
        cases h3 : evE B C b sl1 with
        | none => simp only [W_none, onSl, ifB, onNx, asB, as1, as2]
        | some q => simp only [W_some, onSl, ifB, onNx, asB, as1, as2]
theorem w_or {a b : Ex} {Q} : W (evE B C (.or a b) sl) Q = W (evE B C a sl) (fun p => W (tr p.1) (fun t => ifB t (Q (p.1, false, p.2.2)) (W (evE B C b p.2.2) (fun q => Q (q.1, false, q.2.2))))) := by
  rw [evE]
  cases h : evE B C a sl with
  | none => simp only [W_none, onSl, ifB, onNx, asB, as1, as2]
  | some x =>
    obtain ⟨d, fr, sl1⟩ := x
    simp only [W_some, onSl, ifB, onNx, asB, as1, as2]
    cases h2 : tr d with
    | none => simp only [W_none, onSl, ifB, onNx, asB, as1, as2]
    | some t =>
      cases t with
      | true => simp only [W_some, onSl, ifB, onNx, asB, as1, as2]
      | false =>
        simp only [W_some, onSl, ifB, onNx, asB, as1, as2]
        cases h3 : evE B C b sl1 with
        | none => simp only [W_none, onSl, ifB, onNx, asB, as1, as2]
        | some q => simp only [W_some, onSl, ifB, onNx, asB, as1, as2]
theorem w_ifeE {c : Te} {a b : Ex} {Q} : W (evE B C (.ife c a b) sl) Q = W (evT B C c sl) (fun p => ifB p.1 (W (evE B C a p.2) (fun q => Q (q.1, false, q.2.2))) (W (evE B C b p.2) (fun q => Q (q.1, false, q.2.2)))) := by
  rw [evE]
  cases h : evT B C c sl with
  | none => simp only [W_none, onSl, ifB, onNx, asB, as1, as2]
  | some x =>
    obtain ⟨t, sl1⟩ := x
    cases t with
    | true =>
      simp only [W_some, onSl, ifB, onNx, asB, as1, as2]
      cases h3 : evE B C a sl1 with
      | none => simp only [W_none, onSl, ifB, onNx, asB, as1, as2]
      | some q => simp only [W_some, onSl, ifB, onNx, asB, as1, as2]
    | false =>
      simp only [W_some, onSl, ifB, onNx, asB, as1, as2]
      cases h3 : evE B C b sl1 with
      | none => simp only [W_none, onSl, ifB, onNx, asB, as1, as2]
      | some q => simp only [W_some, onSl, ifB, onNx, asB, as1, as2]
theorem w_call {f : Nat} {refs : List Bool} {as : Exs} {Q} : W (evE B C (.call f refs as) sl) Q = W (evAs B C refs as sl) (fun p => nodupB (Ag.slots p.1) = true ∧ W (agD p.2 p.1) (fun args => W (C f args) (fun r => W (backS (Ag.slots p.1) r.2.2 p.2) (fun sl => Q (r.1, r.2.1, sl))))) := by
  rw [evE]
  cases h : evAs B C refs as sl with
  | none => simp only [W_none, onSl, ifB, onNx, asB, as1, as2]
  | some x =>
    obtain ⟨ags, sl1⟩ := x
    simp only [W_some, onSl, ifB, onNx, asB, as1, as2]
    cases h2 : nodupB (Ag.slots ags) with
    | false => simp [W_none]
    | true =>
      simp only [true_and]
      cases h3 : agD sl1 ags with
      | none => simp only [W_none, onSl, ifB, onNx, asB, as1, as2]
      | some args =>
        simp only [W_some, onSl, ifB, onNx, asB, as1, as2]
        cases h4 : C f args with
        | none => simp only [W_none, onSl, ifB, onNx, asB, as1, as2]
        | some r =>
          obtain ⟨d, fr, outs⟩ := r
          simp only [W_some, onSl, ifB, onNx, asB, as1, as2]
          cases h5 : backS (Ag.slots ags) outs sl1 with
          | none => simp only [W_none, onSl, ifB, onNx, asB, as1, as2]
          | some sl2 => simp only [W_some, onSl, ifB, onNx, asB, as1, as2]
theorem w_callK {f : Nat} {as ks : Exs} {tail : List (Option D)} {Q} : W (evE B C (.callK f as ks tail) sl) Q = W (evEs B C as sl) (fun p => W (evEs B C ks p.2) (fun q => W (fillD tail q.1) (fun ts => W (C f ((p.1 ++ ts).map fun d => (false, d))) (fun r => r.2.2 = [] ∧ Q (r.1, r.2.1, q.2))))) := by
  rw [evE]
  cases h : evEs B C as sl with
  | none => simp only [W_none]
  | some p =>
    obtain ⟨ds, sl1⟩ := p
    simp only [W_some]
    cases h2 : evEs B C ks sl1 with
    | none => simp only [W_none]
    | some q =>
      obtain ⟨es, sl2⟩ := q
      simp only [W_some]
      cases h3 : fillD tail es with
      | none => simp only [W_none]
      | some ts =>
        simp only [W_some]
        cases h4 : C f ((ds ++ ts).map fun d => (false, d)) with
        | none => simp only [W_none]
        | some r =>
          obtain ⟨d, fr, outs⟩ := r
          cases outs <;> simp [W_some, W_none]
theorem w_callV {i : Nat} {cs : List (Str × Nat)} {as : Exs} {Q} : W (evE B C (.callV i cs as) sl) Q = W (fnAt sl cs i) (fun f => W (evEs B C as sl) (fun p => W (C f (p.1.map fun d => (false, d))) (fun r => r.2.2 = [] ∧ Q (r.1, r.2.1, p.2)))) := by
  rw [evE]
  cases h : fnAt sl cs i with
  | none => simp only [W_none]
  | some f =>
    simp only [W_some]
    cases h1 : evEs B C as sl with
    | none => simp only [W_none]
    | some p =>
      obtain ⟨ds, sl1⟩ := p
      simp only [W_some]
      cases h4 : C f (ds.map fun d => (false, d)) with
      | none => simp only [W_none]
      | some r =>
        obtain ⟨d, fr, outs⟩ := r
        cases outs <;> simp [W_some, W_none]
theorem fnAt_val {sl : Ss} {cs : List (Str × Nat)} {i : Nat} {x : Str} {Q : Nat → Prop} (h : sl[i]? = some (.val (fnD x))) : W (fnAt sl cs i) Q = W (cs.lookup x) Q := by
  unfold fnAt
  rw [h]
  rfl
theorem w_callF {f : Nat} {a : Ex} {Q} : W (evE B C (.callF f a) sl) Q = W (evE B C a sl) (fun p => p.2.1 = true ∧ W (C f [(true, p.1)]) (fun r => as1 r.2.2 (fun _ => Q (r.1, r.2.1, p.2.2)))) := by
  rw [evE]
  cases h : evE B C a sl with
  | none => simp only [W_none]
  | some p =>
    obtain ⟨d, fr, sl1⟩ := p
    cases fr with
    | false => simp [W_none, W_some]
    | true =>
      simp only [W_some, true_and]
      cases h4 : C f [(true, d)] with
      | none => simp only [W_none]
      | some r =>
        obtain ⟨d, fr, outs⟩ := r
        match outs with
        | [] => simp [W_some, W_none, as1]
        | [o] => simp [W_some, W_none, as1]
        | o :: o2 :: os => simp [W_some, W_none, as1]
/-- a comprehension's turn -/
def turnL (B : Bi → List D → Option (D × Bool)) (C : CallT) (tg : Tg) (ifs : Te) (elt : Ex) (own : List Nat) (d : D) (sl : Ss) : Option (Option D × Ss) := match asgT tg d (wipeS sl own) with
            | some sl => match evT B C ifs sl with
              | some (true, sl) => match evE B C elt sl with
                | some (x, _, sl) => some (some x, sl)
                | none => none
              | some (false, sl) => some (none, sl)
              | none => none
            | none => none
/-- a comprehension: its turns as a law over lists -/
theorem w_lc {elt : Ex} {tg : Tg} {ik : Ik} {src : Exs} {ifs : Te} {own : List Nat} {Q} : W (evE B C (.lc elt tg ik src ifs own) sl) Q = (noMut sl own = true ∧ W (evEs B C src sl) (fun p => noMut p.2 own = true ∧ W (itemsOf ik p.1) (fun items =>
    W (lcGo (turnL B C tg ifs elt own) items p.2) (fun r => r.1.length ≤ sizeLine ∧ Q (.list r.1, true, restS p.2 r.2 own))))) := by
  rw [evE]
  cases h : noMut sl own with
  | false => simp [W_none]
  | true =>
    simp only [true_and]
    cases h2 : evEs B C src sl with
    | none => simp only [W_none, onSl, ifB, onNx, asB, as1, as2]
    | some p =>
      obtain ⟨ss, sl1⟩ := p
      simp only [W_some, onSl, ifB, onNx, asB, as1, as2]
      cases h3 : noMut sl1 own with
      | false => simp [W_none]
      | true =>
        simp only [true_and]
        cases h4 : itemsOf ik ss with
        | none => simp only [W_none, onSl, ifB, onNx, asB, as1, as2]
        | some items =>
          simp only [W_some, onSl, ifB, onNx, asB, as1, as2]
          refine Eq.trans (b := W (match lcGo (turnL B C tg ifs elt own) items sl1 with
            | some (rs, sl') => if rs.length ≤ sizeLine then some (PyData.list rs, true, restS sl1 sl' own) else none
            | none => none) Q) rfl ?_
          cases h5 : lcGo (turnL B C tg ifs elt own) items sl1 with
          | none => simp only [W_none, onSl, ifB, onNx, asB, as1, as2]
          | some r =>
            obtain ⟨rs, sl2⟩ := r
            simp only [W_some, onSl, ifB, onNx, asB, as1, as2]
            by_cases hl : rs.length ≤ sizeLine
            · simp only [hl, if_true, W_some, true_and]
            · simp only [hl, if_false, W_none, false_and]
theorem w_turn {tg : Tg} {ifs : Te} {elt : Ex} {d : D} {own : List Nat} {Q} : W (turnL B C tg ifs elt own d sl) Q = W (asgT tg d (wipeS sl own)) (fun sl => W (evT B C ifs sl) (fun p => ifB p.1 (W (evE B C elt p.2) (fun q => Q (some q.1, q.2.2))) (Q (none, p.2)))) := by
  unfold turnL
  cases h : asgT tg d (wipeS sl own) with
  | none => simp only [W_none, onSl, ifB, onNx, asB, as1, as2]
  | some sl1 =>
    simp only [W_some, onSl, ifB, onNx, asB, as1, as2]
    cases h2 : evT B C ifs sl1 with
    | none => simp only [W_none, onSl, ifB, onNx, asB, as1, as2]
    | some x =>
      obtain ⟨t, sl2⟩ := x
      cases t with
      | false => simp only [W_some, onSl, ifB, onNx, asB, as1, as2]
      | true =>
        simp only [W_some, onSl, ifB, onNx, asB, as1, as2]
        cases h3 : evE B C elt sl2 with
        | none => simp only [W_none, onSl, ifB, onNx, asB, as1, as2]
        | some q => simp only [W_some, onSl, ifB, onNx, asB, as1, as2]
/-- two clauses: a turn of the first -/
def turn2 (B : Bi → List D → Option (D × Bool)) (C : CallT) (tg : Tg) (ifs : Te) (ik1 : Ik) (src1 : Exs) (tg1 : Tg) (ifs1 : Te) (elt : Ex) (own1 own : List Nat) (d : D) (sl : Ss) : Option (List D × Ss) := match asgT tg d (wipeS sl own) with
            | some sl => match evT B C ifs sl with
              | some (true, sl) => match evEs B C src1 sl with
                | some (ss, sl) => match itemsOf ik1 ss with
                  | some items => lcGo (turnL B C tg1 ifs1 elt own1) items sl
                  | none => none
                | none => none
              | some (false, sl) => some ([], sl)
              | none => none
            | none => none
theorem W_congr {α : Type} {o : Option α} {Q Q2 : α → Prop} (h : ∀ a, Q a = Q2 a) : W o Q = W o Q2 := by
  have : Q = Q2 := funext h
  subst this
  rfl
theorem w_turn2 {tg tg1 : Tg} {ifs ifs1 : Te} {ik1 : Ik} {src1 : Exs} {elt : Ex} {d : D} {own own1 : List Nat} {Q} : W (turn2 B C tg ifs ik1 src1 tg1 ifs1 elt own1 own d sl) Q =
    W (asgT tg d (wipeS sl own)) (fun sl => W (evT B C ifs sl) (fun p => ifB p.1 (W (evEs B C src1 p.2) (fun q => W (itemsOf ik1 q.1) (fun items => W (lcGo (turnL B C tg1 ifs1 elt own1) items q.2) Q))) (Q ([], p.2)))) := by
  unfold turn2
  cases h : asgT tg d (wipeS sl own) with
  | none => simp only [W_none]
  | some sl1 =>
    simp only [W_some]
    cases h2 : evT B C ifs sl1 with
    | none => simp only [W_none]
    | some x =>
      obtain ⟨t, sl2⟩ := x
      cases t with
      | false => simp only [W_some, ifB]
      | true =>
        simp only [W_some, ifB]
        cases h3 : evEs B C src1 sl2 with
        | none => simp only [W_none]
        | some q =>
          simp only [W_some]
          cases h4 : itemsOf ik1 q.1 with
          | none => simp only [W_none]
          | some items => simp only [W_some]
theorem w_c2g {st : Bool} {elt : Ex} {tg : Tg} {ik : Ik} {src : Exs} {ifs : Te} {tg1 : Tg} {ik1 : Ik} {src1 : Exs} {ifs1 : Te} {own own1 : List Nat} {Q} (e : List D → Option D) (he : ∀ rs, e rs = match st with
          | true => if rs.length < 64 ∧ rs.all isKey = true then match B .sortedSet [.list rs] with
              | some (d, true) => some d
              | _ => none
            else none
          | false => if rs.length ≤ sizeLine then some (.list rs) else none) :
    W (evE B C (.c2 st elt tg ik src ifs tg1 ik1 src1 ifs1 own own1) sl) Q = (noMut sl own = true ∧ W (evEs B C src sl) (fun p => noMut p.2 own = true ∧ W (itemsOf ik p.1) (fun items =>
      W (lcGo2 (turn2 B C tg ifs ik1 src1 tg1 ifs1 elt own1 own) items p.2) (fun r => W (e r.1) fun d => Q (d, true, restS p.2 r.2 own))))) := by
  rw [evE]
  cases h : noMut sl own with
  | false => simp [W_none]
  | true =>
    simp only [true_and]
    cases h2 : evEs B C src sl with
    | none => simp only [W_none]
    | some p =>
      obtain ⟨ss, sl1⟩ := p
      simp only [W_some]
      cases h3 : noMut sl1 own with
      | false => simp [W_none]
      | true =>
        simp only [true_and]
        cases h4 : itemsOf ik ss with
        | none => simp only [W_none]
        | some items =>
          simp only [W_some]
          refine Eq.trans (b := W (match lcGo2 (turn2 B C tg ifs ik1 src1 tg1 ifs1 elt own1 own) items sl1 with
            | some (rs, sl') => match st with
              | true => if rs.length < 64 ∧ rs.all isKey = true then match B .sortedSet [.list rs] with
                  | some (d, true) => some (d, true, restS sl1 sl' own)
                  | _ => none
                else none
              | false => if rs.length ≤ sizeLine then some (.list rs, true, restS sl1 sl' own) else none
            | none => none) Q) rfl ?_
          cases h5 : lcGo2 (turn2 B C tg ifs ik1 src1 tg1 ifs1 elt own1 own) items sl1 with
          | none => simp only [W_none]
          | some r =>
            obtain ⟨rs, sl2⟩ := r
            simp only [W_some, he]
            cases st with
            | false =>
              simp only
              split <;> simp only [W_some, W_none]
            | true =>
              simp only
              split
              · cases h6 : B .sortedSet [.list rs] with
                | none => simp only [W_none]
                | some q =>
                  obtain ⟨d, fr⟩ := q
                  cases fr <;> simp only [W_some, W_none]
              · simp only [W_none]
theorem w_c2f {elt : Ex} {tg : Tg} {ik : Ik} {src : Exs} {ifs : Te} {tg1 : Tg} {ik1 : Ik} {src1 : Exs} {ifs1 : Te} {own own1 : List Nat} {Q} :
    W (evE B C (.c2 false elt tg ik src ifs tg1 ik1 src1 ifs1 own own1) sl) Q = (noMut sl own = true ∧ W (evEs B C src sl) (fun p => noMut p.2 own = true ∧ W (itemsOf ik p.1) (fun items =>
      W (lcGo2 (turn2 B C tg ifs ik1 src1 tg1 ifs1 elt own1 own) items p.2) (fun r => r.1.length ≤ sizeLine ∧ Q (.list r.1, true, restS p.2 r.2 own))))) := by
  rw [w_c2g _ fun _ => rfl]
  have e : ∀ (rs : List D) (K : D → Prop), W (if rs.length ≤ sizeLine then some (PyData.list rs) else none) K = (rs.length ≤ sizeLine ∧ K (.list rs)) := fun rs K => by
    by_cases h : rs.length ≤ sizeLine
    · simp only [h, if_true, W_some, true_and]
    · simp only [h, if_false, W_none, false_and]
  exact congrArg (noMut sl own = true ∧ ·) (W_congr fun p => congrArg (noMut p.2 own = true ∧ ·) (W_congr fun items => W_congr fun r => e r.1 _))
theorem w_c2t {elt : Ex} {tg : Tg} {ik : Ik} {src : Exs} {ifs : Te} {tg1 : Tg} {ik1 : Ik} {src1 : Exs} {ifs1 : Te} {own own1 : List Nat} {Q} :
    W (evE B C (.c2 true elt tg ik src ifs tg1 ik1 src1 ifs1 own own1) sl) Q = (noMut sl own = true ∧ W (evEs B C src sl) (fun p => noMut p.2 own = true ∧ W (itemsOf ik p.1) (fun items =>
      W (lcGo2 (turn2 B C tg ifs ik1 src1 tg1 ifs1 elt own1 own) items p.2) (fun r => (r.1.length < 64 ∧ r.1.all isKey = true) ∧ W (B .sortedSet [.list r.1]) fun q => q.2 = true ∧ Q (q.1, true, restS p.2 r.2 own))))) := by
  rw [w_c2g _ fun _ => rfl]
  have e : ∀ (rs : List D) (K : D → Prop), W (if rs.length < 64 ∧ rs.all isKey = true then match B .sortedSet [.list rs] with
              | some (d, true) => some d
              | _ => none
            else none) K = ((rs.length < 64 ∧ rs.all isKey = true) ∧ W (B .sortedSet [.list rs]) fun q => q.2 = true ∧ K q.1) := fun rs K => by
    by_cases h : rs.length < 64 ∧ rs.all isKey = true
    · rw [if_pos h]
      simp only [h, true_and]
      cases h6 : B .sortedSet [.list rs] with
      | none => simp only [W_none]
      | some q =>
        obtain ⟨d, fr⟩ := q
        cases fr <;> simp [W_some, W_none]
    · rw [if_neg h, W_none]
      simp only [h, false_and]
  exact congrArg (noMut sl own = true ∧ ·) (W_congr fun p => congrArg (noMut p.2 own = true ∧ ·) (W_congr fun items => W_congr fun r => e r.1 _))
/-- a dict's turn -/
def turnD (B : Bi → List D → Option (D × Bool)) (C : CallT) (tg : Tg) (ifs : Te) (kx vx : Ex) (own : List Nat) (d : D) (sl : Ss) : Option (Option (D × D) × Ss) := match asgT tg d (wipeS sl own) with
            | some sl => match evT B C ifs sl with
              | some (true, sl) => match evE B C kx sl with
                | some (k, _, sl) => match evE B C vx sl with
                  | some (x, _, sl) => some (some (k, x), sl)
                  | none => none
                | none => none
              | some (false, sl) => some (none, sl)
              | none => none
            | none => none
theorem w_turnD {tg : Tg} {ifs : Te} {kx vx : Ex} {d : D} {own : List Nat} {Q} : W (turnD B C tg ifs kx vx own d sl) Q =
    W (asgT tg d (wipeS sl own)) (fun sl => W (evT B C ifs sl) (fun p => ifB p.1 (W (evE B C kx p.2) (fun q => W (evE B C vx q.2.2) (fun r => Q (some (q.1, r.1), r.2.2)))) (Q (none, p.2)))) := by
  unfold turnD
  cases h : asgT tg d (wipeS sl own) with
  | none => simp only [W_none]
  | some sl1 =>
    simp only [W_some]
    cases h2 : evT B C ifs sl1 with
    | none => simp only [W_none]
    | some x =>
      obtain ⟨t, sl2⟩ := x
      cases t with
      | false => simp only [W_some, ifB]
      | true =>
        simp only [W_some, ifB]
        cases h3 : evE B C kx sl2 with
        | none => simp only [W_none]
        | some q =>
          obtain ⟨k, fk, sl3⟩ := q
          simp only [W_some]
          cases h4 : evE B C vx sl3 with
          | none => simp only [W_none]
          | some q => simp only [W_some]
theorem w_dc {kx vx : Ex} {tg : Tg} {ik : Ik} {src : Exs} {ifs : Te} {own : List Nat} {Q} : W (evE B C (.dc kx vx tg ik src ifs own) sl) Q = (noMut sl own = true ∧ W (evEs B C src sl) (fun p => noMut p.2 own = true ∧ W (itemsOf ik p.1) (fun items =>
    items.length < sizeLine ∧ W (dcGo (turnD B C tg ifs kx vx own) items [] p.2) (fun r => Q (.dict r.1, true, restS p.2 r.2 own))))) := by
  rw [evE]
  cases h : noMut sl own with
  | false => simp [W_none]
  | true =>
    simp only [true_and]
    cases h2 : evEs B C src sl with
    | none => simp only [W_none]
    | some p =>
      obtain ⟨ss, sl1⟩ := p
      simp only [W_some]
      cases h3 : noMut sl1 own with
      | false => simp [W_none]
      | true =>
        simp only [true_and]
        cases h4 : itemsOf ik ss with
        | none => simp only [W_none]
        | some items =>
          simp only [W_some]
          refine Eq.trans (b := W (if items.length < sizeLine then match dcGo (turnD B C tg ifs kx vx own) items [] sl1 with
            | some (rs, sl') => some (PyData.dict rs, true, restS sl1 sl' own)
            | none => none else none) Q) rfl ?_
          by_cases hl : items.length < sizeLine
          · simp only [hl, if_true, true_and]
            cases h5 : dcGo (turnD B C tg ifs kx vx own) items [] sl1 with
            | none => simp only [W_none]
            | some r => simp only [W_some]
          · simp only [hl, if_false, W_none, false_and]
theorem w_nil {Q} : W (evEs B C .nil sl) Q = Q ([], sl) := by rw [evEs, W_some]
theorem w_cons {e : Ex} {r : Exs} {Q} : W (evEs B C (.cons e r) sl) Q = W (evE B C e sl) (fun p => W (evEs B C r p.2.2) (fun q => Q (p.1 :: q.1, q.2))) := by
  rw [evEs]
  cases h : evE B C e sl with
  | none => simp only [W_none, onSl, ifB, onNx, asB, as1, as2]
  | some x =>
    obtain ⟨d, fr, sl1⟩ := x
    simp only [W_some, onSl, ifB, onNx, asB, as1, as2]
    cases h2 : evEs B C r sl1 with
    | none => simp only [W_none, onSl, ifB, onNx, asB, as1, as2]
    | some q => simp only [W_some, onSl, ifB, onNx, asB, as1, as2]
theorem w_onil {Q} : W (evOs B C .nil sl) Q = Q ([], sl) := by rw [evOs, W_some]
theorem w_oconsV {i : Nat} {r : Exs} {Q} : W (evOs B C (.cons (.v i) r) sl) Q = W (opdV sl i) (fun o => W (evOs B C r sl) (fun q => Q (o :: q.1, q.2))) := by
  rw [evOs]
  cases h : opdV sl i with
  | none => simp only [W_none, onSl, ifB, onNx, asB, as1, as2]
  | some o =>
    simp only [W_some, onSl, ifB, onNx, asB, as1, as2]
    cases h2 : evOs B C r sl with
    | none => simp only [W_none, onSl, ifB, onNx, asB, as1, as2]
    | some q => simp only [W_some, onSl, ifB, onNx, asB, as1, as2]
theorem w_ocons {e : Ex} {r : Exs} {Q} (n : e.isV = false) : W (evOs B C (.cons e r) sl) Q = W (evE B C e sl) (fun p => W (evOs B C r p.2.2) (fun q => Q (.d p.1 :: q.1, q.2))) := by
  have e1 : evOs B C (.cons e r) sl = (match evE B C e sl with
    | some (d, _, sl) => match evOs B C r sl with
      | some (os, sl) => some (.d d :: os, sl)
      | none => none
    | none => none) := by
    cases e with
    | v i => cases n
    | _ => rw [evOs]; all_goals (first | rfl | (intro i z; cases z))
  rw [e1]
  cases h : evE B C e sl with
  | none => simp only [W_none, onSl, ifB, onNx, asB, as1, as2]
  | some x =>
    obtain ⟨d, fr, sl1⟩ := x
    simp only [W_some, onSl, ifB, onNx, asB, as1, as2]
    cases h2 : evOs B C r sl1 with
    | none => simp only [W_none, onSl, ifB, onNx, asB, as1, as2]
    | some q => simp only [W_some, onSl, ifB, onNx, asB, as1, as2]
theorem w_yes {Q} : W (evT B C .yes sl) Q = Q (true, sl) := by rw [evT, W_some]
theorem w_tnot {a : Te} {Q} : W (evT B C (.not a) sl) Q = W (evT B C a sl) (fun p => Q (!p.1, p.2)) := by
  rw [evT]
  cases h : evT B C a sl with
  | none => simp only [W_none, onSl, ifB, onNx, asB, as1, as2]
  | some x => simp only [W_some, onSl, ifB, onNx, asB, as1, as2]
theorem w_tand {a b : Te} {Q} : W (evT B C (.and a b) sl) Q = W (evT B C a sl) (fun p => ifB p.1 (W (evT B C b p.2) Q) (Q (false, p.2))) := by
  rw [evT]
  cases h : evT B C a sl with
  | none => simp only [W_none, onSl, ifB, onNx, asB, as1, as2]
  | some x =>
    obtain ⟨t, sl1⟩ := x
    cases t <;> simp only [W_some, onSl, ifB, onNx, asB, as1, as2]
theorem w_tor {a b : Te} {Q} : W (evT B C (.or a b) sl) Q = W (evT B C a sl) (fun p => ifB p.1 (Q (true, p.2)) (W (evT B C b p.2) Q)) := by
  rw [evT]
  cases h : evT B C a sl with
  | none => simp only [W_none, onSl, ifB, onNx, asB, as1, as2]
  | some x =>
    obtain ⟨t, sl1⟩ := x
    cases t <;> simp only [W_some, onSl, ifB, onNx, asB, as1, as2]
theorem w_texV {i : Nat} {Q} : W (evT B C (.ex (.v i)) sl) Q = W ((opdV sl i).bind (deref sl)) (fun d => W (tr d) (fun b => Q (b, sl))) := by
  rw [evT]
  cases h : (opdV sl i).bind (deref sl) with
  | none => simp only [W_none, onSl, ifB, onNx, asB, as1, as2]
  | some d =>
    simp only [W_some, onSl, ifB, onNx, asB, as1, as2]
    cases h2 : tr d with
    | none => simp only [W_none, onSl, ifB, onNx, asB, as1, as2]
    | some b => simp only [W_some, onSl, ifB, onNx, asB, as1, as2]
theorem w_tex {e : Ex} {Q} (n : e.isV = false) : W (evT B C (.ex e) sl) Q = W (evE B C e sl) (fun p => W (tr p.1) (fun b => Q (b, p.2.2))) := by
  have e1 : evT B C (.ex e) sl = (match evE B C e sl with
    | some (d, _, sl) => match tr d with
      | some b => some (b, sl)
      | none => none
    | none => none) := by
    cases e with
    | v i => cases n
    | _ => rw [evT]; all_goals (first | rfl | (intro i z; cases z))
  rw [e1]
  cases h : evE B C e sl with
  | none => simp only [W_none, onSl, ifB, onNx, asB, as1, as2]
  | some x =>
    obtain ⟨d, fr, sl1⟩ := x
    simp only [W_some, onSl, ifB, onNx, asB, as1, as2]
    cases h2 : tr d with
    | none => simp only [W_none, onSl, ifB, onNx, asB, as1, as2]
    | some b => simp only [W_some, onSl, ifB, onNx, asB, as1, as2]
theorem w_anil {Q} : W (evAs B C [] .nil sl) Q = Q ([], sl) := by rw [evAs, W_some]
theorem w_aref {bs : List Bool} {i : Nat} {r : Exs} {Q} : W (evAs B C (true :: bs) (.cons (.v i) r) sl) Q = (mutAt sl i = true ∧ W (evAs B C bs r sl) (fun q => Q (.r i :: q.1, q.2))) := by
  rw [evAs]
  cases h : mutAt sl i with
  | false => simp [W_none]
  | true =>
    simp only [true_and]
    cases h2 : evAs B C bs r sl with
    | none => simp only [W_none, onSl, ifB, onNx, asB, as1, as2]
    | some q => simp only [W_some, onSl, ifB, onNx, asB, as1, as2]
theorem w_aval {bs : List Bool} {e : Ex} {r : Exs} {Q} : W (evAs B C (false :: bs) (.cons e r) sl) Q = W (evE B C e sl) (fun p => W (evAs B C bs r p.2.2) (fun q => Q (.v p.1 :: q.1, q.2))) := by
  rw [evAs]
  cases h : evE B C e sl with
  | none => simp only [W_none, onSl, ifB, onNx, asB, as1, as2]
  | some x =>
    obtain ⟨d, fr, sl1⟩ := x
    simp only [W_some, onSl, ifB, onNx, asB, as1, as2]
    cases h2 : evAs B C bs r sl1 with
    | none => simp only [W_none, onSl, ifB, onNx, asB, as1, as2]
    | some q => simp only [W_some, onSl, ifB, onNx, asB, as1, as2]
/-! statements -/
theorem w_asg {t : Tg} {e : Ex} {Q} : W (evS B M S C (.asg t e) sl) Q = W (evE B C e sl) (fun p => W (asgT t p.1 p.2.2) (fun sl => Q (.nx, sl))) := by
  rw [evS]
  cases h : evE B C e sl with
  | none => simp only [W_none, onSl, ifB, onNx, asB, as1, as2]
  | some x =>
    obtain ⟨d, fr, sl1⟩ := x
    simp only [W_some, onSl, ifB, onNx, asB, as1, as2]
    cases h2 : asgT t d sl1 with
    | none => simp only [W_none, onSl, ifB, onNx, asB, as1, as2]
    | some q => simp only [W_some, onSl, ifB, onNx, asB, as1, as2]
def notBor : Sl → Prop
  | .bor _ => False
  | _ => True
theorem notBor_u : notBor .un = True := rfl
theorem notBor_v {d : D} : notBor (.val d) = True := rfl
theorem notBor_o {d : D} : notBor (.own d) = True := rfl
theorem mut_u : Sl.mut .un = false := rfl
theorem mut_v {d : D} : Sl.mut (.val d) = false := rfl
theorem mut_o {d : D} : Sl.mut (.own d) = true := rfl
theorem mut_b {d : D} : Sl.mut (.bor d) = true := rfl
theorem w_asgO {i : Nat} {e : Ex} {Q} : W (evS B M S C (.asgO i e) sl) Q = W (evE B C e sl) (fun p => W (p.2.2[i]?) (fun x => notBor x ∧ Q (.nx, p.2.2.set i (match p.2.1 with | true => .own p.1 | false => .val p.1)))) := by
  rw [evS]
  cases h : evE B C e sl with
  | none => simp only [W_none, onSl, ifB, onNx, asB, as1, as2]
  | some x =>
    obtain ⟨d, fr, sl1⟩ := x
    simp only [W_some, onSl, ifB, onNx, asB, as1, as2]
    cases h2 : sl1[i]? with
    | none => simp only [W_none, onSl, ifB, onNx, asB, as1, as2]
    | some q => cases fr <;> cases q <;> simp only [W_some, W_none, notBor, onSl, true_and, false_and]
theorem w_n {i : Nat} {d : D} {Q} : W (asgT (.n i) d sl) Q = W (sl[i]?) (fun x => notBor x ∧ Q (sl.set i (.val d))) := by
  rw [asgT]
  cases h2 : sl[i]? with
  | none => simp only [W_none, onSl, ifB, onNx, asB, as1, as2]
  | some q => cases q <;> simp only [W_some, W_none, notBor, onSl, true_and, false_and]
theorem w_tT {ts : Tgs} {ds : List D} {Q} : W (asgT (.t ts true) (.tuple ds) sl) Q = W (asgTs ts ds sl) Q := by rw [asgT]
theorem w_tsN {Q} : W (asgTs .nil [] sl) Q = Q sl := by rw [asgTs, W_some]
theorem w_tsC {t : Tg} {r : Tgs} {d : D} {ds : List D} {Q} : W (asgTs (.cons t r) (d :: ds) sl) Q = W (asgT t d sl) (fun sl => W (asgTs r ds sl) Q) := by
  rw [asgTs]
  cases h : asgT t d sl with
  | none => simp only [W_none, onSl, ifB, onNx, asB, as1, as2]
  | some x => simp only [W_some, onSl, ifB, onNx, asB, as1, as2]
theorem w_aug {i : Nat} {f : Bi} {e : Ex} {Q} : W (evS B M S C (.aug i f e) sl) Q = W (sl[i]?) (fun x => onSl x (fun x => W (evE B C e sl) (fun p => W (B f [x, p.1]) (fun r => W (p.2.2[i]?) (fun z => onSl z (fun _ => Q (.nx, p.2.2.set i (.val r.1))) (fun _ => False) (fun _ => False))))) (fun _ => False) (fun _ => False)) := by
  rw [evS]
  cases h : sl[i]? with
  | none => simp only [W_none, onSl, ifB, onNx, asB, as1, as2]
  | some x =>
    simp only [W_some, onSl, ifB, onNx, asB, as1, as2]
    cases x with
    | val x =>
      simp only
      cases h2 : evE B C e sl with
      | none => simp only [W_none, onSl, ifB, onNx, asB, as1, as2]
      | some p =>
        obtain ⟨y, fr, sl1⟩ := p
        simp only [W_some, onSl, ifB, onNx, asB, as1, as2]
        cases h3 : B f [x, y] with
        | none => simp only [W_none, onSl, ifB, onNx, asB, as1, as2]
        | some r =>
          simp only [W_some, onSl, ifB, onNx, asB, as1, as2]
          cases h4 : sl1[i]? with
          | none => simp only [W_none, onSl, ifB, onNx, asB, as1, as2]
          | some z => cases z <;> simp only [W_some, W_none, onSl, ifB, onNx, asB, as1, as2]
    | _ => simp only [W_none, onSl, ifB, onNx, asB, as1, as2]
theorem w_mu {m : Mu} {i : Nat} {as : Exs} {Q} : W (evS B M S C (.mu m i as) sl) Q = (listAt sl i = true ∧ W (evEs B C as sl) (fun p => W (p.2[i]?) (fun x => onSl x (fun _ => False) (fun d => W (M m d p.1) (fun d => Q (.nx, p.2.set i (.own d)))) (fun d => W (M m d p.1) (fun d => Q (.nx, p.2.set i (.bor d))))))) := by
  rw [evS]
  cases h : listAt sl i with
  | false => simp [W_none]
  | true =>
    simp only [true_and]
    cases h2 : evEs B C as sl with
    | none => simp only [W_none, onSl, ifB, onNx, asB, as1, as2]
    | some p =>
      obtain ⟨ds, sl1⟩ := p
      simp only [W_some, onSl, ifB, onNx, asB, as1, as2]
      cases h3 : sl1[i]? with
      | none => simp only [W_none, onSl, ifB, onNx, asB, as1, as2]
      | some x =>
        simp only [W_some, onSl, ifB, onNx, asB, as1, as2]
        cases x with
        | own d =>
          simp only
          cases h4 : M m d ds with
          | none => simp only [W_none, onSl, ifB, onNx, asB, as1, as2]
          | some d => simp only [W_some, onSl, ifB, onNx, asB, as1, as2]
        | bor d =>
          simp only
          cases h4 : M m d ds with
          | none => simp only [W_none, onSl, ifB, onNx, asB, as1, as2]
          | some d => simp only [W_some, onSl, ifB, onNx, asB, as1, as2]
        | _ => simp only [W_none, onSl, ifB, onNx, asB, as1, as2]
theorem w_setI {i : Nat} {ix e : Ex} {Q} : W (evS B M S C (.setI i ix e) sl) Q = W (evE B C e sl) (fun p => mutAt p.2.2 i = true ∧ W (evE B C ix p.2.2) (fun q => W (q.2.2[i]?) (fun x => onSl x (fun _ => False) (fun d => W (S d q.1 p.1) (fun d => Q (.nx, q.2.2.set i (.own d)))) (fun d => W (S d q.1 p.1) (fun d => Q (.nx, q.2.2.set i (.bor d))))))) := by
  rw [evS]
  cases h : evE B C e sl with
  | none => simp only [W_none, onSl, ifB, onNx, asB, as1, as2]
  | some p =>
    obtain ⟨x, fr, sl1⟩ := p
    simp only [W_some, onSl, ifB, onNx, asB, as1, as2]
    cases h1 : mutAt sl1 i with
    | false => simp [W_none]
    | true =>
      simp only [true_and]
      cases h2 : evE B C ix sl1 with
      | none => simp only [W_none, onSl, ifB, onNx, asB, as1, as2]
      | some q =>
        obtain ⟨j, fr, sl2⟩ := q
        simp only [W_some, onSl, ifB, onNx, asB, as1, as2]
        cases h3 : sl2[i]? with
        | none => simp only [W_none, onSl, ifB, onNx, asB, as1, as2]
        | some y =>
          simp only [W_some, onSl, ifB, onNx, asB, as1, as2]
          cases y with
          | own d =>
            simp only
            cases h4 : S d j x with
            | none => simp only [W_none, onSl, ifB, onNx, asB, as1, as2]
            | some d => simp only [W_some, onSl, ifB, onNx, asB, as1, as2]
          | bor d =>
            simp only
            cases h4 : S d j x with
            | none => simp only [W_none, onSl, ifB, onNx, asB, as1, as2]
            | some d => simp only [W_some, onSl, ifB, onNx, asB, as1, as2]
          | _ => simp only [W_none, onSl, ifB, onNx, asB, as1, as2]
theorem w_ex {e : Ex} {Q} : W (evS B M S C (.ex e) sl) Q = W (evE B C e sl) (fun p => Q (.nx, p.2.2)) := by
  rw [evS]
  cases h : evE B C e sl with
  | none => simp only [W_none, onSl, ifB, onNx, asB, as1, as2]
  | some x => simp only [W_some, onSl, ifB, onNx, asB, as1, as2]
theorem w_retV {i : Nat} {Q} : W (evS B M S C (.ret (.v i)) sl) Q = W (sl[i]?) (fun x => onSl x (fun d => Q (.rt d false, sl)) (fun d => Q (.rt d true, sl.set i .un)) (fun _ => False)) := by
  rw [evS]
  cases h : sl[i]? with
  | none => simp only [W_none, onSl, ifB, onNx, asB, as1, as2]
  | some x => cases x <;> simp only [W_none, W_some, onSl, ifB, onNx, asB, as1, as2]
theorem w_ret {e : Ex} {Q} (n : e.isV = false) : W (evS B M S C (.ret e) sl) Q = W (evE B C e sl) (fun p => Q (.rt p.1 p.2.1, p.2.2)) := by
  have e1 : evS B M S C (.ret e) sl = (match evE B C e sl with
    | some (d, fr, sl) => some (.rt d fr, sl)
    | none => none) := by
    cases e with
    | v i => cases n
    | _ => rw [evS]; all_goals (first | rfl | (intro i z; cases z))
  rw [e1]
  cases h : evE B C e sl with
  | none => simp only [W_none, onSl, ifB, onNx, asB, as1, as2]
  | some x => simp only [W_some, onSl, ifB, onNx, asB, as1, as2]
theorem w_retN {Q} : W (evS B M S C .retN sl) Q = Q (.rt .none false, sl) := by rw [evS, W_some]
theorem w_ife {c : Te} {a b : Stms} {Q} : W (evS B M S C (.ife c a b) sl) Q = W (evT B C c sl) (fun p => ifB p.1 (W (evSs B M S C a p.2) Q) (W (evSs B M S C b p.2) Q)) := by
  rw [evS]
  cases h : evT B C c sl with
  | none => simp only [W_none, onSl, ifB, onNx, asB, as1, as2]
  | some x =>
    obtain ⟨t, sl1⟩ := x
    cases t <;> simp only [W_some, onSl, ifB, onNx, asB, as1, as2]
/-- a for's turn -/
def turnS (B : Bi → List D → Option (D × Bool)) (M : Mu → D → List D → Option D) (S : D → D → D → Option D) (C : CallT) (t : Tg) (body : Stms) (d : D) (sl : Ss) : Option (Fl × Ss) := match asgT t d sl with
          | some sl => evSs B M S C body sl
          | none => none
theorem w_for {t : Tg} {ik : Ik} {src : Exs} {body : Stms} {Q} : W (evS B M S C (.for_ t ik src body) sl) Q = W (evEs B C src sl) (fun p => W (itemsOf ik p.1) (fun items => W (forGo (turnS B M S C t body) items p.2) Q)) := by
  rw [evS]
  cases h : evEs B C src sl with
  | none => simp only [W_none, onSl, ifB, onNx, asB, as1, as2]
  | some p =>
    obtain ⟨ss, sl1⟩ := p
    simp only [W_some, onSl, ifB, onNx, asB, as1, as2]
    cases h2 : itemsOf ik ss with
    | none => simp only [W_none, onSl, ifB, onNx, asB, as1, as2]
    | some items =>
      simp only [W_some]
      rfl
theorem w_while {c : Te} {body : Stms} {Q} : W (evS B M S C (.while_ c body) sl) Q = W (whileGo (fun sl => evT B C c sl) (fun sl => evSs B M S C body sl) whileFuel sl) Q := by rw [evS]
theorem w_starA {n i : Nat} {ts : Tgs} {e : Ex} {Q} : W (evS B M S C (.starA n i ts e) sl) Q = W (evE B C e sl) (fun p => W (starD n i p.1) (fun ds => W (asgTs ts ds p.2.2) (fun sl => Q (.nx, sl)))) := by
  rw [evS]
  cases h : evE B C e sl with
  | none => simp only [W_none]
  | some x =>
    obtain ⟨d, fr, sl1⟩ := x
    simp only [W_some]
    cases h2 : starD n i d with
    | none => simp only [W_none]
    | some ds =>
      simp only [W_some]
      cases h3 : asgTs ts ds sl1 with
      | none => simp only [W_none]
      | some q => simp only [W_some]
theorem w_brk {Q} : W (evS B M S C .brk sl) Q = Q (.bk, sl) := by rw [evS, W_some]
theorem w_cont {Q} : W (evS B M S C .cont sl) Q = Q (.ct, sl) := by rw [evS, W_some]
theorem w_pass {Q} : W (evS B M S C .pass sl) Q = Q (.nx, sl) := by rw [evS, W_some]
theorem w_snil {Q} : W (evSs B M S C .nil sl) Q = Q (.nx, sl) := by rw [evSs, W_some]
theorem w_scons {s : Stm} {r : Stms} {Q} : W (evSs B M S C (.cons s r) sl) Q = W (evS B M S C s sl) (fun p => onNx p.1 (W (evSs B M S C r p.2) Q) (Q p)) := by
  rw [evSs]
  cases h : evS B M S C s sl with
  | none => simp only [W_none, onSl, ifB, onNx, asB, as1, as2]
  | some x =>
    obtain ⟨f, sl1⟩ := x
    cases f <;> simp only [W_some, onSl, ifB, onNx, asB, as1, as2]
/-- a turn's body -/
theorem w_body {t : Tg} {d : D} {body : Stms} {Q} : W (turnS B M S C t body d sl) Q = W (asgT t d sl) (fun sl => W (evSs B M S C body sl) Q) := by
  unfold turnS
  cases h : asgT t d sl with
  | none => simp only [W_none, onSl, ifB, onNx, asB, as1, as2]
  | some x => simp only [W_some, onSl, ifB, onNx, asB, as1, as2]
end
/-- a for by an invariant over the turns -/
theorem w_forGo {turn : D → Ss → Option (Fl × Ss)} (I : Nat → Ss → Prop) (R : D → Bool → Ss → Prop) {Q : Fl × Ss → Prop} : ∀ (items : List D) (n : Nat) (sl : Ss), I n sl →
    (∀ i d sl, n ≤ i → items[i - n]? = some d → I i sl → W (turn d sl) (fun p => onFl p.1 (I (i + 1) p.2) (Q (.nx, p.2)) (fun d fr => R d fr p.2))) → (∀ sl, I (n + items.length) sl → Q (.nx, sl)) → (∀ d fr sl, R d fr sl → Q (.rt d fr, sl)) → W (forGo turn items sl) Q
  | [], n, sl, h, _, k, _ => by
    rw [forGo, W_some]
    exact k sl h
  | d :: ds, n, sl, h, ht, k, kr => by
    obtain ⟨p, e, q⟩ := ht n d sl (Nat.le_refl _) (by simp) h
    obtain ⟨f, sl1⟩ := p
    rw [forGo, e]
    have next : I (n + 1) sl1 → W (forGo turn ds sl1) Q := fun h1 => by
      refine w_forGo I R ds (n + 1) sl1 h1 (fun i d' sl hi he hI => ht i d' sl (by omega) ?_ hI) (fun sl hI => k sl ?_) kr
      · have : i - n = (i - (n + 1)) + 1 := by omega
        rw [this]
        simpa using he
      · rw [List.length_cons]
        have : n + (ds.length + 1) = n + 1 + ds.length := by omega
        rw [this]
        exact hI
    cases f with
    | nx => exact next q
    | ct => exact next q
    | bk => simp only [W_some, onSl, ifB, onNx, asB, as1, as2]; exact q
    | rt d fr => simp only [W_some, onSl, ifB, onNx, asB, as1, as2]; exact kr _ _ _ q
/-- a comprehension by an invariant over the turns -/
theorem w_lcGo {turn : D → Ss → Option (Option D × Ss)} (I : Nat → List D → Ss → Prop) {Q : List D × Ss → Prop} : ∀ (items : List D) (n : Nat) (acc : List D) (sl : Ss), I n acc sl →
    (∀ i acc d sl, n ≤ i → items[i - n]? = some d → I i acc sl → W (turn d sl) (fun p => I (i + 1) (acc ++ p.1.toList) p.2)) → (∀ rs sl, I (n + items.length) (acc ++ rs) sl → Q (rs, sl)) → W (lcGo turn items sl) Q
  | [], n, acc, sl, h, _, k => by
    rw [lcGo, W_some]
    exact k [] sl (by simpa using h)
  | d :: ds, n, acc, sl, h, ht, k => by
    obtain ⟨p, e, q⟩ := ht n acc d sl (Nat.le_refl _) (by simp) h
    obtain ⟨o, sl1⟩ := p
    rw [lcGo, e]
    have := w_lcGo I (turn := turn) (Q := fun r => Q (o.toList ++ r.1, r.2)) ds (n + 1) (acc ++ o.toList) sl1 q (fun i acc' d' sl hi he hI => ht i acc' d' sl (by omega) (by
      have : i - n = (i - (n + 1)) + 1 := by omega
      rw [this]
      simpa using he) hI) (fun rs sl hI => k (o.toList ++ rs) sl (by
        rw [List.length_cons]
        have : n + (ds.length + 1) = n + 1 + ds.length := by omega
        rw [this, ← List.append_assoc]
        exact hI))
    obtain ⟨r, e2, q2⟩ := this
    obtain ⟨rs, sl2⟩ := r
    simp only [e2, W_some]
    cases o <;> exact q2
/-- a call of a function -/
theorem w_fn {P : Nat → Option Fn} {n f : Nat} {fn : Fn} {args : List (Bool × D)} {Q : D × Bool × List D → Prop} {B : Bi → List D → Option (D × Bool)} {M : Mu → D → List D → Option D} {S : D → D → D → Option D} (hP : P f = some fn) (h1 : args.length = fn.np) (h2 : fn.np ≤ fn.ns)
    (h : W (evSs B M S (callN B M S P n) fn.body (argS args ++ List.replicate (fn.ns - fn.np) .un)) (fun p => endF p.1 (fun d fr => W (outS args p.2) (fun outs => Q (d, fr, outs))))) : W (callN B M S P (n + 1) f args) Q := by
  obtain ⟨p, e, q⟩ := h
  obtain ⟨fl, sl⟩ := p
  simp only [callN, hP]
  rw [runFn, if_pos ⟨h1, h2⟩, e]
  cases fl with
  | rt d fr =>
    obtain ⟨outs, e2, q2⟩ := q
    simp only [e2, W_some]
    exact q2
  | nx =>
    obtain ⟨outs, e2, q2⟩ := q
    simp only [e2, W_some]
    exact q2
  | bk => exact q.elim
  | ct => exact q.elim
end EV
namespace EV
open PySem PySem.Spec L2
open PyProof.Rows hiding St

/-! ### the operations, as steps -/
theorem W_if {α : Type} {c : Prop} [Decidable c] {a : α} {Q : α → Prop} : W (if c then some a else none) Q = (c ∧ Q a) := by
  by_cases h : c
  · rw [if_pos h, W_some]; simp [h]
  · rw [if_neg h, W_none]; simp [h]
theorem W_map {α β : Type} {o : Option α} {f : α → β} {Q : β → Prop} : W (o.map f) Q = W o (fun a => Q (f a)) := by
  cases o
  · rw [Option.map_none, W_none, W_none]
  · rw [Option.map_some, W_some, W_some]
section
variable {Q : D × Bool → Prop}
theorem x_add {i j : Int} : W (ap .add [.int i, .int j]) Q = Q (.int (i + j), false) := by show W (some _) Q = _; rw [W_some]
theorem x_addS {i j : Str} : W (ap .add [.str i, .str j]) Q = (i.length + j.length ≤ sizeLine ∧ Q (.str (i ++ j), false)) := by show W (if _ then _ else _) Q = _; rw [W_if]
theorem x_addT {i j : List D} : W (ap .add [.tuple i, .tuple j]) Q = (i.length + j.length ≤ sizeLine ∧ Q (.tuple (i ++ j), false)) := by show W (if _ then _ else _) Q = _; rw [W_if]
theorem x_addL {i j : List D} : W (ap .add [.list i, .list j]) Q = (i.length + j.length ≤ sizeLine ∧ Q (.list (i ++ j), true)) := by show W (if _ then _ else _) Q = _; rw [W_if]
theorem x_iadd {i j : Int} : W (ap .iadd [.int i, .int j]) Q = Q (.int (i + j), false) := by show W (some _) Q = _; rw [W_some]
theorem x_isub {i j : Int} : W (ap .isub [.int i, .int j]) Q = Q (.int (i - j), false) := by show W (some _) Q = _; rw [W_some]
theorem x_sub {i j : Int} : W (ap .sub [.int i, .int j]) Q = Q (.int (i - j), false) := by show W (some _) Q = _; rw [W_some]
/-- what the model's product asks of whole numbers -/
def mulOk (i j : Int) : Prop := (-(2 ^ 64) < i ∧ i < 2 ^ 64) ∨ (-(2 ^ 64) < j ∧ j < 2 ^ 64)
theorem mulOk_l {i j : Int} (h : -(2 ^ 64) < i ∧ i < 2 ^ 64) : mulOk i j := .inl h
theorem mulOk_r {i j : Int} (h : -(2 ^ 64) < j ∧ j < 2 ^ 64) : mulOk i j := .inr h
theorem mulOk_mod {i j m : Int} (h : 0 < m) (h2 : m < 2 ^ 64) : mulOk (i % m) j := .inl ⟨by have := Int.emod_nonneg i (Int.ne_of_gt h); omega, Int.lt_trans (Int.emod_lt_of_pos i h) h2⟩
theorem x_mul {i j : Int} : W (ap .mul [.int i, .int j]) Q = (mulOk i j ∧ Q (.int (i * j), false)) := by show W (if _ then _ else _) Q = _; rw [W_if]; rfl
theorem x_fdiv {i j : Int} : W (ap .fdiv [.int i, .int j]) Q = ((0 < j ∧ j < 1073741824) ∧ Q (.int (i / j), false)) := by show W (if _ then _ else _) Q = _; rw [W_if]
theorem x_mod {i j : Int} : W (ap .mod [.int i, .int j]) Q = (0 < j ∧ Q (.int (i % j), false)) := by show W (if _ then _ else _) Q = _; rw [W_if]
theorem x_pow {i j : Int} : W (ap .pow [.int i, .int j]) Q = (((0 ≤ j ∧ j ≤ 1000000) ∧ i.natAbs < 2 ^ 64) ∧ Q (.int (i ^ j.toNat), false)) := by show W (if _ then _ else _) Q = _; rw [W_if]
theorem x_neg {i : Int} : W (ap .neg [.int i]) Q = Q (.int (-i), false) := by show W (some _) Q = _; rw [W_some]
theorem x_eq {a b : D} : W (ap .eq [a, b]) Q = ifB (lenNe a b) (Q (.bool false, false)) (eqOk a b = true ∧ Q (.bool (PyData.eqv a b), false)) := by
  show W (if lenNe a b = true then _ else if _ then _ else _) Q = _
  cases h : lenNe a b with
  | true => rw [if_pos rfl, W_some]; rfl
  | false => rw [if_neg (by decide), W_if]; rfl
theorem ek_s {a b : Str} : eqOk (.str a) (.str b) = true := rfl
theorem ek_i {a b : Int} : eqOk (.int a) (.int b) = true := rfl
theorem ek_b {a b : Bool} : eqOk (.bool a) (.bool b) = true := rfl
theorem in_n : isNone .none = true := rfl
theorem in_b {x : Bool} : isNone (.bool x) = false := rfl
theorem in_i {x : Int} : isNone (.int x) = false := rfl
theorem in_s {x : Str} : isNone (.str x) = false := rfl
theorem in_t {x : List D} : isNone (.tuple x) = false := rfl
theorem in_l {x : List D} : isNone (.list x) = false := rfl
theorem in_d {x : List (D × D)} : isNone (.dict x) = false := rfl
theorem ln_n {b : D} : lenNe .none b = false := rfl
theorem ln_b {x : Bool} {b : D} : lenNe (.bool x) b = false := rfl
theorem ln_i {x : Int} {b : D} : lenNe (.int x) b = false := rfl
theorem ln_s {x : Str} {b : D} : lenNe (.str x) b = false := rfl
theorem ln_t {x : List D} {b : D} : lenNe (.tuple x) b = false := rfl
theorem ln_d {x : List (D × D)} {b : D} : lenNe (.dict x) b = false := rfl
theorem ln_l {x y : List D} : lenNe (.list x) (.list y) = (x.length != y.length) := rfl
theorem eqv_st {x y : Str} : PyData.eqv (.str x) (.str y) = decide (x = y) := by
  rw [PyData.eqv]
  cases h : x == y with
  | true => exact (decide_eq_true (eq_of_beq h)).symm
  | false => exact (decide_eq_false (fun z => by rw [z] at h; simp at h)).symm
theorem x_ne {a b : D} : W (ap .ne [a, b]) Q = (eqOk a b = true ∧ Q (.bool (!PyData.eqv a b), false)) := by show W (if _ then _ else _) Q = _; rw [W_if]
theorem x_lt {i j : Int} : W (ap .lt [.int i, .int j]) Q = Q (.bool (decide (i < j)), false) := by show W (some _) Q = _; rw [W_some]
theorem x_le {i j : Int} : W (ap .le [.int i, .int j]) Q = Q (.bool (decide (i ≤ j)), false) := by show W (some _) Q = _; rw [W_some]
theorem x_gt {i j : Int} : W (ap .gt [.int i, .int j]) Q = Q (.bool (decide (j < i)), false) := by show W (some _) Q = _; rw [W_some]
theorem x_ge {i j : Int} : W (ap .ge [.int i, .int j]) Q = Q (.bool (decide (j ≤ i)), false) := by show W (some _) Q = _; rw [W_some]
theorem x_isN {a : D} : W (ap .isN [a]) Q = Q (.bool (isNone a), false) := by show W (some _) Q = _; rw [W_some]
theorem x_notN {a : D} : W (ap .notN [a]) Q = Q (.bool (!isNone a), false) := by show W (some _) Q = _; rw [W_some]
theorem x_isB {b a : Bool} : W (ap (.isB b) [.bool a]) Q = Q (.bool (decide (a = b)), false) := by show W (some _) Q = _; rw [W_some]
theorem x_notB {b a : Bool} : W (ap (.notB b) [.bool a]) Q = Q (.bool (!decide (a = b)), false) := by show W (some _) Q = _; rw [W_some]
theorem x_inS {i j : Str} : W (ap .inn [.str i, .str j]) Q = Q (.bool (!(Builtin.Str.occurrences j i 0 j.length 1).isEmpty), false) := by show W (some _) Q = _; rw [W_some]
theorem x_ninS {i j : Str} : W (ap .nin [.str i, .str j]) Q = Q (.bool (!(!(Builtin.Str.occurrences j i 0 j.length 1).isEmpty)), false) := by show W (some _) Q = _; rw [W_some]
theorem x_itemL {ds : List D} {i : Int} : W (ap .item [.list ds, .int i]) Q = W (atI ds i) (fun d => Q (d, false)) := by show W (Option.map _ _) Q = _; rw [W_map]
theorem x_itemT {ds : List D} {i : Int} : W (ap .item [.tuple ds, .int i]) Q = W (atI ds i) (fun d => Q (d, false)) := by show W (Option.map _ _) Q = _; rw [W_map]
theorem x_itemScr {ds : List D} {i : Int} : W (ap .item [.dict [(.none, .list ds)], .int i]) Q = W (atI ds i) (fun d => Q (d, false)) := by show W (Option.map _ _) Q = _; rw [W_map]
theorem x_itemS {z : Str} {i : Int} : W (ap .item [.str z, .int i]) Q = (z.length ≤ sizeLine ∧ W (atI z.cps.toList i) (fun c => Q (.str ⟨#[c]⟩, false))) := by
  show W (if _ then _ else _) Q = _
  by_cases h : z.length ≤ sizeLine
  · rw [if_pos h, W_map]; simp only [h, true_and]
  · rw [if_neg h, W_none]; simp only [h, false_and]
theorem x_lenL {ds : List D} : W (ap .len [.list ds]) Q = Q (.int ds.length, false) := by show W (some _) Q = _; rw [W_some]
theorem x_lenT {ds : List D} : W (ap .len [.tuple ds]) Q = Q (.int ds.length, false) := by show W (some _) Q = _; rw [W_some]
theorem x_lenScr {ds : List D} : W (ap .len [.dict [(.none, .list ds)]]) Q = Q (.int ds.length, false) := by show W (some _) Q = _; rw [W_some]
theorem x_lenS {z : Str} : W (ap .len [.str z]) Q = (z.length ≤ sizeLine ∧ Q (.int z.length, false)) := by show W (if _ then _ else _) Q = _; rw [W_if]
theorem x_abs {i : Int} : W (ap .abs [.int i]) Q = Q (.int (if i < 0 then -i else i), false) := by show W (some _) Q = _; rw [W_some]
theorem x_max {i j : Int} : W (ap .max2 [.int i, .int j]) Q = Q (.int (if j > i then j else i), false) := by show W (some _) Q = _; rw [W_some]
theorem x_min {i j : Int} : W (ap .min2 [.int i, .int j]) Q = Q (.int (if j < i then j else i), false) := by show W (some _) Q = _; rw [W_some]
theorem x_sorted {ds : List D} : W (ap .sorted [.list ds]) Q = (sortOk ds = true ∧ Q (.list (sortD ds), true)) := by show W (if _ then _ else _) Q = _; rw [W_if]
theorem x_sortedD {es : List (D × D)} : W (ap .sorted [.dict es]) Q = ((es.length < 64 ∧ es.all (fun p => isStr p.1) = true) ∧ Q (.list (sortD (es.map (·.1))), true)) := by show W (if _ then _ else _) Q = _; rw [W_if]
theorem x_sortSL {ds : List D} : W (ap .sortedSet [.list ds]) Q = ((setKind ds = true ∧ sortOk (dedup ds) = true) ∧ Q (.list (sortD (dedup ds)), true)) := by show W (if _ then _ else _) Q = _; rw [W_if]
theorem x_sortST {ds : List D} : W (ap .sortedSet [.tuple ds]) Q = ((setKind ds = true ∧ sortOk (dedup ds) = true) ∧ Q (.list (sortD (dedup ds)), true)) := by show W (if _ then _ else _) Q = _; rw [W_if]
theorem x_setD {es : List (D × D)} {k d : D} {Q : D → Prop} : W (aS (.dict es) k d) Q = ((isKey k = true ∧ es.length < sizeLine) ∧ Q (.dict (putD es k d))) := by show W (if _ then _ else _) Q = _; rw [W_if]
theorem x_itemD {es : List (D × D)} {k : D} (h : es.all (fun p => isKey p.1) = true) (hk : isKey k = true) : W (ap .item [.dict es, k]) Q = W (valD es k) (fun d => Q (d, false)) := by
  have e : ap .item [.dict es, k] = (valD es k).map fun d => (d, false) := by
    show apItem _ = _
    unfold apItem
    split
    · rename_i z; simp at z
    · rename_i z; simp at z
    · rename_i z; simp at z
    · rename_i z
      simp only [List.cons.injEq, PyData.dict.injEq] at z
      rw [z.1] at h
      cases h
    · rename_i z
      simp only [List.cons.injEq, PyData.dict.injEq, and_true] at z
      obtain ⟨rfl, rfl⟩ := z
      rw [if_pos hk]
    · rename_i z
      exact (z _ _ rfl).elim
  rw [e, W_map]
theorem x_inD {es : List (D × D)} {k : D} : W (ap .inn [k, .dict es]) Q = ((isKey k = true ∧ es.all (fun p => isKey p.1) = true) ∧ Q (.bool (valD es k).isSome, false)) := by
  have e : ap .inn [k, .dict es] = if isKey k = true ∧ es.all (fun p => isKey p.1) = true then some (.bool (valD es k).isSome, false) else none := by
    cases k <;> rfl
  rw [e, W_if]
theorem x_ninD {es : List (D × D)} {k : D} : W (ap .nin [k, .dict es]) Q = ((isKey k = true ∧ es.all (fun p => isKey p.1) = true) ∧ Q (.bool (!(valD es k).isSome), false)) := by
  have e : ap .nin [k, .dict es] = if isKey k = true ∧ es.all (fun p => isKey p.1) = true then some (.bool (!(valD es k).isSome), false) else none := by
    cases k <;> rfl
  rw [e, W_if]
theorem x_app {ds : List D} {d : D} {Q : D → Prop} : W (aM .append (.list ds) [d]) Q = (ds.length < sizeLine ∧ Q (.list (ds ++ [d]))) := by show W (if _ then _ else _) Q = _; rw [W_if]
theorem x_ext {ds es : List D} {Q : D → Prop} : W (aM .extend (.list ds) [.list es]) Q = (ds.length + es.length ≤ sizeLine ∧ Q (.list (ds ++ es))) := by show W (if _ then _ else _) Q = _; rw [W_if]
theorem x_inT {d : D} {ds : List D} : W (ap .inn [d, .tuple ds]) Q = ((SeqAt.shaped d = true ∧ SeqAt.shaped (.tuple ds) = true) ∧ Q (.bool (ds.any fun z => PyData.eqv z d), false)) := by
  have e : ap .inn [d, .tuple ds] = if SeqAt.shaped d = true ∧ SeqAt.shaped (.tuple ds) = true then some (.bool (ds.any fun z => PyData.eqv z d), false) else none := by cases d <;> rfl
  rw [e, W_if]
theorem x_inL {d : D} {ds : List D} : W (ap .inn [d, .list ds]) Q = ((SeqAt.shaped d = true ∧ SeqAt.shaped (.list ds) = true) ∧ Q (.bool (ds.any fun z => PyData.eqv z d), false)) := by
  have e : ap .inn [d, .list ds] = if SeqAt.shaped d = true ∧ SeqAt.shaped (.list ds) = true then some (.bool (ds.any fun z => PyData.eqv z d), false) else none := by cases d <;> rfl
  rw [e, W_if]
theorem x_ninT {d : D} {ds : List D} : W (ap .nin [d, .tuple ds]) Q = ((SeqAt.shaped d = true ∧ SeqAt.shaped (.tuple ds) = true) ∧ Q (.bool (!ds.any fun z => PyData.eqv z d), false)) := by
  have e : ap .nin [d, .tuple ds] = if SeqAt.shaped d = true ∧ SeqAt.shaped (.tuple ds) = true then some (.bool (!ds.any fun z => PyData.eqv z d), false) else none := by cases d <;> rfl
  rw [e, W_if]
theorem x_ninL {d : D} {ds : List D} : W (ap .nin [d, .list ds]) Q = ((SeqAt.shaped d = true ∧ SeqAt.shaped (.list ds) = true) ∧ Q (.bool (!ds.any fun z => PyData.eqv z d), false)) := by
  have e : ap .nin [d, .list ds] = if SeqAt.shaped d = true ∧ SeqAt.shaped (.list ds) = true then some (.bool (!ds.any fun z => PyData.eqv z d), false) else none := by cases d <;> rfl
  rw [e, W_if]
theorem x_mrev {ds : List D} {Q : D → Prop} : W (aM .reverse (.list ds) []) Q = Q (.list ds.reverse) := by show W (some _) Q = _; rw [W_some]
theorem x_mclr {ds : List D} {Q : D → Prop} : W (aM .clear (.list ds) []) Q = Q (.list []) := by show W (some _) Q = _; rw [W_some]
theorem x_intI {i : Int} : W (ap .int [.int i]) Q = Q (.int i, false) := by show W (some _) Q = _; rw [W_some]
theorem x_intB {b : Bool} : W (ap .int [.bool b]) Q = Q (.int (if b then 1 else 0), false) := by show W (some _) Q = _; rw [W_some]
theorem x_rev {ds : List D} : W (ap .rev [.list ds]) Q = Q (.list ds.reverse, true) := by show W (some _) Q = _; rw [W_some]
theorem x_count {ds : List D} {b : Bool} : W (ap .count [.list ds, .bool b]) Q = W (boolsOf ds) (fun bs => Q (.int (bs.count b), false)) := by
  show W ((boolsOf ds).map _) Q = _
  rw [W_map]
theorem x_revT {ds : List D} : W (ap .rev [.tuple ds]) Q = Q (.tuple ds.reverse, false) := by show W (some _) Q = _; rw [W_some]
theorem x_repr {d : D} : W (ap .repr [d]) Q = (((cleanD d = true ∧ d.showable = true) ∧ d.depth ≤ 64 ∧ d.shown.length ≤ sizeLine) ∧ Q (.str d.shown, false)) := by show W (if _ then _ else _) Q = _; rw [W_if]
theorem x_str {i : Int} : W (ap .str [.int i]) Q = (i.natAbs.log2 < 1920 ∧ Q (.str (toString i), false)) := by show W (if _ then _ else _) Q = _; rw [W_if]
theorem x_isin {t : String} {a : D} (n : isScr a = false) : W (ap (.isin t) [a]) Q = W (kitB (tyName a) t) (fun b => Q (.bool b, false)) := by
  show W (if _ then _ else _) Q = _
  rw [if_neg (by rw [n]; decide), W_map]
theorem x_all {ds : List D} : W (ap .allv [.list ds]) Q = W (boolsOf ds) (fun bs => Q (.bool (bs.all id), false)) := by show W (Option.map _ _) Q = _; rw [W_map]
theorem x_any {ds : List D} : W (ap .anyv [.list ds]) Q = W (boolsOf ds) (fun bs => Q (.bool (bs.any id), false)) := by show W (Option.map _ _) Q = _; rw [W_map]
theorem x_join {a : Str} {ds : List D} : W (ap .join [.str a, .list ds]) Q = W (strsOf ds) (fun ys => (ys.map (·.length)).sum + ys.length * a.length ≤ 16777216 ∧ Q (.str (Txt.join a ys), false)) := by
  show W (match strsOf ds with | some ys => _ | none => _) Q = _
  cases h : strsOf ds with
  | none => rw [W_none, W_none]
  | some ys => simp only; rw [W_if, W_some]
theorem x_tupleL {ds : List D} : W (ap .tuple [.list ds]) Q = Q (.tuple ds, false) := by show W (some _) Q = _; rw [W_some]
theorem x_tupleT {ds : List D} : W (ap .tuple [.tuple ds]) Q = Q (.tuple ds, false) := by show W (some _) Q = _; rw [W_some]
theorem x_listL {ds : List D} : W (ap .list [.list ds]) Q = Q (.list ds, true) := by show W (some _) Q = _; rw [W_some]
theorem x_listT {ds : List D} : W (ap .list [.tuple ds]) Q = Q (.list ds, true) := by show W (some _) Q = _; rw [W_some]
theorem x_cutL {ds : List D} {lo hi : Option Int} : W (apCut (.list ds) lo hi) Q = Q (.list (cutD ds lo hi), true) := by show W (some _) Q = _; rw [W_some]
theorem x_cutT {ds : List D} {lo hi : Option Int} : W (apCut (.tuple ds) lo hi) Q = Q (.tuple (cutD ds lo hi), false) := by show W (some _) Q = _; rw [W_some]
theorem x_cutS {z : Str} {lo hi : Option Int} : W (apCut (.str z) lo hi) Q = (z.length ≤ sizeLine ∧ Q (.str (cutS z lo hi), false)) := by show W (if _ then _ else _) Q = _; rw [W_if]
end
section
variable {Q : Option Int × Option Int → Prop}
theorem x_ca0 : W (cutArgs false false []) Q = Q (none, none) := by show W (some _) Q = _; rw [W_some]
theorem x_ca1 {i : Int} : W (cutArgs true false [.int i]) Q = Q (some i, none) := by show W (some _) Q = _; rw [W_some]
theorem x_ca2 {i : Int} : W (cutArgs false true [.int i]) Q = Q (none, some i) := by show W (some _) Q = _; rw [W_some]
theorem x_ca3 {i j : Int} : W (cutArgs true true [.int i, .int j]) Q = Q (some i, some j) := by show W (some _) Q = _; rw [W_some]
end
section
variable {Q : Bool → Prop}
theorem tr_b {b : Bool} : W (tr (.bool b)) Q = Q b := by show W (some _) Q = _; rw [W_some]
theorem tr_n : W (tr .none) Q = Q false := by show W (some _) Q = _; rw [W_some]
theorem tr_i {i : Int} : W (tr (.int i)) Q = Q (i != 0) := by show W (some _) Q = _; rw [W_some]
theorem tr_l {xs : List D} : W (tr (.list xs)) Q = Q (!xs.isEmpty) := by show W (some _) Q = _; rw [W_some]
theorem tr_t {xs : List D} : W (tr (.tuple xs)) Q = Q (!xs.isEmpty) := by show W (some _) Q = _; rw [W_some]
end
section
variable {Q : List D → Prop}
theorem it_l {ds : List D} : W (itemsOf .any [.list ds]) Q = Q ds := by show W (some _) Q = _; rw [W_some]
theorem it_t {ds : List D} : W (itemsOf .any [.tuple ds]) Q = Q ds := by show W (some _) Q = _; rw [W_some]
theorem it_s {s : Str} : W (itemsOf .any [.str s]) Q = Q (s.cps.toList.map fun c => .str ⟨#[c]⟩) := by show W (some _) Q = _; rw [W_some]
theorem it_r1 {j : Int} : W (itemsOf .range1 [.int j]) Q = ((-(2 ^ 62) ≤ j ∧ j < 2 ^ 62) ∧ Q (rangeT 0 j.toNat)) := by show W (if _ then _ else _) Q = _; rw [W_if]
theorem it_r2 {i j : Int} : W (itemsOf .range2 [.int i, .int j]) Q = ((-(2 ^ 62) ≤ i ∧ i < 2 ^ 62 ∧ -(2 ^ 62) ≤ j ∧ j < 2 ^ 62) ∧ Q (rangeT i (j - i).toNat)) := by show W (if _ then _ else _) Q = _; rw [W_if]
theorem it_en {ds : List D} : W (itemsOf .enum [.list ds]) Q = Q (enumFrom 0 ds) := by show W (some _) Q = _; rw [W_some]
theorem it_z {ds es : List D} : W (itemsOf .zip [.list ds, .list es]) Q = Q (zipT ds es) := by show W (some _) Q = _; rw [W_some]
end
theorem rangeT_at : ∀ {n : Nat} {lo : Int} {i : Nat} {d : D}, (rangeT lo n)[i]? = some d → d = .int (lo + i) ∧ i < n
  | 0, lo, i, d, h => by simp [rangeT] at h
  | n + 1, lo, 0, d, h => by
    simp only [rangeT, List.getElem?_cons_zero, Option.some.injEq] at h
    subst h
    exact ⟨by simp, by omega⟩
  | n + 1, lo, i + 1, d, h => by
    simp only [rangeT, List.getElem?_cons_succ] at h
    obtain ⟨h1, h2⟩ := rangeT_at h
    refine ⟨by rw [h1]; congr 1; omega, by omega⟩
theorem rangeT_length : ∀ (n : Nat) (lo : Int), (rangeT lo n).length = n
  | 0, _ => rfl
  | n + 1, lo => by rw [rangeT, List.length_cons, rangeT_length n]
section
variable {α : Type} {Q : α → Prop}
theorem atI_nn {xs : List α} {i : Int} (h : 0 ≤ i) (h2 : i < xs.length) : ∃ a, atI xs i = some a ∧ a ∈ xs := by
  unfold atI ixN
  rw [if_pos h, if_pos h2]
  have : i.toNat < xs.length := by omega
  exact ⟨xs[i.toNat], by simp [this], List.getElem_mem this⟩
theorem W_atI {xs : List α} {i : Int} (h : 0 ≤ i) (h2 : i < xs.length) (k : ∀ a ∈ xs, Q a) : W (atI xs i) Q := by
  obtain ⟨a, e, m⟩ := atI_nn h h2
  exact ⟨a, e, k a m⟩
theorem atI_0 {a : α} {r : List α} : atI (a :: r) 0 = some a := by
  unfold atI ixN
  rw [if_pos (by decide), if_pos (by simp only [List.length_cons]; omega)]
  rfl
theorem atI_1 {a b : α} {r : List α} : atI (a :: b :: r) 1 = some b := by
  unfold atI ixN
  rw [if_pos (by decide), if_pos (by simp only [List.length_cons]; omega)]
  rfl
theorem atI_2 {a b c : α} {r : List α} : atI (a :: b :: c :: r) 2 = some c := by
  unfold atI ixN
  rw [if_pos (by decide), if_pos (by simp only [List.length_cons]; omega)]
  rfl
theorem atI_3 {a b c d : α} {r : List α} : atI (a :: b :: c :: d :: r) 3 = some d := by
  unfold atI ixN
  rw [if_pos (by decide), if_pos (by simp only [List.length_cons]; omega)]
  rfl
end
/-- what stands at a place of a changing list -/
theorem x_set0 {a x : D} {r : List D} : aS (.list (a :: r)) (.int 0) x = some (.list (x :: r)) := by
  show (ixN _ _).map _ = _
  unfold ixN
  rw [if_pos (by decide), if_pos (by simp only [List.length_cons]; omega)]
  rfl
theorem x_set1 {a b x : D} {r : List D} : aS (.list (a :: b :: r)) (.int 1) x = some (.list (a :: x :: r)) := by
  show (ixN _ _).map _ = _
  unfold ixN
  rw [if_pos (by decide), if_pos (by simp only [List.length_cons]; omega)]
  rfl
theorem x_set2 {a b c x : D} {r : List D} : aS (.list (a :: b :: c :: r)) (.int 2) x = some (.list (a :: b :: x :: r)) := by
  show (ixN _ _).map _ = _
  unfold ixN
  rw [if_pos (by decide), if_pos (by simp only [List.length_cons]; omega)]
  rfl
theorem iv_k {d : D} : (.k d : Ex).isV = false := rfl
theorem iv_gl {x : Str} {d : D} : (.gl x d : Ex).isV = false := rfl
theorem iv_tup {es : Exs} : (.tup es : Ex).isV = false := rfl
theorem iv_lst {es : Exs} : (.lst es : Ex).isV = false := rfl
theorem iv_dct {es : Exs} : (.dct es : Ex).isV = false := rfl
theorem iv_ch {f g : Bi} {a b : Exs} : (.ch f g a b : Ex).isV = false := rfl
theorem iv_sl {f g : Bool} {a b : Exs} : (.sl f g a b : Ex).isV = false := rfl
theorem iv_mc {f : Bi} {a b : Exs} : (.mc f a b : Ex).isV = false := rfl
theorem iv_bi {f : Bi} {a : Exs} : (.bi f a : Ex).isV = false := rfl
theorem iv_tst {a : Te} : (.tst a : Ex).isV = false := rfl
theorem iv_and {a b : Ex} : (.and a b : Ex).isV = false := rfl
theorem iv_or {a b : Ex} : (.or a b : Ex).isV = false := rfl
theorem iv_ife {c : Te} {a b : Ex} : (.ife c a b : Ex).isV = false := rfl
theorem iv_call {f : Nat} {rf : List Bool} {a : Exs} : (.call f r a : Ex).isV = false := rfl
theorem iv_lc {a : Ex} {t : Tg} {i : Ik} {s : Exs} {c : Te} {o : List Nat} : (.lc a t i s c o : Ex).isV = false := rfl
theorem iv_c2 {st : Bool} {a : Ex} {t t1 : Tg} {i i1 : Ik} {s s1 : Exs} {c c1 : Te} {o o1 : List Nat} : (.c2 st a t i s c t1 i1 s1 c1 o o1 : Ex).isV = false := rfl
theorem iv_dc {a b : Ex} {t : Tg} {i : Ik} {s : Exs} {c : Te} {o : List Nat} : (.dc a b t i s c o : Ex).isV = false := rfl
theorem sc_n : isScr (.none) = false := rfl
theorem sc_b {b : Bool} : isScr (.bool b) = false := rfl
theorem sc_i {b : Int} : isScr (.int b) = false := rfl
theorem sc_s {b : Str} : isScr (.str b) = false := rfl
theorem sc_l {b : List D} : isScr (.list b) = false := rfl
theorem sc_t {b : List D} : isScr (.tuple b) = false := rfl
theorem sc_d0 : isScr (.dict []) = false := rfl
theorem sc_dS {k : Str} {v : D} {r : List (D × D)} : isScr (.dict ((.str k, v) :: r)) = false := rfl
theorem sc_dI {k : Int} {v : D} {r : List (D × D)} : isScr (.dict ((.int k, v) :: r)) = false := rfl
section
variable {B : Bi → List D → Option (D × Bool)} {M : Mu → D → List D → Option D} {S : D → D → D → Option D} {C : CallT} {sl : Ss}
theorem te_callK {f : Nat} {a k : Exs} {t : List (Option D)} {Q} : W (evT B C (.ex (.callK f a k t)) sl) Q = W (evE B C (.callK f a k t) sl) (fun p => W (tr p.1) (fun b => Q (b, p.2.2))) := w_tex rfl
theorem oc_callK {f : Nat} {a k : Exs} {t : List (Option D)} {r : Exs} {Q} : W (evOs B C (.cons (.callK f a k t) r) sl) Q = W (evE B C (.callK f a k t) sl) (fun p => W (evOs B C r p.2.2) (fun q => Q (.d p.1 :: q.1, q.2))) := w_ocons rfl
theorem rt_callK {f : Nat} {a k : Exs} {t : List (Option D)} {Q} : W (evS B M S C (.ret (.callK f a k t)) sl) Q = W (evE B C (.callK f a k t) sl) (fun p => Q (.rt p.1 p.2.1, p.2.2)) := w_ret rfl
theorem te_callV {i : Nat} {c : List (Str × Nat)} {a : Exs} {Q} : W (evT B C (.ex (.callV i c a)) sl) Q = W (evE B C (.callV i c a) sl) (fun p => W (tr p.1) (fun b => Q (b, p.2.2))) := w_tex rfl
theorem oc_callV {i : Nat} {c : List (Str × Nat)} {a : Exs} {r : Exs} {Q} : W (evOs B C (.cons (.callV i c a) r) sl) Q = W (evE B C (.callV i c a) sl) (fun p => W (evOs B C r p.2.2) (fun q => Q (.d p.1 :: q.1, q.2))) := w_ocons rfl
theorem rt_callV {i : Nat} {c : List (Str × Nat)} {a : Exs} {Q} : W (evS B M S C (.ret (.callV i c a)) sl) Q = W (evE B C (.callV i c a) sl) (fun p => Q (.rt p.1 p.2.1, p.2.2)) := w_ret rfl
theorem te_callF {f : Nat} {a : Ex} {Q} : W (evT B C (.ex (.callF f a)) sl) Q = W (evE B C (.callF f a) sl) (fun p => W (tr p.1) (fun b => Q (b, p.2.2))) := w_tex rfl
theorem oc_callF {f : Nat} {a : Ex} {r : Exs} {Q} : W (evOs B C (.cons (.callF f a) r) sl) Q = W (evE B C (.callF f a) sl) (fun p => W (evOs B C r p.2.2) (fun q => Q (.d p.1 :: q.1, q.2))) := w_ocons rfl
theorem rt_callF {f : Nat} {a : Ex} {Q} : W (evS B M S C (.ret (.callF f a)) sl) Q = W (evE B C (.callF f a) sl) (fun p => Q (.rt p.1 p.2.1, p.2.2)) := w_ret rfl
theorem te_k {d : D} {Q} : W (evT B C (.ex (.k d)) sl) Q = W (evE B C (.k d) sl) (fun p => W (tr p.1) (fun b => Q (b, p.2.2))) := w_tex rfl
theorem oc_k {d : D} {r : Exs} {Q} : W (evOs B C (.cons (.k d) r) sl) Q = W (evE B C (.k d) sl) (fun p => W (evOs B C r p.2.2) (fun q => Q (.d p.1 :: q.1, q.2))) := w_ocons rfl
theorem rt_k {d : D} {Q} : W (evS B M S C (.ret (.k d)) sl) Q = W (evE B C (.k d) sl) (fun p => Q (.rt p.1 p.2.1, p.2.2)) := w_ret rfl
theorem te_gl {x : Str} {d : D} {Q} : W (evT B C (.ex (.gl x d)) sl) Q = W (evE B C (.gl x d) sl) (fun p => W (tr p.1) (fun b => Q (b, p.2.2))) := w_tex rfl
theorem oc_gl {x : Str} {d : D} {r : Exs} {Q} : W (evOs B C (.cons (.gl x d) r) sl) Q = W (evE B C (.gl x d) sl) (fun p => W (evOs B C r p.2.2) (fun q => Q (.d p.1 :: q.1, q.2))) := w_ocons rfl
theorem rt_gl {x : Str} {d : D} {Q} : W (evS B M S C (.ret (.gl x d)) sl) Q = W (evE B C (.gl x d) sl) (fun p => Q (.rt p.1 p.2.1, p.2.2)) := w_ret rfl
theorem te_tup {es : Exs} {Q} : W (evT B C (.ex (.tup es)) sl) Q = W (evE B C (.tup es) sl) (fun p => W (tr p.1) (fun b => Q (b, p.2.2))) := w_tex rfl
theorem oc_tup {es : Exs} {r : Exs} {Q} : W (evOs B C (.cons (.tup es) r) sl) Q = W (evE B C (.tup es) sl) (fun p => W (evOs B C r p.2.2) (fun q => Q (.d p.1 :: q.1, q.2))) := w_ocons rfl
theorem rt_tup {es : Exs} {Q} : W (evS B M S C (.ret (.tup es)) sl) Q = W (evE B C (.tup es) sl) (fun p => Q (.rt p.1 p.2.1, p.2.2)) := w_ret rfl
theorem te_lst {es : Exs} {Q} : W (evT B C (.ex (.lst es)) sl) Q = W (evE B C (.lst es) sl) (fun p => W (tr p.1) (fun b => Q (b, p.2.2))) := w_tex rfl
theorem oc_lst {es : Exs} {r : Exs} {Q} : W (evOs B C (.cons (.lst es) r) sl) Q = W (evE B C (.lst es) sl) (fun p => W (evOs B C r p.2.2) (fun q => Q (.d p.1 :: q.1, q.2))) := w_ocons rfl
theorem rt_lst {es : Exs} {Q} : W (evS B M S C (.ret (.lst es)) sl) Q = W (evE B C (.lst es) sl) (fun p => Q (.rt p.1 p.2.1, p.2.2)) := w_ret rfl
theorem te_dct {es : Exs} {Q} : W (evT B C (.ex (.dct es)) sl) Q = W (evE B C (.dct es) sl) (fun p => W (tr p.1) (fun b => Q (b, p.2.2))) := w_tex rfl
theorem oc_dct {es : Exs} {r : Exs} {Q} : W (evOs B C (.cons (.dct es) r) sl) Q = W (evE B C (.dct es) sl) (fun p => W (evOs B C r p.2.2) (fun q => Q (.d p.1 :: q.1, q.2))) := w_ocons rfl
theorem rt_dct {es : Exs} {Q} : W (evS B M S C (.ret (.dct es)) sl) Q = W (evE B C (.dct es) sl) (fun p => Q (.rt p.1 p.2.1, p.2.2)) := w_ret rfl
theorem te_ch {f g : Bi} {a b : Exs} {Q} : W (evT B C (.ex (.ch f g a b)) sl) Q = W (evE B C (.ch f g a b) sl) (fun p => W (tr p.1) (fun b => Q (b, p.2.2))) := w_tex rfl
theorem oc_ch {f g : Bi} {a b : Exs} {r : Exs} {Q} : W (evOs B C (.cons (.ch f g a b) r) sl) Q = W (evE B C (.ch f g a b) sl) (fun p => W (evOs B C r p.2.2) (fun q => Q (.d p.1 :: q.1, q.2))) := w_ocons rfl
theorem rt_ch {f g : Bi} {a b : Exs} {Q} : W (evS B M S C (.ret (.ch f g a b)) sl) Q = W (evE B C (.ch f g a b) sl) (fun p => Q (.rt p.1 p.2.1, p.2.2)) := w_ret rfl
theorem te_sl {f g : Bool} {a b : Exs} {Q} : W (evT B C (.ex (.sl f g a b)) sl) Q = W (evE B C (.sl f g a b) sl) (fun p => W (tr p.1) (fun b => Q (b, p.2.2))) := w_tex rfl
theorem oc_sl {f g : Bool} {a b : Exs} {r : Exs} {Q} : W (evOs B C (.cons (.sl f g a b) r) sl) Q = W (evE B C (.sl f g a b) sl) (fun p => W (evOs B C r p.2.2) (fun q => Q (.d p.1 :: q.1, q.2))) := w_ocons rfl
theorem rt_sl {f g : Bool} {a b : Exs} {Q} : W (evS B M S C (.ret (.sl f g a b)) sl) Q = W (evE B C (.sl f g a b) sl) (fun p => Q (.rt p.1 p.2.1, p.2.2)) := w_ret rfl
theorem te_mc {f : Bi} {a b : Exs} {Q} : W (evT B C (.ex (.mc f a b)) sl) Q = W (evE B C (.mc f a b) sl) (fun p => W (tr p.1) (fun b => Q (b, p.2.2))) := w_tex rfl
theorem oc_mc {f : Bi} {a b : Exs} {r : Exs} {Q} : W (evOs B C (.cons (.mc f a b) r) sl) Q = W (evE B C (.mc f a b) sl) (fun p => W (evOs B C r p.2.2) (fun q => Q (.d p.1 :: q.1, q.2))) := w_ocons rfl
theorem rt_mc {f : Bi} {a b : Exs} {Q} : W (evS B M S C (.ret (.mc f a b)) sl) Q = W (evE B C (.mc f a b) sl) (fun p => Q (.rt p.1 p.2.1, p.2.2)) := w_ret rfl
theorem te_bi {f : Bi} {a : Exs} {Q} : W (evT B C (.ex (.bi f a)) sl) Q = W (evE B C (.bi f a) sl) (fun p => W (tr p.1) (fun b => Q (b, p.2.2))) := w_tex rfl
theorem oc_bi {f : Bi} {a : Exs} {r : Exs} {Q} : W (evOs B C (.cons (.bi f a) r) sl) Q = W (evE B C (.bi f a) sl) (fun p => W (evOs B C r p.2.2) (fun q => Q (.d p.1 :: q.1, q.2))) := w_ocons rfl
theorem rt_bi {f : Bi} {a : Exs} {Q} : W (evS B M S C (.ret (.bi f a)) sl) Q = W (evE B C (.bi f a) sl) (fun p => Q (.rt p.1 p.2.1, p.2.2)) := w_ret rfl
theorem te_tst {a : Te} {Q} : W (evT B C (.ex (.tst a)) sl) Q = W (evE B C (.tst a) sl) (fun p => W (tr p.1) (fun b => Q (b, p.2.2))) := w_tex rfl
theorem oc_tst {a : Te} {r : Exs} {Q} : W (evOs B C (.cons (.tst a) r) sl) Q = W (evE B C (.tst a) sl) (fun p => W (evOs B C r p.2.2) (fun q => Q (.d p.1 :: q.1, q.2))) := w_ocons rfl
theorem rt_tst {a : Te} {Q} : W (evS B M S C (.ret (.tst a)) sl) Q = W (evE B C (.tst a) sl) (fun p => Q (.rt p.1 p.2.1, p.2.2)) := w_ret rfl
theorem te_and {a b : Ex} {Q} : W (evT B C (.ex (.and a b)) sl) Q = W (evE B C (.and a b) sl) (fun p => W (tr p.1) (fun b => Q (b, p.2.2))) := w_tex rfl
theorem oc_and {a b : Ex} {r : Exs} {Q} : W (evOs B C (.cons (.and a b) r) sl) Q = W (evE B C (.and a b) sl) (fun p => W (evOs B C r p.2.2) (fun q => Q (.d p.1 :: q.1, q.2))) := w_ocons rfl
theorem rt_and {a b : Ex} {Q} : W (evS B M S C (.ret (.and a b)) sl) Q = W (evE B C (.and a b) sl) (fun p => Q (.rt p.1 p.2.1, p.2.2)) := w_ret rfl
theorem te_or {a b : Ex} {Q} : W (evT B C (.ex (.or a b)) sl) Q = W (evE B C (.or a b) sl) (fun p => W (tr p.1) (fun b => Q (b, p.2.2))) := w_tex rfl
theorem oc_or {a b : Ex} {r : Exs} {Q} : W (evOs B C (.cons (.or a b) r) sl) Q = W (evE B C (.or a b) sl) (fun p => W (evOs B C r p.2.2) (fun q => Q (.d p.1 :: q.1, q.2))) := w_ocons rfl
theorem rt_or {a b : Ex} {Q} : W (evS B M S C (.ret (.or a b)) sl) Q = W (evE B C (.or a b) sl) (fun p => Q (.rt p.1 p.2.1, p.2.2)) := w_ret rfl
theorem te_ife {c : Te} {a b : Ex} {Q} : W (evT B C (.ex (.ife c a b)) sl) Q = W (evE B C (.ife c a b) sl) (fun p => W (tr p.1) (fun b => Q (b, p.2.2))) := w_tex rfl
theorem oc_ife {c : Te} {a b : Ex} {r : Exs} {Q} : W (evOs B C (.cons (.ife c a b) r) sl) Q = W (evE B C (.ife c a b) sl) (fun p => W (evOs B C r p.2.2) (fun q => Q (.d p.1 :: q.1, q.2))) := w_ocons rfl
theorem rt_ife {c : Te} {a b : Ex} {Q} : W (evS B M S C (.ret (.ife c a b)) sl) Q = W (evE B C (.ife c a b) sl) (fun p => Q (.rt p.1 p.2.1, p.2.2)) := w_ret rfl
theorem te_call {f : Nat} {rf : List Bool} {a : Exs} {Q} : W (evT B C (.ex (.call f rf a)) sl) Q = W (evE B C (.call f rf a) sl) (fun p => W (tr p.1) (fun b => Q (b, p.2.2))) := w_tex rfl
theorem oc_call {f : Nat} {rf : List Bool} {a : Exs} {r : Exs} {Q} : W (evOs B C (.cons (.call f rf a) r) sl) Q = W (evE B C (.call f rf a) sl) (fun p => W (evOs B C r p.2.2) (fun q => Q (.d p.1 :: q.1, q.2))) := w_ocons rfl
theorem rt_call {f : Nat} {rf : List Bool} {a : Exs} {Q} : W (evS B M S C (.ret (.call f rf a)) sl) Q = W (evE B C (.call f rf a) sl) (fun p => Q (.rt p.1 p.2.1, p.2.2)) := w_ret rfl
theorem te_c2 {st : Bool} {a : Ex} {t t1 : Tg} {i i1 : Ik} {s s1 : Exs} {c c1 : Te} {o o1 : List Nat} {Q} : W (evT B C (.ex (.c2 st a t i s c t1 i1 s1 c1 o o1)) sl) Q = W (evE B C (.c2 st a t i s c t1 i1 s1 c1 o o1) sl) (fun p => W (tr p.1) (fun b => Q (b, p.2.2))) := w_tex rfl
theorem oc_c2 {st : Bool} {a : Ex} {t t1 : Tg} {i i1 : Ik} {s s1 : Exs} {c c1 : Te} {o o1 : List Nat} {r : Exs} {Q} : W (evOs B C (.cons (.c2 st a t i s c t1 i1 s1 c1 o o1) r) sl) Q = W (evE B C (.c2 st a t i s c t1 i1 s1 c1 o o1) sl) (fun p => W (evOs B C r p.2.2) (fun q => Q (.d p.1 :: q.1, q.2))) := w_ocons rfl
theorem rt_c2 {st : Bool} {a : Ex} {t t1 : Tg} {i i1 : Ik} {s s1 : Exs} {c c1 : Te} {o o1 : List Nat} {Q} : W (evS B M S C (.ret (.c2 st a t i s c t1 i1 s1 c1 o o1)) sl) Q = W (evE B C (.c2 st a t i s c t1 i1 s1 c1 o o1) sl) (fun p => Q (.rt p.1 p.2.1, p.2.2)) := w_ret rfl
theorem te_dc {a b : Ex} {t : Tg} {i : Ik} {s : Exs} {c : Te} {o : List Nat} {Q} : W (evT B C (.ex (.dc a b t i s c o)) sl) Q = W (evE B C (.dc a b t i s c o) sl) (fun p => W (tr p.1) (fun b => Q (b, p.2.2))) := w_tex rfl
theorem oc_dc {a b : Ex} {t : Tg} {i : Ik} {s : Exs} {c : Te} {o : List Nat} {r : Exs} {Q} : W (evOs B C (.cons (.dc a b t i s c o) r) sl) Q = W (evE B C (.dc a b t i s c o) sl) (fun p => W (evOs B C r p.2.2) (fun q => Q (.d p.1 :: q.1, q.2))) := w_ocons rfl
theorem rt_dc {a b : Ex} {t : Tg} {i : Ik} {s : Exs} {c : Te} {o : List Nat} {Q} : W (evS B M S C (.ret (.dc a b t i s c o)) sl) Q = W (evE B C (.dc a b t i s c o) sl) (fun p => Q (.rt p.1 p.2.1, p.2.2)) := w_ret rfl
theorem te_lc {a : Ex} {t : Tg} {i : Ik} {s : Exs} {c : Te} {o : List Nat} {Q} : W (evT B C (.ex (.lc a t i s c o)) sl) Q = W (evE B C (.lc a t i s c o) sl) (fun p => W (tr p.1) (fun b => Q (b, p.2.2))) := w_tex rfl
theorem oc_lc {a : Ex} {t : Tg} {i : Ik} {s : Exs} {c : Te} {o : List Nat} {r : Exs} {Q} : W (evOs B C (.cons (.lc a t i s c o) r) sl) Q = W (evE B C (.lc a t i s c o) sl) (fun p => W (evOs B C r p.2.2) (fun q => Q (.d p.1 :: q.1, q.2))) := w_ocons rfl
theorem rt_lc {a : Ex} {t : Tg} {i : Ik} {s : Exs} {c : Te} {o : List Nat} {Q} : W (evS B M S C (.ret (.lc a t i s c o)) sl) Q = W (evE B C (.lc a t i s c o) sl) (fun p => Q (.rt p.1 p.2.1, p.2.2)) := w_ret rfl
end
section
variable {Q : D × Bool → Prop} {t : String}
theorem xi_n : W (ap (.isin t) [.none]) Q = W (kitB "NoneType" t) (fun b => Q (.bool b, false)) := x_isin rfl
theorem xi_b {b : Bool} : W (ap (.isin t) [.bool b]) Q = W (kitB "bool" t) (fun b => Q (.bool b, false)) := x_isin rfl
theorem xi_i {b : Int} : W (ap (.isin t) [.int b]) Q = W (kitB "int" t) (fun b => Q (.bool b, false)) := x_isin rfl
theorem xi_s {b : Str} : W (ap (.isin t) [.str b]) Q = W (kitB "str" t) (fun b => Q (.bool b, false)) := x_isin rfl
theorem xi_l {b : List D} : W (ap (.isin t) [.list b]) Q = W (kitB "list" t) (fun b => Q (.bool b, false)) := x_isin rfl
theorem xi_t {b : List D} : W (ap (.isin t) [.tuple b]) Q = W (kitB "tuple" t) (fun b => Q (.bool b, false)) := x_isin rfl
theorem xi_d0 : W (ap (.isin t) [.dict []]) Q = W (kitB "dict" t) (fun b => Q (.bool b, false)) := x_isin rfl
theorem xi_dS {k : Str} {v : D} {r : List (D × D)} : W (ap (.isin t) [.dict ((.str k, v) :: r)]) Q = W (kitB "dict" t) (fun b => Q (.bool b, false)) := x_isin rfl
theorem xi_dI {k : Int} {v : D} {r : List (D × D)} : W (ap (.isin t) [.dict ((.int k, v) :: r)]) Q = W (kitB "dict" t) (fun b => Q (.bool b, false)) := x_isin rfl
end
end EV
namespace EV
open PySem PySem.Spec L2
open PyProof.Rows hiding St
local macro_rules
  | `(tactic| trivial) => `(tactic| simp -failIfUnchanged only [↓w_k, ↓w_gl, ↓w_v, ↓w_tup, ↓w_lst, ↓w_dct0, ↓w_dct1, ↓w_bi, ↓w_mc, ↓w_sl, ↓w_ch, ↓w_tst, ↓w_and, ↓w_or, ↓w_ifeE, ↓w_call, ↓w_callK, ↓w_callF, ↓w_lc, ↓w_turn, ↓w_nil, ↓w_cons, ↓w_onil, ↓w_oconsV, ↓w_yes, ↓w_tnot, ↓w_tand, ↓w_tor, ↓w_texV, ↓te_callK, ↓oc_callK, ↓rt_callK, ↓te_callF, ↓oc_callF, ↓rt_callF, ↓te_k, ↓oc_k, ↓rt_k, ↓te_gl, ↓oc_gl, ↓rt_gl, ↓te_tup, ↓oc_tup, ↓rt_tup, ↓te_lst, ↓oc_lst, ↓rt_lst, ↓te_dct, ↓oc_dct, ↓rt_dct, ↓te_ch, ↓oc_ch, ↓rt_ch, ↓te_sl, ↓oc_sl, ↓rt_sl, ↓te_mc, ↓oc_mc, ↓rt_mc, ↓te_bi, ↓oc_bi, ↓rt_bi, ↓te_tst, ↓oc_tst, ↓rt_tst, ↓te_and, ↓oc_and, ↓rt_and, ↓te_or, ↓oc_or, ↓rt_or, ↓te_ife, ↓oc_ife, ↓rt_ife, ↓te_call, ↓oc_call, ↓rt_call, ↓te_lc, ↓oc_lc, ↓rt_lc, ↓w_anil, ↓w_aref, ↓w_aval, ↓w_asg, ↓w_asgO, ↓w_n, ↓w_tT, ↓w_tsN, ↓w_tsC, ↓w_aug, ↓w_mu, ↓w_setI, ↓w_ex, ↓w_retV, ↓w_retN, ↓w_ife, ↓w_for, ↓w_while, ↓w_starA, ↓w_brk, ↓w_cont, ↓w_pass, ↓w_snil, ↓w_scons, ↓w_body,
    ↓W_some, ↓W_if, ↓ifB_t, ↓ifB_f, ↓ifB_not, ↓onSl_v, ↓onSl_o, ↓onSl_b, ↓onNx_n, ↓onNx_b, ↓onNx_c, ↓onNx_r, ↓endF_r, ↓endF_n, ↓onFl_n, ↓onFl_c, ↓onFl_b, ↓onFl_r, ↓asB_b, ↓as1_1, ↓as2_2, notBor_u, notBor_v, notBor_o,
    ↓x_add, ↓x_addS, ↓x_addT, ↓x_addL, ↓x_iadd, ↓x_isub, ↓x_sub, ↓x_mul, ↓x_fdiv, ↓x_mod, ↓x_pow, ↓x_neg, ↓x_eq, ↓x_ne, ↓x_lt, ↓x_le, ↓x_gt, ↓x_ge, ↓x_isN, ↓x_notN, ↓x_isB, ↓x_notB, ↓x_inS, ↓x_ninS, ↓x_itemL, ↓x_itemT, ↓x_itemScr, ↓x_itemS, ↓x_lenL, ↓x_lenT, ↓x_lenScr, ↓x_lenS, ↓x_abs, ↓x_max, ↓x_min, ↓x_intI, ↓x_intB, ↓x_rev, ↓x_repr, ↓x_str, ↓xi_n, ↓xi_b, ↓xi_i, ↓xi_s, ↓xi_l, ↓xi_t, ↓xi_d0, ↓xi_dS, ↓xi_dI, ↓x_all, ↓x_any, ↓x_join, ↓x_tupleL, ↓x_tupleT, ↓x_listL, ↓x_listT, ↓x_cutL, ↓x_cutT, ↓x_cutS, ↓x_ca0, ↓x_ca1, ↓x_ca2, ↓x_ca3, ↓tr_b, ↓tr_n, ↓tr_i, ↓tr_l, ↓tr_t, ↓it_l, ↓it_t, ↓it_s, ↓it_r1, ↓it_r2, ↓it_en, ↓it_z,
    fillD, List.map_cons, List.map_nil, Option.map_some, in_n, in_b, in_i, in_s, in_t, in_l, in_d, ek_s, ek_i, ek_b, ln_n, ln_b, ln_i, ln_s, ln_t, ln_d, ln_l, opdV, deref, derefs, mutAt, listAt, agD, backS, Ag.slots, nodupB, noMut, wipeS, restS, outS, argS, mut_u, mut_v, mut_o, mut_b, iv_k, iv_gl, iv_tup, iv_lst, iv_dct, iv_ch, iv_sl, iv_mc, iv_bi, iv_tst, iv_and, iv_or, iv_ife, iv_call, iv_lc, isKey, sc_n, sc_b, sc_i, sc_s, sc_l, sc_t, sc_d0, sc_dS, sc_dI, tyName, atI_0, atI_1, atI_2, atI_3, x_set0, x_set1, x_set2,
    List.getElem?_cons_succ, List.getElem?_cons_zero, List.getElem?_nil, List.set_cons_succ, List.set_cons_zero, List.cons_append, List.nil_append, List.replicate, Nat.reduceSub, Option.bind_some, Option.toList_some, Option.toList_none, List.getD_cons_succ, List.getD_cons_zero, Bool.not_true, Bool.not_false, true_and, and_true, List.contains_nil, List.all_cons, List.all_nil, Bool.and_true, Bool.true_and, decide_true, decide_false, Bool.true_eq_false, Bool.false_eq_true])
def FeedOk (n : Nat) (d : D) : Prop := ∃ a b c : Int, d = .list [.int a, .int b, .int c] ∧ 0 ≤ a ∧ 0 ≤ b ∧ b < 2147483648 ∧ 0 ≤ c ∧ c ≤ n
def f3 : Fn := ⟨2, 5, [true, false], (.cons (.ife (.ex (.bi .gt (.cons (.bi .item (.cons (.v 0) (.cons (.k (.int 0)) .nil))) (.cons (.k (.int 0)) .nil)))) (.cons (.asgO 4 (.bi .mod (.cons (.bi .item (.cons (.v 0) (.cons (.k (.int 0)) .nil))) (.cons (.v 1) .nil)))) (.cons (.setI 0 (.k (.int 0)) (.bi .fdiv (.cons (.bi .item (.cons (.v 0) (.cons (.k (.int 0)) .nil))) (.cons (.v 1) .nil)))) (.cons (.ret (.v 4)) .nil))) .nil) (.cons (.asgO 2 (.bi .add (.cons (.bi .item (.cons (.v 0) (.cons (.k (.int 2)) .nil))) (.cons (.k (.int 1)) .nil)))) (.cons (.setI 0 (.k (.int 2)) (.v 2)) (.cons (.asgO 3 (.bi .mod (.cons (.bi .add (.cons (.bi .add (.cons (.bi .item (.cons (.v 0) (.cons (.k (.int 1)) .nil))) (.cons (.bi .mul (.cons (.bi .mul (.cons (.k (.int 40692)) (.cons (.v 2) .nil))) (.cons (.v 2) .nil))) .nil))) (.cons (.bi .mul (.cons (.k (.int 69621)) (.cons (.v 2) .nil))) .nil))) (.cons (.k (.int 2147483647)) .nil)))) (.cons (.asgO 3 (.bi .mod (.cons (.bi .add (.cons (.bi .add (.cons (.bi .mul (.cons (.v 3) (.cons (.v 3) .nil))) (.cons (.bi .mul (.cons (.k (.int 39373)) (.cons (.v 3) .nil))) .nil))) (.cons (.v 2) .nil))) (.cons (.k (.int 2147483579)) .nil)))) (.cons (.asgO 3 (.bi .mod (.cons (.bi .add (.cons (.bi .mul (.cons (.v 3) (.cons (.v 3) .nil))) (.cons (.bi .mul (.cons (.k (.int 16807)) (.cons (.v 3) .nil))) .nil))) (.cons (.k (.int 2147483549)) .nil)))) (.cons (.ret (.bi .mod (.cons (.bi .fdiv (.cons (.v 3) (.cons (.k (.int 64)) .nil))) (.cons (.v 1) .nil)))) .nil)))))))⟩
theorem FeedOk.mono {n m : Nat} {d : D} (h : FeedOk n d) (l : n ≤ m) : FeedOk m d := by
  obtain ⟨a, b, c, h1, h2, h3, h4, h5, h6⟩ := h
  exact ⟨a, b, c, h1, h2, h3, h4, h5, by omega⟩
theorem take_spec {P : Nat → Option Fn} {n m : Nat} {fd : D} {many : Int} {Q : D × Bool × List D → Prop} (hP : P 3 = some f3) (hf : FeedOk m fd) (hm : m < 2 ^ 62) (h1 : 0 < many) (h2 : many < 1073741824) (k : ∀ r fd', 0 ≤ r → r < many → FeedOk (m + 1) fd' → Q (.int r, false, [fd'])) :
    W (callN ap aM aS P (n + 1) 3 [(true, fd), (false, .int many)]) Q := by
  obtain ⟨a, b, c, rfl, ha, hb, hb2, hc, hc2⟩ := hf
  refine w_fn hP rfl (by decide) ?_
  unfold f3
  trivial
  refine ifD_of (fun h => ?_) (fun h => ?_)
  · trivial
    exact ⟨h1, ⟨h1, h2⟩, k _ _ (Int.emod_nonneg _ (Int.ne_of_gt h1)) (Int.emod_lt_of_pos _ h1) ⟨_, _, _, rfl, Int.ediv_nonneg ha (Int.le_of_lt h1), hb, hb2, hc, by omega⟩⟩
  · trivial
    refine ⟨mulOk_l (by decide), mulOk_r (by omega), mulOk_l (by decide), by decide, mulOk_mod (by decide) (by decide), mulOk_l (by decide), by decide, mulOk_mod (by decide) (by decide), mulOk_l (by decide), by decide, by decide, h1, ?_⟩
    exact k _ _ (Int.emod_nonneg _ (Int.ne_of_gt h1)) (Int.emod_lt_of_pos _ h1) ⟨_, _, _, rfl, ha, hb, hb2, by omega, by omega⟩
/-- what feeds the draws of a turn -/
def f2 : Fn := ⟨2, 4, [false, false], (.cons (.asgO 2 (.k (.int 0))) (.cons (.ife (.ex (.bi .lt (.cons (.v 1) (.cons (.bi .len (.cons (.v 0) .nil)) .nil)))) (.cons (.asgO 2 (.bi .item (.cons (.v 0) (.cons (.v 1) .nil)))) .nil) .nil) (.cons (.asgO 3 (.bi .abs (.cons (.v 2) .nil))) (.cons (.ife (.ex (.bi .lt (.cons (.v 3) (.cons (.bi .pow (.cons (.k (.int 10)) (.cons (.k (.int 18)) .nil))) .nil)))) (.cons (.asgO 3 (.k (.int 0))) .nil) .nil) (.cons (.ret (.lst (.cons (.v 3) (.cons (.bi .mod (.cons (.bi .add (.cons (.bi .add (.cons (.bi .mul (.cons (.bi .mod (.cons (.v 2) (.cons (.k (.int 2147483423)) .nil))) (.cons (.k (.int 48271)) .nil))) (.cons (.bi .mul (.cons (.k (.int 6151)) (.cons (.v 1) .nil))) .nil))) (.cons (.k (.int 17)) .nil))) (.cons (.k (.int 2147483423)) .nil))) (.cons (.k (.int 0)) .nil))))) .nil)))))⟩
theorem feed_spec {P : Nat → Option Fn} {n : Nat} {ns : List Int} {i : Int} {Q : D × Bool × List D → Prop} (hP : P 2 = some f2) (hi : 0 ≤ i) (k : ∀ fd, FeedOk 0 fd → Q (fd, true, [])) :
    W (callN ap aM aS P (n + 1) 2 [(false, scrD ns), (false, .int i)]) Q := by
  refine w_fn hP rfl (by decide) ?_
  unfold f2 scrD
  have last : ∀ (c g : Int), 0 ≤ g → Q (.list [.int g, .int ((c % 2147483423 * 48271 + 6151 * i + 17) % 2147483423), .int 0], true, []) := fun c g hg => k _ ⟨_, _, _, rfl, hg, Int.emod_nonneg _ (by decide), Int.lt_trans (Int.emod_lt_of_pos _ (by decide)) (by decide), by decide, by decide⟩
  have tail : ∀ (c : Int), 0 ≤ (if c < 0 then -c else c) := fun c => by split <;> omega
  trivial
  refine ifD_of (fun h => ?_) (fun h => ?_)
  · trivial
    refine W_atI hi (by omega) fun a ha => ?_
    obtain ⟨c, _, rfl⟩ := List.mem_map.mp ha
    trivial
    refine ⟨by decide, ?_⟩
    refine ifD_of (fun h => ?_) (fun h => ?_)
    · trivial
      exact ⟨by decide, mulOk_r (by decide), mulOk_l (by decide), by decide, last c 0 (by decide)⟩
    · trivial
      exact ⟨by decide, mulOk_r (by decide), mulOk_l (by decide), by decide, last c _ (tail c)⟩
  · trivial
    refine ⟨by decide, ?_⟩
    refine ifD_of (fun h => ?_) (fun h => ?_)
    · trivial
      exact ⟨by decide, mulOk_r (by decide), mulOk_l (by decide), by decide, last 0 0 (by decide)⟩
    · trivial
      exact ⟨by decide, mulOk_r (by decide), mulOk_l (by decide), by decide, last 0 _ (tail 0)⟩
theorem W.of {α : Type} {a : α} {Q : α → Prop} (q : Q a) : W (some a) Q := ⟨a, rfl, q⟩
/-! ### more rules -/
theorem w_lcF2 {turn : D → Ss → Option (List D × Ss)} (I : Ss → Prop) (g : D → List D) {Q : List D × Ss → Prop} : ∀ (items : List D) (sl : Ss), I sl → (∀ d ∈ items, ∀ sl, I sl → W (turn d sl) (fun p => p.1 = g d ∧ I p.2)) → (∀ sl, I sl → Q (items.flatMap g, sl)) → W (lcGo2 turn items sl) Q
  | [], sl, h, _, k => by
    rw [lcGo2, W_some]
    exact k sl h
  | d :: ds, sl, h, ht, k => by
    obtain ⟨p, e, q1, q2⟩ := ht d List.mem_cons_self sl h
    obtain ⟨o, sl1⟩ := p
    simp only at q1 q2
    subst q1
    rw [lcGo2, e]
    have := w_lcF2 I g (turn := turn) (Q := fun r => Q (g d ++ r.1, r.2)) ds sl1 q2 (fun d hd => ht d (List.mem_cons_of_mem _ hd)) fun sl hI => by
      have := k sl hI
      rw [List.flatMap_cons] at this
      exact this
    obtain ⟨r, e2, q⟩ := this
    simp only [e2]
    exact ⟨_, rfl, q⟩
def putO (acc : List (D × D)) (o : Option (D × D)) : List (D × D) := match o with
  | some (k, x) => putD acc k x
  | none => acc
theorem w_dcF {turn : D → Ss → Option (Option (D × D) × Ss)} (I : Ss → Prop) (g : D → Option (D × D)) {Q : List (D × D) × Ss → Prop} : ∀ (items : List D) (acc : List (D × D)) (sl : Ss), I sl → (∀ d ∈ items, ∀ k x, g d = some (k, x) → isKey k = true) → (∀ d ∈ items, ∀ sl, I sl → W (turn d sl) (fun p => p.1 = g d ∧ I p.2)) →
    (∀ sl, I sl → Q (items.foldl (fun acc d => putO acc (g d)) acc, sl)) → W (dcGo turn items acc sl) Q
  | [], acc, sl, h, _, _, k => by
    rw [dcGo, W_some]
    exact k sl h
  | d :: ds, acc, sl, h, hk, ht, k => by
    obtain ⟨p, e, q1, q2⟩ := ht d List.mem_cons_self sl h
    obtain ⟨o, sl1⟩ := p
    simp only at q1 q2
    subst q1
    have ih := fun acc' => w_dcF I g (turn := turn) (Q := Q) ds acc' sl1 q2 (fun d hd => hk d (List.mem_cons_of_mem _ hd)) fun d hd => ht d (List.mem_cons_of_mem _ hd)
    rw [dcGo, e]
    cases hg : g d with
    | none =>
      simp only
      refine ih acc fun sl hI => ?_
      have := k sl hI
      rw [List.foldl_cons, hg] at this
      exact this
    | some kx =>
      obtain ⟨kk, x⟩ := kx
      simp only [hk d List.mem_cons_self kk x hg, if_true]
      refine ih _ fun sl hI => ?_
      have := k sl hI
      rw [List.foldl_cons, hg] at this
      exact this
theorem w_lcFM {turn : D → Ss → Option (Option D × Ss)} (I : Ss → Prop) (g : D → Option D) {Q : List D × Ss → Prop} : ∀ (items : List D) (sl : Ss), I sl → (∀ d ∈ items, ∀ sl, I sl → W (turn d sl) (fun p => p.1 = g d ∧ I p.2)) → (∀ sl, I sl → Q (items.filterMap g, sl)) → W (lcGo turn items sl) Q
  | [], sl, h, _, k => by
    rw [lcGo, W_some]
    exact k sl h
  | d :: ds, sl, h, ht, k => by
    obtain ⟨⟨o, sl1⟩, e, q1, q2⟩ := ht d List.mem_cons_self sl h
    simp only at q1 q2
    rw [lcGo, e]
    have := w_lcFM I g (turn := turn) (Q := fun r => Q (o.toList ++ r.1, r.2)) ds sl1 q2 (fun d' hd sl hI => ht d' (List.mem_cons_of_mem _ hd) sl hI) (fun sl hI => by
      have := k sl hI
      rw [List.filterMap_cons, ← q1] at this
      cases o <;> exact this)
    obtain ⟨r, e2, q⟩ := this
    obtain ⟨rs, sl2⟩ := r
    simp only [e2, W_some]
    cases o <;> exact q
theorem kit_ii : kitB "int" "int" = some true := by decide +kernel
theorem kit_bi : kitB "bool" "int" = some true := by decide +kernel
theorem kit_ni : kitB "NoneType" "int" = some false := by decide +kernel
theorem kit_si : kitB "str" "int" = some false := by decide +kernel
theorem kit_li : kitB "list" "int" = some false := by decide +kernel
theorem kit_ti : kitB "tuple" "int" = some false := by decide +kernel
theorem kit_di : kitB "dict" "int" = some false := by decide +kernel
theorem kit_ib : kitB "int" "bool" = some false := by decide +kernel
theorem kit_bb : kitB "bool" "bool" = some true := by decide +kernel
theorem kit_nb : kitB "NoneType" "bool" = some false := by decide +kernel
theorem kit_sb : kitB "str" "bool" = some false := by decide +kernel
theorem kit_lb : kitB "list" "bool" = some false := by decide +kernel
theorem kit_tb : kitB "tuple" "bool" = some false := by decide +kernel
theorem kit_db : kitB "dict" "bool" = some false := by decide +kernel
theorem kit_is : kitB "int" "str" = some false := by decide +kernel
theorem kit_bs : kitB "bool" "str" = some false := by decide +kernel
theorem kit_ns : kitB "NoneType" "str" = some false := by decide +kernel
theorem kit_ss : kitB "str" "str" = some true := by decide +kernel
theorem kit_ls : kitB "list" "str" = some false := by decide +kernel
theorem kit_ts : kitB "tuple" "str" = some false := by decide +kernel
theorem kit_ds : kitB "dict" "str" = some false := by decide +kernel
theorem kit_it : kitB "int" "tuple" = some false := by decide +kernel
theorem kit_bt : kitB "bool" "tuple" = some false := by decide +kernel
theorem kit_nt : kitB "NoneType" "tuple" = some false := by decide +kernel
theorem kit_st : kitB "str" "tuple" = some false := by decide +kernel
theorem kit_lt : kitB "list" "tuple" = some false := by decide +kernel
theorem kit_tt : kitB "tuple" "tuple" = some true := by decide +kernel
theorem kit_dt : kitB "dict" "tuple" = some false := by decide +kernel
theorem kit_il : kitB "int" "list" = some false := by decide +kernel
theorem kit_bl : kitB "bool" "list" = some false := by decide +kernel
theorem kit_nl : kitB "NoneType" "list" = some false := by decide +kernel
theorem kit_sl : kitB "str" "list" = some false := by decide +kernel
theorem kit_ll : kitB "list" "list" = some true := by decide +kernel
theorem kit_tl : kitB "tuple" "list" = some false := by decide +kernel
theorem kit_dl : kitB "dict" "list" = some false := by decide +kernel
theorem sh_n : SeqAt.shaped .none = true := rfl
theorem sh_b {b : Bool} : SeqAt.shaped (.bool b) = true := rfl
theorem sh_i {i : Int} : SeqAt.shaped (.int i) = true := rfl
theorem eqv_ii {i j : Int} : PyData.eqv (.int i) (.int j) = decide (i = j) := by
  rw [PyData.eqv]
  rfl
theorem eqv_bb {i j : Bool} : PyData.eqv (.bool i) (.bool j) = (i == j) := by rw [PyData.eqv]
section
variable {Q : D × Bool → Prop}
theorem nb_ff : W (ap (.notB false) [.bool false]) Q = Q (.bool false, false) := x_notB
theorem nb_ft : W (ap (.notB false) [.bool true]) Q = Q (.bool true, false) := x_notB
theorem nb_tf : W (ap (.notB true) [.bool false]) Q = Q (.bool true, false) := x_notB
theorem nb_tt : W (ap (.notB true) [.bool true]) Q = Q (.bool false, false) := x_notB
end
/-! ### texts of bounded length -/
def WOk (k : Nat) (s : Str) : Prop := s.length ≤ k ∧ ∀ c ∈ s.cps.toList, c < 0x110000
theorem len_tl (s : Str) : s.length = s.cps.toList.length := rfl
theorem cps_app (s t : Str) : (s ++ t).cps.toList = s.cps.toList ++ t.cps.toList := by
  have : (s ++ t).cps = s.cps ++ t.cps := rfl
  rw [this, Array.toList_append]
theorem WOk.app {k l : Nat} {s t : Str} (h1 : WOk k s) (h2 : WOk l t) : WOk (k + l) (s ++ t) := by
  refine ⟨?_, fun c hc => ?_⟩
  · rw [len_tl, cps_app, List.length_append]
    exact Nat.add_le_add h1.1 h2.1
  · rw [cps_app] at hc
    rcases List.mem_append.mp hc with h | h
    · exact h1.2 c h
    · exact h2.2 c h
theorem WOk.len2 {k l : Nat} {s t : Str} (h1 : WOk k s) (h2 : WOk l t) (h : k + l ≤ sizeLine) : s.length + t.length ≤ sizeLine := Nat.le_trans (Nat.add_le_add h1.1 h2.1) h
theorem WOk.mono {k l : Nat} {s : Str} (h : WOk k s) (hl : k ≤ l) : WOk l s := ⟨Nat.le_trans h.1 hl, h.2⟩
theorem WOk.cut {k : Nat} {s : Str} (h : WOk k s) (lo hi : Option Int) : WOk k (cutS s lo hi) := by
  refine ⟨Nat.le_trans (cutS_length s lo hi) h.1, fun c hc => ?_⟩
  unfold cutS at hc
  simp only at hc
  exact h.2 c (List.mem_of_mem_drop (List.mem_of_mem_take hc))
theorem WOk.chr {c : Nat} (h : c < 0x110000) : WOk 1 ⟨#[c]⟩ := ⟨Nat.le_refl _, fun d hd => by
  have : d = c := by simpa using hd
  rw [this]; exact h⟩
theorem WOk.ok {k : Nat} {s : Str} (h : WOk k s) : PyData.strOk s = true := by
  unfold PyData.strOk
  rw [Array.all_eq_true]
  intro i hi
  exact decide_eq_true (h.2 _ (by simp))
theorem WOk.nil : WOk 0 (Str.ofString "") := by
  have e : (Str.ofString "").cps.toList = [] := by decide +kernel
  exact ⟨Nat.le_refl _, fun c hc => by rw [e] at hc; cases hc⟩
theorem WOk.join : ∀ {ys : List Str}, (∀ y ∈ ys, WOk 1 y) → WOk ys.length (Txt.join (Str.ofString "") ys) := by
  intro ys h
  have je : ∀ zs, Txt.join (Str.ofString "") zs = Str.join (Str.ofString "") zs := fun zs => PySem.StrLaws.glued_eq_join _ zs
  rw [je]
  induction ys with
  | nil => exact ⟨Nat.le_refl _, fun c hc => by cases hc⟩
  | cons y r ih =>
    cases r with
    | nil => exact h y List.mem_cons_self
    | cons z r =>
      have q := ((h y List.mem_cons_self).app WOk.nil).app (ih fun y hy => h y (List.mem_cons_of_mem _ hy))
      refine q.mono ?_
      simp only [List.length_cons]
      omega
theorem strs_app : ∀ {xs : List D} {ys : List Str} {z : Str}, strsOf xs = some ys → strsOf (xs ++ [.str z]) = some (ys ++ [z])
  | [], ys, z, h => by
    cases h; rfl
  | x :: xs, ys, z, h => by
    cases x with
    | str b =>
      rw [strsOf] at h
      cases h2 : strsOf xs with
      | none => rw [h2] at h; cases h
      | some zs =>
        rw [h2] at h
        cases h
        rw [List.cons_append, strsOf, strs_app h2]
        rfl
    | _ => cases h
theorem sum_ones : ∀ {ys : List Str}, (∀ y ∈ ys, WOk 1 y) → (ys.map (·.length)).sum ≤ ys.length
  | [], _ => Nat.le_refl _
  | y :: r, h => by
    rw [List.map_cons, List.sum_cons, List.length_cons]
    have := sum_ones fun y hy => h y (List.mem_cons_of_mem _ hy)
    have := (h y List.mem_cons_self).1
    omega
theorem sh_s {k : Nat} {s : Str} (h : WOk k s) : SeqAt.shaped (.str s) = true := by
  unfold SeqAt.shaped
  rw [PyData.canLay0, h.ok, PyData.depth]
  rfl
end EV
namespace EV
open PySem PySem.Spec L2
open PyProof.Rows hiding St
/-- is_name -/
def f0 : Fn := ⟨1, 2, [false], (.cons (.ret (.and (.bi (.isin "str") (.cons (.v 0) .nil)) (.and (.ch .le .le (.cons (.k (.int 1)) (.cons (.bi .len (.cons (.v 0) .nil)) .nil)) (.cons (.gl (Str.ofString "LONGEST") (.int 8)) .nil)) (.bi .allv (.cons (.lc (.bi .inn (.cons (.v 1) (.cons (.gl (Str.ofString "LETTERS") (.str (Str.ofString "abcdefghijklmnopqrstuvwxyz"))) .nil))) (.n 1) .any (.cons (.v 0) .nil) .yes [1]) .nil))))) .nil)⟩
/-- is_whole -/
def f1 : Fn := ⟨1, 1, [false], (.cons (.ret (.and (.bi (.isin "int") (.cons (.v 0) .nil)) (.tst (.not (.ex (.bi (.isin "bool") (.cons (.v 0) .nil))))))) .nil)⟩
/-- is_from -/
def f28 : Fn := ⟨2, 2, [false, false], (.cons (.ret (.and (.call 1 [false] (.cons (.v 0) .nil)) (.bi .ge (.cons (.v 0) (.cons (.v 1) .nil))))) .nil)⟩
/-- is_tuple -/
def f7 : Fn := ⟨3, 3, [false, false, false], (.cons (.ret (.and (.bi (.isin "tuple") (.cons (.v 0) .nil)) (.and (.bi .ge (.cons (.bi .len (.cons (.v 0) .nil)) (.cons (.v 1) .nil))) (.or (.bi .isN (.cons (.v 2) .nil)) (.bi .le (.cons (.bi .len (.cons (.v 0) .nil)) (.cons (.v 2) .nil))))))) .nil)⟩
/-- is_label -/
def f29 : Fn := ⟨1, 3, [false], (.cons (.ife (.ex (.bi .isN (.cons (.v 0) .nil))) (.cons (.ret (.k (.bool true))) .nil) .nil) (.cons (.ife (.not (.ex (.callK 7 (.cons (.v 0) .nil) (.cons (.k (.int 2)) (.cons (.k (.int 2)) .nil)) [none, none]))) (.cons (.ret (.k (.bool false))) .nil) .nil) (.cons (.asg (.t (.cons (.n 1) (.cons (.n 2) .nil)) true) (.v 0)) (.cons (.ret (.and (.callK 28 (.cons (.v 1) .nil) (.cons (.k (.int 1)) .nil) [none]) (.or (.bi .isN (.cons (.v 2) .nil)) (.callK 28 (.cons (.v 2) .nil) (.cons (.k (.int 0)) .nil) [none])))) .nil))))⟩
/-- is_claim -/
def f61 : Fn := ⟨1, 1, [false], (.cons (.ret (.and (.bi .notN (.cons (.v 0) .nil)) (.and (.call 29 [false] (.cons (.v 0) .nil)) (.bi .notN (.cons (.bi .item (.cons (.v 0) (.cons (.k (.int 1)) .nil))) .nil))))) .nil)⟩
/-- is_nearer -/
def f30 : Fn := ⟨2, 6, [false, false], (.cons (.ife (.or (.ex (.bi .isN (.cons (.v 0) .nil))) (.ex (.bi .isN (.cons (.v 1) .nil)))) (.cons (.ret (.and (.bi .notN (.cons (.v 0) .nil)) (.bi .isN (.cons (.v 1) .nil)))) .nil) .nil) (.cons (.asg (.t (.cons (.t (.cons (.n 2) (.cons (.n 3) .nil)) true) (.cons (.t (.cons (.n 4) (.cons (.n 5) .nil)) true) .nil)) true) (.tup (.cons (.v 0) (.cons (.v 1) .nil)))) (.cons (.ife (.or (.ex (.bi .ne (.cons (.v 2) (.cons (.v 4) .nil)))) (.ex (.bi .isN (.cons (.v 3) .nil)))) (.cons (.ret (.bi .gt (.cons (.v 2) (.cons (.v 4) .nil)))) .nil) .nil) (.cons (.ret (.or (.bi .isN (.cons (.v 5) .nil)) (.bi .lt (.cons (.v 3) (.cons (.v 5) .nil))))) .nil))))⟩
/-- is_part -/
def f807 : Fn := ⟨1, 1, [false], (.cons (.ife (.or (.not (.ex (.bi (.isin "tuple") (.cons (.v 0) .nil)))) (.ex (.bi .ne (.cons (.bi .len (.cons (.v 0) .nil)) (.cons (.k (.int 3)) .nil))))) (.cons (.ret (.k (.bool false))) .nil) .nil) (.cons (.ret (.and (.call 0 [false] (.cons (.bi .item (.cons (.v 0) (.cons (.k (.int 0)) .nil))) .nil)) (.and (.callK 28 (.cons (.bi .item (.cons (.v 0) (.cons (.k (.int 1)) .nil))) .nil) (.cons (.k (.int 0)) .nil) [none]) (.call 29 [false] (.cons (.bi .item (.cons (.v 0) (.cons (.k (.int 2)) .nil))) .nil))))) .nil))⟩
/-- comes_nearer -/
def f808 : Fn := ⟨1, 8, [false], (.cons (.ife (.or (.not (.ex (.bi (.isin "list") (.cons (.v 0) .nil)))) (.or (.ex (.bi .eq (.cons (.v 0) (.cons (.lst .nil) .nil)))) (.not (.ex (.bi .allv (.cons (.lc (.call 807 [false] (.cons (.v 3) .nil)) (.n 3) .any (.cons (.v 0) .nil) .yes [3]) .nil)))))) (.cons (.ret (.k (.bool false))) .nil) .nil) (.cons (.starA 2 0 (.cons (.n 2) (.cons (.n 1) .nil)) (.v 0)) (.cons (.ife (.or (.ex (.bi .notN (.cons (.bi .item (.cons (.v 1) (.cons (.k (.int 2)) .nil))) .nil))) (.not (.ex (.bi .allv (.cons (.lc (.call 61 [false] (.cons (.v 7) .nil)) (.t (.cons (.n 5) (.cons (.n 6) (.cons (.n 7) .nil))) true) .any (.cons (.v 2) .nil) .yes [5, 6, 7]) .nil))))) (.cons (.ret (.k (.bool false))) .nil) .nil) (.cons (.ife (.not (.ex (.bi .allv (.cons (.lc (.bi .le (.cons (.bi .item (.cons (.v 3) (.cons (.k (.int 1)) .nil))) (.cons (.bi .item (.cons (.v 4) (.cons (.k (.int 1)) .nil))) .nil))) (.t (.cons (.n 3) (.cons (.n 4) .nil)) true) .zip (.cons (.v 0) (.cons (.sl true false (.cons (.v 0) .nil) (.cons (.k (.int 1)) .nil)) .nil)) .yes [3, 4]) .nil)))) (.cons (.ret (.k (.bool false))) .nil) .nil) (.cons (.ret (.bi .allv (.cons (.lc (.call 30 [false, false] (.cons (.bi .item (.cons (.v 4) (.cons (.k (.int 2)) .nil))) (.cons (.bi .item (.cons (.v 3) (.cons (.k (.int 2)) .nil))) .nil))) (.t (.cons (.n 3) (.cons (.n 4) .nil)) true) .zip (.cons (.v 2) (.cons (.sl true false (.cons (.v 2) .nil) (.cons (.k (.int 1)) .nil)) .nil)) .yes [3, 4]) .nil))) .nil)))))⟩
/-- _law_names -/
def f12 : Fn := ⟨2, 8, [true, false], (.cons (.asgO 2 (.call 3 [true, false] (.cons (.v 0) (.cons (.k (.int 26)) .nil)))) (.cons (.asgO 3 (.lst (.cons (.k (.str (Str.ofString "ask"))) (.cons (.k (.str (Str.ofString "answer"))) (.cons (.k (.str (Str.ofString "up"))) (.cons (.k (.str (Str.ofString "down"))) (.cons (.k (.str (Str.ofString "way"))) (.cons (.k (.str (Str.ofString "pair"))) (.cons (.k (.str (Str.ofString "house"))) (.cons (.k (.str (Str.ofString "row"))) (.cons (.k (.str (Str.ofString "tie"))) (.cons (.k (.str (Str.ofString "broken"))) (.cons (.k (.str (Str.ofString "note"))) (.cons (.k (.str (Str.ofString "rule"))) .nil)))))))))))))) (.cons (.ife (.ex (.bi .eq (.cons (.call 3 [true, false] (.cons (.v 0) (.cons (.k (.int 4)) .nil))) (.cons (.k (.int 0)) .nil)))) (.cons (.ret (.lc (.bi .item (.cons (.v 3) (.cons (.bi .mod (.cons (.bi .add (.cons (.v 2) (.cons (.bi .mul (.cons (.k (.int 5)) (.cons (.v 7) .nil))) .nil))) (.cons (.k (.int 12)) .nil))) .nil))) (.n 7) .range1 (.cons (.v 1) .nil) .yes [7])) .nil) .nil) (.cons (.asgO 4 (.bi .item (.cons (.lst (.cons (.k (.str (Str.ofString ""))) (.cons (.k (.str (Str.ofString "a"))) (.cons (.k (.str (Str.ofString "zz"))) (.cons (.k (.str (Str.ofString "tables"))) .nil))))) (.cons (.call 3 [true, false] (.cons (.v 0) (.cons (.k (.int 4)) .nil))) .nil)))) (.cons (.asgO 5 (.call 3 [true, false] (.cons (.v 0) (.cons (.bi .add (.cons (.bi .len (.cons (.v 4) .nil)) (.cons (.k (.int 1)) .nil))) .nil)))) (.cons (.asgO 6 (.k (.str (Str.ofString "abcdefghijklmnopqrstuvwxyz")))) (.cons (.ret (.lc (.bi .add (.cons (.bi .add (.cons (.sl false true (.cons (.v 4) .nil) (.cons (.v 5) .nil)) (.cons (.bi .item (.cons (.v 6) (.cons (.bi .mod (.cons (.bi .add (.cons (.v 2) (.cons (.bi .mul (.cons (.k (.int 3)) (.cons (.v 7) .nil))) .nil))) (.cons (.k (.int 26)) .nil))) .nil))) .nil))) (.cons (.sl true false (.cons (.v 4) .nil) (.cons (.v 5) .nil)) .nil))) (.n 7) .range1 (.cons (.v 1) .nil) .yes [7])) .nil)))))))⟩
/-- _law_near -/
def f35 : Fn := ⟨2, 2, [false, false], (.cons (.ife (.or (.ex (.bi .isN (.cons (.v 0) .nil))) (.ex (.bi .isN (.cons (.v 1) .nil)))) (.cons (.ret (.and (.bi .notN (.cons (.v 0) .nil)) (.bi .isN (.cons (.v 1) .nil)))) .nil) .nil) (.cons (.ife (.or (.ex (.bi .ne (.cons (.bi .item (.cons (.v 0) (.cons (.k (.int 0)) .nil))) (.cons (.bi .item (.cons (.v 1) (.cons (.k (.int 0)) .nil))) .nil)))) (.ex (.bi .isN (.cons (.bi .item (.cons (.v 0) (.cons (.k (.int 1)) .nil))) .nil)))) (.cons (.ret (.bi .gt (.cons (.bi .item (.cons (.v 0) (.cons (.k (.int 0)) .nil))) (.cons (.bi .item (.cons (.v 1) (.cons (.k (.int 0)) .nil))) .nil)))) .nil) .nil) (.cons (.ret (.or (.bi .isN (.cons (.bi .item (.cons (.v 1) (.cons (.k (.int 1)) .nil))) .nil)) (.bi .lt (.cons (.bi .item (.cons (.v 0) (.cons (.k (.int 1)) .nil))) (.cons (.bi .item (.cons (.v 1) (.cons (.k (.int 1)) .nil))) .nil))))) .nil)))⟩
/-- _law_whole -/
def f814 : Fn := ⟨2, 2, [false, false], (.cons (.ret (.and (.bi (.isin "int") (.cons (.v 0) .nil)) (.and (.tst (.not (.ex (.bi (.isin "bool") (.cons (.v 0) .nil))))) (.bi .ge (.cons (.v 0) (.cons (.v 1) .nil)))))) .nil)⟩
/-- _law_is_name -/
def f5 : Fn := ⟨1, 2, [false], (.cons (.ife (.or (.not (.ex (.bi (.isin "str") (.cons (.v 0) .nil)))) (.not (.ex (.ch .le .le (.cons (.k (.int 1)) (.cons (.bi .len (.cons (.v 0) .nil)) .nil)) (.cons (.k (.int 8)) .nil))))) (.cons (.ret (.k (.bool false))) .nil) .nil) (.cons (.ret (.bi .eq (.cons (.lc (.v 1) (.n 1) .any (.cons (.v 0) .nil) (.ex (.bi .nin (.cons (.v 1) (.cons (.k (.str (Str.ofString "abcdefghijklmnopqrstuvwxyz"))) .nil)))) [1]) (.cons (.lst .nil) .nil)))) .nil))⟩
/-- _law_due -/
def f815 : Fn := ⟨1, 5, [false], (.cons (.ife (.or (.not (.ex (.bi (.isin "list") (.cons (.v 0) .nil)))) (.ex (.bi .eq (.cons (.v 0) (.cons (.lst .nil) .nil))))) (.cons (.ret (.k (.bool false))) .nil) .nil) (.cons (.for_ (.t (.cons (.n 1) (.cons (.n 2) .nil)) true) .enum (.cons (.v 0) .nil) (.cons (.ife (.or (.not (.ex (.bi (.isin "tuple") (.cons (.v 2) .nil)))) (.or (.ex (.bi .ne (.cons (.bi .len (.cons (.v 2) .nil)) (.cons (.k (.int 3)) .nil)))) (.or (.not (.ex (.call 5 [false] (.cons (.bi .item (.cons (.v 2) (.cons (.k (.int 0)) .nil))) .nil)))) (.not (.ex (.call 814 [false, false] (.cons (.bi .item (.cons (.v 2) (.cons (.k (.int 1)) .nil))) (.cons (.k (.int 0)) .nil)))))))) (.cons (.ret (.k (.bool false))) .nil) .nil) (.cons (.asgO 3 (.bi .item (.cons (.v 2) (.cons (.k (.int 2)) .nil)))) (.cons (.ife (.ex (.bi .ne (.cons (.bi .isN (.cons (.v 3) .nil)) (.cons (.bi .eq (.cons (.v 1) (.cons (.bi .sub (.cons (.bi .len (.cons (.v 0) .nil)) (.cons (.k (.int 1)) .nil))) .nil))) .nil)))) (.cons (.ret (.k (.bool false))) .nil) .nil) (.cons (.ife (.and (.ex (.bi .notN (.cons (.v 3) .nil))) (.or (.not (.ex (.bi (.isin "tuple") (.cons (.v 3) .nil)))) (.ex (.bi .ne (.cons (.bi .len (.cons (.v 3) .nil)) (.cons (.k (.int 2)) .nil)))))) (.cons (.ret (.k (.bool false))) .nil) .nil) (.cons (.ife (.and (.ex (.bi .notN (.cons (.v 3) .nil))) (.or (.not (.ex (.call 814 [false, false] (.cons (.bi .item (.cons (.v 3) (.cons (.k (.int 0)) .nil))) (.cons (.k (.int 1)) .nil))))) (.not (.ex (.call 814 [false, false] (.cons (.bi .item (.cons (.v 3) (.cons (.k (.int 1)) .nil))) (.cons (.k (.int 0)) .nil))))))) (.cons (.ret (.k (.bool false))) .nil) .nil) .nil)))))) (.cons (.for_ (.t (.cons (.n 2) (.cons (.n 4) .nil)) true) .zip (.cons (.v 0) (.cons (.sl true false (.cons (.v 0) .nil) (.cons (.k (.int 1)) .nil)) .nil)) (.cons (.ife (.or (.ex (.bi .gt (.cons (.bi .item (.cons (.v 2) (.cons (.k (.int 1)) .nil))) (.cons (.bi .item (.cons (.v 4) (.cons (.k (.int 1)) .nil))) .nil)))) (.and (.ex (.bi .notN (.cons (.bi .item (.cons (.v 4) (.cons (.k (.int 2)) .nil))) .nil))) (.not (.ex (.call 35 [false, false] (.cons (.bi .item (.cons (.v 4) (.cons (.k (.int 2)) .nil))) (.cons (.bi .item (.cons (.v 2) (.cons (.k (.int 2)) .nil))) .nil))))))) (.cons (.ret (.k (.bool false))) .nil) .nil) .nil)) (.cons (.ret (.k (.bool true))) .nil))))⟩
/-- _law_trail -/
def f816 : Fn := ⟨1, 8, [true], (.cons (.asgO 1 (.call 12 [true, false] (.cons (.v 0) (.cons (.k (.int 5)) .nil)))) (.cons (.asgO 2 (.bi .add (.cons (.k (.int 1)) (.cons (.call 3 [true, false] (.cons (.v 0) (.cons (.k (.int 4)) .nil))) .nil)))) (.cons (.asgO 3 (.call 3 [true, false] (.cons (.v 0) (.cons (.k (.int 12)) .nil)))) (.cons (.asgO 4 (.call 3 [true, false] (.cons (.v 0) (.cons (.k (.int 3)) .nil)))) (.cons (.asgO 5 (.lst .nil)) (.cons (.for_ (.n 6) .range1 (.cons (.call 3 [true, false] (.cons (.v 0) (.cons (.k (.int 8)) .nil))) .nil) (.cons (.mu .append 5 (.cons (.tup (.cons (.bi .item (.cons (.v 1) (.cons (.call 3 [true, false] (.cons (.v 0) (.cons (.k (.int 5)) .nil))) .nil))) (.cons (.v 4) (.cons (.tup (.cons (.v 2) (.cons (.v 3) .nil))) .nil)))) .nil)) (.cons (.asgO 4 (.bi .add (.cons (.v 4) (.cons (.bi .item (.cons (.lst (.cons (.k (.int 0)) (.cons (.k (.int 0)) (.cons (.k (.int 1)) (.cons (.call 3 [true, false] (.cons (.v 0) (.cons (.k (.int 50)) .nil))) .nil))))) (.cons (.call 3 [true, false] (.cons (.v 0) (.cons (.k (.int 4)) .nil))) .nil))) .nil)))) (.cons (.asgO 7 (.call 3 [true, false] (.cons (.v 0) (.cons (.k (.int 9)) .nil)))) (.cons (.asgO 2 (.bi .add (.cons (.v 2) (.cons (.bi .item (.cons (.lst (.cons (.k (.int 0)) (.cons (.k (.int 0)) (.cons (.k (.int 0)) (.cons (.k (.int 0)) (.cons (.k (.int 1)) (.cons (.k (.int 1)) (.cons (.bi .pow (.cons (.k (.int 10)) (.cons (.k (.int 20)) .nil))) (.cons (.k (.int 0)) (.cons (.k (.int 0)) .nil)))))))))) (.cons (.v 7) .nil))) .nil)))) (.cons (.asgO 3 (.bi .add (.cons (.bi .mul (.cons (.lst (.cons (.bi .max2 (.cons (.k (.int 0)) (.cons (.bi .sub (.cons (.v 3) (.cons (.k (.int 1)) .nil))) .nil))) .nil)) (.cons (.k (.int 4)) .nil))) (.cons (.lst (.cons (.v 3) (.cons (.bi .add (.cons (.v 3) (.cons (.k (.int 5)) .nil))) (.cons (.k (.int 0)) (.cons (.v 3) (.cons (.bi .add (.cons (.v 3) (.cons (.k (.int 1)) .nil))) .nil)))))) .nil)))) (.cons (.asgO 3 (.bi .item (.cons (.v 3) (.cons (.v 7) .nil)))) .nil))))))) (.cons (.ret (.bi .add (.cons (.v 5) (.cons (.lst (.cons (.tup (.cons (.bi .item (.cons (.v 1) (.cons (.call 3 [true, false] (.cons (.v 0) (.cons (.k (.int 5)) .nil))) .nil))) (.cons (.v 4) (.cons (.k .none) .nil)))) .nil)) .nil)))) .nil)))))))⟩
/-- _law_bent -/
def f817 : Fn := ⟨2, 8, [true, false], (.cons (.asgO 2 (.call 3 [true, false] (.cons (.v 0) (.cons (.bi .len (.cons (.v 1) .nil)) .nil)))) (.cons (.asgO 3 (.bi .item (.cons (.v 1) (.cons (.v 2) .nil)))) (.cons (.asgO 4 (.call 3 [true, false] (.cons (.v 0) (.cons (.k (.int 9)) .nil)))) (.cons (.asgO 5 (.lst (.cons (.k .none) (.cons (.k (.bool true)) (.cons (.k (.int 0)) (.cons (.bi .neg (.cons (.k (.int 1)) .nil)) (.cons (.k (.str (Str.ofString ""))) (.cons (.k (.str (Str.ofString "A"))) (.cons (.k (.str (Str.ofString "abcdefghi"))) (.cons (.lst .nil) (.cons (.tup .nil) (.cons (.dct .nil) (.cons (.tup (.cons (.k (.int 1)) .nil)) (.cons (.tup (.cons (.k (.int 1)) (.cons (.k .none) .nil))) (.cons (.tup (.cons (.k (.int 0)) (.cons (.k (.int 1)) .nil))) (.cons (.tup (.cons (.k (.int 1)) (.cons (.bi .neg (.cons (.k (.int 1)) .nil)) .nil))) (.cons (.tup (.cons (.k (.bool true)) (.cons (.k (.int 1)) .nil))) (.cons (.tup (.cons (.k (.int 1)) (.cons (.k (.bool true)) .nil))) .nil)))))))))))))))))) (.cons (.asgO 5 (.bi .add (.cons (.v 5) (.cons (.lst (.cons (.lst (.cons (.k (.int 1)) (.cons (.k (.int 1)) .nil))) (.cons (.tup (.cons (.k (.int 1)) (.cons (.k (.int 1)) .nil))) (.cons (.tup (.cons (.k (.int 1)) (.cons (.k (.int 1)) (.cons (.k (.int 1)) .nil)))) (.cons (.bi .pow (.cons (.k (.int 10)) (.cons (.k (.int 59)) .nil))) (.cons (.tup (.cons (.k .none) (.cons (.k .none) .nil))) (.cons (.k (.str (Str.ofString "zz"))) .nil))))))) .nil)))) (.cons (.ife (.ex (.bi .eq (.cons (.v 4) (.cons (.k (.int 0)) .nil)))) (.cons (.ret (.bi .item (.cons (.lst (.cons (.k .none) (.cons (.lst .nil) (.cons (.tup .nil) (.cons (.bi .tuple (.cons (.v 1) .nil)) (.cons (.dct .nil) (.cons (.bi .rev (.cons (.v 1) .nil)) (.cons (.lst (.cons (.v 1) .nil)) (.cons (.k (.str (Str.ofString ""))) (.cons (.k (.int 7)) .nil)))))))))) (.cons (.call 3 [true, false] (.cons (.v 0) (.cons (.k (.int 9)) .nil))) .nil)))) .nil) .nil) (.cons (.ife (.ex (.bi .eq (.cons (.v 4) (.cons (.k (.int 1)) .nil)))) (.cons (.ret (.bi .add (.cons (.sl false true (.cons (.v 1) .nil) (.cons (.v 2) .nil)) (.cons (.sl true false (.cons (.v 1) .nil) (.cons (.bi .add (.cons (.v 2) (.cons (.k (.int 1)) .nil))) .nil)) .nil)))) .nil) .nil) (.cons (.ife (.ex (.bi .eq (.cons (.v 4) (.cons (.k (.int 2)) .nil)))) (.cons (.ret (.bi .add (.cons (.sl false true (.cons (.v 1) .nil) (.cons (.bi .add (.cons (.v 2) (.cons (.k (.int 1)) .nil))) .nil)) (.cons (.sl true false (.cons (.v 1) .nil) (.cons (.v 2) .nil)) .nil)))) .nil) .nil) (.cons (.ife (.ex (.bi .eq (.cons (.v 4) (.cons (.k (.int 3)) .nil)))) (.cons (.ret (.bi .add (.cons (.bi .add (.cons (.sl false true (.cons (.v 1) .nil) (.cons (.v 2) .nil)) (.cons (.bi .rev (.cons (.sl true true (.cons (.v 1) .nil) (.cons (.v 2) (.cons (.bi .add (.cons (.v 2) (.cons (.k (.int 2)) .nil))) .nil))) .nil)) .nil))) (.cons (.sl true false (.cons (.v 1) .nil) (.cons (.bi .add (.cons (.v 2) (.cons (.k (.int 2)) .nil))) .nil)) .nil)))) .nil) .nil) (.cons (.ife (.ex (.bi .eq (.cons (.v 4) (.cons (.k (.int 4)) .nil)))) (.cons (.ret (.bi .add (.cons (.bi .add (.cons (.sl false true (.cons (.v 1) .nil) (.cons (.v 2) .nil)) (.cons (.lst (.cons (.bi .item (.cons (.lst (.cons (.bi .list (.cons (.v 3) .nil)) (.cons (.sl false true (.cons (.v 3) .nil) (.cons (.k (.int 2)) .nil)) (.cons (.bi .add (.cons (.v 3) (.cons (.tup (.cons (.k .none) .nil)) .nil))) (.cons (.k .none) .nil))))) (.cons (.call 3 [true, false] (.cons (.v 0) (.cons (.k (.int 4)) .nil))) .nil))) .nil)) .nil))) (.cons (.sl true false (.cons (.v 1) .nil) (.cons (.bi .add (.cons (.v 2) (.cons (.k (.int 1)) .nil))) .nil)) .nil)))) .nil) .nil) (.cons (.asgO 6 (.bi .item (.cons (.lst (.cons (.k (.int 0)) (.cons (.k (.int 1)) (.cons (.k (.int 2)) (.cons (.k (.int 2)) (.cons (.k (.int 2)) .nil)))))) (.cons (.call 3 [true, false] (.cons (.v 0) (.cons (.k (.int 5)) .nil))) .nil)))) (.cons (.asgO 7 (.bi .item (.cons (.v 5) (.cons (.call 3 [true, false] (.cons (.v 0) (.cons (.k (.int 22)) .nil))) .nil)))) (.cons (.ife (.and (.ex (.bi .gt (.cons (.v 4) (.cons (.k (.int 6)) .nil)))) (.ex (.bi .notN (.cons (.bi .item (.cons (.v 3) (.cons (.k (.int 2)) .nil))) .nil)))) (.cons (.asgO 7 (.bi .item (.cons (.lst (.cons (.tup (.cons (.bi .sub (.cons (.bi .item (.cons (.bi .item (.cons (.v 3) (.cons (.k (.int 2)) .nil))) (.cons (.k (.int 0)) .nil))) (.cons (.k (.int 1)) .nil))) (.cons (.bi .item (.cons (.bi .item (.cons (.v 3) (.cons (.k (.int 2)) .nil))) (.cons (.k (.int 1)) .nil))) .nil))) (.cons (.tup (.cons (.bi .item (.cons (.bi .item (.cons (.v 3) (.cons (.k (.int 2)) .nil))) (.cons (.k (.int 0)) .nil))) (.cons (.bi .add (.cons (.bi .item (.cons (.bi .item (.cons (.v 3) (.cons (.k (.int 2)) .nil))) (.cons (.k (.int 1)) .nil))) (.cons (.k (.int 1)) .nil))) .nil))) (.cons (.tup (.cons (.bi .item (.cons (.bi .item (.cons (.v 3) (.cons (.k (.int 2)) .nil))) (.cons (.k (.int 0)) .nil))) (.cons (.k .none) .nil))) .nil)))) (.cons (.call 3 [true, false] (.cons (.v 0) (.cons (.k (.int 3)) .nil))) .nil)))) (.cons (.asgO 6 (.k (.int 2))) .nil)) .nil) (.cons (.ret (.bi .add (.cons (.bi .add (.cons (.sl false true (.cons (.v 1) .nil) (.cons (.v 2) .nil)) (.cons (.lst (.cons (.bi .add (.cons (.bi .add (.cons (.sl false true (.cons (.v 3) .nil) (.cons (.v 6) .nil)) (.cons (.tup (.cons (.v 7) .nil)) .nil))) (.cons (.sl true false (.cons (.v 3) .nil) (.cons (.bi .add (.cons (.v 6) (.cons (.k (.int 1)) .nil))) .nil)) .nil))) .nil)) .nil))) (.cons (.sl true false (.cons (.v 1) .nil) (.cons (.bi .add (.cons (.v 2) (.cons (.k (.int 1)) .nil))) .nil)) .nil)))) .nil))))))))))))))⟩
/-- _law_turn -/
def f818 : Fn := ⟨1, 7, [true], (.cons (.for_ (.n 1) .range1 (.cons (.k (.int 6)) .nil) (.cons (.asgO 2 (.call 816 [true] (.cons (.v 0) .nil))) (.cons (.for_ (.n 3) .any (.cons (.bi .add (.cons (.lst (.cons (.v 2) .nil)) (.cons (.lc (.call 817 [true, false] (.cons (.v 0) (.cons (.v 2) .nil))) (.n 6) .range1 (.cons (.k (.int 5)) .nil) .yes [6]) .nil))) .nil) (.cons (.asgO 4 (.bi .repr (.cons (.v 3) .nil))) (.cons (.asgO 5 (.call 808 [false] (.cons (.v 3) .nil))) (.cons (.ife (.or (.not (.ex (.bi (.isin "bool") (.cons (.v 5) .nil)))) (.or (.ex (.bi .ne (.cons (.v 5) (.cons (.call 815 [false] (.cons (.v 3) .nil)) .nil)))) (.ex (.bi .ne (.cons (.bi .repr (.cons (.v 3) .nil)) (.cons (.v 4) .nil)))))) (.cons (.ret (.k (.bool false))) .nil) .nil) .nil)))) .nil))) (.cons (.ret (.k (.bool true))) .nil))⟩
/-- law -/
def f819 : Fn := ⟨1, 3, [false], (.cons (.asgO 1 (.bi .min2 (.cons (.k (.int 3)) (.cons (.bi .len (.cons (.v 0) .nil)) .nil)))) (.cons (.for_ (.n 2) .range1 (.cons (.v 1) .nil) (.cons (.ife (.not (.ex (.callF 818 (.call 2 [false, false] (.cons (.v 0) (.cons (.v 2) .nil)))))) (.cons (.ret (.k (.bool false))) .nil) .nil) .nil)) (.cons (.ret (.callF 818 (.lst (.cons (.k (.int 0)) (.cons (.k (.int 0)) (.cons (.k (.int 0)) .nil)))))) .nil)))⟩
end EV
namespace EV
open PySem PySem.Spec L2
open PyProof.Rows hiding St
local macro_rules
  | `(tactic| trivial) => `(tactic| simp -failIfUnchanged only [↓w_k, ↓w_gl, ↓w_v, ↓w_tup, ↓w_lst, ↓w_dct0, ↓w_dct1, ↓w_bi, ↓w_mc, ↓w_sl, ↓w_ch, ↓w_tst, ↓w_and, ↓w_or, ↓w_ifeE, ↓w_call, ↓w_callK, ↓w_callF, ↓w_lc, ↓w_turn, ↓w_nil, ↓w_cons, ↓w_onil, ↓w_oconsV, ↓w_yes, ↓w_tnot, ↓w_tand, ↓w_tor, ↓w_texV, ↓te_callK, ↓oc_callK, ↓rt_callK, ↓te_callF, ↓oc_callF, ↓rt_callF, ↓te_k, ↓oc_k, ↓rt_k, ↓te_gl, ↓oc_gl, ↓rt_gl, ↓te_tup, ↓oc_tup, ↓rt_tup, ↓te_lst, ↓oc_lst, ↓rt_lst, ↓te_dct, ↓oc_dct, ↓rt_dct, ↓te_ch, ↓oc_ch, ↓rt_ch, ↓te_sl, ↓oc_sl, ↓rt_sl, ↓te_mc, ↓oc_mc, ↓rt_mc, ↓te_bi, ↓oc_bi, ↓rt_bi, ↓te_tst, ↓oc_tst, ↓rt_tst, ↓te_and, ↓oc_and, ↓rt_and, ↓te_or, ↓oc_or, ↓rt_or, ↓te_ife, ↓oc_ife, ↓rt_ife, ↓te_call, ↓oc_call, ↓rt_call, ↓te_lc, ↓oc_lc, ↓rt_lc, ↓w_anil, ↓w_aref, ↓w_aval, ↓w_asg, ↓w_asgO, ↓w_n, ↓w_tT, ↓w_tsN, ↓w_tsC, ↓w_aug, ↓w_mu, ↓w_setI, ↓w_ex, ↓w_retV, ↓w_retN, ↓w_ife, ↓w_for, ↓w_while, ↓w_starA, ↓w_brk, ↓w_cont, ↓w_pass, ↓w_snil, ↓w_scons, ↓w_body,
    ↓W_some, ↓W_if, ↓ifB_t, ↓ifB_f, ↓ifB_not, ↓onSl_v, ↓onSl_o, ↓onSl_b, ↓onNx_n, ↓onNx_b, ↓onNx_c, ↓onNx_r, ↓endF_r, ↓endF_n, ↓onFl_n, ↓onFl_c, ↓onFl_b, ↓onFl_r, ↓asB_b, ↓as1_1, ↓as2_2, notBor_u, notBor_v, notBor_o,
    ↓x_add, ↓x_addS, ↓x_addT, ↓x_addL, ↓x_iadd, ↓x_isub, ↓x_sub, ↓x_mul, ↓x_fdiv, ↓x_mod, ↓x_pow, ↓x_neg, ↓x_eq, ↓x_ne, ↓x_lt, ↓x_le, ↓x_gt, ↓x_ge, ↓x_isN, ↓x_notN, ↓x_isB, ↓x_notB, ↓x_inS, ↓x_ninS, ↓x_itemL, ↓x_itemT, ↓x_itemScr, ↓x_itemS, ↓x_lenL, ↓x_lenT, ↓x_lenScr, ↓x_lenS, ↓x_abs, ↓x_max, ↓x_min, ↓x_intI, ↓x_intB, ↓x_rev, ↓x_repr, ↓x_str, ↓xi_n, ↓xi_b, ↓xi_i, ↓xi_s, ↓xi_l, ↓xi_t, ↓xi_d0, ↓xi_dS, ↓xi_dI, ↓x_all, ↓x_any, ↓x_join, ↓x_tupleL, ↓x_tupleT, ↓x_listL, ↓x_listT, ↓x_cutL, ↓x_cutT, ↓x_cutS, ↓x_ca0, ↓x_ca1, ↓x_ca2, ↓x_ca3, ↓tr_b, ↓tr_n, ↓tr_i, ↓tr_l, ↓tr_t, ↓it_l, ↓it_t, ↓it_s, ↓it_r1, ↓it_r2, ↓it_en, ↓it_z,
    fillD, List.map_cons, List.map_nil, Option.map_some, in_n, in_b, in_i, in_s, in_t, in_l, in_d, ek_s, ek_i, ek_b, ln_n, ln_b, ln_i, ln_s, ln_t, ln_d, ln_l, opdV, deref, derefs, mutAt, listAt, agD, backS, Ag.slots, nodupB, noMut, wipeS, restS, outS, argS, mut_u, mut_v, mut_o, mut_b, iv_k, iv_gl, iv_tup, iv_lst, iv_dct, iv_ch, iv_sl, iv_mc, iv_bi, iv_tst, iv_and, iv_or, iv_ife, iv_call, iv_lc, isKey, sc_n, sc_b, sc_i, sc_s, sc_l, sc_t, sc_d0, sc_dS, sc_dI, tyName, atI_0, atI_1, atI_2, atI_3, x_set0, x_set1, x_set2,
    List.getElem?_cons_succ, List.getElem?_cons_zero, List.getElem?_nil, List.set_cons_succ, List.set_cons_zero, List.cons_append, List.nil_append, List.replicate, Nat.reduceSub, Option.bind_some, Option.toList_some, Option.toList_none, List.getD_cons_succ, List.getD_cons_zero, Bool.not_true, Bool.not_false, true_and, and_true, List.contains_nil, List.all_cons, List.all_nil, Bool.and_true, Bool.true_and, decide_true, decide_false, Bool.true_eq_false, Bool.false_eq_true, kit_ii, kit_bi, kit_ni, kit_si, kit_li, kit_ti, kit_di, kit_ib, kit_bb, kit_nb, kit_sb, kit_lb, kit_tb, kit_db, kit_is, kit_bs, kit_ns, kit_ss, kit_ls, kit_ts, kit_ds, kit_it, kit_bt, kit_nt, kit_st, kit_lt, kit_tt, kit_dt, kit_il, kit_bl, kit_nl, kit_sl, kit_ll, kit_tl, kit_dl, sh_n, sh_b, sh_i, eqv_ii, eqv_bb, ↓nb_ff, ↓nb_ft, ↓nb_tf, ↓nb_tt])


/-! ### what repr shows of small data -/
def okS (P : D → Prop) : D → Prop
  | .none => True
  | .bool _ => True
  | .int i => i.natAbs < 10 ^ 100
  | .str s => WOk 60 s
  | .list ds => ds.length ≤ 12 ∧ ∀ d ∈ ds, P d
  | .tuple ds => ds.length ≤ 12 ∧ ∀ d ∈ ds, P d
  | .dict es => es = []
def okD : Nat → D → Prop
  | 0 => okS fun _ => False
  | n + 1 => okS (okD n)
theorem okS_mono {P R : D → Prop} (h : ∀ d, P d → R d) : ∀ {d : D}, okS P d → okS R d
  | .none, _ => True.intro
  | .bool _, _ => True.intro
  | .int _, q => q
  | .str _, q => q
  | .list _, q => ⟨q.1, fun d hd => h d (q.2 d hd)⟩
  | .tuple _, q => ⟨q.1, fun d hd => h d (q.2 d hd)⟩
  | .dict _, q => q
theorem okD_succ : ∀ {n : Nat} {d : D}, okD n d → okD (n + 1) d
  | 0, _, h => okS_mono (fun _ z => z.elim) h
  | n + 1, _, h => okS_mono (fun _ z => okD_succ z) h
theorem okD_mono {n m : Nat} {d : D} (h : okD n d) (l : n ≤ m) : okD m d := by
  induction l with
  | refl => exact h
  | step _ ih => exact okD_succ ih
def costD : Nat → Nat
  | 0 => 700
  | n + 1 => 12 * costD n + 760
structure ShowOk (m c : Nat) (d : D) : Prop where
  cl : cleanD d = true
  sh : d.showable = true
  dp : d.depth ≤ m
  ln : d.shown.length ≤ c
theorem show_all {P : D → Prop} {m c : Nat} (h : ∀ d, P d → ShowOk m c d) : ∀ {ds : List D}, (∀ d ∈ ds, P d) → cleanDs ds = true ∧ PyData.showableAll ds = true ∧ PyData.depthAll ds ≤ m ∧ ((PyData.shownAll ds).map (·.length)).sum ≤ ds.length * c ∧ (PyData.shownAll ds).length = ds.length
  | [], _ => ⟨rfl, rfl, Nat.zero_le _, by simp [PyData.shownAll], rfl⟩
  | d :: ds, a => by
    obtain ⟨h1, h2, h3, h4, h5⟩ := show_all h fun x hx => a x (List.mem_cons_of_mem _ hx)
    have q := h d (a d List.mem_cons_self)
    refine ⟨?_, ?_, ?_, ?_, ?_⟩
    · rw [cleanDs, q.cl, h1]; rfl
    · rw [PyData.showableAll, q.sh, h2]; rfl
    · rw [PyData.depthAll]; exact Nat.max_le.mpr ⟨q.dp, h3⟩
    · rw [PyData.shownAll, List.map_cons, List.sum_cons, List.length_cons, Nat.add_mul, Nat.one_mul]
      have := q.ln
      omega
    · rw [PyData.shownAll, List.length_cons, h5, List.length_cons]
theorem log_small {i : Int} (h : i.natAbs < 10 ^ 100) : i.natAbs.log2 < 1920 := by
  by_cases h0 : i.natAbs = 0
  · rw [h0]; decide
  · exact (Nat.log2_lt h0).mpr (Nat.lt_of_lt_of_le h (by decide +kernel))
theorem show_okS {P : D → Prop} {m c : Nat} (hc : 700 ≤ 12 * c + 760) (h : ∀ d, P d → ShowOk m c d) : ∀ {d : D}, okS P d → ShowOk (m + 1) (12 * c + 760) d
  | .none, _ => ⟨rfl, rfl, Nat.zero_le _, by
      have e : (PyData.shown .none).length = 4 := rfl
      omega⟩
  | .bool b, _ => ⟨rfl, rfl, Nat.zero_le _, by
      have e : (PyData.shown (.bool b)).length ≤ 5 := by cases b <;> decide
      omega⟩
  | .int i, q => ⟨rfl, by simp only [PyData.showable, decide_eq_true_eq]; exact log_small q, Nat.zero_le _, by
      have e : (PyData.shown (.int i)).length ≤ 101 := by
        have z := int_text_length_le10 (k := 100) (by decide) q
        rw [PyData.shown]
        exact Nat.le_trans (Nat.le_of_eq (PySem.ofString_length _)) z
      omega⟩
  | .str s, q => ⟨rfl, rfl, Nat.zero_le _, by
      have e : (PyData.shown (.str s)).length ≤ 10 * s.length + 2 := StrLaws.reprText_len s fun c hc => Nat.lt_trans (q.2 c hc) (by decide)
      have := q.1
      omega⟩
  | .list ds, q => by
    obtain ⟨h1, h2, h3, h4, h5⟩ := show_all h q.2
    refine ⟨by rw [cleanD]; exact h1, by rw [PyData.showable]; exact h2, by rw [PyData.depth]; omega, ?_⟩
    rw [PyData.shown]
    have := listText_len_le (PyData.shownAll ds)
    have l := q.1
    have := Nat.mul_le_mul_right c l
    omega
  | .tuple ds, q => by
    obtain ⟨h1, h2, h3, h4, h5⟩ := show_all h q.2
    refine ⟨by rw [cleanD]; exact h1, by rw [PyData.showable]; exact h2, by rw [PyData.depth]; omega, ?_⟩
    rw [PyData.shown]
    have := tupleText_len_le (PyData.shownAll ds)
    have l := q.1
    have := Nat.mul_le_mul_right c l
    omega
  | .dict es, q => by
    have q : es = [] := q
    subst q
    have e : (PyData.shown (.dict [])).length = 2 := by decide +kernel
    exact ⟨rfl, rfl, by rw [PyData.depth]; exact Nat.le_add_left _ _, by omega⟩
theorem okD_show : ∀ {n : Nat} {d : D}, okD n d → ShowOk (n + 1) (costD (n + 1)) d
  | 0, _, h => by
    have := show_okS (P := fun _ => False) (m := 0) (c := 700) (by omega) (fun _ z => z.elim) h
    exact this
  | n + 1, _, h => by
    have c0 : ∀ n, 700 ≤ costD n := by
      intro n
      cases n with
      | zero => exact Nat.le_refl _
      | succ n => show 700 ≤ 12 * costD n + 760; omega
    exact show_okS (by have := c0 (n + 1); omega) (fun d hd => okD_show hd) h
theorem show_one {m c : Nat} {d : D} (h : ShowOk m c d) : ShowOk (m + 1) (c + 5) (.list [d]) := by
  obtain ⟨h1, h2, h3, h4, h5⟩ := show_all (P := fun x => x = d) (m := m) (c := c) (fun x hx => by rw [hx]; exact h) (ds := [d]) (fun x hx => List.mem_singleton.mp hx)
  refine ⟨by rw [cleanD]; exact h1, by rw [PyData.showable]; exact h2, by rw [PyData.depth]; omega, ?_⟩
  rw [PyData.shown]
  have := listText_len_le (PyData.shownAll [d])
  rw [h5] at this
  simp only [List.length_cons, List.length_nil] at this h4
  omega
section
variable {P : Nat → Option Fn} {n : Nat} {Q : D × Bool × List D → Prop}
def wholeB : D → Bool
  | .int _ => true
  | _ => false
theorem whole_spec {d : D} (hP : P 1 = some f1) (hs : isScr d = false) (k : Q (.bool (wholeB d), false, [])) : W (callN ap aM aS P (n + 1) 1 [(false, d)]) Q := by
  refine w_fn hP rfl (by decide) ?_
  unfold f1
  trivial
  cases d <;> trivial <;> first | exact k | skip
  rw [x_isin hs]
  trivial
  exact k
/-- a sign of a name -/
def inL (c : Nat) : Bool := !(Builtin.Str.occurrences (Str.ofString "abcdefghijklmnopqrstuvwxyz") ⟨#[c]⟩ 0 (Str.ofString "abcdefghijklmnopqrstuvwxyz").length 1).isEmpty
def nameB : D → Bool
  | .str s => (decide ((1 : Int) ≤ s.length) && decide ((s.length : Int) ≤ 8)) && s.cps.toList.all inL
  | _ => false
theorem bools_map (l : List Nat) : boolsOf (l.map fun c => PyData.bool (inL c)) = some (l.map inL) := by
  induction l with
  | nil => rfl
  | cons c r ih => rw [List.map_cons, boolsOf, ih]; rfl
def gN : D → Option D
  | .str z => some (.bool (!(Builtin.Str.occurrences (Str.ofString "abcdefghijklmnopqrstuvwxyz") z 0 (Str.ofString "abcdefghijklmnopqrstuvwxyz").length 1).isEmpty))
  | _ => none
theorem gN_map (l : List Nat) : (l.map fun c => PyData.str ⟨#[c]⟩).filterMap gN = l.map fun c => PyData.bool (inL c) := by
  induction l with
  | nil => rfl
  | cons c r ih =>
    rw [List.map_cons, List.filterMap_cons, ih]
    rfl
theorem name_spec {d : D} (hP : P 0 = some f0) (hs : isScr d = false) (hl : ∀ s, d = .str s → s.length ≤ 1000) (k : Q (.bool (nameB d), false, [])) : W (callN ap aM aS P (n + 1) 0 [(false, d)]) Q := by
  refine w_fn hP rfl (by decide) ?_
  unfold f0
  trivial
  cases d <;> trivial <;> first | exact k | skip
  · rename_i s
    have h0 := hl s rfl
    refine ⟨Nat.le_trans h0 (by decide : 1000 ≤ sizeLine), ?_⟩
    refine ifD_of (fun h1 => ?_) (fun h1 => ?_)
    · trivial
      refine ifD_of (fun h2 => ?_) (fun h2 => ?_)
      · trivial
        refine w_lcFM (fun sl => ∃ x, sl = [.val (.str s), x] ∧ x.mut = false) gN _ _ ⟨_, rfl, rfl⟩ (fun d hd sl hI => ?_) (fun sl hI => ?_)
        · obtain ⟨x, rfl, hx⟩ := hI
          obtain ⟨c, _, rfl⟩ := List.mem_map.mp hd
          trivial
          exact ⟨rfl, _, rfl, rfl⟩
        · obtain ⟨x, rfl, hx⟩ := hI
          rw [gN_map]
          refine ⟨by rw [List.length_map]; exact Nat.le_trans h0 (by decide : 1000 ≤ sizeLine), ?_⟩
          trivial
          rw [bools_map]
          trivial
          have e : nameB (.str s) = (s.cps.toList.map inL).all id := by
            rw [nameB, decide_eq_true h1, decide_eq_true h2, List.all_map]
            rfl
          rw [← e]
          exact k
      · trivial
        have e : nameB (.str s) = false := by
          rw [nameB, decide_eq_false h2]
          simp
        rw [e] at k
        rw [decide_eq_false h2]
        exact k
    · trivial
      have e : nameB (.str s) = false := by
        rw [nameB, decide_eq_false h1]
        simp
      rw [e] at k
      exact k
  · rw [x_isin hs]
    trivial
    exact k
def gL : D → Option D
  | .str z => if (!(!(Builtin.Str.occurrences (Str.ofString "abcdefghijklmnopqrstuvwxyz") z 0 (Str.ofString "abcdefghijklmnopqrstuvwxyz").length 1).isEmpty)) = true then some (.str z) else none
  | _ => none
theorem gL_map (l : List Nat) : (l.map fun c => PyData.str ⟨#[c]⟩).filterMap gL = (l.filter fun c => !inL c).map fun c => PyData.str ⟨#[c]⟩ := by
  induction l with
  | nil => rfl
  | cons c r ih =>
    rw [List.map_cons, List.filterMap_cons, ih]
    have e : gL (.str ⟨#[c]⟩) = if (!inL c) = true then some (.str ⟨#[c]⟩) else none := rfl
    by_cases h : (!inL c) = true
    · rw [e, if_pos h, List.filter_cons_of_pos (by simpa using h), List.map_cons]
    · rw [e, if_neg h, List.filter_cons_of_neg (by simpa using h)]
theorem isname_spec {d : D} (hP : P 5 = some f5) (hs : isScr d = false) (hl : ∀ s, d = .str s → s.length ≤ 1000) (k : Q (.bool (nameB d), false, [])) : W (callN ap aM aS P (n + 1) 5 [(false, d)]) Q := by
  refine w_fn hP rfl (by decide) ?_
  unfold f5
  trivial
  cases d <;> trivial <;> first | exact k | skip
  · rename_i s
    have h0 := hl s rfl
    refine ⟨Nat.le_trans h0 (by decide : 1000 ≤ sizeLine), ?_⟩
    refine ifD_of (fun h1 => ?_) (fun h1 => ?_)
    · trivial
      refine ifD_of (fun h2 => ?_) (fun h2 => ?_)
      · trivial
        refine w_lcFM (fun sl => ∃ x, sl = [.val (.str s), x] ∧ x.mut = false) gL _ _ ⟨_, rfl, rfl⟩ (fun d hd sl hI => ?_) (fun sl hI => ?_)
        · obtain ⟨x, rfl, hx⟩ := hI
          obtain ⟨c, _, rfl⟩ := List.mem_map.mp hd
          trivial
          refine ifB_of (fun h => ?_) (fun h => ?_)
          · trivial
            exact ⟨by rw [gL, if_pos (by rw [h]; rfl)], _, rfl, rfl⟩
          · exact ⟨by rw [gL, if_neg (by rw [h]; decide)], _, rfl, rfl⟩
        · obtain ⟨x, rfl, hx⟩ := hI
          rw [gL_map]
          refine ⟨by rw [List.length_map]; exact Nat.le_trans (List.length_filter_le _ _) (Nat.le_trans h0 (by decide : 1000 ≤ sizeLine)), ?_⟩
          trivial
          cases hf : s.cps.toList.filter fun c => !inL c with
          | nil =>
            have e : nameB (.str s) = true := by
              rw [nameB, decide_eq_true h1, decide_eq_true h2]
              rw [List.filter_eq_nil_iff] at hf
              rw [Bool.and_self, Bool.true_and, List.all_eq_true]
              intro c hc
              have := hf c hc
              simpa using this
            rw [e] at k
            exact ⟨rfl, W.of k⟩
          | cons c r =>
            have e : nameB (.str s) = false := by
              rw [nameB, decide_eq_true h1, decide_eq_true h2]
              rw [Bool.and_self, Bool.true_and, List.all_eq_false]
              have hc : c ∈ s.cps.toList.filter fun c => !inL c := by rw [hf]; exact List.mem_cons_self
              obtain ⟨h3, h4⟩ := List.mem_filter.mp hc
              exact ⟨c, h3, by simpa using h4⟩
            rw [e] at k
            exact W.of k
      · trivial
        have e : nameB (.str s) = false := by
          rw [nameB, decide_eq_false h2]
          simp
        rw [e] at k
        exact k
    · trivial
      have e : nameB (.str s) = false := by
        rw [nameB, decide_eq_false h1]
        simp
      rw [e] at k
      exact k
  · rw [x_isin hs]
    trivial
    exact k
/-! ### numbers from .. on, labels -/
def okFrom (k : Int) : D → Bool
  | .int i => decide (k ≤ i)
  | _ => false
def tup2 : D → Bool
  | .tuple [_, _] => true
  | _ => false
def labelB : D → Bool
  | .none => true
  | .tuple [a, b] => okFrom 1 a && (isNone b || okFrom 0 b)
  | _ => false
def claimB : D → Bool
  | .tuple [a, b] => okFrom 1 a && okFrom 0 b
  | _ => false
theorem tup2_len : ∀ xs : List D, tup2 (.tuple xs) = decide (xs.length = 2)
  | [] => rfl
  | [_] => rfl
  | [_, _] => rfl
  | _ :: _ :: _ :: r => by
    rw [decide_eq_false]
    · rfl
    · simp only [List.length_cons]
      omega
theorem from_spec {d : D} {i : Int} (hP : P 28 = some f28) (hP1 : P 1 = some f1) (hs : isScr d = false) (k : Q (.bool (okFrom i d), false, [])) : W (callN ap aM aS P (n + 2) 28 [(false, d), (false, .int i)]) Q := by
  refine w_fn hP rfl (by decide) ?_
  unfold f28
  trivial
  refine whole_spec hP1 hs ?_
  cases d <;> (simp only [wholeB]; trivial; exact k)
theorem lwhole_spec {d : D} {i : Int} (hP : P 814 = some f814) (hs : isScr d = false) (k : Q (.bool (okFrom i d), false, [])) : W (callN ap aM aS P (n + 1) 814 [(false, d), (false, .int i)]) Q := by
  refine w_fn hP rfl (by decide) ?_
  unfold f814
  trivial
  cases d <;> trivial <;> first | exact k | skip
  rw [x_isin hs]
  trivial
  exact k
theorem tuple_spec {d : D} (hP : P 7 = some f7) (hs : isScr d = false) (k : Q (.bool (tup2 d), false, [])) : W (callN ap aM aS P (n + 1) 7 [(false, d), (false, .int 2), (false, .int 2)]) Q := by
  refine w_fn hP rfl (by decide) ?_
  unfold f7
  trivial
  cases d <;> trivial <;> first | exact k | skip
  · rename_i xs
    refine ifD_of (fun h => ?_) (fun h => ?_)
    · trivial
      rw [tup2_len, show decide (xs.length = 2) = decide ((xs.length : Int) ≤ 2) from decide_eq_decide.mpr (by omega)] at k
      exact k
    · trivial
      rw [tup2_len, decide_eq_false (by omega : ¬ xs.length = 2)] at k
      rw [decide_eq_false h]
      exact k
  · rw [x_isin hs]
    trivial
    exact k
theorem isScr_clean {d : D} (h : cleanD d = true) : isScr d = false := by
  cases d with
  | dict es =>
    cases es with
    | nil => rfl
    | cons p r =>
      obtain ⟨a, b⟩ := p
      cases a with
      | none => simp only [cleanD, cleanKs] at h; cases h
      | _ => rfl
  | _ => rfl
theorem label_spec {d : D} (hP : P 29 = some f29) (hP7 : P 7 = some f7) (hP28 : P 28 = some f28) (hP1 : P 1 = some f1) (hs : cleanD d = true) (k : Q (.bool (labelB d), false, [])) : W (callN ap aM aS P (n + 3) 29 [(false, d)]) Q := by
  refine w_fn hP rfl (by decide) ?_
  unfold f29
  have no : tup2 d = false → d ≠ .none → labelB d = false := fun h h2 => by
    unfold labelB
    split
    · exact (h2 rfl).elim
    · cases h
    · rfl
  by_cases h0 : d = .none
  · subst h0
    trivial
    exact k
  · have hi : isNone d = false := by cases d <;> first | rfl | exact (h0 rfl).elim
    trivial
    rw [hi]
    trivial
    refine tuple_spec hP7 (isScr_clean hs) ?_
    cases h2 : tup2 d with
    | false =>
      rw [no h2 h0] at k
      trivial
      exact k
    | true =>
      obtain ⟨a, b, rfl⟩ : ∃ a b, d = .tuple [a, b] := by
        unfold tup2 at h2
        split at h2
        · exact ⟨_, _, rfl⟩
        · cases h2
      simp only [cleanD, cleanDs, Bool.and_eq_true] at hs
      trivial
      refine from_spec hP28 hP1 (isScr_clean hs.1) ?_
      rw [labelB] at k
      cases ha : okFrom 1 a with
      | false =>
        rw [ha] at k
        trivial
        exact k
      | true =>
        rw [ha] at k
        trivial
        cases hb : isNone b with
        | true =>
          rw [hb] at k
          trivial
          exact k
        | false =>
          rw [hb] at k
          trivial
          refine from_spec hP28 hP1 (isScr_clean hs.2.1) ?_
          trivial
          exact k
theorem claim_spec {d : D} (hP : P 61 = some f61) (hP29 : P 29 = some f29) (hP7 : P 7 = some f7) (hP28 : P 28 = some f28) (hP1 : P 1 = some f1) (hs : cleanD d = true) (k : Q (.bool (claimB d), false, [])) : W (callN ap aM aS P (n + 4) 61 [(false, d)]) Q := by
  refine w_fn hP rfl (by decide) ?_
  unfold f61
  trivial
  cases hi : isNone d with
  | true =>
    have : d = .none := by cases d <;> first | rfl | cases hi
    subst this
    trivial
    exact k
  | false =>
    trivial
    refine label_spec hP29 hP7 hP28 hP1 hs ?_
    cases hl : labelB d with
    | false =>
      have : claimB d = false := by
        unfold labelB at hl
        unfold claimB
        split
        · rename_i a b
          simp only at hl
          cases h1 : okFrom 1 a with
          | false => rfl
          | true =>
            rw [h1, Bool.true_and, Bool.or_eq_false_iff] at hl
            rw [hl.2]; rfl
        · rfl
      rw [this] at k
      trivial
      exact k
    | true =>
      obtain ⟨a, b, rfl⟩ : ∃ a b, d = .tuple [a, b] := by
        unfold labelB at hl
        split at hl
        · cases hi
        · exact ⟨_, _, rfl⟩
        · cases hl
      trivial
      have : claimB (.tuple [a, b]) = !isNone b := by
        rw [labelB, Bool.and_eq_true] at hl
        rw [claimB, hl.1, Bool.true_and]
        rcases Bool.or_eq_true_iff.mp hl.2 with h | h
        · have : b = .none := by cases b <;> first | rfl | cases h
          subst this
          rfl
        · rw [h]
          cases b <;> first | rfl | cases h
      rw [this] at k
      exact k
/-- the nearer of two that can be asked by -/
def nearB (a b c e : Int) : Bool := if a = c then decide (b < e) else decide (c < a)
theorem nearer_spec {a b c e : Int} (hP : P 30 = some f30) (k : Q (.bool (nearB a b c e), false, [])) : W (callN ap aM aS P (n + 1) 30 [(false, .tuple [.int a, .int b]), (false, .tuple [.int c, .int e])]) Q := by
  refine w_fn hP rfl (by decide) ?_
  unfold f30
  trivial
  refine ifD_of (fun h => ?_) (fun h => ?_)
  · trivial
    rw [nearB, if_pos h] at k
    exact k
  · trivial
    rw [nearB, if_neg h] at k
    exact k
theorem near_spec {a b c e : Int} (hP : P 35 = some f35) (k : Q (.bool (nearB a b c e), false, [])) : W (callN ap aM aS P (n + 1) 35 [(false, .tuple [.int a, .int b]), (false, .tuple [.int c, .int e])]) Q := by
  refine w_fn hP rfl (by decide) ?_
  unfold f35
  trivial
  refine ifD_of (fun h => ?_) (fun h => ?_)
  · trivial
    rw [nearB, if_pos h] at k
    exact k
  · trivial
    rw [nearB, if_neg h] at k
    exact k
end
section
variable {P : Nat → Option Fn} {n : Nat} {Q : D × Bool × List D → Prop}
theorem okD_clean {m : Nat} {d : D} (h : okD m d) : cleanD d = true := (okD_show h).cl
theorem okD_str {m : Nat} {s : Str} (h : okD m (.str s)) : WOk 60 s := by cases m <;> exact h
theorem okD_tup {m : Nat} {ds : List D} (h : okD m (.tuple ds)) : ∀ d ∈ ds, okD (m - 1) d := by
  cases m with
  | zero => exact fun d hd => (h.2 d hd).elim
  | succ m => exact h.2
def partB : D → Bool
  | .tuple [a, b, c] => nameB a && (okFrom 0 b && labelB c)
  | _ => false
theorem part_spec {m : Nat} {d : D} (hP : P 807 = some f807) (hP0 : P 0 = some f0) (hP29 : P 29 = some f29) (hP7 : P 7 = some f7) (hP28 : P 28 = some f28) (hP1 : P 1 = some f1) (hs : okD m d) (k : Q (.bool (partB d), false, [])) : W (callN ap aM aS P (n + 4) 807 [(false, d)]) Q := by
  refine w_fn hP rfl (by decide) ?_
  unfold f807
  trivial
  cases d <;> trivial <;> first | exact k | skip
  · rename_i xs
    refine ifD_of (fun h => ?_) (fun h => ?_)
    · obtain ⟨a, b, c, rfl⟩ : ∃ a b c, xs = [a, b, c] := by
        match xs, h with
        | [], h => cases h
        | [_], h => cases h
        | [_, _], h => cases h
        | [a, b, c], _ => exact ⟨a, b, c, rfl⟩
        | _ :: _ :: _ :: _ :: r, h =>
          simp only [List.length_cons] at h
          omega
      have hm := okD_tup hs
      have ha := hm a (by simp)
      have hb := okD_clean (hm b (by simp))
      have hc := okD_clean (hm c (by simp))
      trivial
      refine name_spec hP0 (isScr_clean (okD_clean ha)) (fun s e => ?_) ?_
      · subst e
        exact Nat.le_trans (okD_str ha).1 (by decide)
      rw [partB] at k
      cases h1 : nameB a with
      | false =>
        rw [h1] at k
        trivial
        exact k
      | true =>
        rw [h1] at k
        trivial
        refine from_spec hP28 hP1 (isScr_clean hb) ?_
        cases h2 : okFrom 0 b with
        | false =>
          rw [h2] at k
          trivial
          exact k
        | true =>
          rw [h2] at k
          trivial
          refine label_spec hP29 hP7 hP28 hP1 hc ?_
          trivial
          exact k
    · have : partB (.tuple xs) = false := by
        unfold partB
        split
        · rename_i a b c e
          cases e
          exact absurd rfl h
        · rfl
      rw [this] at k
      trivial
      exact k
  · rw [x_isin (isScr_clean (okD_clean hs))]
    trivial
    exact k
/-! ### trails -/
def momB : D → D → Bool
  | .tuple [_, .int x, _], .tuple [_, .int y, _] => decide (x ≤ y)
  | _, _ => false
def nearD : D → D → Bool
  | .tuple [_, _, .tuple [.int a, .int b]], .tuple [_, _, .tuple [.int c, .int e]] => nearB c e a b
  | _, _ => false
def endB : D → Bool
  | .tuple [_, _, .none] => true
  | _ => false
def claimPB : D → Bool
  | .tuple [_, _, c] => claimB c
  | _ => false
def pairsB (f : D → D → Bool) : List D → Bool
  | a :: b :: r => f a b && pairsB f (b :: r)
  | _ => true
/-- what a row of parts must be -/
def trailB (ds : List D) : Bool := !ds.isEmpty && (ds.all partB && ((ds.getLast?.map endB).getD false && (ds.dropLast.all claimPB && (pairsB momB ds && pairsB nearD ds.dropLast))))
def trailD : D → Bool
  | .list ds => trailB ds
  | _ => false
theorem bools_all {f : D → Bool} : ∀ ds : List D, boolsOf (ds.map fun d => PyData.bool (f d)) = some (ds.map f)
  | [] => rfl
  | d :: r => by rw [List.map_cons, boolsOf, bools_all r]; rfl
theorem fm_some {f : D → Bool} (ds : List D) : ds.filterMap (fun d => some (PyData.bool (f d))) = ds.map fun d => PyData.bool (f d) := by
  induction ds with
  | nil => rfl
  | cons d r ih => rw [List.filterMap_cons, ih]; rfl
theorem part_of {d : D} (h : partB d = true) : ∃ a b c, d = .tuple [a, .int b, c] ∧ nameB a = true ∧ 0 ≤ b ∧ labelB c = true := by
  unfold partB at h
  split at h
  · rename_i a b c
    simp only [Bool.and_eq_true] at h
    obtain ⟨h1, h2, h3⟩ := h
    cases b with
    | int i => exact ⟨a, i, c, rfl, h1, of_decide_eq_true h2, h3⟩
    | _ => cases h2
  · cases h
theorem claim_of {c : D} (h : claimB c = true) : ∃ p q, c = .tuple [.int p, .int q] ∧ 1 ≤ p ∧ 0 ≤ q := by
  unfold claimB at h
  split at h
  · rename_i a b
    simp only [Bool.and_eq_true] at h
    obtain ⟨h1, h2⟩ := h
    cases a with
    | int i => cases b with
      | int j => exact ⟨i, j, rfl, of_decide_eq_true h1, of_decide_eq_true h2⟩
      | _ => cases h2
    | _ => cases h1
  · cases h
theorem star_eq {ds : List D} (h : ds ≠ []) (hl : ds.length ≤ sizeLine) : starD 2 0 (.list ds) = some [.list ds.dropLast, ds.getLast h] := by
  have h0 : 0 < ds.length := List.length_pos_iff.mpr h
  show starL 2 0 ds = _
  unfold starL
  rw [if_pos ⟨by omega, by decide, hl⟩, List.take_zero, List.drop_zero, List.nil_append]
  have e : ds.length + 1 - 2 = ds.length - 1 := by omega
  have e2 : (ds.dropLast ++ [ds.getLast h]).drop ds.dropLast.length = [ds.getLast h] := List.drop_left
  rw [List.dropLast_concat_getLast h, List.length_dropLast] at e2
  rw [e, ← List.dropLast_eq_take, e2]
  rfl
theorem cut1 (ds : List D) : cutD ds (some 1) none = ds.drop 1 := by
  unfold cutD
  have e1 : HT.sIx ds.length 0 (some 1) = min 1 ds.length := HT.sIx_nat _ _ 1
  rw [e1, HT.sIx_none]
  cases ds with
  | nil => rfl
  | cons d r =>
    have : min 1 (d :: r).length = 1 := by simp only [List.length_cons]; omega
    rw [this]
    exact List.take_of_length_le (by simp only [List.length_drop]; omega)
/-- a test of two of a pair -/
def onPair (f : D → D → Bool) : D → Option D
  | .tuple [x, y] => some (.bool (f x y))
  | _ => none
theorem zip_pairs (f : D → D → Bool) : ∀ ds : List D, ∃ bs, boolsOf ((zipT ds (ds.drop 1)).filterMap (onPair f)) = some bs ∧ bs.all id = pairsB f ds ∧ ((zipT ds (ds.drop 1)).filterMap (onPair f)).length ≤ ds.length
  | [] => ⟨[], rfl, rfl, Nat.le_refl _⟩
  | [_] => ⟨[], rfl, rfl, Nat.zero_le _⟩
  | a :: b :: r => by
    obtain ⟨bs, h1, h2, h3⟩ := zip_pairs f (b :: r)
    have e : (zipT (a :: b :: r) ((a :: b :: r).drop 1)).filterMap (onPair f) = .bool (f a b) :: (zipT (b :: r) ((b :: r).drop 1)).filterMap (onPair f) := rfl
    rw [e]
    refine ⟨f a b :: bs, ?_, ?_, ?_⟩
    · rw [boolsOf, h1]; rfl
    · rw [List.all_cons, h2]; rfl
    · rw [List.length_cons, List.length_cons]; omega
theorem zip_mem : ∀ {ds : List D} {x : D}, x ∈ zipT ds (ds.drop 1) → ∃ a b, x = .tuple [a, b] ∧ a ∈ ds ∧ b ∈ ds
  | [], _, h => by cases h
  | [_], _, h => by cases h
  | a :: b :: r, x, h => by
    have e : zipT (a :: b :: r) ((a :: b :: r).drop 1) = .tuple [a, b] :: zipT (b :: r) ((b :: r).drop 1) := rfl
    rw [e] at h
    rcases List.mem_cons.mp h with h | h
    · exact ⟨a, b, h, List.mem_cons_self, List.mem_cons_of_mem _ List.mem_cons_self⟩
    · obtain ⟨c, e, h1, h2, h3⟩ := zip_mem h
      exact ⟨c, e, h1, List.mem_cons_of_mem _ h2, List.mem_cons_of_mem _ h3⟩
theorem comes_spec {d : D} (hP : P 808 = some f808) (h807 : P 807 = some f807) (h61 : P 61 = some f61) (h30 : P 30 = some f30) (hP0 : P 0 = some f0) (hP29 : P 29 = some f29) (hP7 : P 7 = some f7) (hP28 : P 28 = some f28) (hP1 : P 1 = some f1) (hs : isScr d = false) (hl : ∀ ds, d = .list ds → ds.length ≤ 1000 ∧ ∀ x ∈ ds, okD 3 x)
    (k : Q (.bool (trailD d), false, [])) : W (callN ap aM aS P (n + 5) 808 [(false, d)]) Q := by
  refine w_fn hP rfl (by decide) ?_
  unfold f808
  trivial
  cases d <;> trivial <;> first | exact k | skip
  · rename_i ds
    obtain ⟨hl1, hl2⟩ := hl ds rfl
    have hz : ds.length ≤ sizeLine := Nat.le_trans hl1 (by decide)
    by_cases h0 : ds = []
    · subst h0
      refine ⟨rfl, ?_⟩
      rw [show PyData.eqv (.list []) (.list []) = true from rfl]
      trivial
      exact k
    have hb : (ds.length != ([] : List D).length) = true := by
      rw [bne_iff_ne]
      exact fun z => h0 (List.eq_nil_of_length_eq_zero z)
    have he : ds.isEmpty = false := by cases ds with
      | nil => exact (h0 rfl).elim
      | cons _ _ => rfl
    rw [hb]
    trivial
    refine w_lcFM (fun sl => ∃ x, sl = [.val (.list ds), .un, .un, x, .un, .un, .un, .un] ∧ x.mut = false ∧ notBor x) (fun d => some (.bool (partB d))) _ _ ⟨_, rfl, rfl, True.intro⟩ (fun d hd sl hI => ?_) (fun sl hI => ?_)
    · obtain ⟨x, rfl, hx, hx2⟩ := hI
      trivial
      refine part_spec h807 hP0 hP29 hP7 hP28 hP1 (hl2 d hd) ?_
      trivial
      exact ⟨_, rfl, rfl, True.intro⟩
    obtain ⟨x, rfl, hx, hx2⟩ := hI
    rw [fm_some]
    refine ⟨by rw [List.length_map]; exact hz, ?_⟩
    trivial
    rw [bools_all]
    trivial
    rw [List.all_map]
    simp only [trailD, trailB, he, Bool.not_false, Bool.true_and] at k
    cases hp : ds.all (id ∘ partB) with
    | false =>
      rw [show ds.all partB = ds.all (id ∘ partB) from rfl, hp] at k
      trivial
      exact k
    | true =>
      rw [show ds.all partB = ds.all (id ∘ partB) from rfl, hp, Bool.true_and] at k
      have hpart : ∀ d ∈ ds, partB d = true := fun d hd => (List.all_eq_true.mp hp) d hd
      trivial
      rw [star_eq h0 hz]
      trivial
      obtain ⟨la, lb, lc, hlast, _, _, hlab⟩ := part_of (hpart _ (List.getLast_mem h0))
      rw [hlast]
      rw [List.getLast?_eq_some_getLast h0, hlast] at k
      trivial
      cases hc : isNone lc with
      | false =>
        have : endB (.tuple [la, .int lb, lc]) = false := by cases lc <;> first | rfl | cases hc
        rw [Option.map_some, Option.getD_some, this] at k
        trivial
        exact k
      | true =>
        have : lc = .none := by cases lc <;> first | rfl | cases hc
        subst this
        rw [Option.map_some, Option.getD_some, show endB (.tuple [la, .int lb, .none]) = true from rfl, Bool.true_and] at k
        have hah : ∀ d ∈ ds.dropLast, d ∈ ds := fun d hd => (List.dropLast_sublist ds).subset hd
        trivial
        refine w_lcFM (fun sl => ∃ x5 x6 x7, sl = [.val (.list ds), .val (.tuple [la, .int lb, .none]), .val (.list ds.dropLast), .un, .un, x5, x6, x7] ∧ (x5.mut = false ∧ notBor x5) ∧ (x6.mut = false ∧ notBor x6) ∧ (x7.mut = false ∧ notBor x7)) (fun d => some (.bool (claimPB d))) _ _ ⟨_, _, _, rfl, ⟨rfl, True.intro⟩, ⟨rfl, True.intro⟩, ⟨rfl, True.intro⟩⟩ (fun d hd sl hI => ?_) (fun sl hI => ?_)
        · obtain ⟨x5, x6, x7, rfl, _, _, _⟩ := hI
          obtain ⟨a, b, c, rfl, _, _, _⟩ := part_of (hpart d (hah d hd))
          trivial
          refine claim_spec h61 hP29 hP7 hP28 hP1 (okD_clean (okD_tup (hl2 _ (hah _ hd)) c (by simp))) ?_
          trivial
          exact ⟨rfl, _, _, _, rfl, ⟨rfl, True.intro⟩, ⟨rfl, True.intro⟩, ⟨rfl, True.intro⟩⟩
        obtain ⟨x5, x6, x7, rfl, h5, h6, h7⟩ := hI
        rw [fm_some]
        refine ⟨by rw [List.length_map, List.length_dropLast]; omega, ?_⟩
        trivial
        rw [bools_all]
        trivial
        rw [List.all_map]
        cases hcl : ds.dropLast.all (id ∘ claimPB) with
        | false =>
          rw [show ds.dropLast.all claimPB = ds.dropLast.all (id ∘ claimPB) from rfl, hcl] at k
          trivial
          exact k
        | true =>
          rw [show ds.dropLast.all claimPB = ds.dropLast.all (id ∘ claimPB) from rfl, hcl, Bool.true_and] at k
          have hclaim : ∀ d ∈ ds.dropLast, claimPB d = true := fun d hd => (List.all_eq_true.mp hcl) d hd
          trivial
          rw [cut1]
          refine w_lcFM (fun sl => ∃ x3 x4, sl = [.val (.list ds), .val (.tuple [la, .int lb, .none]), .val (.list ds.dropLast), x3, x4, .un, .un, .un] ∧ (x3.mut = false ∧ notBor x3) ∧ (x4.mut = false ∧ notBor x4)) (onPair momB) _ _ ⟨_, _, rfl, ⟨rfl, True.intro⟩, ⟨rfl, True.intro⟩⟩ (fun d hd sl hI => ?_) (fun sl hI => ?_)
          · obtain ⟨x3, x4, rfl, _, _⟩ := hI
            obtain ⟨a, b, rfl, ma, mb⟩ := zip_mem hd
            obtain ⟨a1, a2, a3, rfl, _, _, _⟩ := part_of (hpart a ma)
            obtain ⟨b1, b2, b3, rfl, _, _, _⟩ := part_of (hpart b mb)
            trivial
            exact ⟨rfl, _, _, rfl, ⟨rfl, True.intro⟩, ⟨rfl, True.intro⟩⟩
          obtain ⟨x3, x4, rfl, h3, h4⟩ := hI
          obtain ⟨bs, z1, z2, z3⟩ := zip_pairs momB ds
          refine ⟨Nat.le_trans z3 hz, ?_⟩
          trivial
          rw [z1]
          trivial
          rw [z2]
          cases hmo : pairsB momB ds with
          | false =>
            rw [hmo] at k
            trivial
            exact k
          | true =>
            rw [hmo, Bool.true_and] at k
            trivial
            rw [cut1]
            refine w_lcFM (fun sl => ∃ x3 x4, sl = [.val (.list ds), .val (.tuple [la, .int lb, .none]), .val (.list ds.dropLast), x3, x4, .un, .un, .un] ∧ (x3.mut = false ∧ notBor x3) ∧ (x4.mut = false ∧ notBor x4)) (onPair nearD) _ _ ⟨_, _, rfl, ⟨rfl, True.intro⟩, ⟨rfl, True.intro⟩⟩ (fun d hd sl hI => ?_) (fun sl hI => ?_)
            · obtain ⟨x3, x4, rfl, _, _⟩ := hI
              obtain ⟨a, b, rfl, ma, mb⟩ := zip_mem hd
              obtain ⟨a1, a2, a3, rfl, _, _, _⟩ := part_of (hpart a (hah a ma))
              obtain ⟨b1, b2, b3, rfl, _, _, _⟩ := part_of (hpart b (hah b mb))
              obtain ⟨p1, q1, rfl, _, _⟩ := claim_of (hclaim _ ma)
              obtain ⟨p2, q2, rfl, _, _⟩ := claim_of (hclaim _ mb)
              trivial
              refine nearer_spec h30 ?_
              trivial
              exact ⟨rfl, _, _, rfl, ⟨rfl, True.intro⟩, ⟨rfl, True.intro⟩⟩
            obtain ⟨x3, x4, rfl, h3, h4⟩ := hI
            obtain ⟨bs, z1, z2, z3⟩ := zip_pairs nearD ds.dropLast
            refine ⟨Nat.le_trans z3 (by rw [List.length_dropLast]; omega), ?_⟩
            trivial
            rw [z1]
            trivial
            rw [z2]
            exact k
  · rw [x_isin hs]
    trivial
    exact k
end

end EV
namespace EV
open PySem PySem.Spec L2
open PyProof.Rows hiding St
local macro_rules
  | `(tactic| trivial) => `(tactic| simp -failIfUnchanged only [↓w_k, ↓w_gl, ↓w_v, ↓w_tup, ↓w_lst, ↓w_dct0, ↓w_dct1, ↓w_bi, ↓w_mc, ↓w_sl, ↓w_ch, ↓w_tst, ↓w_and, ↓w_or, ↓w_ifeE, ↓w_call, ↓w_callK, ↓w_callF, ↓w_callV, ↓w_lc, ↓w_turn, ↓w_nil, ↓w_cons, ↓w_onil, ↓w_oconsV, ↓w_yes, ↓w_tnot, ↓w_tand, ↓w_tor, ↓w_texV, ↓te_callK, ↓oc_callK, ↓rt_callK, ↓te_callF, ↓oc_callF, ↓rt_callF, ↓te_callV, ↓oc_callV, ↓rt_callV, ↓te_k, ↓oc_k, ↓rt_k, ↓te_gl, ↓oc_gl, ↓rt_gl, ↓te_tup, ↓oc_tup, ↓rt_tup, ↓te_lst, ↓oc_lst, ↓rt_lst, ↓te_dct, ↓oc_dct, ↓rt_dct, ↓te_ch, ↓oc_ch, ↓rt_ch, ↓te_sl, ↓oc_sl, ↓rt_sl, ↓te_mc, ↓oc_mc, ↓rt_mc, ↓te_bi, ↓oc_bi, ↓rt_bi, ↓te_tst, ↓oc_tst, ↓rt_tst, ↓te_and, ↓oc_and, ↓rt_and, ↓te_or, ↓oc_or, ↓rt_or, ↓te_ife, ↓oc_ife, ↓rt_ife, ↓te_call, ↓oc_call, ↓rt_call, ↓te_lc, ↓oc_lc, ↓rt_lc, ↓w_anil, ↓w_aref, ↓w_aval, ↓w_asg, ↓w_asgO, ↓w_n, ↓w_tT, ↓w_tsN, ↓w_tsC, ↓w_aug, ↓w_mu, ↓w_setI, ↓w_ex, ↓w_retV, ↓w_retN, ↓w_ife, ↓w_for, ↓w_while, ↓w_starA, ↓w_brk, ↓w_cont, ↓w_pass, ↓w_snil, ↓w_scons, ↓w_body,
    ↓W_some, ↓W_if, ↓ifB_t, ↓ifB_f, ↓ifB_not, ↓onSl_v, ↓onSl_o, ↓onSl_b, ↓onNx_n, ↓onNx_b, ↓onNx_c, ↓onNx_r, ↓endF_r, ↓endF_n, ↓onFl_n, ↓onFl_c, ↓onFl_b, ↓onFl_r, ↓asB_b, ↓as1_1, ↓as2_2, notBor_u, notBor_v, notBor_o,
    ↓x_add, ↓x_addS, ↓x_addT, ↓x_addL, ↓x_iadd, ↓x_isub, ↓x_sub, ↓x_mul, ↓x_fdiv, ↓x_mod, ↓x_pow, ↓x_neg, ↓x_eq, ↓x_ne, ↓x_lt, ↓x_le, ↓x_gt, ↓x_ge, ↓x_isN, ↓x_notN, ↓x_isB, ↓x_notB, ↓x_inS, ↓x_ninS, ↓x_itemL, ↓x_itemT, ↓x_itemScr, ↓x_itemS, ↓x_lenL, ↓x_lenT, ↓x_lenScr, ↓x_lenS, ↓x_abs, ↓x_max, ↓x_min, ↓x_intI, ↓x_intB, ↓x_rev, ↓x_revT, ↓x_count, ↓x_repr, ↓x_str, ↓xi_n, ↓xi_b, ↓xi_i, ↓xi_s, ↓xi_l, ↓xi_t, ↓xi_d0, ↓xi_dS, ↓xi_dI, ↓x_all, ↓x_any, ↓x_join, ↓x_tupleL, ↓x_tupleT, ↓x_listL, ↓x_listT, ↓x_cutL, ↓x_cutT, ↓x_cutS, ↓x_ca0, ↓x_ca1, ↓x_ca2, ↓x_ca3, ↓tr_b, ↓tr_n, ↓tr_i, ↓tr_l, ↓tr_t, ↓it_l, ↓it_t, ↓it_s, ↓it_r1, ↓it_r2, ↓it_en, ↓it_z,
    fillD, List.map_cons, List.map_nil, Option.map_some, in_n, in_b, in_i, in_s, in_t, in_l, in_d, ek_s, ek_i, ek_b, ln_n, ln_b, ln_i, ln_s, ln_t, ln_d, ln_l, opdV, deref, derefs, mutAt, listAt, agD, backS, Ag.slots, nodupB, noMut, wipeS, restS, outS, argS, mut_u, mut_v, mut_o, mut_b, iv_k, iv_gl, iv_tup, iv_lst, iv_dct, iv_ch, iv_sl, iv_mc, iv_bi, iv_tst, iv_and, iv_or, iv_ife, iv_call, iv_lc, isKey, sc_n, sc_b, sc_i, sc_s, sc_l, sc_t, sc_d0, sc_dS, sc_dI, tyName, atI_0, atI_1, atI_2, atI_3, x_set0, x_set1, x_set2,
    List.getElem?_cons_succ, List.getElem?_cons_zero, List.getElem?_nil, List.set_cons_succ, List.set_cons_zero, List.cons_append, List.nil_append, List.replicate, Nat.reduceSub, Option.bind_some, Option.toList_some, Option.toList_none, List.getD_cons_succ, List.getD_cons_zero, Bool.not_true, Bool.not_false, true_and, and_true, List.contains_nil, List.all_cons, List.all_nil, Bool.and_true, Bool.true_and, decide_true, decide_false, Bool.true_eq_false, Bool.false_eq_true, kit_ii, kit_bi, kit_ni, kit_si, kit_li, kit_ti, kit_di, kit_ib, kit_bb, kit_nb, kit_sb, kit_lb, kit_tb, kit_db, kit_is, kit_bs, kit_ns, kit_ss, kit_ls, kit_ts, kit_ds, kit_it, kit_bt, kit_nt, kit_st, kit_lt, kit_tt, kit_dt, kit_il, kit_bl, kit_nl, kit_sl, kit_ll, kit_tl, kit_dl, sh_n, sh_b, sh_i, eqv_ii, eqv_bb, ↓nb_ff, ↓nb_ft, ↓nb_tf, ↓nb_tt])


section
variable {P : Nat → Option Fn} {n : Nat} {Q : D × Bool × List D → Prop}
def strK (k : Nat) (x : D) : Prop := ∃ s, x = .str s ∧ WOk k s
theorem abc_len : (Str.ofString "abcdefghijklmnopqrstuvwxyz").cps.toList.length = 26 := by decide +kernel
theorem abc_ok : ∀ c ∈ (Str.ofString "abcdefghijklmnopqrstuvwxyz").cps.toList, c < 0x110000 := by decide +kernel
/-- a comprehension that gives something in each turn -/
theorem w_lcAll {turn : D → Ss → Option (Option D × Ss)} (I : Nat → Ss → Prop) (Pr : D → Prop) {Q : List D × Ss → Prop} (items : List D) (sl : Ss) (h : I 0 sl) (ht : ∀ i d sl, items[i]? = some d → I i sl → W (turn d sl) (fun p => (∃ x, p.1 = some x ∧ Pr x) ∧ I (i + 1) p.2))
    (k : ∀ rs sl, rs.length = items.length → (∀ x ∈ rs, Pr x) → I items.length sl → Q (rs, sl)) : W (lcGo turn items sl) Q := by
  refine w_lcGo (fun i acc sl => I i sl ∧ acc.length = i ∧ ∀ x ∈ acc, Pr x) items 0 [] sl ⟨h, rfl, fun x hx => (nomatch hx)⟩ (fun i acc d sl _ hd hI => ?_) (fun rs sl hI => ?_)
  · obtain ⟨h1, h2, h3⟩ := hI
    refine (ht i d sl (by simpa using hd) h1).imp fun p hp => ?_
    obtain ⟨⟨x, e, px⟩, hi⟩ := hp
    rw [e]
    refine ⟨hi, by rw [Option.toList_some, List.length_append, h2]; rfl, fun y hy => ?_⟩
    rw [Option.toList_some] at hy
    rcases List.mem_append.mp hy with q | q
    · exact h3 y q
    · rw [List.mem_singleton] at q
      rw [q]
      exact px
  · rw [Nat.zero_add, List.nil_append] at hI
    exact k rs sl hI.2.1 hI.2.2 hI.1
theorem WOk.lit {s : Str} (k : Nat) (h : (decide (s.length ≤ k) && s.cps.toList.all fun c => decide (c < 0x110000)) = true) : WOk k s := by
  rw [Bool.and_eq_true, decide_eq_true_eq, List.all_eq_true] at h
  exact ⟨h.1, fun c hc => of_decide_eq_true (h.2 c hc)⟩
theorem names_spec {m : Nat} {fd : D} {many : Int} (hP : P 12 = some f12) (hP3 : P 3 = some f3) (hf : FeedOk m fd) (hm : m < 2 ^ 61) (h0 : 0 ≤ many) (h1 : many ≤ 1000) (k : ∀ ds fd', (∀ x ∈ ds, strK 30 x) → ds.length = many.toNat → FeedOk (m + 4) fd' → Q (.list ds, true, [fd'])) : W (callN ap aM aS P (n + 2) 12 [(true, fd), (false, .int many)]) Q := by
  refine w_fn hP rfl (by decide) ?_
  unfold f12
  trivial
  refine take_spec hP3 hf (by omega) (by decide) (by decide) fun r1 fd1 a1 b1 hf1 => ?_
  trivial
  refine take_spec hP3 hf1 (by omega) (by decide) (by decide) fun r2 fd2 a2 b2 hf2 => ?_
  trivial
  refine ifD_of (fun h => ?_) (fun h => ?_)
  · trivial
    refine ⟨⟨by omega, by omega⟩, ?_⟩
    generalize hws : ([PyData.str (Str.ofString "ask"), .str (Str.ofString "answer"), .str (Str.ofString "up"), .str (Str.ofString "down"), .str (Str.ofString "way"), .str (Str.ofString "pair"), .str (Str.ofString "house"), .str (Str.ofString "row"), .str (Str.ofString "tie"), .str (Str.ofString "broken"), .str (Str.ofString "note"), .str (Str.ofString "rule")] : List D) = words
    have hl : words.length = 12 := by rw [← hws]; rfl
    have ho : ∀ x ∈ words, strK 30 x := by
      rw [← hws]
      intro x hx
      simp only [List.mem_cons, List.not_mem_nil, or_false] at hx
      rcases hx with rfl | rfl | rfl | rfl | rfl | rfl | rfl | rfl | rfl | rfl | rfl | rfl <;> exact ⟨_, rfl, WOk.lit 30 (by decide +kernel)⟩
    refine w_lcAll (fun _ sl => ∃ x, sl = [.bor fd2, .val (.int many), .val (.int r1), .own (.list words), .un, .un, .un, x] ∧ x.mut = false ∧ notBor x) (strK 30) _ _ ⟨_, rfl, rfl, True.intro⟩ (fun i d sl hd hI => ?_) (fun rs sl h1 h2 hI => ?_)
    · obtain ⟨x, rfl, hx, hx2⟩ := hI
      obtain ⟨rfl, _⟩ := rangeT_at hd
      trivial
      refine ⟨mulOk_l (by decide), by decide, W_atI (Int.emod_nonneg _ (by decide)) (by rw [hl]; exact Int.emod_lt_of_pos _ (by decide)) fun y hy => ?_⟩
      trivial
      exact ⟨⟨y, rfl, ho y hy⟩, _, rfl, rfl, True.intro⟩
    · obtain ⟨x, rfl, hx, hx2⟩ := hI
      rw [rangeT_length] at h1
      refine ⟨by rw [h1]; exact Nat.le_trans (by omega) (by decide : 1000 ≤ sizeLine), ?_⟩
      trivial
      exact k rs _ h2 h1 (hf2.mono (by omega))
  · trivial
    refine take_spec hP3 hf2 (by omega) (by decide) (by decide) fun r3 fd3 a3 b3 hf3 => ?_
    trivial
    refine W_atI a3 (by simpa using b3) fun bs hb => ?_
    obtain ⟨z, rfl, hz⟩ : strK 6 bs := by
      simp only [List.mem_cons, List.not_mem_nil, or_false] at hb
      rcases hb with rfl | rfl | rfl | rfl <;> exact ⟨_, rfl, WOk.lit 6 (by decide +kernel)⟩
    trivial
    refine ⟨Nat.le_trans hz.1 (by decide), ?_⟩
    refine take_spec hP3 hf3 (by omega) (by omega) (by have := hz.1; omega) fun r4 fd4 a4 b4 hf4 => ?_
    trivial
    refine ⟨⟨by omega, by omega⟩, ?_⟩
    generalize hws : ([PyData.str (Str.ofString "ask"), .str (Str.ofString "answer"), .str (Str.ofString "up"), .str (Str.ofString "down"), .str (Str.ofString "way"), .str (Str.ofString "pair"), .str (Str.ofString "house"), .str (Str.ofString "row"), .str (Str.ofString "tie"), .str (Str.ofString "broken"), .str (Str.ofString "note"), .str (Str.ofString "rule")] : List D) = words
    refine w_lcAll (fun _ sl => ∃ x, sl = [.bor fd4, .val (.int many), .val (.int r1), .own (.list words), .val (.str z), .val (.int r4), .val (.str (Str.ofString "abcdefghijklmnopqrstuvwxyz")), x] ∧ x.mut = false ∧ notBor x) (strK 30) _ _ ⟨_, rfl, rfl, True.intro⟩ (fun i d sl hd hI => ?_) (fun rs sl h1 h2 hI => ?_)
    · obtain ⟨x, rfl, hx, hx2⟩ := hI
      obtain ⟨rfl, _⟩ := rangeT_at hd
      trivial
      refine ⟨Nat.le_trans hz.1 (by decide), mulOk_l (by decide), by decide, by decide +kernel, W_atI (Int.emod_nonneg _ (by decide)) (by rw [abc_len]; exact Int.emod_lt_of_pos _ (by decide)) fun c hc => ?_⟩
      trivial
      have w1 := (hz.cut none (some r4)).app (WOk.chr (abc_ok c hc))
      have w2 := hz.cut (some r4) none
      refine ⟨(hz.cut none (some r4)).len2 (WOk.chr (abc_ok c hc)) (by decide), Nat.le_trans hz.1 (by decide), w1.len2 w2 (by decide), ?_⟩
      trivial
      exact ⟨⟨_, rfl, _, rfl, (w1.app w2).mono (by decide)⟩, _, rfl, rfl, True.intro⟩
    · obtain ⟨x, rfl, hx, hx2⟩ := hI
      rw [rangeT_length] at h1
      refine ⟨by rw [h1]; exact Nat.le_trans (by omega) (by decide : 1000 ≤ sizeLine), ?_⟩
      trivial
      exact k rs _ h2 h1 (hf4.mono (by omega))
theorem ShowOk.mono {m c m' c' : Nat} {d : D} (h : ShowOk m c d) (l : m ≤ m') (l2 : c ≤ c') : ShowOk m' c' d := ⟨h.cl, h.sh, Nat.le_trans h.dp l, Nat.le_trans h.ln l2⟩
theorem cut_mem {ds : List D} {lo hi : Option Int} {x : D} (h : x ∈ cutD ds lo hi) : x ∈ ds := by
  unfold cutD at h
  exact List.mem_of_mem_drop (List.mem_of_mem_take h)
theorem sIx_pos {n d : Nat} {v : Int} (h : 0 ≤ v) : HT.sIx n d (some v) = min v.toNat n := by
  show (if v < 0 then (v + (n : Int)).toNat else min v.toNat n) = min v.toNat n
  rw [if_neg (by omega)]
theorem cut_to {ds : List D} {i : Int} (h : 0 ≤ i) : (cutD ds none (some i)).length ≤ i.toNat := by
  unfold cutD
  rw [sIx_pos h, HT.sIx_none, List.length_take]
  omega
theorem cut_from {ds : List D} {i : Int} (h : 0 ≤ i) : (cutD ds (some i) none).length ≤ ds.length - i.toNat := by
  unfold cutD
  rw [sIx_pos h, HT.sIx_none, List.length_take, List.length_drop]
  omega
theorem cut_mid {ds : List D} {i j : Int} (h : 0 ≤ i) (h2 : 0 ≤ j) : (cutD ds (some i) (some j)).length ≤ j.toNat - i.toNat := by
  unfold cutD
  rw [sIx_pos h, sIx_pos h2, List.length_take, List.length_drop]
  omega
end

end EV
namespace EV
open PySem PySem.Spec L2
open PyProof.Rows hiding St
local macro_rules
  | `(tactic| trivial) => `(tactic| simp -failIfUnchanged only [↓w_k, ↓w_gl, ↓w_v, ↓w_tup, ↓w_lst, ↓w_dct0, ↓w_dct1, ↓w_bi, ↓w_mc, ↓w_sl, ↓w_ch, ↓w_tst, ↓w_and, ↓w_or, ↓w_ifeE, ↓w_call, ↓w_callK, ↓w_callF, ↓w_callV, ↓w_lc, ↓w_turn, ↓w_nil, ↓w_cons, ↓w_onil, ↓w_oconsV, ↓w_yes, ↓w_tnot, ↓w_tand, ↓w_tor, ↓w_texV, ↓te_callK, ↓oc_callK, ↓rt_callK, ↓te_callF, ↓oc_callF, ↓rt_callF, ↓te_callV, ↓oc_callV, ↓rt_callV, ↓te_k, ↓oc_k, ↓rt_k, ↓te_gl, ↓oc_gl, ↓rt_gl, ↓te_tup, ↓oc_tup, ↓rt_tup, ↓te_lst, ↓oc_lst, ↓rt_lst, ↓te_dct, ↓oc_dct, ↓rt_dct, ↓te_ch, ↓oc_ch, ↓rt_ch, ↓te_sl, ↓oc_sl, ↓rt_sl, ↓te_mc, ↓oc_mc, ↓rt_mc, ↓te_bi, ↓oc_bi, ↓rt_bi, ↓te_tst, ↓oc_tst, ↓rt_tst, ↓te_and, ↓oc_and, ↓rt_and, ↓te_or, ↓oc_or, ↓rt_or, ↓te_ife, ↓oc_ife, ↓rt_ife, ↓te_call, ↓oc_call, ↓rt_call, ↓te_lc, ↓oc_lc, ↓rt_lc, ↓w_anil, ↓w_aref, ↓w_aval, ↓w_asg, ↓w_asgO, ↓w_n, ↓w_tT, ↓w_tsN, ↓w_tsC, ↓w_aug, ↓w_mu, ↓w_setI, ↓w_ex, ↓w_retV, ↓w_retN, ↓w_ife, ↓w_for, ↓w_while, ↓w_starA, ↓w_brk, ↓w_cont, ↓w_pass, ↓w_snil, ↓w_scons, ↓w_body,
    ↓W_some, ↓W_if, ↓ifB_t, ↓ifB_f, ↓ifB_not, ↓onSl_v, ↓onSl_o, ↓onSl_b, ↓onNx_n, ↓onNx_b, ↓onNx_c, ↓onNx_r, ↓endF_r, ↓endF_n, ↓onFl_n, ↓onFl_c, ↓onFl_b, ↓onFl_r, ↓asB_b, ↓as1_1, ↓as2_2, notBor_u, notBor_v, notBor_o,
    ↓x_add, ↓x_addS, ↓x_addT, ↓x_addL, ↓x_iadd, ↓x_isub, ↓x_sub, ↓x_mul, ↓x_fdiv, ↓x_mod, ↓x_pow, ↓x_neg, ↓x_eq, ↓x_ne, ↓x_lt, ↓x_le, ↓x_gt, ↓x_ge, ↓x_isN, ↓x_notN, ↓x_isB, ↓x_notB, ↓x_inS, ↓x_ninS, ↓x_itemL, ↓x_itemT, ↓x_itemScr, ↓x_itemS, ↓x_lenL, ↓x_lenT, ↓x_lenScr, ↓x_lenS, ↓x_abs, ↓x_max, ↓x_min, ↓x_intI, ↓x_intB, ↓x_rev, ↓x_revT, ↓x_count, ↓x_repr, ↓x_str, ↓xi_n, ↓xi_b, ↓xi_i, ↓xi_s, ↓xi_l, ↓xi_t, ↓xi_d0, ↓xi_dS, ↓xi_dI, ↓x_all, ↓x_any, ↓x_join, ↓x_tupleL, ↓x_tupleT, ↓x_listL, ↓x_listT, ↓x_cutL, ↓x_cutT, ↓x_cutS, ↓x_ca0, ↓x_ca1, ↓x_ca2, ↓x_ca3, ↓tr_b, ↓tr_n, ↓tr_i, ↓tr_l, ↓tr_t, ↓it_l, ↓it_t, ↓it_s, ↓it_r1, ↓it_r2, ↓it_en, ↓it_z,
    fillD, List.map_cons, List.map_nil, Option.map_some, in_n, in_b, in_i, in_s, in_t, in_l, in_d, ek_s, ek_i, ek_b, ln_n, ln_b, ln_i, ln_s, ln_t, ln_d, ln_l, opdV, deref, derefs, mutAt, listAt, agD, backS, Ag.slots, nodupB, noMut, wipeS, restS, outS, argS, mut_u, mut_v, mut_o, mut_b, iv_k, iv_gl, iv_tup, iv_lst, iv_dct, iv_ch, iv_sl, iv_mc, iv_bi, iv_tst, iv_and, iv_or, iv_ife, iv_call, iv_lc, isKey, sc_n, sc_b, sc_i, sc_s, sc_l, sc_t, sc_d0, sc_dS, sc_dI, tyName, atI_0, atI_1, atI_2, atI_3, x_set0, x_set1, x_set2,
    List.getElem?_cons_succ, List.getElem?_cons_zero, List.getElem?_nil, List.set_cons_succ, List.set_cons_zero, List.cons_append, List.nil_append, List.replicate, Nat.reduceSub, Option.bind_some, Option.toList_some, Option.toList_none, List.getD_cons_succ, List.getD_cons_zero, Bool.not_true, Bool.not_false, true_and, and_true, List.contains_nil, List.all_cons, List.all_nil, Bool.and_true, Bool.true_and, decide_true, decide_false, Bool.true_eq_false, Bool.false_eq_true, kit_ii, kit_bi, kit_ni, kit_si, kit_li, kit_ti, kit_di, kit_ib, kit_bb, kit_nb, kit_sb, kit_lb, kit_tb, kit_db, kit_is, kit_bs, kit_ns, kit_ss, kit_ls, kit_ts, kit_ds, kit_it, kit_bt, kit_nt, kit_st, kit_lt, kit_tt, kit_dt, kit_il, kit_bl, kit_nl, kit_sl, kit_ll, kit_tl, kit_dl, sh_n, sh_b, sh_i, eqv_ii, eqv_bb, ↓nb_ff, ↓nb_ft, ↓nb_tf, ↓nb_tt])


/-- _law_number -/
def f31 : Fn := ⟨2, 3, [true, false], (.cons (.asgO 2 (.call 3 [true, false] (.cons (.v 0) (.cons (.bi .pow (.cons (.k (.int 10)) (.cons (.k (.int 6)) .nil))) .nil)))) (.cons (.ret (.bi .add (.cons (.v 1) (.cons (.bi .item (.cons (.lst (.cons (.k (.int 0)) (.cons (.k (.int 1)) (.cons (.k (.int 2)) (.cons (.bi .mod (.cons (.v 2) (.cons (.k (.int 9)) .nil))) (.cons (.k (.int 9)) (.cons (.k (.int 99)) (.cons (.v 2) (.cons (.bi .sub (.cons (.bi .sub (.cons (.bi .pow (.cons (.k (.int 10)) (.cons (.k (.int 60)) .nil))) (.cons (.k (.int 9)) .nil))) (.cons (.v 2) .nil))) .nil))))))))) (.cons (.call 3 [true, false] (.cons (.v 0) (.cons (.k (.int 8)) .nil))) .nil))) .nil)))) .nil))⟩
/-- _law_odd -/
def f14 : Fn := ⟨2, 4, [true, false], (.cons (.asgO 2 (.call 3 [true, false] (.cons (.v 0) (.cons (.k (.int 12)) .nil)))) (.cons (.ife (.ex (.bi .isN (.cons (.v 1) .nil))) (.cons (.ret (.bi .item (.cons (.lst (.cons (.k (.int 0)) (.cons (.k (.int 1)) (.cons (.k (.str (Str.ofString ""))) (.cons (.tup .nil) (.cons (.lst .nil) (.cons (.k (.bool false)) (.cons (.k (.str (Str.ofString "None"))) (.cons (.dct .nil) (.cons (.tup (.cons (.k .none) .nil)) (.cons (.lst (.cons (.k .none) .nil)) (.cons (.k (.int 7)) (.cons (.k (.str (Str.ofString "-"))) .nil))))))))))))) (.cons (.v 2) .nil)))) .nil) .nil) (.cons (.ife (.ex (.bi (.isin "bool") (.cons (.v 1) .nil))) (.cons (.ret (.bi .item (.cons (.lst (.cons (.tst (.not (.ex (.v 1)))) (.cons (.bi .int (.cons (.v 1) .nil)) (.cons (.k .none) (.cons (.bi .str (.cons (.v 1) .nil)) (.cons (.tup (.cons (.v 1) .nil)) (.cons (.lst (.cons (.v 1) .nil)) (.cons (.k (.int 0)) (.cons (.k (.int 1)) (.cons (.k (.str (Str.ofString ""))) (.cons (.tup .nil) (.cons (.k (.int 2)) (.cons (.tst (.not (.ex (.v 1)))) .nil))))))))))))) (.cons (.v 2) .nil)))) .nil) .nil) (.cons (.ife (.ex (.bi (.isin "int") (.cons (.v 1) .nil))) (.cons (.asgO 3 (.lst (.cons (.bi .add (.cons (.v 1) (.cons (.k (.int 1)) .nil))) (.cons (.bi .sub (.cons (.v 1) (.cons (.k (.int 1)) .nil))) (.cons (.bi .sub (.cons (.k (.int 0)) (.cons (.v 1) .nil))) (.cons (.bi .eq (.cons (.v 1) (.cons (.k (.int 1)) .nil))) (.cons (.k .none) (.cons (.bi .str (.cons (.v 1) .nil)) (.cons (.tup (.cons (.v 1) .nil)) (.cons (.lst (.cons (.v 1) .nil)) (.cons (.bi .pow (.cons (.k (.int 10)) (.cons (.k (.int 30)) .nil))) (.cons (.bi .sub (.cons (.k (.int 0)) (.cons (.bi .pow (.cons (.k (.int 10)) (.cons (.k (.int 30)) .nil))) .nil))) .nil)))))))))))) (.cons (.ret (.bi .item (.cons (.bi .add (.cons (.v 3) (.cons (.lst (.cons (.k (.int 3)) (.cons (.bi .neg (.cons (.k (.int 1)) .nil)) .nil))) .nil))) (.cons (.v 2) .nil)))) .nil)) .nil) (.cons (.ife (.ex (.bi (.isin "str") (.cons (.v 1) .nil))) (.cons (.asgO 3 (.lst (.cons (.bi .add (.cons (.v 1) (.cons (.k (.str (Str.ofString "a"))) .nil))) (.cons (.sl false true (.cons (.v 1) .nil) (.cons (.bi .neg (.cons (.k (.int 1)) .nil)) .nil)) (.cons (.mc .upper (.cons (.v 1) .nil) .nil) (.cons (.k (.str (Str.ofString ""))) (.cons (.k (.str (Str.ofString "a-b"))) (.cons (.k .none) (.cons (.k (.int 7)) (.cons (.k (.bool true)) (.cons (.lst (.cons (.v 1) .nil)) (.cons (.tup (.cons (.v 1) .nil)) (.cons (.bi .rev (.cons (.v 1) .nil)) .nil))))))))))))) (.cons (.ret (.bi .item (.cons (.bi .add (.cons (.v 3) (.cons (.lst (.cons (.bi .add (.cons (.v 1) (.cons (.k (.str (Str.ofString "\n"))) .nil))) .nil)) .nil))) (.cons (.v 2) .nil)))) .nil)) .nil) (.cons (.asgO 3 (.lst (.cons (.bi .list (.cons (.v 1) .nil)) (.cons (.bi .add (.cons (.v 1) (.cons (.sl false true (.cons (.v 1) .nil) (.cons (.k (.int 1)) .nil)) .nil))) (.cons (.sl false true (.cons (.v 1) .nil) (.cons (.bi .neg (.cons (.k (.int 1)) .nil)) .nil)) (.cons (.bi .rev (.cons (.v 1) .nil)) (.cons (.tup .nil) (.cons (.k .none) (.cons (.k (.int 7)) (.cons (.k (.str (Str.ofString "ab"))) (.cons (.dct .nil) (.cons (.bi .add (.cons (.v 1) (.cons (.tup (.cons (.k .none) .nil)) .nil))) (.cons (.lst (.cons (.v 1) .nil)) .nil))))))))))))) (.cons (.ret (.bi .item (.cons (.bi .add (.cons (.v 3) (.cons (.lst (.cons (.sl true false (.cons (.v 1) .nil) (.cons (.k (.int 1)) .nil)) .nil)) .nil))) (.cons (.v 2) .nil)))) .nil)))))))⟩
/-- _law_bent -/
def f15 : Fn := ⟨2, 3, [true, false], (.cons (.ife (.and (.ex (.bi (.isin "tuple") (.cons (.v 1) .nil))) (.and (.ex (.bi .ne (.cons (.v 1) (.cons (.tup .nil) .nil)))) (.ex (.bi .gt (.cons (.call 3 [true, false] (.cons (.v 0) (.cons (.k (.int 5)) .nil))) (.cons (.k (.int 0)) .nil)))))) (.cons (.asgO 2 (.call 3 [true, false] (.cons (.v 0) (.cons (.bi .len (.cons (.v 1) .nil)) .nil)))) (.cons (.ret (.bi .add (.cons (.bi .add (.cons (.sl false true (.cons (.v 1) .nil) (.cons (.v 2) .nil)) (.cons (.tup (.cons (.call 15 [true, false] (.cons (.v 0) (.cons (.bi .item (.cons (.v 1) (.cons (.v 2) .nil))) .nil))) .nil)) .nil))) (.cons (.sl true false (.cons (.v 1) .nil) (.cons (.bi .add (.cons (.v 2) (.cons (.k (.int 1)) .nil))) .nil)) .nil)))) .nil)) .nil) (.cons (.ret (.call 14 [true, false] (.cons (.v 0) (.cons (.v 1) .nil)))) .nil))⟩
/-- _law_is_tuple -/
def f17 : Fn := ⟨3, 3, [false, false, false], (.cons (.ret (.and (.bi (.isin "tuple") (.cons (.v 0) .nil)) (.ch .le .le (.cons (.v 1) (.cons (.bi .len (.cons (.v 0) .nil)) .nil)) (.cons (.v 2) .nil)))) .nil)⟩
/-- _law_from -/
def f33 : Fn := ⟨2, 2, [false, false], (.cons (.ret (.and (.bi (.isin "int") (.cons (.v 0) .nil)) (.and (.tst (.not (.ex (.bi (.isin "bool") (.cons (.v 0) .nil))))) (.bi .ge (.cons (.v 0) (.cons (.v 1) .nil)))))) .nil)⟩
/-- _law_is_label -/
def f34 : Fn := ⟨1, 1, [false], (.cons (.ife (.ex (.bi .isN (.cons (.v 0) .nil))) (.cons (.ret (.k (.bool true))) .nil) .nil) (.cons (.ife (.or (.not (.ex (.call 17 [false, false, false] (.cons (.v 0) (.cons (.k (.int 2)) (.cons (.k (.int 2)) .nil)))))) (.not (.ex (.call 33 [false, false] (.cons (.bi .item (.cons (.v 0) (.cons (.k (.int 0)) .nil))) (.cons (.k (.int 1)) .nil)))))) (.cons (.ret (.k (.bool false))) .nil) .nil) (.cons (.ret (.or (.bi .isN (.cons (.bi .item (.cons (.v 0) (.cons (.k (.int 1)) .nil))) .nil)) (.call 33 [false, false] (.cons (.bi .item (.cons (.v 0) (.cons (.k (.int 1)) .nil))) (.cons (.k (.int 0)) .nil))))) .nil)))⟩
/-- _law_odds -/
def f20 : Fn := ⟨0, 1, [], (.cons (.asgO 0 (.lst (.cons (.k .none) (.cons (.k (.bool true)) (.cons (.k (.bool false)) (.cons (.k (.int 0)) (.cons (.k (.int 7)) (.cons (.bi .neg (.cons (.k (.int 1)) .nil)) (.cons (.k (.str (Str.ofString ""))) (.cons (.k (.str (Str.ofString "a"))) (.cons (.k (.str (Str.ofString "up"))) (.cons (.tup .nil) (.cons (.lst .nil) (.cons (.dct .nil) (.cons (.tup (.cons (.k (.str (Str.ofString "a"))) .nil)) (.cons (.lst (.cons (.k (.str (Str.ofString "a"))) .nil)) (.cons (.dct (.cons (.k (.str (Str.ofString "a"))) (.cons (.k (.int 1)) .nil))) (.cons (.tup (.cons (.k (.str (Str.ofString "a"))) (.cons (.k (.str (Str.ofString "b"))) .nil))) (.cons (.tup (.cons (.k (.str (Str.ofString "up"))) .nil)) .nil))))))))))))))))))) (.cons (.ret (.bi .add (.cons (.v 0) (.cons (.lst (.cons (.tup (.cons (.tup (.cons (.k (.str (Str.ofString "a"))) (.cons (.k (.str (Str.ofString "b"))) .nil))) (.cons (.tup .nil) .nil))) (.cons (.lst (.cons (.lst (.cons (.k (.str (Str.ofString "a"))) .nil)) (.cons (.lst .nil) .nil))) (.cons (.tup (.cons (.tup .nil) (.cons (.tup .nil) .nil))) (.cons (.tup (.cons (.k (.int 1)) (.cons (.k (.int 0)) .nil))) (.cons (.tup (.cons (.k (.int 1)) (.cons (.k .none) .nil))) (.cons (.tup (.cons (.k (.str (Str.ofString "broken"))) (.cons (.tup .nil) .nil))) .nil))))))) .nil)))) .nil))⟩
section
variable {P : Nat → Option Fn} {n : Nat} {Q : D × Bool × List D → Prop}
theorem p60 : (10 : Int) ^ (60 : Int).toNat = 1000000000000000000000000000000000000000000000000000000000000 := by decide +kernel
theorem p6 : (10 : Int) ^ (6 : Int).toNat = 1000000 := by decide +kernel
theorem number_spec {m : Nat} {fd : D} {lo : Int} (hP : P 31 = some f31) (hP3 : P 3 = some f3) (hf : FeedOk m fd) (hm : m < 2 ^ 61) (k : ∀ r fd', lo ≤ r → r ≤ lo + 999999999999999999999999999999999999999999999999999999999991 → FeedOk (m + 2) fd' → Q (.int r, false, [fd'])) : W (callN ap aM aS P (n + 2) 31 [(true, fd), (false, .int lo)]) Q := by
  refine w_fn hP rfl (by decide) ?_
  unfold f31
  trivial
  rw [p6]
  refine ⟨by decide, ?_⟩
  refine take_spec hP3 hf (by omega) (by decide) (by decide) fun r1 fd1 a1 b1 hf1 => ?_
  trivial
  rw [p60]
  refine ⟨by decide, by decide, ?_⟩
  refine take_spec hP3 hf1 (by omega) (by decide) (by decide) fun r2 fd2 a2 b2 hf2 => ?_
  trivial
  refine W_atI a2 (by simpa using b2) fun y hy => ?_
  obtain ⟨z, rfl, z0, z1⟩ : ∃ z : Int, y = .int z ∧ 0 ≤ z ∧ z ≤ 999999999999999999999999999999999999999999999999999999999991 := by
    simp only [List.mem_cons, List.not_mem_nil, or_false] at hy
    rcases hy with rfl | rfl | rfl | rfl | rfl | rfl | rfl | rfl <;> exact ⟨_, rfl, by omega, by omega⟩
  trivial
  exact k _ _ (by omega) (by omega) (hf2.mono (by omega))
theorem p30 : (10 : Int) ^ (30 : Int).toNat = 1000000000000000000000000000000 := by decide +kernel
theorem nat60 : (10 : Nat) ^ 60 = 1000000000000000000000000000000000000000000000000000000000000 := by decide +kernel
theorem ofS_ok (t : String) : ∀ c ∈ (Str.ofString t).cps.toList, c < 0x110000 := by
  intro c hc
  rw [Str.ofString_eq_byList] at hc
  obtain ⟨x, _, rfl⟩ := List.mem_map.mp (show c ∈ t.toList.map Char.toNat from hc)
  rcases x.valid with h | h
  · exact Nat.lt_trans h (by decide)
  · exact h.2
theorem WOk.show {i : Int} (h : i.natAbs < 10 ^ 60) : WOk 61 (Str.ofString (toString i)) := by
  refine ⟨?_, ofS_ok _⟩
  have z := int_text_length_le10 (k := 60) (by decide) h
  exact Nat.le_trans (Nat.le_of_eq (PySem.ofString_length _)) z
theorem WOk.show0 {i : Int} (h0 : 0 ≤ i) (h : i < 1000000000000000000000000000000000000000000000000000000000000) : WOk 60 (Str.ofString (toString i)) := by
  refine ⟨?_, ofS_ok _⟩
  cases i with
  | ofNat m =>
    have e : toString (Int.ofNat m) = Nat.repr m := rfl
    refine Nat.le_trans (Nat.le_of_eq (PySem.ofString_length _)) ?_
    rw [e]
    refine (Nat.length_repr_le_iff (by decide)).mpr ?_
    rw [nat60]
    have h : (m : Int) < _ := h
    omega
  | negSucc m => exact absurd h0 (by omega)
theorem okD_n {n : Nat} : okD n .none := by cases n <;> exact True.intro
theorem okD_b {n : Nat} {b : Bool} : okD n (.bool b) := by cases n <;> exact True.intro
theorem okD_i {n : Nat} {i : Int} (h : i.natAbs < 10 ^ 100) : okD n (.int i) := by cases n <;> exact h
theorem okD_s {n : Nat} {s : Str} (h : WOk 60 s) : okD n (.str s) := by cases n <;> exact h
theorem okD_t0 {n : Nat} : okD n (.tuple []) := by cases n <;> exact ⟨by simp, fun x hx => (nomatch hx)⟩
theorem okD_l0 {n : Nat} : okD n (.list []) := by cases n <;> exact ⟨by simp, fun x hx => (nomatch hx)⟩
theorem okD_d0 {n : Nat} : okD n (.dict []) := by cases n <;> exact rfl
theorem okD_t1 {n : Nat} {d : D} (h : okD n d) : okD (n + 1) (.tuple [d]) := ⟨by simp, fun x hx => by rw [List.mem_singleton.mp hx]; exact h⟩
theorem okD_l1 {n : Nat} {d : D} (h : okD n d) : okD (n + 1) (.list [d]) := ⟨by simp, fun x hx => by rw [List.mem_singleton.mp hx]; exact h⟩
theorem okD_t2 {n : Nat} {d e : D} (h : okD n d) (g : okD n e) : okD (n + 1) (.tuple [d, e]) := ⟨by simp, fun x hx => by
  simp only [List.mem_cons, List.not_mem_nil, or_false] at hx
  rcases hx with rfl | rfl
  · exact h
  · exact g⟩
theorem p100 : (10 : Nat) ^ 100 = 10 ^ 60 * 10 ^ 40 := by decide +kernel
theorem small60 {i : Int} (h : i.natAbs ≤ 10 ^ 61) : i.natAbs < 10 ^ 100 := Nat.lt_of_le_of_lt h (by decide +kernel)
theorem nat61 : (10 : Nat) ^ 61 = 10000000000000000000000000000000000000000000000000000000000000 := by decide +kernel
def oddIn (m : Nat) : D → Prop
  | .none => True
  | .int i => 0 ≤ i ∧ i < 1000000000000000000000000000000000000000000000000000000000000
  | .tuple ds => ds.length ≤ 6 ∧ ∀ x ∈ ds, okD m x
  | _ => False
theorem odd_spec {m j : Nat} {fd d : D} (hP : P 14 = some f14) (hP3 : P 3 = some f3) (hf : FeedOk m fd) (hm : m < 2 ^ 61) (hd : oddIn j d) (k : ∀ r fr fd', okD (j + 2) r → FeedOk (m + 1) fd' → Q (r, fr, [fd'])) : W (callN ap aM aS P (n + 2) 14 [(true, fd), (false, d)]) Q := by
  refine w_fn hP rfl (by decide) ?_
  unfold f14
  trivial
  refine take_spec hP3 hf (by omega) (by decide) (by decide) fun r1 fd1 a1 b1 hf1 => ?_
  trivial
  cases d with
  | none =>
    trivial
    refine W_atI a1 (by simpa using b1) fun y hy => ?_
    trivial
    refine k _ _ _ ?_ hf1
    simp only [List.mem_cons, List.not_mem_nil, or_false] at hy
    rcases hy with rfl | rfl | rfl | rfl | rfl | rfl | rfl | rfl | rfl | rfl | rfl | rfl
    · exact okD_i (by decide +kernel)
    · exact okD_i (by decide +kernel)
    · exact okD_s (WOk.lit 60 (by decide +kernel))
    · exact okD_t0
    · exact okD_l0
    · exact okD_b
    · exact okD_s (WOk.lit 60 (by decide +kernel))
    · exact okD_d0
    · exact okD_t1 okD_n
    · exact okD_l1 okD_n
    · exact okD_i (by decide +kernel)
    · exact okD_s (WOk.lit 60 (by decide +kernel))
  | int i =>
    obtain ⟨h0, h1⟩ := hd
    trivial
    have hs : ∀ z : Int, z.natAbs ≤ i.natAbs + 1 → okD (j + 1) (.int z) := fun z hz => okD_i (small60 (by rw [nat61]; omega))
    have hs2 : ∀ z : Int, z.natAbs ≤ i.natAbs + 1 → okD (j + 2) (.int z) := fun z hz => okD_succ (hs z hz)
    refine ⟨log_small (small60 (by rw [nat61]; omega)), ⟨by decide, by decide⟩, ⟨by decide, by decide⟩, by simp only [List.length_cons, List.length_nil]; decide, ?_⟩
    refine W_atI a1 (by simpa using b1) fun y hy => ?_
    trivial
    refine k _ _ _ ?_ hf1
    simp only [List.mem_cons, List.not_mem_nil, or_false] at hy
    rw [p30] at hy
    rcases hy with rfl | rfl | rfl | rfl | rfl | rfl | rfl | rfl | rfl | rfl | rfl | rfl
    · exact hs2 _ (by omega)
    · exact hs2 _ (by omega)
    · exact hs2 _ (by omega)
    · exact okD_b
    · exact okD_n
    · exact okD_s (WOk.show0 h0 h1)
    · exact okD_t1 (hs _ (by omega))
    · exact okD_l1 (hs _ (by omega))
    · exact okD_i (by decide +kernel)
    · exact okD_i (by decide +kernel)
    · exact okD_i (by decide +kernel)
    · exact okD_i (by decide +kernel)
  | tuple ds =>
    obtain ⟨h0, h1⟩ := hd
    trivial
    have sz : ∀ n : Nat, n ≤ 100 → n ≤ sizeLine := fun n h => Nat.le_trans h (by decide)
    have c1 : (cutD ds none (some 1)).length ≤ 1 := cut_to (by decide)
    refine ⟨sz _ (by omega), sz _ (by simp only [List.length_cons, List.length_nil]; omega), by simp only [List.length_cons, List.length_nil]; decide, ?_⟩
    have cl : ∀ lo hi, (cutD ds lo hi).length ≤ ds.length := fun lo hi => by
      unfold cutD
      rw [List.length_take, List.length_drop]
      omega
    have tp : ∀ es : List D, es.length ≤ 12 → (∀ x ∈ es, x ∈ ds ∨ x = .none) → okD (j + 2) (.tuple es) := fun es hl he => ⟨hl, fun x hx => by
      rcases he x hx with q | q
      · exact okD_succ (h1 x q)
      · rw [q]; exact okD_n⟩
    refine W_atI a1 (by simpa using b1) fun y hy => ?_
    trivial
    refine k _ _ _ ?_ hf1
    simp only [List.mem_cons, List.not_mem_nil, or_false] at hy
    rcases hy with rfl | rfl | rfl | rfl | rfl | rfl | rfl | rfl | rfl | rfl | rfl | rfl
    · exact ⟨by omega, fun x hx => okD_succ (h1 x hx)⟩
    · refine tp _ (by rw [List.length_append]; omega) fun x hx => .inl ?_
      rcases List.mem_append.mp hx with q | q
      · exact q
      · exact cut_mem q
    · exact tp _ (Nat.le_trans (cl _ _) (by omega)) fun x hx => .inl (cut_mem hx)
    · exact tp _ (by rw [List.length_reverse]; omega) fun x hx => .inl (List.mem_reverse.mp hx)
    · exact okD_t0
    · exact okD_n
    · exact okD_i (by decide +kernel)
    · exact okD_s (WOk.lit 60 (by decide +kernel))
    · exact okD_d0
    · refine tp _ (by rw [List.length_append]; simp only [List.length_cons, List.length_nil]; omega) fun x hx => ?_
      rcases List.mem_append.mp hx with q | q
      · exact .inl q
      · exact .inr (List.mem_singleton.mp q)
    · exact okD_l1 ⟨by omega, h1⟩
    · exact tp _ (Nat.le_trans (cl _ _) (by omega)) fun x hx => .inl (cut_mem hx)
  | _ => exact hd.elim
/-- what == and != may be asked of -/
def Shp (m : Nat) (d : D) : Prop := d.canLay0 = true ∧ d.depth ≤ m
theorem Shp.all {m : Nat} : ∀ {ds : List D}, (∀ x ∈ ds, Shp m x) → PyData.canLayAll0 ds = true ∧ PyData.depthAll ds ≤ m
  | [], _ => ⟨rfl, Nat.zero_le _⟩
  | d :: ds, h => by
    obtain ⟨h1, h2⟩ := Shp.all fun x hx => h x (List.mem_cons_of_mem _ hx)
    obtain ⟨h3, h4⟩ := h d List.mem_cons_self
    exact ⟨by rw [PyData.canLayAll0, h3, h1]; rfl, by rw [PyData.depthAll]; exact Nat.max_le.mpr ⟨h4, h2⟩⟩
theorem Shp.tup {m : Nat} {ds : List D} (h : ∀ x ∈ ds, Shp m x) : Shp (m + 1) (.tuple ds) := by
  obtain ⟨h1, h2⟩ := Shp.all h
  exact ⟨by rw [PyData.canLay0]; exact h1, by rw [PyData.depth]; omega⟩
theorem Shp.mono {m k : Nat} {d : D} (h : Shp m d) (l : m ≤ k) : Shp k d := ⟨h.1, Nat.le_trans h.2 l⟩
theorem Shp.ok {m : Nat} {d : D} (h : Shp m d) (l : m ≤ 64) : SeqAt.shaped d = true := by
  unfold SeqAt.shaped
  rw [h.1, decide_eq_true (Nat.le_trans h.2 l)]
  rfl
theorem Shp.no {m : Nat} : Shp m .none := ⟨rfl, Nat.zero_le _⟩
theorem Shp.int {m : Nat} {i : Int} : Shp m (.int i) := ⟨rfl, Nat.zero_le _⟩
theorem Shp.bool {m : Nat} {b : Bool} : Shp m (.bool b) := ⟨rfl, Nat.zero_le _⟩
theorem Shp.str {m k : Nat} {s : Str} (h : WOk k s) : Shp m (.str s) := ⟨by rw [PyData.canLay0]; exact h.ok, by rw [PyData.depth]; exact Nat.zero_le _⟩
/-- a thing that may be bent at any place -/
def bentA (P : D → Prop) : D → Prop
  | .none => True
  | .int i => 0 ≤ i ∧ i < 1000000000000000000000000000000000000000000000000000000000000
  | .tuple ds => ds.length ≤ 6 ∧ ∀ x ∈ ds, P x
  | _ => False
def bentIn : Nat → D → Prop
  | 0 => bentA fun _ => False
  | n + 1 => bentA (bentIn n)
theorem bent_shp : ∀ {n : Nat} {d : D}, bentIn n d → Shp (n + 1) d
  | n, .none, _ => .no
  | n, .int _, _ => .int
  | 0, .tuple ds, h => .tup fun x hx => (h.2 x hx).elim
  | n + 1, .tuple ds, h => .tup fun x hx => bent_shp (h.2 x hx)
  | 0, .bool _, h => h.elim
  | 0, .str _, h => h.elim
  | 0, .list _, h => h.elim
  | 0, .dict _, h => h.elim
  | n + 1, .bool _, h => h.elim
  | n + 1, .str _, h => h.elim
  | n + 1, .list _, h => h.elim
  | n + 1, .dict _, h => h.elim
theorem bent_ok : ∀ {n : Nat} {d : D}, bentIn n d → okD n d
  | n, .none, _ => okD_n
  | 0, .int i, h => okD_i (small60 (by obtain ⟨h1, h2⟩ := h; rw [nat61]; omega))
  | n + 1, .int i, h => okD_i (small60 (by obtain ⟨h1, h2⟩ := h; rw [nat61]; omega))
  | 0, .tuple ds, h => ⟨Nat.le_trans h.1 (by decide), fun x hx => h.2 x hx⟩
  | n + 1, .tuple ds, h => ⟨Nat.le_trans h.1 (by decide), fun x hx => bent_ok (h.2 x hx)⟩
  | 0, .bool _, h => h.elim
  | 0, .str _, h => h.elim
  | 0, .list _, h => h.elim
  | 0, .dict _, h => h.elim
  | n + 1, .bool _, h => h.elim
  | n + 1, .str _, h => h.elim
  | n + 1, .list _, h => h.elim
  | n + 1, .dict _, h => h.elim
theorem bent_odd : ∀ {n : Nat} {d : D}, bentIn n d → oddIn n d
  | n, .none, _ => True.intro
  | 0, .int i, h => h
  | n + 1, .int i, h => h
  | 0, .tuple ds, h => ⟨h.1, fun x hx => (h.2 x hx).elim⟩
  | n + 1, .tuple ds, h => ⟨h.1, fun x hx => okD_succ (bent_ok (h.2 x hx))⟩
  | 0, .bool _, h => h.elim
  | 0, .str _, h => h.elim
  | 0, .list _, h => h.elim
  | 0, .dict _, h => h.elim
  | n + 1, .bool _, h => h.elim
  | n + 1, .str _, h => h.elim
  | n + 1, .list _, h => h.elim
  | n + 1, .dict _, h => h.elim
theorem ek_sh {a b : D} (h : SeqAt.shaped a = true) (g : SeqAt.shaped b = true) : eqOk a b = true := by
  unfold eqOk
  split
  · rfl
  · rw [h, g]; rfl
theorem eqv_ss {x : Str} : PyData.eqv (.str x) (.str x) = true := by
  rw [PyData.eqv]
  exact beq_self_eq_true x
theorem eqv_tt {ds es : List D} : PyData.eqv (.tuple ds) (.tuple es) = PyData.eqvAll ds es := by rw [PyData.eqv]
theorem bentf_spec {j : Nat} : ∀ {m : Nat} {fd d : D} {Q : D × Bool × List D → Prop}, P 15 = some f15 → P 14 = some f14 → P 3 = some f3 → FeedOk m fd → m + 3 * j < 2 ^ 60 → bentIn j d → j ≤ 10 → (∀ r fr fd', okD (j + 2) r → FeedOk (m + 3 * j + 3) fd' → Q (r, fr, [fd'])) → W (callN ap aM aS P (n + j + 3) 15 [(true, fd), (false, d)]) Q := by
  induction j with
  | zero =>
    intro m fd d Q h15 h14 h3 hf hm hd hj k
    refine w_fn h15 rfl (by decide) ?_
    unfold f15
    have hd' := bent_odd hd
    trivial
    cases d with
    | none =>
      trivial
      exact odd_spec h14 h3 hf (by omega) hd' fun r fr fd' h1 h2 => by
        trivial
        exact k _ _ _ h1 (h2.mono (by omega))
    | int i =>
      trivial
      exact odd_spec h14 h3 hf (by omega) hd' fun r fr fd' h1 h2 => by
        trivial
        exact k _ _ _ h1 (h2.mono (by omega))
    | tuple ds =>
      cases ds with
      | nil =>
        trivial
        rw [eqv_tt, show PyData.eqvAll [] [] = true from by rw [PyData.eqvAll]]
        refine ⟨by decide +kernel, ?_⟩
        trivial
        exact odd_spec h14 h3 hf (by omega) hd' fun r fr fd' h1 h2 => by
          trivial
          exact k _ _ _ h1 (h2.mono (by omega))
      | cons x r => exact (hd.2 x List.mem_cons_self).elim
    | _ => exact hd.elim
  | succ j ih =>
    intro m fd d Q h15 h14 h3 hf hm hd hj k
    refine w_fn h15 rfl (by decide) ?_
    unfold f15
    have hd' := bent_odd hd
    trivial
    cases d with
    | none =>
      trivial
      exact odd_spec h14 h3 hf (by omega) hd' fun r fr fd' h1 h2 => by
        trivial
        exact k _ _ _ h1 (h2.mono (by omega))
    | int i =>
      trivial
      exact odd_spec h14 h3 hf (by omega) hd' fun r fr fd' h1 h2 => by
        trivial
        exact k _ _ _ h1 (h2.mono (by omega))
    | tuple ds =>
      trivial
      refine ⟨ek_sh ((bent_shp hd).ok (by omega)) (by decide +kernel), ?_⟩
      rw [eqv_tt]
      cases ds with
      | nil =>
        rw [show PyData.eqvAll [] [] = true from by rw [PyData.eqvAll]]
        trivial
        exact odd_spec h14 h3 hf (by omega) hd' fun r fr fd' h1 h2 => by
          trivial
          exact k _ _ _ h1 (h2.mono (by omega))
      | cons x0 xs0 =>
        rw [show PyData.eqvAll (x0 :: xs0) [] = false from by rw [PyData.eqvAll]]
        generalize hds : x0 :: xs0 = ds at hd hd'
        have hne : 1 ≤ ds.length := by rw [← hds]; simp
        trivial
        refine take_spec h3 hf (by omega) (by decide) (by decide) fun r1 fd1 a1 b1 hf1 => ?_
        trivial
        refine ifD_of (fun g => ?_) (fun g => ?_)
        · trivial
          have hl := hd.1
          refine take_spec h3 hf1 (by omega) (by omega) (by omega) fun r2 fd2 a2 b2 hf2 => ?_
          trivial
          refine W_atI a2 (by omega) fun y hy => ?_
          trivial
          refine ih h15 h14 h3 hf2 (by omega) (hd.2 y hy) (by omega) fun r fr fd3 hr hf3 => ?_
          trivial
          have c1 : (cutD ds none (some r2)).length ≤ r2.toNat := cut_to a2
          have c2 : (cutD ds (some (r2 + 1)) none).length ≤ ds.length - (r2 + 1).toNat := cut_from (by omega)
          have sz : ∀ n : Nat, n ≤ 100 → n ≤ sizeLine := fun n h => Nat.le_trans h (by decide)
          refine ⟨sz _ (by simp only [List.length_cons, List.length_nil]; omega), sz _ (by rw [List.length_append]; simp only [List.length_cons, List.length_nil]; omega), ?_⟩
          trivial
          refine k _ _ _ ?_ (hf3.mono (by omega))
          have he : ∀ x ∈ ds, okD (j + 2) x := fun x hx => okD_mono (bent_ok (hd.2 x hx)) (by omega)
          refine ⟨by rw [List.length_append, List.length_append]; simp only [List.length_cons, List.length_nil]; omega, fun x hx => ?_⟩
          rcases List.mem_append.mp hx with q | q
          · rcases List.mem_append.mp q with q | q
            · exact he x (cut_mem q)
            · rw [List.mem_singleton.mp q]; exact hr
          · exact he x (cut_mem q)
        · trivial
          exact odd_spec h14 h3 hf1 (by omega) hd' fun r fr fd' h1 h2 => by
            trivial
            exact k _ _ _ h1 (h2.mono (by omega))
    | _ => exact hd.elim
/-! the law's own looks -/
theorem ltuple_spec {d : D} (hP : P 17 = some f17) (hs : isScr d = false) (k : Q (.bool (tup2 d), false, [])) : W (callN ap aM aS P (n + 1) 17 [(false, d), (false, .int 2), (false, .int 2)]) Q := by
  refine w_fn hP rfl (by decide) ?_
  unfold f17
  trivial
  cases d <;> trivial <;> first | exact k | skip
  · rename_i xs
    rw [tup2_len] at k
    refine ifD_of (fun h => ?_) (fun h => ?_)
    · trivial
      by_cases h2 : xs.length = 2
      · rw [decide_eq_true h2] at k
        rw [decide_eq_true (show (xs.length : Int) ≤ 2 by omega)]
        exact k
      · rw [decide_eq_false h2] at k
        rw [decide_eq_false (show ¬ (xs.length : Int) ≤ 2 by omega)]
        exact k
    · trivial
      rw [decide_eq_false (by omega)] at k
      exact k
  · rw [x_isin hs]
    trivial
    exact k
theorem lfrom_spec {d : D} {i : Int} (hP : P 33 = some f33) (hs : isScr d = false) (k : Q (.bool (okFrom i d), false, [])) : W (callN ap aM aS P (n + 1) 33 [(false, d), (false, .int i)]) Q := by
  refine w_fn hP rfl (by decide) ?_
  unfold f33
  trivial
  cases d <;> trivial <;> first | exact k | skip
  rw [x_isin hs]
  trivial
  exact k
theorem llabel_spec {d : D} (hP : P 34 = some f34) (h17 : P 17 = some f17) (h33 : P 33 = some f33) (hs : cleanD d = true) (k : Q (.bool (labelB d), false, [])) : W (callN ap aM aS P (n + 2) 34 [(false, d)]) Q := by
  refine w_fn hP rfl (by decide) ?_
  unfold f34
  have no : tup2 d = false → d ≠ .none → labelB d = false := fun h h2 => by
    unfold labelB
    split
    · exact (h2 rfl).elim
    · cases h
    · rfl
  by_cases h0 : d = .none
  · subst h0
    trivial
    exact k
  · have hi : isNone d = false := by cases d <;> first | rfl | exact (h0 rfl).elim
    trivial
    rw [hi]
    trivial
    refine ltuple_spec h17 (isScr_clean hs) ?_
    cases h2 : tup2 d with
    | false =>
      rw [no h2 h0] at k
      trivial
      exact k
    | true =>
      obtain ⟨a, b, rfl⟩ : ∃ a b, d = .tuple [a, b] := by
        unfold tup2 at h2
        split at h2
        · exact ⟨_, _, rfl⟩
        · cases h2
      simp only [cleanD, cleanDs, Bool.and_eq_true] at hs
      trivial
      refine lfrom_spec h33 (isScr_clean hs.1) ?_
      rw [labelB] at k
      cases ha : okFrom 1 a with
      | false =>
        rw [ha] at k
        trivial
        exact k
      | true =>
        rw [ha] at k
        trivial
        cases hb : isNone b with
        | true =>
          rw [hb] at k
          trivial
          exact k
        | false =>
          rw [hb] at k
          trivial
          refine lfrom_spec h33 (isScr_clean hs.2.1) ?_
          trivial
          exact k
def oddsL : List D := [.none, .bool true, .bool false, .int 0, .int 7, .int (-1), .str (Str.ofString ""), .str (Str.ofString "a"), .str (Str.ofString "up"), .tuple [], .list [], .dict [], .tuple [.str (Str.ofString "a")], .list [.str (Str.ofString "a")], .dict [(.str (Str.ofString "a"), .int 1)], .tuple [.str (Str.ofString "a"), .str (Str.ofString "b")], .tuple [.str (Str.ofString "up")],
  .tuple [.tuple [.str (Str.ofString "a"), .str (Str.ofString "b")], .tuple []], .list [.list [.str (Str.ofString "a")], .list []], .tuple [.tuple [], .tuple []], .tuple [.int 1, .int 0], .tuple [.int 1, .none], .tuple [.str (Str.ofString "broken"), .tuple []]]
theorem odds_spec (hP : P 20 = some f20) (k : Q (.list oddsL, true, [])) : W (callN ap aM aS P (n + 1) 20 []) Q := by
  refine w_fn hP rfl (by decide) ?_
  unfold f20
  trivial
  exact ⟨by simp only [List.length_cons, List.length_nil]; decide, k⟩
end

end EV
namespace EV
open PySem PySem.Spec L2
open PyProof.Rows hiding St
local macro_rules
  | `(tactic| trivial) => `(tactic| simp -failIfUnchanged only [↓w_k, ↓w_gl, ↓w_v, ↓w_tup, ↓w_lst, ↓w_dct0, ↓w_dct1, ↓w_bi, ↓w_mc, ↓w_sl, ↓w_ch, ↓w_tst, ↓w_and, ↓w_or, ↓w_ifeE, ↓w_call, ↓w_callK, ↓w_callF, ↓w_callV, ↓w_lc, ↓w_turn, ↓w_c2f, ↓w_c2t, ↓w_turn2, ↓w_dc, ↓w_turnD, ↓w_nil, ↓w_cons, ↓w_onil, ↓w_oconsV, ↓w_yes, ↓w_tnot, ↓w_tand, ↓w_tor, ↓w_texV, ↓te_callK, ↓oc_callK, ↓rt_callK, ↓te_callF, ↓oc_callF, ↓rt_callF, ↓te_callV, ↓oc_callV, ↓rt_callV, ↓te_k, ↓oc_k, ↓rt_k, ↓te_gl, ↓oc_gl, ↓rt_gl, ↓te_tup, ↓oc_tup, ↓rt_tup, ↓te_lst, ↓oc_lst, ↓rt_lst, ↓te_dct, ↓oc_dct, ↓rt_dct, ↓te_ch, ↓oc_ch, ↓rt_ch, ↓te_sl, ↓oc_sl, ↓rt_sl, ↓te_mc, ↓oc_mc, ↓rt_mc, ↓te_bi, ↓oc_bi, ↓rt_bi, ↓te_tst, ↓oc_tst, ↓rt_tst, ↓te_and, ↓oc_and, ↓rt_and, ↓te_or, ↓oc_or, ↓rt_or, ↓te_ife, ↓oc_ife, ↓rt_ife, ↓te_call, ↓oc_call, ↓rt_call, ↓te_lc, ↓oc_lc, ↓rt_lc, ↓te_c2, ↓oc_c2, ↓rt_c2, ↓te_dc, ↓oc_dc, ↓rt_dc, ↓w_anil, ↓w_aref, ↓w_aval, ↓w_asg, ↓w_asgO, ↓w_n, ↓w_tT, ↓w_tsN, ↓w_tsC, ↓w_aug, ↓w_mu, ↓w_setI, ↓w_ex, ↓w_retV, ↓w_retN, ↓w_ife, ↓w_for, ↓w_while, ↓w_starA, ↓w_brk, ↓w_cont, ↓w_pass, ↓w_snil, ↓w_scons, ↓w_body,
    ↓W_some, ↓W_if, ↓ifB_t, ↓ifB_f, ↓ifB_not, ↓onSl_v, ↓onSl_o, ↓onSl_b, ↓onNx_n, ↓onNx_b, ↓onNx_c, ↓onNx_r, ↓endF_r, ↓endF_n, ↓onFl_n, ↓onFl_c, ↓onFl_b, ↓onFl_r, ↓asB_b, ↓as1_1, ↓as2_2, notBor_u, notBor_v, notBor_o,
    ↓x_add, ↓x_addS, ↓x_addT, ↓x_addL, ↓x_iadd, ↓x_isub, ↓x_sub, ↓x_mul, ↓x_fdiv, ↓x_mod, ↓x_pow, ↓x_neg, ↓x_eq, ↓x_ne, ↓x_lt, ↓x_le, ↓x_gt, ↓x_ge, ↓x_isN, ↓x_notN, ↓x_isB, ↓x_notB, ↓x_inS, ↓x_ninS, ↓x_itemL, ↓x_itemT, ↓x_itemScr, ↓x_itemS, ↓x_lenL, ↓x_lenT, ↓x_lenScr, ↓x_lenS, ↓x_abs, ↓x_max, ↓x_min, ↓x_intI, ↓x_intB, ↓x_rev, ↓x_revT, ↓x_count, ↓x_inT, ↓x_inL, ↓x_ninT, ↓x_ninL, ↓x_mrev, ↓x_mclr, ↓x_app, ↓x_ext, ↓x_sorted, ↓x_sortedD, ↓x_sortSL, ↓x_sortST, ↓x_setD, ↓x_inD, ↓x_ninD, ↓x_repr, ↓x_str, ↓xi_n, ↓xi_b, ↓xi_i, ↓xi_s, ↓xi_l, ↓xi_t, ↓xi_d0, ↓xi_dS, ↓xi_dI, ↓x_all, ↓x_any, ↓x_join, ↓x_tupleL, ↓x_tupleT, ↓x_listL, ↓x_listT, ↓x_cutL, ↓x_cutT, ↓x_cutS, ↓x_ca0, ↓x_ca1, ↓x_ca2, ↓x_ca3, ↓tr_b, ↓tr_n, ↓tr_i, ↓tr_l, ↓tr_t, ↓it_l, ↓it_t, ↓it_s, ↓it_r1, ↓it_r2, ↓it_en, ↓it_z,
    fillD, List.map_cons, List.map_nil, Option.map_some, in_n, in_b, in_i, in_s, in_t, in_l, in_d, ek_s, ek_i, ek_b, ln_n, ln_b, ln_i, ln_s, ln_t, ln_d, ln_l, opdV, deref, derefs, mutAt, listAt, agD, backS, Ag.slots, nodupB, noMut, wipeS, restS, outS, argS, mut_u, mut_v, mut_o, mut_b, iv_k, iv_gl, iv_tup, iv_lst, iv_dct, iv_ch, iv_sl, iv_mc, iv_bi, iv_tst, iv_and, iv_or, iv_ife, iv_call, iv_lc, iv_c2, iv_dc, isKey, sc_n, sc_b, sc_i, sc_s, sc_l, sc_t, sc_d0, sc_dS, sc_dI, tyName, atI_0, atI_1, atI_2, atI_3, x_set0, x_set1, x_set2,
    List.getElem?_cons_succ, List.getElem?_cons_zero, List.getElem?_nil, List.set_cons_succ, List.set_cons_zero, List.cons_append, List.nil_append, List.replicate, Nat.reduceSub, Option.bind_some, Option.toList_some, Option.toList_none, List.getD_cons_succ, List.getD_cons_zero, Bool.not_true, Bool.not_false, true_and, and_true, List.contains_nil, List.all_cons, List.all_nil, Bool.and_true, Bool.true_and, decide_true, decide_false, Bool.true_eq_false, Bool.false_eq_true, kit_ii, kit_bi, kit_ni, kit_si, kit_li, kit_ti, kit_di, kit_ib, kit_bb, kit_nb, kit_sb, kit_lb, kit_tb, kit_db, kit_is, kit_bs, kit_ns, kit_ss, kit_ls, kit_ts, kit_ds, kit_it, kit_bt, kit_nt, kit_st, kit_lt, kit_tt, kit_dt, kit_il, kit_bl, kit_nl, kit_sl, kit_ll, kit_tl, kit_dl, sh_n, sh_b, sh_i, eqv_ii, eqv_bb, eqv_st, ↓nb_ff, ↓nb_ft, ↓nb_tf, ↓nb_tt])


/-- _law_net -/
def f24 : Fn := ⟨2, 7, [true, false], (.cons (.asgO 2 (.bi .sorted (.cons (.call 12 [true, false] (.cons (.v 0) (.cons (.bi .add (.cons (.k (.int 2)) (.cons (.call 3 [true, false] (.cons (.v 0) (.cons (.bi .sub (.cons (.v 1) (.cons (.k (.int 1)) .nil))) .nil))) .nil))) .nil))) .nil))) (.cons (.asgO 3 (.lst .nil)) (.cons (.for_ (.t (.cons (.n 4) (.cons (.n 5) .nil)) true) .enum (.cons (.v 2) .nil) (.cons (.mu .extend 3 (.cons (.lc (.tup (.cons (.v 5) (.cons (.v 6) .nil))) (.n 6) .any (.cons (.sl true false (.cons (.v 2) .nil) (.cons (.bi .add (.cons (.v 4) (.cons (.k (.int 1)) .nil))) .nil)) .nil) (.ex (.bi .gt (.cons (.call 3 [true, false] (.cons (.v 0) (.cons (.k (.int 4)) .nil))) (.cons (.k (.int 0)) .nil)))) [6]) .nil)) .nil)) (.cons (.ret (.tup (.cons (.bi .tuple (.cons (.v 2) .nil)) (.cons (.bi .tuple (.cons (.v 3) .nil)) .nil)))) .nil))))⟩
/-- _law_ways -/
def f25 : Fn := ⟨1, 3, [false], (.cons (.ret (.bi .sorted (.cons (.bi .add (.cons (.bi .list (.cons (.bi .item (.cons (.v 0) (.cons (.k (.int 1)) .nil))) .nil)) (.cons (.lc (.tup (.cons (.v 2) (.cons (.v 1) .nil))) (.t (.cons (.n 1) (.cons (.n 2) .nil)) true) .any (.cons (.bi .item (.cons (.v 0) (.cons (.k (.int 1)) .nil))) .nil) .yes [1, 2]) .nil))) .nil))) .nil)⟩
/-- _law_few -/
def f41 : Fn := ⟨2, 4, [true, false], (.cons (.asgO 2 (.call 3 [true, false] (.cons (.v 0) (.cons (.k (.int 3)) .nil)))) (.cons (.ret (.lc (.v 3) (.n 3) .any (.cons (.v 1) .nil) (.or (.ex (.bi .eq (.cons (.v 2) (.cons (.k (.int 0)) .nil)))) (.and (.ex (.bi .eq (.cons (.v 2) (.cons (.k (.int 1)) .nil)))) (.ex (.bi .eq (.cons (.call 3 [true, false] (.cons (.v 0) (.cons (.k (.int 2)) .nil))) (.cons (.k (.int 0)) .nil)))))) [3])) .nil))⟩
/-- _law_any_row -/
def f42 : Fn := ⟨3, 5, [true, false, false], (.cons (.asgO 3 (.call 31 [true, false] (.cons (.v 0) (.cons (.k (.int 1)) .nil)))) (.cons (.asgO 4 (.call 31 [true, false] (.cons (.v 0) (.cons (.k (.int 1)) .nil)))) (.cons (.ife (.or (.ex (.bi .eq (.cons (.v 2) (.cons (.lst .nil) .nil)))) (.ex (.bi .eq (.cons (.call 3 [true, false] (.cons (.v 0) (.cons (.k (.int 4)) .nil))) (.cons (.k (.int 0)) .nil))))) (.cons (.ret (.tup (.cons (.v 1) (.cons (.v 3) (.cons (.k .none) (.cons (.k .none) .nil)))))) .nil) .nil) (.cons (.ret (.tup (.cons (.v 1) (.cons (.v 3) (.cons (.v 4) (.cons (.bi .item (.cons (.v 2) (.cons (.call 3 [true, false] (.cons (.v 0) (.cons (.bi .len (.cons (.v 2) .nil)) .nil))) .nil))) .nil)))))) .nil))))⟩
/-- _law_state -/
def f43 : Fn := ⟨3, 12, [true, false, false], (.cons (.asgO 3 (.lc (.v 9) (.n 9) .any (.cons (.bi .item (.cons (.v 1) (.cons (.k (.int 0)) .nil))) .nil) (.ex (.bi .ne (.cons (.v 9) (.cons (.v 2) .nil)))) [9])) (.cons (.asgO 4 (.call 41 [true, false] (.cons (.v 0) (.cons (.lc (.v 9) (.t (.cons (.n 11) (.cons (.n 9) .nil)) true) .any (.cons (.call 25 [false] (.cons (.v 1) .nil)) .nil) (.ex (.bi .eq (.cons (.v 11) (.cons (.v 2) .nil)))) [11, 9]) .nil)))) (.cons (.asg (.t (.cons (.n 7) (.cons (.n 8) .nil)) true) (.tup (.cons (.call 31 [true, false] (.cons (.v 0) (.cons (.k (.int 0)) .nil))) (.cons (.call 31 [true, false] (.cons (.v 0) (.cons (.k (.int 0)) .nil))) .nil)))) (.cons (.ife (.ex (.bi .eq (.cons (.call 3 [true, false] (.cons (.v 0) (.cons (.k (.int 4)) .nil))) (.cons (.k (.int 0)) .nil)))) (.cons (.ret (.tup (.cons (.k (.str (Str.ofString "down"))) (.cons (.v 7) (.cons (.v 8) (.cons (.bi .tuple (.cons (.lc (.tup (.cons (.v 9) (.cons (.call 31 [true, false] (.cons (.v 0) (.cons (.k (.int 1)) .nil))) .nil))) (.n 9) .any (.cons (.call 41 [true, false] (.cons (.v 0) (.cons (.v 3) .nil))) .nil) .yes [9]) .nil)) .nil)))))) .nil) .nil) (.cons (.asgO 5 (.bi .tuple (.cons (.lc (.call 42 [true, false, false] (.cons (.v 0) (.cons (.v 9) (.cons (.v 4) .nil)))) (.n 9) .any (.cons (.call 41 [true, false] (.cons (.v 0) (.cons (.v 3) .nil))) .nil) .yes [9]) .nil))) (.cons (.asgO 6 (.lc (.tup (.cons (.v 10) (.cons (.call 31 [true, false] (.cons (.v 0) (.cons (.k (.int 1)) .nil))) .nil))) (.n 10) .any (.cons (.call 41 [true, false] (.cons (.v 0) (.cons (.bi .add (.cons (.bi .list (.cons (.bi .item (.cons (.v 1) (.cons (.k (.int 0)) .nil))) .nil)) (.cons (.bi .list (.cons (.bi .item (.cons (.v 1) (.cons (.k (.int 0)) .nil))) .nil)) .nil))) .nil))) .nil) .yes [10])) (.cons (.ret (.tup (.cons (.k (.str (Str.ofString "up"))) (.cons (.v 7) (.cons (.v 8) (.cons (.v 5) (.cons (.bi .tuple (.cons (.bi .sortedSet (.cons (.v 6) .nil)) .nil)) (.cons (.bi .tuple (.cons (.v 4) .nil)) .nil)))))))) .nil)))))))⟩
/-! ### texts in order -/
def ltS (a b : Str) : Bool := ltCps a.cps.toList b.cps.toList
theorem ltS_irr (a : Str) : ltS a a = false := by unfold ltS; rw [ltCps_eq]; exact decide_eq_false (by simp)
theorem ltS_ne {a b : Str} (h : ltS a b = true) : a ≠ b := by
  rintro rfl
  rw [ltS_irr] at h
  cases h
theorem ltS_tr {a b c : Str} (h : ltS a b = true) (g : ltS b c = true) : ltS a c = true := by
  unfold ltS at *
  rw [ltCps_eq, decide_eq_true_eq] at *
  exact List.lt_trans h g
theorem ltS_as {a b : Str} (h : ltS a b = true) : ltS b a = false := by
  cases e : ltS b a with
  | false => rfl
  | true =>
    have := ltS_tr h e
    rw [ltS_irr] at this
    cases this
theorem sortD_perm (ds : List D) : (sortD ds).Perm ds := List.mergeSort_perm _ _
theorem sortD_pair (ds : List D) : (sortD ds).Pairwise fun a b => ltK (dK b) (dK a) = false := by
  have q := List.pairwise_mergeSort (le := leD) (fun a b c g1 g2 => by
    unfold leD at *
    have o := lin_k.swo (fun d : D => dK d)
    rw [Bool.not_eq_true'] at *
    exact o.tr a b c g1 g2) (fun a b => by
    unfold leD
    cases e : ltK (dK b) (dK a) with
    | false => rfl
    | true => rw [lin_k.asym e]; rfl) ds
  refine q.imp fun {a b} g => ?_
  unfold leD at g
  simpa using g
theorem pairwise_ne {α : Type} {l : List α} {R : α → α → Prop} (h : l.Nodup) (p : l.Pairwise R) : l.Pairwise fun a b => R a b ∧ a ≠ b := p.and h
/-- rising texts -/
def Rise (l : List Str) : Prop := l.Pairwise fun a b => ltS a b = true
theorem sortD_texts (l : List Str) (nd : l.Nodup) : ∃ l' : List Str, l'.Perm l ∧ sortD (l.map PyData.str) = l'.map PyData.str ∧ Rise l' := by
  obtain ⟨l', e1, e2⟩ := perm_lift (sortD_perm (l.map PyData.str)) (t := l) rfl
  refine ⟨l', e2, e1.symm, ?_⟩
  have p := sortD_pair (l.map PyData.str)
  rw [← e1] at p
  have p := pairwise_ne (e2.nodup_iff.mpr nd) (List.pairwise_map.mp p)
  refine p.imp fun {a b} h => ?_
  obtain ⟨h1, h2⟩ := h
  rw [str_order] at h1
  cases e : ltS a b with
  | true => rfl
  | false =>
    have := lin_k.tri (dK (.str a)) (dK (.str b)) (by rw [str_order]; exact e) (by rw [str_order]; exact h1)
    have q := Sort1.inj (ds := [.str a, .str b]) (.ofS fun d hd => by
      simp only [List.mem_cons, List.not_mem_nil, or_false] at hd
      rcases hd with rfl | rfl <;> rfl) (a := .str a) (b := .str b) (by simp) (by simp) this
    injection q with q
    exact absurd q h2
theorem sortOk_texts {l : List Str} (h : l.length ≤ sizeLine) : sortOk (l.map PyData.str) = true := by
  unfold sortOk
  rw [List.length_map, decide_eq_true h, Bool.true_and]
  have : (l.map PyData.str).all isStr = true := by
    rw [List.all_eq_true]
    intro d hd
    obtain ⟨s, _, rfl⟩ := List.mem_map.mp hd
    rfl
  rw [this]
  rfl
/-! ### names -/
structure NameS (s : Str) : Prop where
  ge : 1 ≤ s.length
  le : s.length ≤ 8
  ch : ∀ c ∈ s.cps.toList, 97 ≤ c ∧ c ≤ 122
def nameSB (s : Str) : Bool := decide (1 ≤ s.length) && decide (s.length ≤ 8) && s.cps.toList.all fun c => decide (97 ≤ c) && decide (c ≤ 122)
theorem nameSB_of {s : Str} (h : nameSB s = true) : NameS s := by
  unfold nameSB at h
  simp only [Bool.and_eq_true, decide_eq_true_eq, List.all_eq_true] at h
  exact ⟨h.1.1, h.1.2, h.2⟩
theorem NameS.w {s : Str} (h : NameS s) {k : Nat} (hk : 8 ≤ k) : WOk k s := ⟨Nat.le_trans h.le hk, fun c hc => Nat.lt_of_le_of_lt (h.ch c hc).2 (by decide)⟩
theorem W_atE {α : Type} {xs : List α} {i : Int} {Q : α → Prop} (h : 0 ≤ i) (h2 : i < xs.length) (k : ∀ a, xs[i.toNat]? = some a → Q a) : W (atI xs i) Q := by
  have e : atI xs i = some (xs[i.toNat]'(by omega)) := by
    unfold atI ixN
    rw [if_pos h, if_pos h2]
    simp
  rw [e, W_some]
  exact k _ (by simp)
theorem rangeT_fm {g : D → Option D} {f : Int → D} (h : ∀ i, g (.int i) = some (f i)) : ∀ (m : Nat) (lo : Int), (rangeT lo m).filterMap g = (List.range m).map fun (j : Nat) => f (lo + (j : Int))
  | 0, _ => rfl
  | m + 1, lo => by
    rw [rangeT, List.filterMap_cons, h, rangeT_fm h m (lo + 1), List.range_succ_eq_map, List.map_cons, List.map_map]
    simp only [Int.natCast_zero, Int.add_zero]
    congr 1
    refine List.map_congr_left fun j _ => ?_
    simp only [Function.comp]
    congr 1
    omega
def wordsL : List Str := [Str.ofString "ask", Str.ofString "answer", Str.ofString "up", Str.ofString "down", Str.ofString "way", Str.ofString "pair", Str.ofString "house", Str.ofString "row", Str.ofString "tie", Str.ofString "broken", Str.ofString "note", Str.ofString "rule"]
def wordN (r i : Int) : Str := wordsL.getD ((r + 5 * i) % 12).toNat (Str.ofString "ask")
theorem words_ok : wordsL.all nameSB = true := by decide +kernel
theorem words_nd : wordsL.Nodup := by decide +kernel
theorem getD_inj {l : List Str} (nd : l.Nodup) {d : Str} {i j : Nat} (hi : i < l.length) (hj : j < l.length) (e : l.getD i d = l.getD j d) : i = j := by
  rw [List.getD_eq_getElem?_getD, List.getD_eq_getElem?_getD, List.getElem?_eq_getElem hi, List.getElem?_eq_getElem hj] at e
  exact (List.getElem_inj nd).mp e
theorem range_nd {f : Int → Str} {m : Nat} (h : ∀ i j : Int, 0 ≤ i → i < j → j < m → f i ≠ f j) : ((List.range m).map fun (j : Nat) => f (0 + (j : Int))).Nodup := by
  refine List.pairwise_map.mpr (List.Pairwise.imp_of_mem ?_ List.pairwise_lt_range)
  intro a b ha hb lt
  rw [List.mem_range] at ha hb
  exact h _ _ (by omega) (by omega) (by omega)
def abcL : List Nat := (Str.ofString "abcdefghijklmnopqrstuvwxyz").cps.toList
theorem abc_at : ∀ j : Fin 26, abcL[j.val]? = some (97 + j.val) := by decide +kernel
def letN (z : Str) (k r i : Int) : Str := cutS z none (some k) ++ ⟨#[97 + ((r + 3 * i) % 26).toNat]⟩ ++ cutS z (some k) none
theorem cutS_lo {z : Str} {k : Int} (h : 0 ≤ k) (h2 : k ≤ z.length) : (cutS z none (some k)).cps.toList = z.cps.toList.take k.toNat := by
  unfold cutS
  rw [sIx_pos h, HT.sIx_none]
  simp only [List.drop_zero, Nat.sub_zero]
  rw [Nat.min_eq_left (by omega)]
theorem cutS_hi {z : Str} {k : Int} (h : 0 ≤ k) (h2 : k ≤ z.length) : (cutS z (some k) none).cps.toList = z.cps.toList.drop k.toNat := by
  unfold cutS
  rw [sIx_pos h, HT.sIx_none]
  simp only
  rw [Nat.min_eq_left (by omega)]
  refine List.take_of_length_le ?_
  rw [List.length_drop, len_tl]
  exact Nat.le_refl _
theorem letN_cps {z : Str} {k r i : Int} (h : 0 ≤ k) (h2 : k ≤ z.length) : (letN z k r i).cps.toList = z.cps.toList.take k.toNat ++ [97 + ((r + 3 * i) % 26).toNat] ++ z.cps.toList.drop k.toNat := by
  unfold letN
  rw [cps_app, cps_app, cutS_lo h h2, cutS_hi h h2]
theorem letN_name {z : Str} {k r i : Int} (h : 0 ≤ k) (h2 : k ≤ z.length) (hz : z.length ≤ 6) (hc : ∀ c ∈ z.cps.toList, 97 ≤ c ∧ c ≤ 122) : NameS (letN z k r i) := by
  have hl : (letN z k r i).length = z.length + 1 := by
    rw [len_tl, letN_cps h h2, len_tl]
    simp only [List.length_append, List.length_take, List.length_drop, List.length_cons, List.length_nil]
    have : k.toNat ≤ z.cps.toList.length := by rw [← len_tl]; omega
    omega
  refine ⟨by omega, by omega, fun c hc' => ?_⟩
  rw [letN_cps h h2] at hc'
  rcases List.mem_append.mp hc' with q | q
  · rcases List.mem_append.mp q with q | q
    · exact hc c (List.mem_of_mem_take q)
    · rw [List.mem_singleton] at q
      subst q
      have := Int.emod_nonneg (r + 3 * i) (by decide : (26 : Int) ≠ 0)
      have := Int.emod_lt_of_pos (r + 3 * i) (by decide : (0 : Int) < 26)
      omega
  · exact hc c (List.mem_of_mem_drop q)
theorem letN_inj {z : Str} {k r i j : Int} (h : 0 ≤ k) (h2 : k ≤ z.length) (hi : 0 ≤ i) (hij : i < j) (hj : j < 12) : letN z k r i ≠ letN z k r j := by
  intro e
  have e := congrArg (fun s : Str => s.cps.toList) e
  simp only [letN_cps h h2, List.append_assoc] at e
  have e := List.append_cancel_left e
  injection e with e _
  omega
section
variable {P : Nat → Option Fn} {n : Nat} {Q : D × Bool × List D → Prop}
theorem names_spec2 {m : Nat} {fd : D} {many : Int} (hP : P 12 = some f12) (hP3 : P 3 = some f3) (hf : FeedOk m fd) (hm : m < 2 ^ 61) (h0 : 0 ≤ many) (h1 : many ≤ 12) (k : ∀ (l : List Str) fd', l.Nodup → (∀ s ∈ l, NameS s) → l.length = many.toNat → FeedOk (m + 4) fd' → Q (.list (l.map PyData.str), true, [fd'])) : W (callN ap aM aS P (n + 2) 12 [(true, fd), (false, .int many)]) Q := by
  refine w_fn hP rfl (by decide) ?_
  unfold f12
  trivial
  refine take_spec hP3 hf (by omega) (by decide) (by decide) fun r1 fd1 a1 b1 hf1 => ?_
  trivial
  refine take_spec hP3 hf1 (by omega) (by decide) (by decide) fun r2 fd2 a2 b2 hf2 => ?_
  trivial
  have ew : ([PyData.str (Str.ofString "ask"), .str (Str.ofString "answer"), .str (Str.ofString "up"), .str (Str.ofString "down"), .str (Str.ofString "way"), .str (Str.ofString "pair"), .str (Str.ofString "house"), .str (Str.ofString "row"), .str (Str.ofString "tie"), .str (Str.ofString "broken"), .str (Str.ofString "note"), .str (Str.ofString "rule")] : List D) = wordsL.map PyData.str := rfl
  rw [ew]
  refine ifD_of (fun h => ?_) (fun h => ?_)
  · trivial
    refine ⟨⟨by omega, by omega⟩, ?_⟩
    refine w_lcFM (fun sl => ∃ x, sl = [.bor fd2, .val (.int many), .val (.int r1), .own (.list (wordsL.map PyData.str)), .un, .un, .un, x] ∧ x.mut = false ∧ notBor x) (fun d => match d with
      | .int i => some (.str (wordN r1 i))
      | _ => none) _ _ ⟨_, rfl, rfl, True.intro⟩ (fun d hd sl hI => ?_) (fun sl hI => ?_)
    · obtain ⟨x, rfl, hx, hx2⟩ := hI
      obtain ⟨i, hi⟩ := List.getElem?_of_mem hd
      obtain ⟨rfl, _⟩ := rangeT_at hi
      trivial
      refine ⟨mulOk_l (by decide), by decide, W_atE (Int.emod_nonneg _ (by decide)) (by rw [List.length_map]; exact Int.emod_lt_of_pos _ (by decide)) fun y hy => ?_⟩
      trivial
      refine ⟨?_, _, rfl, rfl, True.intro⟩
      rw [List.getElem?_map] at hy
      cases e : wordsL[((r1 + 5 * (0 + (i : Int))) % 12).toNat]? with
      | none => rw [e] at hy; cases hy
      | some w =>
        rw [e] at hy
        cases hy
        simp only [wordN, List.getD_eq_getElem?_getD, e]
        rfl
    · obtain ⟨x, rfl, hx, hx2⟩ := hI
      rw [rangeT_fm (f := fun i => .str (wordN r1 i)) (fun i => rfl)]
      have em : ((List.range (many.toNat)).map fun (j : Nat) => (PyData.str (wordN r1 (0 + (j : Int))))) = ((List.range many.toNat).map fun (j : Nat) => wordN r1 (0 + (j : Int))).map PyData.str := by rw [List.map_map]; rfl
      refine ⟨by simp only [List.length_map, List.length_range]; exact Nat.le_trans (by omega) (by decide : 1000 ≤ sizeLine), ?_⟩
      trivial
      rw [em]
      refine k _ _ (range_nd fun i j h1 h2 h3 e => ?_) (fun s hs => ?_) (by simp) (hf2.mono (by omega))
      · have := getD_inj words_nd (by have := Int.emod_lt_of_pos (r1 + 5 * i) (by decide : (0 : Int) < 12); have := Int.emod_nonneg (r1 + 5 * i) (by decide : (12 : Int) ≠ 0); show _ < 12; omega)
          (by have := Int.emod_lt_of_pos (r1 + 5 * j) (by decide : (0 : Int) < 12); have := Int.emod_nonneg (r1 + 5 * j) (by decide : (12 : Int) ≠ 0); show _ < 12; omega) e
        omega
      · obtain ⟨j, _, rfl⟩ := List.mem_map.mp hs
        refine nameSB_of (List.all_eq_true.mp words_ok _ ?_)
        have hlt : ((r1 + 5 * (0 + (j : Int))) % 12).toNat < wordsL.length := by
          have := Int.emod_lt_of_pos (r1 + 5 * (0 + (j : Int))) (by decide : (0 : Int) < 12)
          have := Int.emod_nonneg (r1 + 5 * (0 + (j : Int))) (by decide : (12 : Int) ≠ 0)
          show _ < 12
          omega
        unfold wordN
        rw [List.getD_eq_getElem?_getD, List.getElem?_eq_getElem hlt]
        exact List.getElem_mem hlt
  · trivial
    refine take_spec hP3 hf2 (by omega) (by decide) (by decide) fun r3 fd3 a3 b3 hf3 => ?_
    trivial
    refine W_atI a3 (by simpa using b3) fun bs hb => ?_
    obtain ⟨z, rfl, hz, hzc⟩ : ∃ z : Str, bs = .str z ∧ z.length ≤ 6 ∧ ∀ c ∈ z.cps.toList, 97 ≤ c ∧ c ≤ 122 := by
      simp only [List.mem_cons, List.not_mem_nil, or_false] at hb
      rcases hb with rfl | rfl | rfl | rfl <;> exact ⟨_, rfl, by decide +kernel, by decide +kernel⟩
    have hw : WOk 6 z := ⟨hz, fun c hc => Nat.lt_of_le_of_lt (hzc c hc).2 (by decide)⟩
    trivial
    refine ⟨Nat.le_trans hz (by decide), ?_⟩
    refine take_spec hP3 hf3 (by omega) (by omega) (by omega) fun r4 fd4 a4 b4 hf4 => ?_
    have b4 : r4 ≤ z.length := by omega
    trivial
    refine ⟨⟨by omega, by omega⟩, ?_⟩
    refine w_lcFM (fun sl => ∃ x, sl = [.bor fd4, .val (.int many), .val (.int r1), .own (.list (wordsL.map PyData.str)), .val (.str z), .val (.int r4), .val (.str (Str.ofString "abcdefghijklmnopqrstuvwxyz")), x] ∧ x.mut = false ∧ notBor x) (fun d => match d with
      | .int i => some (.str (letN z r4 r1 i))
      | _ => none) _ _ ⟨_, rfl, rfl, True.intro⟩ (fun d hd sl hI => ?_) (fun sl hI => ?_)
    · obtain ⟨x, rfl, hx, hx2⟩ := hI
      obtain ⟨i, hi⟩ := List.getElem?_of_mem hd
      obtain ⟨rfl, _⟩ := rangeT_at hi
      trivial
      refine ⟨Nat.le_trans hw.1 (by decide), mulOk_l (by decide), by decide, by decide +kernel, W_atE (Int.emod_nonneg _ (by decide)) (by rw [abc_len]; exact Int.emod_lt_of_pos _ (by decide)) fun c hc => ?_⟩
      have e1 := Int.emod_lt_of_pos (r1 + 3 * (0 + (i : Int))) (by decide : (0 : Int) < 26)
      have e2 := Int.emod_nonneg (r1 + 3 * (0 + (i : Int))) (by decide : (26 : Int) ≠ 0)
      have hc2 := abc_at ⟨((r1 + 3 * (0 + (i : Int))) % 26).toNat, by omega⟩
      unfold abcL at hc2
      rw [hc2] at hc
      cases hc
      trivial
      have cc : 97 + ((r1 + 3 * (0 + (i : Int))) % 26).toNat < 0x110000 := by omega
      have w1 := (hw.cut none (some r4)).app (WOk.chr cc)
      have w2 := hw.cut (some r4) none
      refine ⟨(hw.cut none (some r4)).len2 (WOk.chr cc) (by decide), Nat.le_trans hw.1 (by decide), w1.len2 w2 (by decide), ?_⟩
      trivial
      exact ⟨rfl, _, rfl, rfl, True.intro⟩
    · obtain ⟨x, rfl, hx, hx2⟩ := hI
      rw [rangeT_fm (f := fun i => .str (letN z r4 r1 i)) (fun i => rfl)]
      have em : ((List.range (many.toNat)).map fun (j : Nat) => (PyData.str (letN z r4 r1 (0 + (j : Int))))) = ((List.range many.toNat).map fun (j : Nat) => letN z r4 r1 (0 + (j : Int))).map PyData.str := by rw [List.map_map]; rfl
      refine ⟨by simp only [List.length_map, List.length_range]; exact Nat.le_trans (by omega) (by decide : 1000 ≤ sizeLine), ?_⟩
      trivial
      rw [em]
      refine k _ _ (range_nd fun i j h1 h2 h3 => letN_inj a4 b4 h1 h2 (by omega)) (fun s hs => ?_) (by simp) (hf4.mono (by omega))
      obtain ⟨j, _, rfl⟩ := List.mem_map.mp hs
      exact letN_name a4 b4 hz hzc
end

end EV
namespace EV
open PySem PySem.Spec L2
open PyProof.Rows hiding St
local macro_rules
  | `(tactic| trivial) => `(tactic| simp -failIfUnchanged only [↓w_k, ↓w_gl, ↓w_v, ↓w_tup, ↓w_lst, ↓w_dct0, ↓w_dct1, ↓w_bi, ↓w_mc, ↓w_sl, ↓w_ch, ↓w_tst, ↓w_and, ↓w_or, ↓w_ifeE, ↓w_call, ↓w_callK, ↓w_callF, ↓w_callV, ↓w_lc, ↓w_turn, ↓w_c2f, ↓w_c2t, ↓w_turn2, ↓w_dc, ↓w_turnD, ↓w_nil, ↓w_cons, ↓w_onil, ↓w_oconsV, ↓w_yes, ↓w_tnot, ↓w_tand, ↓w_tor, ↓w_texV, ↓te_callK, ↓oc_callK, ↓rt_callK, ↓te_callF, ↓oc_callF, ↓rt_callF, ↓te_callV, ↓oc_callV, ↓rt_callV, ↓te_k, ↓oc_k, ↓rt_k, ↓te_gl, ↓oc_gl, ↓rt_gl, ↓te_tup, ↓oc_tup, ↓rt_tup, ↓te_lst, ↓oc_lst, ↓rt_lst, ↓te_dct, ↓oc_dct, ↓rt_dct, ↓te_ch, ↓oc_ch, ↓rt_ch, ↓te_sl, ↓oc_sl, ↓rt_sl, ↓te_mc, ↓oc_mc, ↓rt_mc, ↓te_bi, ↓oc_bi, ↓rt_bi, ↓te_tst, ↓oc_tst, ↓rt_tst, ↓te_and, ↓oc_and, ↓rt_and, ↓te_or, ↓oc_or, ↓rt_or, ↓te_ife, ↓oc_ife, ↓rt_ife, ↓te_call, ↓oc_call, ↓rt_call, ↓te_lc, ↓oc_lc, ↓rt_lc, ↓te_c2, ↓oc_c2, ↓rt_c2, ↓te_dc, ↓oc_dc, ↓rt_dc, ↓w_anil, ↓w_aref, ↓w_aval, ↓w_asg, ↓w_asgO, ↓w_n, ↓w_tT, ↓w_tsN, ↓w_tsC, ↓w_aug, ↓w_mu, ↓w_setI, ↓w_ex, ↓w_retV, ↓w_retN, ↓w_ife, ↓w_for, ↓w_while, ↓w_starA, ↓w_brk, ↓w_cont, ↓w_pass, ↓w_snil, ↓w_scons, ↓w_body,
    ↓W_some, ↓W_if, ↓ifB_t, ↓ifB_f, ↓ifB_not, ↓onSl_v, ↓onSl_o, ↓onSl_b, ↓onNx_n, ↓onNx_b, ↓onNx_c, ↓onNx_r, ↓endF_r, ↓endF_n, ↓onFl_n, ↓onFl_c, ↓onFl_b, ↓onFl_r, ↓asB_b, ↓as1_1, ↓as2_2, notBor_u, notBor_v, notBor_o,
    ↓x_add, ↓x_addS, ↓x_addT, ↓x_addL, ↓x_iadd, ↓x_isub, ↓x_sub, ↓x_mul, ↓x_fdiv, ↓x_mod, ↓x_pow, ↓x_neg, ↓x_eq, ↓x_ne, ↓x_lt, ↓x_le, ↓x_gt, ↓x_ge, ↓x_isN, ↓x_notN, ↓x_isB, ↓x_notB, ↓x_inS, ↓x_ninS, ↓x_itemL, ↓x_itemT, ↓x_itemScr, ↓x_itemS, ↓x_lenL, ↓x_lenT, ↓x_lenScr, ↓x_lenS, ↓x_abs, ↓x_max, ↓x_min, ↓x_intI, ↓x_intB, ↓x_rev, ↓x_revT, ↓x_count, ↓x_inT, ↓x_inL, ↓x_ninT, ↓x_ninL, ↓x_mrev, ↓x_mclr, ↓x_app, ↓x_ext, ↓x_sorted, ↓x_sortedD, ↓x_sortSL, ↓x_sortST, ↓x_setD, ↓x_inD, ↓x_ninD, ↓x_repr, ↓x_str, ↓xi_n, ↓xi_b, ↓xi_i, ↓xi_s, ↓xi_l, ↓xi_t, ↓xi_d0, ↓xi_dS, ↓xi_dI, ↓x_all, ↓x_any, ↓x_join, ↓x_tupleL, ↓x_tupleT, ↓x_listL, ↓x_listT, ↓x_cutL, ↓x_cutT, ↓x_cutS, ↓x_ca0, ↓x_ca1, ↓x_ca2, ↓x_ca3, ↓tr_b, ↓tr_n, ↓tr_i, ↓tr_l, ↓tr_t, ↓it_l, ↓it_t, ↓it_s, ↓it_r1, ↓it_r2, ↓it_en, ↓it_z,
    fillD, List.map_cons, List.map_nil, Option.map_some, in_n, in_b, in_i, in_s, in_t, in_l, in_d, ek_s, ek_i, ek_b, ln_n, ln_b, ln_i, ln_s, ln_t, ln_d, ln_l, opdV, deref, derefs, mutAt, listAt, agD, backS, Ag.slots, nodupB, noMut, wipeS, restS, outS, argS, mut_u, mut_v, mut_o, mut_b, iv_k, iv_gl, iv_tup, iv_lst, iv_dct, iv_ch, iv_sl, iv_mc, iv_bi, iv_tst, iv_and, iv_or, iv_ife, iv_call, iv_lc, iv_c2, iv_dc, isKey, sc_n, sc_b, sc_i, sc_s, sc_l, sc_t, sc_d0, sc_dS, sc_dI, tyName, atI_0, atI_1, atI_2, atI_3, x_set0, x_set1, x_set2,
    List.getElem?_cons_succ, List.getElem?_cons_zero, List.getElem?_nil, List.set_cons_succ, List.set_cons_zero, List.cons_append, List.nil_append, List.replicate, Nat.reduceSub, Option.bind_some, Option.toList_some, Option.toList_none, List.getD_cons_succ, List.getD_cons_zero, Bool.not_true, Bool.not_false, true_and, and_true, List.contains_nil, List.all_cons, List.all_nil, Bool.and_true, Bool.true_and, decide_true, decide_false, Bool.true_eq_false, Bool.false_eq_true, kit_ii, kit_bi, kit_ni, kit_si, kit_li, kit_ti, kit_di, kit_ib, kit_bb, kit_nb, kit_sb, kit_lb, kit_tb, kit_db, kit_is, kit_bs, kit_ns, kit_ss, kit_ls, kit_ts, kit_ds, kit_it, kit_bt, kit_nt, kit_st, kit_lt, kit_tt, kit_dt, kit_il, kit_bl, kit_nl, kit_sl, kit_ll, kit_tl, kit_dl, sh_n, sh_b, sh_i, eqv_ii, eqv_bb, eqv_st, ↓nb_ff, ↓nb_ft, ↓nb_tf, ↓nb_tt])


/-! ### nets -/
def pairT (p : Str × Str) : D := .tuple [.str p.1, .str p.2]
def allP : List Str → List (Str × Str)
  | [] => []
  | a :: r => r.map (fun b => (a, b)) ++ allP r
structure NetOk (ns : List Str) (ps : List (Str × Str)) : Prop where
  ge : 2 ≤ ns.length
  le : ns.length ≤ 12
  name : ∀ s ∈ ns, NameS s
  rise : Rise ns
  sub : ps.Sublist (allP ns)
def netD (ns : List Str) (ps : List (Str × Str)) : D := .tuple [.tuple (ns.map PyData.str), .tuple (ps.map pairT)]
theorem w_lcSub {turn : D → Ss → Option (Option D × Ss)} (I : Nat → Ss → Prop) (f : D → D) {Q : List D × Ss → Prop} : ∀ (items : List D) (j : Nat) (sl : Ss), I j sl → (∀ i d sl, i < j + items.length → d ∈ items → I i sl → W (turn d sl) (fun p => (p.1 = some (f d) ∨ p.1 = none) ∧ I (i + 1) p.2)) →
    (∀ (L : List D) (sl : Ss), L.Sublist items → I (j + items.length) sl → Q (L.map f, sl)) → W (lcGo turn items sl) Q
  | [], j, sl, h, _, k => by
    rw [lcGo, W_some]
    exact k [] sl (.slnil) h
  | d :: ds, j, sl, h, ht, k => by
    obtain ⟨⟨o, sl1⟩, e, q1, q2⟩ := ht j d sl (by rw [List.length_cons]; omega) List.mem_cons_self h
    simp only at q1 q2
    rw [lcGo, e]
    have := w_lcSub I f (turn := turn) (Q := fun r => Q (o.toList ++ r.1, r.2)) ds (j + 1) sl1 q2 (fun i d' sl hi hd hI => ht i d' sl (by rw [List.length_cons]; omega) (List.mem_cons_of_mem _ hd) hI) (fun L sl hL hI => by
      have hI : I (j + (d :: ds).length) sl := by rw [List.length_cons, show j + (ds.length + 1) = j + 1 + ds.length from by omega]; exact hI
      rcases q1 with rfl | rfl
      · exact k (d :: L) sl (hL.cons₂ d) hI
      · exact k L sl (hL.cons d) hI)
    obtain ⟨r, e2, q⟩ := this
    obtain ⟨rs, sl2⟩ := r
    simp only [e2, W_some]
    rcases q1 with rfl | rfl <;> exact q
theorem enum_at : ∀ {ds : List D} {lo : Int} {i : Nat} {x : D}, (enumFrom lo ds)[i]? = some x → ∃ d, ds[i]? = some d ∧ x = .tuple [.int (lo + i), d]
  | [], lo, i, x, h => by simp [enumFrom] at h
  | d :: ds, lo, 0, x, h => by
    simp only [enumFrom, List.getElem?_cons_zero, Option.some.injEq] at h
    exact ⟨d, rfl, by rw [← h]; simp⟩
  | d :: ds, lo, i + 1, x, h => by
    simp only [enumFrom, List.getElem?_cons_succ] at h
    obtain ⟨e, h1, h2⟩ := enum_at h
    refine ⟨e, by rw [List.getElem?_cons_succ]; exact h1, ?_⟩
    rw [h2, show lo + 1 + (i : Int) = lo + ((i + 1 : Nat) : Int) from by omega]
theorem enum_len : ∀ (ds : List D) (lo : Int), (enumFrom lo ds).length = ds.length
  | [], _ => rfl
  | d :: ds, lo => by rw [enumFrom, List.length_cons, List.length_cons, enum_len ds]
theorem cut_drop {ds : List D} {i : Int} (h : 0 ≤ i) : cutD ds (some i) none = ds.drop i.toNat := by
  unfold cutD
  rw [sIx_pos h, HT.sIx_none]
  rcases Nat.le_total i.toNat ds.length with q | q
  · rw [Nat.min_eq_left q]
    exact List.take_of_length_le (by rw [List.length_drop]; exact Nat.le_refl _)
  · rw [Nat.min_eq_right q, List.drop_length, List.drop_eq_nil_of_le q]
    simp
theorem allP_len : ∀ ns : List Str, (allP ns).length ≤ ns.length * ns.length
  | [] => Nat.le_refl _
  | a :: r => by
    rw [allP, List.length_append, List.length_map, List.length_cons, Nat.succ_mul, Nat.mul_succ]
    have := allP_len r
    omega
theorem allP_drop {ns : List Str} {i : Nat} {a : Str} (h : ns[i]? = some a) : allP (ns.drop i) = (ns.drop (i + 1)).map (fun b => (a, b)) ++ allP (ns.drop (i + 1)) := by
  obtain ⟨hi, e⟩ := List.getElem?_eq_some_iff.mp h
  rw [List.drop_eq_getElem_cons hi, e]
  rfl
section
variable {P : Nat → Option Fn} {n : Nat} {Q : D × Bool × List D → Prop}
theorem net_spec {m : Nat} {fd : D} {many : Int} (hP : P 24 = some f24) (h12 : P 12 = some f12) (hP3 : P 3 = some f3) (hf : FeedOk m fd) (hm : m < 2 ^ 60) (h0 : 2 ≤ many) (h1 : many ≤ 11) (k : ∀ ns ps fd', NetOk ns ps → ns.length ≤ many.toNat → FeedOk (m + 200) fd' → Q (netD ns ps, false, [fd'])) : W (callN ap aM aS P (n + 3) 24 [(true, fd), (false, .int many)]) Q := by
  refine w_fn hP rfl (by decide) ?_
  unfold f24
  trivial
  refine take_spec hP3 hf (by omega) (by omega) (by omega) fun r1 fd1 a1 b1 hf1 => ?_
  trivial
  refine names_spec2 h12 hP3 hf1 (by omega) (by omega) (by omega) fun l fd2 nd nm ln hf2 => ?_
  trivial
  obtain ⟨ns, pm, es, rise⟩ := sortD_texts l nd
  have hlen : ns.length = (2 + r1).toNat := by rw [pm.length_eq, ln]
  refine ⟨sortOk_texts (by rw [ln]; exact Nat.le_trans (by omega) (by decide : 1000 ≤ sizeLine)), ?_⟩
  trivial
  rw [es]
  refine w_forGo (fun i sl => ∃ fd' ps x4 x5 x6, sl = [.bor fd', .val (.int many), .val (.list (ns.map PyData.str)), .own (.list (ps.map pairT)), x4, x5, x6] ∧ FeedOk (m + 5 + 12 * i) fd' ∧ (ps ++ allP (ns.drop i)).Sublist (allP ns) ∧ notBor x4 ∧ notBor x5 ∧ x6.mut = false) (fun _ _ _ => False) _ 0 _ ⟨fd2, [], .un, .un, .un, rfl, hf2.mono (by omega), .refl _, True.intro, True.intro, rfl⟩ (fun i d sl hi hd hI => ?_) (fun sl hI => ?_) (fun _ _ _ h => h.elim)
  · obtain ⟨fd3, ps, x4, x5, x6, rfl, hf3, hs, n4, n5, u6⟩ := hI
    obtain ⟨d', hd2, rfl⟩ := enum_at hd
    rw [List.getElem?_map, Nat.sub_zero] at hd2
    cases ha : ns[i]? with
    | none => rw [ha] at hd2; cases hd2
    | some a =>
    rw [ha] at hd2
    cases hd2
    have hil : i < ns.length := (List.getElem?_eq_some_iff.mp ha).1
    trivial
    refine ⟨n4, n5, ?_⟩
    trivial
    refine ⟨by rw [u6]; rfl, by rw [u6]; rfl, ?_⟩
    rw [cut_drop (by omega), ← List.map_drop, show (0 + ((i - 0 : Nat) : Int) + 1).toNat = i + 1 from by omega]
    have hdl : (ns.drop (i + 1)).length ≤ 12 := by rw [List.length_drop]; omega
    refine w_lcSub (fun j sl => ∃ fd' x, sl = [.bor fd', .val (.int many), .val (.list (ns.map PyData.str)), .own (.list (ps.map pairT)), .val (.int (0 + ((i - 0 : Nat) : Int))), .val (.str a), x] ∧ FeedOk (m + 5 + 12 * i + j) fd' ∧ x.mut = false) (fun d => .tuple [.str a, d]) _ 0 _ ⟨fd3, x6, rfl, hf3, u6⟩ (fun j d sl hj hd hI => ?_) (fun L sl hL hI => ?_)
    · obtain ⟨fd4, x, rfl, hf4, ux⟩ := hI
      rw [List.length_map] at hj
      trivial
      refine take_spec hP3 hf4 (by omega) (by decide) (by decide) fun r fd5 a5 b5 hf5 => ?_
      trivial
      refine ifD_of (fun h => ?_) (fun h => ?_)
      · trivial
        exact ⟨.inl True.intro, fd5, _, rfl, hf5, rfl⟩
      · trivial
        exact ⟨.inr True.intro, fd5, _, rfl, hf5, rfl⟩
    · obtain ⟨fd4, x, rfl, hf4, ux⟩ := hI
      rw [List.length_map] at hf4
      obtain ⟨L', hL', rfl⟩ := List.sublist_map_iff.mp hL
      have hl2 : L'.length ≤ 12 := Nat.le_trans hL'.length_le hdl
      trivial
      have em : ps.map pairT ++ (L'.map PyData.str).map (fun d => .tuple [.str a, d]) = (ps ++ L'.map fun b => (a, b)).map pairT := by
        rw [List.map_append, List.map_map, List.map_map]
        rfl
      have pl : ps.length ≤ 144 := by
        have h1 := hs.length_le
        have h2 := allP_len ns
        have h3 : ns.length * ns.length ≤ 12 * 12 := Nat.mul_le_mul (by omega) (by omega)
        rw [List.length_append] at h1
        omega
      refine ⟨by simp only [List.length_map]; exact Nat.le_trans hl2 (by decide), by simp only [List.length_map]; exact Nat.le_trans (Nat.add_le_add pl hl2) (by decide), ?_⟩
      rw [em]
      trivial
      refine ⟨_, _, _, _, _, rfl, hf4.mono (by omega), ?_, True.intro, True.intro, u6⟩
      rw [List.append_assoc]
      refine List.Sublist.trans ?_ hs
      rw [allP_drop ha]
      exact (List.Sublist.refl ps).append ((hL'.map _).append (.refl _))
  · obtain ⟨fd3, ps, x4, x5, x6, rfl, hf3, hs, n4, n5, u6⟩ := hI
    rw [enum_len, List.length_map] at hf3 hs
    trivial
    rw [Nat.zero_add, List.drop_length, allP, List.append_nil] at hs
    exact k ns ps fd3 ⟨by omega, by omega, fun s hs => nm s (pm.mem_iff.mp hs), rise, hs⟩ (by omega) (hf3.mono (by omega))
end

end EV
namespace EV
open PySem PySem.Spec L2
open PyProof.Rows hiding St
local macro_rules
  | `(tactic| trivial) => `(tactic| simp -failIfUnchanged only [↓w_k, ↓w_gl, ↓w_v, ↓w_tup, ↓w_lst, ↓w_dct0, ↓w_dct1, ↓w_bi, ↓w_mc, ↓w_sl, ↓w_ch, ↓w_tst, ↓w_and, ↓w_or, ↓w_ifeE, ↓w_call, ↓w_callK, ↓w_callF, ↓w_callV, ↓w_lc, ↓w_turn, ↓w_c2f, ↓w_c2t, ↓w_turn2, ↓w_dc, ↓w_turnD, ↓w_nil, ↓w_cons, ↓w_onil, ↓w_oconsV, ↓w_yes, ↓w_tnot, ↓w_tand, ↓w_tor, ↓w_texV, ↓te_callK, ↓oc_callK, ↓rt_callK, ↓te_callF, ↓oc_callF, ↓rt_callF, ↓te_callV, ↓oc_callV, ↓rt_callV, ↓te_k, ↓oc_k, ↓rt_k, ↓te_gl, ↓oc_gl, ↓rt_gl, ↓te_tup, ↓oc_tup, ↓rt_tup, ↓te_lst, ↓oc_lst, ↓rt_lst, ↓te_dct, ↓oc_dct, ↓rt_dct, ↓te_ch, ↓oc_ch, ↓rt_ch, ↓te_sl, ↓oc_sl, ↓rt_sl, ↓te_mc, ↓oc_mc, ↓rt_mc, ↓te_bi, ↓oc_bi, ↓rt_bi, ↓te_tst, ↓oc_tst, ↓rt_tst, ↓te_and, ↓oc_and, ↓rt_and, ↓te_or, ↓oc_or, ↓rt_or, ↓te_ife, ↓oc_ife, ↓rt_ife, ↓te_call, ↓oc_call, ↓rt_call, ↓te_lc, ↓oc_lc, ↓rt_lc, ↓te_c2, ↓oc_c2, ↓rt_c2, ↓te_dc, ↓oc_dc, ↓rt_dc, ↓w_anil, ↓w_aref, ↓w_aval, ↓w_asg, ↓w_asgO, ↓w_n, ↓w_tT, ↓w_tsN, ↓w_tsC, ↓w_aug, ↓w_mu, ↓w_setI, ↓w_ex, ↓w_retV, ↓w_retN, ↓w_ife, ↓w_for, ↓w_while, ↓w_starA, ↓w_brk, ↓w_cont, ↓w_pass, ↓w_snil, ↓w_scons, ↓w_body,
    ↓W_some, ↓W_if, ↓ifB_t, ↓ifB_f, ↓ifB_not, ↓onSl_v, ↓onSl_o, ↓onSl_b, ↓onNx_n, ↓onNx_b, ↓onNx_c, ↓onNx_r, ↓endF_r, ↓endF_n, ↓onFl_n, ↓onFl_c, ↓onFl_b, ↓onFl_r, ↓asB_b, ↓as1_1, ↓as2_2, notBor_u, notBor_v, notBor_o,
    ↓x_add, ↓x_addS, ↓x_addT, ↓x_addL, ↓x_iadd, ↓x_isub, ↓x_sub, ↓x_mul, ↓x_fdiv, ↓x_mod, ↓x_pow, ↓x_neg, ↓x_eq, ↓x_ne, ↓x_lt, ↓x_le, ↓x_gt, ↓x_ge, ↓x_isN, ↓x_notN, ↓x_isB, ↓x_notB, ↓x_inS, ↓x_ninS, ↓x_itemL, ↓x_itemT, ↓x_itemScr, ↓x_itemS, ↓x_lenL, ↓x_lenT, ↓x_lenScr, ↓x_lenS, ↓x_abs, ↓x_max, ↓x_min, ↓x_intI, ↓x_intB, ↓x_rev, ↓x_revT, ↓x_count, ↓x_inT, ↓x_inL, ↓x_ninT, ↓x_ninL, ↓x_mrev, ↓x_mclr, ↓x_app, ↓x_ext, ↓x_sorted, ↓x_sortedD, ↓x_sortSL, ↓x_sortST, ↓x_setD, ↓x_inD, ↓x_ninD, ↓x_repr, ↓x_str, ↓xi_n, ↓xi_b, ↓xi_i, ↓xi_s, ↓xi_l, ↓xi_t, ↓xi_d0, ↓xi_dS, ↓xi_dI, ↓x_all, ↓x_any, ↓x_join, ↓x_tupleL, ↓x_tupleT, ↓x_listL, ↓x_listT, ↓x_cutL, ↓x_cutT, ↓x_cutS, ↓x_ca0, ↓x_ca1, ↓x_ca2, ↓x_ca3, ↓tr_b, ↓tr_n, ↓tr_i, ↓tr_l, ↓tr_t, ↓it_l, ↓it_t, ↓it_s, ↓it_r1, ↓it_r2, ↓it_en, ↓it_z,
    fillD, List.map_cons, List.map_nil, Option.map_some, in_n, in_b, in_i, in_s, in_t, in_l, in_d, ek_s, ek_i, ek_b, ln_n, ln_b, ln_i, ln_s, ln_t, ln_d, ln_l, opdV, deref, derefs, mutAt, listAt, agD, backS, Ag.slots, nodupB, noMut, wipeS, restS, outS, argS, mut_u, mut_v, mut_o, mut_b, iv_k, iv_gl, iv_tup, iv_lst, iv_dct, iv_ch, iv_sl, iv_mc, iv_bi, iv_tst, iv_and, iv_or, iv_ife, iv_call, iv_lc, iv_c2, iv_dc, isKey, sc_n, sc_b, sc_i, sc_s, sc_l, sc_t, sc_d0, sc_dS, sc_dI, tyName, atI_0, atI_1, atI_2, atI_3, x_set0, x_set1, x_set2,
    List.getElem?_cons_succ, List.getElem?_cons_zero, List.getElem?_nil, List.set_cons_succ, List.set_cons_zero, List.cons_append, List.nil_append, List.replicate, Nat.reduceSub, Option.bind_some, Option.toList_some, Option.toList_none, List.getD_cons_succ, List.getD_cons_zero, Bool.not_true, Bool.not_false, true_and, and_true, List.contains_nil, List.all_cons, List.all_nil, Bool.and_true, Bool.true_and, decide_true, decide_false, Bool.true_eq_false, Bool.false_eq_true, kit_ii, kit_bi, kit_ni, kit_si, kit_li, kit_ti, kit_di, kit_ib, kit_bb, kit_nb, kit_sb, kit_lb, kit_tb, kit_db, kit_is, kit_bs, kit_ns, kit_ss, kit_ls, kit_ts, kit_ds, kit_it, kit_bt, kit_nt, kit_st, kit_lt, kit_tt, kit_dt, kit_il, kit_bl, kit_nl, kit_sl, kit_ll, kit_tl, kit_dl, sh_n, sh_b, sh_i, eqv_ii, eqv_bb, eqv_st, ↓nb_ff, ↓nb_ft, ↓nb_tf, ↓nb_tt])


/-! ### ways -/
def swapP (p : Str × Str) : Str × Str := (p.2, p.1)
theorem sortOk_pairs {l : List (Str × Str)} (h : l.length ≤ sizeLine) : sortOk (l.map pairT) = true := by
  unfold sortOk
  rw [List.length_map, decide_eq_true h, Bool.true_and]
  have h1 : (l.map pairT).all isRowT = true := by
    rw [List.all_eq_true]
    intro d hd
    obtain ⟨s, _, rfl⟩ := List.mem_map.mp hd
    rfl
  have h2 : ((l.map pairT).all fun d => (l.map pairT).all fun e => cmpT (rowOf d) (rowOf e)) = true := by
    rw [List.all_eq_true]
    intro d hd
    rw [List.all_eq_true]
    intro e he
    obtain ⟨s, _, rfl⟩ := List.mem_map.mp hd
    obtain ⟨t, _, rfl⟩ := List.mem_map.mp he
    simp only [pairT, rowOf, cmpT]
    repeat' split
    all_goals rfl
  rw [h1, h2]
  simp
theorem pairT_inj {p q : Str × Str} (h : pairT p = pairT q) : p = q := by
  obtain ⟨a, b⟩ := p
  obtain ⟨c, d⟩ := q
  simp only [pairT] at h
  injection h with h
  injection h with h1 h2
  injection h1 with h1
  injection h2 with h2 _
  injection h2 with h2
  rw [h1, h2]
/-- the ways of pairs, rising -/
def wayD (ps : List (Str × Str)) : List D := sortD ((ps ++ ps.map swapP).map pairT)
theorem wayD_of (ps : List (Str × Str)) : ∃ ws : List (Str × Str), wayD ps = ws.map pairT ∧ ws.Perm (ps ++ ps.map swapP) := by
  obtain ⟨ws, h1, h2⟩ := perm_lift (sortD_perm ((ps ++ ps.map swapP).map pairT)) (t := ps ++ ps.map swapP) rfl
  exact ⟨ws, h1.symm, h2⟩
/-- rows: a name, a number, steps and by whom -/
structure Row where
  w : Str
  num : Int
  via : Option (Int × Str)
def rowD (r : Row) : D := .tuple [.str r.w, .int r.num, (match r.via with | none => .none | some p => .int p.1), (match r.via with | none => .none | some p => .str p.2)]
def big (i : Int) : Prop := i ≤ 1000000000000000000000000000000000000000000000000000000000000
structure RowOk (ts : List Str) (r : Row) : Prop where
  num : 1 ≤ r.num ∧ big r.num
  via : ∀ p, r.via = some p → 1 ≤ p.1 ∧ big p.1 ∧ p.2 ∈ ts
section
variable {P : Nat → Option Fn} {n : Nat} {Q : D × Bool × List D → Prop}
theorem ways_spec {ns : List Str} {ps : List (Str × Str)} (hP : P 25 = some f25) (hl : ps.length ≤ 1000) (k : Q (.list (wayD ps), true, [])) : W (callN ap aM aS P (n + 1) 25 [(false, netD ns ps)]) Q := by
  refine w_fn hP rfl (by decide) ?_
  unfold f25 netD
  trivial
  refine w_lcFM (fun sl => ∃ x y, sl = [.val (netD ns ps), x, y] ∧ x.mut = false ∧ y.mut = false) (fun d => match d with
      | .tuple [a, b] => some (.tuple [b, a])
      | _ => none) _ _ ⟨_, _, rfl, rfl, rfl⟩ (fun d hd sl hI => ?_) (fun sl hI => ?_)
  · obtain ⟨x, y, rfl, hx, hy⟩ := hI
    obtain ⟨p, hp, rfl⟩ := List.mem_map.mp hd
    unfold pairT
    trivial
    exact ⟨_, _, rfl, rfl, rfl⟩
  · obtain ⟨x, y, rfl, hx, hy⟩ := hI
    have em : (ps.map pairT).filterMap (fun d => match d with
      | .tuple [a, b] => some (.tuple [b, a])
      | _ => none) = (ps.map swapP).map pairT := by
      rw [List.filterMap_map, List.map_map]
      have : ∀ l : List (Str × Str), l.filterMap ((fun d => match d with
        | PyData.tuple [a, b] => some (PyData.tuple [b, a])
        | _ => none) ∘ pairT) = l.map (pairT ∘ swapP) := fun l => by
        induction l with
        | nil => rfl
        | cons p r ih => rw [List.filterMap_cons, List.map_cons, ← ih]; rfl
      exact this ps
    rw [em]
    refine ⟨by simp only [List.length_map]; exact Nat.le_trans hl (by decide), ?_⟩
    trivial
    rw [← List.map_append]
    refine ⟨by simp only [List.length_map]; exact Nat.le_trans (Nat.add_le_add hl hl) (by decide), ?_⟩
    trivial
    refine ⟨sortOk_pairs (by rw [List.length_append, List.length_map]; exact Nat.le_trans (Nat.add_le_add hl hl) (by decide)), ?_⟩
    trivial
    exact k
theorem few_spec {m : Nat} {fd : D} {ds : List D} (hP : P 41 = some f41) (hP3 : P 3 = some f3) (hf : FeedOk m fd) (hm : m < 2 ^ 60) (hl : ds.length ≤ 1000) (k : ∀ L fd', L.Sublist ds → FeedOk (m + 1 + ds.length) fd' → Q (.list L, true, [fd'])) : W (callN ap aM aS P (n + 2) 41 [(true, fd), (false, .list ds)]) Q := by
  refine w_fn hP rfl (by decide) ?_
  unfold f41
  trivial
  refine take_spec hP3 hf (by omega) (by decide) (by decide) fun r1 fd1 a1 b1 hf1 => ?_
  trivial
  refine w_lcSub (fun j sl => ∃ fd' x, sl = [.bor fd', .val (.list ds), .val (.int r1), x] ∧ FeedOk (m + 1 + j) fd' ∧ x.mut = false) (fun d => d) _ 0 _ ⟨fd1, _, rfl, hf1, rfl⟩ (fun j d sl hj hd hI => ?_) (fun L sl hL hI => ?_)
  · obtain ⟨fd2, x, rfl, hf2, ux⟩ := hI
    trivial
    refine ifD_of (fun h => ?_) (fun h => ?_)
    · trivial
      exact ⟨.inl True.intro, fd2, _, rfl, hf2.mono (by omega), rfl⟩
    · trivial
      refine ifD_of (fun h => ?_) (fun h => ?_)
      · trivial
        refine take_spec hP3 hf2 (by omega) (by decide) (by decide) fun r2 fd3 a3 b3 hf3 => ?_
        trivial
        refine ifD_of (fun h => ?_) (fun h => ?_)
        · trivial
          exact ⟨.inl True.intro, fd3, _, rfl, hf3, rfl⟩
        · trivial
          exact ⟨.inr True.intro, fd3, _, rfl, hf3, rfl⟩
      · trivial
        exact ⟨.inr True.intro, fd2, _, rfl, hf2.mono (by omega), rfl⟩
  · obtain ⟨fd2, x, rfl, hf2, ux⟩ := hI
    rw [List.map_id'] 
    refine ⟨Nat.le_trans hL.length_le (Nat.le_trans hl (by decide)), ?_⟩
    trivial
    exact k L fd2 hL (by simpa using hf2)
theorem anyrow_spec {m : Nat} {fd : D} {w : Str} {ts : List Str} (hP : P 42 = some f42) (h31 : P 31 = some f31) (hP3 : P 3 = some f3) (hf : FeedOk m fd) (hm : m < 2 ^ 60) (hl : ts.length ≤ 1000) (k : ∀ r fd', r.w = w → RowOk ts r → FeedOk (m + 6) fd' → Q (rowD r, false, [fd'])) : W (callN ap aM aS P (n + 3) 42 [(true, fd), (false, .str w), (false, .list (ts.map PyData.str))]) Q := by
  refine w_fn hP rfl (by decide) ?_
  unfold f42
  trivial
  refine number_spec h31 hP3 hf (by omega) fun r1 fd1 a1 b1 hf1 => ?_
  trivial
  refine number_spec h31 hP3 hf1 (by omega) fun r2 fd2 a2 b2 hf2 => ?_
  trivial
  have no : ∀ fd', FeedOk (m + 6) fd' → Q (.tuple [.str w, .int r1, .none, .none], false, [fd']) := fun fd' hf => k ⟨w, r1, none⟩ fd' rfl ⟨⟨a1, show big r1 from by unfold big; omega⟩, fun p hp => nomatch hp⟩ hf
  refine ifB_of (fun hne => ?_) (fun h => ?_)
  · trivial
    refine take_spec hP3 hf2 (by omega) (by decide) (by decide) fun r3 fd3 a3 b3 hf3 => ?_
    trivial
    refine ifD_of (fun h => ?_) (fun h => ?_)
    · trivial
      exact no _ (hf3.mono (by omega))
    · trivial
      have hts : 0 < ts.length := by
        have : (ts.map PyData.str).length ≠ 0 := by simpa using hne
        rw [List.length_map] at this
        omega
      refine take_spec hP3 hf3 (by omega) (by rw [List.length_map]; omega) (by rw [List.length_map]; omega) fun r4 fd4 a4 b4 hf4 => ?_
      trivial
      refine W_atI a4 (by simpa using b4) fun y hy => ?_
      obtain ⟨t, ht, rfl⟩ := List.mem_map.mp hy
      trivial
      exact k ⟨w, r1, some (r2, t)⟩ fd4 rfl ⟨⟨a1, show big r1 from by unfold big; omega⟩, fun p hp => by cases hp; exact ⟨a2, show big r2 from by unfold big; omega, ht⟩⟩ (hf4.mono (by omega))
  · have : ts = [] := by
      have : (ts.map PyData.str).length = 0 := by simpa using h
      simpa using this
    subst this
    refine ⟨by decide +kernel, ?_⟩
    rw [show PyData.eqv (.list (List.map PyData.str [])) (.list []) = true from by rw [PyData.eqv]; rfl]
    trivial
    exact no _ (hf2.mono (by omega))
end

end EV
namespace EV
open PySem PySem.Spec L2
open PyProof.Rows hiding St
local macro_rules
  | `(tactic| trivial) => `(tactic| simp -failIfUnchanged only [↓w_k, ↓w_gl, ↓w_v, ↓w_tup, ↓w_lst, ↓w_dct0, ↓w_dct1, ↓w_bi, ↓w_mc, ↓w_sl, ↓w_ch, ↓w_tst, ↓w_and, ↓w_or, ↓w_ifeE, ↓w_call, ↓w_callK, ↓w_callF, ↓w_callV, ↓w_lc, ↓w_turn, ↓w_c2f, ↓w_c2t, ↓w_turn2, ↓w_dc, ↓w_turnD, ↓w_nil, ↓w_cons, ↓w_onil, ↓w_oconsV, ↓w_yes, ↓w_tnot, ↓w_tand, ↓w_tor, ↓w_texV, ↓te_callK, ↓oc_callK, ↓rt_callK, ↓te_callF, ↓oc_callF, ↓rt_callF, ↓te_callV, ↓oc_callV, ↓rt_callV, ↓te_k, ↓oc_k, ↓rt_k, ↓te_gl, ↓oc_gl, ↓rt_gl, ↓te_tup, ↓oc_tup, ↓rt_tup, ↓te_lst, ↓oc_lst, ↓rt_lst, ↓te_dct, ↓oc_dct, ↓rt_dct, ↓te_ch, ↓oc_ch, ↓rt_ch, ↓te_sl, ↓oc_sl, ↓rt_sl, ↓te_mc, ↓oc_mc, ↓rt_mc, ↓te_bi, ↓oc_bi, ↓rt_bi, ↓te_tst, ↓oc_tst, ↓rt_tst, ↓te_and, ↓oc_and, ↓rt_and, ↓te_or, ↓oc_or, ↓rt_or, ↓te_ife, ↓oc_ife, ↓rt_ife, ↓te_call, ↓oc_call, ↓rt_call, ↓te_lc, ↓oc_lc, ↓rt_lc, ↓te_c2, ↓oc_c2, ↓rt_c2, ↓te_dc, ↓oc_dc, ↓rt_dc, ↓w_anil, ↓w_aref, ↓w_aval, ↓w_asg, ↓w_asgO, ↓w_n, ↓w_tT, ↓w_tsN, ↓w_tsC, ↓w_aug, ↓w_mu, ↓w_setI, ↓w_ex, ↓w_retV, ↓w_retN, ↓w_ife, ↓w_for, ↓w_while, ↓w_starA, ↓w_brk, ↓w_cont, ↓w_pass, ↓w_snil, ↓w_scons, ↓w_body,
    ↓W_some, ↓W_if, ↓ifB_t, ↓ifB_f, ↓ifB_not, ↓onSl_v, ↓onSl_o, ↓onSl_b, ↓onNx_n, ↓onNx_b, ↓onNx_c, ↓onNx_r, ↓endF_r, ↓endF_n, ↓onFl_n, ↓onFl_c, ↓onFl_b, ↓onFl_r, ↓asB_b, ↓as1_1, ↓as2_2, notBor_u, notBor_v, notBor_o,
    ↓x_add, ↓x_addS, ↓x_addT, ↓x_addL, ↓x_iadd, ↓x_isub, ↓x_sub, ↓x_mul, ↓x_fdiv, ↓x_mod, ↓x_pow, ↓x_neg, ↓x_eq, ↓x_ne, ↓x_lt, ↓x_le, ↓x_gt, ↓x_ge, ↓x_isN, ↓x_notN, ↓x_isB, ↓x_notB, ↓x_inS, ↓x_ninS, ↓x_itemL, ↓x_itemT, ↓x_itemScr, ↓x_itemS, ↓x_lenL, ↓x_lenT, ↓x_lenScr, ↓x_lenS, ↓x_abs, ↓x_max, ↓x_min, ↓x_intI, ↓x_intB, ↓x_rev, ↓x_revT, ↓x_count, ↓x_inT, ↓x_inL, ↓x_ninT, ↓x_ninL, ↓x_mrev, ↓x_mclr, ↓x_app, ↓x_ext, ↓x_sorted, ↓x_sortedD, ↓x_sortSL, ↓x_sortST, ↓x_setD, ↓x_inD, ↓x_ninD, ↓x_repr, ↓x_str, ↓xi_n, ↓xi_b, ↓xi_i, ↓xi_s, ↓xi_l, ↓xi_t, ↓xi_d0, ↓xi_dS, ↓xi_dI, ↓x_all, ↓x_any, ↓x_join, ↓x_tupleL, ↓x_tupleT, ↓x_listL, ↓x_listT, ↓x_cutL, ↓x_cutT, ↓x_cutS, ↓x_ca0, ↓x_ca1, ↓x_ca2, ↓x_ca3, ↓tr_b, ↓tr_n, ↓tr_i, ↓tr_l, ↓tr_t, ↓it_l, ↓it_t, ↓it_s, ↓it_r1, ↓it_r2, ↓it_en, ↓it_z,
    fillD, List.map_cons, List.map_nil, Option.map_some, in_n, in_b, in_i, in_s, in_t, in_l, in_d, ek_s, ek_i, ek_b, ln_n, ln_b, ln_i, ln_s, ln_t, ln_d, ln_l, opdV, deref, derefs, mutAt, listAt, agD, backS, Ag.slots, nodupB, noMut, wipeS, restS, outS, argS, mut_u, mut_v, mut_o, mut_b, iv_k, iv_gl, iv_tup, iv_lst, iv_dct, iv_ch, iv_sl, iv_mc, iv_bi, iv_tst, iv_and, iv_or, iv_ife, iv_call, iv_lc, iv_c2, iv_dc, isKey, sc_n, sc_b, sc_i, sc_s, sc_l, sc_t, sc_d0, sc_dS, sc_dI, tyName, atI_0, atI_1, atI_2, atI_3, x_set0, x_set1, x_set2,
    List.getElem?_cons_succ, List.getElem?_cons_zero, List.getElem?_nil, List.set_cons_succ, List.set_cons_zero, List.cons_append, List.nil_append, List.replicate, Nat.reduceSub, Option.bind_some, Option.toList_some, Option.toList_none, List.getD_cons_succ, List.getD_cons_zero, Bool.not_true, Bool.not_false, true_and, and_true, List.contains_nil, List.all_cons, List.all_nil, Bool.and_true, Bool.true_and, decide_true, decide_false, Bool.true_eq_false, Bool.false_eq_true, kit_ii, kit_bi, kit_ni, kit_si, kit_li, kit_ti, kit_di, kit_ib, kit_bb, kit_nb, kit_sb, kit_lb, kit_tb, kit_db, kit_is, kit_bs, kit_ns, kit_ss, kit_ls, kit_ts, kit_ds, kit_it, kit_bt, kit_nt, kit_st, kit_lt, kit_tt, kit_dt, kit_il, kit_bl, kit_nl, kit_sl, kit_ll, kit_tl, kit_dl, sh_n, sh_b, sh_i, eqv_ii, eqv_bb, eqv_st, ↓nb_ff, ↓nb_ft, ↓nb_tf, ↓nb_tt])


/-! ### facts of nets -/
theorem allP_mem : ∀ {ns : List Str}, Rise ns → ∀ {p : Str × Str}, p ∈ allP ns → p.1 ∈ ns ∧ p.2 ∈ ns ∧ ltS p.1 p.2 = true
  | [], _, p, h => nomatch h
  | a :: r, hr, p, h => by
    obtain ⟨h1, h2⟩ := List.pairwise_cons.mp hr
    rcases List.mem_append.mp h with q | q
    · obtain ⟨b, hb, rfl⟩ := List.mem_map.mp q
      exact ⟨List.mem_cons_self, List.mem_cons_of_mem _ hb, h1 b hb⟩
    · obtain ⟨i1, i2, i3⟩ := allP_mem h2 q
      exact ⟨List.mem_cons_of_mem _ i1, List.mem_cons_of_mem _ i2, i3⟩
theorem Rise.nodup {l : List Str} (h : Rise l) : l.Nodup := h.imp fun {a b} g => ltS_ne g
theorem allP_nodup : ∀ {ns : List Str}, Rise ns → (allP ns).Nodup
  | [], _ => .nil
  | a :: r, hr => by
    obtain ⟨h1, h2⟩ := List.pairwise_cons.mp hr
    have hn : r.Nodup := Rise.nodup h2
    refine List.nodup_append.mpr ⟨List.pairwise_map.mpr (hn.imp fun {x y} g e => g (Prod.ext_iff.mp e).2), allP_nodup h2, fun p hp q hq e => ?_⟩
    subst e
    obtain ⟨b, hb, rfl⟩ := List.mem_map.mp hp
    obtain ⟨i1, i2, i3⟩ := allP_mem h2 hq
    have := h1 a i1
    rw [ltS_irr] at this
    cases this
section
variable {ns : List Str} {ps : List (Str × Str)}
theorem NetOk.mem (h : NetOk ns ps) {p : Str × Str} (hp : p ∈ ps) : p.1 ∈ ns ∧ p.2 ∈ ns ∧ ltS p.1 p.2 = true := allP_mem h.rise (h.sub.subset hp)
theorem NetOk.nd (h : NetOk ns ps) : ps.Nodup := h.sub.nodup (allP_nodup h.rise)
theorem NetOk.pl (h : NetOk ns ps) : ps.length ≤ 144 := Nat.le_trans h.sub.length_le (Nat.le_trans (allP_len ns) (Nat.mul_le_mul h.le h.le))
theorem NetOk.ways_nd (h : NetOk ns ps) : (ps ++ ps.map swapP).Nodup := by
  have inj : ∀ x y : Str × Str, swapP x = swapP y → x = y := fun x y e => by
    obtain ⟨a, b⟩ := x
    obtain ⟨c, d⟩ := y
    simp only [swapP, Prod.mk.injEq] at e
    rw [e.1, e.2]
  refine List.nodup_append.mpr ⟨h.nd, List.pairwise_map.mpr (h.nd.imp fun {x y} g e => g (inj x y e)), fun p hp q hq e => ?_⟩
  · subst e
    obtain ⟨r, hr, rfl⟩ := List.mem_map.mp hq
    have h1 := (h.mem hp).2.2
    have h2 := (h.mem hr).2.2
    have h1 : ltS r.2 r.1 = true := h1
    rw [ltS_as h2] at h1
    cases h1
theorem pair_order (h a b : Str) : ltK (dK (pairT (h, a))) (dK (pairT (h, b))) = ltS a b := by
  show lexG (lexG ltI) [aK (.str h), aK (.str a)] [aK (.str h), aK (.str b)] = _
  rw [lexG, if_pos rfl]
  exact str_order a b
/-- the neighbours of a house, rising -/
theorem NetOk.near (h : NetOk ns ps) (s : Str) : ∃ ws : List (Str × Str), wayD ps = ws.map pairT ∧ ws.Perm (ps ++ ps.map swapP) ∧ Rise ((ws.filter fun p => decide (p.1 = s)).map (·.2)) ∧ ∀ t, t ∈ (ws.filter fun p => decide (p.1 = s)).map (·.2) ↔ (s, t) ∈ ps ∨ (t, s) ∈ ps := by
  obtain ⟨ws, e1, e2⟩ := wayD_of ps
  refine ⟨ws, e1, e2, ?_, fun t => ?_⟩
  · have nd := e2.nodup_iff.mpr h.ways_nd
    have p := sortD_pair ((ps ++ ps.map swapP).map pairT)
    have e3 : sortD ((ps ++ ps.map swapP).map pairT) = ws.map pairT := e1
    rw [e3] at p
    have p := pairwise_ne nd (List.pairwise_map.mp p)
    have p := p.filter fun p => decide (p.1 = s)
    refine List.pairwise_map.mpr (List.Pairwise.imp_of_mem ?_ p)
    rintro ⟨a, b⟩ ⟨c, d⟩ ha hc ⟨g1, g2⟩
    have ha := (List.mem_filter.mp ha).2
    have hc := (List.mem_filter.mp hc).2
    simp only [decide_eq_true_eq] at ha hc
    subst ha
    subst hc
    rw [pair_order] at g1
    simp only
    cases e : ltS b d with
    | true => rfl
    | false =>
      have := lin_k.tri (dK (.str b)) (dK (.str d)) (by rw [str_order]; exact e) (by rw [str_order]; exact g1)
      have q := Sort1.inj (ds := [.str b, .str d]) (.ofS fun x hd => by
        simp only [List.mem_cons, List.not_mem_nil, or_false] at hd
        rcases hd with rfl | rfl <;> rfl) (a := .str b) (b := .str d) (by simp) (by simp) this
      injection q with q
      rw [q] at g2
      exact absurd rfl g2
  · simp only [List.mem_map, List.mem_filter, decide_eq_true_eq]
    constructor
    · rintro ⟨p, ⟨hp, rfl⟩, rfl⟩
      rcases List.mem_append.mp (e2.mem_iff.mp hp) with q | q
      · exact .inl q
      · obtain ⟨r, hr, rfl⟩ := List.mem_map.mp q
        exact .inr hr
    · rintro (q | q)
      · exact ⟨(s, t), ⟨e2.mem_iff.mpr (List.mem_append_left _ q), rfl⟩, rfl⟩
      · exact ⟨(s, t), ⟨e2.mem_iff.mpr (List.mem_append_right _ (List.mem_map.mpr ⟨(t, s), q, rfl⟩)), rfl⟩, rfl⟩
end
/-! ### states -/
def knD (p : Str × Int) : D := .tuple [.str p.1, .int p.2]
def downD (own asks : Int) (kn : List (Str × Int)) : D := .tuple [.str (Str.ofString "down"), .int own, .int asks, .tuple (kn.map knD)]
def upD (own asks : Int) (rows : List Row) (seen : List (Str × Int)) (ties : List Str) : D := .tuple [.str (Str.ofString "up"), .int own, .int asks, .tuple (rows.map rowD), .tuple (seen.map knD), .tuple (ties.map PyData.str)]
def nots (s : Str) (ns : List Str) : List Str := ns.filter fun x => decide (x ≠ s)
structure UpOk (ns : List Str) (ps : List (Str × Str)) (house : Str) (own asks : Int) (rows : List Row) (seen : List (Str × Int)) (ties : List Str) : Prop where
  own : 0 ≤ own ∧ big own
  asks : 0 ≤ asks ∧ big asks
  row : ∀ r ∈ rows, RowOk ties r
  rsub : (rows.map (·.w)).Sublist (nots house ns)
  knw : ∀ p ∈ seen, p.1 ∈ ns ∧ 1 ≤ p.2 ∧ big p.2
  len : seen.length ≤ 24
  srt : sortD (dedup (seen.map knD)) = seen.map knD
  nd : seen.Nodup
  rise : Rise ties
  tie : ∀ t ∈ ties, (house, t) ∈ ps ∨ (t, house) ∈ ps
structure DownOk (ns : List Str) (house : Str) (own asks : Int) (kn : List (Str × Int)) : Prop where
  own : 0 ≤ own ∧ big own
  asks : 0 ≤ asks ∧ big asks
  sub : (kn.map (·.1)).Sublist (nots house ns)
  num : ∀ p ∈ kn, 1 ≤ p.2 ∧ big p.2
theorem knD_inj {p q : Str × Int} (h : knD p = knD q) : p = q := by
  obtain ⟨a, b⟩ := p
  obtain ⟨c, d⟩ := q
  simp only [knD] at h
  injection h with h
  injection h with h1 h2
  injection h1 with h1
  injection h2 with h2 _
  injection h2 with h2
  rw [h1, h2]
theorem sortOk_kn {l : List (Str × Int)} (h : l.length ≤ sizeLine) : sortOk (l.map knD) = true := by
  unfold sortOk
  rw [List.length_map, decide_eq_true h, Bool.true_and]
  have h1 : (l.map knD).all isRowT = true := by
    rw [List.all_eq_true]
    intro d hd
    obtain ⟨s, _, rfl⟩ := List.mem_map.mp hd
    rfl
  have h2 : ((l.map knD).all fun d => (l.map knD).all fun e => cmpT (rowOf d) (rowOf e)) = true := by
    rw [List.all_eq_true]
    intro d hd
    rw [List.all_eq_true]
    intro e he
    obtain ⟨s, _, rfl⟩ := List.mem_map.mp hd
    obtain ⟨t, _, rfl⟩ := List.mem_map.mp he
    simp only [knD, rowOf, cmpT]
    repeat' split
    all_goals rfl
  rw [h1, h2]
  simp
theorem dedup_lift {α : Type} {f : α → D} {T : List α} : ∃ T' : List α, T'.map f = dedup (T.map f) ∧ ∀ t ∈ T', t ∈ T := lift_sub fun p hp => mem_dedup.mp hp
/-- sorted(set(rows)) as rows again -/
theorem kn_sorted (l : List (Str × Int)) (hl : l.length ≤ 1000) : ∃ l' : List (Str × Int), sortD (dedup (l.map knD)) = l'.map knD ∧ (∀ p ∈ l', p ∈ l) ∧ l'.Nodup ∧ l'.length ≤ l.length ∧ sortD (dedup (l'.map knD)) = l'.map knD ∧ sortOk (dedup (l.map knD)) = true := by
  obtain ⟨t, h1, h2⟩ := dedup_lift (f := knD) (T := l)
  have nd0 := nodup_dedup (l.map knD)
  rw [← h1] at nd0
  have tl : t.length ≤ l.length := by
    have e : ∀ ds : List D, (dedup ds).length ≤ ds.length := fun ds => by
      induction ds with
      | nil => exact Nat.le_refl _
      | cons d r ih =>
        unfold dedup
        split <;> simp only [List.length_cons] <;> omega
    have := e (l.map knD)
    rw [← h1, List.length_map, List.length_map] at this
    exact this
  have hz : t.length ≤ sizeLine := Nat.le_trans tl (Nat.le_trans hl (by decide))
  have so := sortOk_kn hz
  rw [← h1]
  obtain ⟨l', e1, e2⟩ := perm_lift (sortD_perm (t.map knD)) (t := t) rfl
  have ndl : (l'.map knD).Nodup := ((e2.map knD).nodup_iff).mpr nd0
  refine ⟨l', e1.symm, fun p hp => h2 p (e2.mem_iff.mp hp), nodup_of_map ndl, by rw [e2.length_eq]; exact tl, ?_, so⟩
  rw [dedup_nodup ndl]
  obtain ⟨_, s1⟩ := sortOk_of so
  have s2 : Sort1 (l'.map knD) := (sortOk_of (sortOk_kn (by rw [e2.length_eq]; exact hz))).2
  refine (sortD_eq s2 (.refl _) ?_).symm
  rw [e1]
  exact sortD_pair _

end EV
namespace EV
open PySem PySem.Spec L2
open PyProof.Rows hiding St
local macro_rules
  | `(tactic| trivial) => `(tactic| simp -failIfUnchanged only [↓w_k, ↓w_gl, ↓w_v, ↓w_tup, ↓w_lst, ↓w_dct0, ↓w_dct1, ↓w_bi, ↓w_mc, ↓w_sl, ↓w_ch, ↓w_tst, ↓w_and, ↓w_or, ↓w_ifeE, ↓w_call, ↓w_callK, ↓w_callF, ↓w_callV, ↓w_lc, ↓w_turn, ↓w_c2f, ↓w_c2t, ↓w_turn2, ↓w_dc, ↓w_turnD, ↓w_nil, ↓w_cons, ↓w_onil, ↓w_oconsV, ↓w_yes, ↓w_tnot, ↓w_tand, ↓w_tor, ↓w_texV, ↓te_callK, ↓oc_callK, ↓rt_callK, ↓te_callF, ↓oc_callF, ↓rt_callF, ↓te_callV, ↓oc_callV, ↓rt_callV, ↓te_k, ↓oc_k, ↓rt_k, ↓te_gl, ↓oc_gl, ↓rt_gl, ↓te_tup, ↓oc_tup, ↓rt_tup, ↓te_lst, ↓oc_lst, ↓rt_lst, ↓te_dct, ↓oc_dct, ↓rt_dct, ↓te_ch, ↓oc_ch, ↓rt_ch, ↓te_sl, ↓oc_sl, ↓rt_sl, ↓te_mc, ↓oc_mc, ↓rt_mc, ↓te_bi, ↓oc_bi, ↓rt_bi, ↓te_tst, ↓oc_tst, ↓rt_tst, ↓te_and, ↓oc_and, ↓rt_and, ↓te_or, ↓oc_or, ↓rt_or, ↓te_ife, ↓oc_ife, ↓rt_ife, ↓te_call, ↓oc_call, ↓rt_call, ↓te_lc, ↓oc_lc, ↓rt_lc, ↓te_c2, ↓oc_c2, ↓rt_c2, ↓te_dc, ↓oc_dc, ↓rt_dc, ↓w_anil, ↓w_aref, ↓w_aval, ↓w_asg, ↓w_asgO, ↓w_n, ↓w_tT, ↓w_tsN, ↓w_tsC, ↓w_aug, ↓w_mu, ↓w_setI, ↓w_ex, ↓w_retV, ↓w_retN, ↓w_ife, ↓w_for, ↓w_while, ↓w_starA, ↓w_brk, ↓w_cont, ↓w_pass, ↓w_snil, ↓w_scons, ↓w_body,
    ↓W_some, ↓W_if, ↓ifB_t, ↓ifB_f, ↓ifB_not, ↓onSl_v, ↓onSl_o, ↓onSl_b, ↓onNx_n, ↓onNx_b, ↓onNx_c, ↓onNx_r, ↓endF_r, ↓endF_n, ↓onFl_n, ↓onFl_c, ↓onFl_b, ↓onFl_r, ↓asB_b, ↓as1_1, ↓as2_2, notBor_u, notBor_v, notBor_o,
    ↓x_add, ↓x_addS, ↓x_addT, ↓x_addL, ↓x_iadd, ↓x_isub, ↓x_sub, ↓x_mul, ↓x_fdiv, ↓x_mod, ↓x_pow, ↓x_neg, ↓x_eq, ↓x_ne, ↓x_lt, ↓x_le, ↓x_gt, ↓x_ge, ↓x_isN, ↓x_notN, ↓x_isB, ↓x_notB, ↓x_inS, ↓x_ninS, ↓x_itemL, ↓x_itemT, ↓x_itemScr, ↓x_itemS, ↓x_lenL, ↓x_lenT, ↓x_lenScr, ↓x_lenS, ↓x_abs, ↓x_max, ↓x_min, ↓x_intI, ↓x_intB, ↓x_rev, ↓x_revT, ↓x_count, ↓x_inT, ↓x_inL, ↓x_ninT, ↓x_ninL, ↓x_mrev, ↓x_mclr, ↓x_app, ↓x_ext, ↓x_sorted, ↓x_sortedD, ↓x_sortSL, ↓x_sortST, ↓x_setD, ↓x_inD, ↓x_ninD, ↓x_repr, ↓x_str, ↓xi_n, ↓xi_b, ↓xi_i, ↓xi_s, ↓xi_l, ↓xi_t, ↓xi_d0, ↓xi_dS, ↓xi_dI, ↓x_all, ↓x_any, ↓x_join, ↓x_tupleL, ↓x_tupleT, ↓x_listL, ↓x_listT, ↓x_cutL, ↓x_cutT, ↓x_cutS, ↓x_ca0, ↓x_ca1, ↓x_ca2, ↓x_ca3, ↓tr_b, ↓tr_n, ↓tr_i, ↓tr_l, ↓tr_t, ↓it_l, ↓it_t, ↓it_s, ↓it_r1, ↓it_r2, ↓it_en, ↓it_z,
    fillD, List.map_cons, List.map_nil, Option.map_some, in_n, in_b, in_i, in_s, in_t, in_l, in_d, ek_s, ek_i, ek_b, ln_n, ln_b, ln_i, ln_s, ln_t, ln_d, ln_l, opdV, deref, derefs, mutAt, listAt, agD, backS, Ag.slots, nodupB, noMut, wipeS, restS, outS, argS, mut_u, mut_v, mut_o, mut_b, iv_k, iv_gl, iv_tup, iv_lst, iv_dct, iv_ch, iv_sl, iv_mc, iv_bi, iv_tst, iv_and, iv_or, iv_ife, iv_call, iv_lc, iv_c2, iv_dc, isKey, sc_n, sc_b, sc_i, sc_s, sc_l, sc_t, sc_d0, sc_dS, sc_dI, tyName, atI_0, atI_1, atI_2, atI_3, x_set0, x_set1, x_set2,
    List.getElem?_cons_succ, List.getElem?_cons_zero, List.getElem?_nil, List.set_cons_succ, List.set_cons_zero, List.cons_append, List.nil_append, List.replicate, Nat.reduceSub, Option.bind_some, Option.toList_some, Option.toList_none, List.getD_cons_succ, List.getD_cons_zero, Bool.not_true, Bool.not_false, true_and, and_true, List.contains_nil, List.all_cons, List.all_nil, Bool.and_true, Bool.true_and, decide_true, decide_false, Bool.true_eq_false, Bool.false_eq_true, kit_ii, kit_bi, kit_ni, kit_si, kit_li, kit_ti, kit_di, kit_ib, kit_bb, kit_nb, kit_sb, kit_lb, kit_tb, kit_db, kit_is, kit_bs, kit_ns, kit_ss, kit_ls, kit_ts, kit_ds, kit_it, kit_bt, kit_nt, kit_st, kit_lt, kit_tt, kit_dt, kit_il, kit_bl, kit_nl, kit_sl, kit_ll, kit_tl, kit_dl, sh_n, sh_b, sh_i, eqv_ii, eqv_bb, eqv_st, ↓nb_ff, ↓nb_ft, ↓nb_tf, ↓nb_tt])


theorem fm_filter {g : D → Option D} {f : Str → Bool} (h : ∀ s, g (.str s) = if f s = true then some (.str s) else none) : ∀ l : List Str, (l.map PyData.str).filterMap g = (l.filter f).map PyData.str
  | [] => rfl
  | s :: r => by
    rw [List.map_cons, List.filterMap_cons, h, fm_filter h r, List.filter_cons]
    split
    · rename_i h1; split at h1 <;> cases h1; rename_i h2; simp [h2]
    · rename_i h1; split at h1 <;> cases h1; rename_i h2; simp [h2]
theorem fm_pairs {g : D → Option D} {s : Str} (h : ∀ p : Str × Str, g (pairT p) = if p.1 = s then some (.str p.2) else none) : ∀ l : List (Str × Str), (l.map pairT).filterMap g = ((l.filter fun p => decide (p.1 = s)).map (·.2)).map PyData.str
  | [] => rfl
  | p :: r => by
    rw [List.map_cons, List.filterMap_cons, h, fm_pairs h r, List.filter_cons]
    by_cases e : p.1 = s
    · simp [e]
    · simp [e]
inductive All2 {α β : Type} (R : α → β → Prop) : List α → List β → Prop
  | nil : All2 R [] []
  | cons {a : α} {b : β} {l : List α} {m : List β} : R a b → All2 R l m → All2 R (a :: l) (b :: m)
theorem All2.map {α β γ : Type} {R : α → β → Prop} {p : β → γ} {q : α → γ} (h : ∀ a b, R a b → p b = q a) : ∀ {l : List α} {m : List β}, All2 R l m → m.map p = l.map q
  | _, _, .nil => rfl
  | _, _, .cons r s => by rw [List.map_cons, List.map_cons, h _ _ r, All2.map h s]
theorem All2.mem {α β : Type} {R : α → β → Prop} : ∀ {l : List α} {m : List β}, All2 R l m → ∀ b ∈ m, ∃ a ∈ l, R a b
  | _, _, .nil, b, hb => nomatch hb
  | _, _, .cons r s, b, hb => by
    rcases List.mem_cons.mp hb with rfl | hb
    · exact ⟨_, List.mem_cons_self, r⟩
    · obtain ⟨a, ha, q⟩ := All2.mem s b hb
      exact ⟨a, List.mem_cons_of_mem _ ha, q⟩
theorem All2.len {α β : Type} {R : α → β → Prop} : ∀ {l : List α} {m : List β}, All2 R l m → m.length = l.length
  | _, _, .nil => rfl
  | _, _, .cons r s => by rw [List.length_cons, List.length_cons, s.len]
theorem w_lcRel {α β : Type} {turn : D → Ss → Option (Option D × Ss)} (I : Nat → Ss → Prop) (f : α → D) (g : β → D) (R : α → β → Prop) {Q : List D × Ss → Prop} : ∀ (l : List α) (j : Nat) (sl : Ss), I j sl → (∀ i a sl, i < j + l.length → a ∈ l → I i sl → W (turn (f a) sl) (fun p => ∃ b, p.1 = some (g b) ∧ R a b ∧ I (i + 1) p.2)) →
    (∀ (bs : List β) (sl : Ss), All2 R l bs → I (j + l.length) sl → Q (bs.map g, sl)) → W (lcGo turn (l.map f) sl) Q
  | [], j, sl, h, _, k => by
    rw [List.map_nil, lcGo, W_some]
    exact k [] sl .nil h
  | a :: l, j, sl, h, ht, k => by
    obtain ⟨⟨o, sl1⟩, e, b, q1, q2, q3⟩ := ht j a sl (by rw [List.length_cons]; omega) List.mem_cons_self h
    simp only at q1 q3
    subst q1
    rw [List.map_cons, lcGo, e]
    have := w_lcRel I f g R (turn := turn) (Q := fun r => Q (g b :: r.1, r.2)) l (j + 1) sl1 q3 (fun i a' sl hi ha hI => ht i a' sl (by rw [List.length_cons]; omega) (List.mem_cons_of_mem _ ha) hI) (fun bs sl hb hI => by
      have hI : I (j + (a :: l).length) sl := by rw [List.length_cons, show j + (l.length + 1) = j + 1 + l.length from by omega]; exact hI
      exact k (b :: bs) sl (.cons q2 hb) hI)
    obtain ⟨r, e2, q⟩ := this
    obtain ⟨rs, sl2⟩ := r
    simp only [e2, W_some]
    exact q
theorem sub_map {α : Type} {f : α → D} {L : List D} {l : List α} (h : L.Sublist (l.map f)) : ∃ l' : List α, l'.Sublist l ∧ L = l'.map f := List.sublist_map_iff.mp h
section
variable {P : Nat → Option Fn} {n : Nat} {Q : D × Bool × List D → Prop}
structure PSt (P : Nat → Option Fn) : Prop where
  h3 : P 3 = some f3
  h25 : P 25 = some f25
  h31 : P 31 = some f31
  h41 : P 41 = some f41
  h42 : P 42 = some f42
  h43 : P 43 = some f43
theorem state_spec {m : Nat} {fd : D} {ns : List Str} {ps : List (Str × Str)} {house : Str} (p : PSt P) (nk : NetOk ns ps) (hf : FeedOk m fd) (hm : m < 2 ^ 59)
    (kd : ∀ own asks kn fd', DownOk ns house own asks kn → FeedOk (m + 1000) fd' → Q (downD own asks kn, false, [fd']))
    (ku : ∀ own asks rows seen ties fd', UpOk ns ps house own asks rows seen ties → FeedOk (m + 1000) fd' → Q (upD own asks rows seen ties, false, [fd'])) :
    W (callN ap aM aS P (n + 4) 43 [(true, fd), (false, netD ns ps), (false, .str house)]) Q := by
  have nl := nk.le
  refine w_fn p.h43 rfl (by decide) ?_
  unfold f43 netD
  trivial
  refine w_lcFM (fun sl => ∃ x, sl = [.bor fd, .val (netD ns ps), .val (.str house), .un, .un, .un, .un, .un, .un, x, .un, .un] ∧ x.mut = false) (fun d => match d with
      | .str s => if decide (s ≠ house) = true then some (.str s) else none
      | _ => none) _ _ ⟨_, rfl, rfl⟩ (fun d hd sl hI => ?_) (fun sl hI => ?_)
  · obtain ⟨x, rfl, hx⟩ := hI
    obtain ⟨s, hs, rfl⟩ := List.mem_map.mp hd
    trivial
    refine ifD_of (fun h => ?_) (fun h => ?_)
    · trivial
      exact ⟨by simp [h], _, rfl, rfl⟩
    · trivial
      exact ⟨by simp [h], _, rfl, rfl⟩
  obtain ⟨x, rfl, hx⟩ := hI
  rw [fm_filter (f := fun s => decide (s ≠ house)) (fun s => rfl)]
  rw [show (ns.filter fun s => decide (s ≠ house)) = nots house ns from rfl]
  have nl2 : (nots house ns).length ≤ 12 := Nat.le_trans (List.length_filter_le _ _) nl
  refine ⟨by rw [List.length_map]; exact Nat.le_trans nl2 (by decide), ?_⟩
  trivial
  refine ways_spec p.h25 (Nat.le_trans nk.pl (by decide)) ?_
  trivial
  obtain ⟨ws, ew, pw, rise, near⟩ := nk.near house
  rw [ew]
  generalize hts : (ws.filter fun p => decide (p.1 = house)).map (·.2) = ts0 at rise near
  refine w_lcFM (fun sl => ∃ x y, sl = [.bor fd, .val (netD ns ps), .val (.str house), .own (.list ((nots house ns).map PyData.str)), .un, .un, .un, .un, .un, x, .un, y] ∧ x.mut = false ∧ y.mut = false) (fun d => match d with
      | .tuple [a, b] => if a = .str house then some b else none
      | _ => none) _ _ ⟨_, _, rfl, rfl, rfl⟩ (fun d hd sl hI => ?_) (fun sl hI => ?_)
  · obtain ⟨x, y, rfl, hx, hy⟩ := hI
    obtain ⟨q, hq, rfl⟩ := List.mem_map.mp hd
    unfold pairT
    trivial
    refine ifD_of (fun h => ?_) (fun h => ?_)
    · trivial
      exact ⟨by simp [h], _, _, rfl, rfl, rfl⟩
    · trivial
      exact ⟨by simp [h], _, _, rfl, rfl, rfl⟩
  obtain ⟨x, y, rfl, hx, hy⟩ := hI
  rw [fm_pairs (s := house) (fun p => by simp [pairT]), hts]
  have tl : ts0.length ≤ 288 := by
    rw [← hts, List.length_map]
    refine Nat.le_trans (List.length_filter_le _ _) ?_
    rw [pw.length_eq, List.length_append, List.length_map]
    have := nk.pl
    omega
  refine ⟨by rw [List.length_map]; exact Nat.le_trans tl (by decide), ?_⟩
  trivial
  refine few_spec p.h41 p.h3 hf (by omega) (by rw [List.length_map]; omega) fun L fd1 hL hf1 => ?_
  rw [List.length_map] at hf1
  obtain ⟨ts, hts', rfl⟩ := sub_map hL
  have tsl : ts.length ≤ 288 := Nat.le_trans hts'.length_le tl
  have rise1 : Rise ts := rise.sublist hts'
  have near1 : ∀ t ∈ ts, (house, t) ∈ ps ∨ (t, house) ∈ ps := fun t ht => (near t).mp (hts'.subset ht)
  trivial
  refine number_spec p.h31 p.h3 hf1 (by omega) fun own fd2 a2 b2 hf2 => ?_
  trivial
  refine number_spec p.h31 p.h3 hf2 (by omega) fun asks fd3 a3 b3 hf3 => ?_
  trivial
  refine take_spec p.h3 hf3 (by omega) (by decide) (by decide) fun r4 fd4 a4 b4 hf4 => ?_
  trivial
  have bo : 0 ≤ own ∧ big own := ⟨a2, show big own from by unfold big; omega⟩
  have ba : 0 ≤ asks ∧ big asks := ⟨a3, show big asks from by unfold big; omega⟩
  refine ifD_of (fun h => ?_) (fun h => ?_)
  · trivial
    refine few_spec p.h41 p.h3 hf4 (by omega) (by rw [List.length_map]; omega) fun L fd5 hL5 hf5 => ?_
    rw [List.length_map] at hf5
    obtain ⟨os, hos, rfl⟩ := sub_map hL5
    have ol : os.length ≤ 12 := Nat.le_trans hos.length_le nl2
    trivial
    refine w_lcRel (fun j sl => ∃ fd' x, sl = [.bor fd', .val (netD ns ps), .val (.str house), .val (.list ((nots house ns).map PyData.str)), .own (.list (ts.map PyData.str)), .un, .un, .val (.int own), .val (.int asks), x, .un, .un] ∧ FeedOk (m + 307 + 2 * j) fd' ∧ x.mut = false) PyData.str knD (fun s p => p.1 = s ∧ 1 ≤ p.2 ∧ big p.2) os 0 _ ⟨fd5, _, rfl, hf5.mono (by omega), rfl⟩ (fun j s sl hj hs hI => ?_) (fun bs sl hb hI => ?_)
    · obtain ⟨fd6, x, rfl, hf6, ux⟩ := hI
      trivial
      refine number_spec p.h31 p.h3 hf6 (by omega) fun r fd7 a7 b7 hf7 => ?_
      trivial
      exact ⟨(s, r), rfl, ⟨rfl, a7, show big r from by unfold big; omega⟩, fd7, _, rfl, hf7, rfl⟩
    · obtain ⟨fd6, x, rfl, hf6, ux⟩ := hI
      have bl := hb.len
      refine ⟨by rw [List.length_map, bl]; exact Nat.le_trans ol (by decide), ?_⟩
      trivial
      refine kd own asks bs fd6 ⟨bo, ba, ?_, fun p hp => ?_⟩ (hf6.mono (by omega))
      · rw [hb.map (q := id) (fun a b h => h.1), List.map_id]
        exact hos
      · obtain ⟨a, _, h⟩ := hb.mem p hp
        exact h.2
  · trivial
    refine few_spec p.h41 p.h3 hf4 (by omega) (by rw [List.length_map]; omega) fun L fd5 hL5 hf5 => ?_
    rw [List.length_map] at hf5
    obtain ⟨os, hos, rfl⟩ := sub_map hL5
    have ol : os.length ≤ 12 := Nat.le_trans hos.length_le nl2
    trivial
    refine w_lcRel (fun j sl => ∃ fd' x x4, sl = [.bor fd', .val (netD ns ps), .val (.str house), .val (.list ((nots house ns).map PyData.str)), x4, .un, .un, .val (.int own), .val (.int asks), x, .un, .un] ∧ FeedOk (m + 307 + 6 * j) fd' ∧ x.mut = false ∧ (x4 = .own (.list (ts.map PyData.str)) ∨ x4 = .val (.list (ts.map PyData.str)))) PyData.str rowD (fun s r => r.w = s ∧ RowOk ts r) os 0 _ ⟨fd5, _, _, rfl, hf5.mono (by omega), rfl, .inl rfl⟩ (fun j s sl hj hs hI => ?_) (fun rows sl hb hI => ?_)
    · obtain ⟨fd6, x, x4, rfl, hf6, ux, h4⟩ := hI
      rcases h4 with rfl | rfl
      · trivial
        refine anyrow_spec p.h42 p.h31 p.h3 hf6 (by omega) (by omega) fun r fd7 a7 b7 hf7 => ?_
        trivial
        exact ⟨r, rfl, ⟨a7, b7⟩, fd7, _, _, rfl, hf7, rfl, .inr rfl⟩
      · trivial
        refine anyrow_spec p.h42 p.h31 p.h3 hf6 (by omega) (by omega) fun r fd7 a7 b7 hf7 => ?_
        trivial
        exact ⟨r, rfl, ⟨a7, b7⟩, fd7, _, _, rfl, hf7, rfl, .inr rfl⟩
    obtain ⟨fd6, x, x4, rfl, hf6, ux, h4⟩ := hI
    have bl := hb.len
    refine ⟨by rw [List.length_map, bl]; exact Nat.le_trans ol (by decide), ?_⟩
    trivial
    unfold netD
    trivial
    refine ⟨by simp only [List.length_map]; exact Nat.le_trans (Nat.add_le_add nl nl) (by decide), ?_⟩
    trivial
    rw [← List.map_append]
    refine few_spec p.h41 p.h3 hf6 (by omega) (by rw [List.length_map, List.length_append]; omega) fun L fd7 hL7 hf7 => ?_
    rw [List.length_map, List.length_append] at hf7
    obtain ⟨ks, hks, rfl⟩ := sub_map hL7
    have kl : ks.length ≤ 24 := by
      have := hks.length_le
      rw [List.length_append] at this
      omega
    have kin : ∀ s ∈ ks, s ∈ ns := fun s hs => (List.mem_append.mp (hks.subset hs)).elim id id
    trivial
    clear ux x
    refine w_lcRel (fun j sl => ∃ fd' x9 x10, sl = [.bor fd', .val (netD ns ps), .val (.str house), .val (.list ((nots house ns).map PyData.str)), x4, .val (.tuple (rows.map rowD)), .un, .val (.int own), .val (.int asks), x9, x10, .un] ∧ FeedOk (m + 407 + 2 * j) fd' ∧ x10.mut = false) PyData.str knD (fun s p => p.1 = s ∧ 1 ≤ p.2 ∧ big p.2) ks 0 _ ⟨fd7, _, _, rfl, hf7.mono (by omega), rfl⟩ (fun j s sl hj hs hI => ?_) (fun raw sl hr hI => ?_)
    · obtain ⟨fd8, x9, x10, rfl, hf8, u10⟩ := hI
      trivial
      refine number_spec p.h31 p.h3 hf8 (by omega) fun r fd9 a9 b9 hf9 => ?_
      trivial
      exact ⟨(s, r), rfl, ⟨rfl, a9, show big r from by unfold big; omega⟩, fd9, _, _, rfl, hf9, rfl⟩
    obtain ⟨fd8, x9, x10, rfl, hf8, u10⟩ := hI
    have rl := hr.len
    refine ⟨by rw [List.length_map, rl]; exact Nat.le_trans kl (by decide), ?_⟩
    obtain ⟨seen, s1, s2, s3, s4, s5, s6⟩ := kn_sorted raw (by omega)
    trivial
    have sk : setKind (raw.map knD) = true := by
      unfold setKind
      rw [List.length_map, decide_eq_true (show raw.length < 64 from by omega), Bool.true_and]
      have : (raw.map knD).all isKeyRow = true := by
        rw [List.all_eq_true]
        intro d hd
        obtain ⟨q, _, rfl⟩ := List.mem_map.mp hd
        rfl
      rw [this, Bool.or_true, Bool.or_true]
    refine ⟨⟨sk, s6⟩, ?_⟩
    rw [s1]
    trivial
    have fin : ∀ fd', FeedOk (m + 1000) fd' → Q (upD own asks rows seen ts, false, [fd']) := fun fd' hf' => by
      refine ku own asks rows seen ts fd' ⟨bo, ba, fun r hr => ?_, ?_, fun q hq => ?_, by omega, s5, s3, rise1, near1⟩ hf'
      · obtain ⟨a, _, h⟩ := hb.mem r hr
        exact h.2
      · rw [hb.map (q := id) (fun a b h => h.1), List.map_id]
        exact hos
      · obtain ⟨a, ha, h1, h2, h3⟩ := hr.mem q (s2 q hq)
        exact ⟨by rw [h1]; exact kin a ha, h2, h3⟩
    rcases h4 with rfl | rfl
    · trivial
      exact fin _ (hf8.mono (by omega))
    · trivial
      exact fin _ (hf8.mono (by omega))
end

end EV
namespace EV
open PySem PySem.Spec L2
open PyProof.Rows hiding St
local macro_rules
  | `(tactic| trivial) => `(tactic| simp -failIfUnchanged only [↓w_k, ↓w_gl, ↓w_v, ↓w_tup, ↓w_lst, ↓w_dct0, ↓w_dct1, ↓w_bi, ↓w_mc, ↓w_sl, ↓w_ch, ↓w_tst, ↓w_and, ↓w_or, ↓w_ifeE, ↓w_call, ↓w_callK, ↓w_callF, ↓w_callV, ↓w_lc, ↓w_turn, ↓w_c2f, ↓w_c2t, ↓w_turn2, ↓w_dc, ↓w_turnD, ↓w_nil, ↓w_cons, ↓w_onil, ↓w_oconsV, ↓w_yes, ↓w_tnot, ↓w_tand, ↓w_tor, ↓w_texV, ↓te_callK, ↓oc_callK, ↓rt_callK, ↓te_callF, ↓oc_callF, ↓rt_callF, ↓te_callV, ↓oc_callV, ↓rt_callV, ↓te_k, ↓oc_k, ↓rt_k, ↓te_gl, ↓oc_gl, ↓rt_gl, ↓te_tup, ↓oc_tup, ↓rt_tup, ↓te_lst, ↓oc_lst, ↓rt_lst, ↓te_dct, ↓oc_dct, ↓rt_dct, ↓te_ch, ↓oc_ch, ↓rt_ch, ↓te_sl, ↓oc_sl, ↓rt_sl, ↓te_mc, ↓oc_mc, ↓rt_mc, ↓te_bi, ↓oc_bi, ↓rt_bi, ↓te_tst, ↓oc_tst, ↓rt_tst, ↓te_and, ↓oc_and, ↓rt_and, ↓te_or, ↓oc_or, ↓rt_or, ↓te_ife, ↓oc_ife, ↓rt_ife, ↓te_call, ↓oc_call, ↓rt_call, ↓te_lc, ↓oc_lc, ↓rt_lc, ↓te_c2, ↓oc_c2, ↓rt_c2, ↓te_dc, ↓oc_dc, ↓rt_dc, ↓w_anil, ↓w_aref, ↓w_aval, ↓w_asg, ↓w_asgO, ↓w_n, ↓w_tT, ↓w_tsN, ↓w_tsC, ↓w_aug, ↓w_mu, ↓w_setI, ↓w_ex, ↓w_retV, ↓w_retN, ↓w_ife, ↓w_for, ↓w_while, ↓w_starA, ↓w_brk, ↓w_cont, ↓w_pass, ↓w_snil, ↓w_scons, ↓w_body,
    ↓W_some, ↓W_if, ↓ifB_t, ↓ifB_f, ↓ifB_not, ↓onSl_v, ↓onSl_o, ↓onSl_b, ↓onNx_n, ↓onNx_b, ↓onNx_c, ↓onNx_r, ↓endF_r, ↓endF_n, ↓onFl_n, ↓onFl_c, ↓onFl_b, ↓onFl_r, ↓asB_b, ↓as1_1, ↓as2_2, notBor_u, notBor_v, notBor_o,
    ↓x_add, ↓x_addS, ↓x_addT, ↓x_addL, ↓x_iadd, ↓x_isub, ↓x_sub, ↓x_mul, ↓x_fdiv, ↓x_mod, ↓x_pow, ↓x_neg, ↓x_eq, ↓x_ne, ↓x_lt, ↓x_le, ↓x_gt, ↓x_ge, ↓x_isN, ↓x_notN, ↓x_isB, ↓x_notB, ↓x_inS, ↓x_ninS, ↓x_itemL, ↓x_itemT, ↓x_itemScr, ↓x_itemS, ↓x_lenL, ↓x_lenT, ↓x_lenScr, ↓x_lenS, ↓x_abs, ↓x_max, ↓x_min, ↓x_intI, ↓x_intB, ↓x_rev, ↓x_revT, ↓x_count, ↓x_inT, ↓x_inL, ↓x_ninT, ↓x_ninL, ↓x_mrev, ↓x_mclr, ↓x_app, ↓x_ext, ↓x_sorted, ↓x_sortedD, ↓x_sortSL, ↓x_sortST, ↓x_setD, ↓x_inD, ↓x_ninD, ↓x_repr, ↓x_str, ↓xi_n, ↓xi_b, ↓xi_i, ↓xi_s, ↓xi_l, ↓xi_t, ↓xi_d0, ↓xi_dS, ↓xi_dI, ↓x_all, ↓x_any, ↓x_join, ↓x_tupleL, ↓x_tupleT, ↓x_listL, ↓x_listT, ↓x_cutL, ↓x_cutT, ↓x_cutS, ↓x_ca0, ↓x_ca1, ↓x_ca2, ↓x_ca3, ↓tr_b, ↓tr_n, ↓tr_i, ↓tr_l, ↓tr_t, ↓it_l, ↓it_t, ↓it_s, ↓it_r1, ↓it_r2, ↓it_en, ↓it_z,
    fillD, List.map_cons, List.map_nil, Option.map_some, in_n, in_b, in_i, in_s, in_t, in_l, in_d, ek_s, ek_i, ek_b, ln_n, ln_b, ln_i, ln_s, ln_t, ln_d, ln_l, opdV, deref, derefs, mutAt, listAt, agD, backS, Ag.slots, nodupB, noMut, wipeS, restS, outS, argS, mut_u, mut_v, mut_o, mut_b, iv_k, iv_gl, iv_tup, iv_lst, iv_dct, iv_ch, iv_sl, iv_mc, iv_bi, iv_tst, iv_and, iv_or, iv_ife, iv_call, iv_lc, iv_c2, iv_dc, isKey, sc_n, sc_b, sc_i, sc_s, sc_l, sc_t, sc_d0, sc_dS, sc_dI, tyName, atI_0, atI_1, atI_2, atI_3, x_set0, x_set1, x_set2,
    List.getElem?_cons_succ, List.getElem?_cons_zero, List.getElem?_nil, List.set_cons_succ, List.set_cons_zero, List.cons_append, List.nil_append, List.replicate, Nat.reduceSub, Option.bind_some, Option.toList_some, Option.toList_none, List.getD_cons_succ, List.getD_cons_zero, Bool.not_true, Bool.not_false, true_and, and_true, List.contains_nil, List.all_cons, List.all_nil, Bool.and_true, Bool.true_and, decide_true, decide_false, Bool.true_eq_false, Bool.false_eq_true, kit_ii, kit_bi, kit_ni, kit_si, kit_li, kit_ti, kit_di, kit_ib, kit_bb, kit_nb, kit_sb, kit_lb, kit_tb, kit_db, kit_is, kit_bs, kit_ns, kit_ss, kit_ls, kit_ts, kit_ds, kit_it, kit_bt, kit_nt, kit_st, kit_lt, kit_tt, kit_dt, kit_il, kit_bl, kit_nl, kit_sl, kit_ll, kit_tl, kit_dl, sh_n, sh_b, sh_i, eqv_ii, eqv_bb, eqv_st, ↓nb_ff, ↓nb_ft, ↓nb_tf, ↓nb_tt])


/-- row_in -/
def f39 : Fn := ⟨2, 3, [false, false], (.cons (.for_ (.n 2) .any (.cons (.bi .item (.cons (.v 0) (.cons (.k (.int 3)) .nil))) .nil) (.cons (.ife (.ex (.bi .eq (.cons (.bi .item (.cons (.v 2) (.cons (.k (.int 0)) .nil))) (.cons (.v 1) .nil)))) (.cons (.ret (.v 2)) .nil) .nil) .nil)) (.cons (.ret (.k .none)) .nil))⟩
/-- label_in -/
def f40 : Fn := ⟨3, 4, [false, false, false], (.cons (.ife (.ex (.bi .eq (.cons (.v 1) (.cons (.v 2) .nil)))) (.cons (.ret (.ife (.ex (.bi .gt (.cons (.bi .item (.cons (.v 0) (.cons (.k (.int 1)) .nil))) (.cons (.k (.int 0)) .nil)))) (.tup (.cons (.bi .item (.cons (.v 0) (.cons (.k (.int 1)) .nil))) (.cons (.k (.int 0)) .nil))) (.k .none))) .nil) .nil) (.cons (.asgO 3 (.call 39 [false, false] (.cons (.v 0) (.cons (.v 2) .nil)))) (.cons (.ret (.ife (.ex (.bi .isN (.cons (.v 3) .nil))) (.k .none) (.sl true true (.cons (.v 3) .nil) (.cons (.k (.int 1)) (.cons (.k (.int 3)) .nil))))) .nil)))⟩
/-! ### cuts -/
theorem ife_cut {b : Bool} {c d : Option (Fl × Ss)} {Q : Fl × Ss → Prop} (sl : Ss) (h1 : b = true → W c (fun p => p = (.nx, sl))) (h2 : b = false → W d (fun p => p = (.nx, sl))) (k : Q (.nx, sl)) : ifB b (W c Q) (W d Q) := by
  cases b with
  | true => exact (h1 rfl).imp fun p hp => by rw [hp]; exact k
  | false => exact (h2 rfl).imp fun p hp => by rw [hp]; exact k
theorem w_scut {B : Bi → List D → Option (D × Bool)} {M : Mu → D → List D → Option D} {S : D → D → D → Option D} {C : CallT} {s : Stm} {r : Stms} {sl : Ss} {Q : Fl × Ss → Prop} (sl' : Ss) (h : W (evS B M S C s sl) (fun p => p = (.nx, sl'))) (k : W (evSs B M S C r sl') Q) : W (evSs B M S C (.cons s r) sl) Q := by
  rw [w_scons]
  exact h.imp fun p hp => by rw [hp]; exact k
theorem w_scutE {B : Bi → List D → Option (D × Bool)} {M : Mu → D → List D → Option D} {S : D → D → D → Option D} {C : CallT} {s : Stm} {r : Stms} {sl : Ss} {Q : Fl × Ss → Prop} (I : Ss → Prop) (h : W (evS B M S C s sl) (fun p => p.1 = .nx ∧ I p.2)) (k : ∀ sl', I sl' → W (evSs B M S C r sl') Q) : W (evSs B M S C (.cons s r) sl) Q := by
  rw [w_scons]
  exact h.imp fun p hp => by rw [hp.1]; exact k _ hp.2
theorem cut_take {ds : List D} {i : Int} (h : 0 ≤ i) : cutD ds none (some i) = ds.take i.toNat := by
  unfold cutD
  rw [sIx_pos h, HT.sIx_none, Nat.sub_zero, List.drop_zero]
  rcases Nat.le_total i.toNat ds.length with q | q
  · rw [Nat.min_eq_left q]
  · rw [Nat.min_eq_right q, List.take_length, List.take_of_length_le q]
theorem all_trueL : ∀ {rs : List D}, (∀ x ∈ rs, x = .bool true) → ∃ bs, boolsOf rs = some bs ∧ bs.all id = true
  | [], _ => ⟨[], rfl, rfl⟩
  | x :: rs, h => by
    obtain ⟨bs, h1, h2⟩ := all_trueL fun y hy => h y (List.mem_cons_of_mem _ hy)
    refine ⟨true :: bs, ?_, ?_⟩
    · rw [h x List.mem_cons_self, boolsOf, h1]; rfl
    · rw [List.all_cons, h2]; rfl
theorem Shp.lst {m : Nat} {ds : List D} (h : ∀ x ∈ ds, Shp m x) : Shp (m + 1) (.list ds) := by
  obtain ⟨h1, h2⟩ := Shp.all h
  exact ⟨by rw [PyData.canLay0]; exact h1, by rw [PyData.depth]; omega⟩
/-! ### sizes of what is shown -/
theorem show_seqs {m c N : Nat} {ds : List D} (h : ∀ d ∈ ds, ShowOk m c d) (hl : ds.length ≤ N) : ShowOk (m + 1) (N * c + 2 * N + 4) (.tuple ds) ∧ ShowOk (m + 1) (N * c + 2 * N + 4) (.list ds) := by
  obtain ⟨h1, h2, h3, h4, h5⟩ := show_all (P := fun d => d ∈ ds) h fun d hd => hd
  have := Nat.mul_le_mul_right c hl
  refine ⟨⟨by rw [cleanD]; exact h1, by rw [PyData.showable]; exact h2, by rw [PyData.depth]; omega, ?_⟩, ⟨by rw [cleanD]; exact h1, by rw [PyData.showable]; exact h2, by rw [PyData.depth]; omega, ?_⟩⟩
  · rw [PyData.shown]
    have := tupleText_len_le (PyData.shownAll ds)
    omega
  · rw [PyData.shown]
    have := listText_len_le (PyData.shownAll ds)
    omega
theorem show_int {i : Int} (h : i.natAbs < 10 ^ 100) : ShowOk 0 110 (.int i) := ⟨rfl, by simp only [PyData.showable, decide_eq_true_eq]; exact log_small h, Nat.zero_le _, by
  have z := int_text_length_le10 (k := 100) (by decide) h
  rw [PyData.shown]
  exact Nat.le_trans (Nat.le_of_eq (PySem.ofString_length _)) (Nat.le_trans z (by decide))⟩
theorem show_big {i : Int} (h0 : 0 ≤ i) (h : big i) : ShowOk 0 110 (.int i) := show_int (by
  unfold big at h
  refine Nat.lt_of_le_of_lt (m := 10 ^ 60) ?_ (by decide +kernel)
  rw [nat60]
  omega)
theorem show_w {k : Nat} {s : Str} (h : WOk k s) (hk : k ≤ 10) : ShowOk 0 110 (.str s) := ⟨rfl, rfl, Nat.zero_le _, by
  have e : (PyData.shown (.str s)).length ≤ 10 * s.length + 2 := StrLaws.reprText_len s fun c hc => Nat.lt_trans (h.2 c hc) (by decide)
  have := h.1
  omega⟩
theorem show_name {s : Str} (h : NameS s) : ShowOk 0 110 (.str s) := show_w (h.w (Nat.le_refl _)) (by decide)
theorem show_none : ShowOk 0 110 .none := ⟨rfl, rfl, Nat.zero_le _, by
  have e : (PyData.shown .none).length = 4 := rfl
  omega⟩
theorem show_bool {b : Bool} : ShowOk 0 110 (.bool b) := ⟨rfl, rfl, Nat.zero_le _, by
  have e : (PyData.shown (.bool b)).length ≤ 5 := by cases b <;> decide
  omega⟩
theorem ShowOk.rep {m c : Nat} {d : D} (h : ShowOk m c d) (hm : m ≤ 64) (hc : c ≤ sizeLine) : (cleanD d = true ∧ d.showable = true) ∧ d.depth ≤ 64 ∧ d.shown.length ≤ sizeLine := ⟨⟨h.cl, h.sh⟩, Nat.le_trans h.dp hm, Nat.le_trans h.ln hc⟩
theorem nodup_len {α : Type} [DecidableEq α] : ∀ {l m : List α}, l.Nodup → (∀ x ∈ l, x ∈ m) → l.length ≤ m.length
  | [], _, _, _ => Nat.zero_le _
  | a :: l, m, h, s => by
    obtain ⟨h1, h2⟩ := List.nodup_cons.mp h
    have ih := nodup_len (l := l) (m := m.erase a) h2 fun x hx => by
      have ne : x ≠ a := fun e => h1 (e ▸ hx)
      exact (List.mem_erase_of_ne ne).mpr (s x (List.mem_cons_of_mem _ hx))
    have hm := s a List.mem_cons_self
    rw [List.length_erase_of_mem hm] at ih
    have := List.length_pos_of_mem hm
    rw [List.length_cons]
    omega
section
variable {ns : List Str} {ps : List (Str × Str)} {house : Str} {own asks : Int} {rows : List Row} {seen : List (Str × Int)} {ties : List Str}
theorem nots_mem {s t : Str} (h : t ∈ nots s ns) : t ∈ ns ∧ t ≠ s := by
  unfold nots at h
  rw [List.mem_filter, decide_eq_true_eq] at h
  exact h
theorem UpOk.tin (nk : NetOk ns ps) (h : UpOk ns ps house own asks rows seen ties) : ∀ t ∈ ties, t ∈ ns := fun t ht => by
  rcases h.tie t ht with q | q
  · exact (nk.mem q).2.1
  · exact (nk.mem q).1
theorem UpOk.tl (nk : NetOk ns ps) (h : UpOk ns ps house own asks rows seen ties) : ties.length ≤ 12 := Nat.le_trans (nodup_len (Rise.nodup h.rise) (h.tin nk)) nk.le
theorem UpOk.rl (nk : NetOk ns ps) (h : UpOk ns ps house own asks rows seen ties) : rows.length ≤ 12 := by
  have := h.rsub.length_le
  rw [List.length_map] at this
  exact Nat.le_trans this (Nat.le_trans (List.length_filter_le _ _) nk.le)
theorem UpOk.rw' (h : UpOk ns ps house own asks rows seen ties) {r : Row} (hr : r ∈ rows) : r.w ∈ ns ∧ r.w ≠ house := nots_mem (h.rsub.subset (List.mem_map.mpr ⟨r, hr, rfl⟩))
theorem show_row (nm : NameS r.w) (tm : ∀ t ∈ ties, NameS t) (h : RowOk ties r) : ShowOk 1 460 (rowD r) := by
  refine (show_seqs (m := 0) (c := 110) (N := 4) (fun d hd => ?_) (Nat.le_refl _)).1.mono (Nat.le_refl _) (by decide)
  simp only [List.mem_cons, List.not_mem_nil, or_false] at hd
  have h1 := h.num.1
  rcases hd with rfl | rfl | rfl | rfl
  · exact show_name nm
  · exact show_big (by omega) h.num.2
  · cases hv : r.via with
    | none => exact show_none
    | some p =>
      have := h.via p hv
      exact show_big (by omega) this.2.1
  · cases hv : r.via with
    | none => exact show_none
    | some p => exact show_name (tm _ (h.via p hv).2.2)
theorem show_kn {p : Str × Int} (nm : NameS p.1) (h : 1 ≤ p.2 ∧ big p.2) : ShowOk 1 460 (knD p) := by
  refine (show_seqs (m := 0) (c := 110) (N := 2) (fun d hd => ?_) (Nat.le_refl _)).1.mono (Nat.le_refl _) (by decide)
  simp only [List.mem_cons, List.not_mem_nil, or_false] at hd
  rcases hd with rfl | rfl
  · exact show_name nm
  · exact show_big (by omega) h.2
theorem show_up (nk : NetOk ns ps) (h : UpOk ns ps house own asks rows seen ties) : ShowOk 3 100000 (upD own asks rows seen ties) := by
  have tl := h.tl nk
  have rl := h.rl nk
  have tm : ∀ t ∈ ties, NameS t := fun t ht => nk.name t (h.tin nk t ht)
  refine (show_seqs (m := 2) (c := 12000) (N := 6) (fun d hd => ?_) (Nat.le_refl _)).1.mono (Nat.le_refl _) (by decide)
  simp only [List.mem_cons, List.not_mem_nil, or_false] at hd
  rcases hd with rfl | rfl | rfl | rfl | rfl | rfl
  · exact (show_w (k := 2) (WOk.lit 2 (by decide +kernel)) (by decide)).mono (by decide) (by decide)
  · exact (show_big h.own.1 h.own.2).mono (by decide) (by decide)
  · exact (show_big h.asks.1 h.asks.2).mono (by decide) (by decide)
  · refine (show_seqs (m := 1) (c := 460) (N := 24) (fun d hd => ?_) (by rw [List.length_map]; omega)).1.mono (Nat.le_refl _) (by decide)
    obtain ⟨r, hr, rfl⟩ := List.mem_map.mp hd
    exact show_row (nk.name _ (h.rw' hr).1) tm (h.row r hr)
  · refine (show_seqs (m := 1) (c := 460) (N := 24) (fun d hd => ?_) (by rw [List.length_map]; exact h.len)).1.mono (Nat.le_refl _) (by decide)
    obtain ⟨q, hq, rfl⟩ := List.mem_map.mp hd
    obtain ⟨k1, k2⟩ := h.knw q hq
    exact show_kn (nk.name _ k1) k2
  · refine (show_seqs (m := 1) (c := 460) (N := 24) (fun d hd => ?_) (by rw [List.length_map]; omega)).1.mono (Nat.le_refl _) (by decide)
    obtain ⟨t, ht, rfl⟩ := List.mem_map.mp hd
    exact (show_name (tm t ht)).mono (by decide) (by decide)
end
/-! ### row_in, label_in -/
def rowIn (rows : List Row) (s : Str) : Option Row := rows.find? fun r => decide (r.w = s)
def optRow : Option Row → D
  | none => .none
  | some r => rowD r
def viaD : Option (Int × Str) → D
  | none => .none
  | some p => .int p.1
/-- the label that a house has of a wanted one -/
def labOf (own : Int) (rows : List Row) (house s : Str) : D := if house = s then (if 0 < own then .tuple [.int own, .int 0] else .none) else match rowIn rows s with
  | none => .none
  | some r => .tuple [.int r.num, viaD r.via]
section
variable {P : Nat → Option Fn} {n : Nat} {Q : D × Bool × List D → Prop}
variable {own asks : Int} {rows : List Row} {seen : List (Str × Int)} {ties : List Str}
theorem rowin_spec {s : Str} (hP : P 39 = some f39) (k : Q (optRow (rowIn rows s), false, [])) : W (callN ap aM aS P (n + 1) 39 [(false, upD own asks rows seen ties), (false, .str s)]) Q := by
  refine w_fn hP rfl (by decide) ?_
  unfold f39 upD
  trivial
  refine w_forGo (fun i sl => ∃ x, sl = [.val (upD own asks rows seen ties), .val (.str s), x] ∧ notBor x ∧ rowIn (rows.drop i) s = rowIn rows s) (fun d fr sl => d = optRow (rowIn rows s) ∧ fr = false ∧ ∃ x, sl = [.val (upD own asks rows seen ties), .val (.str s), x]) _ 0 _ ⟨.un, rfl, True.intro, rfl⟩ (fun i d sl hi hd hI => ?_) (fun sl hI => ?_) (fun d fr sl h => ?_)
  · obtain ⟨x, rfl, nx, hr⟩ := hI
    rw [Nat.sub_zero, List.getElem?_map] at hd
    cases ha : rows[i]? with
    | none => rw [ha] at hd; cases hd
    | some r =>
    rw [ha] at hd
    cases hd
    obtain ⟨hil, he⟩ := List.getElem?_eq_some_iff.mp ha
    have hdr : rows.drop i = r :: rows.drop (i + 1) := by rw [List.drop_eq_getElem_cons hil, he]
    rw [hdr, rowIn, List.find?_cons] at hr
    trivial
    refine ⟨nx, ?_⟩
    unfold rowD
    trivial
    refine ifD_of (fun h => ?_) (fun h => ?_)
    · trivial
      rw [decide_eq_true h] at hr
      simp only at hr
      exact ⟨by rw [← hr]; rfl, _, rfl⟩
    · trivial
      rw [decide_eq_false h] at hr
      exact ⟨_, rfl, True.intro, hr⟩
  · obtain ⟨x, rfl, nx, hr⟩ := hI
    rw [Nat.zero_add, List.length_map, List.drop_length] at hr
    trivial
    rw [← hr] at k
    exact k
  · obtain ⟨rfl, rfl, x, rfl⟩ := h
    trivial
    exact k
theorem labelin_spec {house s : Str} (hP : P 40 = some f40) (h39 : P 39 = some f39) (k : Q (labOf own rows house s, false, [])) : W (callN ap aM aS P (n + 2) 40 [(false, upD own asks rows seen ties), (false, .str house), (false, .str s)]) Q := by
  refine w_fn hP rfl (by decide) ?_
  unfold f40
  unfold labOf at k
  trivial
  refine ifD_of (fun h => ?_) (fun h => ?_)
  · rw [if_pos h] at k
    unfold upD
    trivial
    refine ifD_of (fun h => ?_) (fun h => ?_)
    · rw [if_pos h] at k
      trivial
      exact k
    · rw [if_neg h] at k
      trivial
      exact k
  · rw [if_neg h] at k
    trivial
    refine rowin_spec h39 ?_
    trivial
    cases hr : rowIn rows s with
    | none =>
      rw [hr] at k
      unfold optRow
      trivial
      exact k
    | some r =>
      rw [hr] at k
      unfold optRow rowD
      trivial
      have k : Q (.tuple [.int r.num, viaD r.via], false, []) := k
      cases hv : r.via with
      | none => rw [hv] at k; exact k
      | some p => rw [hv] at k; exact k
end

end EV
namespace EV
open PySem PySem.Spec L2
open PyProof.Rows hiding St
local macro_rules
  | `(tactic| trivial) => `(tactic| simp -failIfUnchanged only [↓w_k, ↓w_gl, ↓w_v, ↓w_tup, ↓w_lst, ↓w_dct0, ↓w_dct1, ↓w_bi, ↓w_mc, ↓w_sl, ↓w_ch, ↓w_tst, ↓w_and, ↓w_or, ↓w_ifeE, ↓w_call, ↓w_callK, ↓w_callF, ↓w_callV, ↓w_lc, ↓w_turn, ↓w_c2f, ↓w_c2t, ↓w_turn2, ↓w_dc, ↓w_turnD, ↓w_nil, ↓w_cons, ↓w_onil, ↓w_oconsV, ↓w_yes, ↓w_tnot, ↓w_tand, ↓w_tor, ↓w_texV, ↓te_callK, ↓oc_callK, ↓rt_callK, ↓te_callF, ↓oc_callF, ↓rt_callF, ↓te_callV, ↓oc_callV, ↓rt_callV, ↓te_k, ↓oc_k, ↓rt_k, ↓te_gl, ↓oc_gl, ↓rt_gl, ↓te_tup, ↓oc_tup, ↓rt_tup, ↓te_lst, ↓oc_lst, ↓rt_lst, ↓te_dct, ↓oc_dct, ↓rt_dct, ↓te_ch, ↓oc_ch, ↓rt_ch, ↓te_sl, ↓oc_sl, ↓rt_sl, ↓te_mc, ↓oc_mc, ↓rt_mc, ↓te_bi, ↓oc_bi, ↓rt_bi, ↓te_tst, ↓oc_tst, ↓rt_tst, ↓te_and, ↓oc_and, ↓rt_and, ↓te_or, ↓oc_or, ↓rt_or, ↓te_ife, ↓oc_ife, ↓rt_ife, ↓te_call, ↓oc_call, ↓rt_call, ↓te_lc, ↓oc_lc, ↓rt_lc, ↓te_c2, ↓oc_c2, ↓rt_c2, ↓te_dc, ↓oc_dc, ↓rt_dc, ↓w_anil, ↓w_aref, ↓w_aval, ↓w_asg, ↓w_asgO, ↓w_n, ↓w_tT, ↓w_tsN, ↓w_tsC, ↓w_aug, ↓w_mu, ↓w_setI, ↓w_ex, ↓w_retV, ↓w_retN, ↓w_ife, ↓w_for, ↓w_while, ↓w_starA, ↓w_brk, ↓w_cont, ↓w_pass, ↓w_snil, ↓w_scons, ↓w_body,
    ↓W_some, ↓W_if, ↓ifB_t, ↓ifB_f, ↓ifB_not, ↓onSl_v, ↓onSl_o, ↓onSl_b, ↓onNx_n, ↓onNx_b, ↓onNx_c, ↓onNx_r, ↓endF_r, ↓endF_n, ↓onFl_n, ↓onFl_c, ↓onFl_b, ↓onFl_r, ↓asB_b, ↓as1_1, ↓as2_2, notBor_u, notBor_v, notBor_o,
    ↓x_add, ↓x_addS, ↓x_addT, ↓x_addL, ↓x_iadd, ↓x_isub, ↓x_sub, ↓x_mul, ↓x_fdiv, ↓x_mod, ↓x_pow, ↓x_neg, ↓x_eq, ↓x_ne, ↓x_lt, ↓x_le, ↓x_gt, ↓x_ge, ↓x_isN, ↓x_notN, ↓x_isB, ↓x_notB, ↓x_inS, ↓x_ninS, ↓x_itemL, ↓x_itemT, ↓x_itemScr, ↓x_itemS, ↓x_lenL, ↓x_lenT, ↓x_lenScr, ↓x_lenS, ↓x_abs, ↓x_max, ↓x_min, ↓x_intI, ↓x_intB, ↓x_rev, ↓x_revT, ↓x_count, ↓x_inT, ↓x_inL, ↓x_ninT, ↓x_ninL, ↓x_mrev, ↓x_mclr, ↓x_app, ↓x_ext, ↓x_sorted, ↓x_sortedD, ↓x_sortSL, ↓x_sortST, ↓x_setD, ↓x_inD, ↓x_ninD, ↓x_repr, ↓x_str, ↓xi_n, ↓xi_b, ↓xi_i, ↓xi_s, ↓xi_l, ↓xi_t, ↓xi_d0, ↓xi_dS, ↓xi_dI, ↓x_all, ↓x_any, ↓x_join, ↓x_tupleL, ↓x_tupleT, ↓x_listL, ↓x_listT, ↓x_cutL, ↓x_cutT, ↓x_cutS, ↓x_ca0, ↓x_ca1, ↓x_ca2, ↓x_ca3, ↓tr_b, ↓tr_n, ↓tr_i, ↓tr_l, ↓tr_t, ↓it_l, ↓it_t, ↓it_s, ↓it_r1, ↓it_r2, ↓it_en, ↓it_z,
    fillD, List.map_cons, List.map_nil, Option.map_some, in_n, in_b, in_i, in_s, in_t, in_l, in_d, ek_s, ek_i, ek_b, ln_n, ln_b, ln_i, ln_s, ln_t, ln_d, ln_l, opdV, deref, derefs, mutAt, listAt, agD, backS, Ag.slots, nodupB, noMut, wipeS, restS, outS, argS, mut_u, mut_v, mut_o, mut_b, iv_k, iv_gl, iv_tup, iv_lst, iv_dct, iv_ch, iv_sl, iv_mc, iv_bi, iv_tst, iv_and, iv_or, iv_ife, iv_call, iv_lc, iv_c2, iv_dc, isKey, sc_n, sc_b, sc_i, sc_s, sc_l, sc_t, sc_d0, sc_dS, sc_dI, tyName, atI_0, atI_1, atI_2, atI_3, x_set0, x_set1, x_set2,
    List.getElem?_cons_succ, List.getElem?_cons_zero, List.getElem?_nil, List.set_cons_succ, List.set_cons_zero, List.cons_append, List.nil_append, List.replicate, Nat.reduceSub, Option.bind_some, Option.toList_some, Option.toList_none, List.getD_cons_succ, List.getD_cons_zero, Bool.not_true, Bool.not_false, true_and, and_true, List.contains_nil, List.all_cons, List.all_nil, Bool.and_true, Bool.true_and, decide_true, decide_false, Bool.true_eq_false, Bool.false_eq_true, kit_ii, kit_bi, kit_ni, kit_si, kit_li, kit_ti, kit_di, kit_ib, kit_bb, kit_nb, kit_sb, kit_lb, kit_tb, kit_db, kit_is, kit_bs, kit_ns, kit_ss, kit_ls, kit_ts, kit_ds, kit_it, kit_bt, kit_nt, kit_st, kit_lt, kit_tt, kit_dt, kit_il, kit_bl, kit_nl, kit_sl, kit_ll, kit_tl, kit_dl, sh_n, sh_b, sh_i, eqv_ii, eqv_bb, eqv_st, ↓nb_ff, ↓nb_ft, ↓nb_tf, ↓nb_tt])


/-- neighbours_of -/
def f22 : Fn := ⟨2, 4, [false, false], (.cons (.ret (.c2 true (.v 3) (.n 2) .any (.cons (.bi .item (.cons (.v 0) (.cons (.k (.int 1)) .nil))) .nil) (.ex (.bi .inn (.cons (.v 1) (.cons (.v 2) .nil)))) (.n 3) .any (.cons (.v 2) .nil) (.ex (.bi .ne (.cons (.v 3) (.cons (.v 1) .nil)))) [2, 3] [3])) .nil)⟩
/-- ways_of -/
def f23 : Fn := ⟨1, 4, [false], (.cons (.ret (.bi .sorted (.cons (.c2 false (.v 1) (.t (.cons (.n 2) (.cons (.n 3) .nil)) true) .any (.cons (.bi .item (.cons (.v 0) (.cons (.k (.int 1)) .nil))) .nil) .yes (.n 1) .any (.cons (.tup (.cons (.tup (.cons (.v 2) (.cons (.v 3) .nil))) (.cons (.tup (.cons (.v 3) (.cons (.v 2) .nil))) .nil))) .nil) .yes [2, 3, 1] [1]) .nil))) .nil)⟩
/-! ### neighbours -/
theorem sortD_congr {l m : List D} (s : Sort1 m) (p : l.Perm m) : sortD l = sortD m := sortD_eq s ((sortD_perm l).trans p) (sortD_pair l)
theorem sort1_texts (l : List Str) : Sort1 (l.map PyData.str) := .ofS fun d hd => by
  obtain ⟨x, _, rfl⟩ := List.mem_map.mp hd
  rfl
/-- the others of pairs with s -/
def nearA (ps : List (Str × Str)) (s : Str) : List Str := (ps.filter fun p => decide (p.2 = s)).map (·.1)
def nearB2 (ps : List (Str × Str)) (s : Str) : List Str := (ps.filter fun p => decide (p.1 = s)).map (·.2)
def nearD2 (ps : List (Str × Str)) (s : Str) : List D := sortD ((nearA ps s ++ nearB2 ps s).map PyData.str)
def nbOf (s : Str) (p : Str × Str) : List Str := if p.1 = s then [p.2] else if p.2 = s then [p.1] else []
section
variable {ns : List Str} {ps : List (Str × Str)}
theorem nearAB_mem {s t : Str} : t ∈ nearA ps s ++ nearB2 ps s ↔ (s, t) ∈ ps ∨ (t, s) ∈ ps := by
  simp only [nearA, nearB2, List.mem_append, List.mem_map, List.mem_filter, decide_eq_true_eq]
  constructor
  · rintro (⟨p, ⟨hp, rfl⟩, rfl⟩ | ⟨p, ⟨hp, rfl⟩, rfl⟩)
    · exact .inr hp
    · exact .inl hp
  · rintro (h | h)
    · exact .inr ⟨(s, t), ⟨h, rfl⟩, rfl⟩
    · exact .inl ⟨(t, s), ⟨h, rfl⟩, rfl⟩
theorem NetOk.nearAB_nd (h : NetOk ns ps) (s : Str) : (nearA ps s ++ nearB2 ps s).Nodup := by
  refine List.nodup_append.mpr ⟨?_, ?_, fun a ha b hb e => ?_⟩
  · refine List.pairwise_map.mpr (List.Pairwise.imp_of_mem ?_ (h.nd.filter _))
    rintro ⟨a, b⟩ ⟨c, d⟩ h1 h2 ne e
    have h1 := (List.mem_filter.mp h1).2
    have h2 := (List.mem_filter.mp h2).2
    simp only [decide_eq_true_eq] at h1 h2 e
    subst h1 h2 e
    exact ne rfl
  · refine List.pairwise_map.mpr (List.Pairwise.imp_of_mem ?_ (h.nd.filter _))
    rintro ⟨a, b⟩ ⟨c, d⟩ h1 h2 ne e
    have h1 := (List.mem_filter.mp h1).2
    have h2 := (List.mem_filter.mp h2).2
    simp only [decide_eq_true_eq] at h1 h2 e
    subst h1 h2 e
    exact ne rfl
  · subst e
    simp only [nearA, nearB2, List.mem_map, List.mem_filter, decide_eq_true_eq] at ha hb
    obtain ⟨p, ⟨hp, e1⟩, e2⟩ := ha
    obtain ⟨q, ⟨hq, e3⟩, e4⟩ := hb
    have l1 := (h.mem hp).2.2
    have l2 := (h.mem hq).2.2
    rw [e1, e2] at l1
    rw [e3, e4] at l2
    rw [ltS_as l1] at l2
    cases l2
theorem nbOf_mem (h : NetOk ns ps) {s t : Str} : t ∈ ps.flatMap (nbOf s) ↔ (s, t) ∈ ps ∨ (t, s) ∈ ps := by
  rw [List.mem_flatMap]
  constructor
  · rintro ⟨p, hp, ht⟩
    unfold nbOf at ht
    split at ht
    · rename_i e
      rw [List.mem_singleton] at ht
      subst e ht
      exact .inl hp
    · split at ht
      · rename_i e
        rw [List.mem_singleton] at ht
        subst e ht
        exact .inr hp
      · cases ht
  · rintro (q | q)
    · exact ⟨_, q, by simp [nbOf]⟩
    · refine ⟨_, q, ?_⟩
      have l1 := ltS_ne (h.mem q).2.2
      simp [nbOf, l1]
theorem nbOf_nd (h : NetOk ns ps) (s : Str) : (ps.flatMap (nbOf s)).Nodup := by
  refine List.pairwise_flatMap.mpr ⟨fun p hp => ?_, List.Pairwise.imp_of_mem ?_ h.nd⟩
  · unfold nbOf
    split
    · simp
    · split <;> simp
  · rintro ⟨a, b⟩ ⟨c, d⟩ hp hq ne x hx y hy e
    subst e
    have l1 := (h.mem hp).2.2
    have l2 := (h.mem hq).2.2
    simp only at l1 l2
    unfold nbOf at hx hy
    simp only at hx hy
    split at hx
    · rename_i e1
      rw [List.mem_singleton] at hx
      subst e1 hx
      split at hy
      · rename_i e2
        rw [List.mem_singleton] at hy
        subst e2 hy
        exact ne rfl
      · split at hy
        · rename_i e2
          rw [List.mem_singleton] at hy
          subst e2 hy
          rw [ltS_as l1] at l2
          cases l2
        · cases hy
    · split at hx
      · rename_i e1
        rw [List.mem_singleton] at hx
        subst e1 hx
        split at hy
        · rename_i e2
          rw [List.mem_singleton] at hy
          subst e2 hy
          rw [ltS_as l1] at l2
          cases l2
        · split at hy
          · rename_i e2
            rw [List.mem_singleton] at hy
            subst e2 hy
            exact ne rfl
          · cases hy
      · cases hx
theorem nbOf_len (h : NetOk ns ps) (s : Str) : (ps.flatMap (nbOf s)).length ≤ 12 := by
  refine Nat.le_trans (nodup_len (nbOf_nd h s) fun t ht => ?_) h.le
  rcases (nbOf_mem h).mp ht with q | q
  · exact (h.mem q).2.1
  · exact (h.mem q).1
theorem nearD_nb (h : NetOk ns ps) (s : Str) : sortD (dedup ((ps.flatMap (nbOf s)).map PyData.str)) = nearD2 ps s := by
  have nd : ((ps.flatMap (nbOf s)).map PyData.str).Nodup := List.pairwise_map.mpr ((nbOf_nd h s).imp fun {a b} ne e => ne (by injection e))
  rw [dedup_nodup nd]
  refine sortD_congr (sort1_texts _) (List.Perm.map _ ((List.perm_ext_iff_of_nodup (nbOf_nd h s) (h.nearAB_nd s)).mpr fun t => ?_))
  rw [nbOf_mem h, nearAB_mem]
/-- the neighbours as texts -/
theorem nearD_of (h : NetOk ns ps) (s : Str) : ∃ l : List Str, nearD2 ps s = l.map PyData.str ∧ Rise l ∧ (∀ t, t ∈ l ↔ (s, t) ∈ ps ∨ (t, s) ∈ ps) ∧ l.length ≤ 12 ∧ ∀ t ∈ l, t ∈ ns := by
  obtain ⟨l, p, e, r⟩ := sortD_texts _ (h.nearAB_nd s)
  have hm : ∀ t, t ∈ l ↔ (s, t) ∈ ps ∨ (t, s) ∈ ps := fun t => by rw [p.mem_iff, nearAB_mem]
  have hin : ∀ t ∈ l, t ∈ ns := fun t ht => by
    rcases (hm t).mp ht with q | q
    · exact (h.mem q).2.1
    · exact (h.mem q).1
  exact ⟨l, e, r, hm, Nat.le_trans (nodup_len (Rise.nodup r) hin) h.le, hin⟩
theorem two_perm : ∀ l : List (Str × Str), (l.flatMap fun p => [p, swapP p]).Perm (l ++ l.map swapP)
  | [] => .refl _
  | p :: l => by
    rw [List.flatMap_cons, List.map_cons, List.cons_append]
    show (p :: swapP p :: l.flatMap fun p => [p, swapP p]).Perm _
    refine .cons p ?_
    refine .trans (.cons _ (two_perm l)) ?_
    exact List.perm_middle.symm
end
section
variable {P : Nat → Option Fn} {n : Nat} {Q : D × Bool × List D → Prop} {ns : List Str} {ps : List (Str × Str)}
theorem sh_t2 {a b : Str} (h1 : NameS a) (h2 : NameS b) : SeqAt.shaped (.tuple [.str a, .str b]) = true := Shp.ok (Shp.tup (m := 0) fun x hx => by
  simp only [List.mem_cons, List.not_mem_nil, or_false] at hx
  rcases hx with rfl | rfl
  · exact Shp.str (h1.w (Nat.le_refl _))
  · exact Shp.str (h2.w (Nat.le_refl _))) (by decide)
def gNe (s : Str) : D → Option D
  | .str t => if decide (t ≠ s) = true then some (.str t) else none
  | _ => none
def gTwo : D → List D
  | .tuple [a, b] => [.tuple [a, b], .tuple [b, a]]
  | _ => []
theorem neighbours_spec {s : Str} (hP : P 22 = some f22) (nk : NetOk ns ps) (hs : NameS s) (k : Q (.list (nearD2 ps s), true, [])) : W (callN ap aM aS P (n + 1) 22 [(false, netD ns ps), (false, .str s)]) Q := by
  refine w_fn hP rfl (by decide) ?_
  unfold f22 netD
  trivial
  have pl := nk.pl
  refine w_lcF2 (fun sl => ∃ x y, sl = [.val (netD ns ps), .val (.str s), x, y] ∧ x.mut = false ∧ y.mut = false) (fun d => match d with
      | .tuple [.str a, .str b] => (nbOf s (a, b)).map PyData.str
      | _ => []) _ _ ⟨_, _, rfl, rfl, rfl⟩ (fun d hd sl hI => ?_) (fun sl hI => ?_)
  · obtain ⟨x, y, rfl, hx, hy⟩ := hI
    obtain ⟨q, hq, rfl⟩ := List.mem_map.mp hd
    obtain ⟨m1, m2, m3⟩ := nk.mem hq
    have ne := ltS_ne m3
    unfold pairT
    trivial
    refine ⟨⟨sh_s (hs.w (Nat.le_refl _)), sh_t2 (nk.name _ m1) (nk.name _ m2)⟩, ?_⟩
    simp only [List.any_cons, List.any_nil, Bool.or_false, eqv_st]
    refine ifB_of (fun h => ?_) (fun h => ?_)
    · trivial
      refine w_lcFM (fun sl => ∃ y, sl = [.val (netD ns ps), .val (.str s), .val (.tuple [.str q.1, .str q.2]), y] ∧ y.mut = false) (gNe s) _ _ ⟨_, rfl, rfl⟩ (fun d hd sl hI => ?_) (fun sl hI => ?_)
      · obtain ⟨y, rfl, hy⟩ := hI
        obtain ⟨t, ht, rfl⟩ : ∃ t, True ∧ d = .str t := by
          simp only [List.mem_cons, List.not_mem_nil, or_false] at hd
          rcases hd with rfl | rfl <;> exact ⟨_, True.intro, rfl⟩
        trivial
        refine ifD_of (fun h => ?_) (fun h => ?_)
        · trivial
          exact ⟨by simp [gNe, h], _, rfl, rfl⟩
        · trivial
          exact ⟨by simp [gNe, h], _, rfl, rfl⟩
      · obtain ⟨y, rfl, hy⟩ := hI
        refine ⟨?_, _, _, rfl, rfl, hy⟩
        show ([q.1, q.2].map PyData.str).filterMap (gNe s) = _
        rw [fm_filter (f := fun t => decide (t ≠ s)) (fun s => rfl)]
        congr 1
        rw [Bool.or_eq_true, decide_eq_true_eq, decide_eq_true_eq] at h
        rcases h with h | h
        · have ne2 : q.2 ≠ s := fun z => ne (h.trans z.symm)
          simp [nbOf, h, ne2]
        · have ne2 : q.1 ≠ s := fun z => ne (z.trans h.symm)
          simp [nbOf, h, ne2]
    · rw [Bool.or_eq_false_iff, decide_eq_false_iff_not, decide_eq_false_iff_not] at h
      exact ⟨by simp [nbOf, h.1, h.2], _, _, rfl, rfl, rfl⟩
  · obtain ⟨x, y, rfl, hx, hy⟩ := hI
    have em : (ps.map pairT).flatMap (fun d => match d with
      | .tuple [.str a, .str b] => (nbOf s (a, b)).map PyData.str
      | _ => []) = (ps.flatMap (nbOf s)).map PyData.str := by
      rw [List.map_flatMap, List.flatMap_map]
      rfl
    simp only [em]
    have hl := nbOf_len nk s
    refine ⟨⟨by rw [List.length_map]; omega, ?_⟩, ?_⟩
    · rw [List.all_eq_true]
      intro d hd
      obtain ⟨t, _, rfl⟩ := List.mem_map.mp hd
      rfl
    trivial
    have nd : ((ps.flatMap (nbOf s)).map PyData.str).Nodup := List.pairwise_map.mpr ((nbOf_nd nk s).imp fun {a b} ne e => ne (by injection e))
    refine ⟨⟨?_, ?_⟩, ?_⟩
    · unfold setKind
      rw [List.length_map, decide_eq_true (show (ps.flatMap (nbOf s)).length < 64 from by omega), Bool.true_and]
      have : ((ps.flatMap (nbOf s)).map PyData.str).all isStr = true := by
        rw [List.all_eq_true]
        intro d hd
        obtain ⟨t, _, rfl⟩ := List.mem_map.mp hd
        rfl
      rw [this, Bool.true_or]
    · rw [dedup_nodup nd]
      exact sortOk_texts (Nat.le_trans hl (by decide))
    rw [nearD_nb nk s]
    trivial
    exact k
theorem waysof_spec (hP : P 23 = some f23) (nk : NetOk ns ps) (k : Q (.list (wayD ps), true, [])) : W (callN ap aM aS P (n + 1) 23 [(false, netD ns ps)]) Q := by
  refine w_fn hP rfl (by decide) ?_
  unfold f23 netD
  trivial
  have pl := nk.pl
  refine w_lcF2 (fun sl => ∃ x y z, sl = [.val (netD ns ps), x, y, z] ∧ x.mut = false ∧ y.mut = false ∧ z.mut = false) gTwo _ _ ⟨_, _, _, rfl, rfl, rfl, rfl⟩ (fun d hd sl hI => ?_) (fun sl hI => ?_)
  · obtain ⟨x, y, z, rfl, hx, hy, hz⟩ := hI
    obtain ⟨q, hq, rfl⟩ := List.mem_map.mp hd
    unfold pairT
    trivial
    refine w_lcFM (fun sl => ∃ x, sl = [.val (netD ns ps), x, .val (.str q.1), .val (.str q.2)] ∧ x.mut = false) (fun d => some d) _ _ ⟨_, rfl, rfl⟩ (fun d hd sl hI => ?_) (fun sl hI => ?_)
    · obtain ⟨y, rfl, hy⟩ := hI
      trivial
      exact ⟨_, rfl, rfl⟩
    · obtain ⟨y, rfl, hy⟩ := hI
      exact ⟨rfl, _, _, _, rfl, hy, rfl, rfl⟩
  · obtain ⟨x, y, z, rfl, hx, hy, hz⟩ := hI
    have em : (ps.map pairT).flatMap gTwo = (ps.flatMap fun p => [p, swapP p]).map pairT := by
      rw [List.map_flatMap, List.flatMap_map]
      rfl
    dsimp only
    rw [em]
    have hp := two_perm ps
    have hl : (ps.flatMap fun p => [p, swapP p]).length ≤ 288 := by
      rw [hp.length_eq, List.length_append, List.length_map]
      omega
    refine ⟨by rw [List.length_map]; exact Nat.le_trans hl (by decide), ?_⟩
    trivial
    refine ⟨sortOk_pairs (Nat.le_trans hl (by decide)), ?_⟩
    have : sortD ((ps.flatMap fun p => [p, swapP p]).map pairT) = wayD ps := by
      refine sortD_congr (sortOk_of (sortOk_pairs ?_)).2 (hp.map _)
      rw [← hp.length_eq]
      exact Nat.le_trans hl (by decide)
    rw [this]
    trivial
    exact k
end
/-! ### parts of nets and states -/
section
variable {Q : D × Bool → Prop} {ns : List Str} {ps : List (Str × Str)} {own asks : Int} {rows : List Row} {seen : List (Str × Int)} {ties : List Str} {r : Row} {q : Str × Int} {pp : Str × Str} {kn : List (Str × Int)}
def viaT : Option (Int × Str) → D
  | none => .none
  | some p => .str p.2
theorem rowD_eq : rowD r = .tuple [.str r.w, .int r.num, viaD r.via, viaT r.via] := by
  unfold rowD
  cases r.via <;> rfl
theorem x_net0 : W (ap .item [netD ns ps, .int 0]) Q = Q (.tuple (ns.map PyData.str), false) := by unfold netD; rw [x_itemT, atI_0, W_some]
theorem x_net1 : W (ap .item [netD ns ps, .int 1]) Q = Q (.tuple (ps.map pairT), false) := by unfold netD; rw [x_itemT, atI_1, W_some]
theorem x_up0 : W (ap .item [upD own asks rows seen ties, .int 0]) Q = Q (.str (Str.ofString "up"), false) := by unfold upD; rw [x_itemT, atI_0, W_some]
theorem x_up1 : W (ap .item [upD own asks rows seen ties, .int 1]) Q = Q (.int own, false) := by unfold upD; rw [x_itemT, atI_1, W_some]
theorem x_up2 : W (ap .item [upD own asks rows seen ties, .int 2]) Q = Q (.int asks, false) := by unfold upD; rw [x_itemT, atI_2, W_some]
theorem x_up3 : W (ap .item [upD own asks rows seen ties, .int 3]) Q = Q (.tuple (rows.map rowD), false) := by unfold upD; rw [x_itemT, atI_3, W_some]
theorem x_up4 : W (ap .item [upD own asks rows seen ties, .int 4]) Q = Q (.tuple (seen.map knD), false) := by unfold upD; rw [x_itemT, show atI [PyData.str (Str.ofString "up"), .int own, .int asks, .tuple (rows.map rowD), .tuple (seen.map knD), .tuple (ties.map PyData.str)] 4 = some (.tuple (seen.map knD)) from rfl, W_some]
theorem x_up5 : W (ap .item [upD own asks rows seen ties, .int 5]) Q = Q (.tuple (ties.map PyData.str), false) := by unfold upD; rw [x_itemT, show atI [PyData.str (Str.ofString "up"), .int own, .int asks, .tuple (rows.map rowD), .tuple (seen.map knD), .tuple (ties.map PyData.str)] 5 = some (.tuple (ties.map PyData.str)) from rfl, W_some]
theorem x_dn0 : W (ap .item [downD own asks kn, .int 0]) Q = Q (.str (Str.ofString "down"), false) := by unfold downD; rw [x_itemT, atI_0, W_some]
theorem x_row0 : W (ap .item [rowD r, .int 0]) Q = Q (.str r.w, false) := by unfold rowD; rw [x_itemT, atI_0, W_some]
theorem x_row1 : W (ap .item [rowD r, .int 1]) Q = Q (.int r.num, false) := by unfold rowD; rw [x_itemT, atI_1, W_some]
theorem x_row2 : W (ap .item [rowD r, .int 2]) Q = Q (viaD r.via, false) := by rw [rowD_eq, x_itemT, atI_2, W_some]
theorem x_row3 : W (ap .item [rowD r, .int 3]) Q = Q (viaT r.via, false) := by rw [rowD_eq, x_itemT, atI_3, W_some]
theorem x_kn0 : W (ap .item [knD q, .int 0]) Q = Q (.str q.1, false) := by unfold knD; rw [x_itemT, atI_0, W_some]
theorem x_kn1 : W (ap .item [knD q, .int 1]) Q = Q (.int q.2, false) := by unfold knD; rw [x_itemT, atI_1, W_some]
theorem x_pr0 : W (ap .item [pairT pp, .int 0]) Q = Q (.str pp.1, false) := by unfold pairT; rw [x_itemT, atI_0, W_some]
theorem x_pr1 : W (ap .item [pairT pp, .int 1]) Q = Q (.str pp.2, false) := by unfold pairT; rw [x_itemT, atI_1, W_some]
theorem w_tPair {ts : Tgs} {sl : Ss} {K : Ss → Prop} : W (asgT (.t ts true) (pairT pp) sl) K = W (asgTs ts [.str pp.1, .str pp.2] sl) K := by unfold pairT; rw [asgT]
theorem w_tKn {ts : Tgs} {sl : Ss} {K : Ss → Prop} : W (asgT (.t ts true) (knD q) sl) K = W (asgTs ts [.str q.1, .int q.2] sl) K := by unfold knD; rw [asgT]
theorem w_tRow {ts : Tgs} {sl : Ss} {K : Ss → Prop} : W (asgT (.t ts true) (rowD r) sl) K = W (asgTs ts [.str r.w, .int r.num, viaD r.via, viaT r.via] sl) K := by rw [rowD_eq, asgT]
end

end EV
namespace EV
open PySem PySem.Spec L2
open PyProof.Rows hiding St
local macro_rules
  | `(tactic| trivial) => `(tactic| simp -failIfUnchanged only [↓w_k, ↓w_gl, ↓w_v, ↓w_tup, ↓w_lst, ↓w_dct0, ↓w_dct1, ↓w_bi, ↓w_mc, ↓w_sl, ↓w_ch, ↓w_tst, ↓w_and, ↓w_or, ↓w_ifeE, ↓w_call, ↓w_callK, ↓w_callF, ↓w_callV, ↓w_lc, ↓w_turn, ↓w_c2f, ↓w_c2t, ↓w_turn2, ↓w_dc, ↓w_turnD, ↓w_nil, ↓w_cons, ↓w_onil, ↓w_oconsV, ↓w_yes, ↓w_tnot, ↓w_tand, ↓w_tor, ↓w_texV, ↓te_callK, ↓oc_callK, ↓rt_callK, ↓te_callF, ↓oc_callF, ↓rt_callF, ↓te_callV, ↓oc_callV, ↓rt_callV, ↓te_k, ↓oc_k, ↓rt_k, ↓te_gl, ↓oc_gl, ↓rt_gl, ↓te_tup, ↓oc_tup, ↓rt_tup, ↓te_lst, ↓oc_lst, ↓rt_lst, ↓te_dct, ↓oc_dct, ↓rt_dct, ↓te_ch, ↓oc_ch, ↓rt_ch, ↓te_sl, ↓oc_sl, ↓rt_sl, ↓te_mc, ↓oc_mc, ↓rt_mc, ↓te_bi, ↓oc_bi, ↓rt_bi, ↓te_tst, ↓oc_tst, ↓rt_tst, ↓te_and, ↓oc_and, ↓rt_and, ↓te_or, ↓oc_or, ↓rt_or, ↓te_ife, ↓oc_ife, ↓rt_ife, ↓te_call, ↓oc_call, ↓rt_call, ↓te_lc, ↓oc_lc, ↓rt_lc, ↓te_c2, ↓oc_c2, ↓rt_c2, ↓te_dc, ↓oc_dc, ↓rt_dc, ↓w_anil, ↓w_aref, ↓w_aval, ↓w_asg, ↓w_asgO, ↓w_n, ↓w_tT, ↓w_tsN, ↓w_tsC, ↓w_aug, ↓w_mu, ↓w_setI, ↓w_ex, ↓w_retV, ↓w_retN, ↓w_ife, ↓w_for, ↓w_while, ↓w_starA, ↓w_brk, ↓w_cont, ↓w_pass, ↓w_snil, ↓w_scons, ↓w_body,
    ↓W_some, ↓W_if, ↓ifB_t, ↓ifB_f, ↓ifB_not, ↓onSl_v, ↓onSl_o, ↓onSl_b, ↓onNx_n, ↓onNx_b, ↓onNx_c, ↓onNx_r, ↓endF_r, ↓endF_n, ↓onFl_n, ↓onFl_c, ↓onFl_b, ↓onFl_r, ↓asB_b, ↓as1_1, ↓as2_2, notBor_u, notBor_v, notBor_o,
    ↓x_add, ↓x_addS, ↓x_addT, ↓x_addL, ↓x_iadd, ↓x_isub, ↓x_sub, ↓x_mul, ↓x_fdiv, ↓x_mod, ↓x_pow, ↓x_neg, ↓x_eq, ↓x_ne, ↓x_lt, ↓x_le, ↓x_gt, ↓x_ge, ↓x_isN, ↓x_notN, ↓x_isB, ↓x_notB, ↓x_inS, ↓x_ninS, ↓x_itemL, ↓x_itemT, ↓x_itemScr, ↓x_itemS, ↓x_lenL, ↓x_lenT, ↓x_lenScr, ↓x_lenS, ↓x_abs, ↓x_max, ↓x_min, ↓x_intI, ↓x_intB, ↓x_rev, ↓x_revT, ↓x_count, ↓x_net0, ↓x_net1, ↓x_up0, ↓x_up1, ↓x_up2, ↓x_up3, ↓x_up4, ↓x_up5, ↓x_dn0, ↓x_row0, ↓x_row1, ↓x_row2, ↓x_row3, ↓x_kn0, ↓x_kn1, ↓x_pr0, ↓x_pr1, ↓w_tPair, ↓w_tKn, ↓w_tRow, ↓x_inT, ↓x_inL, ↓x_ninT, ↓x_ninL, ↓x_mrev, ↓x_mclr, ↓x_app, ↓x_ext, ↓x_sorted, ↓x_sortedD, ↓x_sortSL, ↓x_sortST, ↓x_setD, ↓x_inD, ↓x_ninD, ↓x_repr, ↓x_str, ↓xi_n, ↓xi_b, ↓xi_i, ↓xi_s, ↓xi_l, ↓xi_t, ↓xi_d0, ↓xi_dS, ↓xi_dI, ↓x_all, ↓x_any, ↓x_join, ↓x_tupleL, ↓x_tupleT, ↓x_listL, ↓x_listT, ↓x_cutL, ↓x_cutT, ↓x_cutS, ↓x_ca0, ↓x_ca1, ↓x_ca2, ↓x_ca3, ↓tr_b, ↓tr_n, ↓tr_i, ↓tr_l, ↓tr_t, ↓it_l, ↓it_t, ↓it_s, ↓it_r1, ↓it_r2, ↓it_en, ↓it_z,
    fillD, List.map_cons, List.map_nil, Option.map_some, in_n, in_b, in_i, in_s, in_t, in_l, in_d, ek_s, ek_i, ek_b, ln_n, ln_b, ln_i, ln_s, ln_t, ln_d, ln_l, opdV, deref, derefs, mutAt, listAt, agD, backS, Ag.slots, nodupB, noMut, wipeS, restS, outS, argS, mut_u, mut_v, mut_o, mut_b, iv_k, iv_gl, iv_tup, iv_lst, iv_dct, iv_ch, iv_sl, iv_mc, iv_bi, iv_tst, iv_and, iv_or, iv_ife, iv_call, iv_lc, iv_c2, iv_dc, isKey, sc_n, sc_b, sc_i, sc_s, sc_l, sc_t, sc_d0, sc_dS, sc_dI, tyName, atI_0, atI_1, atI_2, atI_3, x_set0, x_set1, x_set2,
    List.getElem?_cons_succ, List.getElem?_cons_zero, List.getElem?_nil, List.set_cons_succ, List.set_cons_zero, List.cons_append, List.nil_append, List.replicate, Nat.reduceSub, Option.bind_some, Option.toList_some, Option.toList_none, List.getD_cons_succ, List.getD_cons_zero, Bool.not_true, Bool.not_false, true_and, and_true, List.contains_nil, List.all_cons, List.all_nil, Bool.and_true, Bool.true_and, decide_true, decide_false, Bool.true_eq_false, Bool.false_eq_true, kit_ii, kit_bi, kit_ni, kit_si, kit_li, kit_ti, kit_di, kit_ib, kit_bb, kit_nb, kit_sb, kit_lb, kit_tb, kit_db, kit_is, kit_bs, kit_ns, kit_ss, kit_ls, kit_ts, kit_ds, kit_it, kit_bt, kit_nt, kit_st, kit_lt, kit_tt, kit_dt, kit_il, kit_bl, kit_nl, kit_sl, kit_ll, kit_tl, kit_dl, sh_n, sh_b, sh_i, eqv_ii, eqv_bb, eqv_st, ↓nb_ff, ↓nb_ft, ↓nb_tf, ↓nb_tt])


/-- _law_near_right -/
def f26 : Fn := ⟨1, 7, [false], (.cons (.for_ (.n 1) .any (.cons (.bi .item (.cons (.v 0) (.cons (.k (.int 0)) .nil))) .nil) (.cons (.asgO 3 (.lc (.v 5) (.t (.cons (.n 5) (.cons (.n 6) .nil)) true) .any (.cons (.bi .item (.cons (.v 0) (.cons (.k (.int 1)) .nil))) .nil) (.ex (.bi .eq (.cons (.v 6) (.cons (.v 1) .nil)))) [5, 6])) (.cons (.asgO 3 (.bi .sorted (.cons (.bi .add (.cons (.v 3) (.cons (.lc (.v 6) (.t (.cons (.n 5) (.cons (.n 6) .nil)) true) .any (.cons (.bi .item (.cons (.v 0) (.cons (.k (.int 1)) .nil))) .nil) (.ex (.bi .eq (.cons (.v 5) (.cons (.v 1) .nil)))) [5, 6]) .nil))) .nil))) (.cons (.for_ (.n 2) .range1 (.cons (.k (.int 2)) .nil) (.cons (.asgO 4 (.call 22 [false, false] (.cons (.v 0) (.cons (.v 1) .nil)))) (.cons (.ife (.ex (.bi .ne (.cons (.bi .repr (.cons (.v 4) .nil)) (.cons (.bi .repr (.cons (.v 3) .nil)) .nil)))) (.cons (.ret (.k (.bool false))) .nil) .nil) (.cons (.mu .append 4 (.cons (.v 1) .nil)) (.cons (.mu .reverse 4 .nil) .nil))))) (.cons (.ife (.ex (.bi .ne (.cons (.lc (.v 6) (.n 6) .any (.cons (.v 3) .nil) (.ex (.bi .nin (.cons (.v 1) (.cons (.call 22 [false, false] (.cons (.v 0) (.cons (.v 6) .nil))) .nil)))) [6]) (.cons (.lst .nil) .nil)))) (.cons (.ret (.k (.bool false))) .nil) .nil) .nil))))) (.cons (.for_ (.n 2) .range1 (.cons (.k (.int 2)) .nil) (.cons (.asgO 4 (.call 23 [false] (.cons (.v 0) .nil))) (.cons (.ife (.ex (.bi .ne (.cons (.bi .repr (.cons (.v 4) .nil)) (.cons (.bi .repr (.cons (.call 25 [false] (.cons (.v 0) .nil)) .nil)) .nil)))) (.cons (.ret (.k (.bool false))) .nil) .nil) (.cons (.mu .clear 4 .nil) .nil)))) (.cons (.ret (.k (.bool true))) .nil)))⟩
/-- law -/
def f27 : Fn := ⟨1, 7, [false], (.cons (.asgO 1 (.tup (.cons (.tup (.cons (.k (.str (Str.ofString "a"))) (.cons (.k (.str (Str.ofString "b"))) .nil))) (.cons (.tup (.cons (.tup (.cons (.k (.str (Str.ofString "a"))) (.cons (.k (.str (Str.ofString "b"))) .nil))) .nil)) .nil)))) (.cons (.for_ (.n 2) .range1 (.cons (.k (.int 4)) .nil) (.cons (.asgO 3 (.call 2 [false, false] (.cons (.v 0) (.cons (.v 2) .nil)))) (.cons (.asgO 4 (.call 24 [true, false] (.cons (.v 3) (.cons (.k (.int 5)) .nil)))) (.cons (.asgO 4 (.tup (.cons (.bi .item (.cons (.v 4) (.cons (.k (.int 0)) .nil))) (.cons (.bi .item (.cons (.lst (.cons (.bi .item (.cons (.v 4) (.cons (.k (.int 1)) .nil))) (.cons (.bi .item (.cons (.v 4) (.cons (.k (.int 1)) .nil))) (.cons (.tup .nil) .nil)))) (.cons (.call 3 [true, false] (.cons (.v 3) (.cons (.k (.int 3)) .nil))) .nil))) .nil)))) (.cons (.for_ (.n 5) .any (.cons (.lst (.cons (.v 4) (.cons (.v 1) (.cons (.v 4) .nil)))) .nil) (.cons (.asgO 6 (.bi .repr (.cons (.v 5) .nil))) (.cons (.ife (.or (.not (.ex (.call 26 [false] (.cons (.v 5) .nil)))) (.ex (.bi .ne (.cons (.bi .repr (.cons (.v 5) .nil)) (.cons (.v 6) .nil))))) (.cons (.ret (.k (.bool false))) .nil) .nil) .nil))) (.cons (.asgO 1 (.v 4)) .nil)))))) (.cons (.ret (.k (.bool true))) .nil)))⟩
section
variable {P : Nat → Option Fn} {n : Nat} {Q : D × Bool × List D → Prop} {ns : List Str} {ps : List (Str × Str)}
def gFst (s : Str) : D → Option D
  | .tuple [.str a, .str b] => if b = s then some (.str a) else none
  | _ => none
def gSnd (s : Str) : D → Option D
  | .tuple [.str a, .str b] => if a = s then some (.str b) else none
  | _ => none
theorem fm_fst (s : Str) : ∀ l : List (Str × Str), (l.map pairT).filterMap (gFst s) = (nearA l s).map PyData.str
  | [] => rfl
  | p :: r => by
    rw [List.map_cons, List.filterMap_cons, fm_fst s r]
    unfold nearA
    rw [List.filter_cons]
    by_cases e : p.2 = s
    · simp [gFst, pairT, e]
    · simp [gFst, pairT, e]
theorem fm_snd (s : Str) : ∀ l : List (Str × Str), (l.map pairT).filterMap (gSnd s) = (nearB2 l s).map PyData.str
  | [] => rfl
  | p :: r => by
    rw [List.map_cons, List.filterMap_cons, fm_snd s r]
    unfold nearB2
    rw [List.filter_cons]
    by_cases e : p.1 = s
    · simp [gSnd, pairT, e]
    · simp [gSnd, pairT, e]
theorem show_texts {l : List Str} (h : ∀ s ∈ l, NameS s) (hl : l.length ≤ 12) : ShowOk 1 1400 (.list (l.map PyData.str)) := by
  refine (show_seqs (m := 0) (c := 110) (N := 12) (fun d hd => ?_) (by rw [List.length_map]; exact hl)).2.mono (Nat.le_refl _) (by decide)
  obtain ⟨s, hs, rfl⟩ := List.mem_map.mp hd
  exact show_name (h s hs)
theorem show_pairT {p : Str × Str} (h1 : NameS p.1) (h2 : NameS p.2) : ShowOk 1 230 (pairT p) := by
  refine (show_seqs (m := 0) (c := 110) (N := 2) (fun d hd => ?_) (Nat.le_refl _)).1.mono (Nat.le_refl _) (by decide)
  simp only [List.mem_cons, List.not_mem_nil, or_false] at hd
  rcases hd with rfl | rfl
  · exact show_name h1
  · exact show_name h2
theorem show_way (nk : NetOk ns ps) : ShowOk 2 70000 (.list (wayD ps)) := by
  obtain ⟨ws, e, p⟩ := wayD_of ps
  have pl := nk.pl
  rw [e]
  refine (show_seqs (m := 1) (c := 230) (N := 288) (fun d hd => ?_) (by rw [List.length_map, p.length_eq, List.length_append, List.length_map]; omega)).2.mono (Nat.le_refl _) (by decide)
  obtain ⟨w, hw, rfl⟩ := List.mem_map.mp hd
  rcases List.mem_append.mp (p.mem_iff.mp hw) with q | q
  · obtain ⟨h1, h2, _⟩ := nk.mem q
    exact show_pairT (nk.name _ h1) (nk.name _ h2)
  · obtain ⟨r, hr, rfl⟩ := List.mem_map.mp q
    obtain ⟨h1, h2, _⟩ := nk.mem hr
    exact show_pairT (nk.name _ h2) (nk.name _ h1)
theorem show_net (nk : NetOk ns ps) : ShowOk 3 100000 (netD ns ps) := by
  have pl := nk.pl
  have nl := nk.le
  refine (show_seqs (m := 2) (c := 40000) (N := 2) (fun d hd => ?_) (Nat.le_refl _)).1.mono (Nat.le_refl _) (by decide)
  simp only [List.mem_cons, List.not_mem_nil, or_false] at hd
  rcases hd with rfl | rfl
  · refine (show_seqs (m := 0) (c := 110) (N := 12) (fun d hd => ?_) (by rw [List.length_map]; exact nl)).1.mono (by decide) (by decide)
    obtain ⟨s, hs, rfl⟩ := List.mem_map.mp hd
    exact show_name (nk.name s hs)
  · refine (show_seqs (m := 1) (c := 230) (N := 144) (fun d hd => ?_) (by rw [List.length_map]; exact pl)).1.mono (by decide) (by decide)
    obtain ⟨w, hw, rfl⟩ := List.mem_map.mp hd
    obtain ⟨h1, h2, _⟩ := nk.mem hw
    exact show_pairT (nk.name _ h1) (nk.name _ h2)
theorem sh_ts {l : List Str} (h : ∀ s ∈ l, NameS s) : SeqAt.shaped (.list (l.map PyData.str)) = true := Shp.ok (Shp.lst (m := 0) fun x hx => by
  obtain ⟨s, hs, rfl⟩ := List.mem_map.mp hx
  exact Shp.str ((h s hs).w (Nat.le_refl _))) (by decide)
theorem any_str (s : Str) : ∀ l : List Str, ((l.map PyData.str).any fun z => PyData.eqv z (.str s)) = decide (s ∈ l)
  | [] => rfl
  | t :: r => by
    rw [List.map_cons, List.any_cons, any_str s r, eqv_st]
    by_cases e : t = s
    · simp [e]
    · have : ¬ s = t := fun z => e z.symm
      simp [e, this]
theorem near3 (hP : P 26 = some f26) (h22 : P 22 = some f22) (h23 : P 23 = some f23) (h25 : P 25 = some f25) (nk : NetOk ns ps) (k : Q (.bool true, false, [])) : W (callN ap aM aS P (n + 2) 26 [(false, netD ns ps)]) Q := by
  have pl := nk.pl
  refine w_fn hP rfl (by decide) ?_
  unfold f26
  trivial
  refine w_forGo (fun i sl => ∃ x1 x2 x3 x4 x5 x6, sl = [.val (netD ns ps), x1, x2, x3, x4, x5, x6] ∧ notBor x1 ∧ notBor x2 ∧ notBor x3 ∧ notBor x4 ∧ x5.mut = false ∧ x6.mut = false) (fun _ _ _ => False) _ 0 _ ⟨.un, .un, .un, .un, .un, .un, rfl, True.intro, True.intro, True.intro, True.intro, rfl, rfl⟩ (fun i d sl hi hd hI => ?_) (fun sl hI => ?_) (fun _ _ _ h => h.elim)
  · obtain ⟨x1, x2, x3, x4, x5, x6, rfl, n1, n2, n3, n4, u5, u6⟩ := hI
    obtain ⟨s, hs, rfl⟩ := List.mem_map.mp (List.mem_of_getElem? hd)
    have sn := nk.name s hs
    trivial
    refine ⟨n1, ?_⟩
    refine ⟨by rw [u5, u6]; rfl, by rw [u5, u6]; rfl, ?_⟩
    refine w_lcFM (fun sl => ∃ x5 x6, sl = [.val (netD ns ps), .val (.str s), x2, x3, x4, x5, x6] ∧ x5.mut = false ∧ x6.mut = false) (gFst s) _ _ ⟨_, _, rfl, u5, u6⟩ (fun d hd sl hI => ?_) (fun sl hI => ?_)
    · obtain ⟨x5, x6, rfl, u5, u6⟩ := hI
      obtain ⟨q, hq, rfl⟩ := List.mem_map.mp hd
      trivial
      refine ifD_of (fun h => ?_) (fun h => ?_)
      · trivial
        exact ⟨by simp [gFst, pairT, h], _, _, rfl, rfl, rfl⟩
      · trivial
        exact ⟨by simp [gFst, pairT, h], _, _, rfl, rfl, rfl⟩
    obtain ⟨y5, y6, rfl, v5, v6⟩ := hI
    rw [fm_fst]
    have la : (nearA ps s).length ≤ 144 := by
      unfold nearA
      rw [List.length_map]
      exact Nat.le_trans (List.length_filter_le _ _) pl
    have lb : (nearB2 ps s).length ≤ 144 := by
      unfold nearB2
      rw [List.length_map]
      exact Nat.le_trans (List.length_filter_le _ _) pl
    refine ⟨by rw [List.length_map]; exact Nat.le_trans la (by decide), ?_⟩
    trivial
    refine ⟨n3, by rw [u5, u6]; rfl, by rw [u5, u6]; rfl, ?_⟩
    refine w_lcFM (fun sl => ∃ x5 x6, sl = [.val (netD ns ps), .val (.str s), x2, .own (.list ((nearA ps s).map PyData.str)), x4, x5, x6] ∧ x5.mut = false ∧ x6.mut = false) (gSnd s) _ _ ⟨_, _, rfl, u5, u6⟩ (fun d hd sl hI => ?_) (fun sl hI => ?_)
    · obtain ⟨x5, x6, rfl, u5, u6⟩ := hI
      obtain ⟨q, hq, rfl⟩ := List.mem_map.mp hd
      trivial
      refine ifD_of (fun h => ?_) (fun h => ?_)
      · trivial
        exact ⟨by simp [gSnd, pairT, h], _, _, rfl, rfl, rfl⟩
      · trivial
        exact ⟨by simp [gSnd, pairT, h], _, _, rfl, rfl, rfl⟩
    clear v5 v6 y5 y6
    obtain ⟨y5, y6, rfl, v5, v6⟩ := hI
    rw [fm_snd]
    refine ⟨by rw [List.length_map]; exact Nat.le_trans lb (by decide), ?_⟩
    trivial
    rw [← List.map_append]
    refine ⟨by simp only [List.length_map]; exact Nat.le_trans (Nat.add_le_add la lb) (by decide), sortOk_texts (by rw [List.length_append]; exact Nat.le_trans (Nat.add_le_add la lb) (by decide)), ?_⟩
    rw [show sortD ((nearA ps s ++ nearB2 ps s).map PyData.str) = nearD2 ps s from rfl]
    trivial
    obtain ⟨l, el, rise, hm, ll, hin⟩ := nearD_of nk s
    have ln : ∀ t ∈ l, NameS t := fun t ht => nk.name t (hin t ht)
    have shl := show_texts ln ll
    refine ⟨by decide, ?_⟩
    rw [el]
    refine w_forGo (fun _ sl => ∃ x2 x4, sl = [.val (netD ns ps), .val (.str s), x2, .own (.list (l.map PyData.str)), x4, x5, x6] ∧ notBor x2 ∧ notBor x4) (fun _ _ _ => False) _ 0 _ ⟨_, _, rfl, n2, n4⟩ (fun j d sl hj hd hI => ?_) (fun sl hI => ?_) (fun _ _ _ h => h.elim)
    · clear n2 n4 x2 x4
      obtain ⟨x2, x4, rfl, n2, n4⟩ := hI
      obtain ⟨rfl, _⟩ := rangeT_at hd
      trivial
      refine ⟨n2, ?_⟩
      trivial
      refine neighbours_spec h22 nk sn ?_
      trivial
      refine ⟨n4, ?_⟩
      rw [el]
      trivial
      refine ⟨shl.rep (by decide) (by decide), shl.rep (by decide) (by decide), ?_⟩
      refine ⟨by rw [List.length_map]; exact Nat.lt_of_le_of_lt ll (by decide), ?_⟩
      exact ⟨_, _, rfl, True.intro, True.intro⟩
    · clear n2 n4 x2 x4
      obtain ⟨x2, x4, rfl, n2, n4⟩ := hI
      trivial
      refine ⟨by rw [u6]; rfl, by rw [u6]; rfl, ?_⟩
      refine w_lcFM (fun sl => ∃ x6, sl = [.val (netD ns ps), .val (.str s), x2, .val (.list (l.map PyData.str)), x4, x5, x6] ∧ x6.mut = false) (fun _ => none) _ _ ⟨_, rfl, u6⟩ (fun d hd sl hI => ?_) (fun sl hI => ?_)
      · obtain ⟨y6, rfl, v6⟩ := hI
        obtain ⟨t, ht, rfl⟩ := List.mem_map.mp hd
        trivial
        refine neighbours_spec h22 nk (ln t ht) ?_
        trivial
        obtain ⟨l2, el2, _, hm2, ll2, hin2⟩ := nearD_of nk t
        rw [el2]
        refine ⟨⟨sh_s (sn.w (Nat.le_refl _)), sh_ts (fun x hx => nk.name x (hin2 x hx))⟩, ?_⟩
        rw [any_str, decide_eq_true ((hm2 s).mpr (((hm t).mp ht).elim .inr .inl))]
        trivial
        exact ⟨_, rfl, rfl⟩
      · obtain ⟨y6, rfl, v6⟩ := hI
        have e0 : (l.map PyData.str).filterMap (fun _ => (none : Option D)) = [] := by simp
        dsimp only
        rw [e0]
        refine ⟨by decide, ?_⟩
        trivial
        refine ⟨by decide +kernel, ?_⟩
        rw [show PyData.eqv (.list []) (.list []) = true from by rw [PyData.eqv]; rfl]
        trivial
        exact ⟨_, _, _, _, _, _, rfl, True.intro, n2, True.intro, n4, u5, u6⟩
  · obtain ⟨x1, x2, x3, x4, x5, x6, rfl, n1, n2, n3, n4, u5, u6⟩ := hI
    trivial
    refine ⟨by decide, ?_⟩
    have shw := show_way nk
    refine w_forGo (fun _ sl => ∃ x2 x4, sl = [.val (netD ns ps), x1, x2, x3, x4, x5, x6] ∧ notBor x2 ∧ notBor x4) (fun _ _ _ => False) _ 0 _ ⟨_, _, rfl, n2, n4⟩ (fun j d sl hj hd hI => ?_) (fun sl hI => ?_) (fun _ _ _ h => h.elim)
    · clear n2 n4 x2 x4
      obtain ⟨x2, x4, rfl, n2, n4⟩ := hI
      obtain ⟨rfl, _⟩ := rangeT_at hd
      trivial
      refine ⟨n2, ?_⟩
      trivial
      refine waysof_spec h23 nk ?_
      trivial
      refine ⟨n4, ?_⟩
      trivial
      refine ⟨shw.rep (by decide) (by decide), ?_⟩
      refine ways_spec h25 (Nat.le_trans pl (by decide)) ?_
      trivial
      refine ⟨shw.rep (by decide) (by decide), ?_⟩
      exact ⟨_, _, rfl, True.intro, True.intro⟩
    · clear n2 n4 x2 x4
      obtain ⟨x2, x4, rfl, n2, n4⟩ := hI
      trivial
      exact k
structure P03 (P : Nat → Option Fn) : Prop where
  h2 : P 2 = some f2
  h3 : P 3 = some f3
  h12 : P 12 = some f12
  h22 : P 22 = some f22
  h23 : P 23 = some f23
  h24 : P 24 = some f24
  h25 : P 25 = some f25
  h26 : P 26 = some f26
  h27 : P 27 = some f27
theorem ab_net : NetOk [Str.ofString "a", Str.ofString "b"] [(Str.ofString "a", Str.ofString "b")] := ⟨by decide, by decide, fun s hs => by
  simp only [List.mem_cons, List.not_mem_nil, or_false] at hs
  rcases hs with rfl | rfl <;> exact nameSB_of (by decide +kernel), .cons (fun x hx => by
    rw [List.mem_singleton] at hx
    rw [hx]
    decide +kernel) (.cons (fun x hx => nomatch hx) .nil), .refl _⟩
theorem NetOk.none {ns : List Str} {ps : List (Str × Str)} (h : NetOk ns ps) : NetOk ns [] := ⟨h.ge, h.le, h.name, h.rise, List.nil_sublist _⟩
theorem law03 (p : P03 P) {ns : List Int} (hn : ns.length ≤ 63) : W (callN ap aM aS P (n + 4) 27 [(false, scrD ns)]) (fun r => r.1 = .bool true) := by
  refine w_fn p.h27 rfl (by decide) ?_
  unfold f27
  trivial
  unfold scrD
  refine ⟨by decide, ?_⟩
  refine w_forGo (fun _ sl => ∃ nm ps x2 x3 x4 x5 x6, sl = [.val (scrD ns), .val (netD nm ps), x2, x3, x4, x5, x6] ∧ NetOk nm ps ∧ notBor x2 ∧ notBor x3 ∧ notBor x4 ∧ notBor x5 ∧ notBor x6) (fun _ _ _ => False) _ 0 _ ⟨_, _, .un, .un, .un, .un, .un, rfl, ab_net, True.intro, True.intro, True.intro, True.intro, True.intro⟩ (fun i d sl hi hd hI => ?_) (fun sl hI => ?_) (fun _ _ _ h => h.elim)
  · obtain ⟨nm0, ps0, x2, x3, x4, x5, x6, rfl, nk0, n2, n3, n4, n5, n6⟩ := hI
    obtain ⟨rfl, hi4⟩ := rangeT_at hd
    trivial
    refine ⟨n2, ?_⟩
    trivial
    refine feed_spec p.h2 (by omega) fun fd hfd => ?_
    trivial
    refine ⟨n3, ?_⟩
    trivial
    refine net_spec p.h24 p.h12 p.h3 hfd (by decide) (by decide) (by decide) fun nm ps fd1 nk nl hf1 => ?_
    trivial
    refine ⟨n4, ?_⟩
    trivial
    refine take_spec p.h3 hf1 (by decide) (by decide) (by decide) fun r fd2 a2 b2 hf2 => ?_
    trivial
    refine W_atI a2 (by simpa using b2) fun y hy => ?_
    obtain ⟨ps2, rfl, nk2⟩ : ∃ ps2, y = .tuple (ps2.map pairT) ∧ NetOk nm ps2 := by
      simp only [List.mem_cons, List.not_mem_nil, or_false] at hy
      rcases hy with rfl | rfl | rfl
      · exact ⟨ps, rfl, nk⟩
      · exact ⟨ps, rfl, nk⟩
      · exact ⟨[], rfl, nk.none⟩
    trivial
    rw [show (PyData.tuple [.tuple (nm.map PyData.str), .tuple (ps2.map pairT)]) = netD nm ps2 from rfl]
    refine w_forGo (fun _ sl => ∃ x5 x6, sl = [.val (scrD ns), .val (netD nm0 ps0), .val (.int (0 + ((i - 0 : Nat) : Int))), .own fd2, .val (netD nm ps2), x5, x6] ∧ notBor x5 ∧ notBor x6) (fun _ _ _ => False) _ 0 _ ⟨_, _, rfl, n5, n6⟩ (fun j d sl hj hd hI => ?_) (fun sl hI => ?_) (fun _ _ _ h => h.elim)
    · clear n5 n6 x5 x6
      obtain ⟨x5, x6, rfl, n5, n6⟩ := hI
      obtain ⟨nm3, ps3, rfl, nk3⟩ : ∃ nm3 ps3, d = netD nm3 ps3 ∧ NetOk nm3 ps3 := by
        have := List.mem_of_getElem? hd
        simp only [List.mem_cons, List.not_mem_nil, or_false] at this
        rcases this with rfl | rfl | rfl
        · exact ⟨_, _, rfl, nk2⟩
        · exact ⟨_, _, rfl, nk0⟩
        · exact ⟨_, _, rfl, nk2⟩
      have sh := show_net nk3
      trivial
      refine ⟨n5, ?_⟩
      trivial
      refine ⟨sh.rep (by decide) (by decide), n6, ?_⟩
      trivial
      refine near3 p.h26 p.h22 p.h23 p.h25 nk3 ?_
      trivial
      refine ⟨sh.rep (by decide) (by decide), ?_⟩
      exact ⟨_, _, rfl, True.intro, True.intro⟩
    · clear n5 n6 x5 x6
      obtain ⟨x5, x6, rfl, n5, n6⟩ := hI
      trivial
      exact ⟨_, _, _, _, _, _, _, rfl, nk2, True.intro, True.intro, True.intro, n5, n6⟩
  · obtain ⟨nm0, ps0, x2, x3, x4, x5, x6, rfl, nk0, n2, n3, n4, n5, n6⟩ := hI
    trivial
end

end EV
namespace EV
open PySem PySem.Spec L2
open PyProof.Rows hiding St
namespace Lk03
def top (i : Nat) : Stmt := PySem.Challenge.pw_askedways_k03_neighbours_and_ways.main.body.getD i (.Pass ⟨0, 0, 0, 0⟩)
abbrev consts : List (Str × D) := []
abbrev blts : List Str := [("len" : Str), ("abs" : Str), ("range" : Str), ("enumerate" : Str), ("sorted" : Str), ("repr" : Str), ("tuple" : Str), ("list" : Str)]

abbrev pats : Pats := []
/-! neighbours_of -/
def d22 : Decl := ⟨"neighbours_of", top 1, [("net" : Str), ("house" : Str), ("pair" : Str), ("other" : Str)], [("net" : Str), ("house" : Str)], f22, true⟩
/-! ways_of -/
def d23 : Decl := ⟨"ways_of", top 2, [("net" : Str), ("way" : Str), ("one" : Str), ("other" : Str)], [("net" : Str)], f23, true⟩
/-! _law_feed -/
def d2 : Decl := ⟨"_law_feed", top 4, [("_law_script" : Str), ("_law_k" : Str), ("_law_cell" : Str), ("_law_great" : Str)], [("_law_script" : Str), ("_law_k" : Str)], f2, true⟩
/-! _law_take -/
def d3 : Decl := ⟨"_law_take", top 5, [("_law_feed_here" : Str), ("_law_many" : Str), ("_law_many_so" : Str), ("_law_mixed" : Str), ("_law_digit" : Str)], [("_law_feed_here" : Str), ("_law_many" : Str)], f3, true⟩
/-! _law_names -/
def d12 : Decl := ⟨"_law_names", top 6, [("_law_feed_here" : Str), ("_law_many" : Str), ("_law_first" : Str), ("_law_words" : Str), ("_law_base" : Str), ("_law_spot" : Str), ("_law_signs" : Str), ("_law_k" : Str)], [("_law_feed_here" : Str), ("_law_many" : Str)], f12, true⟩
/-! _law_net -/
def d24 : Decl := ⟨"_law_net", top 7, [("_law_feed_here" : Str), ("_law_houses" : Str), ("_law_names_here" : Str), ("_law_found" : Str), ("_law_k" : Str), ("_law_one" : Str), ("_law_other" : Str)], [("_law_feed_here" : Str), ("_law_houses" : Str)], f24, true⟩
/-! _law_ways -/
def d25 : Decl := ⟨"_law_ways", top 8, [("_law_net_here" : Str), ("_law_one" : Str), ("_law_other" : Str)], [("_law_net_here" : Str)], f25, true⟩
/-! _law_near_right -/
def d26 : Decl := ⟨"_law_near_right", top 9, [("_law_net_here" : Str), ("_law_house" : Str), ("_law_turn" : Str), ("_law_due" : Str), ("_law_found" : Str), ("_law_one" : Str), ("_law_other" : Str)], [("_law_net_here" : Str)], f26, true⟩
/-! law -/
def d27 : Decl := ⟨"law", top 10, [("_law_script" : Str), ("_law_ahead" : Str), ("_law_k" : Str), ("_law_feed_here" : Str), ("_law_net_here" : Str), ("_law_one" : Str), ("_law_kept" : Str)], [("_law_script" : Str)], f27, true⟩
def tab : Tab := [(22, d22), (23, d23), (2, d2), (3, d3), (12, d12), (24, d24), (25, d25), (26, d26), (27, d27)]
theorem wf22 : d22.wf tab pats consts blts = true := by decide +kernel
theorem wf23 : d23.wf tab pats consts blts = true := by decide +kernel
theorem wf2 : d2.wf tab pats consts blts = true := by decide +kernel
theorem wf3 : d3.wf tab pats consts blts = true := by decide +kernel
theorem wf12 : d12.wf tab pats consts blts = true := by decide +kernel
theorem wf24 : d24.wf tab pats consts blts = true := by decide +kernel
theorem wf25 : d25.wf tab pats consts blts = true := by decide +kernel
theorem wf26 : d26.wf tab pats consts blts = true := by decide +kernel
theorem wf27 : d27.wf tab pats consts blts = true := by decide +kernel
theorem nd : (tab.map Prod.fst).Nodup := by decide
theorem inTab {K : PySem.W.Frag} {h : Heap} {mg : Str → Option Value} (X : K.In h) (G : h.Ns mainGlobals mg)
    {fa22 : Addr} {od22 an22 : Option Addr} {sl22 : Array (Option Value)} {oc22 kV22 dc22 pm22 cd22 ct22 : Value}
    (a22 : PySem.W.nsIn K mainGlobals "neighbours_of" = some (some (.ref fa22))) (l22 : K.lookup fa22 = some ⟨oc22, od22, .func (PySem.W.fnOf "neighbours_of" "neighbours_of" (defArgs (top 1)) (defBody (top 1)) (defScope (top 1)) .none kV22 dc22 pm22 an22 cd22 ct22), sl22⟩) (c22 : PySem.W.codeIn K cd22 "neighbours_of" = true) (k22 : PySem.W.keepIn K (.ref fa22) = true)
    {fa23 : Addr} {od23 an23 : Option Addr} {sl23 : Array (Option Value)} {oc23 kV23 dc23 pm23 cd23 ct23 : Value}
    (a23 : PySem.W.nsIn K mainGlobals "ways_of" = some (some (.ref fa23))) (l23 : K.lookup fa23 = some ⟨oc23, od23, .func (PySem.W.fnOf "ways_of" "ways_of" (defArgs (top 2)) (defBody (top 2)) (defScope (top 2)) .none kV23 dc23 pm23 an23 cd23 ct23), sl23⟩) (c23 : PySem.W.codeIn K cd23 "ways_of" = true) (k23 : PySem.W.keepIn K (.ref fa23) = true)
    {fa2 : Addr} {od2 an2 : Option Addr} {sl2 : Array (Option Value)} {oc2 kV2 dc2 pm2 cd2 ct2 : Value}
    (a2 : PySem.W.nsIn K mainGlobals "_law_feed" = some (some (.ref fa2))) (l2 : K.lookup fa2 = some ⟨oc2, od2, .func (PySem.W.fnOf "_law_feed" "_law_feed" (defArgs (top 4)) (defBody (top 4)) (defScope (top 4)) .none kV2 dc2 pm2 an2 cd2 ct2), sl2⟩) (c2 : PySem.W.codeIn K cd2 "_law_feed" = true) (k2 : PySem.W.keepIn K (.ref fa2) = true)
    {fa3 : Addr} {od3 an3 : Option Addr} {sl3 : Array (Option Value)} {oc3 kV3 dc3 pm3 cd3 ct3 : Value}
    (a3 : PySem.W.nsIn K mainGlobals "_law_take" = some (some (.ref fa3))) (l3 : K.lookup fa3 = some ⟨oc3, od3, .func (PySem.W.fnOf "_law_take" "_law_take" (defArgs (top 5)) (defBody (top 5)) (defScope (top 5)) .none kV3 dc3 pm3 an3 cd3 ct3), sl3⟩) (c3 : PySem.W.codeIn K cd3 "_law_take" = true) (k3 : PySem.W.keepIn K (.ref fa3) = true)
    {fa12 : Addr} {od12 an12 : Option Addr} {sl12 : Array (Option Value)} {oc12 kV12 dc12 pm12 cd12 ct12 : Value}
    (a12 : PySem.W.nsIn K mainGlobals "_law_names" = some (some (.ref fa12))) (l12 : K.lookup fa12 = some ⟨oc12, od12, .func (PySem.W.fnOf "_law_names" "_law_names" (defArgs (top 6)) (defBody (top 6)) (defScope (top 6)) .none kV12 dc12 pm12 an12 cd12 ct12), sl12⟩) (c12 : PySem.W.codeIn K cd12 "_law_names" = true) (k12 : PySem.W.keepIn K (.ref fa12) = true)
    {fa24 : Addr} {od24 an24 : Option Addr} {sl24 : Array (Option Value)} {oc24 kV24 dc24 pm24 cd24 ct24 : Value}
    (a24 : PySem.W.nsIn K mainGlobals "_law_net" = some (some (.ref fa24))) (l24 : K.lookup fa24 = some ⟨oc24, od24, .func (PySem.W.fnOf "_law_net" "_law_net" (defArgs (top 7)) (defBody (top 7)) (defScope (top 7)) .none kV24 dc24 pm24 an24 cd24 ct24), sl24⟩) (c24 : PySem.W.codeIn K cd24 "_law_net" = true) (k24 : PySem.W.keepIn K (.ref fa24) = true)
    {fa25 : Addr} {od25 an25 : Option Addr} {sl25 : Array (Option Value)} {oc25 kV25 dc25 pm25 cd25 ct25 : Value}
    (a25 : PySem.W.nsIn K mainGlobals "_law_ways" = some (some (.ref fa25))) (l25 : K.lookup fa25 = some ⟨oc25, od25, .func (PySem.W.fnOf "_law_ways" "_law_ways" (defArgs (top 8)) (defBody (top 8)) (defScope (top 8)) .none kV25 dc25 pm25 an25 cd25 ct25), sl25⟩) (c25 : PySem.W.codeIn K cd25 "_law_ways" = true) (k25 : PySem.W.keepIn K (.ref fa25) = true)
    {fa26 : Addr} {od26 an26 : Option Addr} {sl26 : Array (Option Value)} {oc26 kV26 dc26 pm26 cd26 ct26 : Value}
    (a26 : PySem.W.nsIn K mainGlobals "_law_near_right" = some (some (.ref fa26))) (l26 : K.lookup fa26 = some ⟨oc26, od26, .func (PySem.W.fnOf "_law_near_right" "_law_near_right" (defArgs (top 9)) (defBody (top 9)) (defScope (top 9)) .none kV26 dc26 pm26 an26 cd26 ct26), sl26⟩) (c26 : PySem.W.codeIn K cd26 "_law_near_right" = true) (k26 : PySem.W.keepIn K (.ref fa26) = true)
    {fa27 : Addr} {od27 an27 : Option Addr} {sl27 : Array (Option Value)} {oc27 kV27 dc27 pm27 cd27 ct27 : Value}
    (a27 : PySem.W.nsIn K mainGlobals "law" = some (some (.ref fa27))) (l27 : K.lookup fa27 = some ⟨oc27, od27, .func (PySem.W.fnOf "law" "law" (defArgs (top 10)) (defBody (top 10)) (defScope (top 10)) .none kV27 dc27 pm27 an27 cd27 ct27), sl27⟩) (c27 : PySem.W.codeIn K cd27 "law" = true) (k27 : PySem.W.keepIn K (.ref fa27) = true)
    (z0 : PySem.W.nsIn K mainGlobals "len" = some none)
    (z1 : PySem.W.nsIn K mainGlobals "abs" = some none)
    (z2 : PySem.W.nsIn K mainGlobals "range" = some none)
    (z3 : PySem.W.nsIn K mainGlobals "enumerate" = some none)
    (z4 : PySem.W.nsIn K mainGlobals "sorted" = some none)
    (z5 : PySem.W.nsIn K mainGlobals "repr" = some none)
    (z6 : PySem.W.nsIn K mainGlobals "tuple" = some none)
    (z7 : PySem.W.nsIn K mainGlobals "list" = some none) : TabIn K mg tab pats consts blts := by
  have F22 := fun_mk (st := top 1) l22 c22 k22
  have F23 := fun_mk (st := top 2) l23 c23 k23
  have F2 := fun_mk (st := top 4) l2 c2 k2
  have F3 := fun_mk (st := top 5) l3 c3 k3
  have F12 := fun_mk (st := top 6) l12 c12 k12
  have F24 := fun_mk (st := top 7) l24 c24 k24
  have F25 := fun_mk (st := top 8) l25 c25 k25
  have F26 := fun_mk (st := top 9) l26 c26 k26
  have F27 := fun_mk (st := top 10) l27 c27 k27
  refine ⟨?_, ?_, ?_, nd, ?_, ?_, fun x u h => PySem.W.mg_of X G h⟩
  · intro q hq
    cases hq
  · intro p hp
    simp only [tab, List.mem_cons, List.not_mem_nil, or_false] at hp
    rcases hp with rfl | rfl | rfl | rfl | rfl | rfl | rfl | rfl | rfl
    · exact ⟨_, _, F22, PySem.W.mg_of X G a22, fun _ us hl => match us, hl with | [_, _], _ => rfl⟩
    · exact ⟨_, _, F23, PySem.W.mg_of X G a23, fun _ us hl => match us, hl with | [_], _ => rfl⟩
    · exact ⟨_, _, F2, PySem.W.mg_of X G a2, fun _ us hl => match us, hl with | [_, _], _ => rfl⟩
    · exact ⟨_, _, F3, PySem.W.mg_of X G a3, fun _ us hl => match us, hl with | [_, _], _ => rfl⟩
    · exact ⟨_, _, F12, PySem.W.mg_of X G a12, fun _ us hl => match us, hl with | [_, _], _ => rfl⟩
    · exact ⟨_, _, F24, PySem.W.mg_of X G a24, fun _ us hl => match us, hl with | [_, _], _ => rfl⟩
    · exact ⟨_, _, F25, PySem.W.mg_of X G a25, fun _ us hl => match us, hl with | [_], _ => rfl⟩
    · exact ⟨_, _, F26, PySem.W.mg_of X G a26, fun _ us hl => match us, hl with | [_], _ => rfl⟩
    · exact ⟨_, _, F27, PySem.W.mg_of X G a27, fun _ us hl => match us, hl with | [_], _ => rfl⟩
  · intro p hp
    simp only [tab, List.mem_cons, List.not_mem_nil, or_false] at hp
    rcases hp with rfl | rfl | rfl | rfl | rfl | rfl | rfl | rfl | rfl
    · exact wf22
    · exact wf23
    · exact wf2
    · exact wf3
    · exact wf12
    · exact wf24
    · exact wf25
    · exact wf26
    · exact wf27
  · intro x d hx
    have hx := PySem.mem_of_lookup hx
    simp only [consts, List.mem_cons, List.not_mem_nil, or_false, Prod.mk.injEq] at hx
  · intro x hx
    simp only [blts, List.contains_eq_mem, List.mem_cons, List.not_mem_nil, or_false, decide_eq_true_eq] at hx
    rcases hx with rfl | rfl | rfl | rfl | rfl | rfl | rfl | rfl
    · exact PySem.W.mg_none_of X G z0
    · exact PySem.W.mg_none_of X G z1
    · exact PySem.W.mg_none_of X G z2
    · exact PySem.W.mg_none_of X G z3
    · exact PySem.W.mg_none_of X G z4
    · exact PySem.W.mg_none_of X G z5
    · exact PySem.W.mg_none_of X G z6
    · exact PySem.W.mg_none_of X G z7
end Lk03
end EV
namespace EV
open PySem PySem.Spec L2
open PyProof.Rows hiding St
namespace Lk03
theorem says (ns : List Int) (hn : ns.length ≤ 63) : W (callN ap aM aS tab.P 4 27 [(false, scrD ns)]) (fun r => r.1 = .bool true) :=
  law03 (n := 0) ⟨rfl, rfl, rfl, rfl, rfl, rfl, rfl, rfl, rfl⟩ hn
end Lk03
end EV

open PySem PySem.W PyProof.Rows in
set_option maxRecDepth 100000 in
set_option maxHeartbeats 0 in
theorem PySem.Challenge.cw_askedways_k03_neighbours_and_ways_holds : PySem.Challenge.rw_askedways_k03_neighbours_and_ways.Holds := by
  w_on; o_law; k_head; (case hw => w_witness2)
  k_fill
  refine EV.walkE (T := EV.Lk03.tab) (pats := EV.Lk03.pats) (consts := EV.Lk03.consts) (blts := EV.Lk03.blts) (L := 27) (D := EV.Lk03.d27) (x := "_law_script") (l := PySem.Challenge.rw_askedways_k03_neighbours_and_ways) (by decide) (by simp [EV.Lk03.tab]) rfl rfl EV.Lk03.says rfl rfl rfl (fun w h Y => PySem.W.kIn_of Y) rfl ?F
  case F =>
    intro w mg fa h KX G hmg
    refine' EV.Lk03.inTab KX G ?a22 ?l22 ?c22 ?k22 ?a23 ?l23 ?c23 ?k23 ?a2 ?l2 ?c2 ?k2 ?a3 ?l3 ?c3 ?k3 ?a12 ?l12 ?c12 ?k12 ?a24 ?l24 ?c24 ?k24 ?a25 ?l25 ?c25 ?k25 ?a26 ?l26 ?c26 ?k26 ?a27 ?l27 ?c27 ?k27 ?z0 ?z1 ?z2 ?z3 ?z4 ?z5 ?z6 ?z7
    (case a22 => k_is)
    (case l22 => k_is)
    (case c22 => k_is)
    (case k22 => k_is)
    (case a23 => k_is)
    (case l23 => k_is)
    (case c23 => k_is)
    (case k23 => k_is)
    (case a2 => k_is)
    (case l2 => k_is)
    (case c2 => k_is)
    (case k2 => k_is)
    (case a3 => k_is)
    (case l3 => k_is)
    (case c3 => k_is)
    (case k3 => k_is)
    (case a12 => k_is)
    (case l12 => k_is)
    (case c12 => k_is)
    (case k12 => k_is)
    (case a24 => k_is)
    (case l24 => k_is)
    (case c24 => k_is)
    (case k24 => k_is)
    (case a25 => k_is)
    (case l25 => k_is)
    (case c25 => k_is)
    (case k25 => k_is)
    (case a26 => k_is)
    (case l26 => k_is)
    (case c26 => k_is)
    (case k26 => k_is)
    (case a27 => k_is)
    (case l27 => k_is)
    (case c27 => k_is)
    (case k27 => k_is)
    (case z0 => k_is)
    (case z1 => k_is)
    (case z2 => k_is)
    (case z3 => k_is)
    (case z4 => k_is)
    (case z5 => k_is)
    (case z6 => k_is)
    (case z7 => k_is)
