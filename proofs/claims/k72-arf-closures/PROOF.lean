import PyProof.Rows.All
import Wide.All
import OpenK.AllK
import Wide.FinOn
import HandS.ForMost
import HandS.Flow
import HandS.SortInts
import HandS.Wide
import HandS.TupAny
import HandS.Deep
import HandS.IsInst
import HandS.Iter
import PyProof.EnumMake
import PyProof.Rows.TupIter
import HandS.AnyAll
import HandS.GenList
import HandS.TupLen
import HandS.WordsDict
import HandS.SetFor
import HandS.Strs
import HandS.HeadHook4
import HandS.HeadWalk
import HandS.HeadEnd
import HandS.DictComp
import HandS.Conv
import KE.KStateDown
import HandS.Head0
import HandS.Head1
import HandS.Head2
import PySem.Challenge.RW_gaphouse_k72_whole_arf_closures
set_option Elab.async false
set_option linter.all false
set_option maxRecDepth 100000
/-! the engine, part A: deep data, slots, the relation between a Python state and slots of data -/
namespace Eng
open PySem PySem.Spec PyProof.Rows L2

/-- deep data: what a Python value is worth -/
inductive D where
  | non
  | bl (b : Bool)
  | int (i : Int)
  | str (x : Str)
  | lst (xs : List D)
  | tup (xs : List D)
  | scr (xs : List D)
  | dK (kvs : List (Key × D))
  | dT (kvs : List (List Key × D))
  | dF (ks : List Int)

section
variable (K : PySem.W.Frag) (F : Hp)
mutual
/-- the value v is worth the datum d, all of it frozen in F -/
inductive Rep : D → V → Prop where
  | non : Rep .non .non
  | bl (b : Bool) : Rep (.bl b) (.bl b)
  | int (i : Int) : Rep (.int i) (.int i)
  | str (x : Str) : Rep (.str x) (.str x)
  | lst {xs : List D} {vs : List V} {a : Addr} (h : F a = some (.lst vs)) (r : Reps xs vs) : Rep (.lst xs) (.ref a)
  | scr {xs : List D} {vs : List V} {a : Addr} (h : SqL K F a vs) (r : Reps xs vs) : Rep (.scr xs) (.ref a)
  | tup {xs : List D} {vs : List V} {a : Addr} (h : F a = some (.tup vs)) (r : Reps xs vs) : Rep (.tup xs) (.ref a)
  | dK {kvs : List (Key × D)} {ws : List (Key × V)} {a : Addr} (h : F a = some (.dK ws)) (r : RepK kvs ws) : Rep (.dK kvs) (.ref a)
  | dT {kvs : List (List Key × D)} {ws : List (List Key × V)} {a : Addr} (h : F a = some (.dT ws)) (r : RepT kvs ws) : Rep (.dT kvs) (.ref a)
  | dF {ks : List Int} {ws : List (Key × V)} {a : Addr} {o : Obj} (h : F a = some (.frz o (.dK ws))) (hk : ws.map (·.1) = ks.map Sum.inl) : Rep (.dF ks) (.ref a)
inductive Reps : List D → List V → Prop where
  | nil : Reps [] []
  | cons {d : D} {v : V} {ds : List D} {vs : List V} (r : Rep d v) (t : Reps ds vs) : Reps (d :: ds) (v :: vs)
inductive RepK : List (Key × D) → List (Key × V) → Prop where
  | nil : RepK [] []
  | cons {k : Key} {d : D} {v : V} {ds : List (Key × D)} {vs : List (Key × V)} (r : Rep d v) (t : RepK ds vs) : RepK ((k, d) :: ds) ((k, v) :: vs)
inductive RepT : List (List Key × D) → List (List Key × V) → Prop where
  | nil : RepT [] []
  | cons {k : List Key} {d : D} {v : V} {ds : List (List Key × D)} {vs : List (List Key × V)} (r : Rep d v) (t : RepT ds vs) : RepT ((k, d) :: ds) ((k, v) :: vs)
end
end

section
variable {K : PySem.W.Frag} {F F' : Hp}
theorem sqT_up {a : Addr} {xs : List V} (e : Same F F') (h : SqT K F a xs) : SqT K F' a xs := by
  rcases h with (h | ⟨o, h⟩) | h
  · exact .inl (.inl (e _ _ h))
  · exact .inl (.inr ⟨o, e _ _ h⟩)
  · exact .inr h
mutual
theorem Rep.up (e : Same F F') : ∀ {d : D} {v : V}, Rep K F d v → Rep K F' d v
  | _, _, .non => .non
  | _, _, .bl b => .bl b
  | _, _, .int i => .int i
  | _, _, .str x => .str x
  | _, _, .lst h r => .lst (e _ _ h) (Reps.up e r)
  | _, _, .scr h r => .scr (e.seq h) (Reps.up e r)
  | _, _, .tup h r => .tup (e _ _ h) (Reps.up e r)
  | _, _, .dK h r => .dK (e _ _ h) (RepK.up e r)
  | _, _, .dT h r => .dT (e _ _ h) (RepT.up e r)
  | _, _, .dF h k => .dF (e _ _ h) k
theorem Reps.up (e : Same F F') : ∀ {ds : List D} {vs : List V}, Reps K F ds vs → Reps K F' ds vs
  | _, _, .nil => .nil
  | _, _, .cons r t => .cons (Rep.up e r) (Reps.up e t)
theorem RepK.up (e : Same F F') : ∀ {ds : List (Key × D)} {vs : List (Key × V)}, RepK K F ds vs → RepK K F' ds vs
  | _, _, .nil => .nil
  | _, _, .cons r t => .cons (Rep.up e r) (RepK.up e t)
theorem RepT.up (e : Same F F') : ∀ {ds : List (List Key × D)} {vs : List (List Key × V)}, RepT K F ds vs → RepT K F' ds vs
  | _, _, .nil => .nil
  | _, _, .cons r t => .cons (Rep.up e r) (RepT.up e t)
end
theorem Reps.len : ∀ {ds : List D} {vs : List V}, Reps K F ds vs → ds.length = vs.length
  | _, _, .nil => rfl
  | _, _, .cons _ t => congrArg (· + 1) t.len
theorem Reps.get : ∀ {ds : List D} {vs : List V} {i : Nat} {d : D}, Reps K F ds vs → ds[i]? = some d → ∃ v, vs[i]? = some v ∧ Rep K F d v
  | _, _, _, _, .nil, e => by simp at e
  | _, _, 0, _, .cons r _, e => by simp at e; subst e; exact ⟨_, rfl, r⟩
  | _, _, i + 1, _, .cons _ t, e => by simpa using Reps.get (i := i) t (by simpa using e)
theorem Reps.getV : ∀ {ds : List D} {vs : List V} {i : Nat} {v : V}, Reps K F ds vs → vs[i]? = some v → ∃ d, ds[i]? = some d ∧ Rep K F d v
  | _, _, _, _, .nil, e => by simp at e
  | _, _, 0, _, .cons r _, e => by simp at e; subst e; exact ⟨_, rfl, r⟩
  | _, _, i + 1, _, .cons _ t, e => by simpa using Reps.getV (i := i) t (by simpa using e)
theorem Reps.app : ∀ {ds es : List D} {vs ws : List V}, Reps K F ds vs → Reps K F es ws → Reps K F (ds ++ es) (vs ++ ws)
  | _, _, _, _, .nil, s => s
  | _, _, _, _, .cons r t, s => .cons r (Reps.app t s)
theorem Reps.set {d : D} {v : V} (r : Rep K F d v) : ∀ {ds : List D} {vs : List V} (i : Nat), Reps K F ds vs → Reps K F (ds.set i d) (vs.set i v)
  | _, _, _, .nil => .nil
  | _, _, 0, .cons _ t => .cons r t
  | _, _, i + 1, .cons q t => .cons q (Reps.set r i t)
theorem Reps.take : ∀ {ds : List D} {vs : List V} (n : Nat), Reps K F ds vs → Reps K F (ds.take n) (vs.take n)
  | _, _, 0, _ => .nil
  | _, _, _ + 1, .nil => .nil
  | _, _, n + 1, .cons r t => .cons r (Reps.take n t)
theorem Reps.drop : ∀ {ds : List D} {vs : List V} (n : Nat), Reps K F ds vs → Reps K F (ds.drop n) (vs.drop n)
  | _, _, 0, r => r
  | _, _, _ + 1, .nil => .nil
  | _, _, n + 1, .cons _ t => Reps.drop n t
theorem Reps.rev : ∀ {ds : List D} {vs : List V}, Reps K F ds vs → Reps K F ds.reverse vs.reverse
  | _, _, .nil => .nil
  | _, _, .cons r t => by simpa using (Reps.rev t).app (.cons r .nil)
theorem Reps.ofInts : ∀ (ns : List Int), Reps K F (ns.map D.int) (ns.map V.int)
  | [] => .nil
  | n :: r => .cons (.int n) (Reps.ofInts r)
theorem Reps.toInts : ∀ {ns : List Int} {vs : List V}, Reps K F (ns.map D.int) vs → vs = ns.map V.int
  | [], _, .nil => rfl
  | n :: r, _, .cons (.int _) t => by rw [Reps.toInts t]; rfl
theorem Reps.toBls : ∀ {bs : List Bool} {vs : List V}, Reps K F (bs.map D.bl) vs → vs = bs.map V.bl
  | [], _, .nil => rfl
  | n :: r, _, .cons (.bl _) t => by rw [Reps.toBls t]; rfl
theorem Reps.rep (n : Nat) {ds : List D} {vs : List V} (r : Reps K F ds vs) : Reps K F (List.replicate n ds).flatten (List.replicate n vs).flatten := by
  induction n with
  | zero => exact .nil
  | succ n ih => rw [List.replicate_succ, List.replicate_succ, List.flatten_cons, List.flatten_cons]; exact r.app ih
end

/-- a slot: without a value; frozen data; a list or dict of the slot's own -/
inductive Slot where
  | un
  | val (d : D)
  | own (d : D)
abbrev Env := List Slot

/-- an object that may be written: it stands at p, its items are frozen -/
def OwnAt (K : PySem.W.Frag) (F H : Hp) (p : Addr) : D → Prop
  | .lst ds => ∃ vs, H p = some (.lst vs) ∧ Reps K F ds vs
  | .dK ds => ∃ ws, H p = some (.dK ws) ∧ RepK K F ds ws
  | .dT ds => ∃ ws, H p = some (.dT ws) ∧ RepT K F ds ws
  | _ => False
/-- what may be read: its outermost object stands in H, the rest is frozen -/
def Brw (K : PySem.W.Frag) (F H : Hp) (d : D) (v : V) : Prop := match d with
  | .lst ds => ∃ a vs, v = .ref a ∧ H a = some (.lst vs) ∧ Reps K F ds vs
  | .dK ds => ∃ a ws, v = .ref a ∧ H a = some (.dK ws) ∧ RepK K F ds ws
  | .dT ds => ∃ a ws, v = .ref a ∧ H a = some (.dT ws) ∧ RepT K F ds ws
  | d => Rep K F d v

/-- the fixed part: the heap at the entry, the addresses handed in to be written, the tables of code, the values of pinned slots, what the locked slots' objects were -/
structure Bs where
  H0 : Hp
  F0 : Hp
  io : Addr → Prop
  σp : L2.St
  Hl : Nat → Option (Addr × HO)
structure Pk where
  pin : List Nat
  lock : List Nat
def isTbl : HO → Bool
  | .tbl _ => true
  | _ => false
/-- a code table, as GxR has it -/
def TabOk (H : Hp) (P : Addr) : Prop := ∃ ps : Array Value, H P = some (.tbl ps) ∧ TriplesOk ps.toList

/-- all that stood in H but at io stands in H' (a code table: some code table) -/
def Keep (io : Addr → Prop) (H H' : Hp) : Prop := ∀ a o, H a = some o → ¬ io a → if isTbl o = true then ∃ u, H' a = some u ∧ isTbl u = true else H' a = some o
theorem Keep.refl (io : Addr → Prop) (H : Hp) : Keep io H H := fun a o h _ => by
  by_cases t : isTbl o = true
  · rw [if_pos t]; exact ⟨o, h, t⟩
  · rw [if_neg t]; exact h
theorem Keep.none {io : Addr → Prop} {H H' : Hp} (k : Keep io H H') {p : Addr} (n : H' p = none) (i : ¬ io p) : H p = none := by
  cases e : H p with
  | none => rfl
  | some o =>
    have q := k p o e i
    by_cases t : isTbl o = true
    · rw [if_pos t] at q; obtain ⟨u, h, _⟩ := q; rw [n] at h; cases h
    · rw [if_neg t] at q; rw [n] at q; cases q
theorem Keep.then {io : Addr → Prop} {H H1 H2 : Hp} (k : Keep io H H1) (s : ∀ a o, H1 a = some o → ¬ io a → if isTbl o = true then ∃ u, H2 a = some u ∧ isTbl u = true else H2 a = some o) : Keep io H H2 := fun a o h i => by
  have q := k a o h i
  by_cases t : isTbl o = true
  · rw [if_pos t] at q ⊢
    obtain ⟨u, h1, h2⟩ := q
    have z := s a u h1 i
    rw [if_pos h2] at z; exact z
  · rw [if_neg t] at q ⊢
    have z := s a o q i
    rw [if_neg t] at z; exact z
structure Rel (K : PySem.W.Frag) (T : List Addr) (pk : Pk) (B : Bs) (ρ : Env) (F : Hp) (σ : L2.St) (H : Hp) : Prop where
  len : ρ.length = σ.length
  sub : Same F H
  notab : ∀ a o, F a = some o → isTbl o = false
  frs : ∀ a u, F a = some u → B.F0 a = some u ∨ B.io a ∨ B.H0 a = none
  val : ∀ (i : Nat) (d : D), ρ[i]? = some (Slot.val d) → ∃ v, σ[i]? = some (some v) ∧ Rep K F d v
  own : ∀ (i : Nat) (d : D), ρ[i]? = some (Slot.own d) → ∃ p, σ[i]? = some (some (V.ref p)) ∧ F p = none ∧ OwnAt K F H p d ∧ (B.io p ∨ B.H0 p = none)
  apart : ∀ (i j : Nat) (p : Addr) (d e : D), ρ[i]? = some (Slot.own d) → ρ[j]? = some (Slot.own e) → σ[i]? = some (some (V.ref p)) → σ[j]? = some (some (V.ref p)) → i = j
  frame : Keep B.io B.H0 H
  tab : ∀ P ∈ T, TabOk H P
  pin : ∀ i ∈ pk.pin, σ[i]? = B.σp[i]?
  lock : ∀ i ∈ pk.lock, ∀ q o, B.Hl i = some (q, o) → σ[i]? = some (some (V.ref q)) ∧ H q = some o ∧ ((∃ u, F q = some u) ∨ ∃ d, ρ[i]? = some (Slot.own d))
  lkd : ∀ i ∈ pk.lock, ∀ d, ρ[i]? = some (Slot.own d) → ∃ q o, B.Hl i = some (q, o)

/-- a fresh object, held by nobody yet -/
def Tmp (K : PySem.W.Frag) (B : Bs) (ρ : Env) (F : Hp) (σ : L2.St) (H : Hp) (d : D) (v : V) : Prop :=
  ∃ p, v = .ref p ∧ F p = none ∧ OwnAt K F H p d ∧ (B.io p ∨ B.H0 p = none) ∧ ∀ (i : Nat) (e : D), ρ[i]? = some (Slot.own e) → σ[i]? ≠ some (some (V.ref p))
def Res (K : PySem.W.Frag) (B : Bs) (ρ : Env) (F : Hp) (σ : L2.St) (H : Hp) (d : D) (o : Bool) (v : V) : Prop := if o = true then Tmp K B ρ F σ H d v else Rep K F d v

section
variable {K : PySem.W.Frag} {T : List Addr} {pk : Pk} {B : Bs} {ρ : Env} {F F' : Hp} {σ : L2.St} {H H' : Hp} {d : D} {v : V} {p : Addr} {i : Nat}

theorem OwnAt.brw (h : OwnAt K F H p d) : Brw K F H d (.ref p) := by
  cases d with
  | lst ds => obtain ⟨vs, e, r⟩ := h; exact ⟨p, vs, rfl, e, r⟩
  | dK ds => obtain ⟨vs, e, r⟩ := h; exact ⟨p, vs, rfl, e, r⟩
  | dT ds => obtain ⟨vs, e, r⟩ := h; exact ⟨p, vs, rfl, e, r⟩
  | _ => exact h.elim
theorem Rep.brw (s : Same F H) (h : Rep K F d v) : Brw K F H d v := by
  cases h with
  | lst h r => exact ⟨_, _, rfl, s _ _ h, r⟩
  | scr h r => exact .scr h r
  | dK h r => exact ⟨_, _, rfl, s _ _ h, r⟩
  | dT h r => exact ⟨_, _, rfl, s _ _ h, r⟩
  | dF h k => exact .dF h k
  | tup h r => exact .tup h r
  | non => exact .non
  | bl b => exact .bl b
  | int b => exact .int b
  | str b => exact .str b
theorem OwnAt.up (s : Same F F') (h : OwnAt K F H p d) : OwnAt K F' H p d := by
  cases d with
  | lst ds => obtain ⟨vs, e, r⟩ := h; exact ⟨vs, e, r.up s⟩
  | dK ds => obtain ⟨vs, e, r⟩ := h; exact ⟨vs, e, r.up s⟩
  | dT ds => obtain ⟨vs, e, r⟩ := h; exact ⟨vs, e, r.up s⟩
  | _ => exact h.elim
theorem OwnAt.at (e : H' p = H p) (h : OwnAt K F H p d) : OwnAt K F H' p d := by
  cases d with
  | lst ds => obtain ⟨vs, e1, r⟩ := h; exact ⟨vs, e.trans e1, r⟩
  | dK ds => obtain ⟨vs, e1, r⟩ := h; exact ⟨vs, e.trans e1, r⟩
  | dT ds => obtain ⟨vs, e1, r⟩ := h; exact ⟨vs, e.trans e1, r⟩
  | _ => exact h.elim
theorem OwnAt.ex (h : OwnAt K F H p d) : ∃ o, H p = some o ∧ isTbl o = false := by
  cases d with
  | lst ds => obtain ⟨vs, e1, r⟩ := h; exact ⟨_, e1, rfl⟩
  | dK ds => obtain ⟨vs, e1, r⟩ := h; exact ⟨_, e1, rfl⟩
  | dT ds => obtain ⟨vs, e1, r⟩ := h; exact ⟨_, e1, rfl⟩
  | _ => exact h.elim
/-- frozen: the object joins F -/
theorem OwnAt.freeze (n : F p = none) (h : OwnAt K F H p d) : ∃ o, H p = some o ∧ isTbl o = false ∧ Same F (upd F p o) ∧ Rep K (upd F p o) d (.ref p) := by
  have s : ∀ o, Same F (upd F p o) := fun o b u e => by rw [upd_ne (ne_of_none e n)]; exact e
  cases d with
  | lst ds => obtain ⟨vs, e1, r⟩ := h; exact ⟨_, e1, rfl, s _, .lst upd_same (r.up (s _))⟩
  | dK ds => obtain ⟨vs, e1, r⟩ := h; exact ⟨_, e1, rfl, s _, .dK upd_same (r.up (s _))⟩
  | dT ds => obtain ⟨vs, e1, r⟩ := h; exact ⟨_, e1, rfl, s _, .dT upd_same (r.up (s _))⟩
  | _ => exact h.elim

/-- more is frozen -/
theorem Rel.more (r : Rel K T pk B ρ F σ H) (s : Same F F') (s2 : Same F' H) (nt : ∀ a o, F' a = some o → isTbl o = false) (fr : ∀ a u, F' a = some u → F a = some u ∨ B.io a ∨ B.H0 a = none)
    (n : ∀ (i : Nat) (d : D) (p : Addr), ρ[i]? = some (Slot.own d) → σ[i]? = some (some (V.ref p)) → F' p = none) : Rel K T pk B ρ F' σ H :=
  ⟨r.len, s2, nt, fun a u e => (fr a u e).elim (fun z => r.frs a u z) .inr, fun i d e => let ⟨v, h1, h2⟩ := r.val i d e; ⟨v, h1, h2.up s⟩, fun i d e => let ⟨p, h1, _, h3, h4⟩ := r.own i d e; ⟨p, h1, n i d p e h1, h3.up s, h4⟩, r.apart, r.frame, r.tab, r.pin,
    fun i hi q o h1 => let ⟨a, b, c⟩ := r.lock i hi q o h1; ⟨a, b, c.imp (fun ⟨u, hu⟩ => ⟨u, s _ _ hu⟩) id⟩, r.lkd⟩
/-- a fresh object is frozen -/
theorem Rel.freezeT (r : Rel K T pk B ρ F σ H) (t : Tmp K B ρ F σ H d v) : ∃ F', Rel K T pk B ρ F' σ H ∧ Same F F' ∧ Rep K F' d v := by
  obtain ⟨p, rfl, n, h, ioh, ap⟩ := t
  obtain ⟨o, e, nt, s, rp⟩ := h.freeze n
  refine ⟨upd F p o, r.more s (fun b u q => ?_) (fun b u q => ?_) (fun b u q => ?_) (fun i e' q h1 h2 => ?_), s, rp⟩
  · by_cases hb : b = p
    · subst hb; rw [upd_same] at q; cases q; exact e
    · rw [upd_ne hb] at q; exact r.sub b u q
  · by_cases hb : b = p
    · subst hb; rw [upd_same] at q; cases q; exact nt
    · rw [upd_ne hb] at q; exact r.notab b u q
  · by_cases hb : b = p
    · subst hb; exact .inr ioh
    · rw [upd_ne hb] at q; exact .inl q
  · have hq : q ≠ p := fun z => ap i e' h1 (by rw [h2, z])
    rw [upd_ne hq]
    obtain ⟨p', h3, h4, _⟩ := r.own i e' h1
    rw [h2] at h3; cases h3
    exact h4
theorem Rel.freezeR {o : Bool} (r : Rel K T pk B ρ F σ H) (t : Res K B ρ F σ H d o v) : ∃ F', Rel K T pk B ρ F' σ H ∧ Same F F' ∧ Rep K F' d v := by
  cases o with
  | true => exact r.freezeT t
  | false => exact ⟨F, r, Same.refl F, t⟩
theorem get_set {α : Type} {l : List α} {i j : Nat} {x y : α} (h : (l.set i x)[j]? = some y) : (j = i ∧ y = x) ∨ (j ≠ i ∧ l[j]? = some y) := by
  by_cases e : j = i
  · subst e
    by_cases hl : j < l.length
    · rw [List.getElem?_set_self hl] at h; exact .inl ⟨rfl, (Option.some.inj h).symm⟩
    · rw [List.getElem?_eq_none (by simpa using hl)] at h; cases h
  · rw [List.getElem?_set_ne (Ne.symm e)] at h; exact .inr ⟨e, h⟩
theorem set_get {α : Type} {l : List α} {i j : Nat} {x y : α} (h : l[j]? = some y) (e : j ≠ i) : (l.set i x)[j]? = some y := by
  rw [List.getElem?_set_ne (Ne.symm e)]; exact h
/-- a slot's own object is frozen -/
theorem Rel.freezeS (r : Rel K T pk B ρ F σ H) (e : ρ[i]? = some (Slot.own d)) : ∃ F' v, Rel K T pk B (ρ.set i (.val d)) F' σ H ∧ Same F F' ∧ σ[i]? = some (some v) ∧ Rep K F' d v := by
  obtain ⟨p, h1, h2, h3, h4⟩ := r.own i d e
  obtain ⟨o, e1, nt, s, rp⟩ := h3.freeze h2
  refine ⟨upd F p o, .ref p, ⟨by rw [List.length_set]; exact r.len, fun b u q => ?_, fun b u q => ?_, fun b u q => ?_, fun j d' q => ?_, fun j d' q => ?_, fun j k p' d' e' q1 q2 q3 q4 => ?_, r.frame, r.tab, r.pin, fun j hj q o' z1 => ?_, fun j hj d' q => ?_⟩, s, h1, rp⟩
  · by_cases hb : b = p
    · subst hb; rw [upd_same] at q; cases q; exact e1
    · rw [upd_ne hb] at q; exact r.sub b u q
  · by_cases hb : b = p
    · subst hb; rw [upd_same] at q; cases q; exact nt
    · rw [upd_ne hb] at q; exact r.notab b u q
  · by_cases hb : b = p
    · subst hb; exact .inr h4
    · rw [upd_ne hb] at q; exact r.frs b u q
  · rcases get_set q with ⟨ej, q1⟩ | ⟨_, q1⟩
    · cases q1; rw [ej]; exact ⟨_, h1, rp⟩
    · obtain ⟨v, z1, z2⟩ := r.val j d' q1
      exact ⟨v, z1, z2.up s⟩
  · rcases get_set q with ⟨_, q1⟩ | ⟨nj, q1⟩
    · cases q1
    · obtain ⟨p', z1, z2, z3, z4⟩ := r.own j d' q1
      have hp : p' ≠ p := fun z => nj (r.apart j i p d' d q1 e (by rw [z1, z]) h1)
      exact ⟨p', z1, by rw [upd_ne hp]; exact z2, z3.up s, z4⟩
  · rcases get_set q1 with ⟨_, y1⟩ | ⟨_, y1⟩
    · cases y1
    · rcases get_set q2 with ⟨_, y2⟩ | ⟨_, y2⟩
      · cases y2
      · exact r.apart j k p' d' e' y1 y2 q3 q4
  · obtain ⟨a, b, c⟩ := r.lock j hj q o' z1
    refine ⟨a, b, ?_⟩
    rcases c with ⟨u, hu⟩ | ⟨d', hd⟩
    · exact .inl ⟨u, s _ _ hu⟩
    · by_cases ej : j = i
      · subst ej
        rw [h1] at a; cases a
        exact .inl ⟨o, upd_same⟩
      · exact .inr ⟨d', set_get hd ej⟩
  · rcases get_set q with ⟨_, q1⟩ | ⟨_, q1⟩
    · cases q1
    · exact r.lkd j hj d' q1
/-- the heap grows -/
theorem Rel.grow (r : Rel K T pk B ρ F σ H) (s : Same H H') : Rel K T pk B ρ F σ H' where
  len := r.len
  sub := r.sub.trans s
  notab := r.notab
  frs := r.frs
  val := r.val
  own := fun i d e => by
    obtain ⟨p, h1, h2, h3, h4⟩ := r.own i d e
    obtain ⟨o, e1, _⟩ := h3.ex
    exact ⟨p, h1, h2, h3.at ((s _ _ e1).trans e1.symm), h4⟩
  apart := r.apart
  frame := r.frame.then fun a o h _ => by
    by_cases t : isTbl o = true
    · rw [if_pos t]; exact ⟨o, s _ _ h, t⟩
    · rw [if_neg t]; exact s _ _ h
  tab := fun P hP => let ⟨ps, h1, h2⟩ := r.tab P hP; ⟨ps, s _ _ h1, h2⟩
  pin := r.pin
  lock := fun i hi q o h1 => let ⟨a, b, c⟩ := r.lock i hi q o h1; ⟨a, s _ _ b, c⟩
  lkd := r.lkd
theorem same_new {o : HO} (n : H p = none) : Same H (upd H p o) := fun b u e => by rw [upd_ne (ne_of_none e n)]; exact e
theorem Rel.alloc {o : HO} (r : Rel K T pk B ρ F σ H) (n : H p = none) : Rel K T pk B ρ F σ (upd H p o) := r.grow (same_new n)
theorem Rel.fresh0 (r : Rel K T pk B ρ F σ H) (n : H p = none) : B.io p ∨ B.H0 p = none := by
  by_cases h : B.io p
  · exact .inl h
  · exact .inr (r.frame.none n h)
theorem Rel.fnone (r : Rel K T pk B ρ F σ H) (n : H p = none) : F p = none := by
  cases e : F p with
  | none => rfl
  | some o => have := r.sub p o e; rw [n] at this; cases this
/-- a new list or dict, nobody's yet -/
theorem Rel.newOwn {o : HO} (r : Rel K T pk B ρ F σ H) (n : H p = none) (h : OwnAt K F (upd H p o) p d) : Rel K T pk B ρ F σ (upd H p o) ∧ Tmp K B ρ F σ (upd H p o) d (.ref p) :=
  ⟨r.alloc n, p, rfl, r.fnone n, h, r.fresh0 n, fun i e h1 h2 => by
    obtain ⟨q, z1, _, z3, _⟩ := r.own i e h1
    rw [h2] at z1; cases z1
    obtain ⟨o', e1, _⟩ := z3.ex
    rw [n] at e1; cases e1⟩
/-- a new object that is frozen from the start -/
theorem Rel.newFrz {o : HO} (r : Rel K T pk B ρ F σ H) (n : H p = none) (nt : isTbl o = false) : Rel K T pk B ρ (upd F p o) σ (upd H p o) ∧ Same F (upd F p o) := by
  have fn := r.fnone n
  have s : Same F (upd F p o) := same_new fn
  refine ⟨(r.alloc n).more s (fun b u q => ?_) (fun b u q => ?_) (fun b u q => ?_) (fun i e q h1 h2 => ?_), s⟩
  · by_cases hb : b = p
    · subst hb; rw [upd_same] at q ⊢; exact q
    · rw [upd_ne hb] at q ⊢; exact r.sub b u q
  · by_cases hb : b = p
    · subst hb; rw [upd_same] at q; cases q; exact nt
    · rw [upd_ne hb] at q; exact r.notab b u q
  · by_cases hb : b = p
    · subst hb; exact .inr (r.fresh0 n)
    · rw [upd_ne hb] at q; exact .inl q
  · obtain ⟨q', z1, z2, z3, _⟩ := r.own i e h1
    rw [h2] at z1; cases z1
    obtain ⟨o', e1, _⟩ := z3.ex
    rw [upd_ne (ne_of_none e1 n)]; exact z2
theorem Rel.newTup {ds : List D} {vs : List V} (r : Rel K T pk B ρ F σ H) (n : H p = none) (h : Reps K F ds vs) : ∃ F', Rel K T pk B ρ F' σ (upd H p (.tup vs)) ∧ Same F F' ∧ Rep K F' (.tup ds) (.ref p) := by
  obtain ⟨r', s⟩ := r.newFrz n (o := .tup vs) rfl
  exact ⟨_, r', s, .tup upd_same (h.up s)⟩
/-- a slot's own object is written -/
theorem Rel.write {d' : D} {o : HO} (r : Rel K T pk B ρ F σ H) (hi : ρ[i]? = some (Slot.own d)) (hp : σ[i]? = some (some (V.ref p))) (hl : i ∉ pk.lock) (h : OwnAt K F (upd H p o) p d') : Rel K T pk B (ρ.set i (.own d')) F σ (upd H p o) := by
  obtain ⟨p', z1, z2, z3, z4⟩ := r.own i d hi
  rw [hp] at z1; cases z1
  obtain ⟨op, e1, t1⟩ := z3.ex
  have il : i < ρ.length := by
    rw [List.getElem?_eq_some_iff] at hi
    exact hi.1
  refine ⟨by rw [List.length_set]; exact r.len, fun b u q => ?_, r.notab, r.frs, fun j d1 q => ?_, fun j d1 q => ?_, fun j k p1 d1 d2 q1 q2 q3 q4 => ?_, ?_, fun P hP => ?_, r.pin, fun j hj q o1 y1 => ?_, fun j hj d1 q => ?_⟩
  · have hb : b ≠ p := fun e => by rw [e, z2] at q; cases q
    rw [upd_ne hb]; exact r.sub b u q
  · rcases get_set q with ⟨_, q1⟩ | ⟨_, q1⟩
    · cases q1
    · exact r.val j d1 q1
  · rcases get_set q with ⟨ej, q1⟩ | ⟨nj, q1⟩
    · cases q1; rw [ej]; exact ⟨p, hp, z2, h, z4⟩
    · obtain ⟨p1, y1, y2, y3, y4⟩ := r.own j d1 q1
      have hb : p1 ≠ p := fun e => nj (r.apart j i p d1 d q1 hi (by rw [y1, e]) hp)
      exact ⟨p1, y1, y2, y3.at (upd_ne hb), y4⟩
  · have f : ∀ (j : Nat) (d1 : D), (ρ.set i (Slot.own d'))[j]? = some (Slot.own d1) → ∃ d2, ρ[j]? = some (Slot.own d2) := fun j d1 q => by
      rcases get_set q with ⟨ej, _⟩ | ⟨_, q1⟩
      · rw [ej]; exact ⟨d, hi⟩
      · exact ⟨d1, q1⟩
    obtain ⟨e1, f1⟩ := f j d1 q1
    obtain ⟨e2, f2⟩ := f k d2 q2
    exact r.apart j k p1 e1 e2 f1 f2 q3 q4
  · intro a u ha hio
    have hb : a ≠ p := fun e => by
      rcases z4 with z | z
      · exact hio (e ▸ z)
      · rw [e, z] at ha; cases ha
    rw [upd_ne hb]
    exact r.frame a u ha hio
  · obtain ⟨ps, y1, y2⟩ := r.tab P hP
    have hb : P ≠ p := fun e => by
      rw [e, e1] at y1; cases y1; cases t1
    exact ⟨ps, by rw [upd_ne hb]; exact y1, y2⟩
  · obtain ⟨a, b, c⟩ := r.lock j hj q o1 y1
    have nj : j ≠ i := fun e => hl (e ▸ hj)
    have hb : q ≠ p := fun e => by
      rcases c with ⟨u, hu⟩ | ⟨d1, hd⟩
      · rw [e, z2] at hu; cases hu
      · exact nj (r.apart j i p d1 d hd hi (by rw [a, e]) hp)
    refine ⟨a, by rw [upd_ne hb]; exact b, c.imp id fun ⟨d1, hd⟩ => ⟨d1, set_get hd nj⟩⟩
  · rcases get_set q with ⟨ej, _⟩ | ⟨_, q1⟩
    · exact absurd (ej ▸ hj) hl
    · exact r.lkd j hj d1 q1
/-- a slot gets a value -/
theorem Rel.setSlot (r : Rel K T pk B ρ F σ H) (hp : i ∉ pk.pin) (hl : i ∉ pk.lock) (s : Slot) (v : V) (hv : ∀ d, s = .val d → Rep K F d v) (ho : ∀ d, s = .own d → Tmp K B ρ F σ H d v) :
    Rel K T pk B (ρ.set i s) F (σ.set i (some v)) H := by
  have lt : ∀ {x : Slot}, (ρ.set i s)[i]? = some x → i < σ.length := fun {x} q => by
    have := (List.getElem?_eq_some_iff.mp q).1
    rw [List.length_set, r.len] at this
    exact this
  refine ⟨by rw [List.length_set, List.length_set]; exact r.len, r.sub, r.notab, r.frs, fun j d1 q => ?_, fun j d1 q => ?_, fun j k p1 d1 d2 q1 q2 q3 q4 => ?_, r.frame, r.tab, fun j hj => ?_, fun j hj q o y1 => ?_, fun j hj d1 q => ?_⟩
  · rcases get_set q with ⟨ej, q1⟩ | ⟨nj, q1⟩
    · rw [ej] at q ⊢
      exact ⟨v, by rw [List.getElem?_set_self (lt q)], hv d1 q1.symm⟩
    · obtain ⟨w, z1, z2⟩ := r.val j d1 q1
      exact ⟨w, set_get z1 nj, z2⟩
  · rcases get_set q with ⟨ej, q1⟩ | ⟨nj, q1⟩
    · rw [ej] at q ⊢
      obtain ⟨p, rfl, z1, z2, z3, _⟩ := ho d1 q1.symm
      exact ⟨p, by rw [List.getElem?_set_self (lt q)], z1, z2, z3⟩
    · obtain ⟨p, z1, z2⟩ := r.own j d1 q1
      exact ⟨p, set_get z1 nj, z2⟩
  · rcases get_set q1 with ⟨ej, y1⟩ | ⟨nj, y1⟩ <;> rcases get_set q2 with ⟨ek, y2⟩ | ⟨nk, y2⟩
    · rw [ej, ek]
    · obtain ⟨p, e, _, _, _, ap⟩ := ho d1 y1.symm
      rw [ej] at q1 q3
      rw [List.getElem?_set_self (lt q1)] at q3
      rw [List.getElem?_set_ne (Ne.symm nk)] at q4
      rw [e] at q3; cases q3
      exact absurd q4 (ap k d2 y2)
    · obtain ⟨p, e, _, _, _, ap⟩ := ho d2 y2.symm
      rw [ek] at q2 q4
      rw [List.getElem?_set_self (lt q2)] at q4
      rw [List.getElem?_set_ne (Ne.symm nj)] at q3
      rw [e] at q4; cases q4
      exact absurd q3 (ap j d1 y1)
    · rw [List.getElem?_set_ne (Ne.symm nj)] at q3
      rw [List.getElem?_set_ne (Ne.symm nk)] at q4
      exact r.apart j k p1 d1 d2 y1 y2 q3 q4
  · have nj : j ≠ i := fun e => hp (e ▸ hj)
    rw [List.getElem?_set_ne (Ne.symm nj)]
    exact r.pin j hj
  · have nj : j ≠ i := fun e => hl (e ▸ hj)
    rw [List.getElem?_set_ne (Ne.symm nj)]
    exact let ⟨a, b, c⟩ := r.lock j hj q o y1; ⟨a, b, c.imp id fun ⟨d, hd⟩ => ⟨d, set_get hd nj⟩⟩
  · rcases get_set q with ⟨ej, _⟩ | ⟨_, q1⟩
    · exact absurd (ej ▸ hj) hl
    · exact r.lkd j hj d1 q1
theorem Rel.setRes {o : Bool} (r : Rel K T pk B ρ F σ H) (hp : i ∉ pk.pin) (hl : i ∉ pk.lock) (t : Res K B ρ F σ H d o v) : Rel K T pk B (ρ.set i (if o then .own d else .val d)) F (σ.set i (some v)) H := by
  cases o with
  | true => exact r.setSlot hp hl _ v (fun d' e => nomatch e) fun d' e => by cases e; exact t
  | false => exact r.setSlot hp hl _ v (fun d' e => by cases e; exact t) fun d' e => nomatch e
/-- a slot is locked while it is walked -/
abbrev Pk.lk (pk : Pk) (j : Nat) : Pk := ⟨pk.pin, j :: pk.lock⟩
theorem Rel.lockOn {j : Nat} (r : Rel K T pk B ρ F σ H) (hj : j ∉ pk.lock) : ∃ B' : Bs, B'.H0 = B.H0 ∧ B'.io = B.io ∧ Rel K T (pk.lk j) B' ρ F σ H ∧
    ∀ ρ' F' σ' H', Rel K T (pk.lk j) B' ρ' F' σ' H' → Rel K T pk B ρ' F' σ' H' := by
  classical
  have hrec : ∃ L : Option (Addr × HO), (∀ q o, L = some (q, o) → σ[j]? = some (some (V.ref q)) ∧ H q = some o ∧ ∃ d, ρ[j]? = some (Slot.own d)) ∧ ∀ d, ρ[j]? = some (Slot.own d) → ∃ q o, L = some (q, o) := by
    by_cases h : ∃ d, ρ[j]? = some (Slot.own d)
    · obtain ⟨d, hd⟩ := h
      obtain ⟨p, h1, _, h3, _⟩ := r.own j d hd
      obtain ⟨o, h4, _⟩ := h3.ex
      exact ⟨some (p, o), ⟨fun q u e => (by cases e; exact ⟨h1, h4, d, hd⟩), fun _ _ => ⟨p, o, rfl⟩⟩⟩
    · exact ⟨none, ⟨fun _ _ e => (nomatch e), fun d hd => absurd ⟨d, hd⟩ h⟩⟩
  obtain ⟨L, hL1, hL2⟩ := hrec
  have nj : ∀ i ∈ pk.lock, i ≠ j := fun i hi e => hj (e ▸ hi)
  refine ⟨{ B with Hl := fun i => if i = j then L else B.Hl i }, rfl, rfl, ⟨r.len, r.sub, r.notab, r.frs, r.val, r.own, r.apart, r.frame, r.tab, r.pin, fun i hi q o e => ?_, fun i hi d e => ?_⟩, fun ρ' F' σ' H' r' => ⟨r'.len, r'.sub, r'.notab, r'.frs, r'.val, r'.own, r'.apart, r'.frame, r'.tab, r'.pin, fun i hi q o e => ?_, fun i hi d e => ?_⟩⟩
  · by_cases hij : i = j
    · have e' : L = some (q, o) := by simpa [hij] using e
      obtain ⟨h1, h2, h3⟩ := hL1 q o e'
      rw [hij]; exact ⟨h1, h2, .inr h3⟩
    · have e' : B.Hl i = some (q, o) := by simpa [hij] using e
      exact r.lock i ((List.mem_cons.mp hi).resolve_left hij) q o e'
  · by_cases hij : i = j
    · obtain ⟨q, o, h⟩ := hL2 d (hij ▸ e)
      exact ⟨q, o, by simpa [hij] using h⟩
    · obtain ⟨q, o, h⟩ := r.lkd i ((List.mem_cons.mp hi).resolve_left hij) d e
      exact ⟨q, o, by simpa [hij] using h⟩
  · exact r'.lock i (List.mem_cons_of_mem _ hi) q o (by simpa [nj i hi] using e)
  · obtain ⟨q, o, h⟩ := r'.lkd i (List.mem_cons_of_mem _ hi) d e
    exact ⟨q, o, by simpa [nj i hi] using h⟩
/-- the slots' own addresses -/
def OwnA (ρ : Env) (σ : L2.St) : Addr → Prop := fun p => ∃ (i : Nat) (d : D), ρ[i]? = some (Slot.own d) ∧ σ[i]? = some (some (V.ref p))
/-- the same from the heap as it is now -/
theorem Rel.rebase (r : Rel K T pk B ρ F σ H) : Rel K T pk ⟨H, F, OwnA ρ σ, B.σp, B.Hl⟩ ρ F σ H ∧
    ∀ ρ' F' σ' H', Rel K T pk ⟨H, F, OwnA ρ σ, B.σp, B.Hl⟩ ρ' F' σ' H' → Rel K T pk B ρ' F' σ' H' := by
  have ownB : ∀ {p : Addr}, OwnA ρ σ p → B.io p ∨ B.H0 p = none := fun {p} ⟨i, d, h1, h2⟩ => by
    obtain ⟨q, z1, _, _, z4⟩ := r.own i d h1
    rw [h2] at z1; cases z1
    exact z4
  refine ⟨⟨r.len, r.sub, r.notab, fun _ _ e => .inl e, r.val, fun i d e => ?_, r.apart, Keep.refl _ _, r.tab, r.pin, r.lock, r.lkd⟩, fun ρ' F' σ' H' r' => ⟨r'.len, r'.sub, r'.notab, fun a u e => ?_, r'.val, fun i d e => ?_, r'.apart, ?_, r'.tab, r'.pin, r'.lock, r'.lkd⟩⟩
  · obtain ⟨p, h1, h2, h3, _⟩ := r.own i d e
    exact ⟨p, h1, h2, h3, .inl ⟨i, d, e, h1⟩⟩
  · rcases r'.frs a u e with z | z | z
    · exact r.frs a u z
    · exact .inr (ownB z)
    · exact .inr (r.fresh0 z)
  · obtain ⟨p, h1, h2, h3, h4⟩ := r'.own i d e
    refine ⟨p, h1, h2, h3, ?_⟩
    rcases h4 with h4 | h4
    · exact ownB h4
    · exact r.fresh0 h4
  · intro a o ha hio
    have nq : ¬ OwnA ρ σ a := fun q => (ownB q).elim hio fun z => by rw [z] at ha; cases ha
    have h1 := r.frame a o ha hio
    by_cases t : isTbl o = true
    · rw [if_pos t] at h1 ⊢
      obtain ⟨u, h2, h3⟩ := h1
      have h4 := r'.frame a u h2 nq
      rw [if_pos h3] at h4
      exact h4
    · rw [if_neg t] at h1 ⊢
      have h4 := r'.frame a o h1 nq
      rw [if_neg t] at h4
      exact h4
/-- a slot's value is forgotten -/
theorem Rel.unset (r : Rel K T pk B ρ F σ H) (hp : i ∉ pk.pin) (hl : i ∉ pk.lock) : Rel K T pk B (ρ.set i .un) F (σ.set i none) H := by
  have f : ∀ {j : Nat} {s : Slot}, (ρ.set i Slot.un)[j]? = some s → s ≠ .un → j ≠ i ∧ ρ[j]? = some s := fun {j s} q ns => by
    rcases get_set q with ⟨_, q⟩ | q
    · exact absurd q ns
    · exact q
  have g : ∀ {j : Nat}, j ≠ i → (σ.set i none)[j]? = σ[j]? := fun {j} h => List.getElem?_set_ne (Ne.symm h)
  refine ⟨by rw [List.length_set, List.length_set]; exact r.len, r.sub, r.notab, r.frs, fun j d q => ?_, fun j d q => ?_, fun j k p d e q1 q2 q3 q4 => ?_, r.frame, r.tab, fun j hj => ?_, fun j hj q o y => ?_, fun j hj d q => r.lkd j hj d (f q (fun z => nomatch z)).2⟩
  · obtain ⟨n, q⟩ := f q (fun z => nomatch z)
    rw [g n]; exact r.val j d q
  · obtain ⟨n, q⟩ := f q (fun z => nomatch z)
    rw [g n]; exact r.own j d q
  · obtain ⟨n1, q1⟩ := f q1 (fun z => nomatch z)
    obtain ⟨n2, q2⟩ := f q2 (fun z => nomatch z)
    rw [g n1] at q3
    rw [g n2] at q4
    exact r.apart j k p d e q1 q2 q3 q4
  · rw [g fun e => hp (e ▸ hj)]; exact r.pin j hj
  · have nj : j ≠ i := fun e => hl (e ▸ hj)
    obtain ⟨a, b, c⟩ := r.lock j hj q o y
    rw [g nj]
    exact ⟨a, b, c.imp id fun ⟨d, hd⟩ => ⟨d, set_get hd nj⟩⟩
/-- several of them -/
def wipeE : List Nat → Env → Env
  | [], ρ => ρ
  | v :: vs, ρ => (wipeE vs ρ).set v .un
theorem Rel.wipe (r : Rel K T pk B ρ F σ H) : ∀ (vs : List Nat), (∀ v ∈ vs, v ∉ pk.pin ∧ v ∉ pk.lock) → Rel K T pk B (wipeE vs ρ) F (L2.wipe σ vs) H
  | [], _ => r
  | v :: vs, h => (Rel.wipe r vs fun u hu => h u (List.mem_cons_of_mem _ hu)).unset (h v List.mem_cons_self).1 (h v List.mem_cons_self).2
theorem wipe_at {σ : L2.St} {i : Nat} : ∀ {vs : List Nat}, i ∉ vs → (L2.wipe σ vs)[i]? = σ[i]?
  | [], _ => rfl
  | v :: vs, h => by
    show ((L2.wipe σ vs).set v none)[i]? = _
    rw [List.getElem?_set_ne (fun e : v = i => h (by rw [e]; exact List.mem_cons_self))]
    exact wipe_at fun m => h (List.mem_cons_of_mem _ m)
/-- the slots as they were ahead of a comprehension -/
def restE (old : Env) : List Nat → Env → Env
  | [], ρ => ρ
  | v :: vs, ρ => (restE old vs ρ).set v (old.getD v .un)
theorem restE_len (old : Env) : ∀ (vs : List Nat) (ρ : Env), (restE old vs ρ).length = ρ.length
  | [], _ => rfl
  | v :: vs, ρ => by show ((restE old vs ρ).set v _).length = _; rw [List.length_set]; exact restE_len old vs ρ
theorem restE_get {old : Env} {s : Slot} {i : Nat} : ∀ {vs : List Nat} {ρ : Env}, (restE old vs ρ)[i]? = some s → (i ∈ vs ∧ s = old.getD i .un) ∨ (i ∉ vs ∧ ρ[i]? = some s)
  | [], ρ, h => .inr ⟨by simp, h⟩
  | v :: vs, ρ, h => by
    rcases get_set h with ⟨e1, e2⟩ | ⟨e1, e2⟩
    · exact .inl ⟨by simp [e1], by rw [e1]; exact e2⟩
    · rcases restE_get e2 with ⟨a, b⟩ | ⟨a, b⟩
      · exact .inl ⟨List.mem_cons_of_mem _ a, b⟩
      · exact .inr ⟨by simp [a, e1], b⟩
theorem restE_out {old : Env} {s : Slot} {i : Nat} : ∀ {vs : List Nat} {ρ : Env}, i ∉ vs → ρ[i]? = some s → (restE old vs ρ)[i]? = some s
  | [], ρ, _, h => h
  | v :: vs, ρ, n, h => set_get (restE_out (fun m => n (List.mem_cons_of_mem _ m)) h) fun e => n (e ▸ List.mem_cons_self)
def notOwn : Option Slot → Bool
  | some (.own _) => false
  | _ => true
theorem Rel.rest {ρ2 : Env} {F2 : Hp} {H2 : Hp} {vs : List Nat} (r : Rel K T pk B ρ F σ H) (r2 : Rel K T pk B ρ2 F2 (L2.wipe σ vs) H2) (s : Same F F2) (hn : ∀ v ∈ vs, notOwn ρ[v]? = true) (hv : ∀ v ∈ vs, v ∉ pk.pin ∧ v ∉ pk.lock) :
    Rel K T pk B (restE ρ vs ρ2) F2 σ H2 := by
  have oldv : ∀ {i : Nat} {d : D}, i ∈ vs → Slot.val d = ρ.getD i .un → ρ[i]? = some (Slot.val d) := fun {i d} _ e => by
    rw [List.getD_eq_getElem?_getD] at e
    cases q : ρ[i]? with
    | none => rw [q] at e; cases e
    | some s => rw [q] at e; exact congrArg some e.symm
  have oldo : ∀ {i : Nat} {d : D}, i ∈ vs → Slot.own d = ρ.getD i .un → False := fun {i d} hi e => by
    rw [List.getD_eq_getElem?_getD] at e
    have z := hn i hi
    cases q : ρ[i]? with
    | none => rw [q] at e; cases e
    | some s =>
      rw [q] at e z
      have e' : Slot.own d = s := e
      subst e'
      cases z
  have own2 : ∀ {i : Nat} {d : D}, (restE ρ vs ρ2)[i]? = some (Slot.own d) → i ∉ vs ∧ ρ2[i]? = some (Slot.own d) := fun {i d} q => by
    rcases restE_get q with ⟨a, b⟩ | q
    · exact (oldo a b).elim
    · exact q
  refine ⟨by rw [restE_len, r2.len, wipe_length], r2.sub, r2.notab, r2.frs, fun i d q => ?_, fun i d q => ?_, fun i j p d e q1 q2 q3 q4 => ?_, r2.frame, r2.tab, fun i hi => ?_, fun i hi q o y => ?_, fun i hi d q => r2.lkd i hi d (own2 q).2⟩
  · rcases restE_get q with ⟨a, b⟩ | ⟨a, b⟩
    · obtain ⟨v, h1, h2⟩ := r.val i d (oldv a b)
      exact ⟨v, h1, h2.up s⟩
    · obtain ⟨v, h1, h2⟩ := r2.val i d b
      rw [wipe_at a] at h1
      exact ⟨v, h1, h2⟩
  · obtain ⟨a, b⟩ := own2 q
    obtain ⟨p, h1, h2⟩ := r2.own i d b
    rw [wipe_at a] at h1
    exact ⟨p, h1, h2⟩
  · obtain ⟨a1, b1⟩ := own2 q1
    obtain ⟨a2, b2⟩ := own2 q2
    exact r2.apart i j p d e b1 b2 (by rw [wipe_at a1]; exact q3) (by rw [wipe_at a2]; exact q4)
  · have h := r2.pin i hi
    rw [wipe_at fun m => (hv i m).1 hi] at h
    exact h
  · have ni : i ∉ vs := fun m => (hv i m).2 hi
    obtain ⟨a, b, c⟩ := r2.lock i hi q o y
    rw [wipe_at ni] at a
    exact ⟨a, b, c.imp id fun ⟨d, hd⟩ => ⟨d, restE_out ni hd⟩⟩
/-- what a slot that is read holds -/
theorem Rel.peek (r : Rel K T pk B ρ F σ H) (h : ρ[i]? = some (Slot.val d) ∨ ρ[i]? = some (Slot.own d)) : ∃ v, σ[i]? = some (some v) ∧ Brw K F H d v := by
  rcases h with h | h
  · obtain ⟨v, h1, h2⟩ := r.val i d h; exact ⟨v, h1, h2.brw r.sub⟩
  · obtain ⟨p, h1, _, h3, _⟩ := r.own i d h; exact ⟨_, h1, h3.brw⟩
end
end Eng
set_option Elab.async false
set_option linter.all false
set_option maxRecDepth 100000
/-! the engine, part B: judgements, operands, argument lists -/
namespace Eng
open PySem PySem.Spec PyProof.Rows L2

abbrev ME := Env → Option ((D × Bool) × Env)
abbrev MT := Env → Option (Bool × Env)

/-- the reading of a meaning -/
def tM (K : PySem.W.Frag) (T : List Addr) (pk : Pk) (m : ME) : TE := fun σ H Q => ∃ B ρ F d o ρ', Rel K T pk B ρ F σ H ∧ m ρ = some ((d, o), ρ') ∧
  ∀ v H' F', Rel K T pk B ρ' F' σ H' → Same F F' → Res K B ρ' F' σ H' d o v → Q v H'
def tMT (K : PySem.W.Frag) (T : List Addr) (pk : Pk) (m : MT) : TT := fun σ H Q => ∃ B ρ F b ρ', Rel K T pk B ρ F σ H ∧ m ρ = some (b, ρ') ∧
  ∀ H' F', Rel K T pk B ρ' F' σ H' → Same F F' → Q b H'
/-- an expression has the meaning m; a test -/
structure SE (X : Cx) (T : List Addr) (pk : Pk) (e : Expr) (m : ME) : Prop where
  pe : PE X e (tM X.K T pk m)
structure ST (X : Cx) (T : List Addr) (pk : Pk) (e : Expr) (m : MT) : Prop where
  pt : PT X e (tMT X.K T pk m)

/-- an operand: a slot that is looked at, or an expression -/
inductive Opd where
  | nm (i : Nat)
  | ex (m : ME)
def tO (K : PySem.W.Frag) (T : List Addr) (pk : Pk) : Opd → TE
  | .nm i => tVar i
  | .ex m => tM K T pk m
structure SO (X : Cx) (T : List Addr) (pk : Pk) (e : Expr) (o : Opd) : Prop where
  po : PE X e (tO X.K T pk o)

def rd : Option Slot → Option D
  | some (.val d) => some d
  | some (.own d) => some d
  | _ => none
theorem rd_some {s : Option Slot} {d : D} (h : rd s = some d) : s = some (.val d) ∨ s = some (.own d) := by
  cases s with
  | none => cases h
  | some s => cases s with
    | un => cases h
    | val e => cases h; exact .inl rfl
    | own e => cases h; exact .inr rfl
def pre : List Opd → Env → Option (List (Sum D Nat) × Env)
  | [], ρ => some ([], ρ)
  | .nm i :: os, ρ => if (rd ρ[i]?).isSome = true then (pre os ρ).map fun q => (.inr i :: q.1, q.2) else none
  | .ex m :: os, ρ => (m ρ).bind fun r => (pre os r.2).map fun q => (.inl r.1.1 :: q.1, q.2)
def fin (ρ : Env) : List (Sum D Nat) → Option (List D)
  | [] => some []
  | .inl d :: r => (fin ρ r).map fun q => d :: q
  | .inr i :: r => (rd ρ[i]?).bind fun d => (fin ρ r).map fun q => d :: q
/-- the operands' data, and the slots behind them -/
def ops (os : List Opd) (ρ : Env) : Option (List D × Env) := (pre os ρ).bind fun q => (fin q.2 q.1).map fun ds => (ds, q.2)

def tArgs (K : PySem.W.Frag) (T : List Addr) (pk : Pk) : List Opd → TA
  | [] => tNil
  | o :: os => tCons (tO K T pk o) (tArgs K T pk os)
inductive Brws (K : PySem.W.Frag) (F H : Hp) : List D → List V → Prop where
  | nil : Brws K F H [] []
  | cons {d : D} {v : V} {ds : List D} {vs : List V} (r : Brw K F H d v) (t : Brws K F H ds vs) : Brws K F H (d :: ds) (v :: vs)
inductive PreOk (K : PySem.W.Frag) (F : Hp) (σ : L2.St) : List (Sum D Nat) → List V → Prop where
  | nil : PreOk K F σ [] []
  | val {d : D} {v : V} {l : List (Sum D Nat)} {vs : List V} (r : Rep K F d v) (t : PreOk K F σ l vs) : PreOk K F σ (.inl d :: l) (v :: vs)
  | nm {i : Nat} {v : V} {l : List (Sum D Nat)} {vs : List V} (r : σ[i]? = some (some v)) (t : PreOk K F σ l vs) : PreOk K F σ (.inr i :: l) (v :: vs)

section
variable {K : PySem.W.Frag} {T : List Addr} {pk : Pk} {B : Bs} {σ : L2.St}
theorem pre_ok : ∀ (os : List Opd) {ρ ρ' : Env} {F H : Hp} {l : List (Sum D Nat)} {R : List V → Hp → Prop}, Rel K T pk B ρ F σ H → pre os ρ = some (l, ρ') →
    (∀ vs H' F', Rel K T pk B ρ' F' σ H' → Same F F' → PreOk K F' σ l vs → R vs H') → tArgs K T pk os σ H R
  | [], ρ, ρ', F, H, l, R, r, e, k => by
    simp only [pre, Option.some.injEq, Prod.mk.injEq] at e
    obtain ⟨rfl, rfl⟩ := e
    exact k [] H F r (Same.refl F) .nil
  | .nm i :: os, ρ, ρ', F, H, l, R, r, e, k => by
    simp only [pre] at e
    split at e
    · rename_i hs
      obtain ⟨d, hd⟩ := Option.isSome_iff_exists.mp hs
      obtain ⟨q, hq, e⟩ := Option.map_eq_some_iff.mp e
      cases e
      obtain ⟨v, hv, _⟩ := r.peek (rd_some hd)
      exact ⟨v, hv, pre_ok os r hq fun vs H' F' r' s p => k (v :: vs) H' F' r' s (.nm hv p)⟩
    · cases e
  | .ex m :: os, ρ, ρ', F, H, l, R, r, e, k => by
    simp only [pre] at e
    obtain ⟨⟨⟨d, o⟩, ρ1⟩, h1, e⟩ := Option.bind_eq_some_iff.mp e
    obtain ⟨q, hq, e⟩ := Option.map_eq_some_iff.mp e
    cases e
    refine ⟨B, ρ, F, d, o, ρ1, r, h1, fun v H1 F1 r1 s1 t1 => ?_⟩
    obtain ⟨F2, r2, s2, rp⟩ := r1.freezeR t1
    exact pre_ok os r2 hq fun vs H' F' r' s p => k (v :: vs) H' F' r' ((s1.trans s2).trans s) (.val (rp.up s) p)
theorem fin_ok : ∀ {l : List (Sum D Nat)} {ds : List D} {vs : List V} {ρ : Env} {F H : Hp}, Rel K T pk B ρ F σ H → fin ρ l = some ds → PreOk K F σ l vs → Brws K F H ds vs
  | [], ds, _, ρ, F, H, r, e, .nil => by
    simp only [fin, Option.some.injEq] at e
    subst e
    exact .nil
  | .inl d :: l, ds, _, ρ, F, H, r, e, .val rp t => by
    simp only [fin] at e
    obtain ⟨q, hq, e⟩ := Option.map_eq_some_iff.mp e
    subst e
    exact .cons (rp.brw r.sub) (fin_ok r hq t)
  | .inr i :: l, ds, _, ρ, F, H, r, e, .nm hv t => by
    simp only [fin] at e
    obtain ⟨d, hd, e⟩ := Option.bind_eq_some_iff.mp e
    obtain ⟨q, hq, e⟩ := Option.map_eq_some_iff.mp e
    subst e
    obtain ⟨w, hw, b⟩ := r.peek (rd_some hd)
    rw [hv] at hw; cases hw
    exact .cons b (fin_ok r hq t)
theorem args_ok {os : List Opd} {ρ ρ' : Env} {F H : Hp} {ds : List D} {R : List V → Hp → Prop} (r : Rel K T pk B ρ F σ H) (e : ops os ρ = some (ds, ρ'))
    (k : ∀ vs H' F', Rel K T pk B ρ' F' σ H' → Same F F' → Brws K F' H' ds vs → R vs H') : tArgs K T pk os σ H R := by
  obtain ⟨⟨l, ρ1⟩, h1, e⟩ := Option.bind_eq_some_iff.mp e
  obtain ⟨ds', h2, e⟩ := Option.map_eq_some_iff.mp e
  cases e
  exact pre_ok os r h1 fun vs H' F' r' s p => k vs H' F' r' s (fin_ok r' h2 p)
end

theorem pre_len : ∀ (os : List Opd) {ρ ρ' : Env} {l : List (Sum D Nat)}, pre os ρ = some (l, ρ') → l.length = os.length
  | [], ρ, ρ', l, h => by
    simp only [pre, Option.some.injEq, Prod.mk.injEq] at h
    rw [← h.1]; rfl
  | .nm i :: os, ρ, ρ', l, h => by
    simp only [pre] at h
    split at h
    · obtain ⟨q, hq, h⟩ := Option.map_eq_some_iff.mp h
      cases h
      exact congrArg (· + 1) (pre_len os hq)
    · cases h
  | .ex m :: os, ρ, ρ', l, h => by
    simp only [pre] at h
    obtain ⟨z, hz, h⟩ := Option.bind_eq_some_iff.mp h
    obtain ⟨q, hq, h⟩ := Option.map_eq_some_iff.mp h
    cases h
    exact congrArg (· + 1) (pre_len os hq)
theorem fin_len : ∀ {l : List (Sum D Nat)} {ρ : Env} {ds : List D}, fin ρ l = some ds → ds.length = l.length
  | [], ρ, ds, h => by
    simp only [fin, Option.some.injEq] at h
    rw [← h]; rfl
  | .inl d :: l, ρ, ds, h => by
    simp only [fin] at h
    obtain ⟨q, hq, h⟩ := Option.map_eq_some_iff.mp h
    cases h
    exact congrArg (· + 1) (fin_len hq)
  | .inr i :: l, ρ, ds, h => by
    simp only [fin] at h
    obtain ⟨y, hy, h⟩ := Option.bind_eq_some_iff.mp h
    obtain ⟨q, hq, h⟩ := Option.map_eq_some_iff.mp h
    cases h
    exact congrArg (· + 1) (fin_len hq)
theorem ops_len {os : List Opd} {ρ ρ' : Env} {ds : List D} (e : ops os ρ = some (ds, ρ')) : ds.length = os.length := by
  obtain ⟨⟨l, ρ1⟩, h1, e⟩ := Option.bind_eq_some_iff.mp e
  obtain ⟨ds', h2, e⟩ := Option.map_eq_some_iff.mp e
  cases e
  exact (fin_len h2).trans (pre_len os h1)
theorem tO_mono {K : PySem.W.Frag} {T : List Addr} {pk : Pk} {o : Opd} {σ : L2.St} {H : Hp} {Q Q' : VK} (i : ∀ v H, Q v H → Q' v H) (h : tO K T pk o σ H Q) : tO K T pk o σ H Q' := by
  cases o with
  | nm j => obtain ⟨v, h1, h2⟩ := h; exact ⟨v, h1, i _ _ h2⟩
  | ex m =>
    obtain ⟨B, ρ, F, d, o, ρ', r, e, k⟩ := h
    exact ⟨B, ρ, F, d, o, ρ', r, e, fun v H' F' r' s t => i _ _ (k v H' F' r' s t)⟩
theorem tArgs_one {K : PySem.W.Frag} {T : List Addr} {pk : Pk} {a : Opd} {σ : L2.St} {H : Hp} {R : VK} (h : tArgs K T pk [a] σ H fun vs H2 => ∃ x, vs = [x] ∧ R x H2) : tO K T pk a σ H R :=
  tO_mono (fun v H ⟨x, e, q⟩ => by cases e; exact q) h
theorem tArgs_two {K : PySem.W.Frag} {T : List Addr} {pk : Pk} {a b : Opd} {σ : L2.St} {H : Hp} {R : V → V → Hp → Prop} (h : tArgs K T pk [a, b] σ H fun vs H2 => ∃ x y, vs = [x, y] ∧ R x y H2) :
    tO K T pk a σ H fun x H1 => tO K T pk b σ H1 fun y H2 => R x y H2 :=
  tO_mono (fun v H h => tO_mono (fun w H ⟨x, y, e, q⟩ => by cases e; exact q) h) h

section
variable {X : Cx} {T : List Addr} {pk : Pk} {e a b : Expr} {es : List Expr} {m : ME} {o oa ob : Opd} {os : List Opd} {pos : Pos}
theorem pe_weak {t t' : TE} (h : PE X e t) (i : ∀ σ H Q, t' σ H Q → t σ H Q) : PE X e t' := ⟨fun pins s σ H Q I q => h.run pins s σ H Q I (i σ H Q q)⟩
theorem pt_weak {t t' : TT} (h : PT X e t) (i : ∀ σ H Q, t' σ H Q → t σ H Q) : PT X e t' := ⟨fun pins s σ H Q I q => h.run pins s σ H Q I (i σ H Q q)⟩
/-- a rule, from the hand layer's -/
theorem se_of {t : TE} (h : PE X e t) (i : ∀ σ H Q B ρ F d o ρ', Rel X.K T pk B ρ F σ H → m ρ = some ((d, o), ρ') →
    (∀ v H' F', Rel X.K T pk B ρ' F' σ H' → Same F F' → Res X.K B ρ' F' σ H' d o v → Q v H') → t σ H Q) : SE X T pk e m :=
  ⟨pe_weak h fun σ H Q ⟨B, ρ, F, d, o, ρ', r, h1, k⟩ => i σ H Q B ρ F d o ρ' r h1 k⟩
theorem st_of {t : TT} {m : MT} (h : PT X e t) (i : ∀ σ H Q B ρ F b ρ', Rel X.K T pk B ρ F σ H → m ρ = some (b, ρ') →
    (∀ H' F', Rel X.K T pk B ρ' F' σ H' → Same F F' → Q b H') → t σ H Q) : ST X T pk e m :=
  ⟨pt_weak h fun σ H Q ⟨B, ρ, F, b, ρ', r, h1, k⟩ => i σ H Q B ρ F b ρ' r h1 k⟩

theorem so_ex (h : SE X T pk e m) : SO X T pk e (.ex m) := ⟨h.pe⟩
theorem so_nm (i : Nat) {x : Str} (hN : X.N[i]? = some x := by rfl) (hv : Vis X.env.scope x := by first | exact Or.inl rfl | exact Or.inr (Or.inl rfl) | exact Or.inr (Or.inr rfl)) (hd : (x == ("__debug__" : Str)) = false := by decide)
    (hcd : (x == ("__classdict__" : Str)) = false := by decide) : SO X T pk (.Name x pos) (.nm i) := ⟨pe_var hN hv hd hcd⟩
structure SA (X : Cx) (T : List Addr) (pk : Pk) (es : List Expr) (os : List Opd) : Prop where
  pa : PA X es (tArgs X.K T pk os)
theorem sa_nil : SA X T pk [] [] := ⟨pa_nil⟩
theorem sa_cons (ha : SO X T pk e o) (hr : SA X T pk es os) (hs : starEach (e :: es) X.env = (false, eval e X.env) :: starEach es X.env := by rfl) : SA X T pk (e :: es) (o :: os) :=
  ⟨pa_cons ha.po hr.pa hs⟩

/-- constants -/
def mC (d : D) : ME := fun ρ => some ((d, false), ρ)
theorem se_int {i : Int} {j} : SE X T pk (.Constant (.int i) j pos) (mC (.int i)) := se_of pe_int fun σ H Q B ρ F d o ρ' r h k => by
  cases h; exact k _ H F r (Same.refl F) (.int i)
theorem se_bl {b : Bool} {j} : SE X T pk (.Constant (.bool b) j pos) (mC (.bl b)) := se_of pe_bl fun σ H Q B ρ F d o ρ' r h k => by
  cases h; exact k _ H F r (Same.refl F) (.bl b)
theorem se_non {j} : SE X T pk (.Constant .none j pos) (mC .non) := se_of pe_non fun σ H Q B ρ F d o ρ' r h k => by
  cases h; exact k _ H F r (Same.refl F) .non
theorem se_str {x : Str} {j} : SE X T pk (.Constant (.str x) j pos) (mC (.str x)) := se_of pe_str fun σ H Q B ρ F d o ρ' r h k => by
  cases h; exact k _ H F r (Same.refl F) (.str x)
/-- a module's whole number -/
theorem se_gint {x : Str} {i : Int} {t : Tok} (hg : Gl X x) (hm : X.mg x = some (.int i t)) (hd : (x == ("__debug__" : Str)) = false := by decide) : SE X T pk (.Name x pos) (mC (.int i)) :=
  se_of (pe_glob hg hm (v := .int i) ⟨t, rfl⟩ hd) fun σ H Q B ρ F d o ρ' r h k => by
    cases h; exact k _ H F r (Same.refl F) (.int i)

/-- a slot as a value: an own object is frozen by it -/
def mVar (i : Nat) : ME := fun ρ => match ρ[i]? with
  | some (.val d) => some ((d, false), ρ)
  | some (.own d) => some ((d, false), ρ.set i (.val d))
  | _ => none
theorem se_var (i : Nat) {x : Str} (hN : X.N[i]? = some x := by rfl) (hv : Vis X.env.scope x := by first | exact Or.inl rfl | exact Or.inr (Or.inl rfl) | exact Or.inr (Or.inr rfl)) (hd : (x == ("__debug__" : Str)) = false := by decide)
    (hcd : (x == ("__classdict__" : Str)) = false := by decide) : SE X T pk (.Name x pos) (mVar i) := by
  refine se_of (pe_var hN hv hd hcd) fun σ H Q B ρ F d o ρ' r h k => ?_
  unfold mVar at h
  split at h
  · rename_i d' e
    cases h
    obtain ⟨v, h1, h2⟩ := r.val i _ e
    exact ⟨v, h1, k v H F r (Same.refl F) h2⟩
  · rename_i d' e
    cases h
    obtain ⟨F', v, r', s, h1, h2⟩ := r.freezeS e
    exact ⟨v, h1, k v H F' r' s h2⟩
  · cases h
/-- an operand as a value -/
def mOpd : Opd → ME
  | .nm i => mVar i
  | .ex m => m

/-- two operands -/
theorem two_ok {R : V → V → Hp → Prop} {B : Bs} {ρ ρ' : Env} {F H : Hp} {σ : L2.St} {ds : List D} (r : Rel X.K T pk B ρ F σ H) (e : ops [oa, ob] ρ = some (ds, ρ'))
    (k : ∀ da db x y H' F', ds = [da, db] → Rel X.K T pk B ρ' F' σ H' → Same F F' → Brw X.K F' H' da x → Brw X.K F' H' db y → R x y H') : tO X.K T pk oa σ H fun x H1 => tO X.K T pk ob σ H1 fun y H2 => R x y H2 := by
  obtain ⟨da, db, rfl⟩ : ∃ da db, ds = [da, db] := by
    have h := ops_len e
    match ds, h with
    | [da, db], _ => exact ⟨da, db, rfl⟩
  exact args_ok (R := fun vs H2 => ∃ x y, vs = [x, y] ∧ R x y H2) r e (fun vs H' F' r' s b => by
    cases b with
    | cons b1 t => cases t with
      | cons b2 t => cases t with
        | nil => exact ⟨_, _, rfl, k _ _ _ _ H' F' rfl r' s b1 b2⟩) |> tArgs_two
theorem one_ok {R : V → Hp → Prop} {B : Bs} {ρ ρ' : Env} {F H : Hp} {σ : L2.St} {ds : List D} (r : Rel X.K T pk B ρ F σ H) (e : ops [oa] ρ = some (ds, ρ'))
    (k : ∀ da x H' F', ds = [da] → Rel X.K T pk B ρ' F' σ H' → Same F F' → Brw X.K F' H' da x → R x H') : tO X.K T pk oa σ H R := by
  obtain ⟨da, rfl⟩ : ∃ da, ds = [da] := by
    have h := ops_len e
    match ds, h with
    | [da], _ => exact ⟨da, rfl⟩
  exact args_ok (R := fun vs H2 => ∃ x, vs = [x] ∧ R x H2) r e (fun vs H' F' r' s b => by
    cases b with
    | cons b1 t => cases t with
      | nil => exact ⟨_, rfl, k _ _ H' F' rfl r' s b1⟩) |> tArgs_one
end
end Eng
set_option Elab.async false
set_option linter.all false
set_option maxRecDepth 100000
/-! the engine, part C: operators, comparisons, tests -/
namespace Eng
open PySem PySem.Spec PyProof.Rows L2

/-! data as PyData, for == -/
mutual
def toPy : D → PyData
  | .non => .none
  | .bl b => .bool b
  | .int i => .int i
  | .str x => .str x
  | .lst xs => .list (toPys xs)
  | .tup xs => .tuple (toPys xs)
  | .scr xs => .list (toPys xs)
  | .dK _ => .dict []
  | .dT _ => .dict []
  | .dF _ => .dict []
def toPys : List D → List PyData
  | [] => []
  | d :: r => toPy d :: toPys r
end
def dok (d : D) : Bool := SeqAt.shaped (toPy d)
def deq (a b : D) : Bool := PyData.eqv (toPy a) (toPy b)
section
variable {K : PySem.W.Frag} {F H : Hp}
theorem nodict {xs : List (Key × D)} {d : D} (h : dok (.dK xs) = true) : False := by
  have h1 : (PyData.dict []).canLay0 = true := SeqAt.canLay_of_shaped h
  simp [PyData.canLay0] at h1
mutual
theorem Rep.dp (s : Same F H) : ∀ {d : D} {v : V}, Rep K F d v → (toPy d).canLay0 = true → Dp K H v (toPy d)
  | _, _, .non, _ => .non
  | _, _, .bl b, _ => .bl b
  | _, _, .int i, _ => .int i
  | _, _, .str x, _ => .str x
  | .lst xs, _, .lst h r, c => .lst (.of (s _ _ h)) (Reps.dp s r (by simpa [toPy, PyData.canLay0] using c))
  | .scr xs, _, .scr h r, c => .lst (s.seq h) (Reps.dp s r (by simpa [toPy, PyData.canLay0] using c))
  | .tup xs, _, .tup h r, c => .tup (.of (s _ _ h)) (Reps.dp s r (by simpa [toPy, PyData.canLay0] using c))
  | _, _, .dK _ _, c => by simp [toPy, PyData.canLay0] at c
  | _, _, .dT _ _, c => by simp [toPy, PyData.canLay0] at c
  | _, _, .dF _ _, c => by simp [toPy, PyData.canLay0] at c
theorem Reps.dp (s : Same F H) : ∀ {ds : List D} {vs : List V}, Reps K F ds vs → PyData.canLayAll0 (toPys ds) = true → DpAll K H vs (toPys ds)
  | _, _, .nil, _ => .nil
  | d :: ds, _, .cons r t, c => by
    simp only [toPys, PyData.canLayAll0, Bool.and_eq_true] at c
    exact .cons (Rep.dp s r c.1) (Reps.dp s t c.2)
end
theorem Brw.dp {d : D} {v : V} (s : Same F H) (b : Brw K F H d v) (c : dok d = true) : Dp K H v (toPy d) := by
  have c' := SeqAt.canLay_of_shaped c
  cases d with
  | lst ds =>
    obtain ⟨a, vs, rfl, h, r⟩ := b
    exact .lst (.of h) (Reps.dp s r (by simpa [toPy, PyData.canLay0] using c'))
  | dK ds => simp [toPy, PyData.canLay0] at c'
  | dT ds => simp [toPy, PyData.canLay0] at c'
  | dF ds => simp [toPy, PyData.canLay0] at c'
  | non => exact Rep.dp s b c'
  | bl x => exact Rep.dp s b c'
  | int x => exact Rep.dp s b c'
  | str x => exact Rep.dp s b c'
  | tup x => exact Rep.dp s b c'
  | scr x => exact Rep.dp s b c'
end

/-- a two-place operation by values -/
def R2Ok (X : Cx) (T : List Addr) (pk : Pk) (f : D → D → Option (D × Bool)) (r : R2) : Prop :=
  ∀ (B : Bs) (ρ : Env) (F : Hp) (σ : L2.St) (H : Hp) (da db d : D) (o : Bool) (x y : V) (Q : VK), Rel X.K T pk B ρ F σ H → f da db = some (d, o) → Brw X.K F H da x → Brw X.K F H db y →
    (∀ v H' F', Rel X.K T pk B ρ F' σ H' → Same F F' → Res X.K B ρ F' σ H' d o v → Q v H') → r x y H Q
def mBin (f : D → D → Option (D × Bool)) (a b : Opd) : ME := fun ρ => (ops [a, b] ρ).bind fun q => match q.1 with
  | [x, y] => (f x y).map fun r => (r, q.2)
  | _ => none
section
variable {X : Cx} {T : List Addr} {pk : Pk} {a b e : Expr} {oa ob : Opd} {pos : Pos} {f f1 f2 : D → D → Option (D × Bool)} {r r1 r2 : R2}
theorem se_tOp {e : Expr} (h : PE X e (tOp r (tO X.K T pk oa) (tO X.K T pk ob))) (hf : R2Ok X T pk f r) : SE X T pk e (mBin f oa ob) := by
  refine se_of h fun σ H Q B ρ F d o ρ' rel e k => ?_
  obtain ⟨⟨ds, ρ1⟩, h1, e⟩ := Option.bind_eq_some_iff.mp e
  refine two_ok rel h1 fun da db x y H' F' eds rel' s bx by' => ?_
  subst eds
  obtain ⟨⟨d', o'⟩, h2, e⟩ := Option.map_eq_some_iff.mp e
  cases e
  exact hf B _ F' σ H' da db d o x y Q rel' h2 bx by' fun v H2 F2 rel2 s2 t => k v H2 F2 rel2 (s.trans s2) t
theorem se_op {op : Operator} (ho : OpR X (binaryOp op) r) (hf : R2Ok X T pk f r) (ha : SO X T pk a oa) (hb : SO X T pk b ob) : SE X T pk (.BinOp a op b pos) (mBin f oa ob) :=
  se_tOp (pe_op ho ha.po hb.po) hf
theorem se_cmp {op : CmpOp} (ho : OpR X (compareOp op) r) (hf : R2Ok X T pk f r) (ha : SO X T pk a oa) (hb : SO X T pk b ob) (hm : behindInMarks op b = false := by first | rfl | exact nobehind _ (by decide) (by decide)) :
    SE X T pk (.Compare a [op] [b] pos) (mBin f oa ob) := se_tOp (pe_cmpR ho ha.po hb.po hm) hf
/-- one rule or the other -/
theorem opr_or {g : Value → Value → Sem Value} (h1 : OpR X g r1) (h2 : OpR X g r2) : OpR X g (fun x y H Q => r1 x y H Q ∨ r2 x y H Q) := by
  intro pins s σ H x y v u Q I rx ry h
  rcases h with h | h
  · exact h1 pins s σ H x y v u Q I rx ry h
  · exact h2 pins s σ H x y v u Q I rx ry h

/-! operations on data -/
def opAdd : D → D → Option (D × Bool)
  | .int i, .int j => some (.int (i + j), false)
  | .lst xs, .lst ys => if xs.length + ys.length ≤ sizeLine then some (.lst (xs ++ ys), true) else none
  | .tup xs, .tup ys => if xs.length + ys.length ≤ sizeLine then some (.tup (xs ++ ys), false) else none
  | _, _ => none
def opSub : D → D → Option (D × Bool)
  | .int i, .int j => some (.int (i - j), false)
  | _, _ => none
instance (i j : Int) : Decidable (CMul i j) := by unfold CMul; exact inferInstance
instance (i j : Int) : Decidable (CPow i j) := by unfold CPow; exact inferInstance
instance (i j : Int) : Decidable (CDivN i j) := by unfold CDivN; exact inferInstance
def opMul : D → D → Option (D × Bool)
  | .int i, .int j => if CMul i j then some (.int (i * j), false) else none
  | .lst xs, .int k => if -(2 ^ 63) ≤ k ∧ k < 2 ^ 63 ∧ xs.length * k.toNat ≤ sizeLine then some (.lst (List.replicate k.toNat xs).flatten, true) else none
  | _, _ => none
def opDiv : D → D → Option (D × Bool)
  | .int i, .int j => if CDivN i j then some (.int (i.fdiv j), false) else none
  | _, _ => none
def opMod : D → D → Option (D × Bool)
  | .int i, .int j => if j ≠ 0 then some (.int (i.fmod j), false) else none
  | _, _ => none
def opPow : D → D → Option (D × Bool)
  | .int i, .int j => if CPow i j then some (.int (i ^ j.toNat), false) else none
  | _, _ => none
def opCmp (p : Int → Int → Bool) : D → D → Option (D × Bool)
  | .int i, .int j => some (.bl (p i j), false)
  | _, _ => none
abbrev opLt := opCmp fun i j => decide (i < j)
abbrev opLe := opCmp fun i j => decide (i ≤ j)
abbrev opGt := opCmp fun i j => decide (i > j)
abbrev opGe := opCmp fun i j => decide (i ≥ j)
def opEq (a b : D) : Option (D × Bool) := if dok a = true ∧ dok b = true then some (.bl (deq a b), false) else none
def opNe (a b : D) : Option (D × Bool) := if dok a = true ∧ dok b = true then some (.bl (!deq a b), false) else none

theorem rep_int {K : PySem.W.Frag} {F H : Hp} {i : Int} {v : V} (h : Brw K F H (.int i) v) : v = .int i := by cases h; rfl
theorem rep_bl {K : PySem.W.Frag} {F H : Hp} {i : Bool} {v : V} (h : Brw K F H (.bl i) v) : v = .bl i := by cases h; rfl
theorem rep_tup {K : PySem.W.Frag} {F H : Hp} {ds : List D} {v : V} (h : Brw K F H (.tup ds) v) : ∃ a vs, v = .ref a ∧ F a = some (.tup vs) ∧ Reps K F ds vs := by cases h; exact ⟨_, _, rfl, by assumption, by assumption⟩
/-- a frozen result -/
theorem res_of {K : PySem.W.Frag} {B : Bs} {ρ : Env} {F : Hp} {σ : L2.St} {H : Hp} {d : D} {v : V} (h : Rep K F d v) : Res K B ρ F σ H d false v := by
  show if false = true then _ else _
  rw [if_neg Bool.false_ne_true]; exact h
theorem res_own {K : PySem.W.Frag} {B : Bs} {ρ : Env} {F : Hp} {σ : L2.St} {H : Hp} {d : D} {v : V} (h : Tmp K B ρ F σ H d v) : Res K B ρ F σ H d true v := by
  show if true = true then _ else _
  rw [if_pos rfl]; exact h

def rAddX (K : PySem.W.Frag) : R2 := fun x y H Q => (rI0 (fun i j => .int (i + j)) x y H Q ∨ rCat x y H Q) ∨ rCatA K x y H Q
theorem opX_add : OpR X (binaryOp .Add) (rAddX X.K) := opr_or (opr_or op_add op_cat) op_catA
theorem ok_add : R2Ok X T pk opAdd (rAddX X.K) := by
  intro B ρ F σ H da db d o x y Q rel e bx by' k
  unfold opAdd at e
  split at e
  · rename_i i j
    cases e
    refine .inl (.inl ⟨i, j, rep_int bx, rep_int by', k _ H F rel (Same.refl F) (res_of (.int _))⟩)
  · rename_i xs ys
    split at e
    · rename_i hz
      cases e
      obtain ⟨a, vs, rfl, ha, ra⟩ := bx
      obtain ⟨b, ws, rfl, hb, rb⟩ := by'
      refine .inl (.inr ⟨a, b, vs, ws, rfl, rfl, ha, hb, by rw [← ra.len, ← rb.len]; exact hz, fun p np => ?_⟩)
      obtain ⟨r', t⟩ := rel.newOwn np (d := .lst (xs ++ ys)) ⟨_, upd_same, ra.app rb⟩
      exact k _ _ F r' (Same.refl F) (res_own t)
    · cases e
  · rename_i xs ys
    split at e
    · rename_i hz
      cases e
      obtain ⟨a, vs, rfl, ha, ra⟩ := rep_tup bx
      obtain ⟨b, ws, rfl, hb, rb⟩ := rep_tup by'
      refine .inr ⟨a, b, vs, ws, rfl, rfl, .of (rel.sub _ _ ha), .of (rel.sub _ _ hb), by rw [← ra.len, ← rb.len]; exact hz, fun e0 => ?_, fun _ e0 => ?_, fun _ _ p np => ?_⟩
      · subst e0
        cases ra
        exact k _ H F rel (Same.refl F) (res_of (.tup hb rb))
      · subst e0
        cases rb
        rw [List.append_nil] at k
        exact k _ H F rel (Same.refl F) (res_of (.tup ha ra))
      · obtain ⟨F', r', s, rp⟩ := rel.newTup np (ra.app rb)
        exact k _ _ F' r' s (res_of rp)
    · cases e
  · cases e
theorem ok_sub : R2Ok X T pk opSub (rI0 fun i j => .int (i - j)) := by
  intro B ρ F σ H da db d o x y Q rel e bx by' k
  unfold opSub at e
  split at e
  · cases e
    exact ⟨_, _, rep_int bx, rep_int by', k _ H F rel (Same.refl F) (res_of (.int _))⟩
  · cases e
def rMulX : R2 := fun x y H Q => rI CMul (fun i j => .int (i * j)) x y H Q ∨ rRep x y H Q
theorem opX_mul : OpR X (binaryOp .Mult) rMulX := opr_or op_mul op_rep
theorem ok_mul : R2Ok X T pk opMul rMulX := by
  intro B ρ F σ H da db d o x y Q rel e bx by' k
  unfold opMul at e
  split at e
  · split at e
    · rename_i hc
      cases e
      exact .inl ⟨_, _, rep_int bx, rep_int by', hc, k _ H F rel (Same.refl F) (res_of (.int _))⟩
    · cases e
  · rename_i xs kk
    split at e
    · rename_i hc
      cases e
      obtain ⟨a, vs, rfl, ha, ra⟩ := bx
      refine .inr ⟨a, kk, vs, rfl, rep_int by', ha, hc.1, hc.2.1, by rw [← ra.len]; exact hc.2.2, fun p np => ?_⟩
      obtain ⟨r', t⟩ := rel.newOwn np (d := .lst (List.replicate kk.toNat xs).flatten) ⟨_, upd_same, ra.rep _⟩
      exact k _ _ F r' (Same.refl F) (res_own t)
    · cases e
  · cases e
theorem ok_div : R2Ok X T pk opDiv (rI CDivN fun i j => .int (i.fdiv j)) := by
  intro B ρ F σ H da db d o x y Q rel e bx by' k
  unfold opDiv at e
  split at e
  · split at e
    · rename_i hc
      cases e
      exact ⟨_, _, rep_int bx, rep_int by', hc, k _ H F rel (Same.refl F) (res_of (.int _))⟩
    · cases e
  · cases e
theorem ok_mod : R2Ok X T pk opMod (rI (fun _ j => j ≠ 0) fun i j => .int (i.fmod j)) := by
  intro B ρ F σ H da db d o x y Q rel e bx by' k
  unfold opMod at e
  split at e
  · split at e
    · rename_i hc
      cases e
      exact ⟨_, _, rep_int bx, rep_int by', hc, k _ H F rel (Same.refl F) (res_of (.int _))⟩
    · cases e
  · cases e
theorem ok_pow : R2Ok X T pk opPow (rI CPow fun i j => .int (i ^ j.toNat)) := by
  intro B ρ F σ H da db d o x y Q rel e bx by' k
  unfold opPow at e
  split at e
  · split at e
    · rename_i hc
      cases e
      exact ⟨_, _, rep_int bx, rep_int by', hc, k _ H F rel (Same.refl F) (res_of (.int _))⟩
    · cases e
  · cases e
theorem ok_cmp (p : Int → Int → Bool) : R2Ok X T pk (opCmp p) (rI0 fun i j => .bl (p i j)) := by
  intro B ρ F σ H da db d o x y Q rel e bx by' k
  unfold opCmp at e
  split at e
  · cases e
    exact ⟨_, _, rep_int bx, rep_int by', k _ H F rel (Same.refl F) (res_of (.bl _))⟩
  · cases e
theorem ok_eq : R2Ok X T pk opEq (rEqD X.K) := by
  intro B ρ F σ H da db d o x y Q rel e bx by' k
  unfold opEq at e
  split at e
  · rename_i hc
    cases e
    exact ⟨_, _, bx.dp rel.sub hc.1, by'.dp rel.sub hc.2, hc.1, hc.2, k _ H F rel (Same.refl F) (res_of (.bl _))⟩
  · cases e
theorem ok_ne : R2Ok X T pk opNe (rNeD X.K) := by
  intro B ρ F σ H da db d o x y Q rel e bx by' k
  unfold opNe at e
  split at e
  · rename_i hc
    cases e
    exact ⟨_, _, bx.dp rel.sub hc.1, by'.dp rel.sub hc.2, hc.1, hc.2, k _ H F rel (Same.refl F) (res_of (.bl _))⟩
  · cases e
end

section
variable {X : Cx} {T : List Addr} {pk : Pk} {a b c e : Expr} {oa ob : Opd} {pos : Pos}
theorem se_add (ha : SO X T pk a oa) (hb : SO X T pk b ob) : SE X T pk (.BinOp a .Add b pos) (mBin opAdd oa ob) := se_op opX_add ok_add ha hb
theorem se_sub (ha : SO X T pk a oa) (hb : SO X T pk b ob) : SE X T pk (.BinOp a .Sub b pos) (mBin opSub oa ob) := se_op op_sub ok_sub ha hb
theorem se_mul (ha : SO X T pk a oa) (hb : SO X T pk b ob) : SE X T pk (.BinOp a .Mult b pos) (mBin opMul oa ob) := se_op opX_mul ok_mul ha hb
theorem se_div (ha : SO X T pk a oa) (hb : SO X T pk b ob) : SE X T pk (.BinOp a .FloorDiv b pos) (mBin opDiv oa ob) := se_op op_fdivN ok_div ha hb
theorem se_mod (ha : SO X T pk a oa) (hb : SO X T pk b ob) : SE X T pk (.BinOp a .Mod b pos) (mBin opMod oa ob) := se_op op_modN ok_mod ha hb
theorem se_pow (ha : SO X T pk a oa) (hb : SO X T pk b ob) : SE X T pk (.BinOp a .Pow b pos) (mBin opPow oa ob) := se_op op_pow ok_pow ha hb
theorem se_lt (ha : SO X T pk a oa) (hb : SO X T pk b ob) : SE X T pk (.Compare a [.Lt] [b] pos) (mBin opLt oa ob) := se_cmp op_lt (ok_cmp _) ha hb
theorem se_le (ha : SO X T pk a oa) (hb : SO X T pk b ob) : SE X T pk (.Compare a [.LtE] [b] pos) (mBin opLe oa ob) := se_cmp op_le (ok_cmp _) ha hb
theorem se_gt (ha : SO X T pk a oa) (hb : SO X T pk b ob) : SE X T pk (.Compare a [.Gt] [b] pos) (mBin opGt oa ob) := se_cmp op_gt (ok_cmp _) ha hb
theorem se_ge (ha : SO X T pk a oa) (hb : SO X T pk b ob) : SE X T pk (.Compare a [.GtE] [b] pos) (mBin opGe oa ob) := se_cmp op_ge (ok_cmp _) ha hb
theorem se_eq {k : Nat} (hr : Room k X.A) (ha : SO X T pk a oa) (hb : SO X T pk b ob) : SE X T pk (.Compare a [.Eq] [b] pos) (mBin opEq oa ob) := se_cmp (op_eqD hr.units) ok_eq ha hb
theorem se_ne {k : Nat} (hr : Room k X.A) (ha : SO X T pk a oa) (hb : SO X T pk b ob) : SE X T pk (.Compare a [.NotEq] [b] pos) (mBin opNe oa ob) := se_cmp (op_neD hr.units) ok_ne ha hb
end
end Eng
set_option Elab.async false
set_option linter.all false
set_option maxRecDepth 100000
/-! the engine, part D: tests, and or not, items, slices, displays, dicts read -/
namespace Eng
open PySem PySem.Spec PyProof.Rows L2

/-- a datum's truth -/
def truth : D → Option Bool
  | .non => some false
  | .bl b => some b
  | .int i => some (i != 0)
  | .str x => if x.length ≤ sizeLine then some ((x.length : Int) != 0) else none
  | .lst xs => some (!xs.isEmpty)
  | .tup xs => some (!xs.isEmpty)
  | .scr xs => some (!xs.isEmpty)
  | .dK xs => some (!xs.isEmpty)
  | .dT _ => none
  | .dF _ => none
theorem reps_empty {K : PySem.W.Frag} {F : Hp} {ds : List D} {vs : List V} (r : Reps K F ds vs) : ds.isEmpty = vs.isEmpty := by cases r <;> rfl
theorem tru_of {K : PySem.W.Frag} {F H : Hp} {d : D} {v : V} {b : Bool} (s : Same F H) (h : Brw K F H d v) (e : truth d = some b) : TruV K v H b := by
  cases d with
  | non => cases h; cases e; rfl
  | bl x => cases h; cases e; rfl
  | int x => cases h; cases e; rfl
  | str x =>
    cases h
    simp only [truth] at e
    split at e
    · rename_i hz; cases e; exact ⟨hz, rfl⟩
    · cases e
  | lst xs => obtain ⟨a, vs, rfl, h1, r⟩ := h; cases e; exact .inl ⟨vs, .of h1, by rw [reps_empty r]⟩
  | tup xs => obtain ⟨a, vs, rfl, h1, r⟩ := rep_tup h; cases e; exact .inr (.inl ⟨vs, .of (s _ _ h1), by rw [reps_empty r]⟩)
  | scr xs => cases h with | scr h1 r => cases e; exact .inl ⟨_, s.seq h1, by rw [reps_empty r]⟩
  | dK xs =>
    obtain ⟨a, ws, rfl, h1, r⟩ := h
    cases e
    exact .inr (.inr ⟨ws, h1, by cases r <;> rfl⟩)
  | dT xs => cases e
  | dF xs => cases e
/-- a test of a truth value's expression; of any operand -/
def mB (m : ME) : MT := fun ρ => (m ρ).bind fun r => match r.1.1 with
  | .bl b => some (b, r.2)
  | _ => none
def mTr (o : Opd) : MT := fun ρ => (ops [o] ρ).bind fun q => match q.1 with
  | [d] => (truth d).map fun b => (b, q.2)
  | _ => none
def mAnd (a b : MT) : MT := fun ρ => (a ρ).bind fun q => if q.1 = true then b q.2 else some (false, q.2)
def mOr (a b : MT) : MT := fun ρ => (a ρ).bind fun q => if q.1 = true then some (true, q.2) else b q.2
def mNot (a : MT) : MT := fun ρ => (a ρ).map fun q => (!q.1, q.2)

section
variable {X : Cx} {T : List Addr} {pk : Pk} {a b c e : Expr} {rest : List Expr} {o oa ob oc : Opd} {m ma mb : ME} {t ta tb : MT} {pos : Pos} {f : D → D → Option (D × Bool)} {r : R2}
theorem res_bl {K : PySem.W.Frag} {B : Bs} {ρ : Env} {F : Hp} {σ : L2.St} {H : Hp} {b o : Bool} {v : V} (h : Res K B ρ F σ H (.bl b) o v) : v = .bl b := by
  unfold Res at h
  split at h
  · obtain ⟨p, _, _, q, _⟩ := h; exact q.elim
  · cases h; rfl
theorem st_tOp {op : CmpOp} (ho : OpR X (compareOp op) r) (hf : R2Ok X T pk f r) (ha : SO X T pk a oa) (hb : SO X T pk b ob) (hm : behindInMarks op b = false := by first | rfl | exact nobehind _ (by decide) (by decide)) :
    ST X T pk (.Compare a [op] [b] pos) (mB (mBin f oa ob)) := by
  refine st_of (pt_cmpR ho ha.po hb.po hm) fun σ H Q B ρ F bb ρ' rel e k => ?_
  obtain ⟨⟨⟨d, o⟩, ρ2⟩, h0, e⟩ := Option.bind_eq_some_iff.mp e
  obtain ⟨⟨ds, ρ1⟩, h1, h2⟩ := Option.bind_eq_some_iff.mp h0
  refine two_ok rel h1 fun da db x y H' F' eds rel' s bx by' => ?_
  subst eds
  obtain ⟨⟨d', o'⟩, h3, h4⟩ := Option.map_eq_some_iff.mp h2
  cases h4
  refine hf B _ F' σ H' da db d o x y _ rel' h3 bx by' fun v H2 F2 rel2 s2 t => ?_
  cases d with
  | bl b1 => cases e; exact ⟨_, res_bl t, k H2 F2 rel2 (s.trans s2)⟩
  | _ => cases e
/-- a test by truth; he: by intro _; rfl -/
theorem st_tru (ha : SO X T pk a o) (he : ∀ whole, isTrue a X.env whole = (do let v ← whole; standAt a.pos; holding [v] (truthy v)) := by intro _; rfl) : ST X T pk a (mTr o) := by
  refine st_of (pt_truth ha.po he) fun σ H Q B ρ F bb ρ' rel e k => ?_
  obtain ⟨⟨ds, ρ1⟩, h1, e⟩ := Option.bind_eq_some_iff.mp e
  refine one_ok rel h1 fun da x H' F' eds rel' s bx => ?_
  subst eds
  obtain ⟨b', h2, e⟩ := Option.map_eq_some_iff.mp e
  cases e
  exact ⟨_, tru_of rel'.sub bx h2, k H' F' rel' s⟩
structure SW (X : Cx) (T : List Addr) (pk : Pk) (e : Expr) (m : MT) : Prop where
  pw : PW X e (tMT X.K T pk m)
theorem pw_weak {t t' : TT} (h : PW X e t) (i : ∀ σ H Q, t' σ H Q → t σ H Q) : PW X e t' := ⟨fun wh pins s σ H Q I q => h.run wh pins s σ H Q I (i σ H Q q)⟩
theorem st_sw (h : SW X T pk e t) : ST X T pk e t := ⟨h.pw.pt⟩
theorem sw_and1 (h : ST X T pk a t) : SW X T pk (.BoolOp .And [a] pos) t := ⟨pw_and1 h.pt⟩
theorem sw_or1 (h : ST X T pk a t) : SW X T pk (.BoolOp .Or [a] pos) t := ⟨pw_or1 h.pt⟩
theorem sw_and (ha : ST X T pk a ta) (hb : SW X T pk (.BoolOp .And (b :: rest) pos) tb) : SW X T pk (.BoolOp .And (a :: b :: rest) pos) (mAnd ta tb) := by
  refine ⟨pw_weak (pw_and ha.pt hb.pw) fun σ H Q ⟨B, ρ, F, bb, ρ', rel, e, k⟩ => ?_⟩
  obtain ⟨⟨b1, ρ1⟩, h1, e⟩ := Option.bind_eq_some_iff.mp e
  refine ⟨B, ρ, F, b1, ρ1, rel, h1, fun H1 F1 rel1 s1 => ?_⟩
  cases b1 with
  | true =>
    rw [if_pos rfl] at e ⊢
    exact ⟨B, ρ1, F1, bb, ρ', rel1, e, fun H2 F2 rel2 s2 => k H2 F2 rel2 (s1.trans s2)⟩
  | false =>
    rw [if_neg Bool.false_ne_true] at e ⊢
    cases e
    exact k H1 F1 rel1 s1
theorem sw_or (ha : ST X T pk a ta) (hb : SW X T pk (.BoolOp .Or (b :: rest) pos) tb) : SW X T pk (.BoolOp .Or (a :: b :: rest) pos) (mOr ta tb) := by
  refine ⟨pw_weak (pw_or ha.pt hb.pw) fun σ H Q ⟨B, ρ, F, bb, ρ', rel, e, k⟩ => ?_⟩
  obtain ⟨⟨b1, ρ1⟩, h1, e⟩ := Option.bind_eq_some_iff.mp e
  refine ⟨B, ρ, F, b1, ρ1, rel, h1, fun H1 F1 rel1 s1 => ?_⟩
  cases b1 with
  | true =>
    rw [if_pos rfl] at e ⊢
    cases e
    exact k H1 F1 rel1 s1
  | false =>
    rw [if_neg Bool.false_ne_true] at e ⊢
    exact ⟨B, ρ1, F1, bb, ρ', rel1, e, fun H2 F2 rel2 s2 => k H2 F2 rel2 (s1.trans s2)⟩
theorem st_not (ha : ST X T pk a t) : ST X T pk (.UnaryOp .Not a pos) (mNot t) := by
  refine st_of (pt_not ha.pt) fun σ H Q B ρ F bb ρ' rel e k => ?_
  obtain ⟨⟨b1, ρ1⟩, h1, e⟩ := Option.map_eq_some_iff.mp e
  cases e
  exact ⟨B, ρ, F, b1, ρ1, rel, h1, fun H1 F1 rel1 s1 => k H1 F1 rel1 s1⟩

/-! as values -/
def mIf (c : MT) (a b : ME) : ME := fun ρ => (c ρ).bind fun q => if q.1 = true then a q.2 else b q.2
theorem se_if (hc : ST X T pk c t) (ha : SE X T pk a ma) (hb : SE X T pk b mb) : SE X T pk (.IfExp c a b pos) (mIf t ma mb) := by
  refine se_of (pe_ifExp hc.pt ha.pe hb.pe) fun σ H Q B ρ F d o ρ' rel e k => ?_
  obtain ⟨⟨b1, ρ1⟩, h1, e⟩ := Option.bind_eq_some_iff.mp e
  refine ⟨B, ρ, F, b1, ρ1, rel, h1, fun H1 F1 rel1 s1 => ?_⟩
  cases b1 with
  | true =>
    rw [if_pos rfl] at e ⊢
    exact ⟨B, ρ1, F1, d, o, ρ', rel1, e, fun v H2 F2 rel2 s2 t => k v H2 F2 rel2 (s1.trans s2) t⟩
  | false =>
    rw [if_neg Bool.false_ne_true] at e ⊢
    exact ⟨B, ρ1, F1, d, o, ρ', rel1, e, fun v H2 F2 rel2 s2 t => k v H2 F2 rel2 (s1.trans s2) t⟩
def mNotV (o : Opd) : ME := fun ρ => (mTr o ρ).map fun q => ((.bl (!q.1), false), q.2)
theorem se_not (ha : SO X T pk a o) : SE X T pk (.UnaryOp .Not a pos) (mNotV o) := by
  refine se_of (pe_notT ha.po) fun σ H Q B ρ F d o' ρ' rel e k => ?_
  obtain ⟨q, h0, e⟩ := Option.map_eq_some_iff.mp e
  cases e
  obtain ⟨⟨ds, ρ1⟩, h1, h2⟩ := Option.bind_eq_some_iff.mp h0
  refine one_ok rel h1 fun da x H' F' eds rel' s bx => ?_
  subst eds
  obtain ⟨b', h3, h4⟩ := Option.map_eq_some_iff.mp h2
  cases h4
  exact ⟨_, tru_of rel'.sub bx h3, k _ H' F' rel' s (res_of (.bl _))⟩
theorem Res.brw {K : PySem.W.Frag} {B : Bs} {ρ : Env} {F : Hp} {σ : L2.St} {H : Hp} {d : D} {o : Bool} {v : V} (s : Same F H) (h : Res K B ρ F σ H d o v) : Brw K F H d v := by
  cases o with
  | true => obtain ⟨p, rfl, _, q, _⟩ := h; exact q.brw
  | false => exact Rep.brw s h
def mAndV (a b : ME) : ME := fun ρ => (a ρ).bind fun r => (truth r.1.1).bind fun t => if t = true then b r.2 else some r
def mOrV (a b : ME) : ME := fun ρ => (a ρ).bind fun r => (truth r.1.1).bind fun t => if t = true then some r else b r.2
theorem se_one {op} (h : SE X T pk a m) : SE X T pk (.BoolOp op [a] pos) m := ⟨pe_one h.pe⟩
theorem se_and (ha : SE X T pk a ma) (hb : SE X T pk (.BoolOp .And (b :: rest) pos) mb) : SE X T pk (.BoolOp .And (a :: b :: rest) pos) (mAndV ma mb) := by
  refine se_of (pe_andT ha.pe hb.pe) fun σ H Q B ρ F d o ρ' rel e k => ?_
  obtain ⟨⟨⟨d1, o1⟩, ρ1⟩, h1, e⟩ := Option.bind_eq_some_iff.mp e
  obtain ⟨tt, h2, e⟩ := Option.bind_eq_some_iff.mp e
  refine ⟨B, ρ, F, d1, o1, ρ1, rel, h1, fun v H1 F1 rel1 s1 t1 => ⟨tt, tru_of rel1.sub (t1.brw rel1.sub) h2, ?_⟩⟩
  cases tt with
  | true =>
    rw [if_pos rfl] at e ⊢
    exact ⟨B, ρ1, F1, d, o, ρ', rel1, e, fun v H2 F2 rel2 s2 t => k v H2 F2 rel2 (s1.trans s2) t⟩
  | false =>
    rw [if_neg Bool.false_ne_true] at e ⊢
    cases e
    exact k v H1 F1 rel1 s1 t1
theorem se_or (ha : SE X T pk a ma) (hb : SE X T pk (.BoolOp .Or (b :: rest) pos) mb) : SE X T pk (.BoolOp .Or (a :: b :: rest) pos) (mOrV ma mb) := by
  refine se_of (pe_orT ha.pe hb.pe) fun σ H Q B ρ F d o ρ' rel e k => ?_
  obtain ⟨⟨⟨d1, o1⟩, ρ1⟩, h1, e⟩ := Option.bind_eq_some_iff.mp e
  obtain ⟨tt, h2, e⟩ := Option.bind_eq_some_iff.mp e
  refine ⟨B, ρ, F, d1, o1, ρ1, rel, h1, fun v H1 F1 rel1 s1 t1 => ⟨tt, tru_of rel1.sub (t1.brw rel1.sub) h2, ?_⟩⟩
  cases tt with
  | true =>
    rw [if_pos rfl] at e ⊢
    cases e
    exact k v H1 F1 rel1 s1 t1
  | false =>
    rw [if_neg Bool.false_ne_true] at e ⊢
    exact ⟨B, ρ1, F1, d, o, ρ', rel1, e, fun v H2 F2 rel2 s2 t => k v H2 F2 rel2 (s1.trans s2) t⟩

/-! one-place operations -/
def mUn (f : D → Option (D × Bool)) (a : Opd) : ME := fun ρ => (ops [a] ρ).bind fun q => match q.1 with
  | [x] => (f x).map fun r => (r, q.2)
  | _ => none
def opNeg : D → Option (D × Bool)
  | .int i => some (.int (-i), false)
  | _ => none
theorem se_neg (ha : SO X T pk a o) : SE X T pk (.UnaryOp .USub a pos) (mUn opNeg o) := by
  refine se_of (pe_un un_neg ha.po) fun σ H Q B ρ F d o' ρ' rel e k => ?_
  obtain ⟨⟨ds, ρ1⟩, h1, e⟩ := Option.bind_eq_some_iff.mp e
  refine one_ok rel h1 fun da x H' F' eds rel' s bx => ?_
  subst eds
  obtain ⟨r, h2, e⟩ := Option.map_eq_some_iff.mp e
  cases e
  unfold opNeg at h2
  split at h2
  · cases h2
    exact ⟨_, rep_int bx, k _ H' F' rel' s (res_of (.int _))⟩
  · cases h2
def opIsN : D → Option (D × Bool)
  | .non => some (.bl true, false)
  | _ => some (.bl false, false)
def opNotN : D → Option (D × Bool)
  | .non => some (.bl false, false)
  | _ => some (.bl true, false)
theorem isN_of {K : PySem.W.Frag} {F H : Hp} {d : D} {v : V} (h : Brw K F H d v) : opIsN d = some (.bl (decide (v = .non)), false) ∧ opNotN d = some (.bl (!decide (v = .non)), false) := by
  cases d with
  | non => cases h; exact ⟨rfl, rfl⟩
  | bl x => cases h; exact ⟨rfl, rfl⟩
  | int x => cases h; exact ⟨rfl, rfl⟩
  | str x => cases h; exact ⟨rfl, rfl⟩
  | lst xs => obtain ⟨a, vs, rfl, h1, r⟩ := h; exact ⟨rfl, rfl⟩
  | tup xs => obtain ⟨a, vs, rfl, h1, r⟩ := rep_tup h; exact ⟨rfl, rfl⟩
  | scr xs => cases h; exact ⟨rfl, rfl⟩
  | dK xs => obtain ⟨a, ws, rfl, h1, r⟩ := h; exact ⟨rfl, rfl⟩
  | dT xs => obtain ⟨a, ws, rfl, h1, r⟩ := h; exact ⟨rfl, rfl⟩
  | dF xs => cases h; exact ⟨rfl, rfl⟩
theorem se_isN {j pos'} (ha : SO X T pk a o) : SE X T pk (.Compare a [.Is] [.Constant .none j pos'] pos) (mUn opIsN o) := by
  refine se_of (pe_cmp (pc_isN ha.po)) fun σ H Q B ρ F d o' ρ' rel e k => ?_
  obtain ⟨⟨ds, ρ1⟩, h1, e⟩ := Option.bind_eq_some_iff.mp e
  refine one_ok rel h1 fun da x H' F' eds rel' s bx => ?_
  subst eds
  obtain ⟨r, h2, e⟩ := Option.map_eq_some_iff.mp e
  cases e
  rw [(isN_of bx).1] at h2
  cases h2
  exact k _ H' F' rel' s (res_of (.bl _))
theorem se_notN {j pos'} (ha : SO X T pk a o) : SE X T pk (.Compare a [.IsNot] [.Constant .none j pos'] pos) (mUn opNotN o) := by
  refine se_of (pe_cmp (pc_notN ha.po)) fun σ H Q B ρ F d o' ρ' rel e k => ?_
  obtain ⟨⟨ds, ρ1⟩, h1, e⟩ := Option.bind_eq_some_iff.mp e
  refine one_ok rel h1 fun da x H' F' eds rel' s bx => ?_
  subst eds
  obtain ⟨r, h2, e⟩ := Option.map_eq_some_iff.mp e
  cases e
  rw [(isN_of bx).2] at h2
  cases h2
  exact k _ H' F' rel' s (res_of (.bl _))
theorem st_isN {j pos'} (ha : SO X T pk a o) : ST X T pk (.Compare a [.Is] [.Constant .none j pos'] pos) (mB (mUn opIsN o)) := by
  refine st_of (pt_cmp (pc_isN ha.po)) fun σ H Q B ρ F bb ρ' rel e k => ?_
  obtain ⟨⟨⟨d, o⟩, ρ2⟩, h0, e⟩ := Option.bind_eq_some_iff.mp e
  obtain ⟨⟨ds, ρ1⟩, h1, h2⟩ := Option.bind_eq_some_iff.mp h0
  refine one_ok rel h1 fun da x H' F' eds rel' s bx => ?_
  subst eds
  obtain ⟨r, h3, h4⟩ := Option.map_eq_some_iff.mp h2
  cases h4
  rw [(isN_of bx).1] at h3
  cases h3
  cases e
  exact ⟨_, rfl, k H' F' rel' s⟩
theorem st_notN {j pos'} (ha : SO X T pk a o) : ST X T pk (.Compare a [.IsNot] [.Constant .none j pos'] pos) (mB (mUn opNotN o)) := by
  refine st_of (pt_cmp (pc_notN ha.po)) fun σ H Q B ρ F bb ρ' rel e k => ?_
  obtain ⟨⟨⟨d, o⟩, ρ2⟩, h0, e⟩ := Option.bind_eq_some_iff.mp e
  obtain ⟨⟨ds, ρ1⟩, h1, h2⟩ := Option.bind_eq_some_iff.mp h0
  refine one_ok rel h1 fun da x H' F' eds rel' s bx => ?_
  subst eds
  obtain ⟨r, h3, h4⟩ := Option.map_eq_some_iff.mp h2
  cases h4
  rw [(isN_of bx).2] at h3
  cases h3
  cases e
  exact ⟨_, rfl, k H' F' rel' s⟩

/-! tests by comparison -/
theorem st_lt (ha : SO X T pk a oa) (hb : SO X T pk b ob) : ST X T pk (.Compare a [.Lt] [b] pos) (mB (mBin opLt oa ob)) := st_tOp op_lt (ok_cmp _) ha hb
theorem st_le (ha : SO X T pk a oa) (hb : SO X T pk b ob) : ST X T pk (.Compare a [.LtE] [b] pos) (mB (mBin opLe oa ob)) := st_tOp op_le (ok_cmp _) ha hb
theorem st_gt (ha : SO X T pk a oa) (hb : SO X T pk b ob) : ST X T pk (.Compare a [.Gt] [b] pos) (mB (mBin opGt oa ob)) := st_tOp op_gt (ok_cmp _) ha hb
theorem st_ge (ha : SO X T pk a oa) (hb : SO X T pk b ob) : ST X T pk (.Compare a [.GtE] [b] pos) (mB (mBin opGe oa ob)) := st_tOp op_ge (ok_cmp _) ha hb
theorem st_eq {k : Nat} (hr : Room k X.A) (ha : SO X T pk a oa) (hb : SO X T pk b ob) : ST X T pk (.Compare a [.Eq] [b] pos) (mB (mBin opEq oa ob)) := st_tOp (op_eqD hr.units) ok_eq ha hb
theorem st_ne {k : Nat} (hr : Room k X.A) (ha : SO X T pk a oa) (hb : SO X T pk b ob) : ST X T pk (.Compare a [.NotEq] [b] pos) (mB (mBin opNe oa ob)) := st_tOp (op_neD hr.units) ok_ne ha hb
end
end Eng
set_option Elab.async false
set_option linter.all false
set_option maxRecDepth 100000
/-! the engine, part E: chains, in, items, slices, displays, built-ins -/
namespace Eng
open PySem PySem.Spec PyProof.Rows L2

/-! whole numbers out of data -/
def dI : D → Option Int
  | .int i => some i
  | _ => none
def dIs : List D → Option (List Int)
  | [] => some []
  | d :: r => (dI d).bind fun i => (dIs r).map fun q => i :: q
theorem dI_some {d : D} {i : Int} (h : dI d = some i) : d = .int i := by cases d <;> cases h; rfl
theorem dIs_some : ∀ {ds : List D} {ns : List Int}, dIs ds = some ns → ds = ns.map D.int
  | [], ns, h => by cases h; rfl
  | d :: r, ns, h => by
    obtain ⟨i, h1, h⟩ := Option.bind_eq_some_iff.mp h
    obtain ⟨q, h2, h⟩ := Option.map_eq_some_iff.mp h
    subst h
    rw [dI_some h1, dIs_some h2]; rfl
@[simp] theorem dIs_ints : ∀ ns : List Int, dIs (ns.map D.int) = some ns
  | [] => rfl
  | n :: r => by simp [dIs, dI, dIs_ints r]
def dB : D → Option Bool
  | .bl i => some i
  | _ => none
def dBs : List D → Option (List Bool)
  | [] => some []
  | d :: r => (dB d).bind fun i => (dBs r).map fun q => i :: q
theorem dB_some {d : D} {i : Bool} (h : dB d = some i) : d = .bl i := by cases d <;> cases h; rfl
theorem dBs_some : ∀ {ds : List D} {ns : List Bool}, dBs ds = some ns → ds = ns.map D.bl
  | [], ns, h => by cases h; rfl
  | d :: r, ns, h => by
    obtain ⟨i, h1, h⟩ := Option.bind_eq_some_iff.mp h
    obtain ⟨q, h2, h⟩ := Option.map_eq_some_iff.mp h
    subst h
    rw [dB_some h1, dBs_some h2]; rfl
@[simp] theorem dBs_bls : ∀ ns : List Bool, dBs (ns.map D.bl) = some ns
  | [] => rfl
  | n :: r => by simp [dBs, dB, dBs_bls r]
/-- an item, from either end -/
theorem atI_reps {K : PySem.W.Frag} {F : Hp} {ds : List D} {vs : List V} {i : Int} {d : D} (r : Reps K F ds vs) (h : atI ds i = some d) : ∃ v, atI vs i = some v ∧ Rep K F d v := by
  unfold atI at h ⊢
  obtain ⟨j, h1, h2⟩ := Option.bind_eq_some_iff.mp h
  obtain ⟨v, h3, h4⟩ := r.get h2
  exact ⟨v, by rw [← r.len, h1]; exact h3, h4⟩
def opIx : D → D → Option (D × Bool)
  | .lst xs, .int i => (atI xs i).map fun d => (d, false)
  | .tup xs, .int i => (atI xs i).map fun d => (d, false)
  | .scr xs, .int i => (atI xs i).map fun d => (d, false)
  | _, _ => none
def cutD (xs : List D) (lo hi : Option Int) : List D := (xs.drop (HT.sIx xs.length 0 lo)).take (HT.sIx xs.length xs.length hi - HT.sIx xs.length 0 lo)
theorem cut_reps {K : PySem.W.Frag} {F : Hp} {ds : List D} {vs : List V} {lo hi : Option Int} (r : Reps K F ds vs) : Reps K F (cutD ds lo hi) (cutV vs lo hi) := by
  unfold cutD cutV
  rw [r.len]
  exact (r.drop _).take _
def opSl (lo hi : Option Int) : D → Option (D × Bool)
  | .lst xs => some (.lst (cutD xs lo hi), true)
  | .tup xs => some (.tup (cutD xs lo hi), false)
  | _ => none
/-- in: lists of any data; tuples of flat data -/
def flatD : D → Bool
  | .non => true
  | .bl _ => true
  | .int _ => true
  | .str _ => true
  | _ => false
def opIn (neg : Bool) : D → D → Option (D × Bool)
  | x, .lst ys => if dok x = true ∧ dok (.lst ys) = true then some (.bl (if neg = true then !ys.any (fun z => deq z x) else ys.any fun z => deq z x), false) else none
  | x, .tup ys => if flatD x = true ∧ ys.all flatD = true then some (.bl (if neg = true then !ys.any (fun z => deq z x) else ys.any fun z => deq z x), false) else none
  | .int i, .dF ks => some (.bl (if neg = true then !ks.contains i else ks.contains i), false)
  | _, _ => none
theorem toPys_map : ∀ ds : List D, toPys ds = ds.map toPy
  | [] => rfl
  | d :: r => by simp [toPys, toPys_map r]
theorem flat_of {K : PySem.W.Frag} {F : Hp} {d e : D} {v u : V} (hd : flatD d = true) (he : flatD e = true) (r : Rep K F d v) (q : Rep K F e u) : flatV v = true ∧ eqV v u = deq d e := by
  cases r <;> first | exact (Bool.false_ne_true hd).elim | skip
  all_goals (cases q <;> first | exact (Bool.false_ne_true he).elim | (refine ⟨rfl, ?_⟩; simp [eqV, deq, toPy, PyData.eqv]))
theorem flats_of {K : PySem.W.Frag} {F : Hp} {e : D} {u : V} (he : flatD e = true) (q : Rep K F e u) : ∀ {ds : List D} {vs : List V}, ds.all flatD = true → Reps K F ds vs → vs.all flatV = true ∧ inV u vs = ds.any fun z => deq z e
  | _, _, _, .nil => ⟨rfl, rfl⟩
  | d :: ds, v :: vs, h, .cons r t => by
    rw [List.all_cons, Bool.and_eq_true] at h
    obtain ⟨h1, h2⟩ := flat_of h.1 he r q
    obtain ⟨h3, h4⟩ := flats_of he q h.2 t
    refine ⟨by rw [List.all_cons, h1, h3]; rfl, ?_⟩
    unfold inV at h4 ⊢
    rw [List.any_cons, List.any_cons, h2, h4]

section
variable {X : Cx} {T : List Addr} {pk : Pk} {a b c e : Expr} {es : List Expr} {o oa ob oc : Opd} {os : List Opd} {m ma mb : ME} {ms : List ME} {pos : Pos} {f : D → D → Option (D × Bool)} {r : R2}
theorem mB_ok {σ : L2.St} {H : Hp} {Q : Bool → Hp → Prop} (h : tMT X.K T pk (mB m) σ H Q) : tM X.K T pk m σ H fun x H1 => ∃ k, x = .bl k ∧ Q k H1 := by
  obtain ⟨B, ρ, F, b, ρ', rel, e, k⟩ := h
  obtain ⟨⟨⟨d, o⟩, ρ2⟩, h0, e⟩ := Option.bind_eq_some_iff.mp e
  refine ⟨B, ρ, F, d, o, ρ2, rel, h0, fun v H1 F1 rel1 s1 t1 => ?_⟩
  cases d with
  | bl b1 => cases e; exact ⟨_, res_bl t1, k H1 F1 rel1 s1⟩
  | _ => cases e
/-- a test of an expression that gives a truth value -/
theorem st_val (h : SE X T pk e m) (he : ∀ whole, isTrue e X.env whole = (do let v ← whole; standAt e.pos; holding [v] (truthy v)) := by intro _; rfl) : ST X T pk e (mB m) :=
  ⟨pt_weak (pt_val h.pe he) fun σ H Q q => mB_ok q⟩

/-! a < b < c -/
def mChain (p p' : Int → Int → Bool) (a b c : Opd) : ME := fun ρ => (ops [a, b] ρ).bind fun q => match q.1 with
  | [.int i, .int j] => if p i j = true then (ops [c] q.2).bind fun q2 => match q2.1 with
      | [.int k] => some ((.bl (p' j k), false), q2.2)
      | _ => none
    else some ((.bl false, false), q.2)
  | _ => none
theorem chain_ok {p p' : Int → Int → Bool} {σ : L2.St} {H : Hp} {Q : VK} (h : tM X.K T pk (mChain p p' oa ob oc) σ H Q) :
    tChain (rI0 fun i j => .bl (p i j)) (rI0 fun i j => .bl (p' i j)) (tO X.K T pk oa) (tO X.K T pk ob) (tO X.K T pk oc) σ H Q := by
  obtain ⟨B, ρ, F, d, o, ρ', rel, e, k⟩ := h
  obtain ⟨⟨ds, ρ1⟩, h1, e⟩ := Option.bind_eq_some_iff.mp e
  refine two_ok rel h1 fun da db x y H' F' eds rel' s bx by' => ?_
  subst eds
  cases da with
  | int i =>
    cases db with
    | int j =>
      refine ⟨i, j, rep_int bx, rep_int by', p i j, rfl, ?_⟩
      simp only at e
      cases hp : p i j with
      | true =>
        rw [hp, if_pos rfl] at e
        rw [if_pos rfl]
        obtain ⟨⟨ds2, ρ2⟩, h2, e⟩ := Option.bind_eq_some_iff.mp e
        refine one_ok rel' h2 fun dc z H2 F2 eds2 rel2 s2 bz => ?_
        subst eds2
        cases dc with
        | int l => cases e; exact ⟨j, l, rep_int by', rep_int bz, k _ H2 F2 rel2 (s.trans s2) (res_of (.bl _))⟩
        | _ => cases e
      | false =>
        rw [hp, if_neg Bool.false_ne_true] at e
        rw [if_neg Bool.false_ne_true]
        cases e
        exact k _ H' F' rel' s (res_of (.bl _))
    | _ => cases e
  | _ => cases e
theorem se_chain {op op' : CmpOp} {p p' : Int → Int → Bool} (ho : OpR X (compareOp op) (rI0 fun i j => .bl (p i j))) (ho' : OpR X (compareOp op') (rI0 fun i j => .bl (p' i j))) (ha : SO X T pk a oa) (hb : SO X T pk b ob) (hc : SO X T pk c oc)
    (hm : lastMarks [op, op'] [b, c] = false := by with_unfolding_all rfl) : SE X T pk (.Compare a [op, op'] [b, c] pos) (mChain p p' oa ob oc) :=
  ⟨pe_weak (pe_chain ho ho' ha.po hb.po hc.po hm) fun σ H Q q => chain_ok q⟩
theorem st_chain {op op' : CmpOp} {p p' : Int → Int → Bool} (ho : OpR X (compareOp op) (rI0 fun i j => .bl (p i j))) (ho' : OpR X (compareOp op') (rI0 fun i j => .bl (p' i j))) (ha : SO X T pk a oa) (hb : SO X T pk b ob) (hc : SO X T pk c oc)
    (hm : lastMarks [op, op'] [b, c] = false := by with_unfolding_all rfl) : ST X T pk (.Compare a [op, op'] [b, c] pos) (mB (mChain p p' oa ob oc)) :=
  ⟨pt_weak (pt_chain ho ho' ha.po hb.po hc.po hm) fun σ H Q q => chain_ok (mB_ok q)⟩

/-! in -/
def rInF : R2 := fun x y H Q => ∃ a o, y = .ref a ∧ DGet H a x o ∧ Q (.bl o.isSome) H
def rNotInF : R2 := fun x y H Q => ∃ a o, y = .ref a ∧ DGet H a x o ∧ Q (.bl (!o.isSome)) H
theorem op_inF (hu : X.A.units + 1 < cLine) : OpR X (compareOp .In) rInF := by
  intro pins s σ H x y v u Q I rx ry h
  obtain ⟨a, o, rfl, g, q⟩ := h
  cases (show u = Value.ref a from ry)
  exact d_in hu I g rx fun s' I' => ⟨.bl _, H, I', rfl, q⟩
theorem op_notInF (hu : X.A.units + 1 < cLine) : OpR X (compareOp .NotIn) rNotInF := by
  intro pins s σ H x y v u Q I rx ry h
  obtain ⟨a, o, rfl, g, q⟩ := h
  cases (show u = Value.ref a from ry)
  exact d_notIn hu I g rx fun s' I' => ⟨.bl _, H, I', rfl, q⟩
theorem valV_ks {ws : List (Key × V)} {ks : List Int} (hk : ws.map (·.1) = ks.map Sum.inl) (i : Int) : (valV ws (Sum.inl i)).isSome = ks.contains i := by
  rw [← valV_any]
  have e : (ws.any fun kv => decide (kv.1 = Sum.inl i)) = (ws.map (·.1)).any fun k => decide (k = Sum.inl i) := by rw [List.any_map]; rfl
  rw [e, hk, List.any_map, ← List.any_beq]
  congr 1
  funext k
  by_cases h : k = i
  · subst h; simp
  · have h2 : ¬ i = k := fun e => h e.symm
    simp [h, h2]
def rInX (K : PySem.W.Frag) : R2 := fun x y H Q => rInF x y H Q ∨ (rInD K x y H Q ∨ rIn K false x y H Q)
def rNotInX (K : PySem.W.Frag) : R2 := fun x y H Q => rNotInF x y H Q ∨ (rNotInD K x y H Q ∨ rIn K true x y H Q)
theorem opX_in {k : Nat} (hr : Room k X.A) : OpR X (compareOp .In) (rInX X.K) := opr_or (op_inF (by have := hr.un; omega)) (opr_or (op_inD (by have := hr.un; omega)) op_in_seq)
theorem opX_notin {k : Nat} (hr : Room k X.A) : OpR X (compareOp .NotIn) (rNotInX X.K) := opr_or (op_notInF (by have := hr.un; omega)) (opr_or (op_notInD (by have := hr.un; omega)) op_notIn_seq)
theorem any_py (ys : List D) (x : D) : ((toPys ys).any fun z => PyData.eqv z (toPy x)) = ys.any fun z => deq z x := by
  rw [toPys_map, List.any_map]; rfl
theorem flat_rep {K : PySem.W.Frag} {F H : Hp} {d : D} {v : V} (h : flatD d = true) (b : Brw K F H d v) : Rep K F d v := by
  cases d <;> first | exact b | cases h
theorem ok_in : R2Ok X T pk (opIn false) (rInX X.K) := by
  intro B ρ F σ H da db d o x y Q rel e bx by' k
  unfold opIn at e
  split at e
  · rename_i ys
    split at e
    · rename_i hc
      cases e
      have hy := by'.dp rel.sub hc.2
      refine .inr (.inl ⟨toPy da, toPys ys, bx.dp rel.sub hc.1, hy, hc.1, hc.2, ?_⟩)
      rw [any_py, if_neg Bool.false_ne_true] at *
      exact k _ H F rel (Same.refl F) (res_of (.bl _))
    · cases e
  · rename_i ys
    split at e
    · rename_i hc
      cases e
      obtain ⟨p, vs, rfl, hp, r⟩ := rep_tup by'
      have rx := flat_rep hc.1 bx
      obtain ⟨h1, h2⟩ := flats_of hc.1 rx hc.2 r
      refine .inr (.inr ⟨p, vs, rfl, .inr (.of (rel.sub _ _ hp)), (flat_of hc.1 hc.1 rx rx).1, h1, ?_⟩)
      rw [h2]
      exact k _ H F rel (Same.refl F) (res_of (.bl _))
    · cases e
  · rename_i i ks
    cases e
    cases rep_int bx
    cases by' with
    | dF hF hk =>
      refine .inl ⟨_, _, rfl, .inl ⟨_, Sum.inl i, .inr ⟨_, rel.sub _ _ hF⟩, rfl, rfl⟩, ?_⟩
      rw [valV_ks hk]
      exact k _ H F rel (Same.refl F) (res_of (.bl _))
  · cases e
theorem ok_notin : R2Ok X T pk (opIn true) (rNotInX X.K) := by
  intro B ρ F σ H da db d o x y Q rel e bx by' k
  unfold opIn at e
  split at e
  · rename_i ys
    split at e
    · rename_i hc
      cases e
      have hy := by'.dp rel.sub hc.2
      refine .inr (.inl ⟨toPy da, toPys ys, bx.dp rel.sub hc.1, hy, hc.1, hc.2, ?_⟩)
      rw [any_py, if_pos rfl] at *
      exact k _ H F rel (Same.refl F) (res_of (.bl _))
    · cases e
  · rename_i ys
    split at e
    · rename_i hc
      cases e
      obtain ⟨p, vs, rfl, hp, r⟩ := rep_tup by'
      have rx := flat_rep hc.1 bx
      obtain ⟨h1, h2⟩ := flats_of hc.1 rx hc.2 r
      refine .inr (.inr ⟨p, vs, rfl, .inr (.of (rel.sub _ _ hp)), (flat_of hc.1 hc.1 rx rx).1, h1, ?_⟩)
      rw [h2]
      exact k _ H F rel (Same.refl F) (res_of (.bl _))
    · cases e
  · rename_i i ks
    cases e
    cases rep_int bx
    cases by' with
    | dF hF hk =>
      refine .inl ⟨_, _, rfl, .inl ⟨_, Sum.inl i, .inr ⟨_, rel.sub _ _ hF⟩, rfl, rfl⟩, ?_⟩
      rw [valV_ks hk]
      exact k _ H F rel (Same.refl F) (res_of (.bl _))
  · cases e
theorem se_in {k : Nat} (hr : Room k X.A) (ha : SO X T pk a oa) (hb : SO X T pk b ob) (hm : behindInMarks .In b = false := by rfl) : SE X T pk (.Compare a [.In] [b] pos) (mBin (opIn false) oa ob) := se_cmp (opX_in hr) ok_in ha hb hm
theorem se_notin {k : Nat} (hr : Room k X.A) (ha : SO X T pk a oa) (hb : SO X T pk b ob) (hm : behindInMarks .NotIn b = false := by rfl) : SE X T pk (.Compare a [.NotIn] [b] pos) (mBin (opIn true) oa ob) := se_cmp (opX_notin hr) ok_notin ha hb hm
theorem st_in {k : Nat} (hr : Room k X.A) (ha : SO X T pk a oa) (hb : SO X T pk b ob) (hm : behindInMarks .In b = false := by rfl) : ST X T pk (.Compare a [.In] [b] pos) (mB (mBin (opIn false) oa ob)) := st_tOp (opX_in hr) ok_in ha hb hm
theorem st_notin {k : Nat} (hr : Room k X.A) (ha : SO X T pk a oa) (hb : SO X T pk b ob) (hm : behindInMarks .NotIn b = false := by rfl) : ST X T pk (.Compare a [.NotIn] [b] pos) (mB (mBin (opIn true) oa ob)) := st_tOp (opX_notin hr) ok_notin ha hb hm

/-! items and slices -/
theorem ok_ix : R2Ok X T pk opIx (rIx X.K) := by
  intro B ρ F σ H da db d o x y Q rel e bx by' k
  unfold opIx at e
  split at e
  · obtain ⟨d', h, e⟩ := Option.map_eq_some_iff.mp e
    cases e
    obtain ⟨a, vs, rfl, ha, ra⟩ := bx
    obtain ⟨v, hv, rv⟩ := atI_reps ra h
    exact .inl ⟨a, vs, _, v, rfl, rep_int by', .of ha, hv, k _ H F rel (Same.refl F) (res_of rv)⟩
  · obtain ⟨d', h, e⟩ := Option.map_eq_some_iff.mp e
    cases e
    obtain ⟨a, vs, rfl, ha, ra⟩ := rep_tup bx
    obtain ⟨v, hv, rv⟩ := atI_reps ra h
    exact .inr (.inl ⟨a, vs, _, v, rfl, rep_int by', .of (rel.sub _ _ ha), hv, k _ H F rel (Same.refl F) (res_of rv)⟩)
  · obtain ⟨d', h, e⟩ := Option.map_eq_some_iff.mp e
    cases e
    cases bx with
    | scr ha ra =>
      obtain ⟨v, hv, rv⟩ := atI_reps ra h
      exact .inl ⟨_, _, _, v, rfl, rep_int by', rel.sub.seq ha, hv, k _ H F rel (Same.refl F) (res_of rv)⟩
  · cases e
theorem se_ix (ha : SO X T pk a oa) (hb : SO X T pk b ob) (hs : PlainIx b := by exact fun _ _ => rfl) : SE X T pk (.Subscript a b pos) (mBin opIx oa ob) := se_tOp (pe_ix ix_seq ha.po hb.po hs) ok_ix
def rSlX (K : PySem.W.Frag) : V → Option Int → Option Int → Hp → VK → Prop := fun x lo hi H Q => rSlL K x lo hi H Q ∨ rSlA K x lo hi H Q
theorem slX : SlR X (rSlX X.K) := sl_list.or sl_tupA
theorem sl_ok {B : Bs} {ρ : Env} {F : Hp} {σ : L2.St} {H : Hp} {da d : D} {o : Bool} {x : V} {lo hi : Option Int} {Q : VK} (rel : Rel X.K T pk B ρ F σ H) (e : opSl lo hi da = some (d, o)) (bx : Brw X.K F H da x)
    (k : ∀ v H' F', Rel X.K T pk B ρ F' σ H' → Same F F' → Res X.K B ρ F' σ H' d o v → Q v H') : rSlX X.K x lo hi H Q := by
  unfold opSl at e
  split at e
  · rename_i xs
    cases e
    obtain ⟨a, vs, rfl, ha, ra⟩ := bx
    refine .inl ⟨a, vs, rfl, .of ha, fun p np => ?_⟩
    obtain ⟨r', t⟩ := rel.newOwn np (d := .lst (cutD xs lo hi)) ⟨_, upd_same, cut_reps ra⟩
    exact k _ _ F r' (Same.refl F) (res_own t)
  · rename_i xs
    cases e
    obtain ⟨a, vs, rfl, ha, ra⟩ := rep_tup bx
    refine .inr ⟨a, vs, rfl, .of (rel.sub _ _ ha), fun hw => ?_, fun _ p np => ?_⟩
    · have e1 : cutD xs lo hi = xs := by
        unfold cutD
        rw [ra.len, hw.1, hw.2, List.drop_zero, Nat.sub_zero, ← ra.len, List.take_length]
      rw [e1] at k
      exact k _ H F rel (Same.refl F) (res_of (.tup ha ra))
    · obtain ⟨F', r', s, rp⟩ := rel.newTup np (cut_reps (lo := lo) (hi := hi) ra)
      exact k _ _ F' r' s (res_of rp)
  · cases e
def dPart : D → Option Int := dI
/-- x[lo:hi], x[lo:], x[:hi], x[:] -/
def mSl0 (a : Opd) : ME := mUn (opSl none none) a
def mSlL (a lo : Opd) : ME := mBin (fun x l => (dI l).bind fun i => opSl (some i) none x) a lo
def mSlH (a hi : Opd) : ME := mBin (fun x l => (dI l).bind fun i => opSl none (some i) x) a hi
theorem se_sl0 {p2 : Pos} (ha : SO X T pk a oa) : SE X T pk (.Subscript a (.Slice none none none p2) pos) (mSl0 oa) := by
  refine se_of (pe_slice slX ha.po po_none po_none) fun σ H Q B ρ F d o ρ' rel e k => ?_
  obtain ⟨⟨ds, ρ1⟩, h1, e⟩ := Option.bind_eq_some_iff.mp e
  refine one_ok rel h1 fun da x H' F' eds rel' s bx => ?_
  subst eds
  obtain ⟨⟨d', o'⟩, h2, e⟩ := Option.map_eq_some_iff.mp e
  cases e
  exact sl_ok rel' h2 bx fun v H2 F2 rel2 s2 t => k v H2 F2 rel2 (s.trans s2) t
theorem se_slL {p2 : Pos} (ha : SO X T pk a oa) (hb : SO X T pk b ob) : SE X T pk (.Subscript a (.Slice (some b) none none p2) pos) (mSlL oa ob) := by
  refine se_of (pe_slice slX ha.po (po_some hb.po) po_none) fun σ H Q B ρ F d o ρ' rel e k => ?_
  obtain ⟨⟨ds, ρ1⟩, h1, e⟩ := Option.bind_eq_some_iff.mp e
  refine two_ok rel h1 fun da db x y H' F' eds rel' s bx by' => ?_
  subst eds
  obtain ⟨⟨d', o'⟩, h2, e⟩ := Option.map_eq_some_iff.mp e
  cases e
  obtain ⟨i, h3, h4⟩ := Option.bind_eq_some_iff.mp h2
  rw [dI_some h3] at by'
  exact ⟨i, rep_int by', sl_ok rel' h4 bx fun v H2 F2 rel2 s2 t => k v H2 F2 rel2 (s.trans s2) t⟩
theorem se_slH {p2 : Pos} (ha : SO X T pk a oa) (hb : SO X T pk b ob) : SE X T pk (.Subscript a (.Slice none (some b) none p2) pos) (mSlH oa ob) := by
  refine se_of (pe_slice slX ha.po po_none (po_some hb.po)) fun σ H Q B ρ F d o ρ' rel e k => ?_
  obtain ⟨⟨ds, ρ1⟩, h1, e⟩ := Option.bind_eq_some_iff.mp e
  refine two_ok rel h1 fun da db x y H' F' eds rel' s bx by' => ?_
  subst eds
  obtain ⟨⟨d', o'⟩, h2, e⟩ := Option.map_eq_some_iff.mp e
  cases e
  obtain ⟨i, h3, h4⟩ := Option.bind_eq_some_iff.mp h2
  rw [dI_some h3] at by'
  exact ⟨i, rep_int by', sl_ok rel' h4 bx fun v H2 F2 rel2 s2 t => k v H2 F2 rel2 (s.trans s2) t⟩

/-! displays: values from the left -/
def evs : List ME → Env → Option (List D × Env)
  | [], ρ => some ([], ρ)
  | m :: ms, ρ => (m ρ).bind fun r => (evs ms r.2).map fun q => (r.1.1 :: q.1, q.2)
def tVals (K : PySem.W.Frag) (T : List Addr) (pk : Pk) : List ME → TA
  | [] => tNil
  | m :: ms => tCons (tM K T pk m) (tVals K T pk ms)
structure SV (X : Cx) (T : List Addr) (pk : Pk) (es : List Expr) (ms : List ME) : Prop where
  pa : PA X es (tVals X.K T pk ms)
theorem sv_nil : SV X T pk [] [] := ⟨pa_nil⟩
theorem sv_cons (ha : SE X T pk e m) (hr : SV X T pk es ms) (hs : starEach (e :: es) X.env = (false, eval e X.env) :: starEach es X.env := by rfl) : SV X T pk (e :: es) (m :: ms) := ⟨pa_cons ha.pe hr.pa hs⟩
theorem vals_ok {K : PySem.W.Frag} {B : Bs} {σ : L2.St} : ∀ (ms : List ME) {ρ ρ' : Env} {F H : Hp} {ds : List D} {R : List V → Hp → Prop}, Rel K T pk B ρ F σ H → evs ms ρ = some (ds, ρ') →
    (∀ vs H' F', Rel K T pk B ρ' F' σ H' → Same F F' → Reps K F' ds vs → R vs H') → tVals K T pk ms σ H R
  | [], ρ, ρ', F, H, ds, R, r, e, k => by
    simp only [evs, Option.some.injEq, Prod.mk.injEq] at e
    obtain ⟨rfl, rfl⟩ := e
    exact k [] H F r (Same.refl F) .nil
  | m :: ms, ρ, ρ', F, H, ds, R, r, e, k => by
    simp only [evs] at e
    obtain ⟨⟨⟨d, o⟩, ρ1⟩, h1, e⟩ := Option.bind_eq_some_iff.mp e
    obtain ⟨q, hq, e⟩ := Option.map_eq_some_iff.mp e
    cases e
    refine ⟨B, ρ, F, d, o, ρ1, r, h1, fun v H1 F1 r1 s1 t1 => ?_⟩
    obtain ⟨F2, r2, s2, rp⟩ := r1.freezeR t1
    exact vals_ok ms r2 hq fun vs H' F' r' s p => k (v :: vs) H' F' r' ((s1.trans s2).trans s) (.cons (rp.up s) p)
theorem evs_len : ∀ (ms : List ME) {ρ ρ' : Env} {ds : List D}, evs ms ρ = some (ds, ρ') → ds.length = ms.length
  | [], ρ, ρ', ds, e => by
    simp only [evs, Option.some.injEq, Prod.mk.injEq] at e
    rw [← e.1]; rfl
  | m :: ms, ρ, ρ', ds, e => by
    simp only [evs] at e
    obtain ⟨r, h1, e⟩ := Option.bind_eq_some_iff.mp e
    obtain ⟨q, hq, e⟩ := Option.map_eq_some_iff.mp e
    cases e
    exact congrArg (· + 1) (evs_len ms hq)
def mLst (ms : List ME) : ME := fun ρ => (evs ms ρ).map fun q => ((.lst q.1, true), q.2)
def mTup (ms : List ME) : ME := fun ρ => (evs ms ρ).map fun q => ((.tup q.1, false), q.2)
theorem se_lst (h : SV X T pk es ms) (hz : ms.length ≤ sizeLine := by decide) : SE X T pk (.List es pos) (mLst ms) := by
  refine se_of (pe_lst h.pa) fun σ H Q B ρ F d o ρ' rel e k => ?_
  obtain ⟨⟨ds, ρ1⟩, h1, e⟩ := Option.map_eq_some_iff.mp e
  cases e
  refine vals_ok ms rel h1 fun vs H' F' rel' s rs => ⟨by rw [← rs.len, evs_len ms h1]; exact hz, fun p np => ?_⟩
  obtain ⟨r', t⟩ := rel'.newOwn np (d := .lst ds) ⟨_, upd_same, rs⟩
  exact k _ _ F' r' s (res_own t)
theorem se_tup {n : Nat} (h : SV X T pk es ms) (hz : ms.length ≤ sizeLine := by decide) : SE X T pk (.Tuple es n pos) (mTup ms) := by
  refine se_of (pe_tup h.pa) fun σ H Q B ρ F d o ρ' rel e k => ?_
  obtain ⟨⟨ds, ρ1⟩, h1, e⟩ := Option.map_eq_some_iff.mp e
  cases e
  refine vals_ok ms rel h1 fun vs H' F' rel' s rs => ⟨by rw [← rs.len, evs_len ms h1]; exact hz, fun p np => ?_⟩
  obtain ⟨F2, r', s', rp⟩ := rel'.newTup np rs
  exact k _ _ F2 r' (s.trans s') (res_of rp)

/-! built-ins by values -/
def CROk (X : Cx) (T : List Addr) (pk : Pk) (f : List D → Option (D × Bool)) (r : List V → Hp → VK → Prop) : Prop :=
  ∀ (B : Bs) (ρ : Env) (F : Hp) (σ : L2.St) (H : Hp) (ds : List D) (d : D) (o : Bool) (vs : List V) (Q : VK), Rel X.K T pk B ρ F σ H → f ds = some (d, o) → Brws X.K F H ds vs →
    (∀ v H' F', Rel X.K T pk B ρ F' σ H' → Same F F' → Res X.K B ρ F' σ H' d o v → Q v H') → r vs H Q
def mCal (f : List D → Option (D × Bool)) (os : List Opd) : ME := fun ρ => (ops os ρ).bind fun q => (f q.1).map fun r => (r, q.2)
variable {x : Str} {p : Pos} {id : String} {r : List V → Hp → VK → Prop} {f : List D → Option (D × Bool)}
theorem cal_ok {σ : L2.St} {H : Hp} {Q : VK} (hf : CROk X T pk f r) (h : tM X.K T pk (mCal f os) σ H Q) : tCB r (tArgs X.K T pk os) σ H Q := by
  obtain ⟨B, ρ, F, d, o, ρ', rel, e, k⟩ := h
  obtain ⟨⟨ds, ρ1⟩, h1, e⟩ := Option.bind_eq_some_iff.mp e
  obtain ⟨⟨d', o'⟩, h2, e⟩ := Option.map_eq_some_iff.mp e
  cases e
  exact args_ok rel h1 fun vs H' F' rel' s b => hf B _ F' σ H' ds d o vs Q rel' h2 b fun v H2 F2 rel2 s2 t => k v H2 F2 rel2 (s.trans s2) t
theorem se_callB (hc : CallR X (.builtin id) r) (hf : CROk X T pk f r) (hg : Gl X x) (hm : X.mg x = none) (hv : bootBuiltins x = some (.builtin id)) (sa : SA X T pk (e :: es) os) (hn : x ≠ "__name__" := by decide) (hdb : (x == ("__debug__" : Str)) = false := by decide)
    (he : starEach (e :: es) X.env = (false, eval e X.env) :: starEach es X.env := by rfl) (hpl : (backTo pos (starEach es X.env)).any (·.1) = false := by rfl) : SE X T pk (.Call (.Name x p) (e :: es) [] pos) (mCal f os) :=
  ⟨pe_weak (pe_callB hc hg hm hv sa.pa hn hdb he hpl) fun σ H Q h => cal_ok hf h⟩
theorem se_callTy (hc : CallR X (.type id) r) (hf : CROk X T pk f r) (hg : Gl X x) (hm : X.mg x = none) (hv : bootBuiltins x = some (.type id)) (sa : SA X T pk (e :: es) os) (hn : x ≠ "__name__" := by decide) (hdb : (x == ("__debug__" : Str)) = false := by decide)
    (he : starEach (e :: es) X.env = (false, eval e X.env) :: starEach es X.env := by rfl) (hpl : (backTo pos (starEach es X.env)).any (·.1) = false := by rfl) : SE X T pk (.Call (.Name x p) (e :: es) [] pos) (mCal f os) :=
  ⟨pe_weak (pe_callTy hc hg hm hv sa.pa hn hdb he hpl) fun σ H Q h => cal_ok hf h⟩
end
end Eng
set_option Elab.async false
set_option linter.all false
set_option maxRecDepth 100000
/-! the engine, part F: statements, what is walked, loops -/
namespace Eng
open PySem PySem.Spec PyProof.Rows L2

inductive Fl where
  | nx
  | brk
  | cont
  | ret (d : D) (o : Bool)
abbrev MS := Env → Option (Fl × Env)
def EndOk (K : PySem.W.Frag) (T : List Addr) (pk : Pk) (B : Bs) (F : Hp) (D : Ends) (ρ' : Env) : Fl → Prop
  | .nx => ∀ σ' H' F', Rel K T pk B ρ' F' σ' H' → Same F F' → D.nx σ' H'
  | .brk => ∀ σ' H' F', Rel K T pk B ρ' F' σ' H' → Same F F' → D.bk σ' H'
  | .cont => ∀ σ' H' F', Rel K T pk B ρ' F' σ' H' → Same F F' → D.ct σ' H'
  | .ret d o => ∀ v σ' H' F', Rel K T pk B ρ' F' σ' H' → Same F F' → Res K B ρ' F' σ' H' d o v → D.rt v H'
def tMS (K : PySem.W.Frag) (T : List Addr) (pk : Pk) (m : MS) : TS := fun D σ H => ∃ B ρ F f ρ', Rel K T pk B ρ F σ H ∧ m ρ = some (f, ρ') ∧ EndOk K T pk B F D ρ' f
theorem EndOk.up {K : PySem.W.Frag} {T : List Addr} {pk : Pk} {B : Bs} {F F' : Hp} {D : Ends} {ρ' : Env} {f : Fl} (s : Same F F') (h : EndOk K T pk B F D ρ' f) : EndOk K T pk B F' D ρ' f := by
  cases f with
  | nx => exact fun σ' H' F2 r s2 => h σ' H' F2 r (s.trans s2)
  | brk => exact fun σ' H' F2 r s2 => h σ' H' F2 r (s.trans s2)
  | cont => exact fun σ' H' F2 r s2 => h σ' H' F2 r (s.trans s2)
  | ret d o => exact fun v σ' H' F2 r s2 => h v σ' H' F2 r (s.trans s2)
structure SS (X : Cx) (T : List Addr) (pk : Pk) (st : Stmt) (m : MS) : Prop where
  ps : PS X st (tMS X.K T pk m)
structure SB (X : Cx) (T : List Addr) (pk : Pk) (st : List Stmt) (m : MS) : Prop where
  pss : PSs X st (tMS X.K T pk m)

section
variable {X : Cx} {T : List Addr} {pk : Pk} {st : Stmt} {rest : List Stmt} {a b c e : Expr} {es : List Expr} {o oa ob oc : Opd} {os : List Opd} {m ma mb : ME} {s t : MS} {c1 : MT} {pos : Pos}
theorem ps_weak {t t' : TS} (h : PS X st t) (i : ∀ D σ H, t' D σ H → t D σ H) : PS X st t' := ⟨fun pins s σ H D I q => h.run pins s σ H D I (i D σ H q)⟩
theorem pss_weak {t t' : TS} (h : PSs X rest t) (i : ∀ D σ H, t' D σ H → t D σ H) : PSs X rest t' := ⟨fun pins s σ H D I q => h.run pins s σ H D I (i D σ H q)⟩
theorem ss_of {t : TS} (h : PS X st t) (i : ∀ D σ H B ρ F f ρ', Rel X.K T pk B ρ F σ H → s ρ = some (f, ρ') → EndOk X.K T pk B F D ρ' f → t D σ H) : SS X T pk st s :=
  ⟨ps_weak h fun D σ H ⟨B, ρ, F, f, ρ', r, e, k⟩ => i D σ H B ρ F f ρ' r e k⟩

def sNop : MS := fun ρ => some (.nx, ρ)
def sSeq (a b : MS) : MS := fun ρ => (a ρ).bind fun q => match q.1 with
  | .nx => b q.2
  | f => some (f, q.2)
theorem sb_nil : SB X T pk [] sNop := ⟨pss_weak pss_nil fun D σ H ⟨B, ρ, F, f, ρ', r, e, k⟩ => by cases e; exact k σ H F r (Same.refl F)⟩
theorem sb_cons (h1 : SS X T pk st s) (h2 : SB X T pk rest t) : SB X T pk (st :: rest) (sSeq s t) := by
  refine ⟨pss_weak (pss_cons h1.ps h2.pss) fun D σ H ⟨B, ρ, F, f, ρ', r, e, k⟩ => ?_⟩
  obtain ⟨⟨f1, ρ1⟩, e1, e2⟩ := Option.bind_eq_some_iff.mp e
  refine ⟨B, ρ, F, f1, ρ1, r, e1, ?_⟩
  cases f1 with
  | nx => exact fun σ1 H1 F1 r1 s1 => ⟨B, ρ1, F1, f, ρ', r1, e2, k.up s1⟩
  | brk => cases e2; exact k
  | cont => cases e2; exact k
  | ret d o => cases e2; exact k
theorem sb_one (h1 : SS X T pk st s) : SB X T pk [st] s := ⟨pss_weak (pss_one h1.ps) fun D σ H h => h⟩
theorem ss_pass : SS X T pk (.Pass pos) sNop := ss_of ps_pass fun D σ H B ρ F f ρ' r e k => by cases e; exact k σ H F r (Same.refl F)
def sBrk : MS := fun ρ => some (.brk, ρ)
def sCont : MS := fun ρ => some (.cont, ρ)
theorem ss_break : SS X T pk (.Break pos) sBrk := ss_of ps_break fun D σ H B ρ F f ρ' r e k => by cases e; exact k σ H F r (Same.refl F)
theorem ss_continue : SS X T pk (.Continue pos) sCont := ss_of ps_continue fun D σ H B ρ F f ρ' r e k => by cases e; exact k σ H F r (Same.refl F)

/-! storing -/
def slotOf (r : D × Bool) : Slot := if r.2 = true then .own r.1 else .val r.1
def sSet (i : Nat) (m : ME) : MS := fun ρ => (m ρ).map fun q => (.nx, q.2.set i (slotOf q.1))
theorem setRes {K : PySem.W.Frag} {B : Bs} {ρ : Env} {F : Hp} {σ : L2.St} {H : Hp} {d : D} {o : Bool} {v : V} {i : Nat} (r : Rel K T pk B ρ F σ H) (hp : pk.pin.contains i = false) (hl : pk.lock.contains i = false) (t : Res K B ρ F σ H d o v) :
    Rel K T pk B (ρ.set i (slotOf (d, o))) F (σ.set i (some v)) H := by
  have h := r.setRes (i := i) (by simpa using hp) (by simpa using hl) t
  cases o <;> exact h
theorem ss_asg {te : TE} {i : Nat} (h : PS X st (tAsg te (gName i))) (hm : ∀ σ H Q, tM X.K T pk m σ H Q → te σ H Q) (hp : pk.pin.contains i = false) (hl : pk.lock.contains i = false) : SS X T pk st (sSet i m) := by
  refine ss_of h fun D σ H B ρ F f ρ' r e k => ?_
  obtain ⟨⟨⟨d, o⟩, ρ1⟩, h1, e⟩ := Option.map_eq_some_iff.mp e
  cases e
  exact hm _ _ _ ⟨B, ρ, F, d, o, ρ1, r, h1, fun v H1 F1 r1 s1 t => k _ _ F1 (setRes r1 hp hl t) s1⟩
/-- x = e -/
theorem ss_set (i : Nat) {x : Str} {pos' : Pos} (hN : X.N.Nodup) (hi : X.N[i]? = some x) (hx : Loc X.env.scope x) (he : SE X T pk e m) (hs : swapsWith e (some (.Name x pos')) pos.line X.env = pure false := by rfl)
    (hp : pk.pin.contains i = false := by rfl) (hl : pk.lock.contains i = false := by rfl) (hf : X.fn x = true ∨ X.env.scope.names.lookup x = some .local := by first | exact .inl rfl | exact .inr rfl | assumption) :
    SS X T pk (.Assign [.Name x pos'] e pos) (sSet i m) := ss_asg (ps_set hN hi hx he.pe hs hf) (fun _ _ _ h => h) hp hl
/-- return e -/
def sRet (m : ME) : MS := fun ρ => (m ρ).map fun q => (.ret q.1.1 q.1.2, q.2)
theorem ss_ret (he : SE X T pk e m) : SS X T pk (.Return (some e) pos) (sRet m) := by
  refine ss_of (ps_ret he.pe) fun D σ H B ρ F f ρ' r h k => ?_
  obtain ⟨⟨⟨d, o⟩, ρ1⟩, h1, h⟩ := Option.map_eq_some_iff.mp h
  cases h
  exact ⟨B, ρ, F, d, o, ρ1, r, h1, fun v H1 F1 r1 s1 t => k v σ H1 F1 r1 s1 t⟩
/-- a slot handed out: its own object goes along -/
def mMove (i : Nat) : ME := fun ρ => match ρ[i]? with
  | some (.val d) => some ((d, false), ρ)
  | some (.own d) => some ((d, true), ρ.set i .un)
  | _ => none
theorem Rel.moved {K : PySem.W.Frag} {B : Bs} {ρ : Env} {F : Hp} {σ : L2.St} {H : Hp} {d : D} {i : Nat} (r : Rel K T pk B ρ F σ H) (hl : i ∉ pk.lock) (e : ρ[i]? = some (Slot.own d)) : ∃ v, σ[i]? = some (some v) ∧ Rel K T pk B (ρ.set i .un) F σ H ∧ Tmp K B (ρ.set i .un) F σ H d v := by
  obtain ⟨p, h1, h2, h3, h4⟩ := r.own i d e
  have f : ∀ {j : Nat} {d1 : D}, (ρ.set i Slot.un)[j]? = some (Slot.own d1) → j ≠ i ∧ ρ[j]? = some (Slot.own d1) := fun {j d1} q => by
    rcases get_set q with ⟨_, q⟩ | q
    · cases q
    · exact q
  refine ⟨.ref p, h1, ⟨by rw [List.length_set]; exact r.len, r.sub, r.notab, r.frs, fun j d1 q => ?_, fun j d1 q => r.own j d1 (f q).2, fun j k q d1 d2 q1 q2 => r.apart j k q d1 d2 (f q1).2 (f q2).2, r.frame, r.tab, r.pin, fun j hj q o y1 => ?_, fun j hj d1 q => r.lkd j hj d1 (f q).2⟩, p, rfl, h2, h3, h4, fun j d1 q z => (f q).1 (r.apart j i p d1 d (f q).2 e z h1)⟩
  · rcases get_set q with ⟨_, q⟩ | ⟨_, q⟩
    · cases q
    · exact r.val j d1 q
  · obtain ⟨x1, x2, x3⟩ := r.lock j hj q o y1
    refine ⟨x1, x2, x3.imp id fun ⟨d1, hd⟩ => ⟨d1, set_get hd fun z => hl (z ▸ hj)⟩⟩
theorem se_move (i : Nat) {x : Str} (hN : X.N[i]? = some x := by rfl) (hv : Vis X.env.scope x := by first | exact Or.inl rfl | exact Or.inr (Or.inl rfl) | exact Or.inr (Or.inr rfl)) (hl : pk.lock.contains i = false := by rfl) (hd : (x == ("__debug__" : Str)) = false := by decide)
    (hcd : (x == ("__classdict__" : Str)) = false := by decide) : SE X T pk (.Name x pos) (mMove i) := by
  refine se_of (pe_var hN hv hd hcd) fun σ H Q B ρ F d o ρ' r h k => ?_
  unfold mMove at h
  split at h
  · rename_i d' e
    cases h
    obtain ⟨v, h1, h2⟩ := r.val i _ e
    exact ⟨v, h1, k v H F r (Same.refl F) (res_of h2)⟩
  · rename_i d' e
    cases h
    obtain ⟨v, h1, r', t⟩ := r.moved (by simpa using hl) e
    exact ⟨v, h1, k v H F r' (Same.refl F) (res_own t)⟩
  · cases h
def sRetN : MS := fun ρ => some (.ret .non false, ρ)
theorem ss_retN : SS X T pk (.Return none pos) sRetN := ss_of ps_retN fun D σ H B ρ F f ρ' r h k => by
  cases h
  exact k _ σ H F r (Same.refl F) (res_of .non)
/-- an expression alone -/
def sDo (m : ME) : MS := fun ρ => (m ρ).map fun q => (.nx, q.2)
theorem ss_do (he : SE X T pk e m) (hs : swapsWith e none pos.line X.env = pure false := by rfl) : SS X T pk (.Expr e pos) (sDo m) := by
  refine ss_of (ps_expr he.pe hs) fun D σ H B ρ F f ρ' r h k => ?_
  obtain ⟨⟨⟨d, o⟩, ρ1⟩, h1, h⟩ := Option.map_eq_some_iff.mp h
  cases h
  exact ⟨B, ρ, F, d, o, ρ1, r, h1, fun v H1 F1 r1 s1 t => k σ H1 F1 r1 s1⟩
def sIf (c : MT) (a b : MS) : MS := fun ρ => (c ρ).bind fun q => if q.1 = true then a q.2 else b q.2
theorem ss_if {ea eb : List Stmt} (hc : ST X T pk c c1) (ha : SB X T pk ea s) (hb : SB X T pk eb t) : SS X T pk (.If c ea eb pos) (sIf c1 s t) := by
  refine ss_of (ps_if hc.pt ha.pss hb.pss) fun D σ H B ρ F f ρ' r h k => ?_
  obtain ⟨⟨b1, ρ1⟩, h1, h⟩ := Option.bind_eq_some_iff.mp h
  refine ⟨B, ρ, F, b1, ρ1, r, h1, fun H1 F1 r1 s1 => ?_⟩
  cases b1 with
  | true =>
    rw [if_pos rfl] at h ⊢
    exact ⟨B, ρ1, F1, f, ρ', r1, h, k.up s1⟩
  | false =>
    rw [if_neg Bool.false_ne_true] at h ⊢
    exact ⟨B, ρ1, F1, f, ρ', r1, h, k.up s1⟩

/-! while -/
def whileM (c : MT) (b : MS) : Nat → MS
  | 0, _ => none
  | n + 1, ρ => (c ρ).bind fun q => if q.1 = true then (b q.2).bind fun r => match r.1 with
      | .nx => whileM c b n r.2
      | .cont => whileM c b n r.2
      | .brk => some (.nx, r.2)
      | .ret d o => some (.ret d o, r.2)
    else some (.nx, q.2)
theorem ss_while {body : List Stmt} (n : Nat) (hp : PassesOwn (model X.prog X.w) X.A X.env X.xe) (hc : ST X T pk c c1) (hb : SB X T pk body s) : SS X T pk (.While c body [] pos) (whileM c1 s n) := by
  refine ss_of (ps_while hp hc.pt hb.pss) fun D σ H B ρ F f ρ' r h k => ?_
  refine ⟨fun m σ H => ∃ ρ1 F1, Rel X.K T pk B ρ1 F1 σ H ∧ Same F F1 ∧ whileM c1 s m ρ1 = some (f, ρ'), ⟨n, ρ, F, r, Same.refl F, h⟩, ?_⟩
  rintro m σ1 H1 ⟨ρ1, F1, r1, s1, h1⟩
  cases m with
  | zero => cases h1
  | succ m =>
    simp only [whileM] at h1
    obtain ⟨⟨b1, ρ2⟩, e1, h1⟩ := Option.bind_eq_some_iff.mp h1
    refine ⟨B, ρ1, F1, b1, ρ2, r1, e1, fun H2 F2 r2 s2 => ?_⟩
    cases b1 with
    | false =>
      rw [if_neg Bool.false_ne_true] at h1 ⊢
      cases h1
      exact k _ _ F2 r2 (s1.trans s2)
    | true =>
      rw [if_pos rfl] at h1 ⊢
      obtain ⟨⟨f3, ρ3⟩, e3, h1⟩ := Option.bind_eq_some_iff.mp h1
      refine ⟨fun σ' H' => ∃ ρ4 F4, Rel X.K T pk B ρ4 F4 σ' H' ∧ Same F F4 ∧ whileM c1 s m ρ4 = some (f, ρ'), fun σ' H' q => ⟨m, Nat.lt_succ_self m, q⟩, B, ρ2, F2, f3, ρ3, r2, e3, ?_⟩
      cases f3 with
      | nx => exact fun σ' H' F4 r4 s4 => ⟨ρ3, F4, r4, (s1.trans s2).trans s4, h1⟩
      | cont => exact fun σ' H' F4 r4 s4 => ⟨ρ3, F4, r4, (s1.trans s2).trans s4, h1⟩
      | brk =>
        cases h1
        exact fun σ' H' F4 r4 s4 => k σ' H' F4 r4 ((s1.trans s2).trans s4)
      | ret d o =>
        cases h1
        exact fun v σ' H' F4 r4 s4 t => k v σ' H' F4 r4 ((s1.trans s2).trans s4) t

/-! what is walked -/
abbrev MI := Env → Option (List D × Env)
/-- the iterator J gives the items, while the slots stand in Rel .. B -/
def ItOk (K : PySem.W.Frag) (T : List Addr) (pk : Pk) (L : Nat → Option (Addr × HO)) (J : It) (F : Hp) (items : List D) : Prop :=
  ∀ B ρ1 F1 σ1 H1, B.Hl = L → Rel K T pk B ρ1 F1 σ1 H1 → Same F F1 → ∀ i, (∀ d, items[i]? = some d → J.go i H1 ∧ ∀ x H2, J.yld i H1 x H2 → ∃ F2, Rel K T pk B ρ1 F2 σ1 H2 ∧ Same F1 F2 ∧ Rep K F2 d x) ∧ (items.length ≤ i → J.stop i H1)
def pkl (pk : Pk) : Option Nat → Pk
  | none => pk
  | some j => pk.lk j
def tMI (K : PySem.W.Frag) (T : List Addr) (pk : Pk) (lk : Option Nat) (m : MI) : TI := fun σ H R => ∃ B ρ F items ρ', Rel K T pk B ρ F σ H ∧ m ρ = some (items, ρ') ∧
  ∀ J H' F', Rel K T pk B ρ' F' σ H' → Same F F' → (∀ B', Rel K T (pkl pk lk) B' ρ' F' σ H' → ItOk K T (pkl pk lk) B'.Hl J F' items) → R J H'
structure SI (X : Cx) (T : List Addr) (pk : Pk) (lk : Option Nat) (tg iter : Expr) (m : MI) : Prop where
  pi : PI X tg iter (tMI X.K T pk lk m)
theorem pi_weak {tg iter : Expr} {t t' : TI} (h : PI X tg iter t) (i : ∀ σ H R, t' σ H R → t σ H R) : PI X tg iter t' := ⟨fun pins s σ H R I q => h.run pins s σ H R I (i σ H R q)⟩
theorem pi_either {tg iter : Expr} {t t' : TI} (h : PI X tg iter t) (h' : PI X tg iter t') : PI X tg iter (fun σ H R => t σ H R ∨ t' σ H R) := ⟨fun pins s σ H R I q => by
  rcases q with q | q
  · exact h.run pins s σ H R I q
  · exact h'.run pins s σ H R I q⟩

/-! targets -/
inductive Tg where
  | one (i : Nat)
  | many (is : List Nat)
def setAll : List Nat → List D → Env → Option Env
  | [], [], ρ => some ρ
  | i :: is, d :: ds, ρ => setAll is ds (ρ.set i (.val d))
  | _, _, _ => none
def tgS : Tg → D → Env → Option Env
  | .one i, d, ρ => some (ρ.set i (.val d))
  | .many is, .tup ds, ρ => setAll is ds ρ
  | _, _, _ => none
def tTg (K : PySem.W.Frag) (T : List Addr) (pk : Pk) (g : Tg) : TG := fun v σ H Q => ∃ B ρ F d ρ', Rel K T pk B ρ F σ H ∧ Rep K F d v ∧ tgS g d ρ = some ρ' ∧ ∀ σ' , Rel K T pk B ρ' F σ' H → Q σ' H
structure SG (X : Cx) (T : List Addr) (pk : Pk) (tg : Expr) (g : Tg) : Prop where
  pg : PG X tg (tTg X.K T pk g)
theorem pg_weak {tg : Expr} {t t' : TG} (h : PG X tg t) (i : ∀ v σ H Q, t' v σ H Q → t v σ H Q) : PG X tg t' := ⟨fun pins s σ H v u Q I r q => h.run pins s σ H v u Q I r (i v σ H Q q)⟩
theorem sg_one (i : Nat) {x : Str} (hN : X.N.Nodup) (hi : X.N[i]? = some x) (hx : Loc X.env.scope x) (hp : pk.pin.contains i = false := by rfl) (hl : pk.lock.contains i = false := by rfl)
    (hf : X.fn x = true ∨ X.env.scope.names.lookup x = some .local := by first | exact .inl rfl | exact .inr rfl | assumption) : SG X T pk (.Name x pos) (.one i) :=
  ⟨pg_weak (pg_name hN hi hx hf) fun v σ H Q ⟨B, ρ, F, d, ρ', r, rp, e, k⟩ => by
    cases e
    exact k _ (setRes (o := false) r hp hl (res_of rp))⟩
/-- several names -/
structure SGs (X : Cx) (T : List Addr) (pk : Pk) (ts : List Expr) (is : List Nat) : Prop where
  pgs : PGs X ts (fun vs σ H Q => ∃ B ρ F ds ρ', Rel X.K T pk B ρ F σ H ∧ Reps X.K F ds vs ∧ setAll is ds ρ = some ρ' ∧ ∀ σ', Rel X.K T pk B ρ' F σ' H → Q σ' H)
theorem sgs_nil : SGs X T pk [] [] := ⟨⟨fun pins s σ H vs us Q I r h => by
  obtain ⟨B, ρ, F, ds, ρ', rel, rs, e, k⟩ := h
  cases ds with
  | nil =>
    cases e
    cases rs
    exact pgs_nil.run pins s σ H [] us Q I r ⟨rfl, k σ rel⟩
  | cons d ds => cases e⟩⟩
theorem sgs_cons {is : List Nat} {ts : List Expr} (i : Nat) {x : Str} {xp : Pos} (hN : X.N.Nodup) (hi : X.N[i]? = some x) (hx : Loc X.env.scope x) (hr : SGs X T pk ts is) (hp : pk.pin.contains i = false := by rfl) (hl : pk.lock.contains i = false := by rfl)
    (hf : X.fn x = true ∨ X.env.scope.names.lookup x = some .local := by first | exact .inl rfl | exact .inr rfl | assumption)
    (hs : (assignEach (.Name x xp :: ts) X.env).map (·.2) = assign (.Name x xp) X.env :: (assignEach ts X.env).map (·.2) := by rfl) : SGs X T pk (.Name x xp :: ts) (i :: is) := by
  refine ⟨⟨fun pins s σ H vs us Q I r h => ?_⟩⟩
  obtain ⟨B, ρ, F, ds, ρ', rel, rs, e, k⟩ := h
  cases ds with
  | nil => cases e
  | cons d ds =>
    cases rs with
    | cons rd rt =>
      refine (pgs_cons (pg_name hN hi hx hf) hr.pgs hs).run pins s σ H _ us Q I r ⟨_, _, rfl, B, ρ.set i (.val d), F, ds, ρ', ?_, rt, e, k⟩
      exact setRes (o := false) rel hp hl (res_of rd)
theorem sg_many {is : List Nat} {ts : List Expr} {n k : Nat} (hc : X.calm = true) (h : SGs X T pk ts is) (hn : (assignEach ts X.env).length = n := by rfl) (hst : (assignEach ts X.env).findIdx? (·.1) = none := by rfl) (hi : is.length = n := by rfl) : SG X T pk (.Tuple ts k pos) (.many is) := by
  refine ⟨pg_weak (pg_tup hc h.pgs hn hst) fun v σ H Q ⟨B, ρ, F, d, ρ', r, rp, e, kk⟩ => ?_⟩
  have len : ∀ (is : List Nat) (ds : List D) (ρ ρ' : Env), setAll is ds ρ = some ρ' → ds.length = is.length := by
    intro is
    induction is with
    | nil => intro ds ρ ρ' h; cases ds with
      | nil => rfl
      | cons _ _ => cases h
    | cons i is ih => intro ds ρ ρ' h; cases ds with
      | nil => cases h
      | cons d ds => exact congrArg (· + 1) (ih ds _ _ h)
  cases rp with
  | tup hF rs => exact ⟨_, _, rfl, .of (r.sub _ _ hF), by rw [← rs.len, len _ _ _ _ e, hi], B, ρ, F, _, ρ', r, rs, e, kk⟩
  | _ => cases e

/-! for -/
def forM (g : Tg) (b : MS) : List D → MS
  | [], ρ => some (.nx, ρ)
  | d :: r, ρ => (tgS g d ρ).bind fun ρ1 => (b ρ1).bind fun q => match q.1 with
    | .nx => forM g b r q.2
    | .cont => forM g b r q.2
    | .brk => some (.nx, q.2)
    | .ret d o => some (.ret d o, q.2)
def sFor (i : MI) (g : Tg) (b : MS) : MS := fun ρ => (i ρ).bind fun q => forM g b q.1 q.2
theorem Res.base {K : PySem.W.Frag} {B B' : Bs} {ρ : Env} {F : Hp} {σ : L2.St} {H : Hp} {d : D} {o : Bool} {v : V} (h0 : B'.H0 = B.H0) (h1 : B'.io = B.io) (h : Res K B' ρ F σ H d o v) : Res K B ρ F σ H d o v := by
  unfold Res Tmp at h ⊢
  rw [h0, h1] at h
  exact h
theorem lock_of {K : PySem.W.Frag} {B : Bs} {ρ : Env} {F : Hp} {σ : L2.St} {H : Hp} (lk : Option Nat) (hl : ∀ j, lk = some j → pk.lock.contains j = false) (r : Rel K T pk B ρ F σ H) :
    ∃ B' : Bs, B'.H0 = B.H0 ∧ B'.io = B.io ∧ Rel K T (pkl pk lk) B' ρ F σ H ∧ ∀ ρ' F' σ' H', Rel K T (pkl pk lk) B' ρ' F' σ' H' → Rel K T pk B ρ' F' σ' H' := by
  cases lk with
  | none => exact ⟨B, rfl, rfl, r, fun _ _ _ _ h => h⟩
  | some j => exact r.lockOn (by simpa using hl j rfl)
theorem ss_for {tg iter : Expr} {body : List Stmt} {mi : MI} {g : Tg} (lk : Option Nat) (hp : PassesOwn (model X.prog X.w) X.A X.env X.xe) (hc : X.calm = true) (hi : SI X T pk lk tg iter mi) (hg : SG X T (pkl pk lk) tg g) (hb : SB X T (pkl pk lk) body s)
    (hl : ∀ j, lk = some j → pk.lock.contains j = false := by intro j e; cases e <;> rfl) (hs : ∀ x, foldedSetIterable iter X.env x = pure x := by intro _; rfl) : SS X T pk (.For tg iter body [] pos) (sFor mi g s) := by
  refine ss_of (ps_for hp hc hi.pi hg.pg hb.pss hs) fun D σ H B ρ F f ρ' r h k => ?_
  obtain ⟨⟨items, ρ1⟩, h1, h⟩ := Option.bind_eq_some_iff.mp h
  refine ⟨B, ρ, F, items, ρ1, r, h1, fun J H1 F1 r1 s1 it => ?_⟩
  obtain ⟨B', b0, b1, r1', back⟩ := lock_of lk hl r1
  have ok := it B' r1'
  refine ⟨fun i m σ H => ∃ ρ2 F2, Rel X.K T (pkl pk lk) B' ρ2 F2 σ H ∧ Same F1 F2 ∧ m = items.length - i ∧ forM g s (items.drop i) ρ2 = some (f, ρ'), ⟨_, ρ1, F1, r1', Same.refl F1, rfl, by rw [List.drop_zero]; exact h⟩, ?_⟩
  rintro i m σ2 H2 ⟨ρ2, F2, r2, s2, rfl, h2⟩
  obtain ⟨go, stop⟩ := ok B' ρ2 F2 σ2 H2 rfl r2 s2 i
  by_cases hlt : i < items.length
  · refine .inr ?_
    obtain ⟨g1, g2⟩ := go items[i] (List.getElem?_eq_getElem hlt)
    rw [List.drop_eq_getElem_cons hlt] at h2
    simp only [forM] at h2
    obtain ⟨ρ3, e3, h2⟩ := Option.bind_eq_some_iff.mp h2
    obtain ⟨⟨f4, ρ4⟩, e4, h2⟩ := Option.bind_eq_some_iff.mp h2
    refine ⟨g1, fun σ' H' => ∃ ρ5 F5, Rel X.K T (pkl pk lk) B' ρ5 F5 σ' H' ∧ Same F1 F5 ∧ forM g s (items.drop (i + 1)) ρ5 = some (f, ρ'), fun σ' H' ⟨ρ5, F5, r5, s5, h5⟩ => ⟨items.length - (i + 1), by omega, ρ5, F5, r5, s5, rfl, h5⟩, fun x H3 y => ?_⟩
    obtain ⟨F3, r3, s3, rp⟩ := g2 x H3 y
    refine ⟨B', ρ2, F3, items[i], ρ3, r3, rp, e3, fun σ3 r3' => ⟨B', ρ3, F3, f4, ρ4, r3', e4, ?_⟩⟩
    cases f4 with
    | nx => exact fun σ' H' F5 r5 s5 => ⟨ρ4, F5, r5, (s2.trans s3).trans s5, h2⟩
    | cont => exact fun σ' H' F5 r5 s5 => ⟨ρ4, F5, r5, (s2.trans s3).trans s5, h2⟩
    | brk =>
      cases h2
      exact fun σ' H' F5 r5 s5 => k σ' H' F5 (back _ _ _ _ r5) (s1.trans ((s2.trans s3).trans s5))
    | ret d o =>
      cases h2
      exact fun v σ' H' F5 r5 s5 t => k v σ' H' F5 (back _ _ _ _ r5) (s1.trans ((s2.trans s3).trans s5)) (t.base b0 b1)
  · have e0 : items.drop i = [] := List.drop_eq_nil_of_le (by omega)
    rw [e0] at h2
    cases h2
    exact .inl ⟨stop (by omega), k _ _ F2 (back _ _ _ _ r2) (s1.trans s2)⟩
end
end Eng
set_option Elab.async false
set_option linter.all false
set_option maxRecDepth 100000
/-! EngTA: enumerate over a tuple. -/
namespace Eng
open PySem PySem.Spec PyProof.Rows L2
open Sem (wp)
open AutoSeq1 (wpAny_loadPart')
theorem tupIter_at {h h' : Heap} {a t i} (x : IsTupIter h a t i) (e : ∀ o, h.get? a = some o → h'.get? a = some o) : IsTupIter h' a t i := let ⟨o, ho, r⟩ := x; ⟨o, e _ ho, r⟩
theorem enumT_new (l : Addr) (items : Array Value) (n : Nat) (dct : Option Addr) (sl : Array (Option Value)) :
    Meets (Builtin.«enumerate.__new__» ⟨[.type "enumerate", .ref l], []⟩) (fun _ R s => s.heap.get? l = some { cls := .type "tuple", dict := dct, data := .seq items n, slots := sl } ∧
      R (.ok (.ret (.ref (s.heap.push { cls := .type "tuple_iterator", data := .fields #[.ref l, .int 0 0] }).objs.size)))
        { s with heap := (s.heap.push { cls := .type "tuple_iterator", data := .fields #[.ref l, .int 0 0] }).push { cls := .type "enumerate", data := .fields #[.none, .bool false, .ref s.heap.objs.size, rawInt 0, .none, .none] } }) :=
  .of_wp fun prog w A R s h => by
    obtain ⟨hp, g, d, tk, os⟩ := s; obtain ⟨hl, h⟩ := h
    have hsub := sub_enumerate
    have hL : IsTup (Shared.heap ⟨hp, g, d, tk, os⟩) l items := ⟨_, hl, rfl, n, rfl⟩
    wp_walk using wpAny_loadPart' hl
    refine wpAny_stack_any fun st => wpAny_pure ?_
    split
    · rename_i c _ _ _ _ _
      cases (c == Value.type "enumerate")
      · wp_walk using wpAny_loadPart' hl, iter_tuple hL
        exact ⟨_, rfl, h⟩
      · wp_walk using wpAny_loadPart' hl, iter_tuple hL
        exact ⟨_, rfl, h⟩
    · wp_walk using wpAny_loadPart' hl, iter_tuple hL
      exact ⟨_, rfl, h⟩
section
variable {prog : Program} {w : World} {A : Around} {E : Value → Shared → Prop} {s : Shared}
theorem call_enumT {l : Addr} {items : Array Value} {Q : Value → Shared → Prop} (hL : IsTup s.heap l items)
    (h : ∀ h', IsEnum h' (s.heap.objs.size + 1) s.heap.objs.size 0 .none → IsTupIter h' s.heap.objs.size l 0 → h'.objs.size = s.heap.objs.size + 2 →
      (∀ b o, s.heap.get? b = some o → h'.get? b = some o) → Q (.ref (s.heap.objs.size + 1)) { s with heap := h' }) :
    wpAny (model prog w) A (call (.type "enumerate") [.ref l]) Q E s := by
  obtain ⟨⟨c, dct, dt, sl⟩, hl, hc, n, hd⟩ := hL
  replace hc : c = .type "tuple" := hc
  replace hd : dt = .seq items n := hd
  subst hc hd
  refine callType_new F.called_enumerate (by decide) (F.typeCall_enumerate_1 _) (F.newCall_enumerate_1 _) (fun obj => F.args_object_init_2 obj _) F.entry_enumerate_new
    (enumT_new l items n dct sl) ⟨hl, ?_⟩
  have hz : (s.heap.push { cls := .type "tuple_iterator", data := .fields #[.ref l, .int 0 0] }).objs.size = s.heap.objs.size + 1 := Heap.size_push ..
  show _ ∧ _
  rw [hz]
  have he : IsEnum ((s.heap.push { cls := .type "tuple_iterator", data := .fields #[.ref l, .int 0 0] }).push
      { cls := .type "enumerate", data := .fields #[.none, .bool false, .ref s.heap.objs.size, rawInt 0, .none, .none] }) (s.heap.objs.size + 1) s.heap.objs.size 0 .none := by
    have := Heap.get?_push_size (s.heap.push { cls := .type "tuple_iterator", data := .fields #[.ref l, .int 0 0] })
      (o := { cls := .type "enumerate", data := .fields #[.none, .bool false, .ref s.heap.objs.size, rawInt 0, .none, .none] }) rfl
    rw [hz] at this; exact this
  refine ⟨⟨_, he, rfl⟩, h _ he ⟨_, Heap.get?_push_of_some _ (Heap.get?_push_size _ rfl), rfl, rfl⟩ (by rw [Heap.size_push, hz]) fun b o x => Heap.get?_push_of_some _ (Heap.get?_push_of_some _ x)⟩

theorem nextOf_tup_item {it l : Addr} {i : Nat} {items} {x : Value} {Q : Value → Shared → Prop} (hit : IsTupIter s.heap it l i)
    (hl : IsTup s.heap l items) (hx : items[i]? = some x)
    (hQ : ∀ h', IsTupIter h' it l (i + 1) → Heap.SameBut it s.heap h' → Q x { s with heap := h' }) :
    wpAny (model prog w) A (Builtin.SmallTypes.nextOf (.ref it)) Q E s := by
  obtain ⟨o, ho, hc, hd⟩ := id hit
  obtain ⟨ol, hol, _, nl, hdl⟩ := hl
  unfold Builtin.SmallTypes.nextOf
  refine wpAny_bind (wpAny_callSpecial?_slot (name := Str.ofString "__next__") hit.typeIs slot_tupleiter_next
    (wpAny_call_entry slot_tupleiter_next hit.typeIs entry_tupleiter_next ?_ (args_tupleiter_next _)))
  show wpAny _ _ (field (.ref it) 0 >>= _) _ _ s
  refine wpAny_bind (wpAny_field ho hd (x := .ref l) rfl ?_)
  show wpAny _ _ (if (Value.ref l == Value.none) = true then _ else _) _ _ s
  rw [if_neg (show ¬ ((Value.ref l == Value.none) = true) from Bool.false_ne_true)]
  show wpAny _ _ (field (.ref it) 1 >>= _) _ _ s
  refine wpAny_bind (wpAny_field ho hd (x := .int i 0) rfl ?_)
  show wpAny _ _ (seqItems? (.ref l) >>= _) _ _ s
  refine wpAny_bind (wpAny_seqItems hol hdl ?_)
  simp only [Int.toNat_natCast, hx]
  refine wpAny_bind (wpAny_setField ho hd (by simp) (wpAny_pure ⟨x, rfl, wpAny_pure (hQ _ ?_ (Heap.SameBut.update ..))⟩))
  exact ⟨_, Heap.get?_update_self _ ho (Obj.isFreed_of_fields (Obj.data_mapFields hd _)), (Obj.cls_mapFields ..).trans hc, by
    rw [Obj.data_mapFields hd]; simp [rawInt]⟩

theorem nextOf_tup_end {it l : Addr} {i : Nat} {items} {Q : Value → Shared → Prop} (hh : A.handled = none)
    (hit : IsTupIter s.heap it l i) (hl : IsTup s.heap l items) (hx : items[i]? = none)
    (hE : ∀ h' e, Heap.ExtBut it s.heap h' → (∃ o, h'.get? e = some o ∧ o.cls = .type "StopIteration") → E (.ref e) { s with heap := h' }) :
    wpAny (model prog w) A (Builtin.SmallTypes.nextOf (.ref it)) Q E s := by
  obtain ⟨o, ho, hc, hd⟩ := id hit
  obtain ⟨ol, hol, _, nl, hdl⟩ := hl
  unfold Builtin.SmallTypes.nextOf
  refine wpAny_bind (wpAny_callSpecial?_slot (name := Str.ofString "__next__") hit.typeIs slot_tupleiter_next
    (wpAny_call_entry slot_tupleiter_next hit.typeIs entry_tupleiter_next ?_ (args_tupleiter_next _)))
  show wpAny _ _ (field (.ref it) 0 >>= _) _ _ s
  refine wpAny_bind (wpAny_field ho hd (x := .ref l) rfl ?_)
  show wpAny _ _ (if (Value.ref l == Value.none) = true then _ else _) _ _ s
  rw [if_neg (show ¬ ((Value.ref l == Value.none) = true) from Bool.false_ne_true)]
  show wpAny _ _ (field (.ref it) 1 >>= _) _ _ s
  refine wpAny_bind (wpAny_field ho hd (x := .int i 0) rfl ?_)
  show wpAny _ _ (seqItems? (.ref l) >>= _) _ _ s
  refine wpAny_bind (wpAny_seqItems hol hdl ?_)
  simp only [Int.toNat_natCast, hx]
  refine wpAny_bind (wpAny_rule (wpAny_bind (wpAny_setField ho hd (by simp) ?_)))
  show wpAny _ _ (newExc (.type "StopIteration") [] >>= _) _ _ _
  refine wpAny_bind ?_
  simp only [newExc, newTuple]
  refine wpAny_bind (wpAny_newObj_type ?_ (by size_fits))
  refine wpAny_bind (m := firstArgMember _ _) (wpAny_of_eq (a := Value.none) (by first | rfl | (simp only [firstArgMember]; rfl)) ?_)
  refine wpAny_newObj_type ?_ (by size_fits)
  simp only [raiseNew]
  refine wpAny_bind (wpAny_handled ?_)
  first | rw [show A.in1.handled = none from hh] | rw [hh]
  refine wpAny_bind (wpAny_pure (wpAny_throw ?_))
  exact hE _ _ (((Heap.SameBut.update ..).extBut.push _).push _) ⟨_, Heap.get?_push_size _ rfl, rfl⟩

theorem enumT_next_item {e it l : Addr} {i : Nat} {items : Array Value} {x old : Value} {Q : Value → Shared → Prop}
    (he : IsEnum s.heap e it i old) (hit : IsTupIter s.heap it l i) (hl : IsTup s.heap l items) (hx : items[i]? = some x) (hne : e ≠ it)
    (hQ : ∀ h', IsEnumOut h' e it ((i : Int) + 1) x s.heap.objs.size → IsTupIter h' it l (i + 1) →
      h'.get? s.heap.objs.size = some { cls := .type "tuple", data := .seq #[.int i s.toks, x] } → h'.objs.size = s.heap.objs.size + 1 →
      (∀ b o, b ≠ e → b ≠ it → s.heap.get? b = some o → h'.get? b = some o) → Q (.ref s.heap.objs.size) { s with heap := h', toks := s.toks + 1 }) :
    wpAny (model prog w) A (Builtin.«enumerate.__next__» ⟨[.ref e], []⟩) (fun fin s' => ∃ v, fin = .done (.ret v) ∧ Q v s') E s := by
  obtain ⟨hp, g, d, tk, os⟩ := s
  show wpAny _ _ (field (.ref e) 2 >>= _) _ _ _
  refine wpAny_bind (wpAny_field he rfl (x := .ref it) rfl ?_)
  refine wpAny_bind (nextOf_tup_item hit hl hx fun h₁ hit₁ hs₁ => ?_)
  replace hs₁ : Heap.SameBut it hp h₁ := hs₁
  have he₁ : IsEnum h₁ e it i old := (hs₁.2 e hne).trans he
  show wpAny _ _ (field (.ref e) 3 >>= _) _ _ ⟨h₁, g, d, tk, os⟩
  refine wpAny_bind (wpAny_field he₁ rfl (x := rawInt i) rfl ?_)
  show wpAny _ _ (field (.ref e) 4 >>= _) _ _ ⟨h₁, g, d, tk, os⟩
  refine wpAny_bind (wpAny_field he₁ rfl (x := .none) rfl ?_)
  show wpAny _ _ (mkInt i >>= _) _ _ ⟨h₁, g, d, tk, os⟩
  refine wpAny_bind (wpAny_mkInt ?_)
  show wpAny _ _ (setField (.ref e) 3 (rawInt ((i : Int) + 1)) >>= _) _ _ ⟨h₁, g, d, tk + 1, os⟩
  refine wpAny_bind (wpAny_setField_rec he₁ (by simp) fun h₂ he₂ hs₂ => ?_)
  replace hs₂ : Heap.SameBut e h₁ h₂ := hs₂
  replace he₂ : IsEnum h₂ e it ((i : Int) + 1) old := he₂
  show wpAny _ _ (setField (.ref e) 4 .none >>= _) _ _ ⟨h₂, g, d, tk + 1, os⟩
  refine wpAny_bind (wpAny_setField_rec he₂ (by simp) fun h₃ he₃ hs₃ => ?_)
  replace hs₃ : Heap.SameBut e h₂ h₃ := hs₃
  replace he₃ : IsEnum h₃ e it ((i : Int) + 1) old := he₃
  show wpAny _ _ (newTuple [.int i tk, x] >>= _) _ _ ⟨h₃, g, d, tk + 1, os⟩
  refine wpAny_bind (wpAny_newTuple ?_)
  have he₄ : IsEnum (h₃.push { cls := .type "tuple", data := .seq #[.int i tk, x] }) e it ((i : Int) + 1) old := Heap.get?_push_of_some _ he₃
  generalize hh₄ : h₃.push { cls := .type "tuple", data := .seq #[.int i tk, x] } = h₄ at he₄
  have hsz : h₃.objs.size = hp.objs.size := by rw [hs₃.1, hs₂.1, hs₁.1]
  have hel : e < hp.objs.size := Heap.lt_size he
  have ht₄ : h₄.get? hp.objs.size = some { cls := .type "tuple", data := .seq #[.int i tk, x] } := by rw [← hh₄, ← hsz]; exact Heap.get?_push_size _ rfl
  have hz₄ : h₄.objs.size = hp.objs.size + 1 := by rw [← hh₄, Heap.size_push, hsz]
  have hk₄ : ∀ b o, b ≠ e → b ≠ it → hp.get? b = some o → h₄.get? b = some o := fun b o hbe hbi hb => by
    rw [← hh₄]; exact Heap.get?_push_of_some _ (hs₃.extBut b o hbe (hs₂.extBut b o hbe (hs₁.extBut b o hbi hb)))
  have hit₄ : IsTupIter h₄ it l (i + 1) := by
    rw [← hh₄]; obtain ⟨o, ho, r⟩ := (hit₁.extBut hs₂.extBut (Ne.symm hne)).extBut hs₃.extBut (Ne.symm hne); exact ⟨o, Heap.get?_push_of_some _ ho, r⟩
  show wpAny _ _ (Builtin.SmallTypes.ownedTupleIsFree (.ref e) >>= _) _ _ ⟨h₄, g, d, tk + 1, os⟩
  rw [hsz]
  clear hh₄ he₃ hs₃ he₂ hs₂ he₁ hs₁ hit₁ hsz h₃ h₂ h₁
  refine wpAny_bind ?_
  · unfold Builtin.SmallTypes.ownedTupleIsFree
    refine wpAny_bind (wpAny_field he₄ rfl (x := .none) rfl (wpAny_pure ?_))
    simp only [if_true]
    refine wpAny_bind (wpAny_rule ?_)
    refine wpAny_bind (wpAny_field he₄ rfl (x := old) rfl ?_)
    refine wpAny_bind (wpAny_setField_rec he₄ (by simp) fun h₅ he₅ hs₅ => ?_)
    replace hs₅ : Heap.SameBut e h₄ h₅ := hs₅
    replace he₅ : IsEnum h₅ e it ((i : Int) + 1) x := he₅
    show wpAny _ _ (Builtin.SmallTypes.ownedTupleHandOut (.ref e) (.ref hp.objs.size) >>= _) _ _ ⟨h₅, g, d, tk + 1, os⟩
    refine wpAny_bind ?_
    · unfold Builtin.SmallTypes.ownedTupleHandOut
      refine wpAny_bind (wpAny_setField_rec he₅ (by simp) fun h₆ he₆ hs₆ => ?_)
      replace hs₆ : Heap.SameBut e h₅ h₆ := hs₆
      replace he₆ : IsEnumOut h₆ e it ((i : Int) + 1) x hp.objs.size := he₆
      refine wpAny_setField_rec he₆ (by simp) fun h₇ he₇ hs₇ => ?_
      replace hs₇ : Heap.SameBut e h₆ h₇ := hs₇
      replace he₇ : IsEnumOut h₇ e it ((i : Int) + 1) x hp.objs.size := he₇
      refine wpAny_bind (wpAny_letGo (wpAny_pure ⟨_, rfl, hQ h₇ he₇ ?_ ?_ ?_ ?_⟩))
      · exact ((hit₄.extBut hs₅.extBut (Ne.symm hne)).extBut hs₆.extBut (Ne.symm hne)).extBut hs₇.extBut (Ne.symm hne)
      · exact hs₇.extBut _ _ (Nat.ne_of_gt hel) (hs₆.extBut _ _ (Nat.ne_of_gt hel) (hs₅.extBut _ _ (Nat.ne_of_gt hel) ht₄))
      · rw [hs₇.1, hs₆.1, hs₅.1, hz₄]
      · exact fun b o hbe hbi hb => hs₇.extBut b o hbe (hs₆.extBut b o hbe (hs₅.extBut b o hbe (hk₄ b o hbe hbi hb)))

theorem pyNext_enumT_item {e it l : Addr} {i : Nat} {items : Array Value} {x old : Value} {Q : Option Value → Shared → Prop}
    (he : IsEnum s.heap e it i old) (hit : IsTupIter s.heap it l i) (hl : IsTup s.heap l items) (hx : items[i]? = some x) (hne : e ≠ it)
    (hQ : ∀ h', IsEnumOut h' e it ((i : Int) + 1) x s.heap.objs.size → IsTupIter h' it l (i + 1) →
      h'.get? s.heap.objs.size = some { cls := .type "tuple", data := .seq #[.int i s.toks, x] } → h'.objs.size = s.heap.objs.size + 1 →
      (∀ b o, b ≠ e → b ≠ it → s.heap.get? b = some o → h'.get? b = some o) → Q (some (.ref s.heap.objs.size)) { s with heap := h', toks := s.toks + 1 }) :
    wpAny (model prog w) A (pyNext (.ref e)) Q E s := by
  have hT : s.TypeIs (.ref e) "enumerate" := ⟨_, he, rfl⟩
  unfold pyNext
  exact wpAny_bind (wpAny_attempt (wpAny_callSpecial?_slot (name := Str.ofString "__next__") hT F.slot_enumerate_next
    (wpAny_call_entry F.slot_enumerate_next hT F.entry_enumerate_next
      (enumT_next_item he hit hl hx hne fun h' a b c d k => wpAny_pure (hQ h' a b c d k)) (F.args_enumerate_next_1 _))))

theorem pyNext_enumT_end {e it l : Addr} {i : Nat} {items : Array Value} {old : Value} {Q : Option Value → Shared → Prop} (hh : A.handled = none)
    (he : IsEnum s.heap e it i old) (hit : IsTupIter s.heap it l i) (hl : IsTup s.heap l items) (hx : items[i]? = none)
    (hQ : ∀ h', Heap.ExtBut it s.heap h' → Q none { s with heap := h' }) : wpAny (model prog w) A (pyNext (.ref e)) Q E s := by
  have hT : s.TypeIs (.ref e) "enumerate" := ⟨_, he, rfl⟩
  unfold pyNext
  refine wpAny_bind (wpAny_attempt (wpAny_callSpecial?_slot (name := Str.ofString "__next__") hT F.slot_enumerate_next
    (wpAny_call_entry F.slot_enumerate_next hT F.entry_enumerate_next ?_ (F.args_enumerate_next_1 _))))
  show wpAny _ _ (field (.ref e) 2 >>= _) _ _ _
  refine wpAny_bind (wpAny_field he rfl (x := .ref it) rfl ?_)
  refine wpAny_bind (nextOf_tup_end hh hit hl hx fun h' x he' hx' => ?_)
  obtain ⟨o, ho, hc⟩ := hx'
  refine wpAny_bind (wpAny_isInstance (T := "StopIteration") (b := true) ⟨o, ho, hc⟩ isSubtype_stop ?_)
  exact wpAny_pure (hQ _ he')
end
/-- a tuple, each item in a new pair -/
def IteT (K : PySem.W.Frag) (a : Addr) : It :=
  ⟨fun i H => ∃ (xs : List V) (x : V), SqT K H a xs ∧ xs[i]? = some x, fun i H v H' => ∃ T x, v = .ref T ∧ H T = none ∧ H' = upd H T (.tup [.int (i : Nat), x]) ∧ ∀ xs, SqT K H a xs → xs[i]? = some x, fun i H => ∃ xs : List V, SqT K H a xs ∧ xs.length ≤ i⟩
theorem turn_enumT {P : Program} {w : World} {K : PySem.W.Frag} {elts : List Expr} {kk : Nat} {tpos : Pos} (a e it : Addr) :
    Turn P w K (.Tuple elts kk tpos) (IteT K a) [e, it] e (fun i h => (∃ old, IsEnum h e it ((i : Nat) : Int) old) ∧ IsTupIter h it a i ∧ e ≠ it) where
  mem := by simp
  obj := fun i h st b hb => by
    obtain ⟨⟨old, he⟩, ⟨o, ho, hc, hd⟩, _⟩ := st
    have e' : b = e ∨ b = it := by simpa using hb
    rcases e' with z | z
    · rw [z]; exact ⟨_, he, fun v q => nomatch q⟩
    · rw [z]; exact ⟨o, ho, fun v q => by rw [hd] at q; cases q⟩
  keep := fun i h h' st k => let ⟨⟨old, he⟩, hi, hne⟩ := st; ⟨⟨old, k e (by simp) _ he⟩, tupIter_at hi fun o q => k it (by simp) o q, hne⟩
  item := by
    intro X hP hw hK hc i pins s σ H E I hf st hg
    subst hP hw hK
    obtain ⟨⟨old, he⟩, hit, hne⟩ := st
    obtain ⟨xs, x, hq, hx⟩ := hg
    obtain ⟨its, rv, p, hz⟩ := I.tuple hq
    obtain ⟨u, hu, ru⟩ := rv.get hx
    have hel : e < s.heap.objs.size := Heap.lt_size he
    have hil : it < s.heap.objs.size := by obtain ⟨_, q, _⟩ := hit; exact Heap.lt_size q
    refine pyNext_enumT_item he hit p (x := u) (by simpa using hu) hne fun h' ho hit' hT hsz hk => ?_
    refine ⟨_, rfl, wpAny_letOwnedTupleGo_enum (s := { s with heap := h', toks := s.toks + 1 }) ho fun h'' he' sb => ?_⟩
    have hT2 : h''.get? s.heap.objs.size = some { cls := .type "tuple", data := .seq #[.int i s.toks, u] } := (sb.2 _ (Nat.ne_of_gt hel)).trans hT
    have new : ObjOk X.prog X.w (upd H s.heap.objs.size (.tup [.int (i : Nat), x])) h'' s.heap.objs.size (.tup [.int (i : Nat), x]) :=
      ⟨by show 2 ≤ sizeLine; decide, [.int i s.toks, u], .cons ⟨_, rfl⟩ (.cons ru .nil), ⟨_, hT2, rfl, _, rfl⟩⟩
    have I1 : Inv X pins σ (upd H s.heap.objs.size (.tup [.int (i : Nat), x])) { s with heap := h'', toks := s.toks + 1 } :=
      I.turnedNew (ch := [e, it]) (fun b ob hb q => (sb.2 b (fun z => hb (by simp [z]))).trans (hk b ob (fun z => hb (by simp [z])) (fun z => hb (by simp [z])) q)) hf (Nat.le_refl _) new
    refine ⟨.ref s.heap.objs.size, _, I1, rfl, ⟨_, x, rfl, I.hok.fresh (Nat.le_refl _), rfl, fun ys hy => by rw [I.tuple_inj hy hq]; exact hx⟩, ⟨⟨u, ?_⟩, tupIter_at hit' fun o q => (sb.2 it (Ne.symm hne)).trans q, hne⟩, fun b hb => ?_⟩
    · have e1 : ((i + 1 : Nat) : Int) = (i : Int) + 1 := by omega
      rw [e1]; exact he'
    · have hb' : b < s.heap.objs.size := by
        have e' : b = e ∨ b = it := by simpa using hb
        rcases e' with z | z
        · rw [z]; exact hel
        · rw [z]; exact hil
      rw [upd_ne (Nat.ne_of_lt hb')]
      exact (hf b hb).1
  done := by
    intro X hP hw hK hc i pins s σ H E I hf st hg
    subst hP hw hK
    obtain ⟨⟨old, he⟩, hit, hne⟩ := st
    obtain ⟨xs, hq, hx⟩ := hg
    obtain ⟨its, rv, p, hz⟩ := I.tuple hq
    obtain ⟨f0, f1, f2, f3, f4, f5⟩ := hf it (by simp)
    have hl := rv.length
    exact pyNext_enumT_end (I.ok.hd hc) he hit p (by simp; omega) fun h' eb => ⟨rfl, I.turned (t' := s.toks) (fun b o hb q => eb b o hb q) f0 f1 f3 f4 f5⟩
  self := fun A i s Q E st h => let ⟨⟨_, he⟩, _⟩ := st; wpAny_pyIter_enum he h
/-- enumerate over a list or a tuple -/
def iEnumX (K : PySem.W.Frag) (ta : TA) : TI := fun σ H R => ta σ H fun vs H1 => ∃ a xs, vs = [.ref a] ∧ ((SqL K H1 a xs ∧ R (Ite K a) H1) ∨ (SqT K H1 a xs ∧ R (IteT K a) H1))
theorem pi_enumX {X : Cx} {e : Expr} {ta : TA} {p pos tpos : Pos} {elts : List Expr} {kk : Nat} (hg : Gl X "enumerate") (hm : X.mg "enumerate" = none) (ha : PA X [e] ta) (hs : starEach [e] X.env = [(false, eval e X.env)] := by rfl) :
    PI X (.Tuple elts kk tpos) (.Call (.Name "enumerate" p) [e] [] pos) (iEnumX X.K ta) := by
  refine ⟨fun pins s σ H R I h => ?_⟩
  refine Call_ (ld_blt I hg hm boot_enumerate (PyProof.Rows.callWith_type1 (thn (ha.run pos pins s σ H _ I h) fun us s1 ⟨vs, H1, I1, r1, q1⟩ => ?_) hs rfl))
  obtain ⟨a, xs, ex, hq⟩ := q1
  subst ex
  cases r1 with
  | cons r rr =>
    cases rr
    cases r
    have hfin : ∀ b, b ∈ [s1.heap.objs.size + 1, s1.heap.objs.size] → s1.heap.objs.size ≤ b := fun b hb => by
      have e' : b = s1.heap.objs.size + 1 ∨ b = s1.heap.objs.size := by simpa using hb
      rcases e' with z | z
      · rw [z]; exact Nat.le_add_right _ _
      · rw [z]; exact Nat.le_refl _
    rcases hq with ⟨hq, q⟩ | ⟨hq, q⟩
    · obtain ⟨its, rv, p', hz⟩ := I1.list hq
      refine call_enumerate_list p'.isList fun h' he hit hsz hk => wpAny_pyIter_enum he ?_
      have I2 : Inv X pins σ H1 { s1 with heap := h' } := I1.kept (t' := s1.toks) hk
      exact ⟨s1.heap.objs.size + 1, [s1.heap.objs.size + 1, s1.heap.objs.size], _, _, H1, rfl, I2, turn_enum a (s1.heap.objs.size + 1) s1.heap.objs.size, ⟨⟨.none, he⟩, hit, Nat.succ_ne_self _⟩, fun b hb => I1.fpOk (hfin b hb) (I1.hok.fresh (hfin b hb)), q⟩
    · obtain ⟨its, rv, p', hz⟩ := I1.tuple hq
      refine call_enumT p' fun h' he hit hsz hk => wpAny_pyIter_enum he ?_
      have I2 : Inv X pins σ H1 { s1 with heap := h' } := I1.kept (t' := s1.toks) hk
      exact ⟨s1.heap.objs.size + 1, [s1.heap.objs.size + 1, s1.heap.objs.size], _, _, H1, rfl, I2, turn_enumT a (s1.heap.objs.size + 1) s1.heap.objs.size, ⟨⟨.none, he⟩, hit, Nat.succ_ne_self _⟩, fun b hb => I1.fpOk (hfin b hb) (I1.hok.fresh (hfin b hb)), q⟩
end Eng
set_option Elab.async false
set_option linter.all false
set_option maxRecDepth 100000
/-! the engine, part G: sources that are walked, list methods, stores, comprehensions -/
namespace Eng
open PySem PySem.Spec PyProof.Rows L2
section
variable {X : Cx} {T : List Addr} {pk : Pk} {a b c e tg : Expr} {es : List Expr} {o oa ob oc : Opd} {os : List Opd} {m ma mb : ME} {pos : Pos} {x : Str} {p : Pos}

/-- the items of a list or tuple -/
def seqOf : D → Option (List D)
  | .lst xs => some xs
  | .tup xs => some xs
  | .scr xs => some xs
  | .dF ks => some (ks.map .int)
  | _ => none
theorem itl_ok {K : PySem.W.Frag} {L : Nat → Option (Addr × HO)} {a : Addr} {F : Hp} {ds : List D} {vs : List V} (r : Reps K F ds vs) (h : ∀ B ρ1 F1 σ1 H1, B.Hl = L → Rel K T pk B ρ1 F1 σ1 H1 → Same F F1 → SqL K H1 a vs) :
    ItOk K T pk L (Itl K a) F ds := by
  intro B ρ1 F1 σ1 H1 hB r1 s1 i
  have q := h B ρ1 F1 σ1 H1 hB r1 s1
  refine ⟨fun d hd => ?_, fun hz => ⟨vs, q, by rw [← r.len]; exact hz⟩⟩
  obtain ⟨v, hv, rv⟩ := r.get hd
  refine ⟨⟨vs, v, q, hv⟩, fun x H2 y => ?_⟩
  obtain ⟨rfl, y⟩ := y
  have := (y vs q).symm.trans hv
  cases this
  exact ⟨F1, r1, Same.refl F1, rv.up s1⟩
theorem itt_ok {K : PySem.W.Frag} {L : Nat → Option (Addr × HO)} {a : Addr} {F : Hp} {ds : List D} {vs : List V} (r : Reps K F ds vs) (h : F a = some (.tup vs)) : ItOk K T pk L (Itt K a) F ds := by
  intro B ρ1 F1 σ1 H1 _ r1 s1 i
  have q : SqT K H1 a vs := .of (r1.sub _ _ (s1 _ _ h))
  refine ⟨fun d hd => ?_, fun hz => ⟨vs, q, by rw [← r.len]; exact hz⟩⟩
  obtain ⟨v, hv, rv⟩ := r.get hd
  refine ⟨⟨vs, v, q, hv⟩, fun x H2 y => ?_⟩
  obtain ⟨rfl, y⟩ := y
  have := (y vs q).symm.trans hv
  cases this
  exact ⟨F1, r1, Same.refl F1, rv.up s1⟩
/-- a dict's keys -/
theorem itk_ok {K : PySem.W.Frag} {L : Nat → Option (Addr × HO)} {a : Addr} {o : Obj} {F : Hp} {ks : List Int} {ws : List (Key × V)} (hk : ws.map (·.1) = ks.map Sum.inl) (h : F a = some (.frz o (.dK ws))) : ItOk K T pk L (Itk a o ws) F (ks.map .int) := by
  intro B ρ1 F1 σ1 H1 _ r1 s1 i
  have q := r1.sub _ _ (s1 _ _ h)
  have hl : ws.length = ks.length := by simpa using congrArg List.length hk
  refine ⟨fun d hd => ?_, fun hz => ⟨q, by rw [hl]; simpa using hz⟩⟩
  rw [List.getElem?_map] at hd
  obtain ⟨k, hk1, rfl⟩ := Option.map_eq_some_iff.mp hd
  have hi : i < ks.length := Nat.lt_of_not_le fun z => by rw [List.getElem?_eq_none z] at hk1; cases hk1
  refine ⟨⟨q, by rw [hl]; exact hi⟩, fun x H2 y => ?_⟩
  obtain ⟨rfl, k', v', hkv, rfl⟩ := y
  have e := congrArg (fun l => l[i]?) hk
  simp only [List.getElem?_map, hkv, hk1, Option.map_some, Option.some.injEq] at e
  subst e
  exact ⟨F1, r1, Same.refl F1, .int _⟩
/-- a source given by an expression's value -/
def iEx (m : ME) : MI := fun ρ => (m ρ).bind fun q => (seqOf q.1.1).map fun l => (l, q.2)
theorem si_ex (h : SE X T pk e m) : SI X T pk none tg e (iEx m) := by
  refine ⟨pi_weak (pi_either (pi_list h.pe) (pi_either (pi_tup h.pe) (pi_keys h.pe))) fun σ H R ⟨B, ρ, F, items, ρ', r, h1, k⟩ => ?_⟩
  obtain ⟨⟨⟨d, o⟩, ρ1⟩, e1, h1⟩ := Option.bind_eq_some_iff.mp h1
  obtain ⟨l, e2, h1⟩ := Option.map_eq_some_iff.mp h1
  cases h1
  cases d with
  | lst xs =>
    cases e2
    refine .inl ⟨B, ρ, F, _, o, ρ1, r, e1, fun v H1 F1 r1 s1 t1 => ?_⟩
    obtain ⟨F2, r2, s2, rp⟩ := r1.freezeR t1
    cases rp with
    | lst hF rs => exact ⟨_, rfl, ⟨_, .of (r2.sub _ _ hF)⟩, k _ H1 F2 r2 (s1.trans s2) fun B' _ => itl_ok rs fun B3 ρ3 F3 σ3 H3 hB r3 s3 => .of (r3.sub _ _ (s3 _ _ hF))⟩
  | scr xs =>
    cases e2
    refine .inl ⟨B, ρ, F, _, o, ρ1, r, e1, fun v H1 F1 r1 s1 t1 => ?_⟩
    obtain ⟨F2, r2, s2, rp⟩ := r1.freezeR t1
    cases rp with
    | scr hF rs => exact ⟨_, rfl, ⟨_, r2.sub.seq hF⟩, k _ H1 F2 r2 (s1.trans s2) fun B' _ => itl_ok rs fun B3 ρ3 F3 σ3 H3 hB r3 s3 => r3.sub.seq (s3.seq hF)⟩
  | tup xs =>
    cases e2
    refine .inr (.inl ⟨B, ρ, F, _, o, ρ1, r, e1, fun v H1 F1 r1 s1 t1 => ?_⟩)
    obtain ⟨F2, r2, s2, rp⟩ := r1.freezeR t1
    cases rp with
    | tup hF rs => exact ⟨_, rfl, ⟨_, .of (r2.sub _ _ hF)⟩, k _ H1 F2 r2 (s1.trans s2) fun B' _ => itt_ok rs hF⟩
  | dF ks =>
    cases e2
    refine .inr (.inr ⟨B, ρ, F, _, o, ρ1, r, e1, fun v H1 F1 r1 s1 t1 => ?_⟩)
    obtain ⟨F2, r2, s2, rp⟩ := r1.freezeR t1
    cases rp with
    | dF hF hk => exact ⟨_, _, rfl, .inl ⟨_, r2.sub _ _ hF, k _ H1 F2 r2 (s1.trans s2) fun B' _ => itk_ok hk hF⟩⟩
  | _ => cases e2
/-- a source given by a slot: it is looked at, and locked meanwhile -/
def iNm (j : Nat) : MI := fun ρ => (rd ρ[j]?).bind fun d => (seqOf d).map fun l => (l, ρ)
theorem nm_ok {lk : Option Nat} (j : Nat) (hj : j ∈ (pkl pk lk).lock) {xs : Str} (hN : X.N[j]? = some xs) (hv : Vis X.env.scope xs) (hd : (xs == ("__debug__" : Str)) = false := by decide) (hcd : (xs == ("__classdict__" : Str)) = false := by decide) :
    SI X T pk lk tg (.Name xs pos) (iNm j) := by
  refine ⟨pi_weak (pi_either (pi_list (pe_var hN hv hd hcd)) (pi_either (pi_tup (pe_var hN hv hd hcd)) (pi_keys (pe_var hN hv hd hcd)))) fun σ H R ⟨B, ρ, F, items, ρ', r, h1, k⟩ => ?_⟩
  obtain ⟨d, e1, h1⟩ := Option.bind_eq_some_iff.mp h1
  obtain ⟨l, e2, h1⟩ := Option.map_eq_some_iff.mp h1
  cases h1
  rcases rd_some e1 with e | e
  · obtain ⟨v, h2, rp⟩ := r.val j d e
    cases rp with
    | lst hF rs => cases e2; exact .inl ⟨_, h2, _, rfl, ⟨_, .of (r.sub _ _ hF)⟩, k _ H F r (Same.refl F) fun B' _ => itl_ok rs fun B3 ρ3 F3 σ3 H3 hB r3 s3 => .of (r3.sub _ _ (s3 _ _ hF))⟩
    | scr hF rs => cases e2; exact .inl ⟨_, h2, _, rfl, ⟨_, r.sub.seq hF⟩, k _ H F r (Same.refl F) fun B' _ => itl_ok rs fun B3 ρ3 F3 σ3 H3 hB r3 s3 => r3.sub.seq (s3.seq hF)⟩
    | tup hF rs => cases e2; exact .inr (.inl ⟨_, h2, _, rfl, ⟨_, .of (r.sub _ _ hF)⟩, k _ H F r (Same.refl F) fun B' _ => itt_ok rs hF⟩)
    | dF hF hk => cases e2; exact .inr (.inr ⟨_, h2, _, _, rfl, .inl ⟨_, r.sub _ _ hF, k _ H F r (Same.refl F) fun B' _ => itk_ok hk hF⟩⟩)
    | _ => cases e2
  · obtain ⟨q, h2, h3, h4, h5⟩ := r.own j d e
    cases d with
    | lst xs =>
      cases e2
      obtain ⟨vs, h6, rs⟩ := h4
      refine .inl ⟨_, h2, q, rfl, ⟨vs, .of h6⟩, k _ H F r (Same.refl F) fun B' r' => itl_ok rs fun B3 ρ3 F3 σ3 H3 hB r3 s3 => ?_⟩
      obtain ⟨q', o', hL⟩ := r'.lkd j hj _ e
      obtain ⟨z1, z2, _⟩ := r'.lock j hj q' o' hL
      rw [h2] at z1; cases z1
      rw [h6] at z2; cases z2
      exact .of (r3.lock j hj q _ (by rw [hB]; exact hL)).2.1
    | tup xs => exact h4.elim
    | scr xs => exact h4.elim
    | dF xs => exact h4.elim
    | _ => cases e2
theorem si_nm (j : Nat) {xs : Str} (hN : X.N[j]? = some xs := by rfl) (hv : Vis X.env.scope xs := by first | exact Or.inl rfl | exact Or.inr (Or.inl rfl) | exact Or.inr (Or.inr rfl)) (hd : (xs == ("__debug__" : Str)) = false := by decide) (hcd : (xs == ("__classdict__" : Str)) = false := by decide) :
    SI X T pk (some j) tg (.Name xs pos) (iNm j) := nm_ok (lk := some j) j List.mem_cons_self hN hv hd hcd
theorem si_nmL (j : Nat) {xs : Str} (hj : pk.lock.contains j = true := by rfl) (hN : X.N[j]? = some xs := by rfl) (hv : Vis X.env.scope xs := by first | exact Or.inl rfl | exact Or.inr (Or.inl rfl) | exact Or.inr (Or.inr rfl)) (hd : (xs == ("__debug__" : Str)) = false := by decide) (hcd : (xs == ("__classdict__" : Str)) = false := by decide) :
    SI X T pk none tg (.Name xs pos) (iNm j) := nm_ok (lk := none) j (by simpa [pkl] using hj) hN hv hd hcd

/-! range -/
def rngD (lo : Int) (n : Nat) : List D := (List.range n).map fun (i : Nat) => D.int (lo + i)
theorem rng_get {lo : Int} {n i : Nat} {d : D} (h : (rngD lo n)[i]? = some d) : i < n ∧ d = .int (lo + i) := by
  unfold rngD at h
  rw [List.getElem?_map, Option.map_eq_some_iff] at h
  obtain ⟨j, h1, rfl⟩ := h
  obtain ⟨h2, h3⟩ := List.getElem?_eq_some_iff.mp h1
  rw [List.getElem_range] at h3
  subst h3
  rw [List.length_range] at h2
  exact ⟨h2, rfl⟩
theorem rng_len (lo : Int) (n : Nat) : (rngD lo n).length = n := by simp [rngD]
theorem itr_ok {K : PySem.W.Frag} {L : Nat → Option (Addr × HO)} {F : Hp} {lo : Int} {n : Nat} : ItOk K T pk L (Itr lo n) F (rngD lo n) := by
  intro B ρ1 F1 σ1 H1 _ r1 s1 i
  refine ⟨fun d hd => ?_, fun hz => by rw [rng_len] at hz; exact hz⟩
  obtain ⟨h1, rfl⟩ := rng_get hd
  refine ⟨h1, fun x H2 y => ?_⟩
  obtain ⟨rfl, rfl⟩ := y
  exact ⟨F1, r1, Same.refl F1, .int _⟩
def iR1 (os : List Opd) : MI := fun ρ => (ops os ρ).bind fun q => match q.1 with
  | [.int j] => if -(2 ^ 62) ≤ j ∧ j < 2 ^ 62 then some (rngD 0 j.toNat, q.2) else none
  | _ => none
def iR2 (os : List Opd) : MI := fun ρ => (ops os ρ).bind fun q => match q.1 with
  | [.int i, .int j] => if -(2 ^ 62) ≤ i ∧ i < 2 ^ 62 ∧ -(2 ^ 62) ≤ j ∧ j < 2 ^ 62 then some (rngD i (j - i).toNat, q.2) else none
  | _ => none
theorem brws_int {K : PySem.W.Frag} {F H : Hp} {i : Int} {ds : List D} {vs : List V} (h : Brws K F H (.int i :: ds) vs) : ∃ ws, vs = .int i :: ws ∧ Brws K F H ds ws := by
  cases h with
  | cons r t => exact ⟨_, by rw [rep_int r], t⟩
theorem brws_nil {K : PySem.W.Frag} {F H : Hp} {vs : List V} (h : Brws K F H [] vs) : vs = [] := by cases h; rfl
theorem si_r1 (hg : Gl X "range") (hm : X.mg "range" = none) (ha : SA X T pk [a] os) (hs : starEach [a] X.env = [(false, eval a X.env)] := by rfl) : SI X T pk none tg (.Call (.Name "range" p) [a] [] pos) (iR1 os) := by
  refine ⟨pi_weak (pi_range1 hg hm ha.pa hs) fun σ H R ⟨B, ρ, F, items, ρ', r, h1, k⟩ => ?_⟩
  obtain ⟨⟨ds, ρ1⟩, e1, h1⟩ := Option.bind_eq_some_iff.mp h1
  refine args_ok r e1 fun vs H1 F1 r1 s1 b => ?_
  simp only at h1
  split at h1
  · split at h1
    · rename_i hc
      cases h1
      obtain ⟨ws, ew, b2⟩ := brws_int b
      rw [brws_nil b2] at ew
      exact ⟨_, ew, hc.1, hc.2, k _ H1 F1 r1 s1 fun B' _ => itr_ok⟩
    · cases h1
  · cases h1
theorem si_r2 (hg : Gl X "range") (hm : X.mg "range" = none) (ha : SA X T pk [a, b] os) (hs : starEach [a, b] X.env = [(false, eval a X.env), (false, eval b X.env)] := by rfl) (hs2 : starEach [b] X.env = [(false, eval b X.env)] := by rfl) :
    SI X T pk none tg (.Call (.Name "range" p) [a, b] [] pos) (iR2 os) := by
  refine ⟨pi_weak (pi_range2 hg hm ha.pa hs hs2) fun σ H R ⟨B, ρ, F, items, ρ', r, h1, k⟩ => ?_⟩
  obtain ⟨⟨ds, ρ1⟩, e1, h1⟩ := Option.bind_eq_some_iff.mp h1
  refine args_ok r e1 fun vs H1 F1 r1 s1 b => ?_
  simp only at h1
  split at h1
  · split at h1
    · rename_i hc
      cases h1
      obtain ⟨ws, ew, b2⟩ := brws_int b
      obtain ⟨ws2, ew2, b3⟩ := brws_int b2
      rw [ew2, brws_nil b3] at ew
      exact ⟨_, _, ew, hc, k _ H1 F1 r1 s1 fun B' _ => itr_ok⟩
    · cases h1
  · cases h1

/-! enumerate of a list -/
def enD (ds : List D) : List D := ds.zipIdx.map fun q => D.tup [.int (q.2 : Nat), q.1]
theorem en_get {ds : List D} {i : Nat} {d : D} (h : (enD ds)[i]? = some d) : ∃ e, ds[i]? = some e ∧ d = .tup [.int (i : Nat), e] := by
  unfold enD at h
  rw [List.getElem?_map, Option.map_eq_some_iff] at h
  obtain ⟨q, h1, rfl⟩ := h
  rw [List.getElem?_zipIdx, Option.map_eq_some_iff] at h1
  obtain ⟨e, h2, rfl⟩ := h1
  exact ⟨e, h2, by simp⟩
theorem en_len (ds : List D) : (enD ds).length = ds.length := by simp [enD]
theorem ite_ok {K : PySem.W.Frag} {L : Nat → Option (Addr × HO)} {a : Addr} {F : Hp} {ds : List D} {vs : List V} (r : Reps K F ds vs) (h : ∀ B ρ1 F1 σ1 H1, B.Hl = L → Rel K T pk B ρ1 F1 σ1 H1 → Same F F1 → SqL K H1 a vs) :
    ItOk K T pk L (Ite K a) F (enD ds) := by
  intro B ρ1 F1 σ1 H1 hB r1 s1 i
  have q := h B ρ1 F1 σ1 H1 hB r1 s1
  refine ⟨fun d hd => ?_, fun hz => ⟨vs, q, by rw [← r.len, ← en_len]; exact hz⟩⟩
  obtain ⟨e, he, rfl⟩ := en_get hd
  obtain ⟨v, hv, rv⟩ := r.get he
  refine ⟨⟨vs, v, q, hv⟩, fun x H2 y => ?_⟩
  obtain ⟨Tt, w, rfl, nT, rfl, y⟩ := y
  have := (y vs q).symm.trans hv
  cases this
  exact r1.newTup nT (.cons (.int _) (.cons (rv.up s1) .nil))
theorem iteT_ok {K : PySem.W.Frag} {L : Nat → Option (Addr × HO)} {a : Addr} {F : Hp} {ds : List D} {vs : List V} (r : Reps K F ds vs) (h : ∀ B ρ1 F1 σ1 H1, B.Hl = L → Rel K T pk B ρ1 F1 σ1 H1 → Same F F1 → SqT K H1 a vs) :
    ItOk K T pk L (IteT K a) F (enD ds) := by
  intro B ρ1 F1 σ1 H1 hB r1 s1 i
  have q := h B ρ1 F1 σ1 H1 hB r1 s1
  refine ⟨fun d hd => ?_, fun hz => ⟨vs, q, by rw [← r.len, ← en_len]; exact hz⟩⟩
  obtain ⟨e, he, rfl⟩ := en_get hd
  obtain ⟨v, hv, rv⟩ := r.get he
  refine ⟨⟨vs, v, q, hv⟩, fun x H2 y => ?_⟩
  obtain ⟨Tt, w, rfl, nT, rfl, y⟩ := y
  have := (y vs q).symm.trans hv
  cases this
  exact r1.newTup nT (.cons (.int _) (.cons (rv.up s1) .nil))
def lstOf : D → Option (List D)
  | .lst xs => some xs
  | .tup xs => some xs
  | .scr xs => some xs
  | _ => none
def iEnE (m : ME) : MI := fun ρ => (m ρ).bind fun q => (lstOf q.1.1).map fun l => (enD l, q.2)
def iEnN (j : Nat) : MI := fun ρ => (rd ρ[j]?).bind fun d => (lstOf d).map fun l => (enD l, ρ)
variable {elts : List Expr} {kk : Nat} {tpos : Pos}
theorem si_enE (hg : Gl X "enumerate") (hm : X.mg "enumerate" = none) (ha : SE X T pk e m) (hs : starEach [e] X.env = [(false, eval e X.env)] := by rfl) (hs' : starEach (e :: []) X.env = (false, eval e X.env) :: starEach [] X.env := by rfl) :
    SI X T pk none (.Tuple elts kk tpos) (.Call (.Name "enumerate" p) [e] [] pos) (iEnE m) := by
  refine ⟨pi_weak (pi_enumX hg hm (pa_cons ha.pe pa_nil hs') hs) fun σ H R ⟨B, ρ, F, items, ρ', r, h1, k⟩ => ?_⟩
  obtain ⟨⟨⟨d, o⟩, ρ1⟩, e1, h1⟩ := Option.bind_eq_some_iff.mp h1
  obtain ⟨l, e2, h1⟩ := Option.map_eq_some_iff.mp h1
  cases h1
  refine ⟨B, ρ, F, d, o, ρ1, r, e1, fun v H1 F1 r1 s1 t1 => ?_⟩
  obtain ⟨F2, r2, s2, rp⟩ := r1.freezeR t1
  cases rp with
  | lst hF rs => cases e2; exact ⟨_, _, rfl, .inl ⟨.of (r2.sub _ _ hF), k _ H1 F2 r2 (s1.trans s2) fun B' _ => ite_ok rs fun B3 ρ3 F3 σ3 H3 hB r3 s3 => .of (r3.sub _ _ (s3 _ _ hF))⟩⟩
  | scr hF rs => cases e2; exact ⟨_, _, rfl, .inl ⟨r2.sub.seq hF, k _ H1 F2 r2 (s1.trans s2) fun B' _ => ite_ok rs fun B3 ρ3 F3 σ3 H3 hB r3 s3 => r3.sub.seq (s3.seq hF)⟩⟩
  | tup hF rs => cases e2; exact ⟨_, _, rfl, .inr ⟨.of (r2.sub _ _ hF), k _ H1 F2 r2 (s1.trans s2) fun B' _ => iteT_ok rs fun B3 ρ3 F3 σ3 H3 hB r3 s3 => .of (r3.sub _ _ (s3 _ _ hF))⟩⟩
  | _ => cases e2
theorem en_ok {lk : Option Nat} (j : Nat) (hj : j ∈ (pkl pk lk).lock) {xs : Str} {xp : Pos} (hg : Gl X "enumerate") (hm : X.mg "enumerate" = none) (hN : X.N[j]? = some xs) (hv : Vis X.env.scope xs) (hd : (xs == ("__debug__" : Str)) = false) (hcd : (xs == ("__classdict__" : Str)) = false)
    (hs : starEach [.Name xs xp] X.env = [(false, eval (.Name xs xp) X.env)]) (hs' : starEach (.Name xs xp :: []) X.env = (false, eval (.Name xs xp) X.env) :: starEach [] X.env) :
    SI X T pk lk (.Tuple elts kk tpos) (.Call (.Name "enumerate" p) [.Name xs xp] [] pos) (iEnN j) := by
  refine ⟨pi_weak (pi_enumX hg hm (pa_cons (pe_var hN hv hd hcd) pa_nil hs') hs) fun σ H R ⟨B, ρ, F, items, ρ', r, h1, k⟩ => ?_⟩
  obtain ⟨d, e1, h1⟩ := Option.bind_eq_some_iff.mp h1
  obtain ⟨l, e2, h1⟩ := Option.map_eq_some_iff.mp h1
  cases h1
  rcases rd_some e1 with e | e
  · obtain ⟨v, h2, rp⟩ := r.val j d e
    cases rp with
    | lst hF rs => cases e2; exact ⟨_, h2, _, _, rfl, .inl ⟨.of (r.sub _ _ hF), k _ H F r (Same.refl F) fun B' _ => ite_ok rs fun B3 ρ3 F3 σ3 H3 hB r3 s3 => .of (r3.sub _ _ (s3 _ _ hF))⟩⟩
    | scr hF rs => cases e2; exact ⟨_, h2, _, _, rfl, .inl ⟨r.sub.seq hF, k _ H F r (Same.refl F) fun B' _ => ite_ok rs fun B3 ρ3 F3 σ3 H3 hB r3 s3 => r3.sub.seq (s3.seq hF)⟩⟩
    | tup hF rs => cases e2; exact ⟨_, h2, _, _, rfl, .inr ⟨.of (r.sub _ _ hF), k _ H F r (Same.refl F) fun B' _ => iteT_ok rs fun B3 ρ3 F3 σ3 H3 hB r3 s3 => .of (r3.sub _ _ (s3 _ _ hF))⟩⟩
    | _ => cases e2
  · obtain ⟨q, h2, h3, h4, h5⟩ := r.own j d e
    cases d with
    | lst xs =>
      cases e2
      obtain ⟨vs, h6, rs⟩ := h4
      refine ⟨_, h2, q, vs, rfl, .inl ⟨.of h6, k _ H F r (Same.refl F) fun B' r' => ite_ok rs fun B3 ρ3 F3 σ3 H3 hB r3 s3 => ?_⟩⟩
      obtain ⟨q', o', hL⟩ := r'.lkd j hj _ e
      obtain ⟨z1, z2, _⟩ := r'.lock j hj q' o' hL
      rw [h2] at z1; cases z1
      rw [h6] at z2; cases z2
      exact .of (r3.lock j hj q _ (by rw [hB]; exact hL)).2.1
    | scr xs => exact h4.elim
    | tup xs => exact h4.elim
    | dF xs => exact h4.elim
    | _ => cases e2
theorem si_enN (j : Nat) {xs : Str} {xp : Pos} (hg : Gl X "enumerate") (hm : X.mg "enumerate" = none) (hN : X.N[j]? = some xs := by rfl) (hv : Vis X.env.scope xs := by first | exact Or.inl rfl | exact Or.inr (Or.inl rfl) | exact Or.inr (Or.inr rfl)) (hd : (xs == ("__debug__" : Str)) = false := by decide) (hcd : (xs == ("__classdict__" : Str)) = false := by decide)
    (hs : starEach [.Name xs xp] X.env = [(false, eval (.Name xs xp) X.env)] := by rfl) (hs' : starEach (.Name xs xp :: []) X.env = (false, eval (.Name xs xp) X.env) :: starEach [] X.env := by rfl) :
    SI X T pk (some j) (.Tuple elts kk tpos) (.Call (.Name "enumerate" p) [.Name xs xp] [] pos) (iEnN j) := en_ok (lk := some j) j List.mem_cons_self hg hm hN hv hd hcd hs hs'
theorem si_enL (j : Nat) {xs : Str} {xp : Pos} (hg : Gl X "enumerate") (hm : X.mg "enumerate" = none) (hj : pk.lock.contains j = true := by rfl) (hN : X.N[j]? = some xs := by rfl) (hv : Vis X.env.scope xs := by first | exact Or.inl rfl | exact Or.inr (Or.inl rfl) | exact Or.inr (Or.inr rfl)) (hd : (xs == ("__debug__" : Str)) = false := by decide) (hcd : (xs == ("__classdict__" : Str)) = false := by decide)
    (hs : starEach [.Name xs xp] X.env = [(false, eval (.Name xs xp) X.env)] := by rfl) (hs' : starEach (.Name xs xp :: []) X.env = (false, eval (.Name xs xp) X.env) :: starEach [] X.env := by rfl) :
    SI X T pk none (.Tuple elts kk tpos) (.Call (.Name "enumerate" p) [.Name xs xp] [] pos) (iEnN j) := en_ok (lk := none) j (by simpa [pkl] using hj) hg hm hN hv hd hcd hs hs'
end
end Eng
set_option Elab.async false
set_option linter.all false
set_option maxRecDepth 100000
/-! the engine, part H: list methods, stores, comprehensions -/
namespace Eng
open PySem PySem.Spec PyProof.Rows L2
section
variable {X : Cx} {T : List Addr} {pk : Pk} {a b c e tg : Expr} {es : List Expr} {o oa ob oc : Opd} {os : List Opd} {m ma mb : ME} {pos apos cpos : Pos} {x : Str} {p : Pos}

/-! x.append(e), x.pop() of a slot's own list -/
def mApp (i : Nat) (m : ME) : ME := fun ρ => match ρ[i]? with
  | some (.own (.lst _)) => (m ρ).bind fun q => match q.2[i]? with
    | some (.own (.lst xs)) => if xs.length < sizeLine then some ((.non, false), q.2.set i (.own (.lst (xs ++ [q.1.1])))) else none
    | _ => none
  | _ => none
theorem own_lst {K : PySem.W.Frag} {B : Bs} {ρ : Env} {F : Hp} {σ : L2.St} {H : Hp} {i : Nat} {xs : List D} (r : Rel K T pk B ρ F σ H) (h : ρ[i]? = some (Slot.own (.lst xs))) : ∃ q vs, σ[i]? = some (some (V.ref q)) ∧ F q = none ∧ H q = some (.lst vs) ∧ Reps K F xs vs := by
  obtain ⟨q, h1, h2, ⟨vs, h3, h4⟩, _⟩ := r.own i _ h
  exact ⟨q, vs, h1, h2, h3, h4⟩
theorem se_app (i : Nat) {xs : Str} {xp : Pos} (he : SE X T pk e m) (hN : X.N[i]? = some xs := by rfl) (hv : Vis X.env.scope xs := by first | exact Or.inl rfl | exact Or.inr (Or.inl rfl) | exact Or.inr (Or.inr rfl)) (hl : pk.lock.contains i = false := by rfl) (hd : (xs == ("__debug__" : Str)) = false := by decide) (hcd : (xs == ("__classdict__" : Str)) = false := by decide)
    (hbase : attributeBase (.Name xs xp) "append" X.env (eval (.Name xs xp) X.env) = eval (.Name xs xp) X.env := by rfl)
    (hfew : ((backTo cpos (starEach (e :: []) X.env)).all (fun x => !x.1) && (backToKw cpos (keywordEach [] X.env)).all (fun x => x.1.isSome) && decide ((e :: []).length + ([] : List Keyword).length + (if ([] : List Keyword).isEmpty then 0 else 1) < 30)) = true := by rfl)
    (hline : (apos.endLine == cpos.line) = true := by rfl) (hs : starEach (e :: []) X.env = (false, eval e X.env) :: starEach [] X.env := by rfl) (hplain : (backTo cpos (starEach [] X.env)).any (·.1) = false := by rfl) :
    SE X T pk (.Call (.Attribute (.Name xs xp) "append" apos) [e] [] cpos) (mApp i m) := by
  refine se_of (pe_bm PySem.F.plainAttrs_list PySem.F.slot_list_append PySem.F.type_list_append mt_append (pe_var hN hv hd hcd) (pa_cons he.pe pa_nil hs) hbase hfew hline hs hplain) fun σ H Q B ρ F d o ρ' r h k => ?_
  unfold mApp at h
  split at h
  · rename_i ys e0
    obtain ⟨⟨⟨d1, o1⟩, ρ1⟩, h1, h⟩ := Option.bind_eq_some_iff.mp h
    obtain ⟨q, vs, z1, z2, z3, z4⟩ := own_lst r e0
    refine ⟨.ref q, z1, .inl ⟨rfl, vs, .of z3⟩, B, ρ, F, d1, o1, ρ1, r, h1, fun v H1 F1 r1 s1 t1 => ?_⟩
    obtain ⟨F2, r2, s2, rp⟩ := r1.freezeR t1
    simp only at h
    split at h
    · rename_i zs e1
      split at h
      · rename_i hz
        cases h
        obtain ⟨q', ws, y1, y2, y3, y4⟩ := own_lst r2 e1
        rw [z1] at y1; cases y1
        refine ⟨q, ws, v, rfl, rfl, y3, by rw [← y4.len]; exact hz, ?_⟩
        exact k _ _ F2 (r2.write e1 z1 (by simpa using hl) ⟨_, upd_same, y4.app (.cons rp .nil)⟩) (s1.trans s2) (res_of .non)
      · cases h
    · cases h
  · cases h
def mPop (i : Nat) : ME := fun ρ => match ρ[i]? with
  | some (.own (.lst xs)) => (xs[xs.length - 1]?).map fun d => ((d, false), ρ.set i (.own (.lst xs.dropLast)))
  | _ => none
theorem reps_init {K : PySem.W.Frag} {F : Hp} {ds : List D} {vs : List V} (r : Reps K F ds vs) : Reps K F ds.dropLast vs.dropLast := by
  rw [List.dropLast_eq_take, List.dropLast_eq_take, r.len]
  exact r.take _
theorem se_pop (i : Nat) {xs : Str} {xp : Pos} (hN : X.N[i]? = some xs := by rfl) (hv : Vis X.env.scope xs := by first | exact Or.inl rfl | exact Or.inr (Or.inl rfl) | exact Or.inr (Or.inr rfl)) (hl : pk.lock.contains i = false := by rfl) (hd : (xs == ("__debug__" : Str)) = false := by decide) (hcd : (xs == ("__classdict__" : Str)) = false := by decide)
    (hbase : attributeBase (.Name xs xp) "pop" X.env (eval (.Name xs xp) X.env) = eval (.Name xs xp) X.env := by rfl) (hline : (apos.endLine == cpos.line) = true := by rfl) :
    SE X T pk (.Call (.Attribute (.Name xs xp) "pop" apos) [] [] cpos) (mPop i) := by
  refine se_of (pe_bm0 PySem.F.plainAttrs_list PySem.F.slot_list_pop PySem.F.type_list_pop mt_pop (pe_var hN hv hd hcd) hbase hline) fun σ H Q B ρ F d o ρ' r h k => ?_
  unfold mPop at h
  split at h
  · rename_i ys e0
    obtain ⟨d1, h1, h⟩ := Option.map_eq_some_iff.mp h
    cases h
    obtain ⟨q, vs, z1, z2, z3, z4⟩ := own_lst r e0
    obtain ⟨v, hv1, rv⟩ := z4.get h1
    refine ⟨.ref q, z1, .inl ⟨rfl, vs, .of z3⟩, q, vs, v, rfl, rfl, z3, by rw [← z4.len]; exact hv1, ?_⟩
    exact k _ _ F (r.write e0 z1 (by simpa using hl) ⟨_, upd_same, reps_init z4⟩) (Same.refl F) (res_of rv)
  · cases h

/-! x[i] = e of a slot's own list -/
def sSetIx (j : Nat) (mi : Opd) (mv : ME) : MS := fun ρ => (mv ρ).bind fun q => match q.2[j]? with
  | some (.own (.lst _)) => (ops [mi] q.2).bind fun z => match z.1, z.2[j]? with
    | [.int k], some (.own (.lst xs)) => (ixN xs.length k).map fun n => (.nx, z.2.set j (.own (.lst (xs.set n q.1.1))))
    | _, _ => none
  | _ => none
theorem ss_setix (j : Nat) {xs : Str} {xp p2 : Pos} (he : SE X T pk e m) (hi : SO X T pk a o) (hN : X.N[j]? = some xs := by rfl) (hv : Vis X.env.scope xs := by first | exact Or.inl rfl | exact Or.inr (Or.inl rfl) | exact Or.inr (Or.inr rfl)) (hl : pk.lock.contains j = false := by rfl) (hd : (xs == ("__debug__" : Str)) = false := by decide) (hcd : (xs == ("__classdict__" : Str)) = false := by decide)
    (ha : ∀ v, assign (.Subscript (.Name xs xp) a p2) X.env v = (do
      let ov ← holding [v] (eval (.Name xs xp) X.env)
      let iv ← holding [v, ov] (eval a X.env)
      standAt p2
      holding [v, ov, iv] (setItem ov iv v)
      release [v, ov, iv] []) := by intro _; rfl)
    (hs : swapsWithSole [.Subscript (.Name xs xp) a p2] e pos.line X.env = pure false := by rfl) (hw : swappedStores [.Subscript (.Name xs xp) a p2] e X.env = pure none := by rfl)
    (h1 : (assignEach [.Subscript (.Name xs xp) a p2] X.env).map (·.2) = [assign (.Subscript (.Name xs xp) a p2) X.env] := by rfl) :
    SS X T pk (.Assign [.Subscript (.Name xs xp) a p2] e pos) (sSetIx j o m) := by
  refine ss_of (ps_asg he.pe (pg_sub (pe_var hN hv hd hcd) hi.po set_list ha) hs hw h1) fun D σ H B ρ F f ρ' r h k => ?_
  obtain ⟨⟨⟨d1, o1⟩, ρ1⟩, e1, h⟩ := Option.bind_eq_some_iff.mp h
  refine ⟨B, ρ, F, d1, o1, ρ1, r, e1, fun v H1 F1 r1 s1 t1 => ?_⟩
  obtain ⟨F2, r2, s2, rp⟩ := r1.freezeR t1
  simp only at h
  split at h
  · rename_i ys e0
    obtain ⟨⟨ds, ρ2⟩, e2, h⟩ := Option.bind_eq_some_iff.mp h
    obtain ⟨q, vs, z1, z2, z3, z4⟩ := own_lst r2 e0
    refine ⟨.ref q, z1, one_ok r2 e2 fun da y H3 F3 eds r3 s3 b3 => ?_⟩
    subst eds
    simp only at h
    split at h
    · rename_i kk zs ek eo
      cases ek
      obtain ⟨n, hn, h⟩ := Option.map_eq_some_iff.mp h
      cases h
      obtain ⟨q', ws, y1, y2, y3, y4⟩ := own_lst r3 eo
      rw [z1] at y1; cases y1
      refine ⟨q, ws, kk, n, rfl, rep_int b3, y3, by rw [← y4.len]; exact hn, ?_⟩
      exact k _ _ F3 (r3.write eo z1 (by simpa using hl) ⟨_, upd_same, y4.set (rp.up s3) n⟩) ((s1.trans s2).trans s3)
    · cases h
  · cases h

/-! comprehensions -/
def compM (vs : List Nat) (g : Tg) (c : MT) (m : ME) : List D → Env → Option (List D × Env)
  | [], ρ => some ([], ρ)
  | d :: r, ρ => (tgS g d ρ).bind fun ρ1 => (c ρ1).bind fun q => if q.1 = true then (m q.2).bind fun z => (compM vs g c m r (wipeE vs z.2)).map fun w => (z.1.1 :: w.1, w.2)
    else compM vs g c m r (wipeE vs q.2)
def mComp (vs : List Nat) (i : MI) (g : Tg) (c : MT) (m : ME) : ME := fun ρ => (i ρ).bind fun q => if q.1.length ≤ sizeLine ∧ vs.all (fun v => notOwn q.2[v]?) = true then
    (compM vs g c m q.1 (wipeE vs q.2)).map fun w => ((.lst w.1, true), restE q.2 vs w.2) else none
theorem wipe_set {σ : L2.St} {i : Nat} {y : Option V} : ∀ {vs : List Nat}, i ∈ vs → L2.wipe (σ.set i y) vs = L2.wipe σ vs
  | v :: vs, h => by
    show (L2.wipe (σ.set i y) vs).set v none = (L2.wipe σ vs).set v none
    by_cases hi : i ∈ vs
    · rw [wipe_set hi]
    · have e : i = v := by
        rcases List.mem_cons.mp h with h | h
        · exact h
        · exact absurd h hi
      subst e
      have q : ∀ (us : List Nat), i ∉ us → L2.wipe (σ.set i y) us = (L2.wipe σ us).set i y := by
        intro us
        induction us with
        | nil => intro _; rfl
        | cons u us ih =>
          intro hn
          show (L2.wipe (σ.set i y) us).set u none = ((L2.wipe σ us).set u none).set i y
          rw [ih fun m => hn (List.mem_cons_of_mem _ m), List.set_comm _ _ (fun e : i = u => hn (e ▸ List.mem_cons_self))]
      rw [q vs hi, List.set_set]
theorem wipe_idem {σ : L2.St} : ∀ {us vs : List Nat}, (∀ u ∈ us, u ∈ vs) → L2.wipe (L2.wipe σ us) vs = L2.wipe σ vs
  | [], _, _ => rfl
  | u :: us, vs, h => by
    show L2.wipe ((L2.wipe σ us).set u none) vs = _
    rw [wipe_set (h u List.mem_cons_self)]
    exact wipe_idem fun w hw => h w (List.mem_cons_of_mem _ hw)
/-- the readings of one turn: the target's slots lie in vs -/
def tTgC (K : PySem.W.Frag) (T : List Addr) (pk : Pk) (vs : List Nat) (g : Tg) : TG := fun v σ H Q => ∃ B ρ F d ρ', Rel K T pk B ρ F σ H ∧ Rep K F d v ∧ tgS g d ρ = some ρ' ∧ ∀ σ', Rel K T pk B ρ' F σ' H → L2.wipe σ' vs = L2.wipe σ vs → Q σ' H
structure SGC (X : Cx) (T : List Addr) (pk : Pk) (vs : List Nat) (tg : Expr) (g : Tg) : Prop where
  pg : PG X tg (tTgC X.K T pk vs g)
theorem sgc_one {vs : List Nat} (i : Nat) {x : Str} (hN : X.N.Nodup) (hi : X.N[i]? = some x) (hx : Loc X.env.scope x) (hp : pk.pin.contains i = false := by rfl) (hl : pk.lock.contains i = false := by rfl) (hv : vs.contains i = true := by rfl)
    (hf : X.fn x = true ∨ X.env.scope.names.lookup x = some .local := by first | exact .inl rfl | exact .inr rfl | assumption) : SGC X T pk vs (.Name x pos) (.one i) :=
  ⟨pg_weak (pg_name hN hi hx hf) fun v σ H Q ⟨B, ρ, F, d, ρ', r, rp, e, k⟩ => by
    cases e
    exact k _ (setRes (o := false) r hp hl (res_of rp)) (wipe_set (by simpa using hv))⟩
structure SGCs (X : Cx) (T : List Addr) (pk : Pk) (vs : List Nat) (ts : List Expr) (is : List Nat) : Prop where
  pgs : PGs X ts (fun ws σ H Q => ∃ B ρ F ds ρ', Rel X.K T pk B ρ F σ H ∧ Reps X.K F ds ws ∧ setAll is ds ρ = some ρ' ∧ ∀ σ', Rel X.K T pk B ρ' F σ' H → L2.wipe σ' vs = L2.wipe σ vs → Q σ' H)
theorem sgcs_nil {vs : List Nat} : SGCs X T pk vs [] [] := ⟨⟨fun pins s σ H ws us Q I r h => by
  obtain ⟨B, ρ, F, ds, ρ', rel, rs, e, k⟩ := h
  cases ds with
  | nil =>
    cases e
    cases rs
    exact pgs_nil.run pins s σ H [] us Q I r ⟨rfl, k σ rel rfl⟩
  | cons d ds => cases e⟩⟩
theorem sgcs_cons {vs is : List Nat} {ts : List Expr} (i : Nat) {x : Str} {xp : Pos} (hN : X.N.Nodup) (hi : X.N[i]? = some x) (hx : Loc X.env.scope x) (hr : SGCs X T pk vs ts is) (hp : pk.pin.contains i = false := by rfl) (hl : pk.lock.contains i = false := by rfl) (hv : vs.contains i = true := by rfl)
    (hf : X.fn x = true ∨ X.env.scope.names.lookup x = some .local := by first | exact .inl rfl | exact .inr rfl | assumption)
    (hs : (assignEach (.Name x xp :: ts) X.env).map (·.2) = assign (.Name x xp) X.env :: (assignEach ts X.env).map (·.2) := by rfl) : SGCs X T pk vs (.Name x xp :: ts) (i :: is) := by
  refine ⟨⟨fun pins s σ H ws us Q I r h => ?_⟩⟩
  obtain ⟨B, ρ, F, ds, ρ', rel, rs, e, k⟩ := h
  cases ds with
  | nil => cases e
  | cons d ds =>
    cases rs with
    | cons rd rt =>
      refine (pgs_cons (pg_name hN hi hx hf) hr.pgs hs).run pins s σ H _ us Q I r ⟨_, _, rfl, B, ρ.set i (.val d), F, ds, ρ', ?_, rt, e, fun σ' r' hw => k σ' r' (hw.trans (wipe_set (by simpa using hv)))⟩
      exact setRes (o := false) rel hp hl (res_of rd)
theorem sgc_many {vs is : List Nat} {ts : List Expr} {n k : Nat} (hc : X.calm = true) (h : SGCs X T pk vs ts is) (hn : (assignEach ts X.env).length = n := by rfl) (hst : (assignEach ts X.env).findIdx? (·.1) = none := by rfl) (hi : is.length = n := by rfl) : SGC X T pk vs (.Tuple ts k pos) (.many is) := by
  refine ⟨pg_weak (pg_tup hc h.pgs hn hst) fun v σ H Q ⟨B, ρ, F, d, ρ', r, rp, e, kk⟩ => ?_⟩
  have len : ∀ (is : List Nat) (ds : List D) (ρ ρ' : Env), setAll is ds ρ = some ρ' → ds.length = is.length := by
    intro is
    induction is with
    | nil => intro ds ρ ρ' h; cases ds with
      | nil => rfl
      | cons _ _ => cases h
    | cons i is ih => intro ds ρ ρ' h; cases ds with
      | nil => cases h
      | cons d ds => exact congrArg (· + 1) (ih ds _ _ h)
  cases rp with
  | tup hF rs => exact ⟨_, _, rfl, .of (r.sub _ _ hF), by rw [← rs.len, len _ _ _ _ e, hi], B, ρ, F, _, ρ', r, rs, e, kk⟩
  | _ => cases e
/-- the tests of a clause -/
structure STs (X : Cx) (T : List Addr) (pk : Pk) (ifs : List Expr) (m : MT) : Prop where
  pts : PTs X ifs (tMT X.K T pk m)
def mYes : MT := fun ρ => some (true, ρ)
theorem sts_nil : STs X T pk [] mYes := ⟨⟨fun pins s σ H Q I ⟨B, ρ, F, b, ρ', r, e, k⟩ => by
  cases e
  exact pts_nil.run pins s σ H Q I (k H F r (Same.refl F))⟩⟩
theorem sts_one {t : MT} (h : ST X T pk c t) : STs X T pk [c] t := ⟨pts_one h.pt⟩
/-- what stands besides the slots through a step -/
structure Aside (H : Hp) (F : Hp) (ρ : Env) (σ : L2.St) (Z : Addr) (o : HO) : Prop where
  at_ : H Z = some o
  notF : F Z = none
  apart : ∀ (j : Nat) (d : D), ρ[j]? = some (Slot.own d) → σ[j]? ≠ some (some (V.ref Z))
theorem Aside.notio {H F : Hp} {ρ : Env} {σ : L2.St} {D : Addr} {o : HO} (a : Aside H F ρ σ D o) : ¬ OwnA ρ σ D := fun ⟨j, dj, q1, q2⟩ => a.apart j dj q1 q2
theorem Aside.then {K : PySem.W.Frag} {H F H' F' : Hp} {ρ ρ' : Env} {σ σ' : L2.St} {D : Addr} {o : HO} {sp : L2.St} {hl : Nat → Option (Addr × HO)} (a : Aside H F ρ σ D o) (nt : isTbl o = false)
    (r : Rel K T pk ⟨H, F, OwnA ρ σ, sp, hl⟩ ρ' F' σ' H') : Aside H' F' ρ' σ' D o := by
  refine ⟨?_, ?_, fun j d hj hq => ?_⟩
  · have h := r.frame D o a.at_ a.notio
    rwa [if_neg (by rw [nt]; exact Bool.false_ne_true)] at h
  · cases q : F' D with
    | none => rfl
    | some u =>
      rcases r.frs D u q with z | z | z
      · cases (show F D = some u from z).symm.trans a.notF
      · exact absurd z a.notio
      · cases (show H D = none from z).symm.trans a.at_
  · obtain ⟨p, z1, _, _, z4⟩ := r.own j d hj
    rw [hq] at z1; cases z1
    rcases z4 with z4 | z4
    · exact a.notio z4
    · cases (show H D = none from z4).symm.trans a.at_
/-- a list besides the slots is written -/
theorem Rel.writeA {K : PySem.W.Frag} {B : Bs} {ρ : Env} {F : Hp} {σ : L2.St} {H : Hp} {D : Addr} {o o' : HO} (r : Rel K T pk B ρ F σ H) (a : Aside H F ρ σ D o) (nt : isTbl o = false) (io : B.io D ∨ B.H0 D = none) (hlk : ∀ i ∈ pk.lock, ∀ q u, B.Hl i = some (q, u) → q ≠ D) :
    Rel K T pk B ρ F σ (upd H D o') := by
  refine ⟨r.len, fun b u q => ?_, r.notab, r.frs, r.val, fun i d e => ?_, r.apart, fun b u hb hio => ?_, fun P hP => ?_, r.pin, fun i hi q u e => ?_, r.lkd⟩
  · have : b ≠ D := fun e => by rw [e, a.notF] at q; cases q
    rw [upd_ne this]; exact r.sub b u q
  · obtain ⟨p, h1, h2, h3, h4⟩ := r.own i d e
    have : p ≠ D := fun z => a.apart i d e (by rw [h1, z])
    exact ⟨p, h1, h2, h3.at (upd_ne this), h4⟩
  · have : b ≠ D := fun e => by
      rcases io with z | z
      · exact hio (e ▸ z)
      · rw [e, z] at hb; cases hb
    rw [upd_ne this]; exact r.frame b u hb hio
  · obtain ⟨ps, h1, h2⟩ := r.tab P hP
    have : P ≠ D := fun e => by
      have z := a.at_
      rw [← e, h1] at z; cases z; cases nt
    exact ⟨ps, by rw [upd_ne this]; exact h1, h2⟩
  · obtain ⟨h1, h2, h3⟩ := r.lock i hi q u e
    exact ⟨h1, by rw [upd_ne (hlk i hi q u e)]; exact h2, h3⟩
theorem lc_ok {lk : Option Nat} {vs : List Nat} {mi : MI} {g : Tg} {c1 : MT} (hl : ∀ j, lk = some j → pk.lock.contains j = false) (hv : ∀ v ∈ vs, v ∉ (pkl pk lk).pin ∧ v ∉ (pkl pk lk).lock) {σ : L2.St} {H : Hp} {Q : VK} (h : tM X.K T pk (mComp vs mi g c1 m) σ H Q) :
    tLc (tMI X.K T pk lk mi) (tTgC X.K T (pkl pk lk) vs g) (tMT X.K T (pkl pk lk) c1) (tM X.K T (pkl pk lk) m) vs σ H Q := by
  obtain ⟨B, ρ, F, d, o, ρ', r, h, k⟩ := h
  obtain ⟨⟨items, ρ1⟩, e1, h⟩ := Option.bind_eq_some_iff.mp h
  refine ⟨B, ρ, F, items, ρ1, r, e1, fun J H1 F1 r1 s1 it D nD => ?_⟩
  simp only at h
  split at h
  · rename_i hc
    obtain ⟨hz, hno⟩ := hc
    obtain ⟨⟨res, ρ2⟩, e2, h⟩ := Option.map_eq_some_iff.mp h
    cases h
    obtain ⟨B', b0, b1, r1', back⟩ := lock_of lk hl r1
    have ok := it B' r1'
    have hno' : ∀ v ∈ vs, notOwn ρ1[v]? = true := fun v hv' => by simpa using List.all_eq_true.mp hno v hv'
    have ioD : B'.io D ∨ B'.H0 D = none := r1'.fresh0 nD
    have hlk : ∀ i ∈ (pkl pk lk).lock, ∀ q u, B'.Hl i = some (q, u) → q ≠ D := fun i hi q u e z => by
      have := (r1'.lock i hi q u e).2.1
      rw [z, nD] at this; cases this
    refine ⟨fun i n H => n = items.length - i ∧ i ≤ items.length ∧ ∃ (ρ3 : Env) (F3 : Hp) (acc : List V) (ac rest : List Eng.D), Rel X.K T (pkl pk lk) B' ρ3 F3 (L2.wipe σ vs) H ∧ Same F1 F3 ∧ Aside H F3 ρ3 (L2.wipe σ vs) D (.lst acc) ∧ Reps X.K F3 ac acc ∧ acc.length ≤ i ∧
      compM vs g c1 m (items.drop i) ρ3 = some (rest, ρ2) ∧ res = ac ++ rest,
      ⟨_, rfl, Nat.zero_le _, wipeE vs ρ1, F1, [], [], res, (r1'.alloc nD).wipe vs hv, Same.refl F1, ⟨upd_same, r1.fnone nD, fun j dj hj hD => ?_⟩, .nil, Nat.le_refl _, by rw [List.drop_zero]; exact e2, rfl⟩, ?_⟩
    · obtain ⟨p, z1, _, z3, _⟩ := (r1'.wipe vs hv).own j dj hj
      rw [hD] at z1; cases z1
      obtain ⟨o', z4, _⟩ := z3.ex
      rw [nD] at z4; cases z4
    · rintro i n H3 ⟨rfl, hi, ρ3, F3, acc, ac, rest, r3, s3, aD, rac, hac, e3, er⟩
      by_cases hlt : i < items.length
      · refine .inr ?_
        obtain ⟨g1, _⟩ := (ok B' ρ3 F3 _ H3 rfl r3 s3 i).1 items[i] (List.getElem?_eq_getElem hlt)
        rw [List.drop_eq_getElem_cons hlt] at e3
        simp only [compM] at e3
        obtain ⟨ρ4, e4, e3⟩ := Option.bind_eq_some_iff.mp e3
        obtain ⟨⟨b5, ρ5⟩, e5, e3⟩ := Option.bind_eq_some_iff.mp e3
        -- the base is moved to the heap as it is: so D stands through the turn
        obtain ⟨rb, bk⟩ := r3.rebase
        obtain ⟨_, g2⟩ := (ok ⟨H3, F3, OwnA ρ3 (L2.wipe σ vs), B'.σp, B'.Hl⟩ ρ3 F3 _ H3 rfl rb s3 i).1 items[i] (List.getElem?_eq_getElem hlt)
        refine ⟨g1, fun H' => ∃ (ρ6 : Env) (F6 : Hp) (acc' : List V) (ac' rest' : List Eng.D), Rel X.K T (pkl pk lk) B' ρ6 F6 (L2.wipe σ vs) H' ∧ Same F1 F6 ∧ Aside H' F6 ρ6 (L2.wipe σ vs) D (.lst acc') ∧ Reps X.K F6 ac' acc' ∧ acc'.length ≤ i + 1 ∧
            compM vs g c1 m (items.drop (i + 1)) ρ6 = some (rest', ρ2) ∧ res = ac' ++ rest',
          fun H' ⟨ρ6, F6, acc', ac', rest', q⟩ => ⟨items.length - (i + 1), by omega, rfl, hlt, ρ6, F6, acc', ac', rest', q⟩, fun x H4 y => ?_⟩
        obtain ⟨F4, r4, s4, rp⟩ := g2 x H4 y
        refine ⟨_, ρ3, F4, items[i], ρ4, r4, rp, e4, fun σ4 r4' hw => ⟨hw.trans (wipe_idem fun _ h => h), _, ρ4, F4, b5, ρ5, r4', e5, fun H5 F5 r5 s5 => ?_⟩⟩
        have hw' : L2.wipe σ4 vs = L2.wipe σ vs := hw.trans (wipe_idem fun _ h => h)
        cases b5 with
        | false =>
          dsimp only
          rw [if_neg Bool.false_ne_true] at e3 ⊢
          have r6 := r5.wipe vs hv
          rw [hw'] at r6
          exact ⟨wipeE vs ρ5, F5, acc, ac, rest, bk _ _ _ _ r6, (s3.trans s4).trans s5, aD.then rfl r6, rac.up (s4.trans s5), Nat.le_succ_of_le hac, e3, er⟩
        | true =>
          dsimp only
          rw [if_pos rfl] at e3 ⊢
          obtain ⟨⟨⟨d7, o7⟩, ρ7⟩, e7, e3⟩ := Option.bind_eq_some_iff.mp e3
          obtain ⟨⟨rest8, ρ8⟩, e8, e3⟩ := Option.map_eq_some_iff.mp e3
          cases e3
          refine ⟨_, ρ5, F5, d7, o7, ρ7, r5, e7, fun v H7 F7 r7 s7 t7 => ?_⟩
          obtain ⟨F9, r9, s9, rp9⟩ := r7.freezeR t7
          have r10 := r9.wipe vs hv
          rw [hw'] at r10
          have a10 := aD.then rfl r10
          refine ⟨acc, a10.at_, Nat.lt_of_le_of_lt hac (Nat.lt_of_lt_of_le hlt hz), wipeE vs ρ7, F9, acc ++ [v], ac ++ [d7], rest8, (bk _ _ _ _ r10).writeA a10 rfl ioD hlk, (((s3.trans s4).trans s5).trans s7).trans s9, ⟨upd_same, a10.notF, a10.apart⟩, ?_, ?_, e8, ?_⟩
          · exact (rac.up (((s4.trans s5).trans s7).trans s9)).app (.cons rp9 .nil)
          · rw [List.length_append]; exact Nat.succ_le_succ hac
          · rw [er, List.append_assoc]; rfl
      · have e0 : items.drop i = [] := List.drop_eq_nil_of_le (by omega)
        rw [e0] at e3
        cases e3
        rw [List.append_nil] at er
        subst er
        refine .inl ⟨(ok B' _ F3 _ H3 rfl r3 s3 i).2 (by omega), ?_⟩
        have rr := Rel.rest r1 (back _ _ _ _ r3) s3 hno' (fun v hv' => ?_)
        · refine k (.ref D) H3 F3 rr (s1.trans s3) (res_own ⟨D, rfl, aD.notF, ⟨acc, aD.at_, rac⟩, by rw [← b0, ← b1]; exact ioD, fun j dj hj => ?_⟩)
          rcases restE_get hj with ⟨q1, q2⟩ | ⟨q1, q2⟩
          · exfalso
            have z := hno' j q1
            rw [List.getD_eq_getElem?_getD] at q2
            cases q3 : ρ1[j]? with
            | none => rw [q3] at q2; cases q2
            | some s =>
              rw [q3] at q2 z
              have e' : Slot.own dj = s := q2
              subst e'
              cases z
          · have := aD.apart j dj q2
            rwa [wipe_at q1] at this
        · have := hv v hv'
          cases lk with
          | none => exact this
          | some j => exact ⟨this.1, fun z => this.2 (List.mem_cons_of_mem _ z)⟩
  · cases h
variable {elt iter : Expr} {ifs : List Expr} {scope : Scope} {own : List (Str × Nat)} {mi : MI} {g : Tg} {c1 : MT}
def vOk (pk : Pk) (lk : Option Nat) (vs : List Nat) : Bool := vs.all fun v => !(pkl pk lk).pin.contains v && !(pkl pk lk).lock.contains v
theorem vOk_of {lk : Option Nat} {vs : List Nat} (h : vOk pk lk vs = true) : ∀ v ∈ vs, v ∉ (pkl pk lk).pin ∧ v ∉ (pkl pk lk).lock := fun v hv => by
  have := List.all_eq_true.mp h v hv
  simpa using this
theorem se_lc (lk : Option Nat) (hc : X.calm = true) (hN : X.N.Nodup) (hi : SI X T pk lk tg iter mi) (ok : BlkOk X.N X.env.scope scope own)
    (hg : ∀ (s : Shared) (H : Hp) (C : Addr) (cl : List (Str × Addr)) (fp : List Addr), SGC (X.blk s H scope (compEnvC scope cl C X.env) fp) T (pkl pk lk) (own.map (·.2)) tg g)
    (ht : ∀ (s : Shared) (H : Hp) (C : Addr) (cl : List (Str × Addr)) (fp : List Addr), STs (X.blk s H scope (compEnvC scope cl C X.env) fp) T (pkl pk lk) ifs c1)
    (he : ∀ (s : Shared) (H : Hp) (C : Addr) (cl : List (Str × Addr)) (fp : List Addr), SE (X.blk s H scope (compEnvC scope cl C X.env) fp) T (pkl pk lk) elt m)
    (hl : ∀ j, lk = some j → pk.lock.contains j = false := by intro j e; cases e <;> rfl) (hv : vOk pk lk (own.map (·.2)) = true := by rfl) (hs : ∀ x, foldedSetIterable iter X.env x = pure x := by intro _; rfl) :
    SE X T pk (.ListComp elt [⟨tg, iter, ifs, 0⟩] scope pos) (mComp (own.map (·.2)) mi g c1 m) :=
  ⟨pe_weak (pe_lc hc hN hi.pi ok (fun s H C cl fp => (hg s H C cl fp).pg) (fun s H C cl fp => (ht s H C cl fp).pts) (fun s H C cl fp => (he s H C cl fp).pe) hs) fun σ H Q h => lc_ok hl (vOk_of hv) h⟩
/-- y = [..] on one line, y a plain local -/
theorem ss_setLc (lk : Option Nat) (i : Nat) {y : Str} {py spos : Pos} (hc : X.calm = true) (hN : X.N.Nodup) (hy : X.N[i]? = some y) (hyl : X.env.scope.names.lookup y = some .local) (hsw : swapsWith (.ListComp elt [⟨tg, iter, ifs, 0⟩] scope pos) (some (.Name y py)) spos.line X.env = pure true)
    (hi : SI X T pk lk tg iter mi) (ok : BlkOk X.N X.env.scope scope own)
    (hg : ∀ (s : Shared) (H : Hp) (C : Addr) (cl : List (Str × Addr)) (fp : List Addr), SGC (X.blk s H scope (compEnvC scope cl C X.env) fp) T (pkl pk lk) (own.map (·.2)) tg g)
    (ht : ∀ (s : Shared) (H : Hp) (C : Addr) (cl : List (Str × Addr)) (fp : List Addr), STs (X.blk s H scope (compEnvC scope cl C X.env) fp) T (pkl pk lk) ifs c1)
    (he : ∀ (s : Shared) (H : Hp) (C : Addr) (cl : List (Str × Addr)) (fp : List Addr), SE (X.blk s H scope (compEnvC scope cl C X.env) fp) T (pkl pk lk) elt m)
    (hl : ∀ j, lk = some j → pk.lock.contains j = false := by intro j e; cases e <;> rfl) (hv : vOk pk lk (own.map (·.2)) = true := by rfl) (hp : pk.pin.contains i = false := by rfl) (hk : pk.lock.contains i = false := by rfl) (hs : ∀ x, foldedSetIterable iter X.env x = pure x := by intro _; rfl) :
    SS X T pk (.Assign [.Name y py] (.ListComp elt [⟨tg, iter, ifs, 0⟩] scope pos) spos) (sSet i (mComp (own.map (·.2)) mi g c1 m)) :=
  ss_asg (ps_setLc hc hN hy hyl hsw hi.pi ok (fun s H C cl fp => (hg s H C cl fp).pg) (fun s H C cl fp => (ht s H C cl fp).pts) (fun s H C cl fp => (he s H C cl fp).pe) hs) (fun σ H Q h => lc_ok hl (vOk_of hv) h) hp hk
end
end Eng
set_option Elab.async false
set_option linter.all false
set_option maxRecDepth 100000
/-! the engine, part I: defs and their calls -/
namespace Eng
open PySem PySem.Spec PyProof.Rows L2

abbrev FM := Env → Option ((D × Bool) × Env)
def OwnV (ss : Env) (vs : List V) : Addr → Prop := fun a => ∃ (i : Nat) (d : D), ss[i]? = some (Slot.own d) ∧ vs[i]? = some (V.ref a)
structure CallIn (K : PySem.W.Frag) (T : List Addr) (F H : Hp) (ss : Env) (vs : List V) : Prop where
  len : ss.length = vs.length
  sub : Same F H
  notab : ∀ a o, F a = some o → isTbl o = false
  val : ∀ (i : Nat) (d : D), ss[i]? = some (Slot.val d) → ∃ v, vs[i]? = some v ∧ Rep K F d v
  own : ∀ (i : Nat) (d : D), ss[i]? = some (Slot.own d) → ∃ p, vs[i]? = some (V.ref p) ∧ F p = none ∧ OwnAt K F H p d
  apart : ∀ (i j : Nat) (p : Addr) (d e : D), ss[i]? = some (Slot.own d) → ss[j]? = some (Slot.own e) → vs[i]? = some (V.ref p) → vs[j]? = some (V.ref p) → i = j
  tab : ∀ P ∈ T, TabOk H P
structure CallOut (K : PySem.W.Frag) (T : List Addr) (F H : Hp) (ss : Env) (vs : List V) (F' H' : Hp) (ss' : Env) (d : D) (o : Bool) (v : V) : Prop where
  same : Same F F'
  sub : Same F' H'
  notab : ∀ a o, F' a = some o → isTbl o = false
  frs : ∀ a u, F' a = some u → F a = some u ∨ H a = none ∨ OwnV ss vs a
  keep : Keep (OwnV ss vs) H H'
  tab : ∀ P ∈ T, TabOk H' P
  outs : ∀ (i : Nat) (e : D), ss[i]? = some (Slot.own e) → ∃ d' p, ss'[i]? = some (Slot.own d') ∧ vs[i]? = some (V.ref p) ∧ F' p = none ∧ OwnAt K F' H' p d'
  lenO : ss.length ≤ ss'.length
  res : if o = true then ∃ p, v = .ref p ∧ H p = none ∧ F' p = none ∧ OwnAt K F' H' p d else Rep K F' d v
/-- a def's promise: it does what fm says -/
def spM (K : PySem.W.Frag) (T : List Addr) (n : Nat) (fm : FM) : Sp := fun vs H Q _ => vs.length = n ∧ ∃ (F : Hp) (ss ss' : Env) (d : D) (o : Bool), CallIn K T F H ss vs ∧ fm ss = some ((d, o), ss') ∧
  ∀ v H' F', CallOut K T F H ss vs F' H' ss' d o v → Q v H'

def ownOk (io : List Nat) : Nat → Env → Bool
  | _, [] => true
  | i, .own _ :: r => io.contains i && ownOk io (i + 1) r
  | i, _ :: r => ownOk io (i + 1) r
def still : Env → Env → Bool
  | [], _ => true
  | .own _ :: r, .own _ :: q => still r q
  | .own _ :: _, _ => false
  | _ :: r, _ :: q => still r q
  | _ :: _, [] => false
/-- what a body's meaning makes of arguments; io: the slots handed in to be written -/
def mFn (io : List Nat) (k : Nat) (b : MS) : FM := fun ss => if ownOk io 0 ss = true then (b (ss ++ List.replicate k .un)).bind fun q => if still ss q.2 = true then match q.1 with
    | .ret d o => some ((d, o), q.2)
    | .nx => some ((.non, false), q.2)
    | _ => none
  else none else none
theorem ownOk_at {io : List Nat} : ∀ {ss : Env} {n i : Nat} {d : D}, ownOk io n ss = true → ss[i]? = some (Slot.own d) → n + i ∈ io
  | [], n, i, d, _, h => by simp at h
  | s :: r, n, 0, d, h, e => by
    simp only [List.getElem?_cons_zero, Option.some.injEq] at e
    subst e
    simp only [ownOk, Bool.and_eq_true] at h
    simpa using h.1
  | s :: r, n, i + 1, d, h, e => by
    simp only [List.getElem?_cons_succ] at e
    have hr : ownOk io (n + 1) r = true := by
      cases s with
      | own d => simp only [ownOk, Bool.and_eq_true] at h; exact h.2
      | un => exact h
      | val d => exact h
    have := ownOk_at hr e
    rwa [Nat.add_assoc, Nat.add_comm 1 i] at this
theorem still_at : ∀ {ss ρ : Env} {i : Nat} {d : D}, still ss ρ = true → ss[i]? = some (Slot.own d) → ∃ d', ρ[i]? = some (Slot.own d')
  | [], ρ, i, d, _, h => by simp at h
  | s :: r, [], i, d, h, e => by cases s <;> cases h
  | s :: r, q :: ρ, 0, d, h, e => by
    simp only [List.getElem?_cons_zero, Option.some.injEq] at e
    subst e
    cases q with
    | own d' => exact ⟨d', rfl⟩
    | un => cases h
    | val d' => cases h
  | s :: r, q :: ρ, i + 1, d, h, e => by
    simp only [List.getElem?_cons_succ] at e ⊢
    have hr : still r ρ = true := by
      cases s with
      | own d => cases q with
        | own d' => exact h
        | un => cases h
        | val d' => cases h
      | un => exact h
      | val d => exact h
    exact still_at hr e
theorem still_len : ∀ {ss ρ : Env}, still ss ρ = true → ss.length ≤ ρ.length
  | [], _, _ => Nat.zero_le _
  | s :: r, [], h => by cases s <;> cases h
  | s :: r, q :: ρ, h => by
    have hr : still r ρ = true := by
      cases s with
      | own d => cases q with
        | own d' => exact h
        | un => cases h
        | val d' => cases h
      | un => exact h
      | val d => exact h
    exact Nat.succ_le_succ (still_len hr)
theorem start_get {N : List Str} {vs : List V} {i : Nat} {v : V} (h : vs[i]? = some v) : (L2.start N vs)[i]? = some (some v) := by
  have hi := (List.getElem?_eq_some_iff.mp h).1
  unfold L2.start
  rw [List.getElem?_append_left (by simpa using hi), List.getElem?_map, h]
  rfl
theorem app_own {ss : Env} {k i : Nat} {s : Slot} (h : (ss ++ List.replicate k Slot.un)[i]? = some s) (n : s ≠ .un) : ss[i]? = some s := by
  by_cases hi : i < ss.length
  · rwa [List.getElem?_append_left hi] at h
  · rw [List.getElem?_append_right (by omega), List.getElem?_replicate] at h
    split at h
    · cases h; exact absurd rfl n
    · cases h
section
variable {P : Program} {w : World} {K : PySem.W.Frag} {mg : Str → Option Value} {base : Heap} {T : List Addr}
/-- a def does what its body's meaning says -/
theorem fn_reading {N : List Str} {n : Nat} {io : List Nat} {b : MS} {vs : List V} {H : Hp} {Q : VK} {E : XK} (hn : n ≤ N.length) (h : spM K T n (mFn io (N.length - n) b) vs H Q E) :
    tMS K T ⟨io, []⟩ b { nx := fun _ H' => Q .non H', rt := Q } (L2.start N vs) H := by
  obtain ⟨hvl, F, ss, ss', d, o, I, e, k⟩ := h
  unfold mFn at e
  split at e
  · rename_i hio
    obtain ⟨⟨f, ρ'⟩, e1, e⟩ := Option.bind_eq_some_iff.mp e
    simp only at e
    split at e
    · rename_i hst
      have el : ss.length = n := by rw [I.len, hvl]
      refine ⟨⟨H, F, OwnV ss vs, L2.start N vs, fun _ => none⟩, ss ++ List.replicate (N.length - n) .un, F, f, ρ', ⟨?_, I.sub, I.notab, fun _ _ q => .inl q, fun i d q => ?_, fun i d q => ?_, fun i j p d e q1 q2 q3 q4 => ?_, Keep.refl _ _, I.tab, fun _ _ => rfl, fun _ q => (nomatch q), fun _ q => (nomatch q)⟩, e1, ?_⟩
      · unfold L2.start
        simp only [List.length_append, List.length_replicate, List.length_map]
        omega
      · obtain ⟨v, h1, h2⟩ := I.val i d (app_own q fun z => nomatch z)
        exact ⟨v, start_get h1, h2⟩
      · have q' := app_own q fun z => nomatch z
        obtain ⟨p, h1, h2, h3⟩ := I.own i d q'
        exact ⟨p, start_get h1, h2, h3, .inl ⟨i, d, q', h1⟩⟩
      · have y1 := app_own q1 fun z => nomatch z
        have y2 := app_own q2 fun z => nomatch z
        obtain ⟨p1, h1, _⟩ := I.own i d y1
        obtain ⟨p2, h2, _⟩ := I.own j e y2
        rw [start_get h1] at q3
        rw [start_get h2] at q4
        cases q3; cases q4
        exact I.apart i j _ d e y1 y2 h1 h2
      · -- the end
        have fin : ∀ (d1 : D) (o1 : Bool) (v : V) (σ' : L2.St) (H' F' : Hp), Rel K T ⟨io, []⟩ ⟨H, F, OwnV ss vs, L2.start N vs, fun _ => none⟩ ρ' F' σ' H' → Same F F' → Res K ⟨H, F, OwnV ss vs, L2.start N vs, fun _ => none⟩ ρ' F' σ' H' d1 o1 v →
            CallOut K T F H ss vs F' H' ρ' d1 o1 v := fun d1 o1 v σ' H' F' r s t => by
          refine ⟨s, r.sub, r.notab, fun a u q => ?_, r.frame, r.tab, fun i e1 q => ?_, still_len hst, ?_⟩
          · rcases r.frs a u q with z | z | z
            · exact .inl z
            · exact .inr (.inr z)
            · exact .inr (.inl z)
          · obtain ⟨d', hd⟩ := still_at hst q
            obtain ⟨p0, h1, _, _⟩ := I.own i e1 q
            obtain ⟨p, z1, z2, z3, _⟩ := r.own i d' hd
            have hp := r.pin i (by have := ownOk_at hio q; rwa [Nat.zero_add] at this)
            rw [z1, show (L2.start N vs)[i]? = _ from start_get h1] at hp
            cases hp
            exact ⟨d', _, hd, h1, z2, z3⟩
          · cases o1 with
            | false => exact t
            | true =>
              rw [if_pos rfl]
              obtain ⟨p, hv, z2, z3, z4, z5⟩ := t
              refine ⟨p, hv, ?_, z2, z3⟩
              rcases z4 with ⟨i, e1, y1, y2⟩ | z4
              · exfalso
                obtain ⟨d', hd⟩ := still_at hst y1
                have hp := r.pin i (by have := ownOk_at hio y1; rwa [Nat.zero_add] at this)
                rw [show (L2.start N vs)[i]? = _ from start_get y2] at hp
                exact z5 i d' hd hp
              · exact z4
        cases f with
        | nx =>
          cases e
          exact fun σ' H' F' r s => k .non H' F' (fin .non false .non σ' H' F' r s (res_of .non))
        | ret d1 o1 =>
          cases e
          exact fun v σ' H' F' r s t => k v H' F' (fin _ _ v σ' H' F' r s t)
        | brk => cases e
        | cont => cases e
    · cases e
  · cases e
theorem fn_ok {x qual : Str} {st : Stmt} {f : Addr} {fd : FuncData} {N ps : List Str} {k : Nat} {io : List Nat} {b : MS} (F : Fun K x qual st f fd) (S : FnScope N ps (defScope st))
    (hb : ∀ (cdv : Value) (A : Around) (outer : List PySem.Env) (s : Shared) (H : Hp) (E : XK), Room k (A.deeper (envOfC qual (defScope st) s.heap.objs.size f cdv)) → SB (cxOf CX0 P w K mg base N qual (defScope st) f cdv A outer s H E).nox T ⟨io, []⟩ (defBody st) b) :
    FnOk P w K mg base CX0 (k + 1) f fd ps (spM K T ps.length (mFn io (N.length - ps.length) b)) := by
  refine F.ok S (fun vs H Q E h => h.1) fun cdv A outer s H vs Q E hr h => ⟨_, (hb cdv A outer s H E hr).pss, fn_reading ?_ h⟩
  have := congrArg List.length S.pre
  rw [List.length_take] at this
  omega
/-- a def that may be called -/
structure Cal (P : Program) (w : World) (K : PySem.W.Frag) (mg : Str → Option Value) (base : Heap) (T : List Addr) (k : Nat) (x : Str) (n : Nat) (fm : FM) : Prop where
  ex : ∃ (f : Addr) (fd : FuncData) (ps : List Str), ps.length = n ∧ FnOk P w K mg base CX0 k f fd ps (spM K T n fm) ∧ mg x = some (.ref f) ∧ PySem.W.keepIn K (.ref f) = true ∧ Binds K fd ps []
theorem Cal.mono {j k : Nat} {x : Str} {n : Nat} {fm : FM} (c : Cal P w K mg base T j x n fm) (h : j ≤ k) : Cal P w K mg base T k x n fm := by
  obtain ⟨f, fd, ps, h1, h2, h3⟩ := c.ex
  exact ⟨f, fd, ps, h1, h2.mono h, h3⟩
end

/-! calls -/
inductive Arg where
  | ex (m : ME)
  | ln (j : Nat)
  | io (j : Nat)
def Arg.opd : Arg → Opd
  | .ex m => .ex m
  | .ln j => .nm j
  | .io j => .nm j
def slotsOf : List Arg → List D → Env → Option Env
  | [], [], _ => some []
  | .io j :: as, d :: ds, ρ => match ρ[j]? with
    | some (.own _) => (slotsOf as ds ρ).map fun r => .own d :: r
    | _ => none
  | _ :: as, d :: ds, ρ => (slotsOf as ds ρ).map fun r => .val d :: r
  | _, _, _ => none
mutual
/-- no list or dict within -/
def clean : D → Bool
  | .lst _ => false
  | .scr _ => false
  | .dK _ => false
  | .dT _ => false
  | .dF _ => false
  | .tup xs => cleans xs
  | _ => true
def cleans : List D → Bool
  | [] => true
  | d :: r => clean d && cleans r
end
/-- .. but the outermost one -/
def clean1 : D → Bool
  | .lst xs => cleans xs
  | .dK kvs => kvs.all fun q => clean q.2
  | .dT kvs => kvs.all fun q => clean q.2
  | d => clean d
def freezeE (ρ : Env) (j : Nat) : Env := match ρ[j]? with
  | some (.own d) => ρ.set j (.val d)
  | _ => ρ
def outsOk : List Arg → Env → Bool
  | [], _ => true
  | .io _ :: as, .own d :: ss => clean1 d && outsOk as ss
  | .io _ :: _, _ => false
  | _ :: as, _ :: ss => outsOk as ss
  | _ :: _, [] => false
def backE (c : Bool) : List Arg → Env → Env → Env
  | .io j :: as, s :: ss, ρ => backE c as ss (ρ.set j s)
  | .ln j :: as, _ :: ss, ρ => backE c as ss (if c = true then ρ else freezeE ρ j)
  | .ex _ :: as, _ :: ss, ρ => backE c as ss ρ
  | _, _, ρ => ρ
def mCall (fm : FM) (as : List Arg) : ME := fun ρ => (ops (as.map Arg.opd) ρ).bind fun q => (slotsOf as q.1 q.2).bind fun ss => (fm ss).map fun r =>
  (r.1, backE ((if r.1.2 = true then clean1 r.1.1 else clean r.1.1) && outsOk as r.2) as r.2 q.2)
end Eng
set_option Elab.async false
set_option linter.all false
set_option maxRecDepth 100000
/-! the engine, part J: a call does what its meaning says -/
namespace Eng
open PySem PySem.Spec PyProof.Rows L2

def iosOf : List Arg → List Nat
  | [] => []
  | .io j :: as => j :: iosOf as
  | _ :: as => iosOf as
def lnsOf : List Arg → List Nat
  | [] => []
  | .ln j :: as => j :: lnsOf as
  | _ :: as => lnsOf as
/-- nothing is handed in twice to be written, nor is what is locked -/
def argsOk (pk : Pk) (as : List Arg) : Bool := (iosOf as).Nodup && (iosOf as).all (fun j => !(lnsOf as).contains j && !pk.lock.contains j)

inductive AOk (K : PySem.W.Frag) (F : Hp) (σ : L2.St) (ρ : Env) : List Arg → List D → List V → Prop where
  | nil : AOk K F σ ρ [] [] []
  | ex {m : ME} {d : D} {v : V} {as : List Arg} {ds : List D} {vs : List V} (r : Rep K F d v) (t : AOk K F σ ρ as ds vs) : AOk K F σ ρ (.ex m :: as) (d :: ds) (v :: vs)
  | ln {j : Nat} {d : D} {v : V} {as : List Arg} {ds : List D} {vs : List V} (h : σ[j]? = some (some v)) (e : rd ρ[j]? = some d) (t : AOk K F σ ρ as ds vs) : AOk K F σ ρ (.ln j :: as) (d :: ds) (v :: vs)
  | io {j : Nat} {d : D} {v : V} {as : List Arg} {ds : List D} {vs : List V} (h : σ[j]? = some (some v)) (e : rd ρ[j]? = some d) (t : AOk K F σ ρ as ds vs) : AOk K F σ ρ (.io j :: as) (d :: ds) (v :: vs)

section
variable {K : PySem.W.Frag} {T : List Addr} {pk : Pk} {B : Bs} {ρ ρ' : Env} {F F' : Hp} {σ : L2.St} {H H' : Hp}
theorem aok_of : ∀ (as : List Arg) {ρ0 ρ : Env} {l : List (Sum D Nat)} {ds : List D} {vs : List V}, pre (as.map Arg.opd) ρ0 = some (l, ρ) → fin ρ l = some ds → PreOk K F σ l vs → AOk K F σ ρ as ds vs
  | [], ρ0, ρ, l, ds, vs, h1, h2, h3 => by
    simp only [List.map_nil, pre, Option.some.injEq, Prod.mk.injEq] at h1
    rw [← h1.1] at h2 h3
    cases h3
    simp only [fin, Option.some.injEq] at h2
    subst h2
    exact .nil
  | .ex m :: as, ρ0, ρ, l, ds, vs, h1, h2, h3 => by
    simp only [List.map_cons, Arg.opd, pre] at h1
    obtain ⟨r, q1, h1⟩ := Option.bind_eq_some_iff.mp h1
    obtain ⟨q, q2, h1⟩ := Option.map_eq_some_iff.mp h1
    obtain ⟨l', ρ'⟩ := q
    cases h1
    simp only [fin] at h2
    obtain ⟨ds', q3, h2⟩ := Option.map_eq_some_iff.mp h2
    subst h2
    cases h3 with
    | val rp t => exact .ex rp (aok_of as q2 q3 t)
  | .ln j :: as, ρ0, ρ, l, ds, vs, h1, h2, h3 => by
    simp only [List.map_cons, Arg.opd, pre] at h1
    split at h1
    · obtain ⟨q, q2, h1⟩ := Option.map_eq_some_iff.mp h1
      obtain ⟨l', ρ'⟩ := q
      cases h1
      simp only [fin] at h2
      obtain ⟨d, q4, h2⟩ := Option.bind_eq_some_iff.mp h2
      obtain ⟨ds', q3, h2⟩ := Option.map_eq_some_iff.mp h2
      subst h2
      cases h3 with
      | nm hv t => exact .ln hv q4 (aok_of as q2 q3 t)
    · cases h1
  | .io j :: as, ρ0, ρ, l, ds, vs, h1, h2, h3 => by
    simp only [List.map_cons, Arg.opd, pre] at h1
    split at h1
    · obtain ⟨q, q2, h1⟩ := Option.map_eq_some_iff.mp h1
      obtain ⟨l', ρ'⟩ := q
      cases h1
      simp only [fin] at h2
      obtain ⟨d, q4, h2⟩ := Option.bind_eq_some_iff.mp h2
      obtain ⟨ds', q3, h2⟩ := Option.map_eq_some_iff.mp h2
      subst h2
      cases h3 with
      | nm hv t => exact .io hv q4 (aok_of as q2 q3 t)
    · cases h1
theorem slots_len : ∀ {as : List Arg} {ds : List D} {vs : List V} {ss : Env}, AOk K F σ ρ as ds vs → slotsOf as ds ρ = some ss → ss.length = vs.length ∧ ss.length = as.length
  | _, _, _, ss, .nil, h => by simp only [slotsOf, Option.some.injEq] at h; subst h; exact ⟨rfl, rfl⟩
  | _, _, _, ss, .ex r t, h => by
    simp only [slotsOf] at h
    obtain ⟨q, h1, rfl⟩ := Option.map_eq_some_iff.mp h
    obtain ⟨a, b⟩ := slots_len t h1
    exact ⟨congrArg (· + 1) a, congrArg (· + 1) b⟩
  | _, _, _, ss, .ln r e t, h => by
    simp only [slotsOf] at h
    obtain ⟨q, h1, rfl⟩ := Option.map_eq_some_iff.mp h
    obtain ⟨a, b⟩ := slots_len t h1
    exact ⟨congrArg (· + 1) a, congrArg (· + 1) b⟩
  | _, _, _, ss, .io r e t, h => by
    simp only [slotsOf] at h
    split at h
    · obtain ⟨q, h1, rfl⟩ := Option.map_eq_some_iff.mp h
      obtain ⟨a, b⟩ := slots_len t h1
      exact ⟨congrArg (· + 1) a, congrArg (· + 1) b⟩
    · cases h
theorem slots_at : ∀ {as : List Arg} {ds : List D} {vs : List V} {ss : Env} {i : Nat} {s : Slot}, AOk K F σ ρ as ds vs → slotsOf as ds ρ = some ss → ss[i]? = some s →
    ∃ v, vs[i]? = some v ∧ ((∃ d, s = .val d ∧ (∀ j, as[i]? ≠ some (.io j)) ∧ (Rep K F d v ∨ ∃ j, j ∈ lnsOf as ∧ σ[j]? = some (some v) ∧ rd ρ[j]? = some d)) ∨ ∃ d j, s = .own d ∧ as[i]? = some (.io j) ∧ j ∈ iosOf as ∧ σ[j]? = some (some v) ∧ ρ[j]? = some (Slot.own d))
  | _, _, _, ss, i, s, .nil, h, e => by simp only [slotsOf, Option.some.injEq] at h; subst h; simp at e
  | _, _, _, ss, i, s, .ex r t, h, e => by
    simp only [slotsOf] at h
    obtain ⟨q, h1, rfl⟩ := Option.map_eq_some_iff.mp h
    cases i with
    | zero =>
      simp only [List.getElem?_cons_zero, Option.some.injEq] at e
      subst e
      exact ⟨_, rfl, .inl ⟨_, rfl, fun j z => (nomatch z), .inl r⟩⟩
    | succ i =>
      obtain ⟨v, a, b⟩ := slots_at t h1 (i := i) (by simpa using e)
      exact ⟨v, a, b⟩
  | _, _, _, ss, i, s, .ln r hd t, h, e => by
    simp only [slotsOf] at h
    obtain ⟨q, h1, rfl⟩ := Option.map_eq_some_iff.mp h
    cases i with
    | zero =>
      simp only [List.getElem?_cons_zero, Option.some.injEq] at e
      subst e
      exact ⟨_, rfl, .inl ⟨_, rfl, fun j z => (nomatch z), .inr ⟨_, List.mem_cons_self, r, hd⟩⟩⟩
    | succ i =>
      obtain ⟨v, a, b⟩ := slots_at t h1 (i := i) (by simpa using e)
      refine ⟨v, a, b.imp (fun ⟨d, x1, x2, x3⟩ => ⟨d, x1, x2, x3.imp id fun ⟨j, y1, y2⟩ => ⟨j, List.mem_cons_of_mem _ y1, y2⟩⟩) id⟩
  | _, _, _, ss, i, s, .io r hd t, h, e => by
    simp only [slotsOf] at h
    split at h
    · rename_i d' ho
      obtain ⟨q, h1, rfl⟩ := Option.map_eq_some_iff.mp h
      rw [ho] at hd
      cases hd
      cases i with
      | zero =>
        simp only [List.getElem?_cons_zero, Option.some.injEq] at e
        subst e
        exact ⟨_, rfl, .inr ⟨_, _, rfl, rfl, List.mem_cons_self, r, ho⟩⟩
      | succ i =>
        obtain ⟨v, a, b⟩ := slots_at t h1 (i := i) (by simpa using e)
        exact ⟨v, a, b.imp id fun ⟨d, j, x1, x2, x3, x4⟩ => ⟨d, j, x1, x2, List.mem_cons_of_mem _ x3, x4⟩⟩
    · cases h
theorem io_mem : ∀ {as : List Arg} {i j : Nat}, as[i]? = some (.io j) → j ∈ iosOf as
  | [], i, j, h => by simp at h
  | a :: as, 0, j, h => by
    simp only [List.getElem?_cons_zero, Option.some.injEq] at h
    subst h
    exact List.mem_cons_self
  | a :: as, i + 1, j, h => by
    have := io_mem (as := as) (i := i) (j := j) (by simpa using h)
    cases a with
    | io l => exact List.mem_cons_of_mem _ this
    | ex m => exact this
    | ln l => exact this
theorem io_tail {a : Arg} {as : List Arg} (nd : (iosOf (a :: as)).Nodup) : (iosOf as).Nodup := by
  cases a with
  | io l => simp only [iosOf, List.nodup_cons] at nd; exact nd.2
  | ex m => exact nd
  | ln l => exact nd
theorem io_head {j k : Nat} {as : List Arg} (nd : (iosOf (.io j :: as)).Nodup) (h : as[k]? = some (Arg.io j)) : False := by
  simp only [iosOf, List.nodup_cons] at nd
  exact nd.1 (io_mem h)
theorem io_one : ∀ {as : List Arg} {i k j : Nat}, (iosOf as).Nodup → as[i]? = some (Arg.io j) → as[k]? = some (Arg.io j) → i = k
  | [], i, k, j, _, h, _ => by simp at h
  | a :: as, 0, 0, j, _, _, _ => rfl
  | a :: as, 0, k + 1, j, nd, h1, h2 => by
    simp only [List.getElem?_cons_zero, Option.some.injEq] at h1
    subst h1
    exact (io_head nd (by simpa using h2)).elim
  | a :: as, i + 1, 0, j, nd, h1, h2 => by
    simp only [List.getElem?_cons_zero, Option.some.injEq] at h2
    subst h2
    exact (io_head nd (by simpa using h1)).elim
  | a :: as, i + 1, k + 1, j, nd, h1, h2 => congrArg (· + 1) (io_one (io_tail nd) (by simpa using h1) (by simpa using h2))

/-! what a call leaves in the slots -/
theorem back_len (c : Bool) : ∀ (as : List Arg) (ss ρ : Env), (backE c as ss ρ).length = ρ.length
  | [], _, _ => rfl
  | _ :: _, [], _ => by simp [backE]
  | .io j :: as, s :: ss, ρ => by
    show (backE c as ss (ρ.set j s)).length = _
    rw [back_len c as, List.length_set]
  | .ln j :: as, s :: ss, ρ => by
    show (backE c as ss (if c = true then ρ else freezeE ρ j)).length = _
    rw [back_len c as]
    split
    · rfl
    · unfold freezeE; split <;> simp
  | .ex m :: as, s :: ss, ρ => back_len c as ss ρ
theorem freeze_get {j i : Nat} {s : Slot} (h : (freezeE ρ j)[i]? = some s) : (ρ[i]? = some s ∧ (i = j → ∀ d, s ≠ .own d)) ∨ ∃ d, i = j ∧ s = .val d ∧ ρ[i]? = some (Slot.own d) := by
  unfold freezeE at h
  split at h
  · rename_i d e
    rcases get_set h with ⟨a, b⟩ | ⟨a, b⟩
    · exact .inr ⟨d, a, b, by rw [a]; exact e⟩
    · exact .inl ⟨b, fun z => absurd z a⟩
  · rename_i hn
    exact .inl ⟨h, fun z d q => hn d (by rw [← z, h, q])⟩
/-- at an io place stands an own slot -/
def OutsOwn (as : List Arg) (ss : Env) : Prop := ∀ (k j : Nat), as[k]? = some (Arg.io j) → ∃ d, ss[k]? = some (Slot.own d)
theorem OutsOwn.tail {a : Arg} {as : List Arg} {s : Slot} {ss : Env} (h : OutsOwn (a :: as) (s :: ss)) : OutsOwn as ss := fun k j e => by
  simpa using h (k + 1) j (by simpa using e)
theorem back_val {c : Bool} {d : D} {i : Nat} : ∀ {as : List Arg} {ss ρ : Env}, OutsOwn as ss → (∀ j ∈ iosOf as, j ∉ lnsOf as) → (backE c as ss ρ)[i]? = some (Slot.val d) → ρ[i]? = some (Slot.val d) ∨ (c = false ∧ i ∈ lnsOf as ∧ ρ[i]? = some (Slot.own d))
  | [], _, _, _, _, h => .inl h
  | _ :: _, [], ρ, _, _, h => .inl (by simpa [backE] using h)
  | .io j :: as, s :: ss, ρ, o, dj, h => by
    obtain ⟨d', hs⟩ := o 0 j rfl
    simp only [List.getElem?_cons_zero, Option.some.injEq] at hs
    subst hs
    have dj' : ∀ l ∈ iosOf as, l ∉ lnsOf as := fun l hl => dj l (List.mem_cons_of_mem _ hl)
    rcases back_val (ρ := ρ.set j (.own d')) o.tail dj' h with q | ⟨q1, q2, q3⟩
    · rcases get_set q with ⟨_, z⟩ | ⟨_, z⟩
      · cases z
      · exact .inl z
    · rcases get_set q3 with ⟨z, _⟩ | ⟨_, z⟩
      · exact absurd (z ▸ q2) (dj j List.mem_cons_self)
      · exact .inr ⟨q1, q2, z⟩
  | .ln j :: as, s :: ss, ρ, o, dj, h => by
    have dj' : ∀ l ∈ iosOf as, l ∉ lnsOf as := fun l hl m => dj l hl (List.mem_cons_of_mem _ m)
    rcases back_val (ρ := if c = true then ρ else freezeE ρ j) o.tail dj' h with q | ⟨q1, q2, q3⟩
    · cases c with
      | true => exact .inl q
      | false =>
        rcases freeze_get q with ⟨q, _⟩ | ⟨e, q1, q2, q3⟩
        · exact .inl q
        · cases q2
          exact .inr ⟨rfl, by rw [q1]; exact List.mem_cons_self, q3⟩
    · subst q1
      rcases freeze_get q3 with ⟨q, _⟩ | ⟨e, _, q, _⟩
      · exact .inr ⟨rfl, List.mem_cons_of_mem _ q2, q⟩
      · cases q
  | .ex m :: as, s :: ss, ρ, o, dj, h => back_val (as := as) (ss := ss) (ρ := ρ) o.tail dj h
theorem back_own {c : Bool} {d : D} {i : Nat} : ∀ {as : List Arg} {ss ρ : Env}, as.length ≤ ss.length → OutsOwn as ss → (iosOf as).Nodup → (∀ j ∈ iosOf as, j ∉ lnsOf as) → (backE c as ss ρ)[i]? = some (Slot.own d) →
    (∃ k : Nat, as[k]? = some (Arg.io i) ∧ ss[k]? = some (Slot.own d)) ∨ (i ∉ iosOf as ∧ ρ[i]? = some (Slot.own d) ∧ (c = true ∨ i ∉ lnsOf as))
  | [], _, _, _, _, _, _, h => .inr ⟨by simp [iosOf], h, .inr (by simp [lnsOf])⟩
  | _ :: _, [], _, len, _, _, _, _ => absurd len (by simp)
  | .io j :: as, s :: ss, ρ, len, o, nd, dj, h => by
    obtain ⟨d', hs⟩ := o 0 j rfl
    simp only [List.getElem?_cons_zero, Option.some.injEq] at hs
    subst hs
    simp only [iosOf, List.nodup_cons] at nd
    have dj' : ∀ l ∈ iosOf as, l ∉ lnsOf as := fun l hl => dj l (List.mem_cons_of_mem _ hl)
    rcases back_own (ρ := ρ.set j (.own d')) (Nat.le_of_succ_le_succ len) o.tail nd.2 dj' h with ⟨k, q1, q2⟩ | ⟨q1, q2, q3⟩
    · exact .inl ⟨k + 1, by simpa using q1, by simpa using q2⟩
    · rcases get_set q2 with ⟨z, z2⟩ | ⟨z, z2⟩
      · exact .inl ⟨0, by rw [z]; rfl, by rw [z2]; rfl⟩
      · exact .inr ⟨by simp [iosOf, z, q1], z2, q3⟩
  | .ln j :: as, s :: ss, ρ, len, o, nd, dj, h => by
    have dj' : ∀ l ∈ iosOf as, l ∉ lnsOf as := fun l hl m => dj l hl (List.mem_cons_of_mem _ m)
    rcases back_own (ρ := if c = true then ρ else freezeE ρ j) (Nat.le_of_succ_le_succ len) o.tail nd dj' h with ⟨k, q1, q2⟩ | ⟨q1, q2, q3⟩
    · exact .inl ⟨k + 1, by simpa using q1, by simpa using q2⟩
    · cases c with
      | true => exact .inr ⟨q1, q2, .inl rfl⟩
      | false =>
        rcases freeze_get q2 with ⟨z1, z2⟩ | ⟨e, _, z, _⟩
        · refine .inr ⟨q1, z1, .inr fun m => ?_⟩
          rcases List.mem_cons.mp m with m | m
          · exact z2 m d rfl
          · exact (q3.resolve_left Bool.false_ne_true) m
        · cases z
  | .ex m :: as, s :: ss, ρ, len, o, nd, dj, h => by
    rcases back_own (as := as) (ss := ss) (ρ := ρ) (Nat.le_of_succ_le_succ len) o.tail nd dj h with ⟨k, q1, q2⟩ | q
    · exact .inl ⟨k + 1, by simpa using q1, by simpa using q2⟩
    · exact .inr q
theorem back_keep {c : Bool} {d : D} {i : Nat} : ∀ {as : List Arg} {ss ρ : Env}, i ∉ iosOf as → ρ[i]? = some (Slot.own d) → (c = true ∨ i ∉ lnsOf as) → (backE c as ss ρ)[i]? = some (Slot.own d)
  | [], _, _, _, h, _ => h
  | _ :: _, [], ρ, _, h, _ => by simpa [backE] using h
  | .io j :: as, s :: ss, ρ, n, h, l => by
    simp only [iosOf, List.mem_cons, not_or] at n
    exact back_keep (as := as) n.2 (set_get h n.1) l
  | .ln j :: as, s :: ss, ρ, n, h, l => by
    cases c with
    | true => exact back_keep (as := as) n h (.inl rfl)
    | false =>
      have l' := l.resolve_left Bool.false_ne_true
      simp only [lnsOf, List.mem_cons, not_or] at l'
      refine back_keep (as := as) (ρ := freezeE ρ j) n ?_ (.inr l'.2)
      unfold freezeE
      split
      · exact set_get h l'.1
      · exact h
  | .ex m :: as, s :: ss, ρ, n, h, l => back_keep (as := as) n h l

/-! the slots behind a call -/
theorem Rel.after (r : Rel K T pk B ρ F σ H) (a : Same F F') (b : Same F' H') (nt : ∀ a o, F' a = some o → isTbl o = false) (fr : ∀ a u, F' a = some u → F a = some u ∨ H a = none ∨ OwnA ρ σ a)
    (kp : Keep (OwnA ρ σ) H H') (tb : ∀ P ∈ T, TabOk H' P) (len : ρ'.length = ρ.length) (hv : ∀ (i : Nat) (d : D), ρ'[i]? = some (Slot.val d) → ρ[i]? = some (Slot.val d) ∨ ∃ v, σ[i]? = some (some v) ∧ Rep K F' d v)
    (ho : ∀ (i : Nat) (d : D), ρ'[i]? = some (Slot.own d) → ∃ (e : D) (p : Addr), ρ[i]? = some (Slot.own e) ∧ σ[i]? = some (some (V.ref p)) ∧ F' p = none ∧ OwnAt K F' H' p d)
    (lk : ∀ i ∈ pk.lock, ∀ (d : D) (q : Addr) (o : HO), ρ[i]? = some (Slot.own d) → σ[i]? = some (some (V.ref q)) → H q = some o → H' q = some o ∧ ((∃ u, F' q = some u) ∨ ∃ d, ρ'[i]? = some (Slot.own d))) :
    Rel K T pk B ρ' F' σ H' := by
  have ownB : ∀ {p : Addr}, OwnA ρ σ p → B.io p ∨ B.H0 p = none := fun {p} ⟨i, d, h1, h2⟩ => by
    obtain ⟨q, z1, _, _, z4⟩ := r.own i d h1
    rw [h2] at z1; cases z1
    exact z4
  refine ⟨by rw [len]; exact r.len, b, nt, fun a u e => ?_, fun i d e => ?_, fun i d e => ?_, fun i j p d e q1 q2 q3 q4 => ?_, fun a o ha hio => ?_, tb, r.pin, fun i hi q o e => ?_, fun i hi d e => ?_⟩
  · rcases fr a u e with z | z | z
    · exact r.frs a u z
    · exact .inr (r.fresh0 z)
    · exact .inr (ownB z)
  · rcases hv i d e with z | z
    · obtain ⟨v, h1, h2⟩ := r.val i d z
      exact ⟨v, h1, h2.up a⟩
    · exact z
  · obtain ⟨e', p, h1, h2, h3, h4⟩ := ho i d e
    exact ⟨p, h2, h3, h4, ownB ⟨i, e', h1, h2⟩⟩
  · obtain ⟨e1, p1, h1, h2, _⟩ := ho i d q1
    obtain ⟨e2, p2, h3, h4, _⟩ := ho j e q2
    exact r.apart i j p e1 e2 h1 h3 q3 q4
  · have nq : ¬ OwnA ρ σ a := fun q => (ownB q).elim hio fun z => by rw [z] at ha; cases ha
    have h1 := r.frame a o ha hio
    by_cases t : isTbl o = true
    · rw [if_pos t] at h1 ⊢
      obtain ⟨u, h2, h3⟩ := h1
      have h4 := kp a u h2 nq
      rw [if_pos h3] at h4
      exact h4
    · rw [if_neg t] at h1 ⊢
      have h4 := kp a o h1 nq
      rw [if_neg t] at h4
      exact h4
  · obtain ⟨h1, h2, h3⟩ := r.lock i hi q o e
    rcases h3 with ⟨u, hu⟩ | ⟨d, hd⟩
    · have hu' := a _ _ hu
      have h4 := r.sub _ _ hu
      rw [h2] at h4; cases h4
      exact ⟨h1, b _ _ hu', .inl ⟨_, hu'⟩⟩
    · obtain ⟨h4, h5⟩ := lk i hi d q o hd h1 h2
      exact ⟨h1, h4, h5⟩
  · obtain ⟨e', p, h1, _⟩ := ho i d e
    exact r.lkd i hi e' h1
/-! data without lists or dicts -/
mutual
theorem Rep.cut {F2 : Hp} (h : ∀ a vs, F a = some (.tup vs) → F2 a = some (.tup vs)) : ∀ {d : D} {v : V}, Rep K F d v → clean d = true → Rep K F2 d v
  | _, _, .non, _ => .non
  | _, _, .bl b, _ => .bl b
  | _, _, .int i, _ => .int i
  | _, _, .str x, _ => .str x
  | _, _, .tup e r, c => .tup (h _ _ e) (Reps.cut h r (by simpa [clean] using c))
  | _, _, .lst e r, c => by simp [clean] at c
  | _, _, .scr e r, c => by simp [clean] at c
  | _, _, .dK e r, c => by simp [clean] at c
  | _, _, .dT e r, c => by simp [clean] at c
  | _, _, .dF e r, c => by simp [clean] at c
theorem Reps.cut {F2 : Hp} (h : ∀ a vs, F a = some (.tup vs) → F2 a = some (.tup vs)) : ∀ {ds : List D} {vs : List V}, Reps K F ds vs → cleans ds = true → Reps K F2 ds vs
  | _, _, .nil, _ => .nil
  | _, _, .cons r t, c => by
    simp only [cleans, Bool.and_eq_true] at c
    exact .cons (Rep.cut h r c.1) (Reps.cut h t c.2)
end
theorem RepK.cut {F2 : Hp} (h : ∀ a vs, F a = some (.tup vs) → F2 a = some (.tup vs)) : ∀ {ds : List (Key × D)} {vs : List (Key × V)}, RepK K F ds vs → (ds.all fun q => clean q.2) = true → RepK K F2 ds vs
  | _, _, .nil, _ => .nil
  | _, _, .cons r t, c => by
    rw [List.all_cons, Bool.and_eq_true] at c
    exact .cons (r.cut h c.1) (RepK.cut h t c.2)
theorem RepT.cut {F2 : Hp} (h : ∀ a vs, F a = some (.tup vs) → F2 a = some (.tup vs)) : ∀ {ds : List (List Key × D)} {vs : List (List Key × V)}, RepT K F ds vs → (ds.all fun q => clean q.2) = true → RepT K F2 ds vs
  | _, _, .nil, _ => .nil
  | _, _, .cons r t, c => by
    rw [List.all_cons, Bool.and_eq_true] at c
    exact .cons (r.cut h c.1) (RepT.cut h t c.2)
theorem OwnAt.cut {F2 : Hp} {p : Addr} {d : D} (h : ∀ a vs, F a = some (.tup vs) → F2 a = some (.tup vs)) (o : OwnAt K F H p d) (c : clean1 d = true) : OwnAt K F2 H p d := by
  cases d with
  | lst ds => obtain ⟨vs, e, r⟩ := o; exact ⟨vs, e, r.cut h (by simpa [clean1] using c)⟩
  | dK ds => obtain ⟨vs, e, r⟩ := o; exact ⟨vs, e, r.cut h (by simpa [clean1] using c)⟩
  | dT ds => obtain ⟨vs, e, r⟩ := o; exact ⟨vs, e, r.cut h (by simpa [clean1] using c)⟩
  | _ => exact o.elim
theorem outsOk_at : ∀ {as : List Arg} {ss : Env} {k j : Nat} {d : D}, outsOk as ss = true → as[k]? = some (Arg.io j) → ss[k]? = some (Slot.own d) → clean1 d = true
  | [], _, k, j, d, _, h, _ => by simp at h
  | a :: as, [], k, j, d, _, _, h => by simp at h
  | a :: as, s :: ss, 0, j, d, h, h1, h2 => by
    simp only [List.getElem?_cons_zero, Option.some.injEq] at h1 h2
    subst h1; subst h2
    simp only [outsOk, Bool.and_eq_true] at h
    exact h.1
  | a :: as, s :: ss, k + 1, j, d, h, h1, h2 => by
    refine outsOk_at (as := as) (ss := ss) (k := k) (j := j) ?_ (by simpa using h1) (by simpa using h2)
    cases a with
    | io l =>
      cases s with
      | own d => simp only [outsOk, Bool.and_eq_true] at h; exact h.2
      | un => cases h
      | val d => cases h
    | ex m => exact h
    | ln l => exact h
end
end Eng
set_option Elab.async false
set_option linter.all false
set_option maxRecDepth 100000
/-! the engine, part K: the rule of a call -/
namespace Eng
open PySem PySem.Spec PyProof.Rows L2
section
variable {K : PySem.W.Frag} {T : List Addr} {pk : Pk}
theorem OwnAt.nottup {F H : Hp} {p : Addr} {d : D} {vs : List V} (h : OwnAt K F H p d) (e : H p = some (.tup vs)) : False := by
  cases d with
  | lst ds => obtain ⟨ws, z, _⟩ := h; rw [e] at z; cases z
  | dK ds => obtain ⟨ws, z, _⟩ := h; rw [e] at z; cases z
  | dT ds => obtain ⟨ws, z, _⟩ := h; rw [e] at z; cases z
  | _ => exact h.elim
theorem OwnAt.rep {F H : Hp} {p : Addr} {d : D} (h : OwnAt K F H p d) (e : F p = H p) : Rep K F d (.ref p) := by
  cases d with
  | lst ds => obtain ⟨ws, z, r⟩ := h; exact .lst (e.trans z) r
  | dK ds => obtain ⟨ws, z, r⟩ := h; exact .dK (e.trans z) r
  | dT ds => obtain ⟨ws, z, r⟩ := h; exact .dT (e.trans z) r
  | _ => exact h.elim
theorem call_ok {as : List Arg} {n : Nat} {fm : FM} {E : XK} (hA : argsOk pk as = true) (hn : as.length = n) {σ : L2.St} {H : Hp} {Q : VK} (h : tM K T pk (mCall fm as) σ H Q) :
    tArgs K T pk (as.map Arg.opd) σ H fun vs H1 => spM K T n fm vs H1 Q E := by
  classical
  obtain ⟨B, ρ, F, d, o, ρ', r, h, k⟩ := h
  obtain ⟨⟨ds, ρx⟩, h1, h⟩ := Option.bind_eq_some_iff.mp h
  obtain ⟨ss, h2, h⟩ := Option.bind_eq_some_iff.mp h
  obtain ⟨⟨⟨d0, o0⟩, ss'⟩, h3, h⟩ := Option.map_eq_some_iff.mp h
  obtain ⟨⟨l, ρ1⟩, h4, h5⟩ := Option.bind_eq_some_iff.mp h1
  obtain ⟨ds', h6, h5⟩ := Option.map_eq_some_iff.mp h5
  cases h5
  cases h
  simp only [argsOk, Bool.and_eq_true, decide_eq_true_eq, List.all_eq_true, Bool.not_eq_true', List.contains_eq_mem, decide_eq_false_iff_not] at hA
  obtain ⟨hnd, hdj⟩ := hA
  have hdl : ∀ j ∈ iosOf as, j ∉ lnsOf as := fun j hj => (hdj j hj).1
  have hlk : ∀ j ∈ iosOf as, j ∉ pk.lock := fun j hj => (hdj j hj).2
  refine pre_ok _ r h4 fun vs H1 F1 r1 s1 p => ?_
  have A := aok_of as h4 h6 p
  obtain ⟨len1, len2⟩ := slots_len A h2
  have LF : ∀ a, (∃ (j : Nat) (e : D), j ∈ lnsOf as ∧ ρ1[j]? = some (Slot.own e) ∧ σ[j]? = some (some (V.ref a))) → F1 a = none ∧ ∃ e, OwnAt K F1 H1 a e := fun a ⟨j, e, _, q1, q2⟩ => by
    obtain ⟨p', z1, z2, z3, _⟩ := r1.own j e q1
    rw [q2] at z1; cases z1
    exact ⟨z2, e, z3⟩
  generalize hL : (fun a => ∃ (j : Nat) (e : D), j ∈ lnsOf as ∧ ρ1[j]? = some (Slot.own e) ∧ σ[j]? = some (some (V.ref a))) = L at LF
  have LF' : ∀ a, L a → F1 a = none ∧ ∃ e, OwnAt K F1 H1 a e := fun a ha => LF a (by rw [← hL] at ha; exact ha)
  have Lof : ∀ {a : Addr} {j : Nat} {e : D}, j ∈ lnsOf as → ρ1[j]? = some (Slot.own e) → σ[j]? = some (some (V.ref a)) → L a := fun {a j e} q1 q2 q3 => by rw [← hL]; exact ⟨j, e, q1, q2, q3⟩
  have Lto : ∀ {a : Addr}, L a → ∃ (j : Nat) (e : D), j ∈ lnsOf as ∧ ρ1[j]? = some (Slot.own e) ∧ σ[j]? = some (some (V.ref a)) := fun {a} q => by rw [← hL] at q; exact q
  clear LF
  generalize hFc : (fun a => if L a then H1 a else F1 a : Hp) = Fc
  have FcL : ∀ {a : Addr}, L a → Fc a = H1 a := fun {a} q => by rw [← hFc]; exact if_pos q
  have FcN : ∀ {a : Addr}, ¬ L a → Fc a = F1 a := fun {a} q => by rw [← hFc]; exact if_neg q
  have same1c : Same F1 Fc := fun a u e => by
    by_cases q : L a
    · rw [(LF' a q).1] at e; cases e
    · rw [FcN q]; exact e
  -- what is known of the slots handed in
  have own_at : ∀ {i : Nat} {e : D}, ss[i]? = some (Slot.own e) → ∃ (j : Nat) (p' : Addr), as[i]? = some (Arg.io j) ∧ j ∈ iosOf as ∧ ρ1[j]? = some (Slot.own e) ∧ vs[i]? = some (V.ref p') ∧ σ[j]? = some (some (V.ref p')) ∧ F1 p' = none ∧ OwnAt K F1 H1 p' e := fun {i e} q => by
    obtain ⟨v, hv, hh⟩ := slots_at A h2 q
    rcases hh with ⟨d', z, _⟩ | ⟨d', j, z, z2, z3, z4, z5⟩
    · cases z
    · cases z
      obtain ⟨p', y1, y2, y3, _⟩ := r1.own j _ z5
      rw [z4] at y1
      cases y1
      exact ⟨j, p', z2, z3, z5, hv, z4, y2, y3⟩
  have notL : ∀ {j : Nat} {e : D} {p' : Addr}, j ∉ lnsOf as → ρ1[j]? = some (Slot.own e) → σ[j]? = some (some (V.ref p')) → ¬ L p' := fun {j e p'} hj q1 q2 hl => by
    obtain ⟨j', e', y1, y2, y3⟩ := Lto hl
    have := r1.apart j j' p' e e' q1 y2 q2 y3
    exact hj (this ▸ y1)
  have ovA : ∀ {a : Addr}, OwnV ss vs a → OwnA ρ1 σ a := fun {a} ⟨i, e, q1, q2⟩ => by
    obtain ⟨j, p', _, _, y3, y4, y5, _⟩ := own_at q1
    rw [q2] at y4; cases y4
    exact ⟨j, e, y3, y5⟩
  have ovIo : ∀ {a : Addr} {j : Nat} {e : D}, OwnV ss vs a → ρ1[j]? = some (Slot.own e) → σ[j]? = some (some (V.ref a)) → j ∈ iosOf as := fun {a j e} ⟨i, e', q1, q2⟩ y1 y2 => by
    obtain ⟨j', p', _, z2, z3, z4, z5, _⟩ := own_at q1
    rw [q2] at z4; cases z4
    have := r1.apart j j' a e e' y1 z3 y2 z5
    exact this ▸ z2
  have repc : ∀ {i : Nat} {e : D}, ss[i]? = some (Slot.val e) → ∃ v, vs[i]? = some v ∧ Rep K Fc e v := fun {i e} q => by
    obtain ⟨v, hv, hh⟩ := slots_at A h2 q
    rcases hh with ⟨d', z, _, z2⟩ | ⟨d', j, z, _⟩
    · cases z
      refine ⟨v, hv, ?_⟩
      rcases z2 with z2 | ⟨j, y1, y2, y3⟩
      · exact z2.up same1c
      · rcases rd_some y3 with y3 | y3
        · obtain ⟨v', x1, x2⟩ := r1.val j _ y3
          rw [y2] at x1; cases x1
          exact x2.up same1c
        · obtain ⟨p', x1, x2, x3, _⟩ := r1.own j _ y3
          rw [y2] at x1; cases x1
          exact (x3.up same1c).rep (FcL (Lof y1 y3 y2))
    · cases z
  refine ⟨by rw [← len1, len2, hn], Fc, ss, ss', d, o, ⟨len1, fun a u e => ?_, fun a u e => ?_, fun i e q => repc q, fun i e q => ?_, fun i j p' e e' q1 q2 q3 q4 => ?_, r1.tab⟩, h3, fun v H' F' out => ?_⟩
  · by_cases q : L a
    · rw [FcL q] at e; exact e
    · rw [FcN q] at e; exact r1.sub a u e
  · by_cases q : L a
    · rw [FcL q] at e
      obtain ⟨_, e', z⟩ := LF' a q
      obtain ⟨o', z1, z2⟩ := z.ex
      rw [e] at z1; cases z1; exact z2
    · rw [FcN q] at e; exact r1.notab a u e
  · obtain ⟨j, p', _, y2, y3, y4, y5, y6, y7⟩ := own_at q
    exact ⟨p', y4, by rw [FcN (notL (hdl j y2) y3 y5)]; exact y6, y7.up same1c⟩
  · obtain ⟨j1, p1, a1, _, y3, y4, y5, _⟩ := own_at q1
    obtain ⟨j2, p2, a2, _, z3, z4, z5, _⟩ := own_at q2
    rw [y4] at q3
    rw [z4] at q4
    cases q3; cases q4
    have e12 := r1.apart j1 j2 _ e e' y3 z3 y5 z5
    subst e12
    exact io_one hnd a1 a2
  · have oo : OutsOwn as ss' := fun kk j e => by
      have hk : kk < ss.length := by rw [len2]; exact (List.getElem?_eq_some_iff.mp e).1
      obtain ⟨v', _, hh⟩ := slots_at A h2 (List.getElem?_eq_getElem hk)
      rcases hh with ⟨d', _, z, _⟩ | ⟨d', j', z, _⟩
      · exact absurd e (z j)
      · obtain ⟨d2, p', q1, _⟩ := out.outs kk d' (by rw [List.getElem?_eq_getElem hk, z])
        exact ⟨d2, q1⟩
    have io_out : ∀ {kk i : Nat} {e : D}, as[kk]? = some (Arg.io i) → ss'[kk]? = some (Slot.own e) → ∃ (e' : D) (p' : Addr), ρ1[i]? = some (Slot.own e') ∧ σ[i]? = some (some (V.ref p')) ∧ F' p' = none ∧ OwnAt K F' H' p' e := fun {kk i e} q1 q2 => by
      have hk : kk < ss.length := by rw [len2]; exact (List.getElem?_eq_some_iff.mp q1).1
      obtain ⟨v', _, hh⟩ := slots_at A h2 (List.getElem?_eq_getElem hk)
      rcases hh with ⟨d', _, z, _⟩ | ⟨d', j', z, _⟩
      · exact absurd q1 (z i)
      · have hs : ss[kk]? = some (Slot.own d') := by rw [List.getElem?_eq_getElem hk, z]
        obtain ⟨j, p', a1, _, y3, y4, y5, _⟩ := own_at hs
        rw [q1] at a1; cases a1
        obtain ⟨d2, p2, x1, x2, x3, x4⟩ := out.outs kk d' hs
        rw [q2] at x1; cases x1
        rw [y4] at x2; cases x2
        exact ⟨d', _, y3, y5, x3, x4⟩
    have keep' : Keep (OwnA ρ1 σ) H1 H' := fun a u e q => out.keep a u e fun z => q (ovA z)
    have fr' : ∀ {a : Addr} {u : HO}, F' a = some u → ¬ L a → F1 a = some u ∨ H1 a = none ∨ OwnA ρ1 σ a := fun {a u} e nl => by
      rcases out.frs a u e with z | z | z
      · rw [FcN nl] at z; exact .inl z
      · exact .inr (.inl z)
      · exact .inr (.inr (ovA z))
    -- another own slot stands as it was
    have other : ∀ {i : Nat} {e : D}, i ∉ iosOf as → ρ1[i]? = some (Slot.own e) → ∃ p', σ[i]? = some (some (V.ref p')) ∧ F1 p' = none ∧ OwnAt K F1 H1 p' e ∧ H' p' = H1 p' ∧ (¬ L p' → F' p' = none) := fun {i e} hi q => by
      obtain ⟨p', z1, z2, z3, _⟩ := r1.own i e q
      obtain ⟨o', z4, z5⟩ := z3.ex
      have nov : ¬ OwnV ss vs p' := fun z => hi (ovIo z q z1)
      have hk := out.keep p' o' z4 nov
      rw [if_neg (by rw [z5]; exact Bool.false_ne_true)] at hk
      refine ⟨p', z1, z2, z3, hk.trans z4.symm, fun nl => ?_⟩
      cases w : F' p' with
      | none => rfl
      | some u =>
        rcases out.frs p' u w with y | y | y
        · rw [FcN nl, z2] at y; cases y
        · rw [z4] at y; cases y
        · exact absurd y nov
    have lenB : ∀ c, (backE c as ss' ρ1).length = ρ1.length := fun c => back_len c as ss' ρ1
    have lenO : as.length ≤ ss'.length := by rw [← len2]; exact out.lenO
    have noOwnNew : ∀ {c : Bool} {p' : Addr}, H1 p' = none → ∀ (i : Nat) (e : D), (backE c as ss' ρ1)[i]? = some (Slot.own e) → σ[i]? ≠ some (some (V.ref p')) := fun {c p'} hn i e q z => by
      have : ∃ e', ρ1[i]? = some (Slot.own e') := by
        rcases back_own lenO oo hnd hdl q with ⟨kk, q1, q2⟩ | ⟨_, q2, _⟩
        · obtain ⟨e', _, q3, _⟩ := io_out q1 q2
          exact ⟨e', q3⟩
        · exact ⟨e, q2⟩
      obtain ⟨e', q3⟩ := this
      obtain ⟨p2, y1, _, y3, _⟩ := r1.own i e' q3
      rw [z] at y1; cases y1
      obtain ⟨o', y4, _⟩ := y3.ex
      rw [hn] at y4; cases y4
    cases hc : ((if o = true then clean1 d else clean d) && outsOk as ss') with
    | false =>
      rw [hc] at k
      have lrep : ∀ {i : Nat} {e : D}, i ∈ lnsOf as → ρ1[i]? = some (Slot.own e) → ∃ p', σ[i]? = some (some (V.ref p')) ∧ Fc p' = H1 p' ∧ Rep K F' e (.ref p') := fun {i e} q1 q2 => by
        obtain ⟨p', z1, z2, z3, _⟩ := r1.own i e q2
        have fl := FcL (Lof q1 q2 z1)
        exact ⟨p', z1, fl, ((z3.up same1c).rep fl).up out.same⟩
      have rel := Rel.after (ρ' := backE false as ss' ρ1) r1 (same1c.trans out.same) out.sub out.notab (fun a u e => by
          by_cases q : L a
          · obtain ⟨j, e', y1, y2, y3⟩ := Lto q
            exact .inr (.inr ⟨j, e', y2, y3⟩)
          · exact fr' e q) keep' out.tab (lenB false)
        (fun i e q => by
          rcases back_val oo hdl q with z | ⟨_, z2, z3⟩
          · exact .inl z
          · obtain ⟨p', y1, _, y3⟩ := lrep z2 z3
            exact .inr ⟨_, y1, y3⟩)
        (fun i e q => by
          rcases back_own lenO oo hnd hdl q with ⟨kk, q1, q2⟩ | ⟨q1, q2, q3⟩
          · exact io_out q1 q2
          · obtain ⟨p', z1, z2, z3, z4, z5⟩ := other q1 q2
            exact ⟨e, p', q2, z1, z5 (notL (q3.resolve_left Bool.false_ne_true) q2 z1), (z3.up (same1c.trans out.same)).at z4⟩)
        (fun i hi e q u q1 q2 q3 => by
          have ni : i ∉ iosOf as := fun z => hlk i z hi
          obtain ⟨p', z1, z2, z3, z4, z5⟩ := other ni q1
          rw [q2] at z1; cases z1
          refine ⟨z4.trans q3, ?_⟩
          by_cases hl : i ∈ lnsOf as
          · obtain ⟨p2, y1, y2, _⟩ := lrep hl q1
            rw [q2] at y1; cases y1
            exact .inl ⟨u, out.same _ _ (y2.trans q3)⟩
          · exact .inr ⟨e, back_keep ni q1 (.inr hl)⟩)
      refine k v H' F' rel (s1.trans (same1c.trans out.same)) ?_
      have hres := out.res
      cases o with
      | false => exact hres
      | true =>
        obtain ⟨p', y1, y2, y3, y4⟩ := hres
        exact ⟨p', y1, y3, y4, r1.fresh0 y2, noOwnNew y2⟩
    | true =>
      rw [hc] at k
      rw [Bool.and_eq_true] at hc
      generalize hF2 : (fun a => if L a then none else F' a : Hp) = F2
      have F2L : ∀ {a : Addr}, L a → F2 a = none := fun {a} q => by rw [← hF2]; exact if_pos q
      have F2N : ∀ {a : Addr}, ¬ L a → F2 a = F' a := fun {a} q => by rw [← hF2]; exact if_neg q
      have sm2 : Same F2 F' := fun a u e => by
        by_cases q : L a
        · rw [F2L q] at e; cases e
        · rwa [F2N q] at e
      have sm12 : Same F1 F2 := fun a u e => by
        have nl : ¬ L a := fun q => by rw [(LF' a q).1] at e; cases e
        rw [F2N nl]
        exact out.same a u (same1c a u e)
      have cutF : ∀ a vs, F' a = some (.tup vs) → F2 a = some (.tup vs) := fun a ws e => by
        have nl : ¬ L a := fun q => by
          obtain ⟨_, e', z⟩ := LF' a q
          obtain ⟨o', z1, _⟩ := z.ex
          have := out.same a o' (by rw [FcL q]; exact z1)
          rw [e] at this; cases this
          exact z.nottup z1
        rw [F2N nl]; exact e
      have rel := Rel.after (ρ' := backE true as ss' ρ1) r1 sm12 (sm2.trans out.sub) (fun a u e => out.notab a u (sm2 a u e)) (fun a u e => by
          have nl : ¬ L a := fun q => by rw [F2L q] at e; cases e
          exact fr' (sm2 a u e) nl) keep' out.tab (lenB true)
        (fun i e q => by
          rcases back_val oo hdl q with z | ⟨z, _⟩
          · exact .inl z
          · cases z)
        (fun i e q => by
          rcases back_own lenO oo hnd hdl q with ⟨kk, q1, q2⟩ | ⟨q1, q2, q3⟩
          · obtain ⟨e', p', y1, y2, y3, y4⟩ := io_out q1 q2
            refine ⟨e', p', y1, y2, ?_, y4.cut cutF (outsOk_at hc.2 q1 q2)⟩
            cases w : F2 p' with
            | none => rfl
            | some u => rw [sm2 _ _ w] at y3; cases y3
          · obtain ⟨p', z1, z2, z3, z4, z5⟩ := other q1 q2
            refine ⟨e, p', q2, z1, ?_, (z3.up sm12).at z4⟩
            by_cases q : L p'
            · exact F2L q
            · rw [F2N q]; exact z5 q)
        (fun i hi e q u q1 q2 q3 => by
          have ni : i ∉ iosOf as := fun z => hlk i z hi
          obtain ⟨p', z1, z2, z3, z4, z5⟩ := other ni q1
          rw [q2] at z1; cases z1
          exact ⟨z4.trans q3, .inr ⟨e, back_keep ni q1 (.inl rfl)⟩⟩)
      refine k v H' F2 rel (s1.trans sm12) ?_
      have hres := out.res
      cases o with
      | false => exact Rep.cut cutF hres hc.1
      | true =>
        obtain ⟨p', y1, y2, y3, y4⟩ := hres
        refine ⟨p', y1, ?_, y4.cut cutF hc.1, r1.fresh0 y2, noOwnNew y2⟩
        cases w : F2 p' with
        | none => rfl
        | some u => rw [sm2 _ _ w] at y3; cases y3
end
/-- a call of a def of the module -/
theorem se_call {X : Cx} {T : List Addr} {pk : Pk} {as : List Arg} {fm : FM} {k n : Nat} {x : Str} {p pos : Pos} {e : Expr} {es : List Expr} (C : Cal X.prog X.w X.K X.mg X.base T k x n fm) (hr : Room k X.A) (hg : Gl X x) (sa : SA X T pk (e :: es) (as.map Arg.opd))
    (hA : argsOk pk as = true := by rfl) (hn : as.length = n := by rfl) (hdb : (x == ("__debug__" : Str)) = false := by decide) (he : starEach (e :: es) X.env = (false, eval e X.env) :: starEach es X.env := by rfl) (hpl : (backTo pos (starEach es X.env)).any (·.1) = false := by rfl) :
    SE X T pk (.Call (.Name x p) (e :: es) [] pos) (mCall fm as) := by
  obtain ⟨f, fd, ps, h1, h2, h3, h4, h5⟩ := C.ex
  refine ⟨pe_weak (pe_call h2 hr hg h3 h4 h5 .nil pass0 sa.pa hdb he hpl) fun σ H Q h => ?_⟩
  have q := call_ok (E := E0) hA hn h
  show tArgs X.K T pk (as.map Arg.opd) σ H fun vs H1 => spM X.K T n fm (vs ++ []) H1 Q E0
  simpa only [List.append_nil] using q
end Eng
set_option Elab.async false
set_option linter.all false
set_option maxRecDepth 100000
set_option maxHeartbeats 2000000
/-! EngL: any, all of a generator expression. -/
namespace Eng
open PySem PySem.Spec PyProof.Rows L2 GxR GenW

theorem Inv.gensTo {X : Cx} {pins : List (Addr × Obj)} {σ : L2.St} {H : Hp} {s s' : Shared} (I : Inv X pins σ H s) (hh : s'.heap = s.heap) (ho : s'.os = s.os) (hb : AllBare s'.gens) : Inv X pins σ H s' :=
  ⟨I.ok, ho.trans I.os, hb, by rw [hh]; exact I.base, by rw [hh]; exact I.loc, by rw [hh]; exact I.cell, I.free, I.freeC, by rw [hh]; exact I.pin, by rw [hh]; exact I.hok, I.len⟩

/-- the block of a generator expression, walked under A -/
abbrev gcx (X : Cx) (s : Shared) (H : Hp) (env : PySem.Env) (A : Around) (fp : List Addr) (pn : List (Addr × Obj)) : Cx :=
  { X with s_0 := s, H_0 := H, env := env, outer := X.stack, stack := env :: X.stack, A := A, ex := fp, fn := fun _ => false, pn := pn, xe := fun _ _ => False }

theorem gen_start {X : Cx} {pins : List (Addr × Obj)} {σ : L2.St} {H : Hp} {s : Shared} {scope : Scope} {own : List (Str × Nat)} {fp : List Addr} {A : Around} {C a : Addr} {o : Obj} {vs : Array Value} {code : Value} {s5 : Shared} {m : Str → Option Value}
    (I : Inv X pins σ H s) (ok : BlkOk X.N X.env.scope scope own) (hN : X.N.Nodup) (hnc : ∀ y ∈ scope.names, y.2 ≠ .cell) (hfp : ∀ b ∈ fp, FpOk X pins H b ∧ b < s.heap.objs.size)
    (hA : A.frames = some (genEnv scope (cloFrom X.env.cells scope.names []) C code builtinsNs X.env :: X.stack)) (hh : A.handled = none) (hC : C = s.heap.objs.size) (hn : s5.heap.Ns C m)
    (kp : ∀ b o, s.heap.get? b = some o → s5.heap.get? b = some o) (ha : s5.heap.get? a = some o) (hd : o.data = .fields vs) (hCa : C < a) (ho : s5.os = s.os) (hb : AllBare s5.gens) :
    Inv (gcx X s H (genEnv scope (cloFrom X.env.cells scope.names []) C code builtinsNs X.env) A fp [(a, o)]) [] (L2.wipe σ (own.map (·.2))) H s5 := by
  have hfree : ∀ y ∈ scope.names, y.2 = .free → ∃ c, X.env.cells.lookup y.1 = some c := fun y hy e => by
    rcases ok.free y hy e with k | k
    · exact I.ok.has _ (.inl k)
    · exact I.ok.has _ (.inr k)
  have cm : ∀ {y c}, (y, c) ∈ cloFrom X.env.cells scope.names [] → X.env.cells.lookup y = some c ∧ c < s.heap.objs.size := fun {y c} hm => by
    rcases cloFrom_mem hm with hm | ⟨h1, rfl⟩
    · cases hm
    · obtain ⟨c, hc⟩ := hfree _ h1 rfl
      rw [hc]
      obtain ⟨w, z⟩ := I.cell _ _ hc
      exact ⟨rfl, z.lt⟩
  have cl : ∀ {y c}, (cloFrom X.env.cells scope.names []).lookup y = some c → X.env.cells.lookup y = some c ∧ c < s.heap.objs.size := fun e => cm (PySem.mem_of_lookup e)
  have look : ∀ {y}, scope.names.lookup y = some .free → ∃ c, (cloFrom X.env.cells scope.names []).lookup y = some c ∧ X.env.cells.lookup y = some c := fun {y} hl => by
    obtain ⟨c', e'⟩ := mem_lookup (cloFrom_has (cells := X.env.cells) (acc := []) (PySem.mem_of_lookup hl))
    exact ⟨c', e', (cl e').1⟩
  subst hC
  have frn : ∀ b ∈ frs X.stack, b ≠ a := fun b hb' z => by
    obtain ⟨_, o', h1, _⟩ := I.stack.mem hb'
    have h2 := Heap.lt_size h1
    rw [z] at h2
    exact absurd (Nat.lt_trans hCa h2) (Nat.lt_irrefl _)
  have okB : (gcx X s H (genEnv scope (cloFrom X.env.cells scope.names []) s.heap.objs.size code builtinsNs X.env) A fp [(a, o)]).Ok := by
    refine ⟨I.ok.mod, ok.kind, I.ok.glob, rfl, Nat.le_refl _, fun y z c e1 e2 => ?_, fun y hy => ?_, fun y c z e => ?_, fun _ => hh, hA, .inr ⟨rfl, rfl⟩, fun b hb => ⟨?_, fun y c e z => ?_⟩, I.bs, Nat.le_trans I.ok.bsz I.sz, fun b o e hb => ?_, fun b hb z => ?_, I.stack, I.stkFree⟩
    · exact I.ok.inj y z c (cl e1).1 (cl e2).1
    · have hy : scope.names.lookup y = some .cell ∨ scope.names.lookup y = some .free := hy
      rcases hy with hy | hy
      · exact absurd rfl (hnc _ (PySem.mem_of_lookup hy))
      · obtain ⟨c, h1, _⟩ := look hy
        exact ⟨c, h1⟩
    · cases z
    · show b ≠ s.heap.objs.size
      exact Nat.ne_of_lt (hfp b hb).2
    · exact (hfp b hb).1.2.2.2.2.1 y c (cl e).1 z
    · rcases (hfp b hb).1.2.2.2.1 with z | z
      · exact I.ok.noex b o e z
      · exact absurd (Nat.lt_of_lt_of_le (Heap.lt_size e) (Nat.le_trans I.ok.bsz z)) (Nat.lt_irrefl _)
    · rcases List.mem_cons.mp (I.stkSub b z) with z | z
      · exact (hfp b hb).1.2.1 z
      · exact (hfp b hb).1.2.2.1 z
  refine ⟨okB, ho, hb, Un.kept kp, ⟨m, hn, fun i y av e1 e2 e3 => ?_⟩, fun y c e => ?_, I.hok.fresh (Nat.le_refl _), fun y c e => ?_, fun p hp => ?_, I.hok.kept kp, by rw [wipe_length]; exact I.len⟩
  · obtain ⟨e2, hne⟩ := wipe_some e2
    have hfr : scope.names.lookup y = some .free := by
      have no : ∀ k, scope.names.lookup y = some k → ¬ (k = .local ∨ k = .cell) := fun k e hh' => by
        rcases ok.own _ (PySem.mem_of_lookup e) hh' with e' | e'
        · obtain ⟨p, hp, hpy⟩ := List.mem_map.mp e'
          have e3 := ok.ix p hp
          have : p.1 = y := hpy
          rw [this] at e3
          exact hne (List.mem_map.mpr ⟨p, hp, nodup_ix hN e3 e1⟩)
        · exact e' (List.mem_of_getElem? e1)
      have e3 : Vis scope y := e3
      rcases e3 with e3 | e3 | e3
      · exact absurd (.inl rfl) (no _ e3)
      · exact absurd (.inr rfl) (no _ e3)
      · exact e3
    obtain ⟨m', hn', hl⟩ := I.loc
    have hvis : Vis X.env.scope y := (ok.free _ (PySem.mem_of_lookup hfr) rfl).elim (fun k => .inr (.inl k)) (fun k => .inr (.inr k))
    obtain ⟨w, r, q⟩ := hl i y av e1 e2 hvis
    refine ⟨w, r, .inr ⟨.inr hfr, ?_⟩⟩
    obtain ⟨c, h1, h2⟩ := look hfr
    rcases q with ⟨k, _⟩ | ⟨_, c', e', z⟩
    · have k : X.env.scope.names.lookup y = some .local := k
      rcases ok.free _ (PySem.mem_of_lookup hfr) rfl with k' | k' <;> rw [show X.env.scope.names.lookup y = _ from k'] at k <;> cases k
    · rw [h2] at e'; cases e'
      exact ⟨c, h1, z.keeps kp⟩
  · obtain ⟨w, z⟩ := I.cell y c (cl e).1
    exact ⟨w, z.keeps kp⟩
  · exact I.freeC y c (cl e).1
  · have hp : p = (a, o) := by simpa using hp
    subst hp
    refine ⟨ha, I.hok.fresh (Nat.le_of_lt hCa), Nat.ne_of_gt hCa, fun z => frn a z rfl, fun v z => ?_⟩
    rw [hd] at z; cases z

theorem over_gen {A : Around} {elt tg iter : Expr} {ifs : List Expr} {scope : Scope} {gpos : Pos} {it acc : Value} {env : PySem.Env} :
    A.over (.compLoop (.GeneratorExp elt [⟨tg, iter, ifs, 0⟩] scope gpos) 0 it acc env) [] = A.deeper env := by
  first
    | rfl
    | (obtain ⟨hd, d, fr, gs, u⟩ := A; simp [Around.over, Around.deeper, marksOver, frameCount, unitsOf, envsOf, guardsOf, pushEnvs, pushGuards, Code.envs, Code.env?, Code.isFrame, Code.guards, Code.isGuard, Code.weight, Code.frames, Code.isCreation, Code.isCaller, Code.cUnits])
theorem over_gen0 {A : Around} {elt tg iter : Expr} {ifs : List Expr} {scope : Scope} {gpos : Pos} {it acc : Value} {env : PySem.Env} :
    A.over (.compStart (.GeneratorExp elt [⟨tg, iter, ifs, 0⟩] scope gpos) 0 it acc env) [] = A.deeper env := by
  first
    | rfl
    | (obtain ⟨hd, d, fr, gs, u⟩ := A; simp [Around.over, Around.deeper, marksOver, frameCount, unitsOf, envsOf, guardsOf, pushEnvs, pushGuards, Code.envs, Code.env?, Code.isFrame, Code.guards, Code.isGuard, Code.weight, Code.frames, Code.isCreation, Code.isCaller, Code.cUnits])

/-- the turns of any, all: W by the turn and a measure -/
def gxTurns (want : Bool) (W : Nat → Nat → Hp → Prop) (J : It) (g : TG) (tt : TT) (te : TE) (vs : List Nat) (σ : L2.St) (Q : VK) : Prop := ∀ i m H, W i m H →
  (J.stop i H ∧ Q (.bl (!want)) H) ∨ (J.go i H ∧ ∃ Nx : Hp → Prop, (∀ H', Nx H' → ∃ m', m' < m ∧ W (i + 1) m' H') ∧ ∀ x H', J.yld i H x H' → g x (L2.wipe σ vs) H' fun σ2 H2 => L2.wipe σ2 vs = L2.wipe σ vs ∧ tt σ2 H2 fun b H3 =>
    if b = true then te σ2 H3 fun y H4 => ∃ b', y = .bl b' ∧ (if b' = want then Q (.bl want) H4 else Nx H4) else Nx H3)
def tGx (want : Bool) (P : Addr) (wi : TI) (g : TG) (tt : TT) (te : TE) (vs : List Nat) : TE := fun σ H Q => wi σ H fun J H1 => TabG H1 P ∧ ∀ H2, Tabbed P H1 H2 → ∃ W, (∃ m, W 0 m H2) ∧ gxTurns want W J g tt te vs σ Q

section
variable {X' : Cx} {want : Bool} {Q : VK} {fp : List Addr} {tn : Nat → Heap → Prop} {σw : L2.St}
def GxY (X' : Cx) (want : Bool) (Q : VK) (σw : L2.St) : Protocol := fun n s₀ v s1 kap => ∃ (b : Bool) (H' : Hp), v = .bool b ∧ Inv X' [] σw H' s1 ∧
  (if b = want then Q (.bl want) H' else ∀ s2 : Shared, s2.heap = s1.heap → s2.os = s1.os → AllBare s2.gens → kap (.send .none) s2)
def GxP (X' : Cx) (want : Bool) (Q : VK) (σw : L2.St) : Nat → Shared → Shared → Prop := fun n s₀ s1 => ∃ H', Inv X' [] σw H' s1 ∧ Q (.bl (!want)) H'
abbrev GxR' (X' : Cx) (want : Bool) (Q : VK) (σw : L2.St) : GenEnd := fun n s₀ r s1 => r = .ok .next ∧ GxP X' want Q σw n s₀ s1

theorem seg_gx {W : Nat → Nat → Hp → Prop} {J : It} {g : TG} {tt : TT} {te : TE} {vs : List Nat} {σ : L2.St} {it : Addr} {B : Around} {elt tg iter : Expr} {ifs : List Expr} {scope : Scope} {gpos : Pos}
    (T : Turn X'.prog X'.w X'.K tg J fp it tn) (hc : X'.calm = true) (hB : B.deeper X'.env = X'.A) (hxe : X'.xe = fun _ _ => False) (hfp : X'.ex = fp) (hpn : ∀ b ∈ fp, ∀ p ∈ X'.pn, p.1 ≠ b) (hco : X'.env.scope.isCoroutine = false)
    (pg : PG X' tg g) (pt : PTs X' ifs tt) (pe : PE X' elt te) (turn : gxTurns want W J g tt te vs σ Q) :
    ∀ (m n i : Nat) (s₀ s : Shared) (H : Hp), m + 1 ≤ n → Inv X' [] (L2.wipe σ vs) H s → tn i s.heap → (∀ b ∈ fp, H b = none) → W i m H →
      Seg (model X'.prog X'.w) B (GxR' X' want Q (L2.wipe σ vs)) (GxY X' want Q (L2.wipe σ vs)) n s₀ (.compLoop (.GeneratorExp elt [⟨tg, iter, ifs, 0⟩] scope gpos) 0 (.ref it) .none X'.env)
        ((model X'.prog X'.w).den (.compLoop (.GeneratorExp elt [⟨tg, iter, ifs, 0⟩] scope gpos) 0 (.ref it) .none X'.env)) [] s := by
  have stat : ∀ {σ' : L2.St} {H' : Hp} {s' : Shared}, Inv X' [] σ' H' s' → (∀ b ∈ fp, H' b = none) → ∀ b ∈ fp, FpOk X' [] H' b := fun {σ' H' s'} I' hn b hb => by
    have hb' : b ∈ X'.ex := by rw [hfp]; exact hb
    exact ⟨hn b hb, (I'.ok.exf b hb').1, I'.ok.exfs b hb', .inl hb', fun x c e => (I'.ok.exf b hb').2 x c e, fun p hp => hpn b hb p (by simpa using hp)⟩
  intro m
  induction m using Nat.strongRecOn with
  | ind m ih =>
    intro n i s₀ s H hmn I st nf w
    obtain ⟨n, rfl⟩ : ∃ k, n = k + 1 := ⟨n - 1, by omega⟩
    show Seg _ B _ _ _ s₀ _ ((compTurn (.GeneratorExp elt [⟨tg, iter, ifs, 0⟩] scope gpos) 0 (.ref it) .none X'.env).onRaise (leaving X'.env)) [] s
    rw [compTurn_gen, Sem.onRaise_eq_wrap]
    refine seg_bind_wrap (wpAny_standAt ?_)
    rcases turn i m H w with ⟨stop, qq⟩ | ⟨go, Nx, hNx, step⟩
    · refine seg_bind_wrap ?_
      rw [over_gen, hB]
      refine thnF (T.done X' rfl rfl rfl hc i [] s _ H (fun _ _ => False) I (stat I nf) st stop) fun r s6 ⟨hr, I6⟩ => ?_
      subst hr
      exact seg_end (.ok .next) ⟨rfl, H, I6, qq⟩
    · refine seg_bind_wrap ?_
      rw [over_gen, hB]
      refine thnF (T.item X' rfl rfl rfl hc i [] s _ H (fun _ _ => False) I (stat I nf) st go) fun r s6 ⟨u, hr, h6⟩ => ?_
      subst hr
      dsimp only
      refine seg_bind_wrap ?_
      rw [over_gen, hB]
      refine thnF h6 fun _ s7 ⟨x, H7, I7, r7, y7, st7, n7⟩ => ?_
      have I7' := I7.pinned (stat I7 n7) (T.obj _ _ st7)
      refine seg_bind_wrap ?_
      rw [over_gen, hB]
      have h8 := pg.run _ s7 _ H7 x u _ I7' r7 (step x H7 y7)
      rw [hxe] at h8
      refine thnF h8 fun _ s8 ⟨σ8, H8, I8, hw8, q8⟩ => ?_
      refine seg_bind_wrap ?_
      rw [over_gen, hB]
      have h9 := pt.run _ s8 σ8 H8 _ I8 q8
      rw [hxe] at h9
      refine thnF h9 fun b s9 ⟨H9, I9, q9⟩ => ?_
      have un : ∀ {s' : Shared} {H' : Hp}, Inv X' ([] ++ pinsAt fp s7.heap) σ8 H' s' → Inv X' [] (L2.wipe σ vs) H' s' ∧ tn (i + 1) s'.heap ∧ (∀ b ∈ fp, H' b = none) := fun {s' H'} I' => by
        have pin' : ∀ b ∈ fp, ∀ o, s7.heap.get? b = some o → s'.heap.get? b = some o ∧ H' b = none := fun b hb o e =>
          let z := I'.pin (b, o) (List.mem_append_right _ (List.mem_append_right _ (mem_pinsAt hb e)))
          ⟨z.1, z.2.1⟩
        have hl : (L2.wipe σ vs).length = σ8.length := by rw [← hw8, wipe_length]
        refine ⟨(I'.unpinned (pins := [])).weak hl (fun j v e => ?_), T.keep _ _ _ st7 fun b hb o e => (pin' b hb o e).1, fun b hb => ?_⟩
        · rw [← hw8] at e
          exact (wipe_some e).1
        · obtain ⟨o, e, _⟩ := T.obj _ _ st7 b hb
          exact (pin' b hb o e).2
      cases b with
      | false =>
        simp only [Bool.false_eq_true, if_false] at q9 ⊢
        obtain ⟨m', hm, w'⟩ := hNx H9 q9
        obtain ⟨I', st', n'⟩ := un I9
        exact seg_again rfl (ih m' hm (n + 1) (i + 1) s₀ _ H9 (by omega) I' st' n' w')
      | true =>
        simp only [if_true] at q9 ⊢
        have hy : ∀ v, yieldOut X'.env v = yieldValue v := fun v => by simp only [yieldOut, hco, Bool.false_eq_true, if_false]
        simp only [hy]
        rw [Sem.bind_eq_wrap', Sem.bind_eq_wrap', Sem.wrap_wrap, Sem.wrap_wrap]
        refine seg_wrap ?_
        rw [over_gen, hB]
        have h10 := pe.run _ s9 σ8 H9 _ I9 q9
        rw [hxe] at h10
        refine thnF h10 fun z s10 ⟨yv, H10, I10, r10, b', eb, q10⟩ => ?_
        subst eb
        obtain rfl : z = .bool b' := r10
        obtain ⟨I', st', n'⟩ := un I10
        refine seg_at (seg_yield rfl rfl rfl ⟨b', H10, rfl, I', ?_⟩)
        by_cases hw : b' = want
        · rw [if_pos hw] at q10 ⊢
          exact q10
        · rw [if_neg hw] at q10 ⊢
          intro s2 e1 e2 e3
          obtain ⟨m', hm, w'⟩ := hNx H10 q10
          exact seg_again rfl (ih m' hm n (i + 1) s2 s2 H10 (by omega) (Inv.gensTo I' e1 e2 e3) (by rw [e1]; exact st') n' w')

/-- the state of the loop any.loop, all.loop: the generator is about to go on -/
def GoesOn (X' : Cx) (want : Bool) (Q : VK) (σw : L2.St) (A : Around) (g n : Nat) (s : Shared) : Prop :=
  ∃ gs, s.gens[g]? = some gs ∧ gs.Goes (model X'.prog X'.w) A.in1.in1 (GxR' X' want Q σw) (GxY X' want Q σw) n (.send .none) (s.setGen g .running)

theorem next_gx {A : Around} {a : Addr} {g : Nat} {n : Nat} {s : Shared} {Qn : Option Value → Shared → Prop} {E : Value → Shared → Prop}
    (hh : A.handled = none) (hroom : A.depth + 1 < recursionLimit) (hg : s.heap.IsGen a g) (hl : s.heap.NoLimit) (hgo : GoesOn X' want Q σw A g n s)
    (hY : ∀ (b : Bool) H' s', Inv X' [] σw H' s' → (if b = want then Q (.bl want) H' else ∃ n', n = n' + 1 ∧ GoesOn X' want Q σw A g n' s') → Qn (some (.bool b)) s')
    (hP : ∀ H' (s1 s' : Shared), Inv X' [] σw H' s1 → Q (.bl (!want)) H' → s'.os = s1.os → AllBare s'.gens → (∀ b o, s1.heap.get? b = some o → s'.heap.get? b = some o) → Qn none s') :
    wpAny (model X'.prog X'.w) A.in1 (pyNext (.ref a)) Qn E s := by
  obtain ⟨gs, hgs, hgo⟩ := hgo
  have hgl : g < s.gens.size := (Array.getElem?_eq_some_iff.mp hgs).1
  refine wpAny_gsz (n := g + 1) hgl (wpAny_pyNext_genexpQ (A := A.in1) (P := GxP X' want Q σw) (Y := GxY X' want Q σw) (n := n) hh hl (by show A.depth < _; omega) hg hgs hgo (fun v s₁ gs' hbare hv => ?_) fun s₁ hp h' hk => ?_)
  · intro hsz
    obtain ⟨b, H', rfl, I', q⟩ := hv
    have bare' : AllBare (s₁.setGen g gs').gens := allBare_setGen I'.bare hbare
    refine hY b H' _ (Inv.gensTo I' rfl rfl bare') ?_
    by_cases hw : b = want
    · rw [if_pos hw] at q ⊢
      exact q
    · rw [if_neg hw] at q ⊢
      have hsz1 : g < s₁.gens.size := by
        have q : (s₁.setGen g gs').gens.size = s₁.gens.size := setGen_size _ _ _
        have hsz' : g + 1 ≤ (s₁.setGen g gs').gens.size := hsz
        omega
      have z := q ((s₁.setGen g gs').setGen g .running) rfl rfl (allBare_setGen bare' rfl)
      cases n with
      | zero => exact z.elim
      | succ n => exact ⟨n, rfl, gs', setGen_at hsz1, z⟩
  · intro _
    obtain ⟨H', I', q⟩ := hp
    exact hP H' s₁ _ I' q rfl (allBare_setGen I'.bare rfl) hk

theorem code_any_gx {A : Around} {a : Addr} {g : Nat} {o : Obj} {R : Result → Shared → Prop} (hh : A.handled = none) (hroom : A.depth + 1 < recursionLimit) (hpn : X'.pn = [(a, o)]) (hog : ∀ h : Heap, h.get? a = some o → h.IsGen a g)
    (hR : ∀ b H' (s1 s' : Shared), Inv X' [] σw H' s1 → Q (.bl b) H' → s'.os = s1.os → AllBare s'.gens → (∀ b o, s1.heap.get? b = some o → s'.heap.get? b = some o) → R (.ok (.ret (.bool b))) s') :
    ∀ (n : Nat) (s : Shared) (H : Hp), Inv X' [] σw H s → GoesOn X' true Q σw A g n s → codeAny (model X'.prog X'.w) A (.builtin "any.loop" ⟨[.ref a], []⟩) R s := by
  intro n
  induction n with
  | zero =>
    intro s H I hgo
    refine codeAny_builtin F.entry_any_loop ?_
    rw [Around.under_plainId F.plain_any_loop _]
    show wpAny _ A.in1 (pyNext (.ref a) >>= _) _ _ s
    refine wpAny_bind (next_gx hh hroom (hog _ (I.pin (a, o) (by rw [hpn]; simp)).1) I.nolimit hgo (fun b H' s' I' q => ?_) fun H' s1 s' I' q h1 h2 h3 => ?_)
    · refine wpAny_bind (wpAny_holding (wpAny_truthy_bool ?_))
      refine wpAny_bind (wpAny_letGo ?_)
      cases b with
      | false =>
        rw [if_neg (by decide)] at q
        obtain ⟨n', e, _⟩ := q
        cases e
      | true =>
        rw [if_pos rfl] at q
        simp only [if_true]
        exact wpAny_bind (wpAny_rule (wpAny_pure (hR true H' s' s' I' q rfl I'.bare fun _ _ e => e)))
    · exact wpAny_bind (wpAny_rule (wpAny_pure (hR false H' s1 s' I' q h1 h2 h3)))
  | succ n ih =>
    intro s H I hgo
    refine codeAny_builtin F.entry_any_loop ?_
    rw [Around.under_plainId F.plain_any_loop _]
    show wpAny _ A.in1 (pyNext (.ref a) >>= _) _ _ s
    refine wpAny_bind (next_gx hh hroom (hog _ (I.pin (a, o) (by rw [hpn]; simp)).1) I.nolimit hgo (fun b H' s' I' q => ?_) fun H' s1 s' I' q h1 h2 h3 => ?_)
    · refine wpAny_bind (wpAny_holding (wpAny_truthy_bool ?_))
      refine wpAny_bind (wpAny_letGo ?_)
      cases b with
      | false =>
        rw [if_neg (by decide)] at q
        obtain ⟨n', e, q⟩ := q
        cases e
        simp only [Bool.false_eq_true, if_false]
        exact wpAny_pure ⟨plainId_quiet F.plain_any_loop _, ih s' H' I' q⟩
      | true =>
        rw [if_pos rfl] at q
        simp only [if_true]
        exact wpAny_bind (wpAny_rule (wpAny_pure (hR true H' s' s' I' q rfl I'.bare fun _ _ e => e)))
    · exact wpAny_bind (wpAny_rule (wpAny_pure (hR false H' s1 s' I' q h1 h2 h3)))
theorem code_all_gx {A : Around} {a : Addr} {g : Nat} {o : Obj} {R : Result → Shared → Prop} (hh : A.handled = none) (hroom : A.depth + 1 < recursionLimit) (hpn : X'.pn = [(a, o)]) (hog : ∀ h : Heap, h.get? a = some o → h.IsGen a g)
    (hR : ∀ b H' (s1 s' : Shared), Inv X' [] σw H' s1 → Q (.bl b) H' → s'.os = s1.os → AllBare s'.gens → (∀ b o, s1.heap.get? b = some o → s'.heap.get? b = some o) → R (.ok (.ret (.bool b))) s') :
    ∀ (n : Nat) (s : Shared) (H : Hp), Inv X' [] σw H s → GoesOn X' false Q σw A g n s → codeAny (model X'.prog X'.w) A (.builtin "all.loop" ⟨[.ref a], []⟩) R s := by
  intro n
  induction n with
  | zero =>
    intro s H I hgo
    refine codeAny_builtin F.entry_all_loop ?_
    rw [Around.under_plainId F.plain_all_loop _]
    show wpAny _ A.in1 (pyNext (.ref a) >>= _) _ _ s
    refine wpAny_bind (next_gx hh hroom (hog _ (I.pin (a, o) (by rw [hpn]; simp)).1) I.nolimit hgo (fun b H' s' I' q => ?_) fun H' s1 s' I' q h1 h2 h3 => ?_)
    · refine wpAny_bind (wpAny_holding (wpAny_truthy_bool ?_))
      refine wpAny_bind (wpAny_letGo ?_)
      cases b with
      | true =>
        rw [if_neg (by decide)] at q
        obtain ⟨n', e, _⟩ := q
        cases e
      | false =>
        rw [if_pos rfl] at q
        simp only [Bool.false_eq_true, if_false]
        exact wpAny_bind (wpAny_rule (wpAny_pure (hR false H' s' s' I' q rfl I'.bare fun _ _ e => e)))
    · exact wpAny_bind (wpAny_rule (wpAny_pure (hR true H' s1 s' I' q h1 h2 h3)))
  | succ n ih =>
    intro s H I hgo
    refine codeAny_builtin F.entry_all_loop ?_
    rw [Around.under_plainId F.plain_all_loop _]
    show wpAny _ A.in1 (pyNext (.ref a) >>= _) _ _ s
    refine wpAny_bind (next_gx hh hroom (hog _ (I.pin (a, o) (by rw [hpn]; simp)).1) I.nolimit hgo (fun b H' s' I' q => ?_) fun H' s1 s' I' q h1 h2 h3 => ?_)
    · refine wpAny_bind (wpAny_holding (wpAny_truthy_bool ?_))
      refine wpAny_bind (wpAny_letGo ?_)
      cases b with
      | true =>
        rw [if_neg (by decide)] at q
        obtain ⟨n', e, q⟩ := q
        cases e
        simp only [if_true]
        exact wpAny_pure ⟨plainId_quiet F.plain_all_loop _, ih s' H' I' q⟩
      | false =>
        rw [if_pos rfl] at q
        simp only [Bool.false_eq_true, if_false]
        exact wpAny_bind (wpAny_rule (wpAny_pure (hR false H' s' s' I' q rfl I'.bare fun _ _ e => e)))
    · exact wpAny_bind (wpAny_rule (wpAny_pure (hR true H' s1 s' I' q h1 h2 h3)))
end
end Eng
set_option Elab.async false
set_option linter.all false
set_option maxRecDepth 100000
set_option maxHeartbeats 2000000
/-! EngM: the rule of any, all of a generator expression. -/
namespace Eng
open PySem PySem.Spec PyProof.Rows L2 GxR GenW

/-- the generator is made, and may be walked -/
def GxReady (X : Cx) (pins : List (Addr × Obj)) (σ : L2.St) (want : Bool) (Q : VK) (a : Addr) (s5 : Shared) : Prop :=
  ∃ (X' : Cx) (σw : L2.St) (o : Obj) (g n : Nat) (H1 : Hp), X'.prog = X.prog ∧ X'.w = X.w ∧ X'.pn = [(a, o)] ∧ (∀ h : Heap, h.get? a = some o → h.IsGen a g) ∧ Inv X' [] σw H1 s5 ∧ GoesOn X' want Q σw X.A g n s5 ∧
    ∀ b H' (s1 s' : Shared), Inv X' [] σw H' s1 → Q (.bl b) H' → s'.os = s1.os → AllBare s'.gens → (∀ b o, s1.heap.get? b = some o → s'.heap.get? b = some o) → Inv X pins σ H' s'

section
variable {X : Cx} {pins : List (Addr × Obj)} {σ : L2.St} {H : Hp} {s : Shared}
theorem gx_eval {want : Bool} {c P : Addr} {k : Nat} {tg elt iter : Expr} {ifs : List Expr} {scope : Scope} {gpos : Pos} {own : List (Str × Nat)} {wi : TI} {g : TG} {tt : TT} {te : TE} {Q : VK} {Q' : Value → Shared → Prop}
    (hr : Room (k + 1) X.A) (hc : X.calm = true) (hN : X.N.Nodup) (TB : TabB X.base X.mg c P) (hcode : X.env.code = .ref c) (hi : PI X tg iter wi) (ok : BlkOk X.N X.env.scope scope own) (hnc : ∀ y ∈ scope.names, y.2 ≠ .cell) (hco : scope.isCoroutine = false) (hdot : scope.names.lookup (".0" : Str) = some NameKind.local)
    (hg : ∀ (s : Shared) (H : Hp) (C : Addr) (cl : List (Str × Addr)) (code : Value) (A : Around) (fp : List Addr) (pn : List (Addr × Obj)), Room k A → PG (gcx X s H (genEnv scope cl C code builtinsNs X.env) A fp pn) tg g)
    (ht : ∀ (s : Shared) (H : Hp) (C : Addr) (cl : List (Str × Addr)) (code : Value) (A : Around) (fp : List Addr) (pn : List (Addr × Obj)), Room k A → PTs (gcx X s H (genEnv scope cl C code builtinsNs X.env) A fp pn) ifs tt)
    (he : ∀ (s : Shared) (H : Hp) (C : Addr) (cl : List (Str × Addr)) (code : Value) (A : Around) (fp : List Addr) (pn : List (Addr × Obj)), Room k A → PE (gcx X s H (genEnv scope cl C code builtinsNs X.env) A fp pn) elt te)
    (hs : ∀ x, genFold iter X.env x = pure x) (I : Inv X pins σ H s) (h : tGx want P wi g tt te (own.map (·.2)) σ H Q) (hQ : ∀ a s5, GxReady X pins σ want Q a s5 → Q' (.ref a) s5) :
    wpAny (model X.prog X.w) X.A (eval (.GeneratorExp elt [⟨tg, iter, ifs, 0⟩] scope gpos) X.env) Q' X.xe s := by
  have hfree : ∀ y ∈ scope.names, y.2 = .free → ∃ c, X.env.cells.lookup y.1 = some c := fun y hy e => by
    rcases ok.free y hy e with k | k
    · exact I.ok.has _ (.inl k)
    · exact I.ok.has _ (.inr k)
  refine wpAny_GeneratorExp_make hco (closure_ok hfree) hnc hdot ok.kind hr.depth (thn (hi.run pins s σ H _ I h) fun xv s1 hx => thn hx fun itv s2 h2 => ?_) hs
  obtain ⟨it, fp, tn, J, H2, rfl, I2, T, st2, f2, ⟨ps, hP, htr⟩, q⟩ := h2
  refine ⟨I2.nolimit, ?_⟩
  have hPs : s2.heap.get? P = some { cls := .none, data := .fields ps } := I2.hok P _ hP
  have hPlt : P < s2.heap.objs.size := Heap.lt_size hPs
  have cd : PySem.W.CodeHd s2.heap c P := TB.code.keeps I2.bk
  have cont : ∀ (code : Value) (h3 : Heap) (tk : Nat) (ps' : Array Value), Heap.ExtBut P s2.heap h3 → s2.heap.objs.size ≤ h3.objs.size → h3.get? P = some { cls := .none, data := .fields ps' } → (∃ more, ps' = ps ++ more) → TriplesOk ps'.toList →
      wpAny (model X.prog X.w) X.A (builtinsFor X.env.globals X.env.builtins) (fun bi s₄ =>
        ∀ h', h'.Ns s₄.heap.objs.size (fun y => if y = ".0" then some (.ref it) else none) → Heap.SameBut s₄.heap.objs.size (s₄.heap.push { cls := .type "frame", data := .dict #[] }) h' →
          Q' (.ref h'.objs.size) { s₄ with
            gens := s₄.gens.push (.fresh (.compStart (.GeneratorExp elt [⟨tg, iter, ifs, 0⟩] scope gpos) 0 (.ref it) .none (genEnv scope (cloFrom X.env.cells scope.names []) s₄.heap.objs.size code bi X.env))),
            toks := s₄.toks + 1 + 1 + 1,
            heap := h'.push { cls := .type "generator", data := .fields #[.int s₄.gens.size 0, .str "<genexpr>" (s₄.toks + 1), .str (X.env.qual ++ "<genexpr>") (s₄.toks + 1 + 1)] } }) X.xe { s2 with heap := h3, toks := tk } := by
    intro code h3 tk ps' hx hsz hP3 hmore ht3
    obtain ⟨more, rfl⟩ := hmore
    obtain ⟨bm, ob, e1, e2, e3, e4, e5, e6, e7, e8⟩ := TB.bm
    have keep3 : ∀ b u, b ≠ P → s2.heap.get? b = some u → h3.get? b = some u := fun b u hb e => hx b u hb e
    refine wpAny_builtinsFor (m := X.mg) (by rw [I2.ok.glob]; exact (I2.mod.glob.keeps I2.bk).extBut hx TB.gP) e1 e2 (keep3 _ _ e4 (I2.bk _ _ e5)) e6 e7 e8 ?_
    intro h' hn' hs'
    have I3 : Inv X pins σ (upd H2 P (.tbl (ps ++ more))) { s2 with heap := h3, toks := tk } := inv_tab (g' := s2.gens) (d' := s2.drawn) I2 hP keep3 hP3 I2.bare
    obtain ⟨W, ⟨m0, w0⟩, turn⟩ := q _ ⟨⟨ps ++ more, upd_same, ht3⟩, fun b hb => upd_ne hb⟩
    generalize hH3 : upd H2 P (.tbl (ps ++ more)) = H3 at I3 w0
    have nP : ∀ b, H2 b = none → b ≠ P := fun b e z => by rw [z, hP] at e; cases e
    have n3 : ∀ b, H2 b = none → H3 b = none := fun b e => by rw [← hH3, upd_ne (nP b e)]; exact e
    generalize hs3 : ({ s2 with heap := h3, toks := tk } : Shared) = s3 at I3 hn' hs' ⊢
    have h3e : s3.heap = h3 := by rw [← hs3]
    have fpl : ∀ b ∈ fp, b < s3.heap.objs.size := fun b hb => by
      obtain ⟨o, e, _⟩ := T.obj _ _ st2 b hb
      rw [h3e]
      exact Nat.lt_of_lt_of_le (Heap.lt_size e) hsz
    have f3 : ∀ b ∈ fp, FpOk X pins H3 b ∧ b < s3.heap.objs.size := fun b hb => ⟨⟨n3 b (f2 b hb).1, (f2 b hb).2⟩, fpl b hb⟩
    have st3 : tn 0 s3.heap := T.keep _ _ _ st2 fun b hb o e => by rw [h3e]; exact keep3 b o (nP b (f2 b hb).1) e
    have szh' : h'.objs.size = s3.heap.objs.size + 1 := by rw [hs'.1, Heap.size_push]
    have keep' : ∀ b o, s3.heap.get? b = some o → h'.get? b = some o := fun b o e => hs'.extBut b o (Nat.ne_of_lt (Heap.lt_size e)) (Heap.get?_push_of_some _ e)
    have keep5 : ∀ (ob : Obj) b o, s3.heap.get? b = some o → (h'.push ob).get? b = some o := fun ob b o e => Heap.get?_push_of_some _ (keep' b o e)
    have fr : (X.A.in1.in1.deeper (genEnv scope (cloFrom X.env.cells scope.names []) s3.heap.objs.size code builtinsNs X.env)).frames = some (genEnv scope (cloFrom X.env.cells scope.names []) s3.heap.objs.size code builtinsNs X.env :: X.stack) := Around.frames_deeper (A := X.A.in1.in1) I3.ok.frames
    have rk : Room k (X.A.in1.in1.deeper (genEnv scope (cloFrom X.env.cells scope.names []) s3.heap.objs.size code builtinsNs X.env)) :=
      ⟨hr.hd, by have := hr.dp; show X.A.depth + 1 + 3 * k + 5 < _; omega, by have := hr.un; show X.A.units + 1 + 1 + 3 + 16 * k + 200 < _; omega⟩
    have bare5 : AllBare (s3.gens.push (.fresh (.compStart (.GeneratorExp elt [⟨tg, iter, ifs, 0⟩] scope gpos) 0 (.ref it) .none (genEnv scope (cloFrom X.env.cells scope.names []) s3.heap.objs.size code builtinsNs X.env)))) := AllBare.push I3.bare rfl
    have I5 := gen_start (A := X.A.in1.in1.deeper (genEnv scope (cloFrom X.env.cells scope.names []) s3.heap.objs.size code builtinsNs X.env)) (code := code) (a := h'.objs.size) (s5 := { s3 with
            gens := s3.gens.push (.fresh (.compStart (.GeneratorExp elt [⟨tg, iter, ifs, 0⟩] scope gpos) 0 (.ref it) .none (genEnv scope (cloFrom X.env.cells scope.names []) s3.heap.objs.size code builtinsNs X.env))),
            toks := s3.toks + 1 + 1 + 1,
            heap := h'.push { cls := .type "generator", data := .fields #[.int s3.gens.size 0, .str "<genexpr>" (s3.toks + 1), .str (X.env.qual ++ "<genexpr>") (s3.toks + 1 + 1)] } })
      I3 ok hN hnc f3 fr hr.hd rfl (hn'.push _) (keep5 _) (Heap.get?_push_size _ rfl) rfl (by rw [szh']; exact Nat.lt_succ_self _) rfl bare5
    have fpn : ∀ b ∈ fp, ∀ p ∈ [(h'.objs.size, ({ cls := .type "generator", data := .fields #[.int s3.gens.size 0, .str "<genexpr>" (s3.toks + 1), .str (X.env.qual ++ "<genexpr>") (s3.toks + 1 + 1)] } : Obj))], p.1 ≠ b := fun b hb p hp z => by
      have h1 : (b : Nat) < s3.heap.objs.size := fpl b hb
      have h2 : (h'.objs.size : Nat) = b := by
        rcases List.mem_cons.mp hp with e | e
        · rw [e] at z; exact z
        · cases e
      rw [← h2, szh'] at h1
      exact absurd (Nat.lt_of_succ_lt h1) (Nat.lt_irrefl _)
    have seg := seg_gx (X' := gcx X s3 H3 (genEnv scope (cloFrom X.env.cells scope.names []) s3.heap.objs.size code builtinsNs X.env) (X.A.in1.in1.deeper (genEnv scope (cloFrom X.env.cells scope.names []) s3.heap.objs.size code builtinsNs X.env)) fp [(h'.objs.size, ({ cls := .type "generator", data := .fields #[.int s3.gens.size 0, .str "<genexpr>" (s3.toks + 1), .str (X.env.qual ++ "<genexpr>") (s3.toks + 1 + 1)] } : Obj))]) (B := X.A.in1.in1) (scope := scope) (gpos := gpos) (iter := iter) (want := want) (Q := Q)
      T hc rfl rfl rfl fpn hco (hg _ _ _ _ _ _ _ _ rk) (ht _ _ _ _ _ _ _ _ rk) (he _ _ _ _ _ _ _ _ rk) turn m0 (m0 + 1) 0
    refine hQ _ _ ⟨(gcx X s3 H3 (genEnv scope (cloFrom X.env.cells scope.names []) s3.heap.objs.size code builtinsNs X.env) (X.A.in1.in1.deeper (genEnv scope (cloFrom X.env.cells scope.names []) s3.heap.objs.size code builtinsNs X.env)) fp [(h'.objs.size, ({ cls := .type "generator", data := .fields #[.int s3.gens.size 0, .str "<genexpr>" (s3.toks + 1), .str (X.env.qual ++ "<genexpr>") (s3.toks + 1 + 1)] } : Obj))]), L2.wipe σ (own.map (·.2)), _, s3.gens.size, m0 + 1, H3, rfl, rfl, rfl, fun h e => ⟨_, _, _, e, rfl, rfl, rfl⟩, I5, ⟨_, Array.getElem?_push_size .., rfl, ?_⟩, fun b H' s1 s' I' _ h1 h2 h3 => ?_⟩
    · have I6 := Inv.gensTo I5 (s' := (({ s3 with
            gens := s3.gens.push (.fresh (.compStart (.GeneratorExp elt [⟨tg, iter, ifs, 0⟩] scope gpos) 0 (.ref it) .none (genEnv scope (cloFrom X.env.cells scope.names []) s3.heap.objs.size code builtinsNs X.env))),
            toks := s3.toks + 1 + 1 + 1,
            heap := h'.push { cls := .type "generator", data := .fields #[.int s3.gens.size 0, .str "<genexpr>" (s3.toks + 1), .str (X.env.qual ++ "<genexpr>") (s3.toks + 1 + 1)] } } : Shared).setGen s3.gens.size .running)) rfl rfl (allBare_setGen bare5 rfl)
      have st6 : tn 0 (h'.push { cls := .type "generator", data := .fields #[.int s3.gens.size 0, .str "<genexpr>" (s3.toks + 1), .str (X.env.qual ++ "<genexpr>") (s3.toks + 1 + 1)] }) := T.keep _ _ _ st3 fun b _ o e => keep5 _ b o e
      have loop := fun s0 => seg s0 _ H3 (Nat.le_refl _) I6 st6 (fun b hb => n3 b (f2 b hb).1) w0
      show Seg _ X.A.in1.in1 _ _ _ _ _ ((compStart (.GeneratorExp elt [⟨tg, iter, ifs, 0⟩] scope gpos) 0 (.ref it) .none _).onRaise (leaving _)) [] _
      unfold compStart
      rw [Sem.onRaise_eq_wrap]
      show Seg _ X.A.in1.in1 _ _ _ _ _ ((ask >>= _).wrap _ _ _ _) [] _
      refine seg_bind_wrap (wpAny_askSetting ?_)
      split
      · exact seg_again rfl (loop _)
      · first
          | exact seg_bind_wrap (wpAny_rule (seg_bind_wrap (wpAny_standAt (seg_bind_wrap (T.self _ 0 _ _ _ st6 (seg_again rfl (loop _)))))))
          | (refine seg_bind_wrap (wpAny_rule ?_); show Seg _ X.A.in1.in1 _ _ _ _ _ ((standAt iter.pos >>= _).wrap _ _ _ _) [] _; exact seg_bind_wrap (wpAny_standAt (seg_bind_wrap (T.self _ 0 _ _ _ st6 (seg_again rfl (loop _))))))
    · exact I3.call' (ch := fp) (h1.trans I'.os) (I'.base.trans (Un.kept h3)) (I'.hok.kept h3) h2 fun b hb => ⟨(f3 b hb).1.2.2.2.1, (f3 b hb).1.2.1, (f3 b hb).1.2.2.2.2.1, (f3 b hb).1.2.2.2.2.2⟩
  cases hf : codeAmong gpos ps.toList with
  | none =>
    refine wpAny_genexprCodeX hcode (cd.code hPs htr) (cd.tab hPs) hf fun c' h' tk hx hge hlt hco' _ htab' _ => ?_
    obtain ⟨o1, vs, f1, tf, fl, tg, inF, tx, tt, op, _, _, _, _, _, _, _, _, _, htr', _⟩ := hco'
    exact cont _ h' tk _ hx (Nat.le_trans hge (Nat.le_of_lt hlt)) htab'.2 ⟨_, rfl⟩ htr'
  | some cv =>
    refine wpAny_genexprCode_hit hcode (cd.code hPs htr) hf ?_
    exact cont cv s2.heap s2.toks ps (Heap.ExtBut.refl _ _) (Nat.le_refl _) hPs ⟨#[], by simp⟩ htr
end
end Eng
set_option Elab.async false
set_option linter.all false
set_option maxRecDepth 100000
set_option maxHeartbeats 2000000
/-! EngN: any, all of a generator expression, as meanings. -/
namespace Eng
open PySem PySem.Spec PyProof.Rows L2 GxR GenW

theorem Rel.tabbed {K : PySem.W.Frag} {T : List Addr} {pk : Pk} {B : Bs} {ρ : Env} {F : Hp} {σ : L2.St} {H H2 : Hp} {P : Addr} (r : Rel K T pk B ρ F σ H) (t : TabG H P) (tb : Tabbed P H H2) : Rel K T pk B ρ F σ H2 := by
  obtain ⟨ps, hP, _⟩ := t
  obtain ⟨⟨ps2, hP2, ht2⟩, hk⟩ := tb
  have nF : ∀ b u, F b = some u → b ≠ P := fun b u e z => by
    have h1 := r.sub b u e
    rw [z, hP] at h1
    cases h1
    have h2 := r.notab b _ e
    cases h2
  have nO : ∀ {p : Addr} {d : D}, OwnAt K F H p d → p ≠ P := fun h z => by
    obtain ⟨o, e, nt⟩ := h.ex
    rw [z, hP] at e
    cases e
    cases nt
  refine ⟨r.len, fun b u q => by rw [hk b (nF b u q)]; exact r.sub b u q, r.notab, r.frs, r.val, fun i d e => ?_, r.apart, fun b u hb hio => ?_, fun P' hP' => ?_, r.pin, fun i hi q u e => ?_, r.lkd⟩
  · obtain ⟨p, h1, h2, h3, h4⟩ := r.own i d e
    exact ⟨p, h1, h2, h3.at (hk p (nO h3)), h4⟩
  · have h := r.frame b u hb hio
    by_cases z : b = P
    · rw [z] at h ⊢
      split at h
      · rename_i ht; rw [if_pos ht]; exact ⟨_, hP2, rfl⟩
      · rename_i ht
        rw [hP] at h
        cases h
        exact absurd rfl ht
    · rw [hk b z]; exact h
  · by_cases z : P' = P
    · rw [z]; exact ⟨ps2, hP2, ht2⟩
    · obtain ⟨qs, h1, h2⟩ := r.tab P' hP'
      exact ⟨qs, by rw [hk P' z]; exact h1, h2⟩
  · obtain ⟨h1, h2, h3⟩ := r.lock i hi q u e
    have : q ≠ P := by
      rcases h3 with ⟨u', h4⟩ | ⟨d, h4⟩
      · exact nF q u' h4
      · obtain ⟨p, k1, _, k3, _⟩ := r.own i d h4
        rw [h1] at k1; cases k1
        exact nO k3
    exact ⟨h1, by rw [hk q this]; exact h2, h3⟩

/-- any (want: true), all (false) over the items -/
def gxM (vs : List Nat) (g : Tg) (c : MT) (m : ME) (want : Bool) : List D → Env → Option (Bool × Env)
  | [], ρ => some (!want, ρ)
  | d :: r, ρ => (tgS g d ρ).bind fun ρ1 => (c ρ1).bind fun q => if q.1 = true then (m q.2).bind fun z => match z.1.1 with
      | .bl b => if b = want then some (want, wipeE vs z.2) else gxM vs g c m want r (wipeE vs z.2)
      | _ => none
    else gxM vs g c m want r (wipeE vs q.2)
def mGx (vs : List Nat) (i : MI) (g : Tg) (c : MT) (m : ME) (want : Bool) : ME := fun ρ => (i ρ).bind fun q => if vs.all (fun v => notOwn q.2[v]?) = true then
    (gxM vs g c m want q.1 (wipeE vs q.2)).map fun w => ((.bl w.1, false), restE q.2 vs w.2) else none
section
variable {X : Cx} {T : List Addr} {pk : Pk}
theorem gx_ok {want : Bool} {P : Addr} {lk : Option Nat} {vs : List Nat} {mi : MI} {g : Tg} {c1 : MT} {m : ME} (hP : P ∈ T) (hl : ∀ j, lk = some j → pk.lock.contains j = false) (hv : ∀ v ∈ vs, v ∉ (pkl pk lk).pin ∧ v ∉ (pkl pk lk).lock) {σ : L2.St} {H : Hp} {Q : VK} (h : tM X.K T pk (mGx vs mi g c1 m want) σ H Q) :
    tGx want P (tMI X.K T pk lk mi) (tTgC X.K T (pkl pk lk) vs g) (tMT X.K T (pkl pk lk) c1) (tM X.K T (pkl pk lk) m) vs σ H Q := by
  obtain ⟨B, ρ, F, d, o, ρ', r, h, k⟩ := h
  obtain ⟨⟨items, ρ1⟩, e1, h⟩ := Option.bind_eq_some_iff.mp h
  refine ⟨B, ρ, F, items, ρ1, r, e1, fun J H1 F1 r1 s1 it => ?_⟩
  have tg1 : TabG H1 P := r1.tab P hP
  refine ⟨tg1, fun H2 tb => ?_⟩
  have r2 := r1.tabbed tg1 tb
  simp only at h
  split at h
  · rename_i hno
    obtain ⟨⟨res, ρ2⟩, e2, h⟩ := Option.map_eq_some_iff.mp h
    cases h
    obtain ⟨B', b0, b1, r1h, back⟩ := lock_of lk hl r1
    have ok := it B' r1h
    have r1' := r1h.tabbed tg1 tb
    have hno' : ∀ v ∈ vs, notOwn ρ1[v]? = true := fun v hv' => by simpa using List.all_eq_true.mp hno v hv'
    have fin : ∀ (b : Bool) (ρ3 : Env) (F3 : Hp) (H3 : Hp), Rel X.K T (pkl pk lk) B' ρ3 F3 (L2.wipe σ vs) H3 → Same F1 F3 → b = res → ρ3 = ρ2 → Q (.bl b) H3 := fun b ρ3 F3 H3 r3 s3 eb eρ => by
      subst eb eρ
      have rr := Rel.rest r2 (back _ _ _ _ r3) s3 hno' (fun v hv' => ?_)
      · exact k (.bl b) H3 F3 rr (s1.trans s3) (res_of (.bl b))
      · have := hv v hv'
        cases lk with
        | none => exact this
        | some j => exact ⟨this.1, fun z => this.2 (List.mem_cons_of_mem _ z)⟩
    refine ⟨fun i n H => n = items.length - i ∧ i ≤ items.length ∧ ∃ (ρ3 : Env) (F3 : Hp), Rel X.K T (pkl pk lk) B' ρ3 F3 (L2.wipe σ vs) H ∧ Same F1 F3 ∧ gxM vs g c1 m want (items.drop i) ρ3 = some (res, ρ2),
      ⟨_, rfl, Nat.zero_le _, wipeE vs ρ1, F1, r1'.wipe vs hv, Same.refl F1, by rw [List.drop_zero]; exact e2⟩, ?_⟩
    rintro i n H3 ⟨rfl, hi, ρ3, F3, r3, s3, e3⟩
    by_cases hlt : i < items.length
    · refine .inr ?_
      obtain ⟨g1, g2⟩ := (ok B' ρ3 F3 _ H3 rfl r3 s3 i).1 items[i] (List.getElem?_eq_getElem hlt)
      rw [List.drop_eq_getElem_cons hlt] at e3
      simp only [gxM] at e3
      obtain ⟨ρ4, e4, e3⟩ := Option.bind_eq_some_iff.mp e3
      obtain ⟨⟨b5, ρ5⟩, e5, e3⟩ := Option.bind_eq_some_iff.mp e3
      refine ⟨g1, fun H' => ∃ (ρ6 : Env) (F6 : Hp), Rel X.K T (pkl pk lk) B' ρ6 F6 (L2.wipe σ vs) H' ∧ Same F1 F6 ∧ gxM vs g c1 m want (items.drop (i + 1)) ρ6 = some (res, ρ2),
        fun H' ⟨ρ6, F6, q⟩ => ⟨items.length - (i + 1), by omega, rfl, hlt, ρ6, F6, q⟩, fun x H4 y => ?_⟩
      obtain ⟨F4, r4, s4, rp⟩ := g2 x H4 y
      refine ⟨_, ρ3, F4, items[i], ρ4, r4, rp, e4, fun σ4 r4' hw => ⟨hw.trans (wipe_idem fun _ h => h), _, ρ4, F4, b5, ρ5, r4', e5, fun H5 F5 r5 s5 => ?_⟩⟩
      have hw' : L2.wipe σ4 vs = L2.wipe σ vs := hw.trans (wipe_idem fun _ h => h)
      cases b5 with
      | false =>
        dsimp only
        rw [if_neg Bool.false_ne_true] at e3 ⊢
        have r6 := r5.wipe vs hv
        rw [hw'] at r6
        exact ⟨wipeE vs ρ5, F5, r6, (s3.trans s4).trans s5, e3⟩
      | true =>
        dsimp only
        rw [if_pos rfl] at e3 ⊢
        obtain ⟨⟨⟨d7, o7⟩, ρ7⟩, e7, e3⟩ := Option.bind_eq_some_iff.mp e3
        refine ⟨_, ρ5, F5, d7, o7, ρ7, r5, e7, fun v H7 F7 r7 s7 t7 => ?_⟩
        obtain ⟨F9, r9, s9, rp9⟩ := r7.freezeR t7
        have r10 := r9.wipe vs hv
        rw [hw'] at r10
        cases d7 with
        | bl b8 =>
          cases rp9
          refine ⟨b8, rfl, ?_⟩
          by_cases hb : b8 = want
          · rw [if_pos hb]
            simp only [if_pos hb] at e3
            cases e3
            exact fin _ _ F9 H7 r10 ((((s3.trans s4).trans s5).trans s7).trans s9) rfl rfl
          · rw [if_neg hb]
            simp only [if_neg hb] at e3
            exact ⟨_, F9, r10, (((s3.trans s4).trans s5).trans s7).trans s9, e3⟩
        | _ => cases e3
    · have e0 : items.drop i = [] := List.drop_eq_nil_of_le (by omega)
      rw [e0] at e3
      cases e3
      exact .inl ⟨(ok B' _ F3 _ H3 rfl r3 s3 i).2 (by omega), fin _ _ F3 H3 r3 s3 rfl rfl⟩
  · cases h

def gxC (scope : Scope) : Bool := (scope.names.all fun y => match y.2 with | .cell => false | _ => true) && !scope.isCoroutine && (match scope.names.lookup (".0" : Str) with | some NameKind.local => true | _ => false)
theorem gxC_ok {scope : Scope} (h : gxC scope = true) : (∀ y ∈ scope.names, y.2 ≠ .cell) ∧ scope.isCoroutine = false ∧ scope.names.lookup (".0" : Str) = some NameKind.local := by
  unfold gxC at h
  simp only [Bool.and_eq_true, List.all_eq_true, Bool.not_eq_true'] at h
  obtain ⟨⟨h1, h2⟩, h3⟩ := h
  refine ⟨fun y hy e => ?_, h2, ?_⟩
  · have := h1 y hy
    rw [e] at this
    cases this
  · split at h3
    · assumption
    · cases h3

theorem call_any_gx {pins : List (Addr × Obj)} {σ : L2.St} {s : Shared} {Q : VK} {a : Addr} {Q' : Value → Shared → Prop} (hh : X.A.handled = none) (hd : X.A.depth + 1 < recursionLimit) (h : GxReady X pins σ true Q a s)
    (hQ : ∀ b H' s', Inv X pins σ H' s' → Q (.bl b) H' → Q' (.bool b) s') : wpAny (model X.prog X.w) X.A (call (.builtin "any") [.ref a]) Q' X.xe s := by
  obtain ⟨X', σw, o, g, n, H1, ep, ew, hpn, hog, I', hgo, back⟩ := h
  rw [← ep, ← ew]
  refine call_function_tree F.kind_any F.plain_any F.entry_any (F.args_any1 _) ?_
  unfold Builtin.«any»
  refine wpAny_bind (m := oneArg "any" _) (wpAny_pure ?_)
  refine wpAny_bind (wpAny_pyIter_gen (hog _ (I'.pin (a, o) (by rw [hpn]; simp)).1) ?_)
  refine wpAny_pure ⟨plainId_quiet F.plain_any_loop _, code_any_gx (X' := X') hh hd hpn hog (fun b H' s1 s' I'' q h1 h2 h3 => ?_) n s H1 I' hgo⟩
  exact hQ b H' s' (back b H' s1 s' I'' q h1 h2 h3) q
theorem se_any (lk : Option Nat) {c P : Addr} {k : Nat} {tg elt iter : Expr} {ifs : List Expr} {scope : Scope} {p gpos pos : Pos} {own : List (Str × Nat)} {mi : MI} {g : Tg} {c1 : MT} {m : ME} (hr : Room (k + 1) X.A) (hgl : Gl X "any") (hm : X.mg "any" = none) (hc : X.calm = true) (hN : X.N.Nodup)
    (hP : P ∈ T) (TB : TabB X.base X.mg c P) (hcode : X.env.code = .ref c) (hi : SI X T pk lk tg iter mi) (ok : BlkOk X.N X.env.scope scope own) (hx : gxC scope = true)
    (hg : ∀ (s : Shared) (H : Hp) (C : Addr) (cl : List (Str × Addr)) (code : Value) (A : Around) (fp : List Addr) (pn : List (Addr × Obj)), Room k A → SGC (gcx X s H (genEnv scope cl C code builtinsNs X.env) A fp pn) T (pkl pk lk) (own.map (·.2)) tg g)
    (ht : ∀ (s : Shared) (H : Hp) (C : Addr) (cl : List (Str × Addr)) (code : Value) (A : Around) (fp : List Addr) (pn : List (Addr × Obj)), Room k A → STs (gcx X s H (genEnv scope cl C code builtinsNs X.env) A fp pn) T (pkl pk lk) ifs c1)
    (he : ∀ (s : Shared) (H : Hp) (C : Addr) (cl : List (Str × Addr)) (code : Value) (A : Around) (fp : List Addr) (pn : List (Addr × Obj)), Room k A → SE (gcx X s H (genEnv scope cl C code builtinsNs X.env) A fp pn) T (pkl pk lk) elt m)
    (hl : ∀ j, lk = some j → pk.lock.contains j = false := by intro j e; cases e <;> rfl) (hv : vOk pk lk (own.map (·.2)) = true := by rfl) (hs : ∀ x, genFold iter X.env x = pure x := by intro _; rfl)
    (hse : starEach [.GeneratorExp elt [⟨tg, iter, ifs, 0⟩] scope gpos] X.env = (false, eval (.GeneratorExp elt [⟨tg, iter, ifs, 0⟩] scope gpos) X.env) :: starEach [] X.env := by rfl) :
    SE X T pk (.Call (.Name "any" p) [.GeneratorExp elt [⟨tg, iter, ifs, 0⟩] scope gpos] [] pos) (mGx (own.map (·.2)) mi g c1 m true) := by
  refine ⟨⟨fun pins s σ H Q I h => ?_⟩⟩
  obtain ⟨x1, x2, x3⟩ := gxC_ok hx
  have h' := gx_ok (P := P) hP hl (vOk_of hv) h
  refine wpAny_Call_Name_kw (ld_blt I hgl hm boot_any ?_)
  refine PyProof.Rows.callWith_builtin1 ?_ hse (by rfl)
  rw [hse]
  show wpAny _ _ (spliced ((false, eval (.GeneratorExp elt [⟨tg, iter, ifs, 0⟩] scope gpos) X.env) :: backTo pos (starEach [] X.env))) _ _ s
  refine Calls.spliced_cons (gx_eval hr hc hN TB hcode hi.pi ok x1 x2 x3 (fun s H C cl code A fp pn r => (hg s H C cl code A fp pn r).pg) (fun s H C cl code A fp pn r => (ht s H C cl code A fp pn r).pts) (fun s H C cl code A fp pn r => (he s H C cl code A fp pn r).pe) hs I h' fun a s5 hR => ?_)
  refine Calls.spliced_nil ?_
  exact call_any_gx hr.hd (by have := hr.dp; omega) hR fun b H' s' I' q => ⟨.bl b, H', I', rfl, q⟩

theorem call_all_gx {pins : List (Addr × Obj)} {σ : L2.St} {s : Shared} {Q : VK} {a : Addr} {Q' : Value → Shared → Prop} (hh : X.A.handled = none) (hd : X.A.depth + 1 < recursionLimit) (h : GxReady X pins σ false Q a s)
    (hQ : ∀ b H' s', Inv X pins σ H' s' → Q (.bl b) H' → Q' (.bool b) s') : wpAny (model X.prog X.w) X.A (call (.builtin "all") [.ref a]) Q' X.xe s := by
  obtain ⟨X', σw, o, g, n, H1, ep, ew, hpn, hog, I', hgo, back⟩ := h
  rw [← ep, ← ew]
  refine call_function_tree F.kind_all F.plain_all F.entry_all (F.args_all1 _) ?_
  unfold Builtin.«all»
  refine wpAny_bind (m := oneArg "all" _) (wpAny_pure ?_)
  refine wpAny_bind (wpAny_pyIter_gen (hog _ (I'.pin (a, o) (by rw [hpn]; simp)).1) ?_)
  refine wpAny_pure ⟨plainId_quiet F.plain_all_loop _, code_all_gx (X' := X') hh hd hpn hog (fun b H' s1 s' I'' q h1 h2 h3 => ?_) n s H1 I' hgo⟩
  exact hQ b H' s' (back b H' s1 s' I'' q h1 h2 h3) q
theorem se_all (lk : Option Nat) {c P : Addr} {k : Nat} {tg elt iter : Expr} {ifs : List Expr} {scope : Scope} {p gpos pos : Pos} {own : List (Str × Nat)} {mi : MI} {g : Tg} {c1 : MT} {m : ME} (hr : Room (k + 1) X.A) (hgl : Gl X "all") (hm : X.mg "all" = none) (hc : X.calm = true) (hN : X.N.Nodup)
    (hP : P ∈ T) (TB : TabB X.base X.mg c P) (hcode : X.env.code = .ref c) (hi : SI X T pk lk tg iter mi) (ok : BlkOk X.N X.env.scope scope own) (hx : gxC scope = true)
    (hg : ∀ (s : Shared) (H : Hp) (C : Addr) (cl : List (Str × Addr)) (code : Value) (A : Around) (fp : List Addr) (pn : List (Addr × Obj)), Room k A → SGC (gcx X s H (genEnv scope cl C code builtinsNs X.env) A fp pn) T (pkl pk lk) (own.map (·.2)) tg g)
    (ht : ∀ (s : Shared) (H : Hp) (C : Addr) (cl : List (Str × Addr)) (code : Value) (A : Around) (fp : List Addr) (pn : List (Addr × Obj)), Room k A → STs (gcx X s H (genEnv scope cl C code builtinsNs X.env) A fp pn) T (pkl pk lk) ifs c1)
    (he : ∀ (s : Shared) (H : Hp) (C : Addr) (cl : List (Str × Addr)) (code : Value) (A : Around) (fp : List Addr) (pn : List (Addr × Obj)), Room k A → SE (gcx X s H (genEnv scope cl C code builtinsNs X.env) A fp pn) T (pkl pk lk) elt m)
    (hl : ∀ j, lk = some j → pk.lock.contains j = false := by intro j e; cases e <;> rfl) (hv : vOk pk lk (own.map (·.2)) = true := by rfl) (hs : ∀ x, genFold iter X.env x = pure x := by intro _; rfl)
    (hse : starEach [.GeneratorExp elt [⟨tg, iter, ifs, 0⟩] scope gpos] X.env = (false, eval (.GeneratorExp elt [⟨tg, iter, ifs, 0⟩] scope gpos) X.env) :: starEach [] X.env := by rfl) :
    SE X T pk (.Call (.Name "all" p) [.GeneratorExp elt [⟨tg, iter, ifs, 0⟩] scope gpos] [] pos) (mGx (own.map (·.2)) mi g c1 m false) := by
  refine ⟨⟨fun pins s σ H Q I h => ?_⟩⟩
  obtain ⟨x1, x2, x3⟩ := gxC_ok hx
  have h' := gx_ok (P := P) hP hl (vOk_of hv) h
  refine wpAny_Call_Name_kw (ld_blt I hgl hm boot_all ?_)
  refine PyProof.Rows.callWith_builtin1 ?_ hse (by rfl)
  rw [hse]
  show wpAny _ _ (spliced ((false, eval (.GeneratorExp elt [⟨tg, iter, ifs, 0⟩] scope gpos) X.env) :: backTo pos (starEach [] X.env))) _ _ s
  refine Calls.spliced_cons (gx_eval hr hc hN TB hcode hi.pi ok x1 x2 x3 (fun s H C cl code A fp pn r => (hg s H C cl code A fp pn r).pg) (fun s H C cl code A fp pn r => (ht s H C cl code A fp pn r).pts) (fun s H C cl code A fp pn r => (he s H C cl code A fp pn r).pe) hs I h' fun a s5 hR => ?_)
  refine Calls.spliced_nil ?_
  exact call_all_gx hr.hd (by have := hr.dp; omega) hR fun b H' s' I' q => ⟨.bl b, H', I', rfl, q⟩
end
end Eng
set_option Elab.async false
set_option linter.all false
set_option maxRecDepth 100000
set_option maxHeartbeats 1000000
/-! EngO: built-ins as functions on data. -/
namespace Eng
open PySem PySem.Spec PyProof.Rows L2
section
variable {X : Cx} {T : List Addr} {pk : Pk}
theorem brws1 {K : PySem.W.Frag} {F H : Hp} {d : D} {vs : List V} (b : Brws K F H [d] vs) : ∃ v, vs = [v] ∧ Brw K F H d v := by
  cases b with
  | cons r t => cases t; exact ⟨_, rfl, r⟩
theorem brws2 {K : PySem.W.Frag} {F H : Hp} {d e : D} {vs : List V} (b : Brws K F H [d, e] vs) : ∃ v w, vs = [v, w] ∧ Brw K F H d v ∧ Brw K F H e w := by
  cases b with
  | cons r t =>
    obtain ⟨w, rfl, q⟩ := brws1 t
    exact ⟨_, w, rfl, r, q⟩
/-- the items of a list or a tuple -/
def seqD : D → Option (List D)
  | .lst xs => some xs
  | .tup xs => some xs
  | .scr xs => some xs
  | _ => none
theorem seq_brw {K : PySem.W.Frag} {F H : Hp} {d : D} {xs : List D} {v : V} (s : Same F H) (h : seqD d = some xs) (b : Brw K F H d v) : ∃ a vs, v = .ref a ∧ (SqL K H a vs ∨ SqT K H a vs) ∧ Reps K F xs vs := by
  cases d with
  | lst ys =>
    cases h
    obtain ⟨a, vs, rfl, e, r⟩ := b
    exact ⟨a, vs, rfl, .inl (.of e), r⟩
  | tup ys =>
    cases h
    cases b with
    | tup e r => exact ⟨_, _, rfl, .inr (.of (s _ _ e)), r⟩
  | scr ys =>
    cases h
    cases b with
    | scr e r => exact ⟨_, _, rfl, .inl (s.seq e), r⟩
  | _ => cases h

/-! len -/
def bLen : List D → Option (D × Bool)
  | [.lst xs] => some (.int xs.length, false)
  | [.tup xs] => some (.int xs.length, false)
  | [.scr xs] => some (.int xs.length, false)
  | [.dK ws] => some (.int ws.length, false)
  | [.dT ws] => some (.int ws.length, false)
  | [.str x] => if x.length ≤ sizeLine then some (.int x.length, false) else none
  | _ => none
theorem RepK.len {K : PySem.W.Frag} {F : Hp} : ∀ {ds : List (Key × D)} {vs : List (Key × V)}, RepK K F ds vs → ds.length = vs.length
  | _, _, .nil => rfl
  | _, _, .cons _ t => congrArg (· + 1) t.len
theorem RepT.len {K : PySem.W.Frag} {F : Hp} : ∀ {ds : List (List Key × D)} {vs : List (List Key × V)}, RepT K F ds vs → ds.length = vs.length
  | _, _, .nil => rfl
  | _, _, .cons _ t => congrArg (· + 1) t.len
theorem cr_len : ∃ r, CallR X (.builtin "len") r ∧ CROk X T pk bLen r := by
  refine ⟨_, (call_len.or call_lenD).or call_len_dT, fun B ρ F σ H ds d o vs Q rel e b k => ?_⟩
  unfold bLen at e
  split at e
  · cases e
    obtain ⟨v, rfl, c⟩ := brws1 b
    obtain ⟨a, ws, rfl, h1, h2⟩ := c
    refine .inl (.inl ⟨_, ws.length, rfl, (show _ ∨ _ from .inl ⟨ws, .of h1, rfl⟩), ?_⟩)
    rw [← h2.len]
    exact k _ H F rel (Same.refl F) (res_of (.int _))
  · cases e
    obtain ⟨v, rfl, c⟩ := brws1 b
    cases c with
    | @tup _ ws a h1 h2 =>
      refine .inl (.inl ⟨_, ws.length, rfl, (show _ ∨ _ from .inr ⟨ws, .of (rel.sub _ _ h1), rfl⟩), ?_⟩)
      rw [← h2.len]
      exact k _ H F rel (Same.refl F) (res_of (.int _))
  · cases e
    obtain ⟨v, rfl, c⟩ := brws1 b
    cases c with
    | @scr _ ws a h1 h2 =>
      refine .inl (.inl ⟨_, ws.length, rfl, (show _ ∨ _ from .inl ⟨ws, (show Same F H from rel.sub).seq h1, rfl⟩), ?_⟩)
      rw [← h2.len]
      exact k _ H F rel (Same.refl F) (res_of (.int _))
  · cases e
    obtain ⟨v, rfl, c⟩ := brws1 b
    obtain ⟨a, ws, rfl, h1, h2⟩ := c
    refine .inl (.inr ⟨a, ws, rfl, h1, ?_⟩)
    rw [← h2.len]
    exact k _ H F rel (Same.refl F) (res_of (.int _))
  · cases e
    obtain ⟨v, rfl, c⟩ := brws1 b
    obtain ⟨a, ws, rfl, h1, h2⟩ := c
    refine .inr ⟨a, ws, rfl, h1, ?_⟩
    rw [← h2.len]
    exact k _ H F rel (Same.refl F) (res_of (.int _))
  · split at e
    · rename_i hz
      cases e
      obtain ⟨v, rfl, c⟩ := brws1 b
      cases c
      exact .inl (.inl ⟨_, _, rfl, (show _ ∧ _ from ⟨hz, rfl⟩), k _ H F rel (Same.refl F) (res_of (.int _))⟩)
    · cases e
  · cases e

/-! sum, max, min -/
def bSum : List D → Option (D × Bool)
  | [.lst xs] => (dIs xs).map fun ns => (.int ns.sum, false)
  | _ => none
theorem cr_sumE (hc : X.calm = true) : CROk X T pk bSum (rSum X.K) := fun B ρ F σ H ds d o vs Q rel e b k => by
  unfold bSum at e
  split at e
  · obtain ⟨ns, h1, e⟩ := Option.map_eq_some_iff.mp e
    cases e
    obtain ⟨v, rfl, c⟩ := brws1 b
    rw [dIs_some h1] at c
    obtain ⟨a, ws, rfl, h2, h3⟩ := c
    rw [h3.toInts] at h2
    exact ⟨a, ns, rfl, .of h2, k _ H F rel (Same.refl F) (res_of (.int _))⟩
  · cases e
def maxZ : List Int → Option Int
  | [] => none
  | [x] => some x
  | x :: r => (maxZ r).map fun y => max x y
def minZ : List Int → Option Int
  | [] => none
  | [x] => some x
  | x :: r => (minZ r).map fun y => min x y
theorem maxZ_ok : ∀ {ns : List Int} {m : Int}, maxZ ns = some m → m ∈ ns ∧ ∀ y ∈ ns, y ≤ m
  | [x], m, h => by
    cases h
    exact ⟨List.mem_singleton.mpr rfl, fun y hy => by rw [List.mem_singleton.mp hy]; exact Int.le_refl _⟩
  | x :: z :: r, m, h => by
    obtain ⟨y, h1, h2⟩ := Option.map_eq_some_iff.mp h
    obtain ⟨h3, h4⟩ := maxZ_ok h1
    subst h2
    refine ⟨?_, fun w hw => ?_⟩
    · rcases Int.le_total x y with q | q
      · rw [Int.max_eq_right q]; exact List.mem_cons_of_mem _ h3
      · rw [Int.max_eq_left q]; exact List.mem_cons_self
    · rcases List.mem_cons.mp hw with q | q
      · rw [q]; exact Int.le_max_left ..
      · exact Int.le_trans (h4 w q) (Int.le_max_right ..)
theorem minZ_ok : ∀ {ns : List Int} {m : Int}, minZ ns = some m → m ∈ ns ∧ ∀ y ∈ ns, m ≤ y
  | [x], m, h => by
    cases h
    exact ⟨List.mem_singleton.mpr rfl, fun y hy => by rw [List.mem_singleton.mp hy]; exact Int.le_refl _⟩
  | x :: z :: r, m, h => by
    obtain ⟨y, h1, h2⟩ := Option.map_eq_some_iff.mp h
    obtain ⟨h3, h4⟩ := minZ_ok h1
    subst h2
    refine ⟨?_, fun w hw => ?_⟩
    · rcases Int.le_total x y with q | q
      · rw [Int.min_eq_left q]; exact List.mem_cons_self
      · rw [Int.min_eq_right q]; exact List.mem_cons_of_mem _ h3
    · rcases List.mem_cons.mp hw with q | q
      · rw [q]; exact Int.min_le_left ..
      · exact Int.le_trans (Int.min_le_right ..) (h4 w q)
theorem maxZ_pos {ns : List Int} {m : Int} (h : maxZ ns = some m) : 0 < ns.length := by
  cases ns with
  | nil => cases h
  | cons _ _ => exact Nat.succ_pos _
theorem minZ_pos {ns : List Int} {m : Int} (h : minZ ns = some m) : 0 < ns.length := by
  cases ns with
  | nil => cases h
  | cons _ _ => exact Nat.succ_pos _
def bMax : List D → Option (D × Bool)
  | [.lst xs] => (dIs xs).bind fun ns => (maxZ ns).map fun m => (.int m, false)
  | [.int i, .int j] => some (.int (if j > i then j else i), false)
  | _ => none
def bMin : List D → Option (D × Bool)
  | [.lst xs] => (dIs xs).bind fun ns => (minZ ns).map fun m => (.int m, false)
  | [.int i, .int j] => some (.int (if j < i then j else i), false)
  | _ => none
theorem cr_maxE (hc : X.calm = true) : ∃ r, CallR X (.builtin "max") r ∧ CROk X T pk bMax r := by
  refine ⟨_, (cr_max hc).or (call_max2 hc), fun B ρ F σ H ds d o vs Q rel e b k => ?_⟩
  unfold bMax at e
  split at e
  · obtain ⟨ns, h1, e⟩ := Option.bind_eq_some_iff.mp e
    obtain ⟨m, h4, e⟩ := Option.map_eq_some_iff.mp e
    cases e
    obtain ⟨v, rfl, c⟩ := brws1 b
    rw [dIs_some h1] at c
    obtain ⟨a, ws, rfl, h2, h3⟩ := c
    rw [h3.toInts] at h2
    obtain ⟨k1, k2⟩ := maxZ_ok h4
    refine .inl ⟨a, ns, rfl, .of h2, maxZ_pos h4, fun m' h5 h6 => ?_⟩
    rw [Int.le_antisymm (k2 _ h5) (h6 _ k1)]
    exact k _ H F rel (Same.refl F) (res_of (.int _))
  · cases e
    obtain ⟨v, w, rfl, b1, b2⟩ := brws2 b
    exact .inr ⟨_, _, by rw [rep_int b1, rep_int b2], k _ H F rel (Same.refl F) (res_of (.int _))⟩
  · cases e
theorem cr_minE (hc : X.calm = true) : ∃ r, CallR X (.builtin "min") r ∧ CROk X T pk bMin r := by
  refine ⟨_, (cr_min hc).or (call_min2 hc), fun B ρ F σ H ds d o vs Q rel e b k => ?_⟩
  unfold bMin at e
  split at e
  · obtain ⟨ns, h1, e⟩ := Option.bind_eq_some_iff.mp e
    obtain ⟨m, h4, e⟩ := Option.map_eq_some_iff.mp e
    cases e
    obtain ⟨v, rfl, c⟩ := brws1 b
    rw [dIs_some h1] at c
    obtain ⟨a, ws, rfl, h2, h3⟩ := c
    rw [h3.toInts] at h2
    obtain ⟨k1, k2⟩ := minZ_ok h4
    refine .inl ⟨a, ns, rfl, .of h2, minZ_pos h4, fun m' h5 h6 => ?_⟩
    rw [Int.le_antisymm (h6 _ k1) (k2 _ h5)]
    exact k _ H F rel (Same.refl F) (res_of (.int _))
  · cases e
    obtain ⟨v, w, rfl, b1, b2⟩ := brws2 b
    exact .inr ⟨_, _, by rw [rep_int b1, rep_int b2], k _ H F rel (Same.refl F) (res_of (.int _))⟩
  · cases e
/-! abs, int, list, tuple, any, all, sorted -/
def bAbs : List D → Option (D × Bool)
  | [.int i] => some (.int (if i < 0 then -i else i), false)
  | _ => none
theorem cr_absE : ∃ r, CallR X (.builtin "abs") r ∧ CROk X T pk bAbs r := by
  refine ⟨_, call_abs, fun B ρ F σ H ds d o vs Q rel e b k => ?_⟩
  unfold bAbs at e
  split at e
  · cases e
    obtain ⟨v, rfl, c⟩ := brws1 b
    exact ⟨_, by rw [rep_int c], k _ H F rel (Same.refl F) (res_of (.int _))⟩
  · cases e
def bInt : List D → Option (D × Bool)
  | [.int i] => some (.int i, false)
  | [.bl b] => some (.int (if b then 1 else 0), false)
  | _ => none
theorem cr_intE : ∃ r, CallR X (.type "int") r ∧ CROk X T pk bInt r := by
  refine ⟨_, call_int1, fun B ρ F σ H ds d o vs Q rel e b k => ?_⟩
  unfold bInt at e
  split at e
  · cases e
    obtain ⟨v, rfl, c⟩ := brws1 b
    exact .inl ⟨_, by rw [rep_int c], k _ H F rel (Same.refl F) (res_of (.int _))⟩
  · cases e
    obtain ⟨v, rfl, c⟩ := brws1 b
    exact .inr ⟨_, by rw [rep_bl c], k _ H F rel (Same.refl F) (res_of (.int _))⟩
  · cases e
def bList : List D → Option (D × Bool)
  | [d] => (seqD d).map fun xs => (.lst xs, true)
  | _ => none
theorem cr_listE : ∃ r, CallR X (.type "list") r ∧ CROk X T pk bList r := by
  refine ⟨_, call_list_of, fun B ρ F σ H ds d o vs Q rel e b k => ?_⟩
  unfold bList at e
  split at e
  · obtain ⟨xs, h1, e⟩ := Option.map_eq_some_iff.mp e
    cases e
    obtain ⟨v, rfl, c⟩ := brws1 b
    obtain ⟨a, ws, rfl, h2, h3⟩ := seq_brw rel.sub h1 c
    refine ⟨a, ws, rfl, h2, fun l nl => ?_⟩
    obtain ⟨r', t⟩ := rel.newOwn nl (d := .lst xs) ⟨_, upd_same, h3⟩
    exact k _ _ F r' (Same.refl F) (res_own t)
  · cases e
def bTuple : List D → Option (D × Bool)
  | [.lst xs] => some (.tup xs, false)
  | [.scr xs] => some (.tup xs, false)
  | [.tup xs] => some (.tup xs, false)
  | _ => none
theorem cr_tupleE : ∃ r, CallR X (.type "tuple") r ∧ CROk X T pk bTuple r := by
  refine ⟨_, call_tuple_of, fun B ρ F σ H ds d o vs Q rel e b k => ?_⟩
  have fromL : ∀ {xs : List D} {a : Addr} {ws : List V}, SqL X.K H a ws → Reps X.K F xs ws → d = .tup xs → o = false → vs = [.ref a] → (∃ p ys, vs = [.ref p] ∧ ((SqL X.K H p ys ∧ ∀ l, H l = none → Q (.ref l) (upd H l (.tup ys))) ∨ (SqT X.K H p ys ∧ Q (.ref p) H))) := by
    intro xs a ws h1 h2 e1 e2 e3
    subst e1 e2 e3
    refine ⟨a, ws, rfl, .inl ⟨h1, fun l nl => ?_⟩⟩
    obtain ⟨F2, r', s', rp⟩ := rel.newTup nl h2
    exact k _ _ F2 r' s' (res_of rp)
  unfold bTuple at e
  split at e
  · cases e
    obtain ⟨v, rfl, c⟩ := brws1 b
    obtain ⟨a, ws, rfl, h2, h3⟩ := c
    exact fromL (.of h2) h3 rfl rfl rfl
  · cases e
    obtain ⟨v, rfl, c⟩ := brws1 b
    cases c with
    | scr h2 h3 => exact fromL ((show Same F H from rel.sub).seq h2) h3 rfl rfl rfl
  · cases e
    obtain ⟨v, rfl, c⟩ := brws1 b
    cases c with
    | tup h2 h3 => exact ⟨_, _, rfl, .inr ⟨.of (rel.sub _ _ h2), k _ H F rel (Same.refl F) (res_of (.tup h2 h3))⟩⟩
  · cases e
def bAny : List D → Option (D × Bool)
  | [.lst xs] => (dBs xs).map fun bs => (.bl (bs.any id), false)
  | _ => none
def bAll : List D → Option (D × Bool)
  | [.lst xs] => (dBs xs).map fun bs => (.bl (bs.all id), false)
  | _ => none
theorem cr_anyE (hc : X.calm = true) : ∃ r, CallR X (.builtin "any") r ∧ CROk X T pk bAny r := by
  refine ⟨_, cr_any hc, fun B ρ F σ H ds d o vs Q rel e b k => ?_⟩
  unfold bAny at e
  split at e
  · obtain ⟨ns, h1, e⟩ := Option.map_eq_some_iff.mp e
    cases e
    obtain ⟨v, rfl, c⟩ := brws1 b
    rw [dBs_some h1] at c
    obtain ⟨a, ws, rfl, h2, h3⟩ := c
    rw [h3.toBls] at h2
    exact ⟨a, ns, rfl, .of h2, k _ H F rel (Same.refl F) (res_of (.bl _))⟩
  · cases e
theorem cr_allE (hc : X.calm = true) : ∃ r, CallR X (.builtin "all") r ∧ CROk X T pk bAll r := by
  refine ⟨_, cr_all hc, fun B ρ F σ H ds d o vs Q rel e b k => ?_⟩
  unfold bAll at e
  split at e
  · obtain ⟨ns, h1, e⟩ := Option.map_eq_some_iff.mp e
    cases e
    obtain ⟨v, rfl, c⟩ := brws1 b
    rw [dBs_some h1] at c
    obtain ⟨a, ws, rfl, h2, h3⟩ := c
    rw [h3.toBls] at h2
    exact ⟨a, ns, rfl, .of h2, k _ H F rel (Same.refl F) (res_of (.bl _))⟩
  · cases e
/-- whole numbers in order -/
def insZ (x : Int) : List Int → List Int
  | [] => [x]
  | y :: r => if x ≤ y then x :: y :: r else y :: insZ x r
def srtZ : List Int → List Int
  | [] => []
  | x :: r => insZ x (srtZ r)
theorem insZ_perm (x : Int) : ∀ l, (insZ x l).Perm (x :: l)
  | [] => List.Perm.refl _
  | y :: r => by
    unfold insZ
    split
    · exact List.Perm.refl _
    · exact ((insZ_perm x r).cons y).trans (List.Perm.swap x y r)
theorem srtZ_perm : ∀ l, (srtZ l).Perm l
  | [] => List.Perm.refl _
  | x :: r => (insZ_perm x (srtZ r)).trans ((srtZ_perm r).cons x)
theorem insZ_ord (x : Int) : ∀ {l : List Int}, l.Pairwise (· ≤ ·) → (insZ x l).Pairwise (· ≤ ·)
  | [], _ => List.pairwise_singleton _ _
  | y :: r, h => by
    obtain ⟨h1, h2⟩ := List.pairwise_cons.mp h
    unfold insZ
    split
    · rename_i q
      refine List.pairwise_cons.mpr ⟨fun z hz => ?_, h⟩
      rcases List.mem_cons.mp hz with e | e
      · rw [e]; exact q
      · exact Int.le_trans q (h1 z e)
    · rename_i q
      refine List.pairwise_cons.mpr ⟨fun z hz => ?_, insZ_ord x h2⟩
      rcases List.mem_cons.mp ((insZ_perm x r).mem_iff.mp hz) with e | e
      · rw [e]; exact Int.le_of_lt (Int.not_le.mp q)
      · exact h1 z e
theorem srtZ_ord : ∀ l, (srtZ l).Pairwise (· ≤ ·)
  | [] => List.Pairwise.nil
  | x :: r => insZ_ord x (srtZ_ord r)
theorem ord_unique : ∀ {l m : List Int}, l.Perm m → l.Pairwise (· ≤ ·) → m.Pairwise (· ≤ ·) → l = m
  | [], m, p, _, _ => (List.Perm.nil_eq p)
  | x :: r, m, p, h, h' => by
    cases m with
    | nil => exact absurd p.length_eq (by simp)
    | cons y t =>
      obtain ⟨a1, a2⟩ := List.pairwise_cons.mp h
      obtain ⟨b1, b2⟩ := List.pairwise_cons.mp h'
      have e : x = y := by
        have q1 : x ∈ y :: t := p.mem_iff.mp List.mem_cons_self
        have q2 : y ∈ x :: r := p.mem_iff.mpr List.mem_cons_self
        rcases List.mem_cons.mp q1 with e | e
        · exact e
        · rcases List.mem_cons.mp q2 with f | f
          · exact f.symm
          · exact Int.le_antisymm (a1 y f) (b1 x e)
      subst e
      rw [ord_unique (List.Perm.cons_inv p) a2 b2]
def bSort : List D → Option (D × Bool)
  | [.lst xs] => (dIs xs).map fun ns => (.lst ((srtZ ns).map .int), true)
  | _ => none
theorem cr_sortE : ∃ r, CallR X (.builtin "sorted") r ∧ CROk X T pk bSort r := by
  refine ⟨_, cr_sortedI, fun B ρ F σ H ds d o vs Q rel e b k => ?_⟩
  unfold bSort at e
  split at e
  · obtain ⟨ns, h1, e⟩ := Option.map_eq_some_iff.mp e
    cases e
    obtain ⟨v, rfl, c⟩ := brws1 b
    rw [dIs_some h1] at c
    obtain ⟨a, ws, rfl, h2, h3⟩ := c
    rw [h3.toInts] at h2
    refine ⟨a, ns, rfl, .of h2, fun ns' p pm pw np => ?_⟩
    rw [ord_unique (pm.trans (srtZ_perm ns).symm) pw (srtZ_ord ns)]
    obtain ⟨r', t⟩ := rel.newOwn np (d := .lst ((srtZ ns).map .int)) ⟨_, upd_same, Reps.ofInts _⟩
    exact k _ _ F r' (Same.refl F) (res_own t)
  · cases e
end
end Eng
set_option Elab.async false
set_option linter.all false
set_option maxRecDepth 100000
set_option maxHeartbeats 1000000
/-! EngP: isinstance; sorted(set(..)). -/
namespace Eng
open PySem PySem.Spec PyProof.Rows L2

inductive Ty where
  | list | tuple | str | bool | int
  deriving DecidableEq
def Ty.nm : Ty → String
  | .list => "list"
  | .tuple => "tuple"
  | .str => "str"
  | .bool => "bool"
  | .int => "int"
/-- is the datum of this kind -/
def isT : Ty → D → Bool
  | .list, .lst _ => true
  | .list, .scr _ => true
  | .tuple, .tup _ => true
  | .str, .str _ => true
  | .bool, .bl _ => true
  | .int, .int _ => true
  | .int, .bl _ => true
  | _, _ => false
def tyS : D → String
  | .non => "NoneType"
  | .bl _ => "bool"
  | .int _ => "int"
  | .str _ => "str"
  | .lst _ => "list"
  | .scr _ => "list"
  | .tup _ => "tuple"
  | .dK _ => "dict"
  | .dT _ => "dict"
  | .dF _ => "dict"
theorem kt_NoneType_list (K : PySem.W.Frag) : PySem.W.kitOne K (.type "NoneType") (.type "list") = some false := by kernel_rfl
theorem kt_NoneType_tuple (K : PySem.W.Frag) : PySem.W.kitOne K (.type "NoneType") (.type "tuple") = some false := by kernel_rfl
theorem kt_NoneType_str (K : PySem.W.Frag) : PySem.W.kitOne K (.type "NoneType") (.type "str") = some false := by kernel_rfl
theorem kt_NoneType_bool (K : PySem.W.Frag) : PySem.W.kitOne K (.type "NoneType") (.type "bool") = some false := by kernel_rfl
theorem kt_NoneType_int (K : PySem.W.Frag) : PySem.W.kitOne K (.type "NoneType") (.type "int") = some false := by kernel_rfl
theorem kt_bool_list (K : PySem.W.Frag) : PySem.W.kitOne K (.type "bool") (.type "list") = some false := by kernel_rfl
theorem kt_bool_tuple (K : PySem.W.Frag) : PySem.W.kitOne K (.type "bool") (.type "tuple") = some false := by kernel_rfl
theorem kt_bool_str (K : PySem.W.Frag) : PySem.W.kitOne K (.type "bool") (.type "str") = some false := by kernel_rfl
theorem kt_bool_bool (K : PySem.W.Frag) : PySem.W.kitOne K (.type "bool") (.type "bool") = some true := by kernel_rfl
theorem kt_bool_int (K : PySem.W.Frag) : PySem.W.kitOne K (.type "bool") (.type "int") = some true := by kernel_rfl
theorem kt_int_list (K : PySem.W.Frag) : PySem.W.kitOne K (.type "int") (.type "list") = some false := by kernel_rfl
theorem kt_int_tuple (K : PySem.W.Frag) : PySem.W.kitOne K (.type "int") (.type "tuple") = some false := by kernel_rfl
theorem kt_int_str (K : PySem.W.Frag) : PySem.W.kitOne K (.type "int") (.type "str") = some false := by kernel_rfl
theorem kt_int_bool (K : PySem.W.Frag) : PySem.W.kitOne K (.type "int") (.type "bool") = some false := by kernel_rfl
theorem kt_int_int (K : PySem.W.Frag) : PySem.W.kitOne K (.type "int") (.type "int") = some true := by kernel_rfl
theorem kt_str_list (K : PySem.W.Frag) : PySem.W.kitOne K (.type "str") (.type "list") = some false := by kernel_rfl
theorem kt_str_tuple (K : PySem.W.Frag) : PySem.W.kitOne K (.type "str") (.type "tuple") = some false := by kernel_rfl
theorem kt_str_str (K : PySem.W.Frag) : PySem.W.kitOne K (.type "str") (.type "str") = some true := by kernel_rfl
theorem kt_str_bool (K : PySem.W.Frag) : PySem.W.kitOne K (.type "str") (.type "bool") = some false := by kernel_rfl
theorem kt_str_int (K : PySem.W.Frag) : PySem.W.kitOne K (.type "str") (.type "int") = some false := by kernel_rfl
theorem kt_list_list (K : PySem.W.Frag) : PySem.W.kitOne K (.type "list") (.type "list") = some true := by kernel_rfl
theorem kt_list_tuple (K : PySem.W.Frag) : PySem.W.kitOne K (.type "list") (.type "tuple") = some false := by kernel_rfl
theorem kt_list_str (K : PySem.W.Frag) : PySem.W.kitOne K (.type "list") (.type "str") = some false := by kernel_rfl
theorem kt_list_bool (K : PySem.W.Frag) : PySem.W.kitOne K (.type "list") (.type "bool") = some false := by kernel_rfl
theorem kt_list_int (K : PySem.W.Frag) : PySem.W.kitOne K (.type "list") (.type "int") = some false := by kernel_rfl
theorem kt_tuple_list (K : PySem.W.Frag) : PySem.W.kitOne K (.type "tuple") (.type "list") = some false := by kernel_rfl
theorem kt_tuple_tuple (K : PySem.W.Frag) : PySem.W.kitOne K (.type "tuple") (.type "tuple") = some true := by kernel_rfl
theorem kt_tuple_str (K : PySem.W.Frag) : PySem.W.kitOne K (.type "tuple") (.type "str") = some false := by kernel_rfl
theorem kt_tuple_bool (K : PySem.W.Frag) : PySem.W.kitOne K (.type "tuple") (.type "bool") = some false := by kernel_rfl
theorem kt_tuple_int (K : PySem.W.Frag) : PySem.W.kitOne K (.type "tuple") (.type "int") = some false := by kernel_rfl
theorem kt_dict_list (K : PySem.W.Frag) : PySem.W.kitOne K (.type "dict") (.type "list") = some false := by kernel_rfl
theorem kt_dict_tuple (K : PySem.W.Frag) : PySem.W.kitOne K (.type "dict") (.type "tuple") = some false := by kernel_rfl
theorem kt_dict_str (K : PySem.W.Frag) : PySem.W.kitOne K (.type "dict") (.type "str") = some false := by kernel_rfl
theorem kt_dict_bool (K : PySem.W.Frag) : PySem.W.kitOne K (.type "dict") (.type "bool") = some false := by kernel_rfl
theorem kt_dict_int (K : PySem.W.Frag) : PySem.W.kitOne K (.type "dict") (.type "int") = some false := by kernel_rfl
theorem kit_eq (K : PySem.W.Frag) : ∀ (d : D) (y : Ty), PySem.W.kitOne K (.type (tyS d)) (.type y.nm) = some (isT y d)
  | .non, .list => kt_NoneType_list K
  | .non, .tuple => kt_NoneType_tuple K
  | .non, .str => kt_NoneType_str K
  | .non, .bool => kt_NoneType_bool K
  | .non, .int => kt_NoneType_int K
  | .bl _, .list => kt_bool_list K
  | .bl _, .tuple => kt_bool_tuple K
  | .bl _, .str => kt_bool_str K
  | .bl _, .bool => kt_bool_bool K
  | .bl _, .int => kt_bool_int K
  | .int _, .list => kt_int_list K
  | .int _, .tuple => kt_int_tuple K
  | .int _, .str => kt_int_str K
  | .int _, .bool => kt_int_bool K
  | .int _, .int => kt_int_int K
  | .str _, .list => kt_str_list K
  | .str _, .tuple => kt_str_tuple K
  | .str _, .str => kt_str_str K
  | .str _, .bool => kt_str_bool K
  | .str _, .int => kt_str_int K
  | .lst _, .list => kt_list_list K
  | .lst _, .tuple => kt_list_tuple K
  | .lst _, .str => kt_list_str K
  | .lst _, .bool => kt_list_bool K
  | .lst _, .int => kt_list_int K
  | .scr _, .list => kt_list_list K
  | .scr _, .tuple => kt_list_tuple K
  | .scr _, .str => kt_list_str K
  | .scr _, .bool => kt_list_bool K
  | .scr _, .int => kt_list_int K
  | .tup _, .list => kt_tuple_list K
  | .tup _, .tuple => kt_tuple_tuple K
  | .tup _, .str => kt_tuple_str K
  | .tup _, .bool => kt_tuple_bool K
  | .tup _, .int => kt_tuple_int K
  | .dK _, .list => kt_dict_list K
  | .dK _, .tuple => kt_dict_tuple K
  | .dK _, .str => kt_dict_str K
  | .dK _, .bool => kt_dict_bool K
  | .dK _, .int => kt_dict_int K
  | .dT _, .list => kt_dict_list K
  | .dT _, .tuple => kt_dict_tuple K
  | .dT _, .str => kt_dict_str K
  | .dT _, .bool => kt_dict_bool K
  | .dT _, .int => kt_dict_int K
  | .dF _, .list => kt_dict_list K
  | .dF _, .tuple => kt_dict_tuple K
  | .dF _, .str => kt_dict_str K
  | .dF _, .bool => kt_dict_bool K
  | .dF _, .int => kt_dict_int K
/-- a dict that is never written again -/
def isF : D → Bool
  | .dF _ => true
  | _ => false
section
variable {X : Cx} {T : List Addr} {pk : Pk}
theorem ty_brw {K : PySem.W.Frag} {F H : Hp} {d : D} {v : V} (s : Same F H) (b : Brw K F H d v) (nf : isF d = false) : TyX K H v (.type (tyS d)) := by
  cases d with
  | dF xs => cases nf
  | non => cases b; exact .base .non
  | bl y => cases b; exact .base (.bl y)
  | int i => cases b; exact .base (.int i)
  | str x => cases b; exact .base (.str x)
  | lst xs => obtain ⟨a, ws, rfl, h1, _⟩ := b; exact .base (.lst h1)
  | dK xs => obtain ⟨a, ws, rfl, h1, _⟩ := b; exact .base (.dK h1)
  | dT xs => obtain ⟨a, ws, rfl, h1, _⟩ := b; exact .base (.dT h1)
  | tup xs =>
    cases b with
    | tup h1 _ => exact .base (.tup (s _ _ h1))
  | scr xs =>
    cases b with
    | scr h1 _ =>
      rcases s.seq h1 with (h | ⟨o, h⟩) | ⟨o, _, _, h, h', _⟩
      · exact .base (.lst h)
      · exact .base (.frz h)
      · exact .kList h h'
theorem rel_ty {t : Ty} : RelV (.ty t.nm) (.type t.nm) := rfl
/-- isinstance(x, T) -/
def mIsi (y : Ty) (o : Opd) : ME := fun ρ => (ops [o] ρ).bind fun q => match q.1 with
  | [d] => if isF d = false then some ((.bl (isT y d), false), q.2) else none
  | _ => none
variable {e : Expr} {o : Opd} {x : Str} {p pos tp : Pos}
theorem se_isi (y : Ty) (so : SO X T pk e o) (hg : Gl X "isinstance") (hm : X.mg "isinstance" = none) (hgx : Gl X x) (hmx : X.mg x = none) (hv : bootBuiltins x = some (.type y.nm)) (hn : x ≠ "__name__" := by decide) (hd : (x == ("__debug__" : Str)) = false := by decide)
    (he : starEach [e, .Name x tp] X.env = (false, eval e X.env) :: starEach [.Name x tp] X.env := by rfl) (he2 : starEach [.Name x tp] X.env = (false, eval (.Name x tp) X.env) :: starEach [] X.env := by rfl) (hpl : (backTo pos (starEach [.Name x tp] X.env)).any (·.1) = false := by rfl) :
    SE X T pk (.Call (.Name "isinstance" p) [e, .Name x tp] [] pos) (mIsi y o) := by
  refine se_of (pe_callB call_isi hg hm PyProof.Rows.boot_isinstance (pa_cons so.po (pa_cons (pe_bltn hgx hmx hv (rel_ty (t := y)) hn hd) pa_nil he2) he) (by decide) (by decide) he hpl) fun σ H Q B ρ F d o' ρ' rel h k => ?_
  obtain ⟨⟨ds, ρ1⟩, h1, h2⟩ := Option.bind_eq_some_iff.mp h
  refine one_ok rel h1 fun da v H' F' eds rel' s b => ?_
  subst eds
  dsimp only at h2
  split at h2
  rotate_left
  · cases h2
  rename_i nf
  cases h2
  exact ⟨v, .ty y.nm, .type (tyS da), .type y.nm, _, rfl, .ty _, ty_brw rel'.sub b nf, kit_eq _ da y, k _ H' F' rel' s (res_of (.bl _))⟩
theorem Brw.grow {K : PySem.W.Frag} {F H H2 : Hp} {d : D} {v : V} (b : Brw K F H d v) (s : Same H H2) : Brw K F H2 d v := by
  cases d with
  | lst xs => obtain ⟨a, ws, h1, h2, h3⟩ := b; exact ⟨a, ws, h1, s _ _ h2, h3⟩
  | dK xs => obtain ⟨a, ws, h1, h2, h3⟩ := b; exact ⟨a, ws, h1, s _ _ h2, h3⟩
  | dT xs => obtain ⟨a, ws, h1, h2, h3⟩ := b; exact ⟨a, ws, h1, s _ _ h2, h3⟩
  | _ => exact b
/-- isinstance(x, (T, U)) -/
def mIsi2 (y z : Ty) (o : Opd) : ME := fun ρ => (ops [o] ρ).bind fun q => match q.1 with
  | [d] => if isF d = false then some ((.bl (isT y d || isT z d), false), q.2) else none
  | _ => none
theorem se_isi2 (y z : Ty) {x2 : Str} {tp2 tpos : Pos} {kt : Nat} (so : SO X T pk e o) (hg : Gl X "isinstance") (hm : X.mg "isinstance" = none) (hgx : Gl X x) (hmx : X.mg x = none) (hv : bootBuiltins x = some (.type y.nm)) (hgx2 : Gl X x2) (hmx2 : X.mg x2 = none) (hv2 : bootBuiltins x2 = some (.type z.nm))
    (hn : x ≠ "__name__" := by decide) (hd : (x == ("__debug__" : Str)) = false := by decide) (hn2 : x2 ≠ "__name__" := by decide) (hd2 : (x2 == ("__debug__" : Str)) = false := by decide)
    (he : starEach [e, .Tuple [.Name x tp, .Name x2 tp2] kt tpos] X.env = (false, eval e X.env) :: starEach [.Tuple [.Name x tp, .Name x2 tp2] kt tpos] X.env := by rfl)
    (he1 : starEach [.Tuple [.Name x tp, .Name x2 tp2] kt tpos] X.env = (false, eval (.Tuple [.Name x tp, .Name x2 tp2] kt tpos) X.env) :: starEach [] X.env := by rfl)
    (he2 : starEach [.Name x tp, .Name x2 tp2] X.env = (false, eval (.Name x tp) X.env) :: starEach [.Name x2 tp2] X.env := by rfl) (he3 : starEach [.Name x2 tp2] X.env = (false, eval (.Name x2 tp2) X.env) :: starEach [] X.env := by rfl)
    (hpl : (backTo pos (starEach [.Tuple [.Name x tp, .Name x2 tp2] kt tpos] X.env)).any (·.1) = false := by rfl) :
    SE X T pk (.Call (.Name "isinstance" p) [e, .Tuple [.Name x tp, .Name x2 tp2] kt tpos] [] pos) (mIsi2 y z o) := by
  refine se_of (pe_callB call_isiT hg hm PyProof.Rows.boot_isinstance (pa_cons so.po (pa_cons (pe_tup (pa_cons (pe_bltn hgx hmx hv (rel_ty (t := y)) hn hd) (pa_cons (pe_bltn hgx2 hmx2 hv2 (rel_ty (t := z)) hn2 hd2) pa_nil he3) he2)) pa_nil he1) he) (by decide) (by decide) he hpl) fun σ H Q B ρ F d o' ρ' rel h k => ?_
  obtain ⟨⟨ds, ρ1⟩, h1, h2⟩ := Option.bind_eq_some_iff.mp h
  refine one_ok rel h1 fun da v H' F' eds rel' s b => ?_
  subst eds
  dsimp only at h2
  split at h2
  rotate_left
  · cases h2
  rename_i nf
  cases h2
  refine ⟨by show 2 ≤ sizeLine; decide, fun t nt => ?_⟩
  have r2 := rel'.alloc (o := .tup [.ty y.nm, .ty z.nm]) nt
  have b2 : TyX X.K (upd H' t (.tup [.ty y.nm, .ty z.nm])) v (.type (tyS da)) := by
    refine ty_brw (F := F') r2.sub ?_ nf
    exact Brw.grow b fun q u e => by
      rw [upd_ne (fun z => by rw [z, nt] at e; cases e)]
      exact e
  refine ⟨v, t, [.ty y.nm, .ty z.nm], .type (tyS da), [.type y.nm, .type z.nm], (isT y da || isT z da), rfl, upd_same, .cons (.ty _) (.cons (.ty _) .nil), b2, ?_, k _ _ F' r2 s (res_of (.bl _))⟩
  unfold PySem.W.kitAny
  rw [kit_eq]
  cases h4 : isT y da with
  | true => rfl
  | false =>
    unfold PySem.W.kitAny
    rw [kit_eq]
    cases h5 : isT z da <;> rfl
end
end Eng
set_option Elab.async false
set_option linter.all false
set_option maxRecDepth 100000
set_option maxHeartbeats 4000000
/-! EngQ: set(list of ints), sorted(set(..)). -/
namespace Eng
open PySem PySem.Spec PyProof.Rows L2
abbrev nuSet (w : World) : Obj := { cls := .type "set", dict := none, data := .set #[] 0 (.fresh 0 0 (!w.params.followText "set-order")) }
section
variable {P0 : Program} {w : World} {A0 : Around} {E0 : Value → Shared → Prop} {z0 : Shared}
set_option maxHeartbeats 3200000 in
theorem call_set_lst {al : Addr} {itz : Array Value} (nz : List Int) {Q0 : Value → Shared → Prop} (hh : A0.handled = none) (ql : z0.heap.IsList al itz) (qit : IntsAre itz.toList nz) (hb : nz.length + 1 < scanBound)
    (h : ∀ (hp2 : Heap) (tk c : Nat), SetR w hp2 z0.heap.objs.size (fun j => decide (j ∈ nz)) c → c ≤ nz.length → (∀ b o, z0.heap.get? b = some o → hp2.get? b = some o) → Q0 (.ref z0.heap.objs.size) { z0 with heap := hp2, toks := tk }) :
    wpAny (model P0 w) A0 (call (.type "set") [.ref al]) Q0 E0 z0 := by
  have hiz : itz.size = nz.length := by
    have q := IntsAre.length qit
    rw [Array.length_toList] at q
    exact q
  obtain ⟨c, tl, gmro⟩ := F.called_set.mro
  have gmade := F.called_set.made
  have gsub := F.called_set.sub
  refine wpAny_call (codeAny_of_tree ?_)
  show wpAny _ _ (callAny (.type "set") _) _ _ _
  refine wpAny_pure ⟨Code.quiet_builtin _ (by decide +kernel), codeAny_builtin F.entry_type_call ?_⟩
  rw [Around.under_plain (weight_type_call_type "set" [.ref al] []) rfl]
  have g1 := F.called_set.notType
  have g2x := F.called_set.canCreate
  have gct := F.typeCall_set_1 (.ref al)
  repeat (any_goals (first | assumption | wp_step))

  refine codeAny_mono (code_set_led1 (.ref al) (E := E0) (Q₁ := fun ob1 sq1 => ob1 = .ref z0.heap.objs.size ∧ sq1 = { z0 with heap := z0.heap.push (nuSet w) }) ⟨rfl, rfl⟩) fun r sq1 kr => ?_
  cases r with
  | error e => exact kr
  | ok fq1 =>
    cases fq1 with
    | ret ob1 =>
      obtain ⟨rfl, rfl⟩ := kr
      have kS : (z0.heap.push (nuSet w)).get? z0.heap.objs.size = some (nuSet w) := Heap.get?_push_size _ rfl
      have kT : Shared.TypeIs { z0 with heap := z0.heap.push (nuSet w) } (.ref z0.heap.objs.size) "set" := ⟨_, kS, rfl⟩
      have kli := F.called_set.init.lookup
      have kbi := F.called_set.init.bind (.ref z0.heap.objs.size)
      repeat (any_goals (first | assumption | wp_step))

      refine codeAny_mono (codeAny_call_builtin (R := wants (fun r sq2 => r = .none ∧ ∃ hp2 tk c, sq2 = { z0 with heap := hp2, toks := tk } ∧ SetR w hp2 z0.heap.objs.size (fun j => decide (j ∈ nz)) c ∧ c ≤ nz.length ∧
          (∀ b o, z0.heap.get? b = some o → hp2.get? b = some o)) E0) F.called_set.init.plain F.entry_set_init (check_set_init_1 kT ?_)) fun rq2 sq2 hq2 => ?_
      · obtain ⟨ox, hox, hcx, nx, hdx⟩ := ql
        obtain ⟨xcls, xdict, xdata, xslots⟩ := ox
        simp only at hcx hdx
        subst hcx; subst hdx
        have hox2 : (z0.heap.push (nuSet w)).get? al = some { cls := .type "list", dict := xdict, data := .seq itz nx, slots := xslots } := Heap.get?_push_of_some _ hox
        have ksls := PySem.F.sub_list_set
        have kslf := PySem.F.sub_list_frozenset
        have kne : (Value.type "list" == Value.type "dict") = false := by decide
        have hx1 : (z0.heap.push (nuSet w)).IsList al itz := ⟨_, hox2, rfl, nx, rfl⟩
        unfold Builtin.«set.__init__» noKeywords Builtin.Frozenset.updateFrom
        generalize hpit : pyIter = pit
        wp_walk
        subst hpit

        refine wpAny_pyIter_list hx1 ?_
        refine wpAny_bind (wpAny_runValue ?_)
        have kls : al < z0.heap.objs.size := Heap.lt_size hox
        have kh3 : A0.in1.in1.in1.handled = none := by simp [hh]
        have kz1 : (z0.heap.push (nuSet w)).objs.size = z0.heap.objs.size + 1 := Heap.size_push ..
        have kneI : al ≠ (z0.heap.push (nuSet w)).objs.size := by
          rw [Heap.size_push]; exact Nat.ne_of_lt (Nat.lt_succ_of_lt kls)
        have kSf : z0.heap.objs.size ∉ [(z0.heap.push (nuSet w)).objs.size, al] := by
          rw [Heap.size_push]; simp only [List.mem_cons, List.mem_singleton, List.not_mem_nil, or_false, not_or]
          exact ⟨Nat.ne_of_lt (Nat.lt_succ_self _), Nat.ne_of_gt kls⟩
        have kval : ∀ (i : Nat) (v : Value), itz[i]? = some v → ∃ k t, nz[i]? = some k ∧ v = .int k t := fun i v qv => by
          have qi : i < nz.length := by rw [← hiz]; exact (Array.getElem?_eq_some_iff.mp qv).1
          obtain ⟨t, e⟩ := PyProof.Rows.IntsAre.int_at qit i v (by rw [Array.getElem?_toList]; exact qv)
          refine ⟨nz[i], t, List.getElem?_eq_getElem qi, ?_⟩
          rw [e, List.getD_eq_getElem?_getD, List.getElem?_eq_getElem qi] <;> rfl
        refine set_update_ints ((Walks.list kh3 _ al kneI itz).toS) z0.heap.objs.size
          kSf nz hiz hb kval (itz.size - 0) 0 _ (by omega) (Nat.zero_le _)
          ⟨⟨_, Heap.get?_push_size _ rfl, rfl, rfl⟩, (hx1.push _)⟩ ?hS0 ?hR
        case hS0 =>
          have kget : ((z0.heap.push (nuSet w)).push { cls := .type "list_iterator", data := .fields #[.ref al, .int 0 0] }).get? z0.heap.objs.size
              = some (nuSet w) := Heap.get?_push_of_some _ kS
          exact ⟨0, Nat.le_refl 0, setR_new_at kget⟩
        case hR =>
          intro s9 c2 km kc2 kS2
          obtain ⟨hp2, g9, d2, tk2, os2⟩ := s9
          have eg0 : g9 = z0.gens := km.gens
          have ed0 : d2 = z0.drawn := km.drawn
          have eo0 : os2 = z0.os := km.os
          subst eg0; subst ed0; subst eo0
          show wpAny _ _ _ _ _ _
          refine wpAny_pure ?_
          show wpAny _ _ (ret Value.none) _ _ _
          rw [hiz] at kc2
          refine wpAny_pure ⟨rfl, hp2, tk2, c2, rfl, kS2, kc2, fun b o e => ?_⟩
          have kb0 : b < z0.heap.objs.size := Heap.lt_size e
          have kb1 : b ≠ z0.heap.objs.size := Nat.ne_of_lt kb0
          have kb2 : b ≠ (z0.heap.push (nuSet w)).objs.size := by
            rw [Heap.size_push]; exact Nat.ne_of_lt (Nat.lt_succ_of_lt kb0)
          exact km.heap b o (by simp only [List.mem_cons, List.mem_singleton, List.not_mem_nil, or_false, not_or]; exact ⟨kb1, kb2⟩) (Heap.get?_push_of_some _ (Heap.get?_push_of_some _ e))

      · cases rq2 with
        | error e => exact hq2
        | ok fq2 =>
          cases fq2 with
          | ret r =>
            obtain ⟨rfl, hp2, tk, c2, rfl, kS2, kc2, hk2⟩ := hq2
            repeat (any_goals (first | assumption | wp_step))
            exact h _ _ _ kS2 kc2 hk2
          | _ => exact hq2.elim
    | _ => exact kr.elim

end
section
variable {X : Cx} {T : List Addr} {pk : Pk}
/-- set(xs), ints -/
def rSetL (K : PySem.W.Frag) (w : World) : List V → Hp → VK → Prop := fun vs H Q => ∃ (a : Addr) (ns : List Int), vs = [V.ref a] ∧ SqL K H a (ns.map V.int) ∧ ns.length + 1 < scanBound ∧
  ∀ (p : Addr) (c : Nat), c ≤ ns.length → H p = none → Q (.ref p) (upd H p (SetO w p (fun j => decide (j ∈ ns)) c))
theorem cr_setL (hc : X.calm = true) : CallR X (.type "set") (rSetL X.K X.w) := by
  intro pins s σ H vs us Q I r h
  obtain ⟨a, ns, rfl, hs, hb, q⟩ := h
  obtain ⟨its, rv, hl, _⟩ := I.list hs
  rw [Vals.ref1 r]
  refine call_set_lst ns (I.ok.hd hc) hl.isList rv.ints hb fun h' tk c R hcn k => ?_
  have I2 : Inv X pins σ (upd H s.heap.objs.size (SetO X.w s.heap.objs.size (fun j => decide (j ∈ ns)) c)) { s with heap := h', toks := tk } := I.laid k (Nat.le_refl _) (setO_new R)
  exact ⟨.ref _, _, I2, rfl, q _ c hcn (I.hok.fresh (Nat.le_refl _))⟩
/-- whole numbers in order, each once -/
def undup : List Int → List Int
  | [] => []
  | [x] => [x]
  | x :: y :: r => if x = y then undup (y :: r) else x :: undup (y :: r)
def sortU (ns : List Int) : List Int := undup (srtZ ns)
theorem undup_mem : ∀ (l : List Int) (k : Int), k ∈ undup l ↔ k ∈ l
  | [], k => Iff.rfl
  | [x], k => Iff.rfl
  | x :: y :: r, k => by
    unfold undup
    split
    · rename_i e
      rw [undup_mem (y :: r) k, List.mem_cons (a := k) (b := x), e]
      exact ⟨.inr, fun h => h.elim (fun h => h ▸ List.mem_cons_self) id⟩
    · rw [List.mem_cons, undup_mem (y :: r) k, List.mem_cons (a := k) (b := x)]
theorem undup_ord : ∀ {l : List Int}, l.Pairwise (· ≤ ·) → (undup l).Pairwise (· < ·)
  | [], _ => List.Pairwise.nil
  | [x], _ => List.pairwise_singleton _ _
  | x :: y :: r, h => by
    obtain ⟨h1, h2⟩ := List.pairwise_cons.mp h
    unfold undup
    split
    · exact undup_ord h2
    · rename_i ne
      refine List.pairwise_cons.mpr ⟨fun z hz => ?_, undup_ord h2⟩
      have hz := (undup_mem _ _).mp hz
      have a1 := h1 y List.mem_cons_self
      rcases List.mem_cons.mp hz with e | e
      · omega
      · have a2 := (List.pairwise_cons.mp h2).1 z e
        omega
theorem lt_le {l : List Int} (h : l.Pairwise (· < ·)) : l.Pairwise (· ≤ ·) := h.imp fun h => Int.le_of_lt h
theorem lt_nodup {l : List Int} (h : l.Pairwise (· < ·)) : l.Nodup := h.imp fun h => Int.ne_of_lt h
theorem sortU_unique {ns l : List Int} (h : l.Pairwise (· < ·)) (m : ∀ k, k ∈ l ↔ k ∈ ns) : l = sortU ns := by
  have h2 : (sortU ns).Pairwise (· < ·) := undup_ord (srtZ_ord ns)
  refine ord_unique ?_ (lt_le h) (lt_le h2)
  refine (List.perm_ext_iff_of_nodup (lt_nodup h) (lt_nodup h2)).mpr fun k => ?_
  rw [m k]
  unfold sortU
  rw [undup_mem, (srtZ_perm ns).mem_iff]
def bSortSet : List D → Option (D × Bool)
  | [.lst xs] => (dIs xs).bind fun ns => if ns.length < 64 then some (.lst ((sortU ns).map .int), true) else none
  | _ => none
variable {e : Expr} {o : Opd} {p p2 pos pos2 : Pos}
/-- sorted(set(xs)) -/
theorem se_sortSet (so : SO X T pk e o) (hc : X.calm = true) (hg : Gl X "sorted") (hm : X.mg "sorted" = none) (hg2 : Gl X "set") (hm2 : X.mg "set" = none)
    (he : starEach [e] X.env = (false, eval e X.env) :: starEach [] X.env := by rfl) (hpl : (backTo pos2 (starEach [] X.env)).any (·.1) = false := by rfl)
    (he2 : starEach [.Call (.Name "set" p2) [e] [] pos2] X.env = (false, eval (.Call (.Name "set" p2) [e] [] pos2) X.env) :: starEach [] X.env := by rfl) (hpl2 : (backTo pos (starEach [] X.env)).any (·.1) = false := by rfl) :
    SE X T pk (.Call (.Name "sorted" p) [.Call (.Name "set" p2) [e] [] pos2] [] pos) (mCal bSortSet [o]) := by
  refine se_of (pe_callB (cr_sortedSet hc) hg hm PyProof.Rows.boot_sorted (pa_cons (pe_callTy (cr_setL hc) hg2 hm2 PyProof.Rows.boot_set (pa_cons so.po pa_nil he) (by decide) (by decide) he hpl) pa_nil he2) (by decide) (by decide) he2 hpl2) fun σ H Q B ρ F d o' ρ' rel h k => ?_
  obtain ⟨⟨ds, ρ1⟩, h1, h2⟩ := Option.bind_eq_some_iff.mp h
  obtain ⟨⟨d2, o2⟩, h7, h3⟩ := Option.map_eq_some_iff.mp h2
  cases h3
  refine one_ok rel h1 fun da v H' F' eds rel' s b => ?_
  subst eds
  clear h2
  unfold bSortSet at h7
  split at h7
  · rename_i xs e1
    cases e1
    obtain ⟨ns, h4, h7⟩ := Option.bind_eq_some_iff.mp h7
    split at h7
    · rename_i h64
      cases h7
      rw [dIs_some h4] at b
      obtain ⟨a, ws, rfl, h5, h6⟩ := b
      rw [h6.toInts] at h5
      refine ⟨a, ns, rfl, .of h5, by unfold scanBound; omega, fun q c hc nq => ?_⟩
      refine ⟨q, _, c, rfl, upd_same, by omega, fun l r pw mm hl nr => ?_⟩
      have hl' : l = sortU ns := sortU_unique pw fun k => by rw [mm k]; simp
      subst hl'
      obtain ⟨r', t⟩ := (rel'.alloc (o := SetO X.w q (fun j => decide (j ∈ ns)) c) nq).newOwn nr (d := .lst ((sortU ns).map .int)) ⟨_, upd_same, Reps.ofInts _⟩
      exact k _ _ F' r' s (res_own t)
    · cases h7
  · cases h7
end
end Eng
set_option Elab.async false
set_option linter.all false
set_option maxRecDepth 100000
set_option maxHeartbeats 1000000
/-! EngR: x, y = e, f. -/
namespace Eng
open PySem PySem.Spec PyProof.Rows L2
section
variable {X : Cx} {T : List Addr} {pk : Pk}
theorem OwnAt.sameF {K : PySem.W.Frag} {F F2 H : Hp} {p : Addr} {d : D} (h : OwnAt K F H p d) (s : Same F F2) : OwnAt K F2 H p d := by
  cases d with
  | lst ds => obtain ⟨ws, z, r⟩ := h; exact ⟨ws, z, r.up s⟩
  | dK ds => obtain ⟨ws, z, r⟩ := h; exact ⟨ws, z, r.up s⟩
  | dT ds => obtain ⟨ws, z, r⟩ := h; exact ⟨ws, z, r.up s⟩
  | _ => exact h.elim
def mPar (m1 m2 : ME) : Env → Option (((D × Bool) × (D × Bool)) × Env) := fun ρ => (m1 ρ).bind fun q => (m2 q.2).map fun z => ((q.1, z.1), z.2)
def sPar (i j : Nat) (m1 m2 : ME) : MS := fun ρ => (mPar m1 m2 ρ).map fun q => (.nx, (q.2.set i (slotOf q.1.1)).set j (slotOf q.1.2))
/-- two values, neither another's -/
theorem par_ok {K : PySem.W.Frag} {m1 m2 : ME} {B : Bs} {ρ ρ' : Env} {F H : Hp} {σ : L2.St} {a b : D × Bool} {R : List V → Hp → Prop} (r : Rel K T pk B ρ F σ H) (e : mPar m1 m2 ρ = some ((a, b), ρ'))
    (k : ∀ v w H' F', Rel K T pk B ρ' F' σ H' → Same F F' → Res K B ρ' F' σ H' a.1 a.2 v → Res K B ρ' F' σ H' b.1 b.2 w → (a.2 = true → b.2 = true → v ≠ w) → R [v, w] H') : tVals K T pk [m1, m2] σ H R := by
  obtain ⟨⟨⟨d1, o1⟩, ρ1⟩, e1, e⟩ := Option.bind_eq_some_iff.mp e
  obtain ⟨⟨⟨d2, o2⟩, ρ2⟩, e2, e⟩ := Option.map_eq_some_iff.mp e
  cases e
  refine ⟨B, ρ, F, d1, o1, ρ1, r, e1, fun v H1 F1 r1 s1 t1 => ?_⟩
  cases o1 with
  | false =>
    refine ⟨B, ρ1, F1, d2, o2, ρ2, r1, e2, fun w H2 F2 r2 s2 t2 => ?_⟩
    have t1' : Rep K F1 d1 v := by simpa [Res] using t1
    exact k v w H2 F2 r2 (s1.trans s2) (res_of (t1'.up s2)) t2 (fun z => nomatch z)
  | true =>
    have t1' : Tmp K B ρ1 F1 σ H1 d1 v := by simpa [Res] using t1
    obtain ⟨p, rfl, nF, ow, io, ap⟩ := t1'
    obtain ⟨o, e3, nt⟩ := ow.ex
    obtain ⟨rb, bk⟩ := r1.rebase
    refine ⟨_, ρ1, F1, d2, o2, ρ2, rb, e2, fun w H2 F2 r2 s2 t2 => ?_⟩
    have aD := (Aside.then (o := o) ⟨e3, nF, ap⟩ nt r2 : Aside H2 F2 ρ2 σ p o)
    have r3 := bk _ _ _ _ r2
    have ow2 : OwnAt K F2 H2 p d1 := (OwnAt.sameF ow s2).at (aD.at_.trans e3.symm)
    have ne : ∀ q, w = .ref q → F2 q = none → o2 = true → p ≠ q := fun q ew _ eo z => by
      subst eo ew
      have t2' : Tmp K ⟨H1, F1, OwnA ρ1 σ, B.σp, B.Hl⟩ ρ2 F2 σ H2 d2 (.ref q) := by simpa [Res] using t2
      obtain ⟨q', z1, _, z3, z4, _⟩ := t2'
      cases z1
      rcases z4 with ⟨jj, dj, y1, y2⟩ | z4
      · exact ap jj dj y1 (by rw [z]; exact y2)
      · have z4 : H1 q = none := z4
        rw [← z, e3] at z4
        cases z4
    refine k _ w H2 F2 r3 (s1.trans s2) (res_own ⟨p, rfl, aD.notF, ow2, io, aD.apart⟩) ?_ (fun _ eo ev => ?_)
    · cases o2 with
      | false =>
        have t2' : Rep K F2 d2 w := by simpa [Res] using t2
        exact res_of t2'
      | true =>
        have t2' : Tmp K ⟨H1, F1, OwnA ρ1 σ, B.σp, B.Hl⟩ ρ2 F2 σ H2 d2 w := by simpa [Res] using t2
        obtain ⟨q, rfl, y1, y2, y3, y4⟩ := t2'
        refine res_own ⟨q, rfl, y1, y2, ?_, y4⟩
        obtain ⟨u, hu, _⟩ := y2.ex
        by_cases hq : B.io q
        · exact .inl hq
        · refine .inr ?_
          cases h0 : B.H0 q with
          | none => rfl
          | some u0 =>
            exfalso
            rcases y3 with ⟨jj, dj, z1, z2⟩ | z
            · obtain ⟨p', w1, _, _, w4⟩ := r1.own jj dj z1
              rw [z2] at w1; cases w1
              rcases w4 with w4 | w4
              · exact hq w4
              · rw [h0] at w4; cases w4
            · have z : H1 q = none := z
              have f := r1.frame q u0 h0 hq
              split at f
              · obtain ⟨u', f1, _⟩ := f; rw [z] at f1; cases f1
              · rw [z] at f; cases f
    · have eo : o2 = true := eo
      subst eo
      have t2' : Tmp K ⟨H1, F1, OwnA ρ1 σ, B.σp, B.Hl⟩ ρ2 F2 σ H2 d2 w := by simpa [Res] using t2
      obtain ⟨q, rfl, y1, _⟩ := t2'
      cases ev
      exact ne p rfl y1 rfl rfl
theorem setRes2 {K : PySem.W.Frag} {B : Bs} {ρ : Env} {F : Hp} {σ : L2.St} {H : Hp} {a b : D × Bool} {v w : V} {i j : Nat} (r : Rel K T pk B ρ F σ H) (hpi : pk.pin.contains i = false) (hli : pk.lock.contains i = false) (hpj : pk.pin.contains j = false) (hlj : pk.lock.contains j = false)
    (ta : Res K B ρ F σ H a.1 a.2 v) (tb : Res K B ρ F σ H b.1 b.2 w) (ne : a.2 = true → b.2 = true → v ≠ w) : Rel K T pk B ((ρ.set i (slotOf a)).set j (slotOf b)) F ((σ.set i (some v)).set j (some w)) H := by
  obtain ⟨d1, o1⟩ := a
  obtain ⟨d2, o2⟩ := b
  have r1 := setRes r hpi hli ta
  refine setRes r1 hpj hlj ?_
  cases o2 with
  | false =>
    have t2 : Rep K F d2 w := by simpa [Res] using tb
    exact res_of t2
  | true =>
    have t2 : Tmp K B ρ F σ H d2 w := by simpa [Res] using tb
    obtain ⟨q, rfl, y1, y2, y3, y4⟩ := t2
    refine res_own ⟨q, rfl, y1, y2, y3, fun jj dj h1 h2 => ?_⟩
    by_cases hj : i = jj
    · subst hj
      by_cases hi : i < ρ.length
      · rw [List.getElem?_set_self hi] at h1
        rw [List.getElem?_set_self (by rw [← r.len]; exact hi)] at h2
        cases h2
        cases o1 with
        | true => exact ne rfl rfl rfl
        | false => cases h1
      · rw [List.getElem?_eq_none (by simpa using hi)] at h1
        cases h1
    · rw [List.getElem?_set_ne hj] at h1 h2
      exact y4 jj dj h1 h2
variable {e f : Expr} {m1 m2 : ME} {pos : Pos}
/-- both plain locals: no tuple goes by -/
theorem ss_par (i j : Nat) {x y : Str} {px py pt : Pos} {kt k2 : Nat} {pt2 : Pos} (hc : X.calm = true) (hN : X.N.Nodup) (hi : X.N[i]? = some x) (hj : X.N[j]? = some y) (hx : X.env.scope.names.lookup x = some .local) (hy : X.env.scope.names.lookup y = some .local) (sv : SV X T pk [e, f] [m1, m2])
    (hw : swappedStores [.Tuple [.Name x px, .Name y py] kt pt] (.Tuple [e, f] k2 pt2) X.env = pure (some [x, y])) (hij : i ≠ j := by decide)
    (hs : swapsWithSole [.Tuple [.Name x px, .Name y py] kt pt] (.Tuple [e, f] k2 pt2) pos.line X.env = pure false := by rfl)
    (hpi : pk.pin.contains i = false := by rfl) (hli : pk.lock.contains i = false := by rfl) (hpj : pk.pin.contains j = false := by rfl) (hlj : pk.lock.contains j = false := by rfl) :
    SS X T pk (.Assign [.Tuple [.Name x px, .Name y py] kt pt] (.Tuple [e, f] k2 pt2) pos) (sPar i j m1 m2) := by
  refine ss_of (ps_par hc hN hi hj hij hx hy sv.pa hw hs) fun D σ H B ρ F fl ρ' r h k => ?_
  obtain ⟨⟨⟨a, b⟩, ρ1⟩, h1, h⟩ := Option.map_eq_some_iff.mp h
  cases h
  refine par_ok r h1 fun v w H' F' r' s' ta tb ne => ⟨v, w, rfl, ?_⟩
  exact k _ _ F' (setRes2 r' hpi hli hpj hlj ta tb ne) s'
/-- by way of a tuple -/
theorem ss_parT (i j : Nat) {x y : Str} {px py pt : Pos} {kt k2 : Nat} {pt2 : Pos} (hc : X.calm = true) (hN : X.N.Nodup) (hi : X.N[i]? = some x) (hj : X.N[j]? = some y) (hx : Loc X.env.scope x) (hy : Loc X.env.scope y) (sv : SV X T pk [e, f] [m1, m2])
    (hs : swapsWithSole [.Tuple [.Name x px, .Name y py] kt pt] (.Tuple [e, f] k2 pt2) pos.line X.env = pure false := by rfl) (hw : swappedStores [.Tuple [.Name x px, .Name y py] kt pt] (.Tuple [e, f] k2 pt2) X.env = pure none := by rfl)
    (hfx : X.fn x = true ∨ X.env.scope.names.lookup x = some .local := by first | exact .inl rfl | exact .inr rfl | assumption) (hfy : X.fn y = true ∨ X.env.scope.names.lookup y = some .local := by first | exact .inl rfl | exact .inr rfl | assumption)
    (hpi : pk.pin.contains i = false := by rfl) (hli : pk.lock.contains i = false := by rfl) (hpj : pk.pin.contains j = false := by rfl) (hlj : pk.lock.contains j = false := by rfl)
    (ha1 : (assignEach [.Name x px, .Name y py] X.env).map (·.2) = assign (.Name x px) X.env :: (assignEach [.Name y py] X.env).map (·.2) := by rfl) (ha2 : (assignEach [.Name y py] X.env).map (·.2) = assign (.Name y py) X.env :: (assignEach [] X.env).map (·.2) := by rfl)
    (hn : (assignEach [.Name x px, .Name y py] X.env).length = 2 := by rfl) (hst : (assignEach [.Name x px, .Name y py] X.env).findIdx? (·.1) = none := by rfl) (h1 : (assignEach [.Tuple [.Name x px, .Name y py] kt pt] X.env).map (·.2) = [assign (.Tuple [.Name x px, .Name y py] kt pt) X.env] := by rfl) :
    SS X T pk (.Assign [.Tuple [.Name x px, .Name y py] kt pt] (.Tuple [e, f] k2 pt2) pos) (sPar i j m1 m2) := by
  refine ss_of (ps_asg (pe_tup sv.pa) (pg_tup hc (pgs_cons (pg_name hN hi hx hfx) (pgs_cons (pg_name hN hj hy hfy) pgs_nil ha2) ha1) hn hst) hs hw h1) fun D σ H B ρ F fl ρ' r h k => ?_
  obtain ⟨⟨⟨a, b⟩, ρ1⟩, h1, h⟩ := Option.map_eq_some_iff.mp h
  cases h
  refine par_ok (R := fun xs H1 => xs.length ≤ sizeLine ∧ ∀ p, H1 p = none → gTup X.K 2 (gCons (gName i) (gCons (gName j) gNil)) (.ref p) σ (upd H1 p (.tup xs)) D.nx) r h1 fun v w H' F' r' s' ta tb ne => ⟨by show 2 ≤ sizeLine; decide, fun t nt => ⟨t, [v, w], rfl, .of upd_same, rfl, v, [w], rfl, ?_⟩⟩
  have up : ∀ {d : Eng.D} {o : Bool} {u : V}, Res X.K B ρ1 F' σ H' d o u → Res X.K B ρ1 F' σ (upd H' t (.tup [v, w])) d o u := fun {d o u} z => by
    cases o with
    | false =>
      have z : Rep X.K F' d u := by simpa [Res] using z
      exact res_of z
    | true =>
      have z : Tmp X.K B ρ1 F' σ H' d u := by simpa [Res] using z
      obtain ⟨q, rfl, y1, y2, y3, y4⟩ := z
      obtain ⟨o', e', _⟩ := y2.ex
      exact res_own ⟨q, rfl, y1, y2.at (upd_ne fun z => by rw [z, nt] at e'; cases e'), y3, y4⟩
  have r2 := setRes2 (i := i) (j := j) (r'.alloc (o := .tup [v, w]) nt) hpi hli hpj hlj (up ta) (up tb) ne
  exact ⟨w, [], rfl, rfl, k _ _ F' r2 s'⟩
end
end Eng
set_option Elab.async false
set_option linter.all false
set_option maxRecDepth 100000
set_option maxHeartbeats 1000000
/-! EngS: any of whole numbers. -/
namespace Eng
open PySem PySem.Spec PyProof.Rows L2
section
variable {X : Cx} {T : List Addr} {pk : Pk}
theorem truth_ints {prog : Program} {w : World} {A : Around} {ns : List Int} {its : List Value} (e : IntsAre its ns) :
    TruthOf prog w A (fun i v => its.toArray[i]? = some v) (fun i => (ns.map (· != 0)).getD i false) := fun i v s Q E hv hq => by
  have hv' : its[i]? = some v := by simpa using hv
  obtain ⟨t, e1⟩ := PyProof.Rows.IntsAre.int_at e i v hv'
  have hi : i < ns.length := by rw [← e.length]; exact (List.getElem?_eq_some_iff.mp hv').1
  rw [e1]
  refine PySem.P.truthy_int ?_
  have hq' : Q ((ns.map (· != 0)).getD i false) s := hq
  have : (ns.map (· != 0)).getD i false = (ns.getD i 0 != 0) := by
    rw [List.getD_eq_getElem?_getD, List.getD_eq_getElem?_getD, List.getElem?_map, List.getElem?_eq_getElem hi]; rfl
  rw [this] at hq'
  exact hq'
def rAnyZ (K : PySem.W.Frag) : List V → Hp → VK → Prop := fun vs H Q => ∃ (a : Addr) (ns : List Int), vs = [V.ref a] ∧ SqL K H a (ns.map V.int) ∧ Q (.bl (ns.any (· != 0))) H
theorem cr_anyZ (hc : X.calm = true) : CallR X (.builtin "any") (rAnyZ X.K) := by
  intro pins s σ H vs us Q I r h
  obtain ⟨a, ns, rfl, hs, q⟩ := h
  obtain ⟨its, rv, hl, _⟩ := I.list hs
  rw [Vals.ref1 r]
  have hb := rv.ints
  refine call_any_walk (iter_any hl.isList fun s₂ e2 st hne => ?_)
  subst e2
  refine ⟨_, _, _, _, _, _, _, rfl, Walks.list (A := X.A.in1) (I.ok.hd hc) _ a hne its.toArray, st, truth_ints hb, fun h' tk hk => ?_⟩
  refine ⟨.bl _, H, I.kept fun b o eo => hk b o (fun hm => ?_) (Heap.get?_push_of_some _ eo), ?_, q⟩
  · rcases List.mem_cons.mp hm with e1 | hm
    · exact absurd (e1 ▸ Heap.lt_size eo) (Nat.lt_irrefl _)
    · cases hm
  · show Value.bool _ = Value.bool _
    have e9 : its.toArray.size = (ns.map (· != 0)).length := by rw [List.size_toArray, hb.length, List.length_map]
    rw [e9, L2.any_range, List.any_map]; rfl
def bAnyZ : List D → Option (D × Bool)
  | [.lst xs] => (dIs xs).map fun ns => (.bl (ns.any (· != 0)), false)
  | _ => none
theorem cr_anyZE (hc : X.calm = true) : ∃ r, CallR X (.builtin "any") r ∧ CROk X T pk bAnyZ r := by
  refine ⟨_, cr_anyZ hc, fun B ρ F σ H ds d o vs Q rel e b k => ?_⟩
  unfold bAnyZ at e
  split at e
  · obtain ⟨ns, h1, e⟩ := Option.map_eq_some_iff.mp e
    cases e
    obtain ⟨v, rfl, c⟩ := brws1 b
    rw [dIs_some h1] at c
    obtain ⟨a, ws, rfl, h2, h3⟩ := c
    rw [h3.toInts] at h2
    exact ⟨a, ns, rfl, .of h2, k _ H F rel (Same.refl F) (res_of (.bl _))⟩
  · cases e
end
end Eng
set_option Elab.async false
set_option linter.all false
set_option maxRecDepth 100000
set_option maxHeartbeats 1000000
/-! EngT: the built-ins' rules; defs behind a head by facts; a law's end. -/
namespace Eng
open PySem PySem.Spec PyProof.Rows L2
section
variable {X : Cx} {T : List Addr} {pk : Pk} {e e2 : Expr} {o o2 : Opd} {p pos : Pos}
theorem se_len (hg : Gl X "len") (hm : X.mg "len" = none) (so : SO X T pk e o) (he : starEach [e] X.env = (false, eval e X.env) :: starEach [] X.env := by rfl) (hpl : (backTo pos (starEach [] X.env)).any (·.1) = false := by rfl) :
    SE X T pk (.Call (.Name "len" p) [e] [] pos) (mCal bLen [o]) := by
  obtain ⟨r, h1, h2⟩ := (cr_len (X := X) (T := T) (pk := pk))
  exact se_callB h1 h2 hg hm PySem.boot_len (sa_cons so sa_nil he) (by decide) (by decide) he hpl
theorem se_max (hc : X.calm = true) (hg : Gl X "max") (hm : X.mg "max" = none) (so : SO X T pk e o) (he : starEach [e] X.env = (false, eval e X.env) :: starEach [] X.env := by rfl) (hpl : (backTo pos (starEach [] X.env)).any (·.1) = false := by rfl) :
    SE X T pk (.Call (.Name "max" p) [e] [] pos) (mCal bMax [o]) := by
  obtain ⟨r, h1, h2⟩ := (cr_maxE (X := X) (T := T) (pk := pk) hc)
  exact se_callB h1 h2 hg hm PyProof.Rows.boot_max (sa_cons so sa_nil he) (by decide) (by decide) he hpl
theorem se_max2 (hc : X.calm = true) (hg : Gl X "max") (hm : X.mg "max" = none) (so : SO X T pk e o) (so2 : SO X T pk e2 o2) (he2 : starEach [e2] X.env = (false, eval e2 X.env) :: starEach [] X.env := by rfl) (he : starEach [e, e2] X.env = (false, eval e X.env) :: starEach [e2] X.env := by rfl) (hpl : (backTo pos (starEach [e2] X.env)).any (·.1) = false := by rfl) :
    SE X T pk (.Call (.Name "max" p) [e, e2] [] pos) (mCal bMax [o, o2]) := by
  obtain ⟨r, h1, h2⟩ := (cr_maxE (X := X) (T := T) (pk := pk) hc)
  exact se_callB h1 h2 hg hm PyProof.Rows.boot_max (sa_cons so (sa_cons so2 sa_nil he2) he) (by decide) (by decide) he hpl
theorem se_min (hc : X.calm = true) (hg : Gl X "min") (hm : X.mg "min" = none) (so : SO X T pk e o) (he : starEach [e] X.env = (false, eval e X.env) :: starEach [] X.env := by rfl) (hpl : (backTo pos (starEach [] X.env)).any (·.1) = false := by rfl) :
    SE X T pk (.Call (.Name "min" p) [e] [] pos) (mCal bMin [o]) := by
  obtain ⟨r, h1, h2⟩ := (cr_minE (X := X) (T := T) (pk := pk) hc)
  exact se_callB h1 h2 hg hm PyProof.Rows.boot_min (sa_cons so sa_nil he) (by decide) (by decide) he hpl
theorem se_min2 (hc : X.calm = true) (hg : Gl X "min") (hm : X.mg "min" = none) (so : SO X T pk e o) (so2 : SO X T pk e2 o2) (he2 : starEach [e2] X.env = (false, eval e2 X.env) :: starEach [] X.env := by rfl) (he : starEach [e, e2] X.env = (false, eval e X.env) :: starEach [e2] X.env := by rfl) (hpl : (backTo pos (starEach [e2] X.env)).any (·.1) = false := by rfl) :
    SE X T pk (.Call (.Name "min" p) [e, e2] [] pos) (mCal bMin [o, o2]) := by
  obtain ⟨r, h1, h2⟩ := (cr_minE (X := X) (T := T) (pk := pk) hc)
  exact se_callB h1 h2 hg hm PyProof.Rows.boot_min (sa_cons so (sa_cons so2 sa_nil he2) he) (by decide) (by decide) he hpl
theorem se_abs (hg : Gl X "abs") (hm : X.mg "abs" = none) (so : SO X T pk e o) (he : starEach [e] X.env = (false, eval e X.env) :: starEach [] X.env := by rfl) (hpl : (backTo pos (starEach [] X.env)).any (·.1) = false := by rfl) :
    SE X T pk (.Call (.Name "abs" p) [e] [] pos) (mCal bAbs [o]) := by
  obtain ⟨r, h1, h2⟩ := (cr_absE (X := X) (T := T) (pk := pk))
  exact se_callB h1 h2 hg hm PyProof.Rows.boot_abs (sa_cons so sa_nil he) (by decide) (by decide) he hpl
theorem se_intC (hg : Gl X "int") (hm : X.mg "int" = none) (so : SO X T pk e o) (he : starEach [e] X.env = (false, eval e X.env) :: starEach [] X.env := by rfl) (hpl : (backTo pos (starEach [] X.env)).any (·.1) = false := by rfl) :
    SE X T pk (.Call (.Name "int" p) [e] [] pos) (mCal bInt [o]) := by
  obtain ⟨r, h1, h2⟩ := (cr_intE (X := X) (T := T) (pk := pk))
  exact se_callTy h1 h2 hg hm PyProof.Rows.boot_int (sa_cons so sa_nil he) (by decide) (by decide) he hpl
theorem se_listC (hg : Gl X "list") (hm : X.mg "list" = none) (so : SO X T pk e o) (he : starEach [e] X.env = (false, eval e X.env) :: starEach [] X.env := by rfl) (hpl : (backTo pos (starEach [] X.env)).any (·.1) = false := by rfl) :
    SE X T pk (.Call (.Name "list" p) [e] [] pos) (mCal bList [o]) := by
  obtain ⟨r, h1, h2⟩ := (cr_listE (X := X) (T := T) (pk := pk))
  exact se_callTy h1 h2 hg hm PyProof.Rows.boot_list (sa_cons so sa_nil he) (by decide) (by decide) he hpl
theorem se_tupleC (hg : Gl X "tuple") (hm : X.mg "tuple" = none) (so : SO X T pk e o) (he : starEach [e] X.env = (false, eval e X.env) :: starEach [] X.env := by rfl) (hpl : (backTo pos (starEach [] X.env)).any (·.1) = false := by rfl) :
    SE X T pk (.Call (.Name "tuple" p) [e] [] pos) (mCal bTuple [o]) := by
  obtain ⟨r, h1, h2⟩ := (cr_tupleE (X := X) (T := T) (pk := pk))
  exact se_callTy h1 h2 hg hm PyProof.Rows.boot_tuple (sa_cons so sa_nil he) (by decide) (by decide) he hpl
theorem se_anyL (hc : X.calm = true) (hg : Gl X "any") (hm : X.mg "any" = none) (so : SO X T pk e o) (he : starEach [e] X.env = (false, eval e X.env) :: starEach [] X.env := by rfl) (hpl : (backTo pos (starEach [] X.env)).any (·.1) = false := by rfl) :
    SE X T pk (.Call (.Name "any" p) [e] [] pos) (mCal bAny [o]) := by
  obtain ⟨r, h1, h2⟩ := (cr_anyE (X := X) (T := T) (pk := pk) hc)
  exact se_callB h1 h2 hg hm PyProof.Rows.boot_any (sa_cons so sa_nil he) (by decide) (by decide) he hpl
theorem se_anyZ (hc : X.calm = true) (hg : Gl X "any") (hm : X.mg "any" = none) (so : SO X T pk e o) (he : starEach [e] X.env = (false, eval e X.env) :: starEach [] X.env := by rfl) (hpl : (backTo pos (starEach [] X.env)).any (·.1) = false := by rfl) :
    SE X T pk (.Call (.Name "any" p) [e] [] pos) (mCal bAnyZ [o]) := by
  obtain ⟨r, h1, h2⟩ := (cr_anyZE (X := X) (T := T) (pk := pk) hc)
  exact se_callB h1 h2 hg hm PyProof.Rows.boot_any (sa_cons so sa_nil he) (by decide) (by decide) he hpl
theorem se_allL (hc : X.calm = true) (hg : Gl X "all") (hm : X.mg "all" = none) (so : SO X T pk e o) (he : starEach [e] X.env = (false, eval e X.env) :: starEach [] X.env := by rfl) (hpl : (backTo pos (starEach [] X.env)).any (·.1) = false := by rfl) :
    SE X T pk (.Call (.Name "all" p) [e] [] pos) (mCal bAll [o]) := by
  obtain ⟨r, h1, h2⟩ := (cr_allE (X := X) (T := T) (pk := pk) hc)
  exact se_callB h1 h2 hg hm PyProof.Rows.boot_all (sa_cons so sa_nil he) (by decide) (by decide) he hpl
theorem se_sorted (hg : Gl X "sorted") (hm : X.mg "sorted" = none) (so : SO X T pk e o) (he : starEach [e] X.env = (false, eval e X.env) :: starEach [] X.env := by rfl) (hpl : (backTo pos (starEach [] X.env)).any (·.1) = false := by rfl) :
    SE X T pk (.Call (.Name "sorted" p) [e] [] pos) (mCal bSort [o]) := by
  obtain ⟨r, h1, h2⟩ := (cr_sortE (X := X) (T := T) (pk := pk))
  exact se_callB h1 h2 hg hm PyProof.Rows.boot_sorted (sa_cons so sa_nil he) (by decide) (by decide) he hpl
theorem cr_sumE' (hc : X.calm = true) : ∃ r, CallR X (.builtin "sum") r ∧ CROk X T pk bSum r := ⟨_, cr_sum hc, cr_sumE hc⟩
theorem se_sum (hc : X.calm = true) (hg : Gl X "sum") (hm : X.mg "sum" = none) (so : SO X T pk e o) (he : starEach [e] X.env = (false, eval e X.env) :: starEach [] X.env := by rfl) (hpl : (backTo pos (starEach [] X.env)).any (·.1) = false := by rfl) :
    SE X T pk (.Call (.Name "sum" p) [e] [] pos) (mCal bSum [o]) := by
  obtain ⟨r, h1, h2⟩ := (cr_sumE' (X := X) (T := T) (pk := pk) hc)
  exact se_callB h1 h2 hg hm PyProof.Rows.boot_sum (sa_cons so sa_nil he) (by decide) (by decide) he hpl
end

abbrev pLt (i j : Int) : Bool := decide (i < j)
abbrev pLe (i j : Int) : Bool := decide (i ≤ j)
abbrev pGt (i j : Int) : Bool := decide (i > j)
abbrev pGe (i j : Int) : Bool := decide (i ≥ j)
/-- what stands behind the top: the defs, what is not bound, the tables -/
structure Gd (K : PySem.W.Frag) (mg : Str → Option Value) (base : Heap) (ds : List (Str × Stmt)) (fr : List Str) (tf : List He.Defn) (T : List Addr) : Prop where
  def_ : ∀ (i : Nat) (q : Str × Stmt), ds[i]? = some q → ∃ fd, FunD K q.1 q.1 (defArgs q.2) (defBody q.2) (defScope q.2) [] [] (He.fAd K (q.1, none)) fd ∧ mg q.1 = some (.ref (He.fAd K (q.1, none)))
  free : ∀ (i : Nat) (x : Str), fr[i]? = some x → mg x = none
  tab : ∀ (i : Nat) (q : He.Defn), tf[i]? = some q → GxR.TabB base mg (He.cT K q).1 (He.cT K q).2 ∧ (He.cT K q).2 ∈ T
/-- a def of the top, as a datum -/
abbrev dOf (x : Str) (st : Stmt) : He.DefD := ⟨(x, none), x, x, defArgs st, defBody st, defScope st, [], []⟩
abbrev fnOf (ds : List (Str × Stmt)) : List He.DefD := ds.map fun q => dOf q.1 q.2
abbrev faOf (ds : List (Str × Stmt)) (fr : List Str) : List He.Fa := (ds.map fun q => He.Fa.glo q.1) ++ fr.map He.Fa.free
section
variable {P : Program} {w : World} {K : PySem.W.Frag} {mg : Str → Option Value} {base : Heap} {T : List Addr} {ds : List (Str × Stmt)} {fr : List Str} {tf : List He.Defn}
/-- the arguments of plain parameters -/
def Plain (x : Str) (st : Stmt) (ps : List Str) : Prop := ∀ (kV doc pm : Value) (an : Option Addr) (cdv ct : Value) (us : List Value), us.length = ps.length → bindArgs (PySem.W.fnOf x x (defArgs st) (defBody st) (defScope st) .none kV doc pm an cdv ct) ⟨us, []⟩ = pure (ps.zip us)
theorem fn_cal {x : Str} {st : Stmt} {N ps : List Str} {k : Nat} {io : List Nat} {b : MS} (S : FnScope N ps (defScope st))
    (hb : ∀ (f : Addr) (A : Around) (outer : List PySem.Env) (s : Shared) (H : Hp) (E : XK), Room k (A.deeper (envOfC x (defScope st) s.heap.objs.size f (.ref (He.cT K (x, none)).1))) →
      SB (cxOf CX0 P w K mg base N x (defScope st) f (.ref (He.cT K (x, none)).1) A outer s H E).nox T ⟨io, []⟩ (defBody st) b)
    {fd : FuncData} (F : FunD K x x (defArgs st) (defBody st) (defScope st) [] [] (He.fAd K (x, none)) fd) :
    FnOk P w K mg base CX0 (k + 1) (He.fAd K (x, none)) fd ps (spM K T ps.length (mFn io (N.length - ps.length) b)) := by
  obtain ⟨oc, od, dV, kV, doc, pm, an, cdv, ct, osl, e, lk, hcd, _, _⟩ := F.ex
  obtain ⟨c, ec⟩ := He.codeIn_ref hcd
  have e1 : He.codeOf K (x, none) = c := He.codeOf_eq lk (by rw [e]; exact ec)
  have e2 : (He.cT K (x, none)).1 = c := e1
  subst e
  subst ec
  refine fn_of lk hcd S (fun vs H Q E h => h.1) fun A outer s H vs Q E hr h => ?_
  have z := hb (He.fAd K (x, none)) A outer s H E (by rw [e2]; exact hr)
  rw [e2] at z
  refine ⟨_, PSs.nox z.pss, fn_reading (N := N) (n := ps.length) ?_ h⟩
  have := congrArg List.length S.pre
  rw [List.length_take] at this
  omega
theorem cal_of (G : Gd K mg base ds fr tf T) {x : Str} {st : Stmt} {N ps : List Str} {k : Nat} {io : List Nat} {b : MS} (i : Nat) (hi : ds[i]? = some (x, st)) (S : FnScope N ps (defScope st)) (hbd : Plain x st ps)
    (hb : ∀ (f : Addr) (A : Around) (outer : List PySem.Env) (s : Shared) (H : Hp) (E : XK), Room k (A.deeper (envOfC x (defScope st) s.heap.objs.size f (.ref (He.cT K (x, none)).1))) →
      SB (cxOf CX0 P w K mg base N x (defScope st) f (.ref (He.cT K (x, none)).1) A outer s H E).nox T ⟨io, []⟩ (defBody st) b) :
    Cal P w K mg base T (k + 1) x ps.length (mFn io (N.length - ps.length) b) := by
  obtain ⟨fd, F, hm⟩ := G.def_ i _ hi
  exact ⟨_, fd, ps, rfl, fn_cal S hb F, hm, F.kp, F.bindsN hbd⟩
/-- a def of which nothing is promised -/
theorem cal_none (G : Gd K mg base ds fr tf T) {x : Str} {st : Stmt} {k : Nat} (i : Nat) (hi : ds[i]? = some (x, st)) (ps : List Str) {n : Nat} (hn : ps.length = n) (hbd : Plain x st ps) : Cal P w K mg base T k x n fun _ => none := by
  obtain ⟨fd, F, hm⟩ := G.def_ i _ hi
  subst hn
  refine ⟨_, fd, ps, rfl, ⟨fun vs H Q E h => h.1, fun A outer s H args us vs Q E hr e0 hb r h => ?_⟩, hm, F.kp, F.bindsN hbd⟩
  obtain ⟨_, F', ss, ss', d, o, _, e, _⟩ := h
  cases e
/-- the script comes in -/
theorem spM_law {fm : FM} {cs : List (Addr × Addr)} {ss' : Env} {H : Hp} {a : Addr} {ns : List Int} (hT : ∀ q ∈ cs, H q.2 = some (.tbl #[])) (hS : SqL K H a (ns.map V.int)) (e : fm [.val (.scr (ns.map .int))] = some ((.bl true, false), ss')) :
    spM K (cs.map (·.2)) 1 fm [.ref a] H (fun v _ => v = .bl true) fun _ _ _ => False := by
  have key : ∀ b u, (fun b => match H b with | some u => if isTbl u = true then none else some u | none => none) b = some u → H b = some u ∧ isTbl u = false := fun b u q => by
    simp only at q
    split at q
    · rename_i u' h
      split at q
      · cases q
      · rename_i h2
        cases q
        exact ⟨h, by simpa using h2⟩
    · cases q
  have back : ∀ b u, H b = some u → isTbl u = false → (fun b => match H b with | some u => if isTbl u = true then none else some u | none => none) b = some u := fun b u h n => by
    simp only [h, n]
    rfl
  refine ⟨rfl, fun b => match H b with | some u => if isTbl u = true then none else some u | none => none, [.val (.scr (ns.map .int))], ss', .bl true, false, ⟨rfl, fun b u q => (key b u q).1, fun b u q => (key b u q).2, fun i d q => ?_, fun i d q => ?_, fun i j p d e q => ?_, fun P hP => ?_⟩, e, fun v H' F' r => ?_⟩
  · match i, q with
    | 0, q =>
      cases q
      refine ⟨.ref a, rfl, .scr ?_ (Reps.ofInts ns)⟩
      rcases hS with (h | ⟨o, h⟩) | h
      · exact .inl (.inl (back _ _ h rfl))
      · exact .inl (.inr ⟨o, back _ _ h rfl⟩)
      · exact .inr h
  · match i, q with
    | 0, q => cases q
  · match i, q with
    | 0, q => cases q
  · obtain ⟨q, hq, rfl⟩ := List.mem_map.mp hP
    exact ⟨#[], hT q hq, True.intro⟩
  · have h := r.res
    rw [if_neg Bool.false_ne_true] at h
    cases h
    rfl
/-- a law's end -/
theorem law_at {l : PySem.W.OpenLaw} {mm : FM} {h : Heap} {k n : Nat} {st : Stmt} {ex : PySem.W.Frag → Bool} {fAt : Addr} (c : He.SaysX (faOf ds fr) (fnOf ds) [] tf ex w h K) (KX : K.In h) (G0 : h.Ns mainGlobals mg) (i : Nat) (hi : ds[i]? = some (("law" : Str), st)) (hmg : mg "law" = some (.ref fAt))
    (hbd : Plain "law" st ["script"])
    (hC : ∀ (base : Heap), Gd K mg base ds fr tf ((tf.map (He.cT K)).map (·.2)) → ∀ fd, FunD K "law" "law" (defArgs st) (defBody st) (defScope st) [] [] (He.fAd K ("law", none)) fd →
      FnOk l.prog w K mg base CX0 k (He.fAd K ("law", none)) fd ["script"] (spM K ((tf.map (He.cT K)).map (·.2)) 1 mm))
    (hlaw : ∀ ns : List Int, ns.length ≤ n → ∃ ss', mm [.val (.scr (ns.map .int))] = some ((.bl true, false), ss')) :
    LamX.LawAtS l w K CX0 k n "script" mg fAt h := by
  have defs : ∀ (i : Nat) (q : Str × Stmt), ds[i]? = some q → ∃ fd, FunD K q.1 q.1 (defArgs q.2) (defBody q.2) (defScope q.2) [] [] (He.fAd K (q.1, none)) fd := fun i q hq => by
    obtain ⟨fd, F⟩ := c.t.d.def_ i (d := dOf q.1 q.2) (by rw [List.getElem?_map, hq]; rfl)
    exact ⟨fd, F⟩
  have glo : ∀ (i : Nat) (q : Str × Stmt), ds[i]? = some q → ∀ {b : Heap}, K.In b → b.Ns mainGlobals mg → mg q.1 = some (.ref (He.fAd K (q.1, none))) := fun i q hq b hb hn => by
    refine He.glo_ok hb hn (He.SaysD.facts c.t.d (f := .glo q.1) ?_)
    exact List.mem_append_left _ (List.mem_map.mpr ⟨q, List.mem_of_getElem? hq, rfl⟩)
  have fre : ∀ (i : Nat) (x : Str), fr[i]? = some x → ∀ {b : Heap}, K.In b → b.Ns mainGlobals mg → mg x = none := fun i x hx b hb hn => by
    refine He.free_ok hb hn (He.SaysD.facts c.t.d (f := .free x) ?_)
    exact List.mem_append_right _ (List.mem_map.mpr ⟨x, List.mem_of_getElem? hx, rfl⟩)
  obtain ⟨fd, F⟩ := defs i _ hi
  have e := hmg.symm.trans (glo i _ hi KX G0)
  cases e
  have bd := FunD.bindsA (ps := ["script"]) F hbd
  refine ⟨fd, tf.map (He.cT K), _, fun q hq => ?_, fun q hq => ?_, fun q hq => ?_, fun s u => bd s [u] rfl, fun H a ns hl _ hT hS => ?_, fun base hb hn hT => hC base ⟨fun j q hq => ?_, fun j x hx => fre j x hx hb hn, fun j q hq => ?_⟩ fd F⟩
  · obtain ⟨p, hp, rfl⟩ := List.mem_map.mp hq
    exact c.empty p hp
  · obtain ⟨p, hp, rfl⟩ := List.mem_map.mp hq
    exact c.out p hp
  · obtain ⟨p, hp, rfl⟩ := List.mem_map.mp hq
    exact PySem.W.codeHd_of_K KX (c.hd p hp)
  · obtain ⟨ss', em⟩ := hlaw ns hl
    exact spM_law hT hS em
  · obtain ⟨fd', F'⟩ := defs j q hq
    exact ⟨fd', F', glo j q hq hb hn⟩
  · have hm : He.cT K q ∈ tf.map (He.cT K) := List.mem_map.mpr ⟨q, List.mem_of_getElem? hq, rfl⟩
    have t := hT _ hm
    exact ⟨⟨t.code, t.bm, t.gP⟩, List.mem_map.mpr ⟨_, hm, rfl⟩⟩
end
end Eng
set_option Elab.async false
set_option linter.all false
set_option maxRecDepth 100000
/-! EngW: dict comprehensions {k: True for ..} over whole numbers, never written again. -/
namespace Eng
open PySem PySem.Spec PyProof.Rows L2
section
variable {X : Cx}
/-- a new dict is locked for good -/
def qFrz (Q : VK) : VK := fun v H => ∃ d u, v = .ref d ∧ H d = some u ∧ Mut (some u) ∧ ∀ od, Q v (upd H d (.frz od u))
theorem pe_dcF {kx vx tg iter : Expr} {ifs : List Expr} {scope : Scope} {own : List (Str × Nat)} {pos : Pos} {wi : TI} {g : TG} {tt : TT} {tk tv : TE} (hc : X.calm = true) (hN : X.N.Nodup) (hi : PI X tg iter wi) (ok : BlkOk X.N X.env.scope scope own)
    (hg : ∀ (s : Shared) (H : Hp) (C : Addr) (cl : List (Str × Addr)) (fp : List Addr), PG (X.blk s H scope (compEnvC scope cl C X.env) fp) tg g) (ht : ∀ (s : Shared) (H : Hp) (C : Addr) (cl : List (Str × Addr)) (fp : List Addr), PTs (X.blk s H scope (compEnvC scope cl C X.env) fp) ifs tt)
    (hk : ∀ (s : Shared) (H : Hp) (C : Addr) (cl : List (Str × Addr)) (fp : List Addr), PE (X.blk s H scope (compEnvC scope cl C X.env) fp) kx tk)
    (he : ∀ (s : Shared) (H : Hp) (C : Addr) (cl : List (Str × Addr)) (fp : List Addr), PE (X.blk s H scope (compEnvC scope cl C X.env) fp) vx tv) (hs : ∀ x, foldedSetIterable iter X.env x = pure x) :
    PE X (.DictComp kx vx [⟨tg, iter, ifs, 0⟩] scope pos) (fun σ H Q => tDc wi g tt tk tv (own.map (·.2)) σ H (qFrz Q)) := by
  refine ⟨fun pins s σ H Q I h => ?_⟩
  rw [arm_eval_DictComp]
  refine dc_core hc hN I hi ok hg ht hk he hs h fun D C s' m H' I' q hn f => ⟨m, hn, fun h'' sb => ?_⟩
  obtain ⟨d, u, ed, hd, mu, q⟩ := q
  obtain ⟨od, I2⟩ := I'.lock hd mu
  obtain ⟨f0, f1, f2, f3, f4, f5⟩ := f
  have f0' : (upd H' d (.frz od u)) C = none := by rw [upd_ne (fun e => by rw [e, hd] at f0; cases f0)]; exact f0
  exact ⟨.ref D, _, I2.turned (t' := s'.toks) (fun b o hb e => (sb.2 b hb).trans e) f0' f1 f3 f4 f5, rfl, q od⟩
theorem ps_setDcF {i : Nat} {y : Str} {py : Pos} {kx vx tg iter : Expr} {ifs : List Expr} {scope : Scope} {own : List (Str × Nat)} {pos spos : Pos} {wi : TI} {g : TG} {tt : TT} {tk tv : TE} (hc : X.calm = true) (hN : X.N.Nodup) (hy : X.N[i]? = some y) (hyl : X.env.scope.names.lookup y = some .local)
    (hsw : swapsWith (.DictComp kx vx [⟨tg, iter, ifs, 0⟩] scope pos) (some (.Name y py)) spos.line X.env = pure true) (hi : PI X tg iter wi) (ok : BlkOk X.N X.env.scope scope own)
    (hg : ∀ (s : Shared) (H : Hp) (C : Addr) (cl : List (Str × Addr)) (fp : List Addr), PG (X.blk s H scope (compEnvC scope cl C X.env) fp) tg g) (ht : ∀ (s : Shared) (H : Hp) (C : Addr) (cl : List (Str × Addr)) (fp : List Addr), PTs (X.blk s H scope (compEnvC scope cl C X.env) fp) ifs tt)
    (hk : ∀ (s : Shared) (H : Hp) (C : Addr) (cl : List (Str × Addr)) (fp : List Addr), PE (X.blk s H scope (compEnvC scope cl C X.env) fp) kx tk)
    (he : ∀ (s : Shared) (H : Hp) (C : Addr) (cl : List (Str × Addr)) (fp : List Addr), PE (X.blk s H scope (compEnvC scope cl C X.env) fp) vx tv) (hs : ∀ x, foldedSetIterable iter X.env x = pure x := by intro _; rfl) :
    PS X (.Assign [.Name y py] (.DictComp kx vx [⟨tg, iter, ifs, 0⟩] scope pos) spos) (tAsg (fun σ H Q => tDc wi g tt tk tv (own.map (·.2)) σ H (qFrz Q)) (gName i)) := by
  refine ⟨fun pins s σ H D I h => ?_⟩
  rw [exec_Assign_Name_used _ _ _ _ hsw]
  refine wpAny_bind (wpAny_standAt (wpAny_bind ?_))
  show wpAny _ X.A (do let _ ← comprehension (.DictComp kx vx [⟨tg, iter, ifs, 0⟩] scope pos) scope X.env (firstIterPos [⟨tg, iter, ifs, 0⟩] pos) newDict false (eval iter X.env) (some (assign (.Name y py) X.env))) _ _ s
  have h : tDc wi g tt tk tv (own.map (·.2)) σ H (qFrz fun x H1 => gName i x σ H1 D.nx) := h
  refine wpAny_bind (thn (dc_core (Qf := fun _ s' => SP X pins D .next s') hc hN I hi ok hg ht hk he hs h fun L C s' m H' I' q hn f => ?_) fun _ s' hq => wpAny_pure (wpAny_pure hq))
  obtain ⟨d, u, ed, hd, mu, q⟩ := q
  obtain ⟨od, I2'⟩ := I'.lock hd mu
  obtain ⟨f0, f1, f2, f3, f4, f5⟩ := f
  have f0' : (upd H' d (.frz od u)) C = none := by rw [upd_ne (fun e => by rw [e, hd] at f0; cases f0)]; exact f0
  show wpAny _ _ (assign (.Name y py) X.env (.ref L)) _ _ _
  refine wpAny_assign_Name (store_ok2 (v := V.ref L) I2' hN hy (.inl hyl) rfl (fun s2 I2 ⟨a, sb, ha⟩ => ?_) (.inr hyl))
  have haC : C ≠ a := by
    rcases ha with z | z
    · rw [z]; exact f1
    · exact fun e => f4 y a z e.symm
  refine ⟨m, hn.sameBut sb haC, fun h3 sb3 => ?_⟩
  exact ⟨_, _, I2.turned (t' := s2.toks) (fun b o hb e => (sb3.2 b hb).trans e) f0' f1 f3 f4 f5, q od⟩
end
/-- a key put in -/
def addK (ks : List Int) (i : Int) : List Int := if ks.contains i = true then ks else ks ++ [i]
theorem putK_keys {ws : List (Key × V)} {ks : List Int} (hk : ws.map (·.1) = ks.map Sum.inl) (i : Int) (v : V) : (putK ws (Sum.inl i) v).map (·.1) = (addK ks i).map Sum.inl := by
  have e : (ws.any fun kv => decide (kv.1 = Sum.inl i)) = ks.contains i := by rw [valV_any, valV_ks hk]
  unfold putK addK
  rw [e]
  cases h : ks.contains i with
  | true =>
    simp only [if_true, List.map_map]
    rw [← hk]
    apply List.map_congr_left
    intro kv _
    show (if kv.1 = Sum.inl i then (kv.1, v) else kv).1 = kv.1
    split <;> rfl
  | false =>
    simp only [Bool.false_eq_true, if_false, List.map_append, List.map_cons, List.map_nil, hk]
def dcM (vs : List Nat) (g : Tg) (c : MT) (mk mv : ME) : List D → List Int → Env → Option (List Int × Env)
  | [], ks, ρ => some (ks, ρ)
  | d :: r, ks, ρ => (tgS g d ρ).bind fun ρ1 => (c ρ1).bind fun q => if q.1 = true then (mk q.2).bind fun z => match z.1.1 with
      | .int i => (mv z.2).bind fun y => dcM vs g c mk mv r (addK ks i) (wipeE vs y.2)
      | _ => none
    else dcM vs g c mk mv r ks (wipeE vs q.2)
def mDc (vs : List Nat) (i : MI) (g : Tg) (c : MT) (mk mv : ME) : ME := fun ρ => (i ρ).bind fun q => if q.1.length ≤ sizeLine ∧ vs.all (fun v => notOwn q.2[v]?) = true then
    (dcM vs g c mk mv q.1 [] (wipeE vs q.2)).map fun w => ((.dF w.1, false), restE q.2 vs w.2) else none
section
variable {X : Cx} {T : List Addr} {pk : Pk} {m mk mv : ME}
theorem dc_ok {lk : Option Nat} {vs : List Nat} {mi : MI} {g : Tg} {c1 : MT} (hl : ∀ j, lk = some j → pk.lock.contains j = false) (hv : ∀ v ∈ vs, v ∉ (pkl pk lk).pin ∧ v ∉ (pkl pk lk).lock) {σ : L2.St} {H : Hp} {Q : VK} (h : tM X.K T pk (mDc vs mi g c1 mk mv) σ H Q) :
    tDc (tMI X.K T pk lk mi) (tTgC X.K T (pkl pk lk) vs g) (tMT X.K T (pkl pk lk) c1) (tM X.K T (pkl pk lk) mk) (tM X.K T (pkl pk lk) mv) vs σ H (qFrz Q) := by
  obtain ⟨B, ρ, F, d, o, ρ', r, h, k⟩ := h
  obtain ⟨⟨items, ρ1⟩, e1, h⟩ := Option.bind_eq_some_iff.mp h
  refine ⟨B, ρ, F, items, ρ1, r, e1, fun J H1 F1 r1 s1 it D nD => ?_⟩
  simp only at h
  split at h
  · rename_i hc
    obtain ⟨hz, hno⟩ := hc
    obtain ⟨⟨res, ρ2⟩, e2, h⟩ := Option.map_eq_some_iff.mp h
    cases h
    obtain ⟨B', b0, b1, r1', back⟩ := lock_of lk hl r1
    have ok := it B' r1'
    have hno' : ∀ v ∈ vs, notOwn ρ1[v]? = true := fun v hv' => by simpa using List.all_eq_true.mp hno v hv'
    have ioD : B'.io D ∨ B'.H0 D = none := r1'.fresh0 nD
    have hlk : ∀ i ∈ (pkl pk lk).lock, ∀ q u, B'.Hl i = some (q, u) → q ≠ D := fun i hi q u e z => by
      have := (r1'.lock i hi q u e).2.1
      rw [z, nD] at this; cases this
    refine ⟨fun i n H => n = items.length - i ∧ i ≤ items.length ∧ ∃ (ρ3 : Env) (F3 : Hp) (acc : List (Key × V)) (ac : List Int), Rel X.K T (pkl pk lk) B' ρ3 F3 (L2.wipe σ vs) H ∧ Same F1 F3 ∧ Aside H F3 ρ3 (L2.wipe σ vs) D (.dK acc) ∧ acc.map (·.1) = ac.map Sum.inl ∧ acc.length ≤ i ∧
      dcM vs g c1 mk mv (items.drop i) ac ρ3 = some (res, ρ2),
      ⟨_, rfl, Nat.zero_le _, wipeE vs ρ1, F1, [], [], (r1'.alloc nD).wipe vs hv, Same.refl F1, ⟨upd_same, r1.fnone nD, fun j dj hj hD => ?_⟩, rfl, Nat.le_refl _, by rw [List.drop_zero]; exact e2⟩, ?_⟩
    · obtain ⟨p, z1, _, z3, _⟩ := (r1'.wipe vs hv).own j dj hj
      rw [hD] at z1; cases z1
      obtain ⟨o', z4, _⟩ := z3.ex
      rw [nD] at z4; cases z4
    · rintro i n H3 ⟨rfl, hi, ρ3, F3, acc, ac, r3, s3, aD, rac, hac, e3⟩
      by_cases hlt : i < items.length
      · refine .inr ?_
        obtain ⟨g1, _⟩ := (ok B' ρ3 F3 _ H3 rfl r3 s3 i).1 items[i] (List.getElem?_eq_getElem hlt)
        rw [List.drop_eq_getElem_cons hlt] at e3
        simp only [dcM] at e3
        obtain ⟨ρ4, e4, e3⟩ := Option.bind_eq_some_iff.mp e3
        obtain ⟨⟨b5, ρ5⟩, e5, e3⟩ := Option.bind_eq_some_iff.mp e3
        obtain ⟨rb, bk⟩ := r3.rebase
        obtain ⟨_, g2⟩ := (ok ⟨H3, F3, OwnA ρ3 (L2.wipe σ vs), B'.σp, B'.Hl⟩ ρ3 F3 _ H3 rfl rb s3 i).1 items[i] (List.getElem?_eq_getElem hlt)
        refine ⟨g1, fun H' => ∃ (ρ6 : Env) (F6 : Hp) (acc' : List (Key × V)) (ac' : List Int), Rel X.K T (pkl pk lk) B' ρ6 F6 (L2.wipe σ vs) H' ∧ Same F1 F6 ∧ Aside H' F6 ρ6 (L2.wipe σ vs) D (.dK acc') ∧ acc'.map (·.1) = ac'.map Sum.inl ∧ acc'.length ≤ i + 1 ∧
            dcM vs g c1 mk mv (items.drop (i + 1)) ac' ρ6 = some (res, ρ2),
          fun H' ⟨ρ6, F6, acc', ac', q⟩ => ⟨items.length - (i + 1), by omega, rfl, hlt, ρ6, F6, acc', ac', q⟩, fun x H4 y => ?_⟩
        obtain ⟨F4, r4, s4, rp⟩ := g2 x H4 y
        refine ⟨_, ρ3, F4, items[i], ρ4, r4, rp, e4, fun σ4 r4' hw => ⟨hw.trans (wipe_idem fun _ h => h), _, ρ4, F4, b5, ρ5, r4', e5, fun H5 F5 r5 s5 => ?_⟩⟩
        have hw' : L2.wipe σ4 vs = L2.wipe σ vs := hw.trans (wipe_idem fun _ h => h)
        cases b5 with
        | false =>
          dsimp only
          rw [if_neg Bool.false_ne_true] at e3 ⊢
          have r6 := r5.wipe vs hv
          rw [hw'] at r6
          exact ⟨wipeE vs ρ5, F5, acc, ac, bk _ _ _ _ r6, (s3.trans s4).trans s5, aD.then rfl r6, rac, Nat.le_succ_of_le hac, e3⟩
        | true =>
          dsimp only
          rw [if_pos rfl] at e3 ⊢
          obtain ⟨⟨⟨d7, o7⟩, ρ7⟩, e7, e3⟩ := Option.bind_eq_some_iff.mp e3
          dsimp only at e3
          cases d7 with
          | int ki =>
            obtain ⟨⟨⟨d8, o8⟩, ρ8⟩, e8, e3⟩ := Option.bind_eq_some_iff.mp e3
            refine ⟨_, ρ5, F5, .int ki, o7, ρ7, r5, e7, fun v H7 F7 r7 s7 t7 => ?_⟩
            obtain ⟨F9, r9, s9, rp9⟩ := r7.freezeR t7
            cases rp9
            refine ⟨_, ρ7, F9, d8, o8, ρ8, r9, e8, fun v2 H8 F8 r8 s8 t8 => ?_⟩
            have r10 := r8.wipe vs hv
            rw [hw'] at r10
            have a10 := aD.then rfl r10
            refine ⟨acc, Sum.inl ki, rfl, a10.at_, Nat.lt_of_le_of_lt hac (Nat.lt_of_lt_of_le hlt hz), wipeE vs ρ8, F8, putK acc (Sum.inl ki) v2, addK ac ki, (bk _ _ _ _ r10).writeA a10 rfl ioD hlk, ((((s3.trans s4).trans s5).trans s7).trans s9).trans s8, ⟨upd_same, a10.notF, a10.apart⟩, putK_keys rac ki v2, ?_, e3⟩
            exact Nat.le_trans (length_putK _ _ _) (Nat.succ_le_succ hac)
          | _ => cases e3
      · have e0 : items.drop i = [] := List.drop_eq_nil_of_le (by omega)
        rw [e0] at e3
        cases e3
        refine .inl ⟨(ok B' _ F3 _ H3 rfl r3 s3 i).2 (by omega), D, .dK acc, rfl, aD.at_, trivial, fun od => ?_⟩
        have rr := Rel.rest r1 (back _ _ _ _ r3) s3 hno' (fun v hv' => ?_)
        · have ap : ∀ (j : Nat) (dj : Eng.D), (restE ρ1 vs ρ2)[j]? = some (Slot.own dj) → σ[j]? ≠ some (some (V.ref D)) := fun j dj hj => by
            rcases restE_get hj with ⟨q1, q2⟩ | ⟨q1, q2⟩
            · exfalso
              have z := hno' j q1
              rw [List.getD_eq_getElem?_getD] at q2
              cases q3 : ρ1[j]? with
              | none => rw [q3] at q2; cases q2
              | some s =>
                rw [q3] at q2 z
                have e' : Slot.own dj = s := q2
                subst e'
                cases z
            · have := aD.apart j dj q2
              rwa [wipe_at q1] at this
          have ioD' : B.io D ∨ B.H0 D = none := by rw [← b0, ← b1]; exact ioD
          have nlk : ∀ i ∈ pk.lock, ∀ q u, B.Hl i = some (q, u) → q ≠ D := fun i hi q u e z => by
            have := (r1.lock i hi q u e).2.1
            rw [z, nD] at this; cases this
          have aR : Aside H3 F3 (restE ρ1 vs ρ2) σ D (.dK acc) := ⟨aD.at_, aD.notF, ap⟩
          have rw1 := rr.writeA (o' := .frz od (.dK acc)) aR rfl ioD' nlk
          have sF : Same F3 (upd F3 D (.frz od (.dK acc))) := fun b u e => by rw [upd_ne (fun z => by rw [z, aD.notF] at e; cases e)]; exact e
          refine k (.ref D) _ (upd F3 D (.frz od (.dK acc))) (rw1.more sF (fun b u e => ?_) (fun b u e => ?_) (fun b u e => ?_) fun j dj p hj hp => ?_) ((s1.trans s3).trans sF) ?_
          · by_cases hb : b = D
            · subst hb; rw [upd_same] at e ⊢; exact e
            · rw [upd_ne hb] at e ⊢; exact rr.sub b u e
          · by_cases hb : b = D
            · subst hb; rw [upd_same] at e; cases e; rfl
            · rw [upd_ne hb] at e; exact rr.notab b u e
          · by_cases hb : b = D
            · subst hb; exact .inr ioD'
            · rw [upd_ne hb] at e; exact .inl e
          · by_cases hb : p = D
            · subst hb; exact absurd hp (ap j dj hj)
            · rw [upd_ne hb]
              obtain ⟨p', h1, h2, _⟩ := rr.own j dj hj
              rw [hp] at h1; cases h1
              exact h2
          · exact res_of (.dF upd_same rac)
        · have := hv v hv'
          cases lk with
          | none => exact this
          | some j => exact ⟨this.1, fun z => this.2 (List.mem_cons_of_mem _ z)⟩
  · cases h
variable {kx vx iter tg : Expr} {ifs : List Expr} {scope : Scope} {own : List (Str × Nat)} {mi : MI} {g : Tg} {c1 : MT} {pos : Pos}
theorem se_dc (lk : Option Nat) (hc : X.calm = true) (hN : X.N.Nodup) (hi : SI X T pk lk tg iter mi) (ok : BlkOk X.N X.env.scope scope own)
    (hg : ∀ (s : Shared) (H : Hp) (C : Addr) (cl : List (Str × Addr)) (fp : List Addr), SGC (X.blk s H scope (compEnvC scope cl C X.env) fp) T (pkl pk lk) (own.map (·.2)) tg g)
    (ht : ∀ (s : Shared) (H : Hp) (C : Addr) (cl : List (Str × Addr)) (fp : List Addr), STs (X.blk s H scope (compEnvC scope cl C X.env) fp) T (pkl pk lk) ifs c1)
    (hk : ∀ (s : Shared) (H : Hp) (C : Addr) (cl : List (Str × Addr)) (fp : List Addr), SE (X.blk s H scope (compEnvC scope cl C X.env) fp) T (pkl pk lk) kx mk)
    (he : ∀ (s : Shared) (H : Hp) (C : Addr) (cl : List (Str × Addr)) (fp : List Addr), SE (X.blk s H scope (compEnvC scope cl C X.env) fp) T (pkl pk lk) vx mv)
    (hl : ∀ j, lk = some j → pk.lock.contains j = false := by intro j e; cases e <;> rfl) (hv : vOk pk lk (own.map (·.2)) = true := by rfl) (hs : ∀ x, foldedSetIterable iter X.env x = pure x := by intro _; rfl) :
    SE X T pk (.DictComp kx vx [⟨tg, iter, ifs, 0⟩] scope pos) (mDc (own.map (·.2)) mi g c1 mk mv) :=
  ⟨pe_weak (pe_dcF hc hN hi.pi ok (fun s H C cl fp => (hg s H C cl fp).pg) (fun s H C cl fp => (ht s H C cl fp).pts) (fun s H C cl fp => (hk s H C cl fp).pe) (fun s H C cl fp => (he s H C cl fp).pe) hs) fun σ H Q h => dc_ok hl (vOk_of hv) h⟩
theorem ss_setDc (lk : Option Nat) (i : Nat) {y : Str} {py spos : Pos} (hc : X.calm = true) (hN : X.N.Nodup) (hy : X.N[i]? = some y) (hyl : X.env.scope.names.lookup y = some .local) (hsw : swapsWith (.DictComp kx vx [⟨tg, iter, ifs, 0⟩] scope pos) (some (.Name y py)) spos.line X.env = pure true)
    (hi : SI X T pk lk tg iter mi) (ok : BlkOk X.N X.env.scope scope own)
    (hg : ∀ (s : Shared) (H : Hp) (C : Addr) (cl : List (Str × Addr)) (fp : List Addr), SGC (X.blk s H scope (compEnvC scope cl C X.env) fp) T (pkl pk lk) (own.map (·.2)) tg g)
    (ht : ∀ (s : Shared) (H : Hp) (C : Addr) (cl : List (Str × Addr)) (fp : List Addr), STs (X.blk s H scope (compEnvC scope cl C X.env) fp) T (pkl pk lk) ifs c1)
    (hk : ∀ (s : Shared) (H : Hp) (C : Addr) (cl : List (Str × Addr)) (fp : List Addr), SE (X.blk s H scope (compEnvC scope cl C X.env) fp) T (pkl pk lk) kx mk)
    (he : ∀ (s : Shared) (H : Hp) (C : Addr) (cl : List (Str × Addr)) (fp : List Addr), SE (X.blk s H scope (compEnvC scope cl C X.env) fp) T (pkl pk lk) vx mv)
    (hl : ∀ j, lk = some j → pk.lock.contains j = false := by intro j e; cases e <;> rfl) (hv : vOk pk lk (own.map (·.2)) = true := by rfl) (hp : pk.pin.contains i = false := by rfl) (hkk : pk.lock.contains i = false := by rfl) (hs : ∀ x, foldedSetIterable iter X.env x = pure x := by intro _; rfl) :
    SS X T pk (.Assign [.Name y py] (.DictComp kx vx [⟨tg, iter, ifs, 0⟩] scope pos) spos) (sSet i (mDc (own.map (·.2)) mi g c1 mk mv)) :=
  ss_asg (ps_setDcF hc hN hy hyl hsw hi.pi ok (fun s H C cl fp => (hg s H C cl fp).pg) (fun s H C cl fp => (ht s H C cl fp).pts) (fun s H C cl fp => (hk s H C cl fp).pe) (fun s H C cl fp => (he s H C cl fp).pe) hs) (fun σ H Q h => dc_ok hl (vOk_of hv) h) hp hkk
theorem sw_trueD {gs : List Comprehension} {py : Pos} {y : Str} {l : Nat} {env : PySem.Env} (hk : env.scope.kind = .function) (hy : env.scope.names.lookup y = some .local) (hl : (py.line == pos.line) = true)
    (ha : (scope.names.any fun (n, k) => n == y && (k == .local || k == .cell)) = false) : swapsWith (.DictComp kx vx gs scope pos) (some (.Name y py)) l env = pure true := by
  have ky : env.kindOf y = some .local := hy
  have hb : env.blockKind = .function := by unfold PySem.Env.blockKind; rw [hk]; rfl
  unfold swapsWith
  simp only [hb, ky, ha, Expr.pos, hl]
  rfl
end
end Eng
set_option Elab.async false
set_option linter.all false
set_option maxRecDepth 100000
/-! EngZ: tuple(range(..)), list(range(..)) -/
namespace Eng
open PySem PySem.Spec PyProof.Rows L2
section
variable {X : Cx} {T : List Addr} {pk : Pk} {a b e : Expr} {oa ob : Opd} {pos p pos2 p2 : Pos}
instance (i j : Int) : Decidable (RgOk i j) := by unfold RgOk; exact inferInstance
def opTRg : D → D → Option (D × Bool)
  | .int i, .int j => if RgOk i j then some (.tup (rngD i (j - i).toNat), false) else none
  | _, _ => none
def opLRg : D → D → Option (D × Bool)
  | .int i, .int j => if RgOk i j then some (.lst (rngD i (j - i).toNat), true) else none
  | _, _ => none
def opTRg1 : D → Option (D × Bool)
  | .int j => if RgOk 0 j then some (.tup (rngD 0 j.toNat), false) else none
  | _ => none
def opLRg1 : D → Option (D × Bool)
  | .int j => if RgOk 0 j then some (.lst (rngD 0 j.toNat), true) else none
  | _ => none
theorem reps_ints {K : PySem.W.Frag} {F : Hp} (f : Nat → Int) : ∀ (l : List Nat), Reps K F (l.map fun i => D.int (f i)) (l.map fun i => V.int (f i))
  | [] => .nil
  | i :: r => .cons (.int _) (reps_ints f r)
theorem reps_rng {K : PySem.W.Frag} {F : Hp} (i j : Int) : Reps K F (rngD i (j - i).toNat) (rgV i j) := reps_ints (fun k => i + (k : Int)) _
theorem se_tupRg2 (hc : X.calm = true) (hg : Gl X "tuple") (hm : X.mg "tuple" = none) (hg2 : Gl X "range") (hm2 : X.mg "range" = none) (ha : SO X T pk a oa) (hb : SO X T pk b ob)
    (na : starEach [a, b] X.env = (false, eval a X.env) :: starEach [b] X.env := by rfl) (nb : starEach [b] X.env = (false, eval b X.env) :: starEach [] X.env := by rfl) (hp : (backTo pos2 (starEach [b] X.env)).any (·.1) = false := by rfl)
    (nc : starEach [Expr.Call (.Name "range" p2) [a, b] [] pos2] X.env = (false, eval (Expr.Call (.Name "range" p2) [a, b] [] pos2) X.env) :: starEach [] X.env := by rfl) :
    SE X T pk (.Call (.Name "tuple" p) [.Call (.Name "range" p2) [a, b] [] pos2] [] pos) (mBin opTRg oa ob) := by
  refine se_of (pe_tupRg hc hg hm (prg_2 hg2 hm2 ha.po hb.po na nb hp) nc) fun σ H Q B ρ F d o ρ' rel e k => ?_
  obtain ⟨⟨ds, ρ1⟩, h1, e⟩ := Option.bind_eq_some_iff.mp e
  refine two_ok rel h1 fun da db x y H' F' eds rel' s bx by' => ?_
  subst eds
  obtain ⟨⟨d', o'⟩, h2, e⟩ := Option.map_eq_some_iff.mp e
  cases e
  unfold opTRg at h2
  split at h2
  · rename_i i j _e
    split at h2
    · rename_i hr
      cases h2
      refine ⟨i, j, rep_int bx, rep_int by', hr, fun q nq => ?_⟩
      obtain ⟨F2, rel2, s2, t⟩ := rel'.newTup (p := q) nq (reps_rng i j)
      exact k _ _ F2 rel2 (s.trans s2) (res_of t)
    · cases h2
  · cases h2
theorem se_listRg2 (hc : X.calm = true) (hg : Gl X "list") (hm : X.mg "list" = none) (hg2 : Gl X "range") (hm2 : X.mg "range" = none) (ha : SO X T pk a oa) (hb : SO X T pk b ob)
    (na : starEach [a, b] X.env = (false, eval a X.env) :: starEach [b] X.env := by rfl) (nb : starEach [b] X.env = (false, eval b X.env) :: starEach [] X.env := by rfl) (hp : (backTo pos2 (starEach [b] X.env)).any (·.1) = false := by rfl)
    (nc : starEach [Expr.Call (.Name "range" p2) [a, b] [] pos2] X.env = (false, eval (Expr.Call (.Name "range" p2) [a, b] [] pos2) X.env) :: starEach [] X.env := by rfl) :
    SE X T pk (.Call (.Name "list" p) [.Call (.Name "range" p2) [a, b] [] pos2] [] pos) (mBin opLRg oa ob) := by
  refine se_of (pe_listRg hc hg hm (prg_2 hg2 hm2 ha.po hb.po na nb hp) nc) fun σ H Q B ρ F d o ρ' rel e k => ?_
  obtain ⟨⟨ds, ρ1⟩, h1, e⟩ := Option.bind_eq_some_iff.mp e
  refine two_ok rel h1 fun da db x y H' F' eds rel' s bx by' => ?_
  subst eds
  obtain ⟨⟨d', o'⟩, h2, e⟩ := Option.map_eq_some_iff.mp e
  cases e
  unfold opLRg at h2
  split at h2
  · rename_i i j _e
    split at h2
    · rename_i hr
      cases h2
      refine ⟨i, j, rep_int bx, rep_int by', hr, fun q nq => ?_⟩
      obtain ⟨rel2, t⟩ := rel'.newOwn (p := q) (o := .lst (rgV i j)) nq (d := .lst (rngD i (j - i).toNat)) ⟨_, upd_same, reps_rng i j⟩
      exact k _ _ F' rel2 s (res_own t)
    · cases h2
  · cases h2
theorem se_tupRg1 (hc : X.calm = true) (hg : Gl X "tuple") (hm : X.mg "tuple" = none) (hg2 : Gl X "range") (hm2 : X.mg "range" = none) (ha : SO X T pk a oa)
    (na : starEach [a] X.env = (false, eval a X.env) :: starEach [] X.env := by rfl)
    (nc : starEach [Expr.Call (.Name "range" p2) [a] [] pos2] X.env = (false, eval (Expr.Call (.Name "range" p2) [a] [] pos2) X.env) :: starEach [] X.env := by rfl) :
    SE X T pk (.Call (.Name "tuple" p) [.Call (.Name "range" p2) [a] [] pos2] [] pos) (mUn opTRg1 oa) := by
  refine se_of (pe_tupRg hc hg hm (prg_1 hg2 hm2 ha.po na) nc) fun σ H Q B ρ F d o ρ' rel e k => ?_
  obtain ⟨⟨ds, ρ1⟩, h1, e⟩ := Option.bind_eq_some_iff.mp e
  refine one_ok rel h1 fun da x H' F' eds rel' s bx => ?_
  subst eds
  obtain ⟨⟨d', o'⟩, h2, e⟩ := Option.map_eq_some_iff.mp e
  cases e
  unfold opTRg1 at h2
  split at h2
  · rename_i j _e
    split at h2
    · rename_i hr
      cases h2
      refine ⟨j, rep_int bx, hr, fun q nq => ?_⟩
      obtain ⟨F2, rel2, s2, t⟩ := rel'.newTup (p := q) nq (reps_rng 0 j)
      rw [Int.sub_zero] at t
      exact k _ _ F2 rel2 (s.trans s2) (res_of t)
    · cases h2
  · cases h2
theorem se_listRg1 (hc : X.calm = true) (hg : Gl X "list") (hm : X.mg "list" = none) (hg2 : Gl X "range") (hm2 : X.mg "range" = none) (ha : SO X T pk a oa)
    (na : starEach [a] X.env = (false, eval a X.env) :: starEach [] X.env := by rfl)
    (nc : starEach [Expr.Call (.Name "range" p2) [a] [] pos2] X.env = (false, eval (Expr.Call (.Name "range" p2) [a] [] pos2) X.env) :: starEach [] X.env := by rfl) :
    SE X T pk (.Call (.Name "list" p) [.Call (.Name "range" p2) [a] [] pos2] [] pos) (mUn opLRg1 oa) := by
  refine se_of (pe_listRg hc hg hm (prg_1 hg2 hm2 ha.po na) nc) fun σ H Q B ρ F d o ρ' rel e k => ?_
  obtain ⟨⟨ds, ρ1⟩, h1, e⟩ := Option.bind_eq_some_iff.mp e
  refine one_ok rel h1 fun da x H' F' eds rel' s bx => ?_
  subst eds
  obtain ⟨⟨d', o'⟩, h2, e⟩ := Option.map_eq_some_iff.mp e
  cases e
  unfold opLRg1 at h2
  split at h2
  · rename_i j _e
    split at h2
    · rename_i hr
      cases h2
      refine ⟨j, rep_int bx, hr, fun q nq => ?_⟩
      obtain ⟨rel2, t⟩ := rel'.newOwn (p := q) (o := .lst (rgV 0 j)) nq (d := .lst (rngD 0 (j - 0).toNat)) ⟨_, upd_same, reps_rng 0 j⟩
      rw [Int.sub_zero] at t
      exact k _ _ F' rel2 s (res_own t)
    · cases h2
  · cases h2
end
end Eng
set_option Elab.async false
set_option linter.all false
set_option maxRecDepth 100000
/-! the meanings of defs that many laws share; printed by gen.py -/
namespace Com
open PySem PySem.Spec PyProof.Rows L2 Eng
def fuel : Nat := 1000000
/-! _law_after -/
def b__law_after : MS :=
 sSeq (sSet 2 (mLst []))
 (sSeq (sFor (iNm 0) (.one 3)
 (sSeq (sSet 4 (mC (.bl false)))
 (sSeq (sFor (iR2 [.ex (mC (.int 1)), .ex (mBin opAdd (.ex (mBin opDiv (.nm 3) (.nm 1))) (.ex (mC (.int 1))))]) (.one 5)
 (sSeq (sSet 6 (mBin opSub (.nm 3) (.ex (mBin opMul (.nm 5) (.nm 1)))))
 (sSet 4 (mOrV (mVar 4) (mBin (opIn true) (.nm 6) (.nm 0))))))
 (sIf (mNot (mTr (.nm 4)))
 (sDo (mApp 2 (mVar 3)))
 (sNop)))))
 (sRet (mCal bTuple [.nm 2])))
def m__law_after : FM := mFn [] 5 b__law_after
/-! _law_table -/
def b__law_table : MS :=
 sSeq (sSet 3 (mBin opAdd (.ex (mLst [mC (.bl true)])) (.ex (mComp [2] (iR1 [.nm 1]) (.one 2) (mYes) (mC (.bl false))))))
 (sSeq (sFor (iR2 [.ex (mC (.int 1)), .ex (mBin opAdd (.nm 1) (.ex (mC (.int 1))))]) (.one 4)
 (sFor (iNm 0) (.one 5)
 (sIf (mAnd (mB (mBin opLe (.nm 5) (.nm 4))) (mTr (.ex (mBin opIx (.nm 3) (.ex (mBin opSub (.nm 4) (.nm 5)))))))
 (sSetIx 3 (.nm 4) (mC (.bl true)))
 (sNop))))
 (sRet (mMove 3)))
def m__law_table : FM := mFn [] 4 b__law_table
/-! _law_last -/
def b__law_last : MS :=
 sSeq (sSet 1 (mBin opMul (.ex (mBin opIx (.nm 0) (.ex (mC (.int 0))))) (.ex (mBin opIx (.nm 0) (.ex (mBin opSub (.ex (mCal bLen [.nm 0])) (.ex (mC (.int 1)))))))))
 (sSeq (sSet 2 (mCall m__law_table [.ln 0, .ln 1]))
 (sSeq (sSet 4 (mBin opAdd (.ex (mLst [mUn opNeg (.ex (mC (.int 1)))])) (.ex (mComp [3] (iR2 [.ex (mC (.int 1)), .ex (mBin opAdd (.nm 1) (.ex (mC (.int 1))))]) (.one 3) (mNot (mTr (.ex (mBin opIx (.nm 2) (.nm 3))))) (mVar 3)))))
 (sRet (mBin opIx (.nm 4) (.ex (mBin opSub (.ex (mCal bLen [.nm 4])) (.ex (mC (.int 1)))))))))
def m__law_last : FM := mFn [] 4 b__law_last
/-! _law_gaps -/
def b__law_gaps : MS :=
 sSeq (sSet 1 (mCall m__law_table [.ln 0, .ex (mCal bMax [.ex (mC (.int 0)), .ex (mCall m__law_last [.ln 0])])]))
 (sRet (mComp [2] (iR1 [.ex (mCal bLen [.nm 1])]) (.one 2) (mNot (mTr (.ex (mBin opIx (.nm 1) (.nm 2))))) (mVar 2)))
def m__law_gaps : FM := mFn [] 2 b__law_gaps
/-! sums_up_to -/
def b_sums_up_to : MS :=
 sSeq (sSet 2 (mBin opAdd (.ex (mLst [mC (.bl true)])) (.ex (mBin opMul (.ex (mLst [mC (.bl false)])) (.nm 1)))))
 (sSeq (sFor (iR2 [.ex (mC (.int 1)), .ex (mBin opAdd (.nm 1) (.ex (mC (.int 1))))]) (.one 3)
 (sSetIx 2 (.nm 3) (mGx [4] (iNm 0) (.one 4) (mYes) (mAndV (mBin opLe (.nm 4) (.nm 3)) (mBin opIx (.nm 2) (.ex (mBin opSub (.nm 3) (.nm 4))))) true)))
 (sRet (mMove 2)))
def m_sums_up_to : FM := mFn [] 3 b_sums_up_to
/-! least_of -/
def b_least_of : MS :=
 sSeq (sSet 1 (mLst []))
 (sSeq (sFor (iNm 0) (.one 2)
 (sIf (mOr (mNot (mTr (.nm 1))) (mNot (mTr (.ex (mBin opIx (.ex (mCall m_sums_up_to [.ln 1, .ln 2])) (.nm 2))))))
 (sDo (mApp 1 (mVar 2)))
 (sNop)))
 (sRet (mCal bTuple [.nm 1])))
def m_least_of : FM := mFn [] 2 b_least_of
/-! least_generators -/
def b_least_generators : MS :=
 sRet (mCall m_least_of [.ln 0])
def m_least_generators : FM := mFn [] 0 b_least_generators
/-! next_one -/
def b_next_one : MS :=
 sSeq (sSet 1 (mBin opIx (.nm 0) (.ex (mC (.int 0)))))
 (sRet (mCall m_least_generators [.ex (mCal bTuple [.ex (mCal bSortSet [.ex (mBin opAdd (.ex (mLst [mVar 1])) (.ex (mComp [2] (iEx (mSlL (.nm 0) (.ex (mC (.int 1))))) (.one 2) (mYes) (mBin opSub (.nm 2) (.nm 1)))))])])]))
def m_next_one : FM := mFn [] 2 b_next_one
/-! multiplicities -/
def b_multiplicities : MS :=
 sSeq (sSet 1 (mLst []))
 (sSeq (whileM (mB (mBin opGt (.ex (mBin opIx (.nm 0) (.ex (mC (.int 0))))) (.ex (mC (.int 1)))))
 (sSeq (sDo (mApp 1 (mBin opIx (.nm 0) (.ex (mC (.int 0))))))
 (sSet 0 (mCall m_next_one [.ln 0]))) fuel)
 (sRet (mBin opAdd (.ex (mCal bTuple [.nm 1])) (.ex (mTup [mC (.int 1)])))))
def m_multiplicities : FM := mFn [] 1 b_multiplicities
/-! sums_of_row -/
def b_sums_of_row : MS :=
 sSeq (sSet 1 (mLst [mC (.int 0)]))
 (sSeq (sFor (iNm 0) (.one 2)
 (sDo (mApp 1 (mBin opAdd (.ex (mBin opIx (.nm 1) (.ex (mUn opNeg (.ex (mC (.int 1))))))) (.nm 2)))))
 (sRet (mMove 1)))
def m_sums_of_row : FM := mFn [] 2 b_sums_of_row
/-! semigroup_of -/
def b_semigroup_of : MS :=
 sSeq (sSet 1 (mSlL (.ex (mCall m_sums_of_row [.ln 0])) (.ex (mC (.int 1)))))
 (sSeq (sSet 2 (mBin opIx (.nm 1) (.ex (mUn opNeg (.ex (mC (.int 1)))))))
 (sRet (mCall m_least_generators [.ex (mBin opAdd (.ex (mCal bTuple [.nm 1])) (.ex (mBin opTRg (.ex (mBin opAdd (.nm 2) (.ex (mC (.int 1))))) (.ex (mBin opAdd (.ex (mBin opAdd (.nm 2) (.ex (mBin opIx (.nm 0) (.ex (mC (.int 0))))))) (.ex (mC (.int 1))))))))])))
def m_semigroup_of : FM := mFn [] 2 b_semigroup_of
/-! arf_closure -/
def b_arf_closure : MS :=
 sRet (mCall m_semigroup_of [.ex (mCall m_multiplicities [.ln 0])])
def m_arf_closure : FM := mFn [] 0 b_arf_closure
/-! least_place -/
def b_least_place : MS :=
 sSeq (sSet 2 (mC .non))
 (sSeq (sFor (iEnN 0) (.many [3, 4])
 (sIf (mAnd (mB (mUn opNotN (.nm 4))) (mAnd (mNot (mTr (.ex (mBin opIx (.nm 1) (.nm 3))))) (mOr (mB (mUn opIsN (.nm 2))) (mB (mBin opLt (.nm 4) (.ex (mBin opIx (.nm 0) (.nm 2))))))))
 (sSet 2 (mVar 3))
 (sNop)))
 (sRet (mMove 2)))
def m_least_place : FM := mFn [] 3 b_least_place
/-! remainders -/
def b_remainders : MS :=
 sSeq (sSet 2 (mBin opMul (.ex (mLst [mC .non])) (.nm 1)))
 (sSeq (sSetIx 2 (.ex (mC (.int 0))) (mC (.int 0)))
 (sSeq (sSet 3 (mBin opMul (.ex (mLst [mC (.bl false)])) (.nm 1)))
 (sSeq (sSet 4 (mC (.int 0)))
 (sSeq (whileM (mB (mUn opNotN (.nm 4)))
 (sSeq (sSetIx 3 (.nm 4) (mC (.bl true)))
 (sSeq (sFor (iNm 0) (.one 5)
 (sSeq (sSet 6 (mBin opMod (.ex (mBin opAdd (.nm 4) (.nm 5))) (.nm 1)))
 (sIf (mOr (mB (mUn opIsN (.ex (mBin opIx (.nm 2) (.nm 6))))) (mB (mBin opLt (.ex (mBin opAdd (.ex (mBin opIx (.nm 2) (.nm 4))) (.nm 5))) (.ex (mBin opIx (.nm 2) (.nm 6))))))
 (sSetIx 2 (.nm 6) (mBin opAdd (.ex (mBin opIx (.nm 2) (.nm 4))) (.nm 5)))
 (sNop))))
 (sSet 4 (mCall m_least_place [.ln 2, .ln 3])))) fuel)
 (sRet (mMove 2))))))
def m_remainders : FM := mFn [] 5 b_remainders
/-! table_of -/
def b_table_of : MS :=
 sSeq (sSet 2 (mBin opMul (.ex (mLst [mC (.bl false)])) (.ex (mBin opAdd (.nm 1) (.ex (mC (.int 1)))))))
 (sSeq (sSetIx 2 (.ex (mC (.int 0))) (mC (.bl true)))
 (sSeq (sFor (iR2 [.ex (mC (.int 1)), .ex (mBin opAdd (.nm 1) (.ex (mC (.int 1))))]) (.one 3)
 (sSetIx 2 (.nm 3) (mCal bAny [.ex (mComp [4] (iNm 0) (.one 4) (mYes) (mAndV (mBin opGe (.nm 3) (.nm 4)) (mBin opIx (.nm 2) (.ex (mBin opSub (.nm 3) (.nm 4))))))])))
 (sRet (mMove 2))))
def m_table_of : FM := mFn [] 3 b_table_of
/-! coordinates -/
def b_coordinates : MS :=
 sSeq (sSet 1 (mBin opIx (.nm 0) (.ex (mC (.int 0)))))
 (sRet (mCal bTuple [.ex (mComp [2] (iEx (mSlL (.ex (mCall m_remainders [.ln 0, .ex (mBin opIx (.nm 0) (.ex (mC (.int 0))))])) (.ex (mC (.int 1))))) (.one 2) (mYes) (mBin opDiv (.nm 2) (.nm 1)))]))
def m_coordinates : FM := mFn [] 2 b_coordinates
/-! is_sum -/
def b_is_sum : MS :=
 sRet (mBin opIx (.ex (mCall m_table_of [.ln 0, .ln 1])) (.nm 1))
def m_is_sum : FM := mFn [] 0 b_is_sum
/-! all_up_to -/
def b_all_up_to : MS :=
 sRet (mComp [2, 3] (iEnE (mCall m_sums_up_to [.ln 0, .ln 1])) (.many [2, 3]) (mTr (.nm 3)) (mVar 2))
def m_all_up_to : FM := mFn [] 2 b_all_up_to
/-! greatest_gap -/
def b_greatest_gap : MS :=
 sSeq (sSet 1 (mBin opIx (.nm 0) (.ex (mC (.int 0)))))
 (sRet (mBin opSub (.ex (mCal bMax [.ex (mCall m_remainders [.ln 0, .ln 1])])) (.nm 1)))
def m_greatest_gap : FM := mFn [] 1 b_greatest_gap
/-! is_arf -/
def b_is_arf : MS :=
 sSeq (sSet 1 (mCall m_greatest_gap [.ln 0]))
 (sSeq (sSet 2 (mCall m_all_up_to [.ln 0, .ex (mBin opAdd (.nm 1) (.ex (mC (.int 1))))]))
 (sSeq (sSet 4 (mDc [3] (iNm 2) (.one 3) (mYes) (mVar 3) (mC (.bl true))))
 (sSeq (sFor (iNm 2) (.one 5)
 (sFor (iEnN 2) (.many [6, 7])
 (sFor (iEx (mSlL (.nm 2) (.nm 6))) (.one 8)
 (sIf (mAnd (mB (mBin opLe (.nm 5) (.nm 7))) (mAnd (mB (mBin opLe (.ex (mBin opSub (.ex (mBin opAdd (.nm 7) (.nm 8))) (.nm 5))) (.nm 1))) (mB (mBin (opIn true) (.ex (mBin opSub (.ex (mBin opAdd (.nm 7) (.nm 8))) (.nm 5))) (.nm 4)))))
 (sRet (mC (.bl false)))
 (sNop)))))
 (sRet (mC (.bl true))))))
def m_is_arf : FM := mFn [] 8 b_is_arf
/-! size_of -/
def b_size_of : MS :=
 sSeq (sSet 1 (mVar 0))
 (sSeq (sSet 2 (mVar 0))
 (sSeq (sSet 3 (mC (.int 2)))
 (sSeq (whileM (mB (mBin opGt (.nm 2) (.ex (mC (.int 1)))))
 (sSeq (sIf (mB (mBin opEq (.ex (mBin opMod (.nm 2) (.nm 3))) (.ex (mC (.int 0)))))
 (sSeq (sSet 1 (mBin opMul (.ex (mBin opDiv (.nm 1) (.nm 3))) (.ex (mBin opSub (.nm 3) (.ex (mC (.int 1)))))))
 (whileM (mB (mBin opEq (.ex (mBin opMod (.nm 2) (.nm 3))) (.ex (mC (.int 0)))))
 (sSet 2 (mBin opDiv (.nm 2) (.nm 3))) fuel))
 (sNop))
 (sSet 3 (mBin opAdd (.nm 3) (.ex (mC (.int 1)))))) fuel)
 (sRet (mMove 1)))))
def m_size_of : FM := mFn [] 3 b_size_of
/-! cut -/
def b_cut : MS :=
 sSeq (sSet 1 (mCal bList [.nm 0]))
 (sSeq (whileM (mAnd (mTr (.nm 1)) (mB (mBin opEq (.ex (mBin opIx (.nm 1) (.ex (mUn opNeg (.ex (mC (.int 1))))))) (.ex (mC (.int 0))))))
 (sDo (mPop 1)) fuel)
 (sRet (mCal bTuple [.nm 1])))
def m_cut : FM := mFn [] 1 b_cut
/-! gaps -/
def b_gaps : MS :=
 sSeq (sSet 1 (mCall m_greatest_gap [.ln 0]))
 (sSeq (sSet 2 (mCall m_sums_up_to [.ln 0, .ex (mCal bMax [.nm 1, .ex (mC (.int 0))])]))
 (sRet (mComp [3] (iR2 [.ex (mC (.int 1)), .ex (mBin opAdd (.nm 1) (.ex (mC (.int 1))))]) (.one 3) (mNot (mTr (.ex (mBin opIx (.nm 2) (.nm 3))))) (mVar 3))))
def m_gaps : FM := mFn [] 3 b_gaps
/-! polynomial -/
def b_polynomial : MS :=
 sSeq (sSet 1 (mCall m_gaps [.ln 0]))
 (sSeq (sSet 2 (mBin opMul (.ex (mLst [mC (.int 0)])) (.ex (mBin opAdd (.ex (mCal bMax [.ex (mBin opAdd (.ex (mLst [mC (.int 0)])) (.nm 1))])) (.ex (mC (.int 2)))))))
 (sSeq (sSetIx 2 (.ex (mC (.int 0))) (mC (.int 1)))
 (sSeq (sFor (iNm 1) (.one 3)
 (sSeq (sSetIx 2 (.nm 3) (mBin opSub (.ex (mBin opIx (.nm 2) (.nm 3))) (.ex (mC (.int 1)))))
 (sSetIx 2 (.ex (mBin opAdd (.nm 3) (.ex (mC (.int 1))))) (mBin opAdd (.ex (mBin opIx (.nm 2) (.ex (mBin opAdd (.nm 3) (.ex (mC (.int 1))))))) (.ex (mC (.int 1)))))))
 (sRet (mCall m_cut [.ln 2])))))
def m_polynomial : FM := mFn [] 3 b_polynomial
/-! genus -/
def b_genus : MS :=
 sSeq (sSet 1 (mBin opIx (.nm 0) (.ex (mC (.int 0)))))
 (sRet (mCal bSum [.ex (mComp [2] (iEx (mCall m_remainders [.ln 0, .ln 1])) (.one 2) (mYes) (mBin opDiv (.nm 2) (.nm 1)))]))
def m_genus : FM := mFn [] 2 b_genus
/-! kind_of -/
def b_kind_of : MS :=
 sSeq (sPar 1 2 (mCall m_greatest_gap [.ln 0]) (mCall m_genus [.ln 0]))
 (sSeq (sIf (mB (mBin opEq (.ex (mBin opMul (.ex (mC (.int 2))) (.nm 2))) (.ex (mBin opAdd (.nm 1) (.ex (mC (.int 1)))))))
 (sRet (mC (.str "symmetric")))
 (sNop))
 (sRet (mIf (mB (mBin opEq (.ex (mBin opMul (.ex (mC (.int 2))) (.nm 2))) (.ex (mBin opAdd (.nm 1) (.ex (mC (.int 2))))))) (mC (.str "half")) (mC (.str "neither")))))
def m_kind_of : FM := mFn [] 2 b_kind_of
/-! has -/
def b_has : MS :=
 sSeq (sIf (mB (mBin opLt (.nm 1) (.ex (mC (.int 0)))))
 (sRet (mC (.bl false)))
 (sNop))
 (sSeq (sSet 2 (mBin opIx (.nm 0) (.ex (mC (.int 0)))))
 (sRet (mBin opGe (.nm 1) (.ex (mBin opIx (.ex (mCall m_remainders [.ln 0, .ln 2])) (.ex (mBin opMod (.nm 1) (.nm 2))))))))
def m_has : FM := mFn [] 1 b_has
/-! last_gaps -/
def b_last_gaps : MS :=
 sSeq (sSet 1 (mBin opIx (.nm 0) (.ex (mC (.int 0)))))
 (sSeq (sSet 2 (mCall m_remainders [.ln 0, .ln 1]))
 (sSeq (sSet 3 (mLst []))
 (sSeq (sFor (iNm 2) (.one 4)
 (sIf (mAnd (mNot (mTr (.ex (mGx [5] (iNm 2) (.one 5) (mYes) (mAndV (mBin opNe (.nm 5) (.nm 4)) (mCall m_has [.ln 0, .ex (mBin opSub (.nm 5) (.nm 4))])) true)))) (mB (mBin opGt (.nm 4) (.nm 1))))
 (sDo (mApp 3 (mBin opSub (.nm 4) (.nm 1))))
 (sNop)))
 (sRet (mCal bSort [.nm 3])))))
def m_last_gaps : FM := mFn [] 5 b_last_gaps
/-! special_gaps -/
def b_special_gaps : MS :=
 sRet (mComp [1] (iEx (mCall m_last_gaps [.ln 0])) (.one 1) (mTr (.ex (mCall m_has [.ln 0, .ex (mBin opMul (.ex (mC (.int 2))) (.nm 1))]))) (mVar 1))
def m_special_gaps : FM := mFn [] 1 b_special_gaps
/-! is_irreducible -/
def b_is_irreducible : MS :=
 sRet (mBin opNe (.ex (mCall m_kind_of [.ln 0])) (.ex (mC (.str "neither"))))
def m_is_irreducible : FM := mFn [] 0 b_is_irreducible
/-! holds -/
def b_holds : MS :=
 sRet (mGx [2] (iNm 1) (.one 2) (mYes) (mCall m_has [.ln 0, .ln 2]) false)
def m_holds : FM := mFn [] 1 b_holds
/-! _law_arf -/
def b__law_arf : MS :=
 sSeq (sSet 2 (mComp [1] (iR1 [.ex (mCal bLen [.nm 0])]) (.one 1) (mTr (.ex (mBin opIx (.nm 0) (.nm 1)))) (mVar 1)))
 (sSeq (sFor (iNm 2) (.one 3)
 (sFor (iNm 2) (.one 4)
 (sFor (iNm 2) (.one 5)
 (sIf (mAnd (mB (mChain pLe pLe (.nm 3) (.nm 4) (.nm 5))) (mAnd (mB (mBin opLt (.ex (mBin opSub (.ex (mBin opAdd (.nm 4) (.nm 5))) (.nm 3))) (.ex (mCal bLen [.nm 0])))) (mNot (mTr (.ex (mBin opIx (.nm 0) (.ex (mBin opSub (.ex (mBin opAdd (.nm 4) (.nm 5))) (.nm 3)))))))))
 (sRet (mC (.bl false)))
 (sNop)))))
 (sRet (mC (.bl true))))
def m__law_arf : FM := mFn [] 5 b__law_arf
/-! _law_is_number -/
def b__law_is_number : MS :=
 sSeq (sSet 1 (mIf (mB (mBin opEq (.ex (mSlH (.nm 0) (.ex (mC (.int 1))))) (.ex (mC (.str "-"))))) (mSlL (.nm 0) (.ex (mC (.int 1)))) (mVar 0)))
 (sSeq (sIf (mOr (mB (mBin opEq (.nm 1) (.ex (mC (.str ""))))) (mOr (mB (mBin opGt (.ex (mCal bLen [.nm 1])) (.ex (mC (.int 12))))) (mNot (mTr (.ex (mCal bAll [.ex (mComp [2] (iNm 1) (.one 2) (mYes) (mBin (opIn false) (.nm 2) (.ex (mC (.str "0123456789")))))]))))))
 (sRet (mC (.bl false)))
 (sNop))
 (sRet (mOrV (mBin opEq (.nm 0) (.ex (mC (.str "0")))) (mBin opNe (.ex (mBin opIx (.nm 1) (.ex (mC (.int 0))))) (.ex (mC (.str "0")))))))
def m__law_is_number : FM := mFn [] 2 b__law_is_number
/-! _law_refill -/
def b__law_refill : MS :=
 sSeq (sSet 2 (mC (.int 0)))
 (sSeq (sIf (mTr (.nm 0))
 (sSet 2 (mBin opIx (.nm 0) (.ex (mBin opMod (.nm 1) (.ex (mCal bLen [.nm 0]))))))
 (sNop))
 (sSeq (sIf (mB (mBin opLt (.nm 2) (.ex (mC (.int 0)))))
 (sSet 2 (mBin opSub (.ex (mC (.int 1))) (.ex (mBin opMul (.ex (mC (.int 2))) (.nm 2)))))
 (sNop))
 (sSeq (sIf (mAnd (mB (mBin opGe (.nm 2) (.ex (mBin opPow (.ex (mC (.int 10))) (.ex (mC (.int 18))))))) (mB (mBin opLt (.nm 1) (.ex (mCal bLen [.nm 0])))))
 (sRet (mMove 2))
 (sNop))
 (sRet (mBin opMod (.ex (mCal bInt [.ex (mBin opAdd (.ex (mBin opMul (.ex (mCal bInt [.ex (mBin opAdd (.ex (mBin opAdd (.ex (mBin opMul (.nm 2) (.ex (mC (.int 48271))))) (.ex (mBin opMul (.nm 1) (.ex (mC (.int 69621))))))) (.ex (mC (.int 12345))))])) (.ex (mC (.int 40692))))) (.ex (mC (.int 7))))])) (.ex (mC (.int 2147483399))))))))
def m__law_refill : FM := mFn [] 1 b__law_refill
/-! _law_draw -/
def b__law_draw : MS :=
 sSeq (sIf (mB (mBin opEq (.ex (mBin opIx (.nm 0) (.ex (mC (.int 1))))) (.ex (mC (.int 0)))))
 (sSeq (sSetIx 0 (.ex (mC (.int 1))) (mCall m__law_refill [.ln 1, .ex (mBin opIx (.nm 0) (.ex (mC (.int 0))))]))
 (sSetIx 0 (.ex (mC (.int 0))) (mBin opAdd (.ex (mBin opIx (.nm 0) (.ex (mC (.int 0))))) (.ex (mC (.int 1))))))
 (sNop))
 (sSeq (sSet 3 (mBin opMod (.ex (mCal bInt [.ex (mBin opIx (.nm 0) (.ex (mC (.int 1))))])) (.nm 2)))
 (sSeq (sSetIx 0 (.ex (mC (.int 1))) (mBin opDiv (.ex (mBin opIx (.nm 0) (.ex (mC (.int 1))))) (.nm 2)))
 (sRet (mMove 3))))
def m__law_draw : FM := mFn [0] 1 b__law_draw
/-! _law_exact -/
def b__law_exact (self : FM) : MS :=
 sSeq (sIf (mTr (.ex (mIsi2 .list .tuple (.nm 0))))
 (sSeq (sIf (mOr (mB (mBin opNe (.ex (mIsi .list (.nm 0))) (.ex (mIsi .list (.nm 1))))) (mB (mBin opNe (.ex (mIsi .tuple (.nm 0))) (.ex (mIsi .tuple (.nm 1))))))
 (sRet (mC (.bl false)))
 (sNop))
 (sRet (mAndV (mBin opEq (.ex (mCal bLen [.nm 0])) (.ex (mCal bLen [.nm 1]))) (mCal bAll [.ex (mComp [2] (iR1 [.ex (mCal bLen [.nm 0])]) (.one 2) (mYes) (mCall self [.ex (mBin opIx (.nm 0) (.nm 2)), .ex (mBin opIx (.nm 1) (.nm 2))]))]))))
 (sNop))
 (sSeq (sIf (mOr (mB (mUn opIsN (.nm 0))) (mB (mUn opIsN (.nm 1))))
 (sRet (mAndV (mUn opIsN (.nm 0)) (mUn opIsN (.nm 1))))
 (sNop))
 (sSeq (sSet 3 (mAndV (mBin opEq (.ex (mIsi .str (.nm 0))) (.ex (mIsi .str (.nm 1)))) (mBin opEq (.ex (mIsi .bool (.nm 0))) (.ex (mIsi .bool (.nm 1))))))
 (sRet (mAndV (mVar 3) (mAndV (mBin opEq (.ex (mIsi .int (.nm 0))) (.ex (mIsi .int (.nm 1)))) (mBin opEq (.nm 0) (.nm 1)))))))
def mm__law_exact : Nat → FM
  | 0 => fun _ => none
  | n + 1 => mFn [] 2 (b__law_exact (mm__law_exact n))
def m__law_exact : FM := mm__law_exact 6
/-! _law_gcd -/
def b__law_gcd : MS :=
 sSeq (sPar 0 1 (mCal bAbs [.nm 0]) (mCal bAbs [.nm 1]))
 (sSeq (whileM (mB (mBin opGt (.nm 1) (.ex (mC (.int 0)))))
 (sSeq (sSet 2 (mBin opMod (.ex (mCal bInt [.nm 0])) (.nm 1)))
 (sSeq (sSet 0 (mVar 1))
 (sSet 1 (mVar 2)))) fuel)
 (sRet (mMove 0)))
def m__law_gcd : FM := mFn [] 1 b__law_gcd
/-! canonical_row -/
def b_canonical_row : MS :=
 sSeq (sSet 1 (mBin opIx (.nm 0) (.ex (mC (.int 0)))))
 (sSeq (sSet 2 (mCall m_remainders [.ln 0, .ln 1]))
 (sSeq (sSet 3 (mCall m_greatest_gap [.ln 0]))
 (sRet (mCal bTuple [.ex (mComp [4] (iR1 [.nm 1]) (.one 4) (mYes) (mBin opSub (.ex (mBin opAdd (.nm 3) (.nm 1))) (.ex (mBin opIx (.nm 2) (.ex (mBin opMod (.ex (mBin opSub (.nm 3) (.nm 4))) (.nm 1)))))))]))))
def m_canonical_row : FM := mFn [] 4 b_canonical_row
/-! generators_of_row -/
def b_generators_of_row : MS :=
 sSeq (sSet 2 (mBin opIx (.nm 0) (.ex (mC (.int 0)))))
 (sSeq (sSet 3 (mCall m_remainders [.ln 0, .ln 2]))
 (sSeq (sSet 4 (mLst []))
 (sSeq (sFor (iEnN 1) (.many [5, 6])
 (sSeq (sSet 9 (mComp [7, 8] (iEnN 1) (.many [7, 8]) (mAnd (mB (mBin opNe (.nm 7) (.nm 5))) (mB (mBin opGe (.ex (mBin opSub (.nm 6) (.nm 8))) (.ex (mBin opIx (.nm 3) (.ex (mBin opMod (.ex (mBin opSub (.nm 5) (.nm 7))) (.nm 2)))))))) (mVar 8)))
 (sIf (mNot (mTr (.nm 9)))
 (sDo (mApp 4 (mVar 6)))
 (sNop))))
 (sRet (mCal bTuple [.ex (mCal bSort [.nm 4])])))))
def m_generators_of_row : FM := mFn [] 8 b_generators_of_row
/-! ideal_row -/
def b_ideal_row : MS :=
 sSeq (sSet 2 (mBin opIx (.nm 0) (.ex (mC (.int 0)))))
 (sSeq (sSet 3 (mCall m_remainders [.ln 0, .ln 2]))
 (sSeq (sSet 4 (mLst []))
 (sSeq (sFor (iR1 [.nm 2]) (.one 5)
 (sDo (mApp 4 (mCal bMin [.ex (mComp [6] (iNm 1) (.one 6) (mYes) (mBin opAdd (.nm 6) (.ex (mBin opIx (.nm 3) (.ex (mBin opMod (.ex (mBin opSub (.nm 5) (.nm 6))) (.nm 2)))))))]))))
 (sRet (mCal bTuple [.nm 4])))))
def m_ideal_row : FM := mFn [] 5 b_ideal_row
/-! row_less -/
def b_row_less : MS :=
 sSeq (sSet 2 (mCal bLen [.nm 0]))
 (sRet (mCal bTuple [.ex (mComp [4] (iR1 [.nm 2]) (.one 4) (mYes) (mCal bMax [.ex (mComp [3] (iR1 [.nm 2]) (.one 3) (mYes) (mBin opSub (.ex (mBin opIx (.nm 0) (.ex (mBin opMod (.ex (mBin opAdd (.nm 4) (.nm 3))) (.nm 2))))) (.ex (mBin opIx (.nm 1) (.nm 3)))))]))]))
def m_row_less : FM := mFn [] 3 b_row_less
/-! dual -/
def b_dual : MS :=
 sRet (mCall m_generators_of_row [.ln 0, .ex (mCall m_row_less [.ex (mCall m_canonical_row [.ln 0]), .ex (mCall m_ideal_row [.ln 0, .ln 1])])])
def m_dual : FM := mFn [] 0 b_dual
/-! ideal_less -/
def b_ideal_less : MS :=
 sRet (mCall m_generators_of_row [.ln 0, .ex (mCall m_row_less [.ex (mCall m_ideal_row [.ln 0, .ln 1]), .ex (mCall m_ideal_row [.ln 0, .ln 2])])])
def m_ideal_less : FM := mFn [] 0 b_ideal_less
/-! row_sum -/
def b_row_sum : MS :=
 sSeq (sSet 2 (mCal bLen [.nm 0]))
 (sRet (mCal bTuple [.ex (mComp [4] (iR1 [.nm 2]) (.one 4) (mYes) (mCal bMin [.ex (mComp [3] (iR1 [.nm 2]) (.one 3) (mYes) (mBin opAdd (.ex (mBin opIx (.nm 0) (.nm 3))) (.ex (mBin opIx (.nm 1) (.ex (mBin opMod (.ex (mBin opSub (.nm 4) (.nm 3))) (.nm 2)))))))]))]))
def m_row_sum : FM := mFn [] 3 b_row_sum
/-! ideal_sum -/
def b_ideal_sum : MS :=
 sRet (mCall m_generators_of_row [.ln 0, .ex (mCall m_row_sum [.ex (mCall m_ideal_row [.ln 0, .ln 1]), .ex (mCall m_ideal_row [.ln 0, .ln 2])])])
def m_ideal_sum : FM := mFn [] 0 b_ideal_sum
/-! least_ideal -/
def b_least_ideal : MS :=
 sRet (mCall m_generators_of_row [.ln 0, .ex (mCall m_ideal_row [.ln 0, .ln 1])])
def m_least_ideal : FM := mFn [] 0 b_least_ideal
/-! _law_least -/
def b__law_least : MS :=
 sSeq (sSet 1 (mLst []))
 (sSeq (sFor (iEx (mCal bSortSet [.nm 0])) (.one 2)
 (sIf (mOr (mNot (mTr (.nm 1))) (mNot (mTr (.ex (mBin opIx (.ex (mCall m__law_table [.ln 1, .ln 2])) (.nm 2))))))
 (sDo (mApp 1 (mVar 2)))
 (sNop)))
 (sRet (mCal bTuple [.nm 1])))
def m__law_least : FM := mFn [] 2 b__law_least
/-! _law_is_least -/
def b__law_is_least : MS :=
 sSeq (sIf (mOr (mB (mBin opLt (.ex (mCal bLen [.nm 0])) (.ex (mC (.int 1))))) (mOr (mB (mBin opGt (.ex (mCal bLen [.nm 0])) (.ex (mC (.int 20))))) (mOr (mB (mBin opLt (.ex (mCal bMin [.nm 0])) (.ex (mC (.int 1))))) (mOr (mB (mBin opGt (.ex (mCal bMax [.nm 0])) (.ex (mC (.int 200))))) (mB (mBin opNe (.ex (mCal bList [.nm 0])) (.ex (mCal bSortSet [.nm 0]))))))))
 (sRet (mC (.bl false)))
 (sNop))
 (sSeq (sSet 1 (mC (.int 0)))
 (sSeq (sFor (iNm 0) (.one 2)
 (sSet 1 (mCall m__law_gcd [.ln 1, .ln 2])))
 (sRet (mAndV (mBin opEq (.nm 1) (.ex (mC (.int 1)))) (mBin opEq (.ex (mCall m__law_least [.ln 0])) (.ex (mCal bTuple [.nm 0])))))))
def m__law_is_least : FM := mFn [] 2 b__law_is_least
/-! _law_numbers -/
def b__law_numbers : MS :=
 sRet (mComp [3] (iR1 [.ex (mBin opAdd (.ex (mC (.int 1))) (.ex (mCall m__law_draw [.io 0, .ln 1, .ex (mC (.int 4))])))]) (.one 3) (mYes) (mBin opSub (.ex (mCall m__law_draw [.io 0, .ln 1, .ln 2])) (.ex (mBin opDiv (.nm 2) (.ex (mC (.int 3)))))))
def m__law_numbers : FM := mFn [0] 1 b__law_numbers
/-! _law_semigroup -/
def b__law_semigroup : MS :=
 sSeq (sSet 5 (mComp [4] (iR1 [.ex (mBin opAdd (.ex (mC (.int 1))) (.ex (mCall m__law_draw [.io 0, .ln 1, .ln 2])))]) (.one 4) (mYes) (mBin opAdd (.ex (mC (.int 2))) (.ex (mCall m__law_draw [.io 0, .ln 1, .ex (mBin opSub (.nm 3) (.ex (mC (.int 1))))])))))
 (sSeq (sSet 6 (mC (.int 0)))
 (sSeq (sFor (iNm 5) (.one 7)
 (sSet 6 (mCall m__law_gcd [.ln 6, .ln 7])))
 (sSeq (sIf (mB (mBin opGt (.nm 6) (.ex (mC (.int 1)))))
 (sDo (mApp 5 (mIf (mAnd (mB (mBin opEq (.ex (mCall m__law_gcd [.ln 6, .ex (mBin opAdd (.ex (mCal bMax [.nm 5])) (.ex (mC (.int 1))))])) (.ex (mC (.int 1))))) (mB (mBin opLt (.ex (mCal bMax [.nm 5])) (.nm 3)))) (mCal bMin [.nm 3, .ex (mBin opAdd (.ex (mCal bMax [.nm 5])) (.ex (mC (.int 1))))]) (mC (.int 1)))))
 (sNop))
 (sSeq (sSet 6 (mC (.int 0)))
 (sSeq (sFor (iNm 5) (.one 7)
 (sSet 6 (mCall m__law_gcd [.ln 6, .ln 7])))
 (sSeq (sIf (mOr (mB (mBin opGt (.nm 6) (.ex (mC (.int 1))))) (mB (mBin opEq (.ex (mCall m__law_draw [.io 0, .ln 1, .ex (mC (.int 30))])) (.ex (mC (.int 0))))))
 (sSet 5 (mLst [mC (.int 1)]))
 (sNop))
 (sSeq (sIf (mAnd (mB (mBin (opIn false) (.ex (mC (.int 1))) (.nm 5))) (mB (mBin opGt (.ex (mCall m__law_draw [.io 0, .ln 1, .ex (mC (.int 8))])) (.ex (mC (.int 0))))))
 (sSeq (sSet 5 (mLst [mBin opAdd (.ex (mC (.int 2))) (.ex (mCall m__law_draw [.io 0, .ln 1, .ex (mC (.int 6))]))]))
 (sSet 5 (mBin opAdd (.nm 5) (.ex (mLst [mBin opAdd (.ex (mBin opAdd (.ex (mBin opIx (.nm 5) (.ex (mC (.int 0))))) (.ex (mC (.int 1))))) (.ex (mBin opMul (.ex (mCall m__law_draw [.io 0, .ln 1, .ex (mC (.int 2))])) (.ex (mBin opIx (.nm 5) (.ex (mC (.int 0)))))))])))))
 (sNop))
 (sRet (mCall m__law_least [.ln 5])))))))))
def m__law_semigroup : FM := mFn [0] 4 b__law_semigroup
/-! _law_made -/
def b__law_made : MS :=
 sSeq (sSet 3 (mCal bMin [.nm 1]))
 (sSeq (sIf (mB (mBin opLt (.nm 2) (.nm 3)))
 (sRet (mLst []))
 (sNop))
 (sSeq (sSet 4 (mCall m__law_table [.ln 0, .ex (mBin opSub (.nm 2) (.nm 3))]))
 (sSeq (sSet 5 (mLst []))
 (sSeq (sFor (iR2 [.nm 3, .ex (mBin opAdd (.nm 2) (.ex (mC (.int 1))))]) (.one 6)
 (sIf (mB (mBin opNe (.ex (mComp [7] (iNm 1) (.one 7) (mAnd (mB (mBin opLe (.nm 7) (.nm 6))) (mTr (.ex (mBin opIx (.nm 4) (.ex (mBin opSub (.nm 6) (.nm 7))))))) (mVar 7))) (.ex (mLst []))))
 (sDo (mApp 5 (mVar 6)))
 (sNop)))
 (sRet (mMove 5))))))
def m__law_made : FM := mFn [] 5 b__law_made
/-! _law_multiplied -/
def b__law_multiplied : MS :=
 sSeq (sSet 3 (mComp [2] (iR1 [.ex (mBin opSub (.ex (mBin opAdd (.ex (mCal bLen [.nm 0])) (.ex (mCal bLen [.nm 1])))) (.ex (mC (.int 1))))]) (.one 2) (mYes) (mC (.int 0))))
 (sSeq (sFor (iR1 [.ex (mCal bLen [.nm 0])]) (.one 4)
 (sFor (iR1 [.ex (mCal bLen [.nm 1])]) (.one 5)
 (sSetIx 3 (.ex (mBin opAdd (.nm 4) (.nm 5))) (mBin opAdd (.ex (mBin opIx (.nm 3) (.ex (mBin opAdd (.nm 4) (.nm 5))))) (.ex (mBin opMul (.ex (mBin opIx (.nm 0) (.nm 4))) (.ex (mBin opIx (.nm 1) (.nm 5)))))))))
 (sRet (mMove 3)))
def m__law_multiplied : FM := mFn [] 4 b__law_multiplied
/-! held_up_to -/
def b_held_up_to : MS :=
 sRet (mDc [2] (iEx (mCall m_all_up_to [.ln 0, .ex (mCal bMax [.nm 1, .ex (mC (.int 0))])])) (.one 2) (mYes) (mVar 2) (mC (.bl true)))
def m_held_up_to : FM := mFn [] 1 b_held_up_to
/-! pairs_in -/
def b_pairs_in : MS :=
 sRet (mCal bLen [.ex (mComp [2] (iNm 0) (.one 2) (mB (mBin (opIn false) (.ex (mBin opSub (.nm 1) (.nm 2))) (.nm 0))) (mVar 2))])
def m_pairs_in : FM := mFn [] 1 b_pairs_in
/-! order_bound -/
def b_order_bound : MS :=
 sSeq (sSet 2 (mCall m_held_up_to [.ln 0, .ex (mCal bMax [.nm 1, .ex (mBin opAdd (.ex (mBin opMul (.ex (mC (.int 2))) (.ex (mCall m_greatest_gap [.ln 0])))) (.ex (mC (.int 2))))])]))
 (sRet (mCal bMin [.ex (mComp [3] (iNm 2) (.one 3) (mB (mBin opGe (.nm 3) (.nm 1))) (mCall m_pairs_in [.ln 2, .ln 3]))]))
def m_order_bound : FM := mFn [] 2 b_order_bound
/-! _law_of_row -/
def b__law_of_row : MS :=
 sSeq (sPar 1 2 (mLst []) (mC (.int 0)))
 (sSeq (sFor (iNm 0) (.one 3)
 (sSeq (sSet 2 (mBin opAdd (.nm 2) (.nm 3)))
 (sDo (mApp 1 (mVar 2)))))
 (sRet (mCall m__law_least [.ex (mBin opAdd (.nm 1) (.ex (mComp [4] (iR2 [.ex (mC (.int 1)), .ex (mBin opAdd (.ex (mBin opIx (.nm 0) (.ex (mC (.int 0))))) (.ex (mC (.int 1))))]) (.one 4) (mYes) (mBin opAdd (.nm 2) (.nm 4)))))])))
def m__law_of_row : FM := mFn [] 4 b__law_of_row
/-! _law_row_right -/
def b__law_row_right : MS :=
 sSeq (sIf (mOr (mB (mBin opEq (.ex (mCal bLen [.nm 0])) (.ex (mC (.int 0))))) (mOr (mB (mBin opNe (.ex (mBin opIx (.nm 0) (.ex (mBin opSub (.ex (mCal bLen [.nm 0])) (.ex (mC (.int 1))))))) (.ex (mC (.int 1))))) (mNot (mTr (.ex (mCal bAll [.ex (mComp [1] (iEx (mSlH (.nm 0) (.ex (mUn opNeg (.ex (mC (.int 1))))))) (.one 1) (mYes) (mBin opGt (.nm 1) (.ex (mC (.int 1)))))]))))))
 (sRet (mC (.bl false)))
 (sNop))
 (sSeq (sFor (iR1 [.ex (mCal bLen [.nm 0])]) (.one 2)
 (sSeq (sPar 3 4 (mC (.int 0)) (mBin opAdd (.nm 2) (.ex (mC (.int 1)))))
 (sSeq (sFor (iR1 [.ex (mBin opAdd (.ex (mBin opIx (.nm 0) (.nm 2))) (.ex (mC (.int 1))))]) (.one 5)
 (sIf (mB (mBin opLt (.nm 3) (.ex (mBin opIx (.nm 0) (.nm 2)))))
 (sSeq (sSet 3 (mBin opAdd (.nm 3) (.ex (mIf (mB (mBin opLt (.nm 4) (.ex (mCal bLen [.nm 0])))) (mBin opIx (.nm 0) (.nm 4)) (mC (.int 1))))))
 (sSet 4 (mBin opAdd (.nm 4) (.ex (mC (.int 1))))))
 (sNop)))
 (sIf (mB (mBin opNe (.nm 3) (.ex (mBin opIx (.nm 0) (.nm 2)))))
 (sRet (mC (.bl false)))
 (sNop)))))
 (sRet (mC (.bl true))))
def m__law_row_right : FM := mFn [] 5 b__law_row_right
/-! _law_wins -/
def b__law_wins (self : FM) : MS :=
 sSeq (sIf (mB (mBin opEq (.nm 0) (.ex (mTup [mC (.int 1)]))))
 (sRet (mC (.bl false)))
 (sNop))
 (sSeq (sIf (mB (mBin (opIn true) (.nm 0) (.nm 1)))
 (sSetIx 1 (.nm 0) (mBin opNe (.ex (mComp [2] (iNm 0) (.one 2) (mAnd (mB (mBin opGt (.nm 2) (.ex (mC (.int 1))))) (mNot (mTr (.ex (mCall self [.ex (mCall m__law_after [.ln 0, .ln 2]), .io 1]))))) (mVar 2))) (.ex (mLst []))))
 (sNop))
 (sRet (mBin opIx (.nm 1) (.nm 0))))
def mm__law_wins : Nat → FM
  | 0 => fun _ => none
  | n + 1 => mFn [1] 1 (b__law_wins (mm__law_wins n))
def m__law_wins : FM := mm__law_wins 6
/-! lefts -/
def b_lefts : MS :=
 sSeq (sSet 1 (mCall m_greatest_gap [.ln 0]))
 (sRet (mComp [2] (iEx (mCall m_all_up_to [.ln 0, .ex (mCal bMax [.nm 1, .ex (mC (.int 0))])])) (.one 2) (mB (mBin opLt (.nm 2) (.nm 1))) (mVar 2)))
def m_lefts : FM := mFn [] 2 b_lefts
/-! wilf_number -/
def b_wilf_number : MS :=
 sRet (mBin opSub (.ex (mBin opSub (.ex (mBin opMul (.ex (mCal bLen [.nm 0])) (.ex (mCal bLen [.ex (mCall m_lefts [.ln 0])])))) (.ex (mCall m_greatest_gap [.ln 0])))) (.ex (mC (.int 1))))
def m_wilf_number : FM := mFn [] 0 b_wilf_number
/-! figures -/
def b_figures : MS :=
 sRet (mTup [mCall m_greatest_gap [.ln 0], mCall m_genus [.ln 0], mIf (mB (mBin opNe (.nm 0) (.ex (mTup [mC (.int 1)])))) (mCal bLen [.ex (mCall m_last_gaps [.ln 0])]) (mC (.int 0)), mCall m_wilf_number [.ln 0]])
def m_figures : FM := mFn [] 0 b_figures
/-! from_marks -/
def b_from_marks : MS :=
 sRet (mCal bTuple [.ex (mComp [1, 2] (iEnN 0) (.many [1, 2]) (mYes) (mBin opSub (.nm 2) (.ex (mBin opSub (.ex (mBin opSub (.ex (mCal bLen [.nm 0])) (.nm 1))) (.ex (mC (.int 1)))))))])
def m_from_marks : FM := mFn [] 2 b_from_marks
/-! factorings -/
def b_factorings (self : FM) : MS :=
 sSeq (sIf (mB (mBin opEq (.ex (mCal bLen [.nm 0])) (.ex (mC (.int 1)))))
 (sRet (mIf (mB (mBin opEq (.ex (mBin opMod (.nm 1) (.ex (mBin opIx (.nm 0) (.ex (mC (.int 0))))))) (.ex (mC (.int 0))))) (mLst [mTup [mBin opDiv (.nm 1) (.ex (mBin opIx (.nm 0) (.ex (mC (.int 0)))))]]) (mLst [])))
 (sNop))
 (sSeq (sSet 2 (mLst []))
 (sSeq (sFor (iR1 [.ex (mBin opAdd (.ex (mBin opDiv (.nm 1) (.ex (mBin opIx (.nm 0) (.ex (mC (.int 0))))))) (.ex (mC (.int 1))))]) (.one 3)
 (sSeq (sSet 4 (mCall self [.ex (mSlL (.nm 0) (.ex (mC (.int 1)))), .ex (mBin opSub (.nm 1) (.ex (mBin opMul (.nm 3) (.ex (mBin opIx (.nm 0) (.ex (mC (.int 0))))))))]))
 (sSet 2 (mBin opAdd (.nm 2) (.ex (mComp [5] (iNm 4) (.one 5) (mYes) (mBin opAdd (.ex (mTup [mVar 3])) (.nm 5))))))))
 (sRet (mMove 2))))
def mm_factorings : Nat → FM
  | 0 => fun _ => none
  | n + 1 => mFn [] 4 (b_factorings (mm_factorings n))
def m_factorings : FM := mm_factorings 6
/-! canonical -/
def b_canonical : MS :=
 sRet (mCall m_generators_of_row [.ln 0, .ex (mCall m_canonical_row [.ln 0])])
def m_canonical : FM := mFn [] 0 b_canonical
/-! depth -/
def b_depth : MS :=
 sRet (mUn opNeg (.ex (mBin opDiv (.ex (mUn opNeg (.ex (mBin opAdd (.ex (mCall m_greatest_gap [.ln 0])) (.ex (mC (.int 1))))))) (.ex (mBin opIx (.nm 0) (.ex (mC (.int 0))))))))
def m_depth : FM := mFn [] 0 b_depth
/-! doubled -/
def b_doubled : MS :=
 sSeq (sSet 4 (mCal bSortSet [.ex (mBin opAdd (.ex (mComp [3] (iNm 0) (.one 3) (mYes) (mBin opMul (.ex (mC (.int 2))) (.nm 3)))) (.ex (mComp [3] (iNm 1) (.one 3) (mYes) (mBin opAdd (.ex (mBin opMul (.ex (mC (.int 2))) (.nm 3))) (.nm 2)))))]))
 (sRet (mCall m_least_generators [.ex (mCal bTuple [.nm 4])]))
def m_doubled : FM := mFn [] 2 b_doubled
/-! eliahou_number -/
def b_eliahou_number : MS :=
 sSeq (sSet 1 (mBin opAdd (.ex (mCall m_greatest_gap [.ln 0])) (.ex (mC (.int 1)))))
 (sSeq (sSet 2 (mBin opIx (.nm 0) (.ex (mC (.int 0)))))
 (sSeq (sSet 3 (mCall m_depth [.ln 0]))
 (sSeq (sSet 5 (mComp [4] (iNm 0) (.one 4) (mB (mBin opLt (.nm 4) (.nm 1))) (mVar 4)))
 (sSeq (sSet 6 (mComp [4] (iR2 [.nm 1, .ex (mBin opAdd (.nm 1) (.nm 2))]) (.one 4) (mB (mBin (opIn true) (.nm 4) (.nm 0))) (mVar 4)))
 (sRet (mBin opSub (.ex (mBin opAdd (.ex (mBin opSub (.ex (mBin opMul (.ex (mCal bLen [.nm 5])) (.ex (mCal bLen [.ex (mCall m_lefts [.ln 0])])))) (.ex (mBin opMul (.nm 3) (.ex (mCal bLen [.nm 6])))))) (.ex (mBin opMul (.nm 3) (.nm 2))))) (.nm 1)))))))
def m_eliahou_number : FM := mFn [] 6 b_eliahou_number
/-! fewest_checks -/
def b_fewest_checks : MS :=
 sSeq (sSet 2 (mCall m_held_up_to [.ln 0, .ex (mBin opAdd (.ex (mBin opAdd (.ex (mBin opAdd (.nm 1) (.ex (mBin opMul (.ex (mC (.int 2))) (.ex (mCall m_genus [.ln 0])))))) (.ex (mBin opMul (.ex (mC (.int 2))) (.ex (mCall m_greatest_gap [.ln 0])))))) (.ex (mC (.int 4))))]))
 (sRet (mCal bSort [.ex (mComp [3] (iNm 2) (.one 3) (mB (mBin opLt (.ex (mCall m_pairs_in [.ln 2, .ln 3])) (.nm 1))) (mVar 3))]))
def m_fewest_checks : FM := mFn [] 2 b_fewest_checks
/-! gap_weight -/
def b_gap_weight : MS :=
 sRet (mCal bSum [.ex (mComp [1, 2] (iEnE (mCall m_gaps [.ln 0])) (.many [1, 2]) (mYes) (mBin opSub (.ex (mBin opSub (.nm 2) (.nm 1))) (.ex (mC (.int 1)))))])
def m_gap_weight : FM := mFn [] 2 b_gap_weight
/-! gaps_after -/
def b_gaps_after : MS :=
 sSeq (sSet 3 (mDc [2] (iNm 0) (.one 2) (mYes) (mVar 2) (mC (.bl true))))
 (sSeq (sSet 4 (mLst []))
 (sSeq (sFor (iNm 0) (.one 2)
 (sSeq (sSet 5 (mVar 2))
 (sSeq (whileM (mAnd (mB (mBin opGt (.nm 5) (.ex (mC (.int 0))))) (mB (mBin (opIn false) (.nm 5) (.nm 3))))
 (sSet 5 (mBin opSub (.nm 5) (.nm 1))) fuel)
 (sIf (mB (mBin opLt (.nm 5) (.ex (mC (.int 0)))))
 (sDo (mApp 4 (mVar 2)))
 (sNop)))))
 (sRet (mCal bTuple [.nm 4]))))
def m_gaps_after : FM := mFn [] 4 b_gaps_after
/-! gaps_chosen -/
def b_gaps_chosen (self : FM) : MS :=
 sSeq (sIf (mB (mBin opEq (.nm 2) (.nm 0)))
 (sRet (mLst [mCal bList [.nm 1]]))
 (sNop))
 (sSeq (sSet 3 (mLst []))
 (sSeq (sSet 5 (mGx [4] (iR2 [.ex (mC (.int 1)), .nm 2]) (.one 4) (mYes) (mAndV (mBin opIx (.nm 1) (.nm 4)) (mBin opIx (.nm 1) (.ex (mBin opSub (.nm 2) (.nm 4))))) true))
 (sSeq (sIf (mNot (mTr (.nm 5)))
 (sSet 3 (mBin opAdd (.nm 3) (.ex (mCall self [.ln 0, .ln 1, .ex (mBin opAdd (.nm 2) (.ex (mC (.int 1))))]))))
 (sNop))
 (sSeq (sIf (mAnd (mNot (mTr (.ex (mGx [4] (iR2 [.ex (mC (.int 1)), .ex (mBin opAdd (.nm 2) (.ex (mC (.int 1))))]) (.one 4) (mYes) (mAndV (mBin opIx (.nm 1) (.nm 4)) (mBin opEq (.ex (mBin opAdd (.nm 4) (.nm 2))) (.nm 0))) true)))) (mB (mBin opNe (.ex (mBin opMul (.ex (mC (.int 2))) (.nm 2))) (.nm 0))))
 (sSeq (sSet 6 (mCal bList [.nm 1]))
 (sSeq (sSetIx 6 (.nm 2) (mC (.bl true)))
 (sSet 3 (mBin opAdd (.nm 3) (.ex (mCall self [.ln 0, .ln 6, .ex (mBin opAdd (.nm 2) (.ex (mC (.int 1))))]))))))
 (sNop))
 (sRet (mMove 3))))))
def mm_gaps_chosen : Nat → FM
  | 0 => fun _ => none
  | n + 1 => mFn [] 4 (b_gaps_chosen (mm_gaps_chosen n))
def m_gaps_chosen : FM := mm_gaps_chosen 6
/-! greatest_ideal -/
def b_greatest_ideal : MS :=
 sRet (mCall m_least_ideal [.ln 0, .ln 0])
def m_greatest_ideal : FM := mFn [] 0 b_greatest_ideal
/-! half -/
def b_half : MS :=
 sSeq (sSet 1 (mCall m_greatest_gap [.ln 0]))
 (sSeq (sSet 3 (mBin opIx (.ex (mComp [2] (iR2 [.ex (mC (.int 1)), .ex (mBin opAdd (.nm 1) (.ex (mC (.int 3))))]) (.one 2) (mTr (.ex (mCall m_has [.ln 0, .ex (mBin opMul (.ex (mC (.int 2))) (.nm 2))]))) (mVar 2))) (.ex (mC (.int 0)))))
 (sRet (mCall m_least_generators [.ex (mCal bTuple [.ex (mComp [2] (iR2 [.ex (mC (.int 1)), .ex (mBin opAdd (.ex (mBin opAdd (.nm 1) (.nm 3))) (.ex (mC (.int 2))))]) (.one 2) (mTr (.ex (mCall m_has [.ln 0, .ex (mBin opMul (.ex (mC (.int 2))) (.nm 2))]))) (mVar 2))])])))
def m_half : FM := mFn [] 3 b_half
/-! heads_of -/
def b_heads_of : MS :=
 sSeq (sSet 1 (mLst []))
 (sSeq (sSet 2 (mC (.int 0)))
 (sSeq (sFor (iNm 0) (.one 3)
 (sSeq (sSet 2 (mBin opAdd (.nm 2) (.nm 3)))
 (sIf (mB (mBin opGt (.nm 2) (.ex (mC (.int 1)))))
 (sDo (mApp 1 (mVar 2)))
 (sNop))))
 (sSeq (sSet 4 (mCal bSum [.nm 0]))
 (sRet (mBin opAdd (.nm 1) (.ex (mBin opLRg (.ex (mBin opAdd (.nm 4) (.ex (mC (.int 1))))) (.ex (mBin opAdd (.nm 4) (.ex (mC (.int 61))))))))))))
def m_heads_of : FM := mFn [] 4 b_heads_of
/-! turned -/
def b_turned : MS :=
 sRet (mIf (mTr (.nm 0)) (mCal bTuple [.ex (mComp [2] (iR1 [.ex (mBin opIx (.nm 0) (.ex (mC (.int 0))))]) (.one 2) (mYes) (mCal bLen [.ex (mComp [1] (iNm 0) (.one 1) (mB (mBin opGt (.nm 1) (.nm 2))) (mVar 1))]))]) (mTup []))
def m_turned : FM := mFn [] 2 b_turned
/-! hooks -/
def b_hooks : MS :=
 sSeq (sSet 1 (mCall m_turned [.ln 0]))
 (sSeq (sSet 2 (mLst []))
 (sSeq (sFor (iEnN 0) (.many [3, 4])
 (sDo (mApp 2 (mComp [5] (iR1 [.nm 4]) (.one 5) (mYes) (mBin opSub (.ex (mBin opSub (.ex (mBin opAdd (.ex (mBin opSub (.nm 4) (.nm 5))) (.ex (mBin opIx (.nm 1) (.nm 5))))) (.nm 3))) (.ex (mC (.int 1))))))))
 (sRet (mMove 2))))
def m_hooks : FM := mFn [] 5 b_hooks
/-! in_ideal -/
def b_in_ideal : MS :=
 sRet (mBin opGe (.nm 2) (.ex (mBin opIx (.ex (mCall m_ideal_row [.ln 0, .ln 1])) (.ex (mBin opMod (.nm 2) (.ex (mBin opIx (.nm 0) (.ex (mC (.int 0))))))))))
def m_in_ideal : FM := mFn [] 0 b_in_ideal
/-! reaches -/
def b_reaches : MS :=
 sSeq (sSet 3 (mBin opSub (.nm 2) (.nm 1)))
 (sSeq (whileM (mB (mBin opGe (.nm 3) (.ex (mC (.int 0)))))
 (sSeq (sIf (mTr (.ex (mCall m_has [.ln 0, .ln 3])))
 (sRet (mC (.bl true)))
 (sNop))
 (sSet 3 (mBin opSub (.nm 3) (.nm 1)))) fuel)
 (sRet (mC (.bl false))))
def m_reaches : FM := mFn [] 1 b_reaches
/-! is_ender -/
def b_is_ender : MS :=
 sSeq (sSet 1 (mCall m_greatest_gap [.ln 0]))
 (sSeq (sSet 2 (mCall m_gaps [.ln 0]))
 (sRet (mGx [3] (iNm 2) (.one 3) (mYes) (mCall m_reaches [.ln 0, .ln 3, .ln 1]) false)))
def m_is_ender : FM := mFn [] 3 b_is_ender
/-! is_factoring -/
def b_is_factoring : MS :=
 sRet (mAndV (mBin opEq (.ex (mCal bLen [.nm 1])) (.ex (mCal bLen [.nm 0]))) (mCal bAll [.ex (mComp [2] (iNm 1) (.one 2) (mYes) (mBin opGe (.nm 2) (.ex (mC (.int 0)))))]))
def m_is_factoring : FM := mFn [] 1 b_is_factoring
/-! is_play -/
def b_is_play : MS :=
 sSeq (sSet 2 (mCal bTuple [.ex (mCall m_gaps [.ln 0])]))
 (sSeq (sFor (iNm 1) (.one 3)
 (sSeq (sIf (mB (mBin (opIn true) (.nm 3) (.nm 2)))
 (sRet (mC (.bl false)))
 (sNop))
 (sSet 2 (mCall m_gaps_after [.ln 2, .ln 3]))))
 (sRet (mBin opEq (.nm 2) (.ex (mTup [])))))
def m_is_play : FM := mFn [] 2 b_is_play
/-! rows_with_sum -/
def b_rows_with_sum : MS :=
 sSeq (sSet 1 (mLst [mTup [mC (.int 1)]]))
 (sSeq (sSet 2 (mLst []))
 (sSeq (whileM (mTr (.nm 1))
 (sSeq (sSet 3 (mPop 1))
 (sSeq (sSet 4 (mBin opSub (.ex (mCal bSum [.nm 3])) (.ex (mC (.int 1)))))
 (sSeq (sIf (mB (mBin opEq (.nm 4) (.nm 0)))
 (sDo (mApp 2 (mVar 3)))
 (sNop))
 (sFor (iEx (mCall m_heads_of [.ln 3])) (.one 5)
 (sIf (mB (mBin opLe (.ex (mBin opAdd (.nm 4) (.nm 5))) (.nm 0)))
 (sDo (mApp 1 (mBin opAdd (.ex (mTup [mVar 5])) (.nm 3))))
 (sNop)))))) fuel)
 (sRet (mCal bSort [.nm 2]))))
def m_rows_with_sum : FM := mFn [] 5 b_rows_with_sum
/-! shifted -/
def b_shifted : MS :=
 sRet (mCal bTuple [.ex (mComp [2] (iNm 0) (.one 2) (mYes) (mBin opAdd (.nm 2) (.nm 1)))])
def m_shifted : FM := mFn [] 1 b_shifted
/-! symmetric_double -/
def b_symmetric_double : MS :=
 sSeq (sSet 2 (mBin opAdd (.ex (mCall m_greatest_gap [.ln 0])) (.ex (mC (.int 1)))))
 (sRet (mCall m_doubled [.ln 0, .ex (mCall m_shifted [.ex (mCall m_canonical [.ln 0]), .ln 2]), .ln 1]))
def m_symmetric_double : FM := mFn [] 1 b_symmetric_double
/-! times -/
def b_times : MS :=
 sSeq (sSet 2 (mBin opMul (.ex (mLst [mC (.int 0)])) (.ex (mBin opAdd (.ex (mCal bLen [.nm 0])) (.ex (mCal bLen [.nm 1]))))))
 (sSeq (sFor (iEnN 0) (.many [3, 4])
 (sFor (iEnN 1) (.many [5, 6])
 (sSetIx 2 (.ex (mBin opAdd (.nm 3) (.nm 5))) (mBin opAdd (.ex (mBin opIx (.nm 2) (.ex (mBin opAdd (.nm 3) (.nm 5))))) (.ex (mBin opMul (.nm 4) (.nm 6)))))))
 (sRet (mCall m_cut [.ln 2])))
def m_times : FM := mFn [] 5 b_times
end Com
set_option Elab.async false
set_option linter.all false
set_option maxRecDepth 100000
set_option maxHeartbeats 1000000
/-! EngU: what a meaning does, by what is wanted behind it. -/
namespace Eng
open PySem PySem.Spec PyProof.Rows L2

/-- an option's value -/
structure wF {α : Type} (o : Option α) (Q : α → Prop) : Prop where
  ex : ∃ a, o = some a ∧ Q a
def wS (s : MS) (ρ : Env) (Q : Fl → Env → Prop) : Prop := wF (s ρ) fun q => Q q.1 q.2
def wM (m : ME) (ρ : Env) (Q : D → Bool → Env → Prop) : Prop := wF (m ρ) fun q => Q q.1.1 q.1.2 q.2
def wT (m : MT) (ρ : Env) (Q : Bool → Env → Prop) : Prop := wF (m ρ) fun q => Q q.1 q.2
def wO (os : List Opd) (ρ : Env) (Q : List D → Env → Prop) : Prop := wF (ops os ρ) fun q => Q q.1 q.2
def wPre (os : List Opd) (ρ : Env) (Q : List (Sum D Nat) → Env → Prop) : Prop := wF (pre os ρ) fun q => Q q.1 q.2
def wI (i : MI) (ρ : Env) (Q : List D → Env → Prop) : Prop := wF (i ρ) fun q => Q q.1 q.2
def wC (f : FM) (ss : Env) (Q : D → Bool → Env → Prop) : Prop := wF (f ss) fun q => Q q.1.1 q.1.2 q.2
/-- what comes behind a statement -/
def nxt (s : MS) (Q : Fl → Env → Prop) (f : Fl) (ρ : Env) : Prop := match f with
  | .nx => wS s ρ Q
  | .brk => Q .brk ρ
  | .cont => Q .cont ρ
  | .ret d o => Q (.ret d o) ρ

theorem wF_mono {α : Type} {o : Option α} {Q R : α → Prop} (h : wF o Q) (i : ∀ a, Q a → R a) : wF o R := by
  obtain ⟨a, e, q⟩ := h
  exact ⟨a, e, i a q⟩
theorem wF_ex {α : Type} {o : Option α} {Q : α → Prop} : wF o Q ↔ ∃ a, o = some a ∧ Q a := ⟨fun h => h.ex, fun h => ⟨h⟩⟩
theorem wF_eq {α : Type} {o : Option α} {a : α} {Q : α → Prop} (h : o = some a) (q : Q a) : wF o Q := ⟨a, h, q⟩
section
variable {α β : Type} {ρ : Env}
@[simp ↓] theorem wF_some {a : α} {Q : α → Prop} : wF (some a) Q = Q a := propext ⟨fun ⟨b, e, q⟩ => by cases e; exact q, fun q => ⟨a, rfl, q⟩⟩
@[simp ↓] theorem wF_none {Q : α → Prop} : wF none Q = False := propext ⟨fun ⟨b, e, q⟩ => (nomatch e), fun q => q.elim⟩
@[simp ↓] theorem wF_bind {o : Option α} {f : α → Option β} {Q : β → Prop} : wF (o.bind f) Q = wF o fun a => wF (f a) Q := by cases o <;> simp only [Option.bind_none, Option.bind_some, wF_none, wF_some]
@[simp ↓] theorem wF_map {o : Option α} {f : α → β} {Q : β → Prop} : wF (o.map f) Q = wF o fun a => Q (f a) := by cases o <;> simp only [Option.map_none, Option.map_some, wF_none, wF_some]
@[simp ↓] theorem wF_ite {c : Prop} [Decidable c] {a b : Option α} {Q : α → Prop} : wF (if c then a else b) Q = if c then wF a Q else wF b Q := by split <;> rfl
@[simp ↓] theorem wF_guard {c : Prop} [Decidable c] {a : α} {Q : α → Prop} : wF (if c then some a else none) Q = (c ∧ Q a) := by
  by_cases h : c
  · rw [if_pos h, wF_some]; exact propext ⟨fun q => ⟨h, q⟩, fun q => q.2⟩
  · rw [if_neg h, wF_none]; exact propext ⟨fun q => q.elim, fun q => h q.1⟩
/-! statements -/
@[simp ↓] theorem wS_nop {Q} : wS sNop ρ Q = Q .nx ρ := wF_some
@[simp ↓] theorem wS_seq {a b : MS} {Q} : wS (sSeq a b) ρ Q = wS a ρ (nxt b Q) := by
  unfold wS sSeq
  rw [wF_bind]
  congr 1
  funext q
  obtain ⟨f, r⟩ := q
  cases f <;> first | rfl | exact wF_some
@[simp ↓] theorem nxt_nx {s : MS} {Q} : nxt s Q .nx ρ = wS s ρ Q := rfl
@[simp ↓] theorem nxt_ret {s : MS} {Q} {d o} : nxt s Q (.ret d o) ρ = Q (.ret d o) ρ := rfl
@[simp ↓] theorem nxt_brk {s : MS} {Q} : nxt s Q .brk ρ = Q .brk ρ := rfl
@[simp ↓] theorem nxt_cont {s : MS} {Q} : nxt s Q .cont ρ = Q .cont ρ := rfl
@[simp ↓] theorem wS_set {i : Nat} {m : ME} {Q} : wS (sSet i m) ρ Q = wM m ρ fun d o ρ' => Q .nx (ρ'.set i (slotOf (d, o))) := by
  simp only [wS, wM, sSet, wF_map]
@[simp] theorem slotOf_t {d : D} : slotOf (d, true) = .own d := rfl
@[simp] theorem slotOf_f {d : D} : slotOf (d, false) = .val d := rfl
@[simp ↓] theorem wS_ret {m : ME} {Q} : wS (sRet m) ρ Q = wM m ρ fun d o ρ' => Q (.ret d o) ρ' := by simp only [wS, wM, sRet, wF_map]
@[simp ↓] theorem wS_do {m : ME} {Q} : wS (sDo m) ρ Q = wM m ρ fun _ _ ρ' => Q .nx ρ' := by simp only [wS, wM, sDo, wF_map]
@[simp ↓] theorem wS_brk {Q} : wS sBrk ρ Q = Q .brk ρ := wF_some
@[simp ↓] theorem wS_cont {Q} : wS sCont ρ Q = Q .cont ρ := wF_some
@[simp ↓] theorem wS_if {c : MT} {a b : MS} {Q} : wS (sIf c a b) ρ Q = wT c ρ fun t ρ' => if t = true then wS a ρ' Q else wS b ρ' Q := by
  simp only [wS, wT, sIf, wF_bind, wF_ite]
@[simp ↓] theorem wS_par {i j : Nat} {m n : ME} {Q} : wS (sPar i j m n) ρ Q = wM m ρ fun d o ρ1 => wM n ρ1 fun e p ρ2 => Q .nx ((ρ2.set i (slotOf (d, o))).set j (slotOf (e, p))) := by
  simp only [wS, wM, sPar, mPar, wF_map, wF_bind]
@[simp ↓] theorem wS_setIx {j : Nat} {oi : Opd} {m : ME} {Q} : wS (sSetIx j oi m) ρ Q = wM m ρ fun d _ ρ1 => (∃ xs, ρ1[j]? = some (.own (.lst xs))) ∧ wO [oi] ρ1 fun is ρ2 => ∃ k xs n, is = [.int k] ∧ ρ2[j]? = some (.own (.lst xs)) ∧ ixN xs.length k = some n ∧ Q .nx (ρ2.set j (.own (.lst (xs.set n d)))) := by
  unfold wS wM sSetIx
  rw [wF_bind]
  congr 1
  funext q
  apply propext
  constructor
  · intro h
    split at h
    · rename_i xs e
      refine ⟨⟨xs, e⟩, ?_⟩
      unfold wO
      rw [wF_bind] at h
      refine wF_mono h fun z hz => ?_
      split at hz
      · rename_i k ys e1 e2
        rw [wF_map] at hz
        obtain ⟨n, h1, h2⟩ := wF_ex.mp hz
        exact ⟨k, ys, n, e1, e2, h1, h2⟩
      · exact (wF_none ▸ hz : False).elim
    · exact (wF_none ▸ h : False).elim
  · rintro ⟨⟨xs, e⟩, h⟩
    rw [e]
    simp only [wF_bind]
    refine wF_mono h fun z hz => ?_
    obtain ⟨k, ys, n, e1, e2, h1, h2⟩ := hz
    rw [e1, e2]
    simp only [wF_map, h1, wF_some]
    exact h2
/-! operands -/
@[simp ↓] theorem wPre_nil {Q} : wPre [] ρ Q = Q [] ρ := wF_some
@[simp ↓] theorem wPre_nm {i : Nat} {os : List Opd} {Q} : wPre (.nm i :: os) ρ Q = ((rd ρ[i]?).isSome = true ∧ wPre os ρ fun l ρ' => Q (.inr i :: l) ρ') := by
  unfold wPre
  simp only [pre, wF_ite, wF_map, wF_none]
  by_cases h : (rd ρ[i]?).isSome = true
  · rw [if_pos h]; exact propext ⟨fun q => ⟨h, q⟩, fun q => q.2⟩
  · rw [if_neg h]; exact propext ⟨fun q => q.elim, fun q => h q.1⟩
@[simp ↓] theorem wPre_ex {m : ME} {os : List Opd} {Q} : wPre (.ex m :: os) ρ Q = wM m ρ fun d _ ρ1 => wPre os ρ1 fun l ρ' => Q (.inl d :: l) ρ' := by
  simp only [wPre, wM, pre, wF_bind, wF_map]
@[simp ↓] theorem wO_def {os : List Opd} {Q} : wO os ρ Q = wPre os ρ fun l ρ' => wF (fin ρ' l) fun ds => Q ds ρ' := by
  simp only [wO, ops, wPre, wF_bind, wF_map]
@[simp] theorem fin_nil : fin ρ [] = some [] := rfl
@[simp ↓] theorem wF_finl {d : D} {l : List (Sum D Nat)} {Q : List D → Prop} : wF (fin ρ (.inl d :: l)) Q = wF (fin ρ l) fun ds => Q (d :: ds) := by simp only [fin, wF_map]
@[simp ↓] theorem wF_finr {i : Nat} {l : List (Sum D Nat)} {Q : List D → Prop} : wF (fin ρ (.inr i :: l)) Q = wF (rd ρ[i]?) fun d => wF (fin ρ l) fun ds => Q (d :: ds) := by simp only [fin, wF_bind, wF_map]
@[simp] theorem rd_val {d : D} : rd (some (.val d)) = some d := rfl
@[simp] theorem rd_own {d : D} : rd (some (.own d)) = some d := rfl
/-! expressions -/
@[simp ↓] theorem wM_C {d : D} {Q} : wM (mC d) ρ Q = Q d false ρ := wF_some
@[simp ↓] theorem wM_var {i : Nat} {Q} : wM (mVar i) ρ Q = match ρ[i]? with
    | some (.val d) => Q d false ρ
    | some (.own d) => Q d false (ρ.set i (.val d))
    | _ => False := by
  unfold wM mVar
  split <;> rename_i h <;> simp only [h, wF_some, wF_none]
@[simp ↓] theorem wM_move {i : Nat} {Q} : wM (mMove i) ρ Q = match ρ[i]? with
    | some (.val d) => Q d false ρ
    | some (.own d) => Q d true (ρ.set i .un)
    | _ => False := by
  unfold wM mMove
  split <;> rename_i h <;> simp only [h, wF_some, wF_none]
/-- one operand's function -/
def w1 (f : D → Option (D × Bool)) (Q : D → Bool → Prop) : List D → Prop
  | [x] => wF (f x) fun r => Q r.1 r.2
  | _ => False
def w2 (f : D → D → Option (D × Bool)) (Q : D → Bool → Prop) : List D → Prop
  | [x, y] => wF (f x y) fun r => Q r.1 r.2
  | _ => False
@[simp ↓] theorem w1_one {f : D → Option (D × Bool)} {Q} {x : D} : w1 f Q [x] = wF (f x) fun r => Q r.1 r.2 := rfl
@[simp ↓] theorem w2_two {f : D → D → Option (D × Bool)} {Q} {x y : D} : w2 f Q [x, y] = wF (f x y) fun r => Q r.1 r.2 := rfl
@[simp ↓] theorem wM_bin {f} {a b : Opd} {Q} : wM (mBin f a b) ρ Q = wO [a, b] ρ fun ds ρ' => w2 f (fun d o => Q d o ρ') ds := by
  simp only [wM, mBin, wO, wF_bind]
  congr 1
  funext q
  obtain ⟨l, r⟩ := q
  rcases l with _ | ⟨x, _ | ⟨y, _ | ⟨z, l⟩⟩⟩ <;> first | exact wF_none | simp only [w2_two, wF_map] | rfl
@[simp ↓] theorem wM_un {f} {a : Opd} {Q} : wM (mUn f a) ρ Q = wO [a] ρ fun ds ρ' => w1 f (fun d o => Q d o ρ') ds := by
  simp only [wM, mUn, wO, wF_bind]
  congr 1
  funext q
  obtain ⟨l, r⟩ := q
  rcases l with _ | ⟨x, _ | ⟨z, l⟩⟩ <;> first | exact wF_none | simp only [w1_one, wF_map] | rfl
@[simp ↓] theorem wM_cal {f} {os : List Opd} {Q} : wM (mCal f os) ρ Q = wO os ρ fun ds ρ' => wF (f ds) fun r => Q r.1 r.2 ρ' := by
  simp only [wM, mCal, wO, wF_bind, wF_map]
@[simp ↓] theorem wM_if {c : MT} {a b : ME} {Q} : wM (mIf c a b) ρ Q = wT c ρ fun t ρ' => if t = true then wM a ρ' Q else wM b ρ' Q := by
  simp only [wM, wT, mIf, wF_bind, wF_ite]
@[simp ↓] theorem wM_and {a b : ME} {Q} : wM (mAndV a b) ρ Q = wM a ρ fun d o ρ' => wF (truth d) fun t => if t = true then wM b ρ' Q else Q d o ρ' := by
  simp only [wM, mAndV, wF_bind, wF_ite, wF_some]
@[simp ↓] theorem wM_or {a b : ME} {Q} : wM (mOrV a b) ρ Q = wM a ρ fun d o ρ' => wF (truth d) fun t => if t = true then Q d o ρ' else wM b ρ' Q := by
  simp only [wM, mOrV, wF_bind, wF_ite, wF_some]
@[simp ↓] theorem wM_not {o : Opd} {Q} : wM (mNotV o) ρ Q = wT (mTr o) ρ fun t ρ' => Q (.bl (!t)) false ρ' := by
  simp only [wM, wT, mNotV, wF_map]
def wB (Q : Bool → Prop) : D → Prop
  | .bl b => Q b
  | _ => False
@[simp ↓] theorem wB_bl {Q : Bool → Prop} {b : Bool} : wB Q (.bl b) = Q b := rfl
@[simp ↓] theorem wT_B {m : ME} {Q} : wT (mB m) ρ Q = wM m ρ fun d _ ρ' => wB (fun b => Q b ρ') d := by
  simp only [wT, mB, wM, wF_bind]
  congr 1
  funext q
  obtain ⟨⟨d, o⟩, r⟩ := q
  cases d <;> first | exact wF_none | exact wF_some
@[simp ↓] theorem wT_tr {o : Opd} {Q} : wT (mTr o) ρ Q = wO [o] ρ fun ds ρ' => ∃ d, ds = [d] ∧ wF (truth d) fun b => Q b ρ' := by
  simp only [wT, mTr, wO, wF_bind]
  congr 1
  funext q
  apply propext
  constructor
  · intro h
    split at h
    · rename_i d e
      rw [wF_map] at h
      exact ⟨d, e, h⟩
    · exact (wF_none ▸ h : False).elim
  · rintro ⟨d, e, h⟩
    rw [e]
    simp only [wF_map]
    exact h
@[simp ↓] theorem wT_and {a b : MT} {Q} : wT (mAnd a b) ρ Q = wT a ρ fun t ρ' => if t = true then wT b ρ' Q else Q false ρ' := by
  simp only [wT, mAnd, wF_bind, wF_ite, wF_some]
@[simp ↓] theorem wT_or {a b : MT} {Q} : wT (mOr a b) ρ Q = wT a ρ fun t ρ' => if t = true then Q true ρ' else wT b ρ' Q := by
  simp only [wT, mOr, wF_bind, wF_ite, wF_some]
@[simp ↓] theorem wT_not {a : MT} {Q} : wT (mNot a) ρ Q = wT a ρ fun t ρ' => Q (!t) ρ' := by
  simp only [wT, mNot, wF_map]
@[simp ↓] theorem wT_yes {Q} : wT mYes ρ Q = Q true ρ := wF_some
def wCh (p p' : Int → Int → Bool) (c : Opd) (ρ : Env) (Q : D → Bool → Env → Prop) : List D → Prop
  | [.int i, .int j] => if p i j = true then wO [c] ρ fun ds ρ' => ∃ k, ds = [.int k] ∧ Q (.bl (p' j k)) false ρ' else Q (.bl false) false ρ
  | _ => False
@[simp ↓] theorem wCh_two {p p' : Int → Int → Bool} {c : Opd} {Q} {i j : Int} : wCh p p' c ρ Q [.int i, .int j] = if p i j = true then wO [c] ρ fun ds ρ' => ∃ k, ds = [.int k] ∧ Q (.bl (p' j k)) false ρ' else Q (.bl false) false ρ := rfl
@[simp ↓] theorem wM_chain {p p'} {a b c : Opd} {Q} : wM (mChain p p' a b c) ρ Q = wO [a, b] ρ fun ds ρ' => wCh p p' c ρ' Q ds := by
  simp only [wM, mChain, wO, wF_bind]
  congr 1
  funext q
  obtain ⟨l, r⟩ := q
  have key : ∀ (i j : Int), wF (if p i j = true then (ops [c] r).bind fun q2 => match q2.1 with
      | [.int k] => some ((.bl (p' j k), false), q2.2)
      | _ => none
    else some ((.bl false, false), r)) (fun q => Q q.1.1 q.1.2 q.2) = wCh p p' c r Q [.int i, .int j] := fun i j => by
    rw [wCh_two, wF_ite, wF_bind, wF_some]
    congr 1
    unfold wO
    congr 1
    funext z
    apply propext
    constructor
    · intro h
      split at h
      · rename_i k e
        rw [wF_some] at h
        exact ⟨k, e, h⟩
      · exact (wF_none ▸ h : False).elim
    · rintro ⟨k, e, h⟩
      rw [e]
      show wF (some _) _
      rw [wF_some]
      exact h
  rcases l with _ | ⟨x, _ | ⟨y, _ | ⟨z, l⟩⟩⟩
  · exact wF_none
  · cases x <;> exact wF_none
  · cases x <;> first | exact wF_none | (cases y <;> first | exact wF_none | exact key _ _)
  · cases x <;> first | exact wF_none | (cases y <;> exact wF_none)
/-- a display's values -/
def wV (ms : List ME) (ρ : Env) (Q : List D → Env → Prop) : Prop := wF (evs ms ρ) fun q => Q q.1 q.2
@[simp ↓] theorem wV_nil {Q} : wV [] ρ Q = Q [] ρ := wF_some
@[simp ↓] theorem wV_cons {m : ME} {ms : List ME} {Q} : wV (m :: ms) ρ Q = wM m ρ fun d _ ρ1 => wV ms ρ1 fun ds ρ2 => Q (d :: ds) ρ2 := by
  simp only [wV, wM, evs, wF_bind, wF_map]
@[simp ↓] theorem wM_lst {ms : List ME} {Q} : wM (mLst ms) ρ Q = wV ms ρ fun ds ρ' => Q (.lst ds) true ρ' := by simp only [wM, wV, mLst, wF_map]
@[simp ↓] theorem wM_tup {ms : List ME} {Q} : wM (mTup ms) ρ Q = wV ms ρ fun ds ρ' => Q (.tup ds) false ρ' := by simp only [wM, wV, mTup, wF_map]
@[simp ↓] theorem wM_app {i : Nat} {m : ME} {Q} : wM (mApp i m) ρ Q = ((∃ xs, ρ[i]? = some (.own (.lst xs))) ∧ wM m ρ fun d _ ρ1 => ∃ xs, ρ1[i]? = some (.own (.lst xs)) ∧ xs.length < sizeLine ∧ Q .non false (ρ1.set i (.own (.lst (xs ++ [d]))))) := by
  apply propext
  unfold wM mApp
  constructor
  · intro h
    split at h
    · rename_i xs e
      refine ⟨⟨xs, e⟩, ?_⟩
      rw [wF_bind] at h
      refine wF_mono h fun z hz => ?_
      split at hz
      · rename_i ys e1
        rw [wF_guard] at hz
        exact ⟨ys, e1, hz⟩
      · exact (wF_none ▸ hz : False).elim
    · exact (wF_none ▸ h : False).elim
  · rintro ⟨⟨xs, e⟩, h⟩
    rw [e]
    simp only [wF_bind]
    refine wF_mono h fun z hz => ?_
    obtain ⟨ys, e1, h1, h2⟩ := hz
    rw [e1]
    simp only [wF_guard]
    exact ⟨h1, h2⟩
@[simp ↓] theorem wM_pop {i : Nat} {Q} : wM (mPop i) ρ Q = ∃ xs, ρ[i]? = some (.own (.lst xs)) ∧ wF xs[xs.length - 1]? fun d => Q d false (ρ.set i (.own (.lst xs.dropLast))) := by
  apply propext
  unfold wM mPop
  constructor
  · intro h
    split at h
    · rename_i xs e
      rw [wF_map] at h
      exact ⟨xs, e, h⟩
    · exact (wF_none ▸ h : False).elim
  · rintro ⟨xs, e, h⟩
    rw [e]
    simp only [wF_map]
    exact h
/-! sources -/
@[simp ↓] theorem wI_ex {m : ME} {Q} : wI (iEx m) ρ Q = wM m ρ fun d _ ρ' => wF (seqOf d) fun l => Q l ρ' := by simp only [wI, wM, iEx, wF_bind, wF_map]
@[simp ↓] theorem wI_nm {j : Nat} {Q} : wI (iNm j) ρ Q = wF (rd ρ[j]?) fun d => wF (seqOf d) fun l => Q l ρ := by simp only [wI, iNm, wF_bind, wF_map]
@[simp ↓] theorem wI_enE {m : ME} {Q} : wI (iEnE m) ρ Q = wM m ρ fun d _ ρ' => wF (lstOf d) fun l => Q (enD l) ρ' := by simp only [wI, wM, iEnE, wF_bind, wF_map]
@[simp ↓] theorem wI_enN {j : Nat} {Q} : wI (iEnN j) ρ Q = wF (rd ρ[j]?) fun d => wF (lstOf d) fun l => Q (enD l) ρ := by simp only [wI, iEnN, wF_bind, wF_map]
@[simp ↓] theorem wI_r1 {os : List Opd} {Q} : wI (iR1 os) ρ Q = wO os ρ fun ds ρ' => ∃ j, ds = [.int j] ∧ (-(2 ^ 62) ≤ j ∧ j < 2 ^ 62) ∧ Q (rngD 0 j.toNat) ρ' := by
  simp only [wI, iR1, wO, wF_bind]
  congr 1
  funext q
  apply propext
  constructor
  · intro h
    split at h
    · rename_i j e
      rw [wF_guard] at h
      exact ⟨j, e, h⟩
    · exact (wF_none ▸ h : False).elim
  · rintro ⟨j, e, h⟩
    rw [e]
    simp only [wF_guard]
    exact h
@[simp ↓] theorem wI_r2 {os : List Opd} {Q} : wI (iR2 os) ρ Q = wO os ρ fun ds ρ' => ∃ i j, ds = [.int i, .int j] ∧ (-(2 ^ 62) ≤ i ∧ i < 2 ^ 62 ∧ -(2 ^ 62) ≤ j ∧ j < 2 ^ 62) ∧ Q (rngD i (j - i).toNat) ρ' := by
  simp only [wI, iR2, wO, wF_bind]
  congr 1
  funext q
  apply propext
  constructor
  · intro h
    split at h
    · rename_i i j e
      rw [wF_guard] at h
      exact ⟨i, j, e, h⟩
    · exact (wF_none ▸ h : False).elim
  · rintro ⟨i, j, e, h⟩
    rw [e]
    simp only [wF_guard]
    exact h
end
end Eng
set_option Elab.async false
set_option linter.all false
set_option maxRecDepth 100000
set_option maxHeartbeats 1000000
/-! EngV: loops, comprehensions, calls, by what is wanted behind them. -/
namespace Eng
open PySem PySem.Spec PyProof.Rows L2

theorem wS_mono {s : MS} {ρ : Env} {Q R : Fl → Env → Prop} (h : wS s ρ Q) (i : ∀ f ρ', Q f ρ' → R f ρ') : wS s ρ R := wF_mono h fun _ => i _ _
theorem wM_mono {m : ME} {ρ : Env} {Q R : D → Bool → Env → Prop} (h : wM m ρ Q) (i : ∀ d o ρ', Q d o ρ' → R d o ρ') : wM m ρ R := wF_mono h fun _ => i _ _ _
theorem wT_mono {m : MT} {ρ : Env} {Q R : Bool → Env → Prop} (h : wT m ρ Q) (i : ∀ t ρ', Q t ρ' → R t ρ') : wT m ρ R := wF_mono h fun _ => i _ _
/-- the end of a turn -/
def turn (N : Env → Prop) (Q : Fl → Env → Prop) (f : Fl) (ρ : Env) : Prop := match f with
  | .nx => N ρ
  | .cont => N ρ
  | .brk => Q .nx ρ
  | .ret d o => Q (.ret d o) ρ
section
variable {ρ : Env} {N : Env → Prop} {Q : Fl → Env → Prop} {g : Tg} {b : MS} {c : MT} {m : ME} {vs : List Nat}
@[simp ↓] theorem turn_nx : turn N Q .nx ρ = N ρ := rfl
@[simp ↓] theorem turn_cont : turn N Q .cont ρ = N ρ := rfl
@[simp ↓] theorem turn_brk : turn N Q .brk ρ = Q .nx ρ := rfl
@[simp ↓] theorem turn_ret {d o} : turn N Q (.ret d o) ρ = Q (.ret d o) ρ := rfl
def wL (g : Tg) (b : MS) (items : List D) (ρ : Env) (Q : Fl → Env → Prop) : Prop := wF (forM g b items ρ) fun q => Q q.1 q.2
@[simp ↓] theorem wS_for {i : MI} : wS (sFor i g b) ρ Q = wI i ρ fun items ρ' => wL g b items ρ' Q := by simp only [wS, wI, wL, sFor, wF_bind]
theorem wL_nil : wL g b [] ρ Q = Q .nx ρ := wF_some
theorem wL_cons {d : D} {r : List D} : wL g b (d :: r) ρ Q = wF (tgS g d ρ) fun ρ1 => wS b ρ1 (turn (fun ρ' => wL g b r ρ' Q) Q) := by
  simp only [wL, forM, wF_bind, wS]
  congr 1
  funext ρ1
  congr 1
  funext q
  obtain ⟨f, r⟩ := q
  cases f <;> first | rfl | exact wF_some
theorem wL_inv {items : List D} (I : Nat → Env → Prop) (h0 : I 0 ρ) (step : ∀ k d ρ, items[k]? = some d → I k ρ → wF (tgS g d ρ) fun ρ1 => wS b ρ1 (turn (I (k + 1)) Q)) (hn : ∀ ρ, I items.length ρ → Q .nx ρ) : wL g b items ρ Q := by
  have key : ∀ (l : List D) (k : Nat) (ρ : Env), items.drop k = l → k ≤ items.length → I k ρ → wL g b l ρ Q := by
    intro l
    induction l with
    | nil =>
      intro k ρ e hk h
      have : items.length ≤ k := by
        have := congrArg List.length e
        rw [List.length_drop] at this
        simp at this
        omega
      rw [wL_nil]
      exact hn ρ ((Nat.le_antisymm hk this) ▸ h)
    | cons d l ih =>
      intro k ρ e hk h
      have hlt : k < items.length := by
        have := congrArg List.length e
        rw [List.length_drop, List.length_cons] at this
        omega
      rw [List.drop_eq_getElem_cons hlt] at e
      injection e with e1 e2
      rw [wL_cons]
      refine wF_mono (step k d ρ (by rw [List.getElem?_eq_getElem hlt, e1]) h) fun ρ1 h1 => wS_mono h1 fun f ρ2 h2 => ?_
      cases f with
      | nx => exact ih (k + 1) ρ2 e2 hlt h2
      | cont => exact ih (k + 1) ρ2 e2 hlt h2
      | brk => exact h2
      | ret d o => exact h2
  exact key items 0 ρ (List.drop_zero ..) (Nat.zero_le _) h0
theorem wW_inv {n m0 : Nat} (I : Nat → Env → Prop) (h0 : I m0 ρ) (hm : m0 < n) (step : ∀ k ρ, I k ρ → wT c ρ fun t ρ' => if t = true then wS b ρ' (turn (fun ρ2 => ∃ k', k' < k ∧ I k' ρ2) Q) else Q .nx ρ') : wS (whileM c b n) ρ Q := by
  have key : ∀ (n k : Nat) (ρ : Env), k < n → I k ρ → wS (whileM c b n) ρ Q := by
    intro n
    induction n with
    | zero => intro k ρ h _; exact absurd h (Nat.not_lt_zero _)
    | succ n ih =>
      intro k ρ hk h
      have h1 := step k ρ h
      unfold wS wT at *
      simp only [whileM, wF_bind]
      refine wF_mono h1 fun q hq => ?_
      obtain ⟨t, ρ1⟩ := q
      cases t with
      | false =>
        simp only [Bool.false_eq_true, if_false, wF_some] at hq ⊢
        exact hq
      | true =>
        simp only [if_true] at hq ⊢
        rw [wF_bind]
        refine wF_mono hq fun z hz => ?_
        obtain ⟨f, ρ2⟩ := z
        cases f with
        | nx => obtain ⟨k', h3, h4⟩ := hz; exact ih k' ρ2 (by omega) h4
        | cont => obtain ⟨k', h3, h4⟩ := hz; exact ih k' ρ2 (by omega) h4
        | brk => show wF (some _) _; rw [wF_some]; exact hz
        | ret d o => show wF (some _) _; rw [wF_some]; exact hz
  exact key n m0 ρ hm h0
/-! comprehensions -/
def wK (vs : List Nat) (g : Tg) (c : MT) (m : ME) (items : List D) (ρ : Env) (Q : List D → Env → Prop) : Prop := wF (compM vs g c m items ρ) fun q => Q q.1 q.2
@[simp ↓] theorem wM_comp {i : MI} {Q : D → Bool → Env → Prop} : wM (mComp vs i g c m) ρ Q = wI i ρ fun items ρ1 => (items.length ≤ sizeLine ∧ vs.all (fun v => notOwn ρ1[v]?) = true) ∧ wK vs g c m items (wipeE vs ρ1) fun ds ρ2 => Q (.lst ds) true (restE ρ1 vs ρ2) := by
  simp only [wM, wI, wK, mComp, wF_bind]
  congr 1
  funext q
  rw [wF_ite, wF_map, wF_none]
  by_cases h : q.1.length ≤ sizeLine ∧ vs.all (fun v => notOwn q.2[v]?) = true
  · rw [if_pos h]; exact propext ⟨fun z => ⟨h, z⟩, fun z => z.2⟩
  · rw [if_neg h]; exact propext ⟨fun z => z.elim, fun z => h z.1⟩
theorem wK_inv {items : List D} {Q : List D → Env → Prop} (I : Nat → List D → Env → Prop) (h0 : I 0 [] ρ)
    (step : ∀ k d acc ρ, items[k]? = some d → I k acc ρ → wF (tgS g d ρ) fun ρ1 => wT c ρ1 fun t ρ2 => if t = true then wM m ρ2 fun e _ ρ3 => I (k + 1) (acc ++ [e]) (wipeE vs ρ3) else I (k + 1) acc (wipeE vs ρ2))
    (hn : ∀ acc ρ, I items.length acc ρ → Q acc ρ) : wK vs g c m items ρ Q := by
  have key : ∀ (l : List D) (k : Nat) (acc : List D) (ρ : Env), items.drop k = l → k ≤ items.length → I k acc ρ → wF (compM vs g c m l ρ) fun q => Q (acc ++ q.1) q.2 := by
    intro l
    induction l with
    | nil =>
      intro k acc ρ e hk h
      have : items.length ≤ k := by
        have := congrArg List.length e
        rw [List.length_drop] at this
        simp at this
        omega
      show wF (some _) _
      rw [wF_some]
      show Q (acc ++ []) ρ
      rw [List.append_nil]
      exact hn acc ρ ((Nat.le_antisymm hk this) ▸ h)
    | cons d l ih =>
      intro k acc ρ e hk h
      have hlt : k < items.length := by
        have := congrArg List.length e
        rw [List.length_drop, List.length_cons] at this
        omega
      rw [List.drop_eq_getElem_cons hlt] at e
      injection e with e1 e2
      simp only [compM, wF_bind]
      refine wF_mono (step k d acc ρ (by rw [List.getElem?_eq_getElem hlt, e1]) h) fun ρ1 h1 => ?_
      refine wF_mono h1 fun q h2 => ?_
      obtain ⟨t, ρ2⟩ := q
      cases t with
      | false =>
        simp only [Bool.false_eq_true, if_false] at h2 ⊢
        exact ih (k + 1) acc _ e2 hlt h2
      | true =>
        simp only [if_true] at h2 ⊢
        rw [wF_bind]
        refine wF_mono h2 fun z h3 => ?_
        rw [wF_map]
        refine wF_mono (ih (k + 1) _ _ e2 hlt h3) fun y hy => ?_
        rw [List.append_assoc] at hy
        exact hy
  exact wF_mono (key items 0 [] ρ (List.drop_zero ..) (Nat.zero_le _) h0) fun q h => h
/-- no slot changes but the block's own: h tells what an item gives -/
theorem wK_map {items : List D} {Q : List D → Env → Prop} (h : D → Option D) (step : ∀ d ∈ items, wF (tgS g d ρ) fun ρ1 => wT c ρ1 fun t ρ2 => if t = true then wM m ρ2 fun e _ ρ3 => h d = some e ∧ wipeE vs ρ3 = ρ else h d = none ∧ wipeE vs ρ2 = ρ)
    (hn : Q (items.filterMap h) ρ) : wK vs g c m items ρ Q := by
  refine wK_inv (fun k acc ρ' => ρ' = ρ ∧ acc = (items.take k).filterMap h) ⟨rfl, rfl⟩ (fun k d acc ρ' hd ⟨h1, h2⟩ => ?_) fun acc ρ' ⟨h1, h2⟩ => ?_
  · subst h1 h2
    have tk : items.take (k + 1) = items.take k ++ [d] := by rw [List.take_add_one, hd]; rfl
    refine wF_mono (step d (List.mem_of_getElem? hd)) fun ρ1 h1 => wT_mono h1 fun t ρ2 h2 => ?_
    cases t with
    | false =>
      simp only [Bool.false_eq_true, if_false] at h2 ⊢
      refine ⟨h2.2, ?_⟩
      rw [tk, List.filterMap_append]
      simp [h2.1]
    | true =>
      simp only [if_true] at h2 ⊢
      refine wM_mono h2 fun e o ρ3 h3 => ⟨h3.2, ?_⟩
      rw [tk, List.filterMap_append]
      simp [h3.1]
  · subst h1 h2
    rw [List.take_length]
    exact hn
def wX (vs : List Nat) (g : Tg) (c : MT) (m : ME) (want : Bool) (items : List D) (ρ : Env) (Q : Bool → Env → Prop) : Prop := wF (gxM vs g c m want items ρ) fun q => Q q.1 q.2
@[simp ↓] theorem wM_gx {i : MI} {want : Bool} {Q : D → Bool → Env → Prop} : wM (mGx vs i g c m want) ρ Q = wI i ρ fun items ρ1 => vs.all (fun v => notOwn ρ1[v]?) = true ∧ wX vs g c m want items (wipeE vs ρ1) fun t ρ2 => Q (.bl t) false (restE ρ1 vs ρ2) := by
  simp only [wM, wI, wX, mGx, wF_bind]
  congr 1
  funext q
  rw [wF_ite, wF_map, wF_none]
  by_cases h : vs.all (fun v => notOwn q.2[v]?) = true
  · rw [if_pos h]; exact propext ⟨fun z => ⟨h, z⟩, fun z => z.2⟩
  · rw [if_neg h]; exact propext ⟨fun z => z.elim, fun z => h z.1⟩
/-- any (want: true), all: p tells what an item says (none: it is passed over) -/
theorem wX_map {items : List D} {want : Bool} {Q : Bool → Env → Prop} (p : D → Option Bool)
    (step : ∀ d ∈ items, wF (tgS g d ρ) fun ρ1 => wT c ρ1 fun t ρ2 => if t = true then wM m ρ2 fun e _ ρ3 => ∃ x, e = .bl x ∧ p d = some x ∧ wipeE vs ρ3 = ρ else p d = none ∧ wipeE vs ρ2 = ρ)
    (hn : Q (if want = true then (items.filterMap p).any id else (items.filterMap p).all id) ρ) : wX vs g c m want items ρ Q := by
  induction items with
  | nil =>
    show wF (some _) _
    rw [wF_some]
    cases want <;> exact hn
  | cons d r ih =>
    unfold wX
    simp only [gxM, wF_bind]
    refine wF_mono (step d List.mem_cons_self) fun ρ1 h1 => wF_mono h1 fun q h2 => ?_
    obtain ⟨t, ρ2⟩ := q
    have tail : ∀ (Q' : Prop), (p d = none ∨ p d = some (!want)) → (if want = true then ((d :: r).filterMap p).any id else ((d :: r).filterMap p).all id) = (if want = true then (r.filterMap p).any id else (r.filterMap p).all id) := fun _ z => by
      rw [List.filterMap_cons]
      rcases z with z | z <;> rw [z] <;> cases want <;> simp
    cases t with
    | false =>
      simp only [Bool.false_eq_true, if_false] at h2 ⊢
      obtain ⟨h3, h4⟩ := h2
      rw [h4]
      refine ih (fun e he => step e (List.mem_cons_of_mem _ he)) ?_
      rw [tail True (.inl h3)] at hn
      exact hn
    | true =>
      simp only [if_true] at h2 ⊢
      rw [wF_bind]
      refine wF_mono h2 fun z h3 => ?_
      obtain ⟨⟨e, o⟩, ρ3⟩ := z
      obtain ⟨x, rfl, h4, h5⟩ := h3
      dsimp only at h5 ⊢
      by_cases hx : x = want
      · rw [if_pos hx]
        subst hx
        rw [List.filterMap_cons, h4] at hn
        show wF (some _) _
        rw [wF_some]
        show Q x _
        rw [h5]
        cases x <;> simpa using hn
      · rw [if_neg hx, h5]
        refine ih (fun e he => step e (List.mem_cons_of_mem _ he)) ?_
        have : x = !want := by cases x <;> cases want <;> first | rfl | exact absurd rfl hx
        rw [tail True (.inr (by rw [h4, this]))] at hn
        exact hn
end
/-! calls -/
def noIo (as : List Arg) : Bool := as.all fun a => match a with | .io _ => false | _ => true
/-- what a call without written arguments leaves -/
def frzE (c : Bool) : List Arg → Env → Env
  | [], ρ => ρ
  | .ln j :: as, ρ => frzE c as (if c = true then ρ else freezeE ρ j)
  | _ :: as, ρ => frzE c as ρ
theorem back_frz {c : Bool} : ∀ {as : List Arg} {ss ρ : Env}, noIo as = true → as.length ≤ ss.length → backE c as ss ρ = frzE c as ρ
  | [], ss, ρ, _, _ => by cases ss <;> rfl
  | a :: as, [], ρ, _, h => by simp at h
  | .io j :: as, s :: ss, ρ, h, _ => by simp [noIo] at h
  | .ex m :: as, s :: ss, ρ, h, hl => by
    simp only [backE, frzE]
    exact back_frz (by simpa [noIo] using h) (by simpa using hl)
  | .ln j :: as, s :: ss, ρ, h, hl => by
    simp only [backE, frzE]
    exact back_frz (by simpa [noIo] using h) (by simpa using hl)
theorem outs_ok : ∀ {as : List Arg} {ss : Env}, noIo as = true → as.length ≤ ss.length → outsOk as ss = true
  | [], ss, _, _ => by cases ss <;> rfl
  | a :: as, [], _, h => by simp at h
  | .io j :: as, s :: ss, h, _ => by simp [noIo] at h
  | .ex m :: as, s :: ss, h, hl => by
    simp only [outsOk]
    exact outs_ok (by simpa [noIo] using h) (by simpa using hl)
  | .ln j :: as, s :: ss, h, hl => by
    simp only [outsOk]
    exact outs_ok (by simpa [noIo] using h) (by simpa using hl)
theorem slots_len2 : ∀ {as : List Arg} {ds : List D} {ρ ss : Env}, slotsOf as ds ρ = some ss → as.length = ss.length
  | [], [], ρ, ss, h => by cases h; rfl
  | [], d :: ds, ρ, ss, h => by cases h
  | a :: as, [], ρ, ss, h => by cases a <;> cases h
  | .ex m :: as, d :: ds, ρ, ss, h => by
    obtain ⟨r, h1, rfl⟩ := Option.map_eq_some_iff.mp h
    exact congrArg (· + 1) (slots_len2 h1)
  | .ln m :: as, d :: ds, ρ, ss, h => by
    obtain ⟨r, h1, rfl⟩ := Option.map_eq_some_iff.mp h
    exact congrArg (· + 1) (slots_len2 h1)
  | .io j :: as, d :: ds, ρ, ss, h => by
    unfold slotsOf at h
    split at h
    · obtain ⟨r, h1, rfl⟩ := Option.map_eq_some_iff.mp h
      exact congrArg (· + 1) (slots_len2 h1)
    · cases h
/-- a def's result, and that its slots stand -/
def wR (fm : FM) (ss : Env) (Q : D → Bool → Prop) : Prop := wF (fm ss) fun q => ss.length ≤ q.2.length ∧ Q q.1.1 q.1.2
/-- with the slots behind it -/
def wC3 (fm : FM) (ss : Env) (Q : D → Bool → Env → Prop) : Prop := wF (fm ss) fun q => Q q.1.1 q.1.2 q.2
section
variable {ρ : Env} {fm : FM} {as : List Arg}
/-- a call, its arguments' slots ready -/
def wCall (fm : FM) (as : List Arg) (ss ρ1 : Env) (Q : D → Bool → Env → Prop) : Prop := wC3 fm ss fun d o s2 => Q d o (backE ((if o = true then clean1 d else clean d) && outsOk as s2) as s2 ρ1)
@[simp ↓] theorem wM_call {Q : D → Bool → Env → Prop} : wM (mCall fm as) ρ Q = wO (as.map Arg.opd) ρ fun ds ρ1 => wF (slotsOf as ds ρ1) fun ss => wCall fm as ss ρ1 Q := by
  simp only [wM, mCall, wO, wF_bind, wF_map, wC3, wCall]
theorem wCall_of {ss : Env} {Q : D → Bool → Env → Prop} (h : noIo as = true) (hl : as.length = ss.length) (z : wR fm ss fun d o => Q d o (frzE (if o = true then clean1 d else clean d) as ρ)) : wCall fm as ss ρ Q := by
  unfold wCall wC3
  refine wF_mono z fun y hy => ?_
  obtain ⟨h2, hq⟩ := hy
  have hl2 : as.length ≤ y.2.length := by rw [hl]; exact h2
  rw [outs_ok h hl2, Bool.and_true, back_frz h hl2]
  exact hq
/-- a def's result is so -/
def Rn (fm : FM) (ss : Env) (d : D) (o : Bool) : Prop := wR fm ss fun e p => e = d ∧ p = o
theorem Rn.eq {ss : Env} {d : D} {o : Bool} (h : Rn fm ss d o) (Q : D → Bool → Prop) : wR fm ss Q = Q d o := by
  unfold Rn wR at h
  obtain ⟨q, h1, h2, h3, h4⟩ := wF_ex.mp h
  unfold wR
  rw [h1]
  simp only [wF_some, h3, h4]
  exact propext ⟨fun z => z.2, fun z => ⟨h2, z⟩⟩
theorem Rn.call {ss : Env} {d : D} {o : Bool} (h : Rn fm ss d o) (hio : noIo as = true) (hl : as.length = ss.length) {Q : D → Bool → Env → Prop} : wCall fm as ss ρ Q = Q d o (frzE (if o = true then clean1 d else clean d) as ρ) := by
  unfold Rn wR at h
  obtain ⟨q, h1, h2, h3, h4⟩ := wF_ex.mp h
  have hl2 : as.length ≤ q.2.length := by rw [hl]; exact h2
  unfold wCall wC3
  rw [h1]
  simp only [wF_some]
  rw [h3, h4, outs_ok hio hl2, Bool.and_true, back_frz hio hl2]
theorem Rn.of {ss : Env} {d : D} {o : Bool} (h : wR fm ss fun e p => e = d ∧ p = o) : Rn fm ss d o := h
def fend (Q : D → Bool → Env → Prop) (f : Fl) (ρ : Env) : Prop := match f with
  | .ret d o => Q d o ρ
  | .nx => Q .non false ρ
  | _ => False
@[simp ↓] theorem fend_ret {Q} {d o} : fend Q (.ret d o) ρ = Q d o ρ := rfl
@[simp ↓] theorem fend_nx {Q} : fend Q .nx ρ = Q .non false ρ := rfl
theorem wC_fn {io : List Nat} {k : Nat} {b : MS} {ss : Env} {Q : D → Bool → Env → Prop} : wC3 (mFn io k b) ss Q = (ownOk io 0 ss = true ∧ wS b (ss ++ List.replicate k .un) fun f ρ' => still ss ρ' = true ∧ fend Q f ρ') := by
  unfold wC3 mFn wS
  by_cases h : ownOk io 0 ss = true
  · rw [if_pos h, wF_bind]
    refine propext ⟨fun z => ⟨h, wF_mono z fun q hq => ?_⟩, fun z => wF_mono z.2 fun q hq => ?_⟩
    · obtain ⟨f, ρ'⟩ := q
      rw [wF_ite] at hq
      by_cases h2 : still ss ρ' = true
      · rw [if_pos h2] at hq
        cases f <;> first | exact ⟨h2, by rw [wF_some] at hq; exact hq⟩ | exact (wF_none ▸ hq : False).elim
      · rw [if_neg h2, wF_none] at hq; exact hq.elim
    · obtain ⟨f, ρ'⟩ := q
      obtain ⟨h2, h3⟩ := hq
      rw [wF_ite, if_pos h2]
      cases f <;> first | (show wF (some _) _; rw [wF_some]; exact h3) | exact h3.elim
  · rw [if_neg h, wF_none]
    exact propext ⟨fun z => z.elim, fun z => absurd z.1 h⟩
theorem wR_fn {io : List Nat} {k : Nat} {b : MS} {ss : Env} {Q : D → Bool → Prop} (h : ownOk io 0 ss = true) (q : wS b (ss ++ List.replicate k .un) fun f ρ' => still ss ρ' = true ∧ fend (fun d o _ => Q d o) f ρ') : wR (mFn io k b) ss Q := by
  have z : wC3 (mFn io k b) ss fun d o ρ' => still ss ρ' = true ∧ Q d o := by
    rw [wC_fn]
    refine ⟨h, wS_mono q fun f ρ' ⟨h1, h2⟩ => ⟨h1, ?_⟩⟩
    cases f <;> first | exact ⟨h1, h2⟩ | exact h2.elim
  exact wF_mono z fun y ⟨h1, h2⟩ => ⟨still_len h1, h2⟩
end
end Eng
set_option Elab.async false
set_option linter.all false
set_option maxRecDepth 100000
set_option maxHeartbeats 1000000
/-! EngX: loops and comprehensions over the image of a list. -/
namespace Eng
open PySem PySem.Spec PyProof.Rows L2
section
variable {ρ : Env} {N : Env → Prop} {g : Tg} {b : MS} {c : MT} {m : ME} {vs : List Nat} {α : Type}
/-- a comprehension with a test over the image of a list -/
theorem wK_ls {Q : List D → Env → Prop} {items : List D} (l : List α) (emb : α → D) (p : α → Bool) (f : α → D) (hi : items = l.map emb)
    (step : ∀ x ∈ l, wF (tgS g (emb x) ρ) fun ρ1 => wT c ρ1 fun t ρ2 => t = p x ∧ if p x = true then wM m ρ2 fun e _ ρ3 => e = f x ∧ wipeE vs ρ3 = ρ else wipeE vs ρ2 = ρ)
    (hn : Q ((l.filter p).map f) ρ) : wK vs g c m items ρ Q := by
  subst hi
  refine wK_inv (fun k acc ρ' => ρ' = ρ ∧ acc = ((l.take k).filter p).map f) ⟨rfl, rfl⟩ (fun k d acc ρ' hd ⟨h1, h2⟩ => ?_) fun acc ρ' ⟨h1, h2⟩ => ?_
  · subst h1 h2
    rw [List.getElem?_map] at hd
    obtain ⟨x, hx, rfl⟩ := Option.map_eq_some_iff.mp hd
    have tk : l.take (k + 1) = l.take k ++ [x] := by rw [List.take_add_one, hx]; rfl
    refine wF_mono (step x (List.mem_of_getElem? hx)) fun ρ1 h1 => wT_mono h1 fun t ρ2 ⟨ht, h2⟩ => ?_
    subst ht
    cases hp : p x with
    | false =>
      rw [hp] at h2
      simp only [Bool.false_eq_true, if_false] at h2 ⊢
      refine ⟨h2, ?_⟩
      rw [tk, List.filter_append]
      simp [hp]
    | true =>
      rw [hp] at h2
      simp only [if_true] at h2 ⊢
      refine wM_mono h2 fun e o ρ3 h3 => ⟨h3.2, ?_⟩
      rw [tk, List.filter_append]
      simp [hp, h3.1]
  · subst h1 h2
    rw [List.length_map, List.take_length]
    exact hn
theorem filter_true (l : List α) : l.filter (fun _ => true) = l := List.filter_eq_self.mpr fun _ _ => rfl
/-- .. without one -/
theorem wK_mp {Q : List D → Env → Prop} {items : List D} (l : List α) (emb : α → D) (f : α → D) (hi : items = l.map emb)
    (step : ∀ x ∈ l, wF (tgS g (emb x) ρ) fun ρ1 => wM m ρ1 fun e _ ρ3 => e = f x ∧ wipeE vs ρ3 = ρ)
    (hn : Q (l.map f) ρ) : wK vs g mYes m items ρ Q :=
  wK_ls l emb (fun _ => true) f hi (fun x hx => wF_mono (step x hx) fun ρ1 h1 => by rw [wT_yes]; exact ⟨rfl, h1⟩) (by rw [filter_true]; exact hn)
/-- any, all over the image of a list -/
theorem wX_ls {want : Bool} {Q : Bool → Env → Prop} {items : List D} (l : List α) (emb : α → D) (p : α → Bool) (q : α → Bool) (hi : items = l.map emb)
    (step : ∀ x ∈ l, wF (tgS g (emb x) ρ) fun ρ1 => wT c ρ1 fun t ρ2 => t = p x ∧ if p x = true then wM m ρ2 fun e _ ρ3 => e = .bl (q x) ∧ wipeE vs ρ3 = ρ else wipeE vs ρ2 = ρ)
    (hn : Q (if want = true then (l.filter p).any q else (l.filter p).all q) ρ) : wX vs g c m want items ρ Q := by
  subst hi
  induction l with
  | nil =>
    show wF (some _) _
    rw [wF_some]
    cases want <;> exact hn
  | cons x r ih =>
    unfold wX
    simp only [List.map_cons, gxM, wF_bind]
    refine wF_mono (step x List.mem_cons_self) fun ρ1 h1 => wF_mono h1 fun z h2 => ?_
    obtain ⟨t, ρ2⟩ := z
    obtain ⟨rfl, h2⟩ := h2
    have rest : ∀ ρ', ρ' = ρ → Q (if want = true then (r.filter p).any q else (r.filter p).all q) ρ → wF (gxM vs g c m want (r.map emb) ρ') fun z => Q z.1 z.2 := fun ρ' e h => by
      subst e
      exact ih (fun y hy => step y (List.mem_cons_of_mem _ hy)) h
    dsimp only at h2 ⊢
    cases hp : p x with
    | false =>
      rw [hp] at h2
      simp only [Bool.false_eq_true, if_false] at h2 ⊢
      refine rest _ h2 ?_
      simpa [hp] using hn
    | true =>
      rw [hp] at h2
      simp only [if_true] at h2 ⊢
      rw [wF_bind]
      refine wF_mono h2 fun z h3 => ?_
      obtain ⟨⟨e, o⟩, ρ3⟩ := z
      obtain ⟨he, h5⟩ := h3
      dsimp only at h5 he ⊢
      subst he
      dsimp only
      by_cases hx : q x = want
      · rw [if_pos hx]
        rw [List.filter_cons, if_pos hp] at hn
        show wF (some _) _
        rw [wF_some]
        show Q want (wipeE vs ρ3)
        rw [h5]
        cases hq : q x <;> cases want <;> simp_all
      · rw [if_neg hx]
        refine rest _ h5 ?_
        rw [List.filter_cons, if_pos hp] at hn
        cases hq : q x <;> cases want <;> simp_all
theorem wX_mp {want : Bool} {Q : Bool → Env → Prop} {items : List D} (l : List α) (emb : α → D) (q : α → Bool) (hi : items = l.map emb)
    (step : ∀ x ∈ l, wF (tgS g (emb x) ρ) fun ρ1 => wM m ρ1 fun e _ ρ3 => e = .bl (q x) ∧ wipeE vs ρ3 = ρ)
    (hn : Q (if want = true then l.any q else l.all q) ρ) : wX vs g mYes m want items ρ Q :=
  wX_ls l emb (fun _ => true) q hi (fun x hx => wF_mono (step x hx) fun ρ1 h1 => by rw [wT_yes]; exact ⟨rfl, h1⟩) (by rw [filter_true]; exact hn)
/-- a loop that folds -/
theorem wL_fold {Q : Fl → Env → Prop} {β : Type} {items : List D} (l : List α) (emb : α → D) (S : β → Env → Prop) (fn : β → α → β) (b0 : β) (hi : items = l.map emb) (h0 : S b0 ρ)
    (step : ∀ z x ρ, x ∈ l → S z ρ → wF (tgS g (emb x) ρ) fun ρ1 => wS b ρ1 (turn (S (fn z x)) Q)) (hn : ∀ ρ, S (l.foldl fn b0) ρ → Q .nx ρ) : wL g b items ρ Q := by
  subst hi
  refine wL_inv (fun k ρ => S ((l.take k).foldl fn b0) ρ) h0 (fun k d ρ hd h => ?_) fun ρ h => ?_
  · rw [List.getElem?_map] at hd
    obtain ⟨x, hx, rfl⟩ := Option.map_eq_some_iff.mp hd
    have tk : l.take (k + 1) = l.take k ++ [x] := by rw [List.take_add_one, hx]; rfl
    rw [tk, List.foldl_append]
    exact step _ x ρ (List.mem_of_getElem? hx) h
  · rw [List.length_map, List.take_length] at h
    exact hn ρ h
/-- a loop that changes nothing that is told, but may end the def -/
theorem wL_all {Q : Fl → Env → Prop} {items : List D} (l : List α) (emb : α → D) (S : Env → Prop) (hi : items = l.map emb) (h0 : S ρ)
    (step : ∀ x ρ, x ∈ l → S ρ → wF (tgS g (emb x) ρ) fun ρ1 => wS b ρ1 (turn S Q)) (hn : ∀ ρ, S ρ → Q .nx ρ) : wL g b items ρ Q :=
  wL_fold l emb (fun (_ : Unit) ρ => S ρ) (fun _ _ => ()) () hi h0 (fun _ x ρ hx h => step x ρ hx h) hn
end
theorem rng0 (n : Nat) : rngD 0 n = (List.range n).map fun k : Nat => D.int (k : Int) := by
  unfold rngD
  apply List.map_congr_left
  intro i _
  rw [Int.zero_add]
theorem rng1 (n : Nat) : rngD 1 n = ((List.range n).map (· + 1)).map fun k : Nat => D.int (k : Int) := by
  unfold rngD
  rw [List.map_map]
  apply List.map_congr_left
  intro i _
  show D.int (1 + (i : Int)) = D.int ((i + 1 : Nat) : Int)
  rw [show (1 + (i : Int)) = ((i + 1 : Nat) : Int) by omega]
end Eng
set_option Elab.async false
set_option linter.all false
set_option maxRecDepth 100000
set_option maxHeartbeats 1000000
/-! EngY: dict comprehensions by what is wanted behind them. -/
namespace Eng
open PySem PySem.Spec PyProof.Rows L2
section
variable {ρ : Env} {g : Tg} {c : MT} {mk mv : ME} {vs : List Nat} {α : Type}
def wD (vs : List Nat) (g : Tg) (c : MT) (mk mv : ME) (items : List D) (ks : List Int) (ρ : Env) (Q : List Int → Env → Prop) : Prop := wF (dcM vs g c mk mv items ks ρ) fun q => Q q.1 q.2
@[simp ↓] theorem wM_dc {i : MI} {Q : D → Bool → Env → Prop} : wM (mDc vs i g c mk mv) ρ Q = wI i ρ fun items ρ1 => (items.length ≤ sizeLine ∧ vs.all (fun v => notOwn ρ1[v]?) = true) ∧ wD vs g c mk mv items [] (wipeE vs ρ1) fun ks ρ2 => Q (.dF ks) false (restE ρ1 vs ρ2) := by
  simp only [wM, wI, wD, mDc, wF_bind]
  congr 1
  funext q
  rw [wF_ite, wF_map, wF_none]
  by_cases h : q.1.length ≤ sizeLine ∧ vs.all (fun v => notOwn q.2[v]?) = true
  · rw [if_pos h]; exact propext ⟨fun z => ⟨h, z⟩, fun z => z.2⟩
  · rw [if_neg h]; exact propext ⟨fun z => z.elim, fun z => h z.1⟩
theorem addK_new {ks : List Int} {i : Int} (h : i ∉ ks) : addK ks i = ks ++ [i] := by
  unfold addK
  rw [if_neg]
  simpa using h
/-- the keys are unlike -/
theorem wD_mp {Q : List Int → Env → Prop} {items : List D} (l : List α) (emb : α → D) (f : α → Int) (hi : items = l.map emb) (hn : (l.map f).Nodup)
    (step : ∀ x ∈ l, wF (tgS g (emb x) ρ) fun ρ1 => wM mk ρ1 fun e _ ρ2 => e = .int (f x) ∧ wM mv ρ2 fun _ _ ρ3 => wipeE vs ρ3 = ρ)
    (hq : Q (l.map f) ρ) : wD vs g mYes mk mv items [] ρ Q := by
  subst hi
  have key : ∀ (l2 l1 : List α), l = l1 ++ l2 → wF (dcM vs g mYes mk mv (l2.map emb) (l1.map f) ρ) fun q => Q q.1 q.2 := by
    intro l2
    induction l2 with
    | nil =>
      intro l1 e
      rw [List.append_nil] at e
      show wF (some _) _
      rw [wF_some, ← e]
      exact hq
    | cons x r ih =>
      intro l1 e
      simp only [List.map_cons, dcM, wF_bind]
      refine wF_mono (step x (by rw [e]; exact List.mem_append_right _ List.mem_cons_self)) fun ρ1 h1 => ?_
      show wF (some _) _
      rw [wF_some]
      simp only [if_true, wF_bind]
      refine wF_mono h1 fun z h2 => ?_
      obtain ⟨⟨d, o⟩, ρ2⟩ := z
      obtain ⟨h2, h3⟩ := h2
      dsimp only at h2 h3 ⊢
      subst h2
      dsimp only
      rw [wF_bind]
      refine wF_mono h3 fun z h4 => ?_
      rw [h4]
      have hx : f x ∉ l1.map f := by
        rw [e, List.map_append, List.map_cons] at hn
        have := (List.nodup_append.mp hn).2.2
        intro hm
        exact this _ hm _ List.mem_cons_self rfl
      rw [addK_new hx]
      have := ih (l1 ++ [x]) (by rw [e, List.append_assoc]; rfl)
      rwa [List.map_append] at this
  exact key l [] rfl
end
end Eng
set_option Elab.async false
set_option linter.all false
set_option maxRecDepth 100000
set_option maxHeartbeats 2000000
/-! k72: the walk, printed by gen.py -/
namespace K72
open PySem PySem.Spec PyProof.Rows L2 Eng
def top (i : Nat) : Stmt := PySem.Challenge.pw_gaphouse_k72_whole_arf_closures.main.body.getD i (.Pass ⟨0, 0, 0, 0⟩)
abbrev st_remainders : Stmt := top 1
abbrev st_least_place : Stmt := top 2
abbrev st_sums_up_to : Stmt := top 4
abbrev st_least_of : Stmt := top 5
abbrev st_least_generators : Stmt := top 6
abbrev st_all_up_to : Stmt := top 7
abbrev st_greatest_gap : Stmt := top 8
abbrev st_next_one : Stmt := top 10
abbrev st_multiplicities : Stmt := top 11
abbrev st_is_arf : Stmt := top 13
abbrev st_sums_of_row : Stmt := top 14
abbrev st_semigroup_of : Stmt := top 15
abbrev st_arf_closure : Stmt := top 16
abbrev st_is_row : Stmt := top 17
abbrev st__law_refill : Stmt := top 19
abbrev st__law_draw : Stmt := top 20
abbrev st__law_exact : Stmt := top 21
abbrev st__law_gcd : Stmt := top 22
abbrev st__law_table : Stmt := top 23
abbrev st__law_least : Stmt := top 24
abbrev st__law_semigroup : Stmt := top 25
abbrev st__law_last : Stmt := top 26
abbrev st__law_arf : Stmt := top 27
abbrev st__law_row_right : Stmt := top 28
abbrev st__law_of_row : Stmt := top 29
abbrev st__law_closed : Stmt := top 30
abbrev st_law : Stmt := top 31
def ds : List (Str × Stmt) := [("remainders", st_remainders), ("least_place", st_least_place), ("sums_up_to", st_sums_up_to), ("least_of", st_least_of), ("least_generators", st_least_generators), ("all_up_to", st_all_up_to), ("greatest_gap", st_greatest_gap), ("next_one", st_next_one), ("multiplicities", st_multiplicities), ("is_arf", st_is_arf), ("sums_of_row", st_sums_of_row), ("semigroup_of", st_semigroup_of), ("arf_closure", st_arf_closure), ("is_row", st_is_row), ("_law_refill", st__law_refill), ("_law_draw", st__law_draw), ("_law_exact", st__law_exact), ("_law_gcd", st__law_gcd), ("_law_table", st__law_table), ("_law_least", st__law_least), ("_law_semigroup", st__law_semigroup), ("_law_last", st__law_last), ("_law_arf", st__law_arf), ("_law_row_right", st__law_row_right), ("_law_of_row", st__law_of_row), ("_law_closed", st__law_closed), ("law", st_law)]
def fr : List Str := ["enumerate", "range", "any", "tuple", "max", "sorted", "set", "len", "int", "isinstance", "list", "all", "str", "bool", "abs", "min"]
def tf : List He.Defn := [("sums_up_to", none), ("is_row", none)]
abbrev fuel : Nat := Com.fuel
section
variable {P : Program} {w : World} {K : PySem.W.Frag} {mg : Str → Option Value} {base : Heap} {T : List Addr}
/-! least_place -/
theorem sc_least_place : FnScope ["told", "done", "best", "place", "number"] ["told", "done"] (defScope st_least_place) := ⟨rfl, rfl, rfl, by decide +kernel, rfl, by decide +kernel, by decide +kernel⟩

theorem ok_least_place (G : Gd K mg base ds fr tf T) : Cal P w K mg base T 1 "least_place" 2 Com.m_least_place :=
 cal_of G 1 rfl sc_least_place (fun _ _ _ _ _ _ us hl => match us, hl with | [_, _], _ => rfl) fun _ A outer s H E hr =>
 (sb_cons (ss_set 2 sc_least_place.nd rfl (by first | exact .inl rfl | exact .inr rfl) se_non)
 (sb_cons (ss_for (some 0) PassesOwn.never rfl (si_enN 0 (by rfl) (G.free 0 _ rfl)) (sg_many rfl (sgs_cons 3 sc_least_place.nd rfl (by first | exact .inl rfl | exact .inr rfl) (sgs_cons 4 sc_least_place.nd rfl (by first | exact .inl rfl | exact .inr rfl) sgs_nil)))
 (sb_one (ss_if (st_sw (sw_and (st_notN (so_nm 4)) (sw_and (st_not (st_tru (so_ex (se_ix (so_nm 1) (so_nm 3))))) (sw_and1 (st_sw (sw_or (st_isN (so_nm 2)) (sw_or1 (st_lt (so_nm 4) (so_ex (se_ix (so_nm 0) (so_nm 2)))))))))))
 (sb_one (ss_set 2 sc_least_place.nd rfl (by first | exact .inl rfl | exact .inr rfl) (se_var 3)))
 sb_nil)))
 (sb_one (ss_ret (se_move 2)))))

/-! remainders -/
theorem sc_remainders : FnScope ["generators", "element", "told", "done", "place", "one", "goal"] ["generators", "element"] (defScope st_remainders) := ⟨rfl, rfl, rfl, by decide +kernel, rfl, by decide +kernel, by decide +kernel⟩

theorem ok_remainders (G : Gd K mg base ds fr tf T) : Cal P w K mg base T 2 "remainders" 2 Com.m_remainders :=
 cal_of G 0 rfl sc_remainders (fun _ _ _ _ _ _ us hl => match us, hl with | [_, _], _ => rfl) fun _ A outer s H E hr =>
 (sb_cons (ss_set 2 sc_remainders.nd rfl (by first | exact .inl rfl | exact .inr rfl) (se_mul (so_ex (se_lst (sv_cons se_non sv_nil))) (so_nm 1)))
 (sb_cons (ss_setix 2 se_int (so_ex se_int))
 (sb_cons (ss_set 3 sc_remainders.nd rfl (by first | exact .inl rfl | exact .inr rfl) (se_mul (so_ex (se_lst (sv_cons se_bl sv_nil))) (so_nm 1)))
 (sb_cons (ss_set 4 sc_remainders.nd rfl (by first | exact .inl rfl | exact .inr rfl) se_int)
 (sb_cons (ss_while fuel PassesOwn.never (st_notN (so_nm 4))
 (sb_cons (ss_setix 3 se_bl (so_nm 4))
 (sb_cons (ss_for (some 0) PassesOwn.never rfl (si_nm 0) (sg_one 5 sc_remainders.nd rfl (by first | exact .inl rfl | exact .inr rfl))
 (sb_cons (ss_set 6 sc_remainders.nd rfl (by first | exact .inl rfl | exact .inr rfl) (se_mod (so_ex (se_add (so_nm 4) (so_nm 5))) (so_nm 1)))
 (sb_one (ss_if (st_sw (sw_or (st_isN (so_ex (se_ix (so_nm 2) (so_nm 6)))) (sw_or1 (st_lt (so_ex (se_add (so_ex (se_ix (so_nm 2) (so_nm 4))) (so_nm 5))) (so_ex (se_ix (so_nm 2) (so_nm 6)))))))
 (sb_one (ss_setix 2 (se_add (so_ex (se_ix (so_nm 2) (so_nm 4))) (so_nm 5)) (so_nm 6)))
 sb_nil))))
 (sb_one (ss_set 4 sc_remainders.nd rfl (by first | exact .inl rfl | exact .inr rfl) (se_call (ok_least_place G) (hr.mono (by decide)) (by rfl) (sa_cons (so_nm 2) (sa_cons (so_nm 3) sa_nil))))))))
 (sb_one (ss_ret (se_move 2))))))))

/-! sums_up_to -/
theorem sc_sums_up_to : FnScope ["numbers", "most", "told", "number", "one"] ["numbers", "most"] (defScope st_sums_up_to) := ⟨rfl, rfl, rfl, by decide +kernel, rfl, by decide +kernel, by decide +kernel⟩

theorem ok_sums_up_to (G : Gd K mg base ds fr tf T) : Cal P w K mg base T 2 "sums_up_to" 2 Com.m_sums_up_to :=
 cal_of G 2 rfl sc_sums_up_to (fun _ _ _ _ _ _ us hl => match us, hl with | [_, _], _ => rfl) fun _ A outer s H E hr =>
 (sb_cons (ss_set 2 sc_sums_up_to.nd rfl (by first | exact .inl rfl | exact .inr rfl) (se_add (so_ex (se_lst (sv_cons se_bl sv_nil))) (so_ex (se_mul (so_ex (se_lst (sv_cons se_bl sv_nil))) (so_nm 1)))))
 (sb_cons (ss_for none PassesOwn.never rfl (si_r2 (by rfl) (G.free 1 _ rfl) (sa_cons (so_ex se_int) (sa_cons (so_ex (se_add (so_nm 1) (so_ex se_int))) sa_nil))) (sg_one 3 sc_sums_up_to.nd rfl (by first | exact .inl rfl | exact .inr rfl))
 (sb_one (ss_setix 2 (se_any (some 0) (k := 0) (hr.mono (by decide)) (by rfl) (G.free 2 _ rfl) rfl sc_sums_up_to.nd (G.tab 0 _ rfl).2 (G.tab 0 _ rfl).1 rfl (si_nm 0) (blkOk_by (own := [("one", 4)]) (by kernel_rfl)) (by kernel_rfl) (fun _ _ _ _ _ _ _ _ _ => (sgc_one 4 sc_sums_up_to.nd rfl (by first | exact .inl rfl | exact .inr rfl))) (fun _ _ _ _ _ _ _ _ hr' => sts_nil) (fun _ _ _ _ _ _ _ _ hr' => (se_and (se_le (so_nm 4) (so_nm 3)) (se_one (se_ix (so_nm 2) (so_ex (se_sub (so_nm 3) (so_nm 4)))))))) (so_nm 3))))
 (sb_one (ss_ret (se_move 2)))))

/-! least_of -/
theorem sc_least_of : FnScope ["numbers", "told", "number"] ["numbers"] (defScope st_least_of) := ⟨rfl, rfl, rfl, by decide +kernel, rfl, by decide +kernel, by decide +kernel⟩

theorem ok_least_of (G : Gd K mg base ds fr tf T) : Cal P w K mg base T 3 "least_of" 1 Com.m_least_of :=
 cal_of G 3 rfl sc_least_of (fun _ _ _ _ _ _ us hl => match us, hl with | [_], _ => rfl) fun _ A outer s H E hr =>
 (sb_cons (ss_set 1 sc_least_of.nd rfl (by first | exact .inl rfl | exact .inr rfl) (se_lst sv_nil))
 (sb_cons (ss_for (some 0) PassesOwn.never rfl (si_nm 0) (sg_one 2 sc_least_of.nd rfl (by first | exact .inl rfl | exact .inr rfl))
 (sb_one (ss_if (st_sw (sw_or (st_not (st_tru (so_nm 1))) (sw_or1 (st_not (st_tru (so_ex (se_ix (so_ex (se_call (ok_sums_up_to G) (hr.mono (by decide)) (by rfl) (sa_cons (so_nm 1) (sa_cons (so_nm 2) sa_nil)))) (so_nm 2))))))))
 (sb_one (ss_do (se_app 1 (se_var 2))))
 sb_nil)))
 (sb_one (ss_ret (se_tupleC (by rfl) (G.free 3 _ rfl) (so_nm 1))))))

/-! least_generators -/
theorem sc_least_generators : FnScope ["numbers"] ["numbers"] (defScope st_least_generators) := ⟨rfl, rfl, rfl, by decide +kernel, rfl, by decide +kernel, by decide +kernel⟩

theorem ok_least_generators (G : Gd K mg base ds fr tf T) : Cal P w K mg base T 4 "least_generators" 1 Com.m_least_generators :=
 cal_of G 4 rfl sc_least_generators (fun _ _ _ _ _ _ us hl => match us, hl with | [_], _ => rfl) fun _ A outer s H E hr =>
 (sb_one (ss_ret (se_call (ok_least_of G) (hr.mono (by decide)) (by rfl) (sa_cons (so_nm 0) sa_nil))))

/-! all_up_to -/
theorem sc_all_up_to : FnScope ["generators", "most", "number", "is_sum"] ["generators", "most"] (defScope st_all_up_to) := ⟨rfl, rfl, rfl, by decide +kernel, rfl, by decide +kernel, by decide +kernel⟩

theorem ok_all_up_to (G : Gd K mg base ds fr tf T) : Cal P w K mg base T 3 "all_up_to" 2 Com.m_all_up_to :=
 cal_of G 5 rfl sc_all_up_to (fun _ _ _ _ _ _ us hl => match us, hl with | [_, _], _ => rfl) fun _ A outer s H E hr =>
 (sb_one (ss_ret (se_lc none rfl sc_all_up_to.nd (si_enE (by rfl) (G.free 0 _ rfl) (se_call (ok_sums_up_to G) (hr.mono (by decide)) (by rfl) (sa_cons (so_nm 0) (sa_cons (so_nm 1) sa_nil)))) (blkOk_by (own := [("number", 2), ("is_sum", 3)]) (by kernel_rfl)) (fun _ _ _ _ _ => (sgc_many rfl (sgcs_cons 2 sc_all_up_to.nd rfl (by first | exact .inl rfl | exact .inr rfl) (sgcs_cons 3 sc_all_up_to.nd rfl (by first | exact .inl rfl | exact .inr rfl) sgcs_nil)))) (fun _ _ _ _ _ => (sts_one (st_tru (so_nm 3)))) (fun _ _ _ _ _ => (se_var 2)))))

/-! greatest_gap -/
theorem sc_greatest_gap : FnScope ["generators", "first"] ["generators"] (defScope st_greatest_gap) := ⟨rfl, rfl, rfl, by decide +kernel, rfl, by decide +kernel, by decide +kernel⟩

theorem ok_greatest_gap (G : Gd K mg base ds fr tf T) : Cal P w K mg base T 3 "greatest_gap" 1 Com.m_greatest_gap :=
 cal_of G 6 rfl sc_greatest_gap (fun _ _ _ _ _ _ us hl => match us, hl with | [_], _ => rfl) fun _ A outer s H E hr =>
 (sb_cons (ss_set 1 sc_greatest_gap.nd rfl (by first | exact .inl rfl | exact .inr rfl) (se_ix (so_nm 0) (so_ex se_int)))
 (sb_one (ss_ret (se_sub (so_ex (se_max rfl (by rfl) (G.free 4 _ rfl) (so_ex (se_call (ok_remainders G) (hr.mono (by decide)) (by rfl) (sa_cons (so_nm 0) (sa_cons (so_nm 1) sa_nil)))))) (so_nm 1)))))

/-! next_one -/
theorem sc_next_one : FnScope ["generators", "m", "number"] ["generators"] (defScope st_next_one) := ⟨rfl, rfl, rfl, by decide +kernel, rfl, by decide +kernel, by decide +kernel⟩

theorem ok_next_one (G : Gd K mg base ds fr tf T) : Cal P w K mg base T 5 "next_one" 1 Com.m_next_one :=
 cal_of G 7 rfl sc_next_one (fun _ _ _ _ _ _ us hl => match us, hl with | [_], _ => rfl) fun _ A outer s H E hr =>
 (sb_cons (ss_set 1 sc_next_one.nd rfl (by first | exact .inl rfl | exact .inr rfl) (se_ix (so_nm 0) (so_ex se_int)))
 (sb_one (ss_ret (se_call (ok_least_generators G) (hr.mono (by decide)) (by rfl) (sa_cons (so_ex (se_tupleC (by rfl) (G.free 3 _ rfl) (so_ex (se_sortSet (so_ex (se_add (so_ex (se_lst (sv_cons (se_var 1) sv_nil))) (so_ex (se_lc none rfl sc_next_one.nd (si_ex (se_slL (so_nm 0) (so_ex se_int))) (blkOk_by (own := [("number", 2)]) (by kernel_rfl)) (fun _ _ _ _ _ => (sgc_one 2 sc_next_one.nd rfl (by first | exact .inl rfl | exact .inr rfl))) (fun _ _ _ _ _ => sts_nil) (fun _ _ _ _ _ => (se_sub (so_nm 2) (so_nm 1))))))) rfl (by rfl) (G.free 5 _ rfl) (by rfl) (G.free 6 _ rfl))))) sa_nil)))))

/-! multiplicities -/
theorem sc_multiplicities : FnScope ["generators", "told"] ["generators"] (defScope st_multiplicities) := ⟨rfl, rfl, rfl, by decide +kernel, rfl, by decide +kernel, by decide +kernel⟩

theorem ok_multiplicities (G : Gd K mg base ds fr tf T) : Cal P w K mg base T 6 "multiplicities" 1 Com.m_multiplicities :=
 cal_of G 8 rfl sc_multiplicities (fun _ _ _ _ _ _ us hl => match us, hl with | [_], _ => rfl) fun _ A outer s H E hr =>
 (sb_cons (ss_set 1 sc_multiplicities.nd rfl (by first | exact .inl rfl | exact .inr rfl) (se_lst sv_nil))
 (sb_cons (ss_while fuel PassesOwn.never (st_gt (so_ex (se_ix (so_nm 0) (so_ex se_int))) (so_ex se_int))
 (sb_cons (ss_do (se_app 1 (se_ix (so_nm 0) (so_ex se_int))))
 (sb_one (ss_set 0 sc_multiplicities.nd rfl (by first | exact .inl rfl | exact .inr rfl) (se_call (ok_next_one G) (hr.mono (by decide)) (by rfl) (sa_cons (so_nm 0) sa_nil))))))
 (sb_one (ss_ret (se_add (so_ex (se_tupleC (by rfl) (G.free 3 _ rfl) (so_nm 1))) (so_ex (se_tup (sv_cons se_int sv_nil))))))))

/-! is_arf -/
theorem sc_is_arf : FnScope ["generators", "last", "low", "number", "held", "z", "at", "x", "y"] ["generators"] (defScope st_is_arf) := ⟨rfl, rfl, rfl, by decide +kernel, rfl, by decide +kernel, by decide +kernel⟩

theorem ok_is_arf (G : Gd K mg base ds fr tf T) : Cal P w K mg base T 4 "is_arf" 1 Com.m_is_arf :=
 cal_of G 9 rfl sc_is_arf (fun _ _ _ _ _ _ us hl => match us, hl with | [_], _ => rfl) fun _ A outer s H E hr =>
 (sb_cons (ss_set 1 sc_is_arf.nd rfl (by first | exact .inl rfl | exact .inr rfl) (se_call (ok_greatest_gap G) (hr.mono (by decide)) (by rfl) (sa_cons (so_nm 0) sa_nil)))
 (sb_cons (ss_set 2 sc_is_arf.nd rfl (by first | exact .inl rfl | exact .inr rfl) (se_call (ok_all_up_to G) (hr.mono (by decide)) (by rfl) (sa_cons (so_nm 0) (sa_cons (so_ex (se_add (so_nm 1) (so_ex se_int))) sa_nil))))
 (sb_cons (ss_setDc (some 2) 4 rfl sc_is_arf.nd rfl rfl (sw_trueD rfl rfl rfl (by decide +kernel)) (si_nm 2) (blkOk_by (own := [("number", 3)]) (by kernel_rfl)) (fun _ _ _ _ _ => (sgc_one 3 sc_is_arf.nd rfl (by first | exact .inl rfl | exact .inr rfl))) (fun _ _ _ _ _ => sts_nil) (fun _ _ _ _ _ => (se_var 3)) (fun _ _ _ _ _ => se_bl))
 (sb_cons (ss_for (some 2) PassesOwn.never rfl (si_nm 2) (sg_one 5 sc_is_arf.nd rfl (by first | exact .inl rfl | exact .inr rfl))
 (sb_one (ss_for none PassesOwn.never rfl (si_enL 2 (by rfl) (G.free 0 _ rfl)) (sg_many rfl (sgs_cons 6 sc_is_arf.nd rfl (by first | exact .inl rfl | exact .inr rfl) (sgs_cons 7 sc_is_arf.nd rfl (by first | exact .inl rfl | exact .inr rfl) sgs_nil)))
 (sb_one (ss_for none PassesOwn.never rfl (si_ex (se_slL (so_nm 2) (so_nm 6))) (sg_one 8 sc_is_arf.nd rfl (by first | exact .inl rfl | exact .inr rfl))
 (sb_one (ss_if (st_sw (sw_and (st_le (so_nm 5) (so_nm 7)) (sw_and (st_le (so_ex (se_sub (so_ex (se_add (so_nm 7) (so_nm 8))) (so_nm 5))) (so_nm 1)) (sw_and1 (st_notin hr (so_ex (se_sub (so_ex (se_add (so_nm 7) (so_nm 8))) (so_nm 5))) (so_nm 4))))))
 (sb_one (ss_ret se_bl))
 sb_nil)))))))
 (sb_one (ss_ret se_bl))))))

/-! sums_of_row -/
theorem sc_sums_of_row : FnScope ["row", "told", "number"] ["row"] (defScope st_sums_of_row) := ⟨rfl, rfl, rfl, by decide +kernel, rfl, by decide +kernel, by decide +kernel⟩

theorem ok_sums_of_row (G : Gd K mg base ds fr tf T) : Cal P w K mg base T 1 "sums_of_row" 1 Com.m_sums_of_row :=
 cal_of G 10 rfl sc_sums_of_row (fun _ _ _ _ _ _ us hl => match us, hl with | [_], _ => rfl) fun _ A outer s H E hr =>
 (sb_cons (ss_set 1 sc_sums_of_row.nd rfl (by first | exact .inl rfl | exact .inr rfl) (se_lst (sv_cons se_int sv_nil)))
 (sb_cons (ss_for (some 0) PassesOwn.never rfl (si_nm 0) (sg_one 2 sc_sums_of_row.nd rfl (by first | exact .inl rfl | exact .inr rfl))
 (sb_one (ss_do (se_app 1 (se_add (so_ex (se_ix (so_nm 1) (so_ex (se_neg (so_ex se_int))))) (so_nm 2))))))
 (sb_one (ss_ret (se_move 1)))))

/-! semigroup_of -/
theorem sc_semigroup_of : FnScope ["row", "low", "last"] ["row"] (defScope st_semigroup_of) := ⟨rfl, rfl, rfl, by decide +kernel, rfl, by decide +kernel, by decide +kernel⟩

theorem ok_semigroup_of (G : Gd K mg base ds fr tf T) : Cal P w K mg base T 5 "semigroup_of" 1 Com.m_semigroup_of :=
 cal_of G 11 rfl sc_semigroup_of (fun _ _ _ _ _ _ us hl => match us, hl with | [_], _ => rfl) fun _ A outer s H E hr =>
 (sb_cons (ss_set 1 sc_semigroup_of.nd rfl (by first | exact .inl rfl | exact .inr rfl) (se_slL (so_ex (se_call (ok_sums_of_row G) (hr.mono (by decide)) (by rfl) (sa_cons (so_nm 0) sa_nil))) (so_ex se_int)))
 (sb_cons (ss_set 2 sc_semigroup_of.nd rfl (by first | exact .inl rfl | exact .inr rfl) (se_ix (so_nm 1) (so_ex (se_neg (so_ex se_int)))))
 (sb_one (ss_ret (se_call (ok_least_generators G) (hr.mono (by decide)) (by rfl) (sa_cons (so_ex (se_add (so_ex (se_tupleC (by rfl) (G.free 3 _ rfl) (so_nm 1))) (so_ex (se_tupRg2 rfl (by rfl) (G.free 3 _ rfl) (by rfl) (G.free 1 _ rfl) (so_ex (se_add (so_nm 2) (so_ex se_int))) (so_ex (se_add (so_ex (se_add (so_nm 2) (so_ex (se_ix (so_nm 0) (so_ex se_int))))) (so_ex se_int))))))) sa_nil))))))

/-! arf_closure -/
theorem sc_arf_closure : FnScope ["generators"] ["generators"] (defScope st_arf_closure) := ⟨rfl, rfl, rfl, by decide +kernel, rfl, by decide +kernel, by decide +kernel⟩

theorem ok_arf_closure (G : Gd K mg base ds fr tf T) : Cal P w K mg base T 7 "arf_closure" 1 Com.m_arf_closure :=
 cal_of G 12 rfl sc_arf_closure (fun _ _ _ _ _ _ us hl => match us, hl with | [_], _ => rfl) fun _ A outer s H E hr =>
 (sb_one (ss_ret (se_call (ok_semigroup_of G) (hr.mono (by decide)) (by rfl) (sa_cons (so_ex (se_call (ok_multiplicities G) (hr.mono (by decide)) (by rfl) (sa_cons (so_nm 0) sa_nil))) sa_nil))))

/-! is_row -/
theorem sc_is_row : FnScope ["row", "number", "at", "rest", "other"] ["row"] (defScope st_is_row) := ⟨rfl, rfl, rfl, by decide +kernel, rfl, by decide +kernel, by decide +kernel⟩
def b_is_row : MS :=
 sSeq (sIf (mOr (mNot (mTr (.nm 0))) (mOr (mB (mBin opNe (.ex (mBin opIx (.nm 0) (.ex (mUn opNeg (.ex (mC (.int 1))))))) (.ex (mC (.int 1))))) (mTr (.ex (mGx [1] (iEx (mSlH (.nm 0) (.ex (mUn opNeg (.ex (mC (.int 1))))))) (.one 1) (mYes) (mBin opLt (.nm 1) (.ex (mC (.int 2)))) true)))))
 (sRet (mC (.bl false)))
 (sNop))
 (sSeq (sFor (iEnN 0) (.many [2, 1])
 (sSeq (sSet 3 (mVar 1))
 (sSeq (sFor (iEx (mSlL (.nm 0) (.ex (mBin opAdd (.nm 2) (.ex (mC (.int 1))))))) (.one 4)
 (sIf (mB (mBin opGt (.nm 3) (.ex (mC (.int 0)))))
 (sSet 3 (mBin opSub (.nm 3) (.nm 4)))
 (sNop)))
 (sIf (mB (mBin opLt (.nm 3) (.ex (mC (.int 0)))))
 (sRet (mC (.bl false)))
 (sNop)))))
 (sRet (mC (.bl true))))
def m_is_row : FM := mFn [] 4 b_is_row
theorem ok_is_row (G : Gd K mg base ds fr tf T) : Cal P w K mg base T 2 "is_row" 1 m_is_row :=
 cal_of G 13 rfl sc_is_row (fun _ _ _ _ _ _ us hl => match us, hl with | [_], _ => rfl) fun _ A outer s H E hr =>
 (sb_cons (ss_if (st_sw (sw_or (st_not (st_tru (so_nm 0))) (sw_or (st_ne hr (so_ex (se_ix (so_nm 0) (so_ex (se_neg (so_ex se_int))))) (so_ex se_int)) (sw_or1 (st_tru (so_ex (se_any none (k := 0) (hr.mono (by decide)) (by rfl) (G.free 2 _ rfl) rfl sc_is_row.nd (G.tab 1 _ rfl).2 (G.tab 1 _ rfl).1 rfl (si_ex (se_slH (so_nm 0) (so_ex (se_neg (so_ex se_int))))) (blkOk_by (own := [("number", 1)]) (by kernel_rfl)) (by kernel_rfl) (fun _ _ _ _ _ _ _ _ _ => (sgc_one 1 sc_is_row.nd rfl (by first | exact .inl rfl | exact .inr rfl))) (fun _ _ _ _ _ _ _ _ hr' => sts_nil) (fun _ _ _ _ _ _ _ _ hr' => (se_lt (so_nm 1) (so_ex se_int))))))))))
 (sb_one (ss_ret se_bl))
 sb_nil)
 (sb_cons (ss_for (some 0) PassesOwn.never rfl (si_enN 0 (by rfl) (G.free 0 _ rfl)) (sg_many rfl (sgs_cons 2 sc_is_row.nd rfl (by first | exact .inl rfl | exact .inr rfl) (sgs_cons 1 sc_is_row.nd rfl (by first | exact .inl rfl | exact .inr rfl) sgs_nil)))
 (sb_cons (ss_set 3 sc_is_row.nd rfl (by first | exact .inl rfl | exact .inr rfl) (se_var 1))
 (sb_cons (ss_for none PassesOwn.never rfl (si_ex (se_slL (so_nm 0) (so_ex (se_add (so_nm 2) (so_ex se_int))))) (sg_one 4 sc_is_row.nd rfl (by first | exact .inl rfl | exact .inr rfl))
 (sb_one (ss_if (st_gt (so_nm 3) (so_ex se_int))
 (sb_one (ss_set 3 sc_is_row.nd rfl (by first | exact .inl rfl | exact .inr rfl) (se_sub (so_nm 3) (so_nm 4))))
 sb_nil)))
 (sb_one (ss_if (st_lt (so_nm 3) (so_ex se_int))
 (sb_one (ss_ret se_bl))
 sb_nil)))))
 (sb_one (ss_ret se_bl))))

/-! _law_refill -/
theorem sc__law_refill : FnScope ["script", "k", "cell"] ["script", "k"] (defScope st__law_refill) := ⟨rfl, rfl, rfl, by decide +kernel, rfl, by decide +kernel, by decide +kernel⟩

theorem ok__law_refill (G : Gd K mg base ds fr tf T) : Cal P w K mg base T 1 "_law_refill" 2 Com.m__law_refill :=
 cal_of G 14 rfl sc__law_refill (fun _ _ _ _ _ _ us hl => match us, hl with | [_, _], _ => rfl) fun _ A outer s H E hr =>
 (sb_cons (ss_set 2 sc__law_refill.nd rfl (by first | exact .inl rfl | exact .inr rfl) se_int)
 (sb_cons (ss_if (st_tru (so_nm 0))
 (sb_one (ss_set 2 sc__law_refill.nd rfl (by first | exact .inl rfl | exact .inr rfl) (se_ix (so_nm 0) (so_ex (se_mod (so_nm 1) (so_ex (se_len (by rfl) (G.free 7 _ rfl) (so_nm 0))))))))
 sb_nil)
 (sb_cons (ss_if (st_lt (so_nm 2) (so_ex se_int))
 (sb_one (ss_set 2 sc__law_refill.nd rfl (by first | exact .inl rfl | exact .inr rfl) (se_sub (so_ex se_int) (so_ex (se_mul (so_ex se_int) (so_nm 2))))))
 sb_nil)
 (sb_cons (ss_if (st_sw (sw_and (st_ge (so_nm 2) (so_ex (se_pow (so_ex se_int) (so_ex se_int)))) (sw_and1 (st_lt (so_nm 1) (so_ex (se_len (by rfl) (G.free 7 _ rfl) (so_nm 0)))))))
 (sb_one (ss_ret (se_move 2)))
 sb_nil)
 (sb_one (ss_ret (se_mod (so_ex (se_intC (by rfl) (G.free 8 _ rfl) (so_ex (se_add (so_ex (se_mul (so_ex (se_intC (by rfl) (G.free 8 _ rfl) (so_ex (se_add (so_ex (se_add (so_ex (se_mul (so_nm 2) (so_ex se_int))) (so_ex (se_mul (so_nm 1) (so_ex se_int))))) (so_ex se_int))))) (so_ex se_int))) (so_ex se_int))))) (so_ex se_int))))))))

/-! _law_draw -/
theorem sc__law_draw : FnScope ["state", "script", "size", "digit"] ["state", "script", "size"] (defScope st__law_draw) := ⟨rfl, rfl, rfl, by decide +kernel, rfl, by decide +kernel, by decide +kernel⟩

theorem ok__law_draw (G : Gd K mg base ds fr tf T) : Cal P w K mg base T 2 "_law_draw" 3 Com.m__law_draw :=
 cal_of G 15 rfl sc__law_draw (fun _ _ _ _ _ _ us hl => match us, hl with | [_, _, _], _ => rfl) fun _ A outer s H E hr =>
 (sb_cons (ss_if (st_eq hr (so_ex (se_ix (so_nm 0) (so_ex se_int))) (so_ex se_int))
 (sb_cons (ss_setix 0 (se_call (ok__law_refill G) (hr.mono (by decide)) (by rfl) (sa_cons (so_nm 1) (sa_cons (so_ex (se_ix (so_nm 0) (so_ex se_int))) sa_nil))) (so_ex se_int))
 (sb_one (ss_setix 0 (se_add (so_ex (se_ix (so_nm 0) (so_ex se_int))) (so_ex se_int)) (so_ex se_int))))
 sb_nil)
 (sb_cons (ss_set 3 sc__law_draw.nd rfl (by first | exact .inl rfl | exact .inr rfl) (se_mod (so_ex (se_intC (by rfl) (G.free 8 _ rfl) (so_ex (se_ix (so_nm 0) (so_ex se_int))))) (so_nm 2)))
 (sb_cons (ss_setix 0 (se_div (so_ex (se_ix (so_nm 0) (so_ex se_int))) (so_nm 2)) (so_ex se_int))
 (sb_one (ss_ret (se_move 3))))))

/-! _law_exact -/
theorem sc__law_exact : FnScope ["first", "second", "k", "alike"] ["first", "second"] (defScope st__law_exact) := ⟨rfl, rfl, rfl, by decide +kernel, rfl, by decide +kernel, by decide +kernel⟩

theorem okk__law_exact (G : Gd K mg base ds fr tf T) : ∀ n : Nat, Cal P w K mg base T (0 + n) "_law_exact" 2 (Com.mm__law_exact n)
  | 0 => cal_none G 16 rfl ["first", "second"] rfl (fun _ _ _ _ _ _ us hl => match us, hl with | [_, _], _ => rfl)
  | n + 1 => have ih := okk__law_exact G n
 cal_of G 16 rfl sc__law_exact (fun _ _ _ _ _ _ us hl => match us, hl with | [_, _], _ => rfl) fun _ A outer s H E hr =>
 (sb_cons (ss_if (st_tru (so_ex (se_isi2 .list .tuple (so_nm 0) (by rfl) (G.free 9 _ rfl) (by rfl) (G.free 10 _ rfl) PyProof.Rows.boot_list (by rfl) (G.free 3 _ rfl) PyProof.Rows.boot_tuple)))
 (sb_cons (ss_if (st_sw (sw_or (st_ne hr (so_ex (se_isi .list (so_nm 0) (by rfl) (G.free 9 _ rfl) (by rfl) (G.free 10 _ rfl) PyProof.Rows.boot_list)) (so_ex (se_isi .list (so_nm 1) (by rfl) (G.free 9 _ rfl) (by rfl) (G.free 10 _ rfl) PyProof.Rows.boot_list))) (sw_or1 (st_ne hr (so_ex (se_isi .tuple (so_nm 0) (by rfl) (G.free 9 _ rfl) (by rfl) (G.free 3 _ rfl) PyProof.Rows.boot_tuple)) (so_ex (se_isi .tuple (so_nm 1) (by rfl) (G.free 9 _ rfl) (by rfl) (G.free 3 _ rfl) PyProof.Rows.boot_tuple))))))
 (sb_one (ss_ret se_bl))
 sb_nil)
 (sb_one (ss_ret (se_and (se_eq hr (so_ex (se_len (by rfl) (G.free 7 _ rfl) (so_nm 0))) (so_ex (se_len (by rfl) (G.free 7 _ rfl) (so_nm 1)))) (se_one (se_allL rfl (by rfl) (G.free 11 _ rfl) (so_ex (se_lc none rfl sc__law_exact.nd (si_r1 (by rfl) (G.free 1 _ rfl) (sa_cons (so_ex (se_len (by rfl) (G.free 7 _ rfl) (so_nm 0))) sa_nil)) (blkOk_by (own := [("k", 2)]) (by kernel_rfl)) (fun _ _ _ _ _ => (sgc_one 2 sc__law_exact.nd rfl (by first | exact .inl rfl | exact .inr rfl))) (fun _ _ _ _ _ => sts_nil) (fun _ _ _ _ _ => (se_call ih hr (by rfl) (sa_cons (so_ex (se_ix (so_nm 0) (so_nm 2))) (sa_cons (so_ex (se_ix (so_nm 1) (so_nm 2))) sa_nil))))))))))))
 sb_nil)
 (sb_cons (ss_if (st_sw (sw_or (st_isN (so_nm 0)) (sw_or1 (st_isN (so_nm 1)))))
 (sb_one (ss_ret (se_and (se_isN (so_nm 0)) (se_one (se_isN (so_nm 1))))))
 sb_nil)
 (sb_cons (ss_set 3 sc__law_exact.nd rfl (by first | exact .inl rfl | exact .inr rfl) (se_and (se_eq hr (so_ex (se_isi .str (so_nm 0) (by rfl) (G.free 9 _ rfl) (by rfl) (G.free 12 _ rfl) PyProof.Rows.boot_str)) (so_ex (se_isi .str (so_nm 1) (by rfl) (G.free 9 _ rfl) (by rfl) (G.free 12 _ rfl) PyProof.Rows.boot_str))) (se_one (se_eq hr (so_ex (se_isi .bool (so_nm 0) (by rfl) (G.free 9 _ rfl) (by rfl) (G.free 13 _ rfl) PyProof.Rows.boot_bool)) (so_ex (se_isi .bool (so_nm 1) (by rfl) (G.free 9 _ rfl) (by rfl) (G.free 13 _ rfl) PyProof.Rows.boot_bool))))))
 (sb_one (ss_ret (se_and (se_var 3) (se_and (se_eq hr (so_ex (se_isi .int (so_nm 0) (by rfl) (G.free 9 _ rfl) (by rfl) (G.free 8 _ rfl) PyProof.Rows.boot_int)) (so_ex (se_isi .int (so_nm 1) (by rfl) (G.free 9 _ rfl) (by rfl) (G.free 8 _ rfl) PyProof.Rows.boot_int))) (se_one (se_eq hr (so_nm 0) (so_nm 1))))))))))
theorem ok__law_exact (G : Gd K mg base ds fr tf T) : Cal P w K mg base T 6 "_law_exact" 2 Com.m__law_exact := okk__law_exact G 6

/-! _law_gcd -/
theorem sc__law_gcd : FnScope ["one", "other", "rest"] ["one", "other"] (defScope st__law_gcd) := ⟨rfl, rfl, rfl, by decide +kernel, rfl, by decide +kernel, by decide +kernel⟩

theorem ok__law_gcd (G : Gd K mg base ds fr tf T) : Cal P w K mg base T 1 "_law_gcd" 2 Com.m__law_gcd :=
 cal_of G 17 rfl sc__law_gcd (fun _ _ _ _ _ _ us hl => match us, hl with | [_, _], _ => rfl) fun _ A outer s H E hr =>
 (sb_cons (ss_par 0 1 rfl sc__law_gcd.nd rfl rfl rfl rfl (sv_cons (se_abs (by rfl) (G.free 14 _ rfl) (so_nm 0)) (sv_cons (se_abs (by rfl) (G.free 14 _ rfl) (so_nm 1)) sv_nil)) (by rfl))
 (sb_cons (ss_while fuel PassesOwn.never (st_gt (so_nm 1) (so_ex se_int))
 (sb_cons (ss_set 2 sc__law_gcd.nd rfl (by first | exact .inl rfl | exact .inr rfl) (se_mod (so_ex (se_intC (by rfl) (G.free 8 _ rfl) (so_nm 0))) (so_nm 1)))
 (sb_cons (ss_set 0 sc__law_gcd.nd rfl (by first | exact .inl rfl | exact .inr rfl) (se_var 1))
 (sb_one (ss_set 1 sc__law_gcd.nd rfl (by first | exact .inl rfl | exact .inr rfl) (se_var 2))))))
 (sb_one (ss_ret (se_move 0)))))

/-! _law_table -/
theorem sc__law_table : FnScope ["generators", "most", "k", "out", "number", "one"] ["generators", "most"] (defScope st__law_table) := ⟨rfl, rfl, rfl, by decide +kernel, rfl, by decide +kernel, by decide +kernel⟩

theorem ok__law_table (G : Gd K mg base ds fr tf T) : Cal P w K mg base T 1 "_law_table" 2 Com.m__law_table :=
 cal_of G 18 rfl sc__law_table (fun _ _ _ _ _ _ us hl => match us, hl with | [_, _], _ => rfl) fun _ A outer s H E hr =>
 (sb_cons (ss_set 3 sc__law_table.nd rfl (by first | exact .inl rfl | exact .inr rfl) (se_add (so_ex (se_lst (sv_cons se_bl sv_nil))) (so_ex (se_lc none rfl sc__law_table.nd (si_r1 (by rfl) (G.free 1 _ rfl) (sa_cons (so_nm 1) sa_nil)) (blkOk_by (own := [("k", 2)]) (by kernel_rfl)) (fun _ _ _ _ _ => (sgc_one 2 sc__law_table.nd rfl (by first | exact .inl rfl | exact .inr rfl))) (fun _ _ _ _ _ => sts_nil) (fun _ _ _ _ _ => se_bl)))))
 (sb_cons (ss_for none PassesOwn.never rfl (si_r2 (by rfl) (G.free 1 _ rfl) (sa_cons (so_ex se_int) (sa_cons (so_ex (se_add (so_nm 1) (so_ex se_int))) sa_nil))) (sg_one 4 sc__law_table.nd rfl (by first | exact .inl rfl | exact .inr rfl))
 (sb_one (ss_for (some 0) PassesOwn.never rfl (si_nm 0) (sg_one 5 sc__law_table.nd rfl (by first | exact .inl rfl | exact .inr rfl))
 (sb_one (ss_if (st_sw (sw_and (st_le (so_nm 5) (so_nm 4)) (sw_and1 (st_tru (so_ex (se_ix (so_nm 3) (so_ex (se_sub (so_nm 4) (so_nm 5)))))))))
 (sb_one (ss_setix 3 se_bl (so_nm 4)))
 sb_nil)))))
 (sb_one (ss_ret (se_move 3)))))

/-! _law_least -/
theorem sc__law_least : FnScope ["numbers", "out", "number"] ["numbers"] (defScope st__law_least) := ⟨rfl, rfl, rfl, by decide +kernel, rfl, by decide +kernel, by decide +kernel⟩

theorem ok__law_least (G : Gd K mg base ds fr tf T) : Cal P w K mg base T 2 "_law_least" 1 Com.m__law_least :=
 cal_of G 19 rfl sc__law_least (fun _ _ _ _ _ _ us hl => match us, hl with | [_], _ => rfl) fun _ A outer s H E hr =>
 (sb_cons (ss_set 1 sc__law_least.nd rfl (by first | exact .inl rfl | exact .inr rfl) (se_lst sv_nil))
 (sb_cons (ss_for none PassesOwn.never rfl (si_ex (se_sortSet (so_nm 0) rfl (by rfl) (G.free 5 _ rfl) (by rfl) (G.free 6 _ rfl))) (sg_one 2 sc__law_least.nd rfl (by first | exact .inl rfl | exact .inr rfl))
 (sb_one (ss_if (st_sw (sw_or (st_not (st_tru (so_nm 1))) (sw_or1 (st_not (st_tru (so_ex (se_ix (so_ex (se_call (ok__law_table G) (hr.mono (by decide)) (by rfl) (sa_cons (so_nm 1) (sa_cons (so_nm 2) sa_nil)))) (so_nm 2))))))))
 (sb_one (ss_do (se_app 1 (se_var 2))))
 sb_nil)))
 (sb_one (ss_ret (se_tupleC (by rfl) (G.free 3 _ rfl) (so_nm 1))))))

/-! _law_semigroup -/
theorem sc__law_semigroup : FnScope ["state", "script", "many", "most", "k", "numbers", "common", "number"] ["state", "script", "many", "most"] (defScope st__law_semigroup) := ⟨rfl, rfl, rfl, by decide +kernel, rfl, by decide +kernel, by decide +kernel⟩

theorem ok__law_semigroup (G : Gd K mg base ds fr tf T) : Cal P w K mg base T 3 "_law_semigroup" 4 Com.m__law_semigroup :=
 cal_of G 20 rfl sc__law_semigroup (fun _ _ _ _ _ _ us hl => match us, hl with | [_, _, _, _], _ => rfl) fun _ A outer s H E hr =>
 (sb_cons (ss_setLc none 5 rfl sc__law_semigroup.nd rfl rfl (sw_true rfl rfl rfl (by decide +kernel)) (si_r1 (by rfl) (G.free 1 _ rfl) (sa_cons (so_ex (se_add (so_ex se_int) (so_ex (se_call (ok__law_draw G) (hr.mono (by decide)) (by rfl) (sa_cons (so_nm 0) (sa_cons (so_nm 1) (sa_cons (so_nm 2) sa_nil))))))) sa_nil)) (blkOk_by (own := [("k", 4)]) (by kernel_rfl)) (fun _ _ _ _ _ => (sgc_one 4 sc__law_semigroup.nd rfl (by first | exact .inl rfl | exact .inr rfl))) (fun _ _ _ _ _ => sts_nil) (fun _ _ _ _ _ => (se_add (so_ex se_int) (so_ex (se_call (ok__law_draw G) (hr.mono (by decide)) (by rfl) (sa_cons (so_nm 0) (sa_cons (so_nm 1) (sa_cons (so_ex (se_sub (so_nm 3) (so_ex se_int))) sa_nil))))))))
 (sb_cons (ss_set 6 sc__law_semigroup.nd rfl (by first | exact .inl rfl | exact .inr rfl) se_int)
 (sb_cons (ss_for (some 5) PassesOwn.never rfl (si_nm 5) (sg_one 7 sc__law_semigroup.nd rfl (by first | exact .inl rfl | exact .inr rfl))
 (sb_one (ss_set 6 sc__law_semigroup.nd rfl (by first | exact .inl rfl | exact .inr rfl) (se_call (ok__law_gcd G) (hr.mono (by decide)) (by rfl) (sa_cons (so_nm 6) (sa_cons (so_nm 7) sa_nil))))))
 (sb_cons (ss_if (st_gt (so_nm 6) (so_ex se_int))
 (sb_one (ss_do (se_app 5 (se_if (st_sw (sw_and (st_eq hr (so_ex (se_call (ok__law_gcd G) (hr.mono (by decide)) (by rfl) (sa_cons (so_nm 6) (sa_cons (so_ex (se_add (so_ex (se_max rfl (by rfl) (G.free 4 _ rfl) (so_nm 5))) (so_ex se_int))) sa_nil)))) (so_ex se_int)) (sw_and1 (st_lt (so_ex (se_max rfl (by rfl) (G.free 4 _ rfl) (so_nm 5))) (so_nm 3))))) (se_min2 rfl (by rfl) (G.free 15 _ rfl) (so_nm 3) (so_ex (se_add (so_ex (se_max rfl (by rfl) (G.free 4 _ rfl) (so_nm 5))) (so_ex se_int)))) se_int))))
 sb_nil)
 (sb_cons (ss_set 6 sc__law_semigroup.nd rfl (by first | exact .inl rfl | exact .inr rfl) se_int)
 (sb_cons (ss_for (some 5) PassesOwn.never rfl (si_nm 5) (sg_one 7 sc__law_semigroup.nd rfl (by first | exact .inl rfl | exact .inr rfl))
 (sb_one (ss_set 6 sc__law_semigroup.nd rfl (by first | exact .inl rfl | exact .inr rfl) (se_call (ok__law_gcd G) (hr.mono (by decide)) (by rfl) (sa_cons (so_nm 6) (sa_cons (so_nm 7) sa_nil))))))
 (sb_cons (ss_if (st_sw (sw_or (st_gt (so_nm 6) (so_ex se_int)) (sw_or1 (st_eq hr (so_ex (se_call (ok__law_draw G) (hr.mono (by decide)) (by rfl) (sa_cons (so_nm 0) (sa_cons (so_nm 1) (sa_cons (so_ex se_int) sa_nil))))) (so_ex se_int)))))
 (sb_one (ss_set 5 sc__law_semigroup.nd rfl (by first | exact .inl rfl | exact .inr rfl) (se_lst (sv_cons se_int sv_nil))))
 sb_nil)
 (sb_cons (ss_if (st_sw (sw_and (st_in hr (so_ex se_int) (so_nm 5)) (sw_and1 (st_gt (so_ex (se_call (ok__law_draw G) (hr.mono (by decide)) (by rfl) (sa_cons (so_nm 0) (sa_cons (so_nm 1) (sa_cons (so_ex se_int) sa_nil))))) (so_ex se_int)))))
 (sb_cons (ss_set 5 sc__law_semigroup.nd rfl (by first | exact .inl rfl | exact .inr rfl) (se_lst (sv_cons (se_add (so_ex se_int) (so_ex (se_call (ok__law_draw G) (hr.mono (by decide)) (by rfl) (sa_cons (so_nm 0) (sa_cons (so_nm 1) (sa_cons (so_ex se_int) sa_nil)))))) sv_nil)))
 (sb_one (ss_set 5 sc__law_semigroup.nd rfl (by first | exact .inl rfl | exact .inr rfl) (se_add (so_nm 5) (so_ex (se_lst (sv_cons (se_add (so_ex (se_add (so_ex (se_ix (so_nm 5) (so_ex se_int))) (so_ex se_int))) (so_ex (se_mul (so_ex (se_call (ok__law_draw G) (hr.mono (by decide)) (by rfl) (sa_cons (so_nm 0) (sa_cons (so_nm 1) (sa_cons (so_ex se_int) sa_nil))))) (so_ex (se_ix (so_nm 5) (so_ex se_int)))))) sv_nil)))))))
 sb_nil)
 (sb_one (ss_ret (se_call (ok__law_least G) (hr.mono (by decide)) (by rfl) (sa_cons (so_nm 5) sa_nil))))))))))))

/-! _law_last -/
theorem sc__law_last : FnScope ["generators", "most", "table", "number", "gaps"] ["generators"] (defScope st__law_last) := ⟨rfl, rfl, rfl, by decide +kernel, rfl, by decide +kernel, by decide +kernel⟩

theorem ok__law_last (G : Gd K mg base ds fr tf T) : Cal P w K mg base T 2 "_law_last" 1 Com.m__law_last :=
 cal_of G 21 rfl sc__law_last (fun _ _ _ _ _ _ us hl => match us, hl with | [_], _ => rfl) fun _ A outer s H E hr =>
 (sb_cons (ss_set 1 sc__law_last.nd rfl (by first | exact .inl rfl | exact .inr rfl) (se_mul (so_ex (se_ix (so_nm 0) (so_ex se_int))) (so_ex (se_ix (so_nm 0) (so_ex (se_sub (so_ex (se_len (by rfl) (G.free 7 _ rfl) (so_nm 0))) (so_ex se_int)))))))
 (sb_cons (ss_set 2 sc__law_last.nd rfl (by first | exact .inl rfl | exact .inr rfl) (se_call (ok__law_table G) (hr.mono (by decide)) (by rfl) (sa_cons (so_nm 0) (sa_cons (so_nm 1) sa_nil))))
 (sb_cons (ss_set 4 sc__law_last.nd rfl (by first | exact .inl rfl | exact .inr rfl) (se_add (so_ex (se_lst (sv_cons (se_neg (so_ex se_int)) sv_nil))) (so_ex (se_lc none rfl sc__law_last.nd (si_r2 (by rfl) (G.free 1 _ rfl) (sa_cons (so_ex se_int) (sa_cons (so_ex (se_add (so_nm 1) (so_ex se_int))) sa_nil))) (blkOk_by (own := [("number", 3)]) (by kernel_rfl)) (fun _ _ _ _ _ => (sgc_one 3 sc__law_last.nd rfl (by first | exact .inl rfl | exact .inr rfl))) (fun _ _ _ _ _ => (sts_one (st_not (st_tru (so_ex (se_ix (so_nm 2) (so_nm 3))))))) (fun _ _ _ _ _ => (se_var 3))))))
 (sb_one (ss_ret (se_ix (so_nm 4) (so_ex (se_sub (so_ex (se_len (by rfl) (G.free 7 _ rfl) (so_nm 4))) (so_ex se_int)))))))))

/-! _law_arf -/
theorem sc__law_arf : FnScope ["held", "number", "rows", "z", "x", "y"] ["held"] (defScope st__law_arf) := ⟨rfl, rfl, rfl, by decide +kernel, rfl, by decide +kernel, by decide +kernel⟩

theorem ok__law_arf (G : Gd K mg base ds fr tf T) : Cal P w K mg base T 1 "_law_arf" 1 Com.m__law_arf :=
 cal_of G 22 rfl sc__law_arf (fun _ _ _ _ _ _ us hl => match us, hl with | [_], _ => rfl) fun _ A outer s H E hr =>
 (sb_cons (ss_setLc none 2 rfl sc__law_arf.nd rfl rfl (sw_true rfl rfl rfl (by decide +kernel)) (si_r1 (by rfl) (G.free 1 _ rfl) (sa_cons (so_ex (se_len (by rfl) (G.free 7 _ rfl) (so_nm 0))) sa_nil)) (blkOk_by (own := [("number", 1)]) (by kernel_rfl)) (fun _ _ _ _ _ => (sgc_one 1 sc__law_arf.nd rfl (by first | exact .inl rfl | exact .inr rfl))) (fun _ _ _ _ _ => (sts_one (st_tru (so_ex (se_ix (so_nm 0) (so_nm 1)))))) (fun _ _ _ _ _ => (se_var 1)))
 (sb_cons (ss_for (some 2) PassesOwn.never rfl (si_nm 2) (sg_one 3 sc__law_arf.nd rfl (by first | exact .inl rfl | exact .inr rfl))
 (sb_one (ss_for none PassesOwn.never rfl (si_nmL 2) (sg_one 4 sc__law_arf.nd rfl (by first | exact .inl rfl | exact .inr rfl))
 (sb_one (ss_for none PassesOwn.never rfl (si_nmL 2) (sg_one 5 sc__law_arf.nd rfl (by first | exact .inl rfl | exact .inr rfl))
 (sb_one (ss_if (st_sw (sw_and (st_chain op_le op_le (so_nm 3) (so_nm 4) (so_nm 5)) (sw_and (st_lt (so_ex (se_sub (so_ex (se_add (so_nm 4) (so_nm 5))) (so_nm 3))) (so_ex (se_len (by rfl) (G.free 7 _ rfl) (so_nm 0)))) (sw_and1 (st_not (st_tru (so_ex (se_ix (so_nm 0) (so_ex (se_sub (so_ex (se_add (so_nm 4) (so_nm 5))) (so_nm 3)))))))))))
 (sb_one (ss_ret se_bl))
 sb_nil)))))))
 (sb_one (ss_ret se_bl))))

/-! _law_row_right -/
theorem sc__law_row_right : FnScope ["row", "number", "k", "total", "many", "j"] ["row"] (defScope st__law_row_right) := ⟨rfl, rfl, rfl, by decide +kernel, rfl, by decide +kernel, by decide +kernel⟩

theorem ok__law_row_right (G : Gd K mg base ds fr tf T) : Cal P w K mg base T 1 "_law_row_right" 1 Com.m__law_row_right :=
 cal_of G 23 rfl sc__law_row_right (fun _ _ _ _ _ _ us hl => match us, hl with | [_], _ => rfl) fun _ A outer s H E hr =>
 (sb_cons (ss_if (st_sw (sw_or (st_eq hr (so_ex (se_len (by rfl) (G.free 7 _ rfl) (so_nm 0))) (so_ex se_int)) (sw_or (st_ne hr (so_ex (se_ix (so_nm 0) (so_ex (se_sub (so_ex (se_len (by rfl) (G.free 7 _ rfl) (so_nm 0))) (so_ex se_int))))) (so_ex se_int)) (sw_or1 (st_not (st_tru (so_ex (se_allL rfl (by rfl) (G.free 11 _ rfl) (so_ex (se_lc none rfl sc__law_row_right.nd (si_ex (se_slH (so_nm 0) (so_ex (se_neg (so_ex se_int))))) (blkOk_by (own := [("number", 1)]) (by kernel_rfl)) (fun _ _ _ _ _ => (sgc_one 1 sc__law_row_right.nd rfl (by first | exact .inl rfl | exact .inr rfl))) (fun _ _ _ _ _ => sts_nil) (fun _ _ _ _ _ => (se_gt (so_nm 1) (so_ex se_int)))))))))))))
 (sb_one (ss_ret se_bl))
 sb_nil)
 (sb_cons (ss_for none PassesOwn.never rfl (si_r1 (by rfl) (G.free 1 _ rfl) (sa_cons (so_ex (se_len (by rfl) (G.free 7 _ rfl) (so_nm 0))) sa_nil)) (sg_one 2 sc__law_row_right.nd rfl (by first | exact .inl rfl | exact .inr rfl))
 (sb_cons (ss_par 3 4 rfl sc__law_row_right.nd rfl rfl rfl rfl (sv_cons se_int (sv_cons (se_add (so_nm 2) (so_ex se_int)) sv_nil)) (by rfl))
 (sb_cons (ss_for none PassesOwn.never rfl (si_r1 (by rfl) (G.free 1 _ rfl) (sa_cons (so_ex (se_add (so_ex (se_ix (so_nm 0) (so_nm 2))) (so_ex se_int))) sa_nil)) (sg_one 5 sc__law_row_right.nd rfl (by first | exact .inl rfl | exact .inr rfl))
 (sb_one (ss_if (st_lt (so_nm 3) (so_ex (se_ix (so_nm 0) (so_nm 2))))
 (sb_cons (ss_set 3 sc__law_row_right.nd rfl (by first | exact .inl rfl | exact .inr rfl) (se_add (so_nm 3) (so_ex (se_if (st_lt (so_nm 4) (so_ex (se_len (by rfl) (G.free 7 _ rfl) (so_nm 0)))) (se_ix (so_nm 0) (so_nm 4)) se_int))))
 (sb_one (ss_set 4 sc__law_row_right.nd rfl (by first | exact .inl rfl | exact .inr rfl) (se_add (so_nm 4) (so_ex se_int)))))
 sb_nil)))
 (sb_one (ss_if (st_ne hr (so_nm 3) (so_ex (se_ix (so_nm 0) (so_nm 2))))
 (sb_one (ss_ret se_bl))
 sb_nil)))))
 (sb_one (ss_ret se_bl))))

/-! _law_of_row -/
theorem sc__law_of_row : FnScope ["row", "sums", "total", "number", "k"] ["row"] (defScope st__law_of_row) := ⟨rfl, rfl, rfl, by decide +kernel, rfl, by decide +kernel, by decide +kernel⟩

theorem ok__law_of_row (G : Gd K mg base ds fr tf T) : Cal P w K mg base T 3 "_law_of_row" 1 Com.m__law_of_row :=
 cal_of G 24 rfl sc__law_of_row (fun _ _ _ _ _ _ us hl => match us, hl with | [_], _ => rfl) fun _ A outer s H E hr =>
 (sb_cons (ss_parT 1 2 rfl sc__law_of_row.nd rfl rfl (by first | exact .inl rfl | exact .inr rfl) (by first | exact .inl rfl | exact .inr rfl) (sv_cons (se_lst sv_nil) (sv_cons se_int sv_nil)))
 (sb_cons (ss_for (some 0) PassesOwn.never rfl (si_nm 0) (sg_one 3 sc__law_of_row.nd rfl (by first | exact .inl rfl | exact .inr rfl))
 (sb_cons (ss_set 2 sc__law_of_row.nd rfl (by first | exact .inl rfl | exact .inr rfl) (se_add (so_nm 2) (so_nm 3)))
 (sb_one (ss_do (se_app 1 (se_var 2))))))
 (sb_one (ss_ret (se_call (ok__law_least G) (hr.mono (by decide)) (by rfl) (sa_cons (so_ex (se_add (so_nm 1) (so_ex (se_lc none rfl sc__law_of_row.nd (si_r2 (by rfl) (G.free 1 _ rfl) (sa_cons (so_ex se_int) (sa_cons (so_ex (se_add (so_ex (se_ix (so_nm 0) (so_ex se_int))) (so_ex se_int))) sa_nil))) (blkOk_by (own := [("k", 4)]) (by kernel_rfl)) (fun _ _ _ _ _ => (sgc_one 4 sc__law_of_row.nd rfl (by first | exact .inl rfl | exact .inr rfl))) (fun _ _ _ _ _ => sts_nil) (fun _ _ _ _ _ => (se_add (so_nm 2) (so_nm 4))))))) sa_nil))))))

/-! _law_closed -/
theorem sc__law_closed : FnScope ["generators", "last", "held", "changed", "number", "rows", "z", "x", "y", "low", "m", "k"] ["generators"] (defScope st__law_closed) := ⟨rfl, rfl, rfl, by decide +kernel, rfl, by decide +kernel, by decide +kernel⟩
def b__law_closed : MS :=
 sSeq (sSet 1 (mCall Com.m__law_last [.ln 0]))
 (sSeq (sSet 2 (mCall Com.m__law_table [.ln 0, .ex (mBin opAdd (.nm 1) (.ex (mC (.int 1))))]))
 (sSeq (sSet 3 (mC (.bl true)))
 (sSeq (whileM (mTr (.nm 3))
 (sSeq (sSet 3 (mC (.bl false)))
 (sSeq (sSet 5 (mComp [4] (iR1 [.ex (mCal bLen [.nm 2])]) (.one 4) (mTr (.ex (mBin opIx (.nm 2) (.nm 4)))) (mVar 4)))
 (sFor (iNm 5) (.one 6)
 (sFor (iNm 5) (.one 7)
 (sFor (iNm 5) (.one 8)
 (sIf (mAnd (mB (mChain pLe pLe (.nm 6) (.nm 7) (.nm 8))) (mAnd (mB (mBin opLt (.ex (mBin opSub (.ex (mBin opAdd (.nm 7) (.nm 8))) (.nm 6))) (.ex (mCal bLen [.nm 2])))) (mNot (mTr (.ex (mBin opIx (.nm 2) (.ex (mBin opSub (.ex (mBin opAdd (.nm 7) (.nm 8))) (.nm 6)))))))))
 (sSeq (sSetIx 2 (.ex (mBin opSub (.ex (mBin opAdd (.nm 7) (.nm 8))) (.nm 6))) (mC (.bl true)))
 (sSet 3 (mC (.bl true))))
 (sNop))))))) fuel)
 (sSeq (sSet 9 (mComp [4] (iR2 [.ex (mC (.int 1)), .ex (mCal bLen [.nm 2])]) (.one 4) (mTr (.ex (mBin opIx (.nm 2) (.nm 4)))) (mVar 4)))
 (sSeq (sSet 10 (mCal bMin [.ex (mBin opAdd (.nm 9) (.ex (mLst [mBin opAdd (.nm 1) (.ex (mC (.int 2)))])))]))
 (sRet (mCall Com.m__law_least [.ex (mBin opAdd (.nm 9) (.ex (mComp [11] (iR2 [.ex (mC (.int 1)), .ex (mBin opAdd (.nm 10) (.ex (mC (.int 1))))]) (.one 11) (mYes) (mBin opAdd (.ex (mBin opAdd (.nm 1) (.ex (mC (.int 1))))) (.nm 11)))))])))))))
def m__law_closed : FM := mFn [] 11 b__law_closed
theorem ok__law_closed (G : Gd K mg base ds fr tf T) : Cal P w K mg base T 3 "_law_closed" 1 m__law_closed :=
 cal_of G 25 rfl sc__law_closed (fun _ _ _ _ _ _ us hl => match us, hl with | [_], _ => rfl) fun _ A outer s H E hr =>
 (sb_cons (ss_set 1 sc__law_closed.nd rfl (by first | exact .inl rfl | exact .inr rfl) (se_call (ok__law_last G) (hr.mono (by decide)) (by rfl) (sa_cons (so_nm 0) sa_nil)))
 (sb_cons (ss_set 2 sc__law_closed.nd rfl (by first | exact .inl rfl | exact .inr rfl) (se_call (ok__law_table G) (hr.mono (by decide)) (by rfl) (sa_cons (so_nm 0) (sa_cons (so_ex (se_add (so_nm 1) (so_ex se_int))) sa_nil))))
 (sb_cons (ss_set 3 sc__law_closed.nd rfl (by first | exact .inl rfl | exact .inr rfl) se_bl)
 (sb_cons (ss_while fuel PassesOwn.never (st_tru (so_nm 3))
 (sb_cons (ss_set 3 sc__law_closed.nd rfl (by first | exact .inl rfl | exact .inr rfl) se_bl)
 (sb_cons (ss_setLc none 5 rfl sc__law_closed.nd rfl rfl (sw_true rfl rfl rfl (by decide +kernel)) (si_r1 (by rfl) (G.free 1 _ rfl) (sa_cons (so_ex (se_len (by rfl) (G.free 7 _ rfl) (so_nm 2))) sa_nil)) (blkOk_by (own := [("number", 4)]) (by kernel_rfl)) (fun _ _ _ _ _ => (sgc_one 4 sc__law_closed.nd rfl (by first | exact .inl rfl | exact .inr rfl))) (fun _ _ _ _ _ => (sts_one (st_tru (so_ex (se_ix (so_nm 2) (so_nm 4)))))) (fun _ _ _ _ _ => (se_var 4)))
 (sb_one (ss_for (some 5) PassesOwn.never rfl (si_nm 5) (sg_one 6 sc__law_closed.nd rfl (by first | exact .inl rfl | exact .inr rfl))
 (sb_one (ss_for none PassesOwn.never rfl (si_nmL 5) (sg_one 7 sc__law_closed.nd rfl (by first | exact .inl rfl | exact .inr rfl))
 (sb_one (ss_for none PassesOwn.never rfl (si_nmL 5) (sg_one 8 sc__law_closed.nd rfl (by first | exact .inl rfl | exact .inr rfl))
 (sb_one (ss_if (st_sw (sw_and (st_chain op_le op_le (so_nm 6) (so_nm 7) (so_nm 8)) (sw_and (st_lt (so_ex (se_sub (so_ex (se_add (so_nm 7) (so_nm 8))) (so_nm 6))) (so_ex (se_len (by rfl) (G.free 7 _ rfl) (so_nm 2)))) (sw_and1 (st_not (st_tru (so_ex (se_ix (so_nm 2) (so_ex (se_sub (so_ex (se_add (so_nm 7) (so_nm 8))) (so_nm 6)))))))))))
 (sb_cons (ss_setix 2 se_bl (so_ex (se_sub (so_ex (se_add (so_nm 7) (so_nm 8))) (so_nm 6))))
 (sb_one (ss_set 3 sc__law_closed.nd rfl (by first | exact .inl rfl | exact .inr rfl) se_bl)))
 sb_nil)))))))))))
 (sb_cons (ss_setLc none 9 rfl sc__law_closed.nd rfl rfl (sw_true rfl rfl rfl (by decide +kernel)) (si_r2 (by rfl) (G.free 1 _ rfl) (sa_cons (so_ex se_int) (sa_cons (so_ex (se_len (by rfl) (G.free 7 _ rfl) (so_nm 2))) sa_nil))) (blkOk_by (own := [("number", 4)]) (by kernel_rfl)) (fun _ _ _ _ _ => (sgc_one 4 sc__law_closed.nd rfl (by first | exact .inl rfl | exact .inr rfl))) (fun _ _ _ _ _ => (sts_one (st_tru (so_ex (se_ix (so_nm 2) (so_nm 4)))))) (fun _ _ _ _ _ => (se_var 4)))
 (sb_cons (ss_set 10 sc__law_closed.nd rfl (by first | exact .inl rfl | exact .inr rfl) (se_min rfl (by rfl) (G.free 15 _ rfl) (so_ex (se_add (so_nm 9) (so_ex (se_lst (sv_cons (se_add (so_nm 1) (so_ex se_int)) sv_nil)))))))
 (sb_one (ss_ret (se_call (ok__law_least G) (hr.mono (by decide)) (by rfl) (sa_cons (so_ex (se_add (so_nm 9) (so_ex (se_lc none rfl sc__law_closed.nd (si_r2 (by rfl) (G.free 1 _ rfl) (sa_cons (so_ex se_int) (sa_cons (so_ex (se_add (so_nm 10) (so_ex se_int))) sa_nil))) (blkOk_by (own := [("k", 11)]) (by kernel_rfl)) (fun _ _ _ _ _ => (sgc_one 11 sc__law_closed.nd rfl (by first | exact .inl rfl | exact .inr rfl))) (fun _ _ _ _ _ => sts_nil) (fun _ _ _ _ _ => (se_add (so_ex (se_add (so_nm 1) (so_ex se_int))) (so_nm 11))))))) sa_nil))))))))))

/-! law -/
theorem sc_law : FnScope ["script", "state", "k", "generators", "last", "told", "row", "j", "many", "total", "i", "bent"] ["script"] (defScope st_law) := ⟨rfl, rfl, rfl, by decide +kernel, rfl, by decide +kernel, by decide +kernel⟩
def b_law : MS :=
 sSeq (sSet 1 (mLst [mC (.int 0), mC (.int 0)]))
 (sSeq (sFor (iR1 [.ex (mC (.int 3))]) (.one 2)
 (sSeq (sSet 3 (mCall Com.m__law_semigroup [.io 1, .ln 0, .ex (mC (.int 4)), .ex (mC (.int 10))]))
 (sSeq (sSet 4 (mCall Com.m__law_last [.ln 3]))
 (sSeq (sIf (mB (mBin opGt (.nm 4) (.ex (mC (.int 45)))))
 (sPar 3 4 (mTup [mC (.int 4), mC (.int 6), mC (.int 9)]) (mC (.int 11)))
 (sNop))
 (sSeq (sIf (mNot (mTr (.ex (mCall Com.m__law_exact [.ex (mCall Com.m__law_arf [.ex (mCall Com.m__law_table [.ln 3, .ex (mBin opAdd (.nm 4) (.ex (mC (.int 2))))])]), .ex (mCall Com.m_is_arf [.ln 3])]))))
 (sRet (mC (.bl false)))
 (sNop))
 (sSeq (sSet 5 (mCall Com.m_arf_closure [.ln 3]))
 (sSeq (sIf (mOr (mNot (mTr (.ex (mCall Com.m__law_exact [.ex (mCall m__law_closed [.ln 3]), .ln 5])))) (mNot (mTr (.ex (mCall Com.m__law_exact [.ex (mC (.bl true)), .ex (mCall Com.m_is_arf [.ln 5])])))))
 (sRet (mC (.bl false)))
 (sNop))
 (sSeq (sIf (mNot (mTr (.ex (mCall Com.m__law_exact [.ex (mCall Com.m_multiplicities [.ln 3]), .ex (mCall Com.m_multiplicities [.ln 5])]))))
 (sRet (mC (.bl false)))
 (sNop))
 (sSeq (sSet 6 (mLst [mC (.int 1)]))
 (sSeq (sFor (iR1 [.ex (mCall Com.m__law_draw [.io 1, .ln 0, .ex (mC (.int 5))])]) (.one 7)
 (sSeq (sPar 8 9 (mBin opAdd (.ex (mC (.int 1))) (.ex (mCall Com.m__law_draw [.io 1, .ln 0, .ex (mC (.int 4))]))) (mC (.int 0)))
 (sSeq (sFor (iR1 [.nm 8]) (.one 10)
 (sSet 9 (mBin opAdd (.nm 9) (.ex (mIf (mB (mBin opLt (.nm 10) (.ex (mCal bLen [.nm 6])))) (mBin opIx (.nm 6) (.nm 10)) (mC (.int 1)))))))
 (sIf (mAnd (mB (mBin opGt (.nm 9) (.ex (mC (.int 1))))) (mB (mBin opLt (.nm 9) (.ex (mC (.int 30))))))
 (sSet 6 (mBin opAdd (.ex (mLst [mVar 9])) (.nm 6)))
 (sNop)))))
 (sSeq (sIf (mOr (mNot (mTr (.ex (mCall Com.m__law_exact [.ex (mLst [mC (.bl true), mCall Com.m__law_of_row [.ln 6]]), .ex (mLst [mCall m_is_row [.ex (mCal bTuple [.nm 6])], mCall Com.m_semigroup_of [.ex (mCal bTuple [.nm 6])]])])))) (mNot (mTr (.ex (mCall Com.m__law_row_right [.ln 6])))))
 (sRet (mC (.bl false)))
 (sNop))
 (sSeq (sIf (mOr (mNot (mTr (.ex (mCall Com.m_is_arf [.ex (mCall Com.m_semigroup_of [.ex (mCal bTuple [.nm 6])])])))) (mNot (mTr (.ex (mCall Com.m__law_exact [.ex (mCal bTuple [.nm 6]), .ex (mCall Com.m_multiplicities [.ex (mCall Com.m_semigroup_of [.ex (mCal bTuple [.nm 6])])])])))))
 (sRet (mC (.bl false)))
 (sNop))
 (sSeq (sSet 11 (mCal bList [.nm 6]))
 (sSeq (sSetIx 11 (.ex (mCall Com.m__law_draw [.io 1, .ln 0, .ex (mCal bLen [.nm 11])])) (mCall Com.m__law_draw [.io 1, .ln 0, .ex (mC (.int 12))]))
 (sSeq (sIf (mB (mBin opEq (.ex (mCall Com.m__law_draw [.io 1, .ln 0, .ex (mC (.int 3))])) (.ex (mC (.int 0)))))
 (sSet 11 (mSlL (.nm 11) (.ex (mC (.int 1)))))
 (sNop))
 (sIf (mNot (mTr (.ex (mCall Com.m__law_exact [.ex (mCall Com.m__law_row_right [.ln 11]), .ex (mCall m_is_row [.ex (mCal bTuple [.nm 11])])]))))
 (sRet (mC (.bl false)))
 (sNop)))))))))))))))))
 (sRet (mC (.bl true))))
def m_law : FM := mFn [] 11 b_law
theorem fn_law (G : Gd K mg base ds fr tf T) {fd : FuncData} (F : FunD K "law" "law" (defArgs st_law) (defBody st_law) (defScope st_law) [] [] (He.fAd K ("law", none)) fd) :
    FnOk P w K mg base CX0 8 (He.fAd K ("law", none)) fd ["script"] (spM K T 1 m_law) :=
 fn_cal (x := "law") (st := st_law) sc_law (fun _ A outer s H E hr =>
 (sb_cons (ss_set 1 sc_law.nd rfl (by first | exact .inl rfl | exact .inr rfl) (se_lst (sv_cons se_int (sv_cons se_int sv_nil))))
 (sb_cons (ss_for none PassesOwn.never rfl (si_r1 (by rfl) (G.free 1 _ rfl) (sa_cons (so_ex se_int) sa_nil)) (sg_one 2 sc_law.nd rfl (by first | exact .inl rfl | exact .inr rfl))
 (sb_cons (ss_set 3 sc_law.nd rfl (by first | exact .inl rfl | exact .inr rfl) (se_call (ok__law_semigroup G) (hr.mono (by decide)) (by rfl) (sa_cons (so_nm 1) (sa_cons (so_nm 0) (sa_cons (so_ex se_int) (sa_cons (so_ex se_int) sa_nil))))))
 (sb_cons (ss_set 4 sc_law.nd rfl (by first | exact .inl rfl | exact .inr rfl) (se_call (ok__law_last G) (hr.mono (by decide)) (by rfl) (sa_cons (so_nm 3) sa_nil)))
 (sb_cons (ss_if (st_gt (so_nm 4) (so_ex se_int))
 (sb_one (ss_parT 3 4 rfl sc_law.nd rfl rfl (by first | exact .inl rfl | exact .inr rfl) (by first | exact .inl rfl | exact .inr rfl) (sv_cons (se_tup (sv_cons se_int (sv_cons se_int (sv_cons se_int sv_nil)))) (sv_cons se_int sv_nil))))
 sb_nil)
 (sb_cons (ss_if (st_not (st_tru (so_ex (se_call (ok__law_exact G) (hr.mono (by decide)) (by rfl) (sa_cons (so_ex (se_call (ok__law_arf G) (hr.mono (by decide)) (by rfl) (sa_cons (so_ex (se_call (ok__law_table G) (hr.mono (by decide)) (by rfl) (sa_cons (so_nm 3) (sa_cons (so_ex (se_add (so_nm 4) (so_ex se_int))) sa_nil)))) sa_nil))) (sa_cons (so_ex (se_call (ok_is_arf G) (hr.mono (by decide)) (by rfl) (sa_cons (so_nm 3) sa_nil))) sa_nil))))))
 (sb_one (ss_ret se_bl))
 sb_nil)
 (sb_cons (ss_set 5 sc_law.nd rfl (by first | exact .inl rfl | exact .inr rfl) (se_call (ok_arf_closure G) (hr.mono (by decide)) (by rfl) (sa_cons (so_nm 3) sa_nil)))
 (sb_cons (ss_if (st_sw (sw_or (st_not (st_tru (so_ex (se_call (ok__law_exact G) (hr.mono (by decide)) (by rfl) (sa_cons (so_ex (se_call (ok__law_closed G) (hr.mono (by decide)) (by rfl) (sa_cons (so_nm 3) sa_nil))) (sa_cons (so_nm 5) sa_nil)))))) (sw_or1 (st_not (st_tru (so_ex (se_call (ok__law_exact G) (hr.mono (by decide)) (by rfl) (sa_cons (so_ex se_bl) (sa_cons (so_ex (se_call (ok_is_arf G) (hr.mono (by decide)) (by rfl) (sa_cons (so_nm 5) sa_nil))) sa_nil)))))))))
 (sb_one (ss_ret se_bl))
 sb_nil)
 (sb_cons (ss_if (st_not (st_tru (so_ex (se_call (ok__law_exact G) (hr.mono (by decide)) (by rfl) (sa_cons (so_ex (se_call (ok_multiplicities G) (hr.mono (by decide)) (by rfl) (sa_cons (so_nm 3) sa_nil))) (sa_cons (so_ex (se_call (ok_multiplicities G) (hr.mono (by decide)) (by rfl) (sa_cons (so_nm 5) sa_nil))) sa_nil))))))
 (sb_one (ss_ret se_bl))
 sb_nil)
 (sb_cons (ss_set 6 sc_law.nd rfl (by first | exact .inl rfl | exact .inr rfl) (se_lst (sv_cons se_int sv_nil)))
 (sb_cons (ss_for none PassesOwn.never rfl (si_r1 (by rfl) (G.free 1 _ rfl) (sa_cons (so_ex (se_call (ok__law_draw G) (hr.mono (by decide)) (by rfl) (sa_cons (so_nm 1) (sa_cons (so_nm 0) (sa_cons (so_ex se_int) sa_nil))))) sa_nil)) (sg_one 7 sc_law.nd rfl (by first | exact .inl rfl | exact .inr rfl))
 (sb_cons (ss_par 8 9 rfl sc_law.nd rfl rfl rfl rfl (sv_cons (se_add (so_ex se_int) (so_ex (se_call (ok__law_draw G) (hr.mono (by decide)) (by rfl) (sa_cons (so_nm 1) (sa_cons (so_nm 0) (sa_cons (so_ex se_int) sa_nil)))))) (sv_cons se_int sv_nil)) (by rfl))
 (sb_cons (ss_for none PassesOwn.never rfl (si_r1 (by rfl) (G.free 1 _ rfl) (sa_cons (so_nm 8) sa_nil)) (sg_one 10 sc_law.nd rfl (by first | exact .inl rfl | exact .inr rfl))
 (sb_one (ss_set 9 sc_law.nd rfl (by first | exact .inl rfl | exact .inr rfl) (se_add (so_nm 9) (so_ex (se_if (st_lt (so_nm 10) (so_ex (se_len (by rfl) (G.free 7 _ rfl) (so_nm 6)))) (se_ix (so_nm 6) (so_nm 10)) se_int))))))
 (sb_one (ss_if (st_sw (sw_and (st_gt (so_nm 9) (so_ex se_int)) (sw_and1 (st_lt (so_nm 9) (so_ex se_int)))))
 (sb_one (ss_set 6 sc_law.nd rfl (by first | exact .inl rfl | exact .inr rfl) (se_add (so_ex (se_lst (sv_cons (se_var 9) sv_nil))) (so_nm 6))))
 sb_nil)))))
 (sb_cons (ss_if (st_sw (sw_or (st_not (st_tru (so_ex (se_call (ok__law_exact G) (hr.mono (by decide)) (by rfl) (sa_cons (so_ex (se_lst (sv_cons se_bl (sv_cons (se_call (ok__law_of_row G) (hr.mono (by decide)) (by rfl) (sa_cons (so_nm 6) sa_nil)) sv_nil)))) (sa_cons (so_ex (se_lst (sv_cons (se_call (ok_is_row G) (hr.mono (by decide)) (by rfl) (sa_cons (so_ex (se_tupleC (by rfl) (G.free 3 _ rfl) (so_nm 6))) sa_nil)) (sv_cons (se_call (ok_semigroup_of G) (hr.mono (by decide)) (by rfl) (sa_cons (so_ex (se_tupleC (by rfl) (G.free 3 _ rfl) (so_nm 6))) sa_nil)) sv_nil)))) sa_nil)))))) (sw_or1 (st_not (st_tru (so_ex (se_call (ok__law_row_right G) (hr.mono (by decide)) (by rfl) (sa_cons (so_nm 6) sa_nil))))))))
 (sb_one (ss_ret se_bl))
 sb_nil)
 (sb_cons (ss_if (st_sw (sw_or (st_not (st_tru (so_ex (se_call (ok_is_arf G) (hr.mono (by decide)) (by rfl) (sa_cons (so_ex (se_call (ok_semigroup_of G) (hr.mono (by decide)) (by rfl) (sa_cons (so_ex (se_tupleC (by rfl) (G.free 3 _ rfl) (so_nm 6))) sa_nil))) sa_nil))))) (sw_or1 (st_not (st_tru (so_ex (se_call (ok__law_exact G) (hr.mono (by decide)) (by rfl) (sa_cons (so_ex (se_tupleC (by rfl) (G.free 3 _ rfl) (so_nm 6))) (sa_cons (so_ex (se_call (ok_multiplicities G) (hr.mono (by decide)) (by rfl) (sa_cons (so_ex (se_call (ok_semigroup_of G) (hr.mono (by decide)) (by rfl) (sa_cons (so_ex (se_tupleC (by rfl) (G.free 3 _ rfl) (so_nm 6))) sa_nil))) sa_nil))) sa_nil)))))))))
 (sb_one (ss_ret se_bl))
 sb_nil)
 (sb_cons (ss_set 11 sc_law.nd rfl (by first | exact .inl rfl | exact .inr rfl) (se_listC (by rfl) (G.free 10 _ rfl) (so_nm 6)))
 (sb_cons (ss_setix 11 (se_call (ok__law_draw G) (hr.mono (by decide)) (by rfl) (sa_cons (so_nm 1) (sa_cons (so_nm 0) (sa_cons (so_ex se_int) sa_nil)))) (so_ex (se_call (ok__law_draw G) (hr.mono (by decide)) (by rfl) (sa_cons (so_nm 1) (sa_cons (so_nm 0) (sa_cons (so_ex (se_len (by rfl) (G.free 7 _ rfl) (so_nm 11))) sa_nil))))))
 (sb_cons (ss_if (st_eq hr (so_ex (se_call (ok__law_draw G) (hr.mono (by decide)) (by rfl) (sa_cons (so_nm 1) (sa_cons (so_nm 0) (sa_cons (so_ex se_int) sa_nil))))) (so_ex se_int))
 (sb_one (ss_set 11 sc_law.nd rfl (by first | exact .inl rfl | exact .inr rfl) (se_slL (so_nm 11) (so_ex se_int))))
 sb_nil)
 (sb_one (ss_if (st_not (st_tru (so_ex (se_call (ok__law_exact G) (hr.mono (by decide)) (by rfl) (sa_cons (so_ex (se_call (ok__law_row_right G) (hr.mono (by decide)) (by rfl) (sa_cons (so_nm 11) sa_nil))) (sa_cons (so_ex (se_call (ok_is_row G) (hr.mono (by decide)) (by rfl) (sa_cons (so_ex (se_tupleC (by rfl) (G.free 3 _ rfl) (so_nm 11))) sa_nil))) sa_nil))))))
 (sb_one (ss_ret se_bl))
 sb_nil)))))))))))))))))
 (sb_one (ss_ret se_bl))))) F
end
end K72
set_option Elab.async false
set_option linter.all false
set_option maxRecDepth 100000
set_option maxHeartbeats 2000000
/-! ComL: what the shared defs do: the draws. -/
namespace Eng
open PySem PySem.Spec PyProof.Rows L2 Com
theorem atI_map {ns : List Int} {i : Int} (h0 : 0 ≤ i) (h1 : i < ns.length) : ∃ c, atI (ns.map D.int) i = some (.int c) := by
  obtain ⟨j, rfl⟩ := Int.eq_ofNat_of_zero_le h0
  have hj : j < ns.length := by omega
  refine ⟨ns[j], ?_⟩
  have e : (ns.map D.int)[j]? = some (.int ns[j]) := by rw [List.getElem?_map, List.getElem?_eq_getElem hj]; rfl
  exact atI_nat e
theorem mulr {i j : Int} (h : -(2 ^ 64) < j ∧ j < 2 ^ 64) : CMul i j := .inr h
theorem mull {i j : Int} (h : -(2 ^ 64) < i ∧ i < 2 ^ 64) : CMul i j := .inl h
theorem run_refill (ns : List Int) (k : Int) (hk : 0 ≤ k) : wR m__law_refill [.val (.scr (ns.map .int)), .val (.int k)] fun d o => o = false ∧ ∃ r : Int, 0 ≤ r ∧ d = .int r := by
  refine wR_fn rfl ?_
  have p1 : CPow 10 18 := ⟨by decide, by decide, by decide⟩
  have p2 : ∀ i, CMul i 48271 := fun i => mulr (by decide)
  have p3 : ∀ i, CMul i 69621 := fun i => mulr (by decide)
  have p4 : ∀ i, CMul i 40692 := fun i => mulr (by decide)
  have p5 : ∀ i, CMul 2 i := fun i => mull (by decide)
  have p6 : ∀ i : Int, 0 ≤ i.fmod 2147483399 := fun i => Int.fmod_nonneg_of_pos _ (by decide)
  unfold b__law_refill
  by_cases hn : ns = []
  · subst hn
    simp [truth, bLen, bInt, opMod, opIx, opCmp, opSub, opMul, opPow, opAdd, p1, p2, p3, p4, p5, p6, still]
  · have hl : 0 < (ns.length : Int) := by have := List.length_pos_iff.mpr hn; omega
    obtain ⟨c, hc⟩ := atI_map (ns := ns) (i := k.fmod ns.length) (Int.fmod_nonneg_of_pos _ hl) (Int.fmod_lt_of_pos _ hl)
    simp [truth, bLen, bInt, opMod, opIx, opCmp, opSub, opMul, opPow, opAdd, p1, p2, p3, p4, p5, p6, still, hn, hc]
    split <;> omega
section
variable {x y : D}
@[simp] theorem at_20 : atI [x, y] 0 = some x := rfl
@[simp] theorem at_21 : atI [x, y] 1 = some y := rfl
@[simp] theorem ix_20 : ixN 2 0 = some 0 := rfl
@[simp] theorem ix_21 : ixN 2 1 = some 1 := rfl
@[simp] theorem eq_int {i j : Int} : opEq (.int i) (.int j) = some (.bl (decide (i = j)), false) := by
  unfold opEq
  have h : dok (.int i) = true ∧ dok (.int j) = true := ⟨rfl, rfl⟩
  rw [if_pos h]
  have e : deq (.int i) (.int j) = decide (i = j) := by
    by_cases q : i = j
    · subst q; simp [deq, toPy, PyData.eqv]
    · simp [deq, toPy, PyData.eqv, q]
  rw [e]
@[simp] theorem opd_ex {m : ME} : (Arg.ex m).opd = .ex m := rfl
@[simp] theorem opd_ln {i : Nat} : (Arg.ln i).opd = .nm i := rfl
@[simp] theorem opd_io {i : Nat} : (Arg.io i).opd = .nm i := rfl
@[simp] theorem slots_nil {ρ : Env} : slotsOf [] [] ρ = some [] := rfl
@[simp] theorem slots_ex {m : ME} {as : List Arg} {d : D} {ds : List D} {ρ : Env} : slotsOf (.ex m :: as) (d :: ds) ρ = (slotsOf as ds ρ).map fun r => .val d :: r := rfl
@[simp] theorem slots_ln {i : Nat} {as : List Arg} {d : D} {ds : List D} {ρ : Env} : slotsOf (.ln i :: as) (d :: ds) ρ = (slotsOf as ds ρ).map fun r => .val d :: r := rfl
end
/-- the state of the draws -/
abbrev St (a b : Int) : D := .lst [.int a, .int b]
theorem run_draw (ns : List Int) (a b size : Int) (ha : 0 ≤ a) (hb : 0 ≤ b) (h1 : 0 < size) (h2 : size < 1073741824) :
    wC3 m__law_draw [.own (St a b), .val (.scr (ns.map .int)), .val (.int size)] fun d o s2 => o = false ∧ ∃ (r a' b' : Int) (x y z : Slot), d = .int r ∧ 0 ≤ r ∧ r < size ∧ 0 ≤ a' ∧ 0 ≤ b' ∧ s2 = [.own (St a' b'), x, y, z] := by
  have p1 : CDivN 0 size := ⟨by omega, by omega⟩
  have p2 : ∀ i, CDivN i size := fun i => ⟨by omega, by omega⟩
  have p3 : ∀ i : Int, 0 ≤ i → 0 ≤ i.fdiv size := fun i hi => Int.fdiv_nonneg hi (by omega)
  have p4 : ∀ i : Int, 0 ≤ i.fmod size := fun i => Int.fmod_nonneg_of_pos _ h1
  have p5 : ∀ i : Int, i.fmod size < size := fun i => Int.fmod_lt_of_pos _ h1
  have p6 : ¬ size = 0 := by omega
  unfold m__law_draw
  rw [wC_fn]
  refine ⟨rfl, ?_⟩
  unfold b__law_draw St
  by_cases hb0 : b = 0
  · subst hb0
    simp [truth, bLen, bInt, opMod, opIx, opCmp, opSub, opMul, opPow, opAdd, opDiv, still]
    refine wCall_of rfl rfl (wF_mono (run_refill ns a ha) fun q hq => ⟨hq.1, ?_⟩)
    obtain ⟨_, ho, r, hr, hd⟩ := hq
    rw [hd, ho]
    simp [truth, bLen, bInt, opMod, opIx, opCmp, opSub, opMul, opPow, opAdd, opDiv, still, frzE, clean, p2, p4, p5, p6]
    exact ⟨by omega, p3 r hr⟩
  · simp [truth, bLen, bInt, opMod, opIx, opCmp, opSub, opMul, opPow, opAdd, opDiv, still, hb0, p2, p4, p5, p6]
    exact ⟨ha, p3 b hb⟩
end Eng
set_option Elab.async false
set_option linter.all false
set_option maxRecDepth 100000
set_option maxHeartbeats 2000000
/-! ComM: gcd, tables. -/
namespace Eng
open PySem PySem.Spec PyProof.Rows L2 Com
theorem run_gcd (a b : Int) (hb : b.natAbs < 999999) : Rn m__law_gcd [.val (.int a), .val (.int b)] (.int (Int.gcd a b)) false := by
  refine wR_fn rfl ?_
  unfold b__law_gcd
  simp [bAbs]
  refine wW_inv (m0 := b.natAbs) (fun k ρ => ∃ (x y : Int) (z : Slot), ρ = [.val (.int x), .val (.int y), z] ∧ 0 ≤ x ∧ 0 ≤ y ∧ y.natAbs = k ∧ Int.gcd x y = Int.gcd a b) ⟨_, _, _, rfl, ?_, ?_, ?_, ?_⟩ (by unfold fuel; omega) ?_
  · split <;> omega
  · split <;> omega
  · split <;> omega
  · have e1 : (if a < 0 then -a else a).natAbs = a.natAbs := by split <;> omega
    have e2 : (if b < 0 then -b else b).natAbs = b.natAbs := by split <;> omega
    unfold Int.gcd
    rw [e1, e2]
  · rintro k _ ⟨x, y, z, rfl, hx, hy, hk, hg⟩
    simp [opCmp, bInt, opMod]
    by_cases h : 0 < y
    · have hne : ¬ y = 0 := by omega
      simp [h, hne]
      refine ⟨(x.fmod y).natAbs, ?_, y, x.fmod y, ⟨rfl, rfl⟩, hy, Int.fmod_nonneg_of_pos _ h, rfl, ?_⟩
      · have h1 := Int.fmod_nonneg_of_pos x h
        have h2 := Int.fmod_lt_of_pos x h
        omega
      · rw [← hg, Int.fmod_eq_emod_of_nonneg _ hy]
        obtain ⟨m, rfl⟩ := Int.eq_ofNat_of_zero_le hx
        obtain ⟨n, rfl⟩ := Int.eq_ofNat_of_zero_le hy
        rw [← Int.natCast_emod]
        show Nat.gcd n (m % n) = Nat.gcd m n
        rw [Nat.gcd_comm m n, Nat.gcd_comm n (m % n), ← Nat.gcd_rec]
    · have : y = 0 := by omega
      subst this
      simp [still]
      rw [← hg]
      simp
      omega
end Eng
set_option Elab.async false
set_option linter.all false
set_option maxRecDepth 100000
set_option maxHeartbeats 2000000
/-! ComN: tables of sums. -/
namespace Eng
open PySem PySem.Spec PyProof.Rows L2 Com
/-- the sums of gs -/
inductive Sm (gs : List Nat) : Nat → Prop where
  | zero : Sm gs 0
  | add {n g : Nat} (h : Sm gs n) (hg : g ∈ gs) : Sm gs (n + g)
noncomputable def sb (gs : List Nat) (n : Nat) : Bool := @decide (Sm gs n) (Classical.propDecidable _)
theorem sb_iff {gs : List Nat} {n : Nat} : sb gs n = true ↔ Sm gs n := by
  unfold sb
  exact @decide_eq_true_iff _ (Classical.propDecidable _)
theorem sb_zero {gs : List Nat} : sb gs 0 = true := sb_iff.mpr .zero
/-- the last step to a number -/
theorem Sm.last {gs : List Nat} {n : Nat} (h : Sm gs n) (hn : 0 < n) : ∃ g ∈ gs, 0 < g ∧ g ≤ n ∧ Sm gs (n - g) := by
  induction h with
  | zero => exact absurd hn (Nat.lt_irrefl _)
  | @add m g h hg ih =>
    by_cases h0 : g = 0
    · subst h0
      exact ih hn
    · exact ⟨g, hg, by omega, by omega, by rw [Nat.add_sub_cancel]; exact h⟩
theorem sb_any {gs : List Nat} (hp : ∀ g ∈ gs, 0 < g) {n : Nat} (hn : 0 < n) : sb gs n = gs.any fun g => decide (g ≤ n) && sb gs (n - g) := by
  rw [Bool.eq_iff_iff, sb_iff, List.any_eq_true]
  constructor
  · intro h
    obtain ⟨g, h1, _, h3, h4⟩ := h.last hn
    exact ⟨g, h1, by rw [Bool.and_eq_true, decide_eq_true_eq, sb_iff]; exact ⟨h3, h4⟩⟩
  · rintro ⟨g, h1, h2⟩
    rw [Bool.and_eq_true, decide_eq_true_eq, sb_iff] at h2
    have := Sm.add h2.2 h1
    rwa [Nat.sub_add_cancel h2.1] at this
/-- whole numbers as data -/
abbrev dN (gs : List Nat) : List D := gs.map fun (n : Nat) => D.int (n : Int)
abbrev dBl (bs : List Bool) : List D := bs.map D.bl
/-- the table of sums up to m -/
noncomputable def tabB (gs : List Nat) (m : Nat) : List Bool := (List.range (m + 1)).map (sb gs)
/-- .. as far as k -/
noncomputable def tabK (gs : List Nat) (m k : Nat) : List Bool := (List.range (m + 1)).map fun n => decide (n ≤ k) && sb gs n
theorem tabK_len (gs : List Nat) (m k : Nat) : (tabK gs m k).length = m + 1 := by simp [tabK]
theorem tabK_get {gs : List Nat} {m k n : Nat} (h : n ≤ m) : (tabK gs m k)[n]? = some (decide (n ≤ k) && sb gs n) := by
  unfold tabK
  rw [List.getElem?_map, List.getElem?_range (by omega)]; rfl
theorem tabK_zero (gs : List Nat) (m : Nat) : tabK gs m 0 = true :: List.replicate m false := by
  apply List.ext_getElem?
  intro n
  by_cases h : n ≤ m
  · rw [tabK_get h]
    cases n with
    | zero => simp [sb_zero]
    | succ n => simp [List.getElem?_replicate]; omega
  · rw [List.getElem?_eq_none (by rw [tabK_len]; omega), List.getElem?_eq_none (by simp; omega)]
theorem tabK_all (gs : List Nat) (m : Nat) : tabK gs m m = tabB gs m := by
  unfold tabK tabB
  apply List.map_congr_left
  intro n hn
  have := List.mem_range.mp hn
  simp; omega
theorem tabK_succ (gs : List Nat) (m k : Nat) (h : k + 1 ≤ m) : (tabK gs m k).set (k + 1) (sb gs (k + 1)) = tabK gs m (k + 1) := by
  apply List.ext_getElem?
  intro n
  by_cases hn : n ≤ m
  · rw [tabK_get hn]
    by_cases e : n = k + 1
    · subst e
      rw [List.getElem?_set_self (by rw [tabK_len]; omega)]; simp
    · rw [List.getElem?_set_ne (Ne.symm e), tabK_get hn]
      congr 2
      apply decide_eq_decide.mpr; omega
  · rw [List.getElem?_eq_none (by simp [tabK_len]; omega), List.getElem?_eq_none (by rw [tabK_len]; omega)]
theorem dBl_set (bs : List Bool) (k : Nat) (b : Bool) : (dBl bs).set k (.bl b) = dBl (bs.set k b) := by simp [dBl, List.map_set]
theorem atI_bl {bs : List Bool} {k : Nat} {b : Bool} (h : bs[k]? = some b) : atI (dBl bs) (k : Int) = some (.bl b) := atI_nat (by rw [List.getElem?_map, h]; rfl)
theorem ixN_nat {n k : Nat} (h : k < n) : ixN n (k : Int) = some k := by
  unfold ixN
  rw [if_pos (by omega), if_pos (by omega)]; simp
end Eng
set_option Elab.async false
set_option linter.all false
set_option maxRecDepth 100000
set_option maxHeartbeats 2000000
/-! ComO: sums_up_to, _law_table. -/
namespace Eng
open PySem PySem.Spec PyProof.Rows L2 Com
theorem sizeL : sizeLine = 16777216 := sizeLine_eq
theorem rng_at {lo : Int} {n k : Nat} {d : D} (h : (rngD lo n)[k]? = some d) : k < n ∧ d = .int (lo + k) := rng_get h
theorem run_sums {g : D} {gs : List Nat} (hs : seqOf g = some (dN gs)) (hp : ∀ x ∈ gs, 0 < x) (m : Nat) (hm : m + 1 ≤ sizeLine) : Rn m_sums_up_to [.val g, .val (.int m)] (.lst (dBl (tabB gs m))) true := by
  have hz := sizeL
  unfold Rn m_sums_up_to
  refine wR_fn (by simp [ownOk]) ?_
  unfold b_sums_up_to
  have q1 : ((1 : Nat) : Int) = 1 := rfl
  simp [opMul, opAdd, show -(9223372036854775808 : Int) ≤ m by omega, show (m : Int) < 9223372036854775808 by omega, show m ≤ sizeLine by omega, show 1 + m ≤ sizeLine by omega, show (-4611686018427387904 : Int) ≤ m + 1 by omega, show (m : Int) + 1 < 4611686018427387904 by omega]
  refine ⟨1, m + 1, ⟨rfl, rfl⟩, by omega, ?_⟩
  rw [show ((m : Int) + 1 - 1).toNat = m by omega, show (D.bl true :: List.replicate m (D.bl false)) = dBl (tabK gs m 0) by rw [tabK_zero]; simp]
  refine wL_inv (fun k ρ => ∃ s3, ρ = [.val g, .val (.int m), .own (.lst (dBl (tabK gs m k))), s3, .un]) ⟨_, rfl⟩ (fun k d ρ hd ⟨s3, hρ⟩ => ?_) fun ρ ⟨s3, hρ⟩ => ?_
  · obtain ⟨hk, rfl⟩ := rng_at hd
    subst hρ
    have hn : (1 : Int) + k = ((k + 1 : Nat) : Int) := by omega
    rw [hn]
    simp [tgS, hs, notOwn, wipeE]
    refine wX_map (fun d => match d with | .int x => some (decide (x.toNat ≤ k + 1) && sb gs (k + 1 - x.toNat)) | _ => none) (fun d hd => ?_) ?_
    · obtain ⟨x, hx, rfl⟩ := List.mem_map.mp hd
      have hx0 := hp x hx
      by_cases h : x ≤ k + 1
      · have e : atI (dBl (tabK gs m k)) ((k : Int) + 1 - x) = some (.bl (sb gs (k + 1 - x))) := by
          rw [show ((k : Int) + 1 - x) = ((k + 1 - x : Nat) : Int) by omega]
          refine atI_bl ?_
          rw [tabK_get (by omega), show decide (k + 1 - x ≤ k) = true from decide_eq_true (by omega), Bool.true_and]
        have h' : (x : Int) ≤ k + 1 := by omega
        simp [tgS, opCmp, truth, opSub, opIx, h, h', e, wipeE]
      · have h' : ¬ (x : Int) ≤ k + 1 := by omega
        simp [tgS, opCmp, truth, opSub, opIx, h, h', wipeE]
    · have hx : ixN (dBl (tabK gs m k)).length ((k : Int) + 1) = some (k + 1) := by
        rw [show ((k : Int) + 1) = ((k + 1 : Nat) : Int) by omega]
        exact ixN_nat (by rw [List.length_map, tabK_len]; omega)
      have hv : ((dN gs).filterMap fun d => match d with | .int x => some (decide (x.toNat ≤ k + 1) && sb gs (k + 1 - x.toNat)) | _ => none).any id = sb gs (k + 1) := by
        rw [sb_any hp (Nat.succ_pos k), dN, List.filterMap_map, List.any_filterMap]
        simp
        congr 1
        funext a
        congr 1
        apply decide_eq_decide.mpr
        omega
      simp only [if_true, hv]
      have hr : restE [Slot.val g, Slot.val (D.int m), Slot.own (D.lst (dBl (tabK gs m k))), Slot.val (D.int (k + 1)), Slot.un] [4] [Slot.val g, Slot.val (D.int m), Slot.own (D.lst (dBl (tabK gs m k))), Slot.val (D.int (k + 1)), Slot.un] =
        [Slot.val g, Slot.val (D.int m), Slot.own (D.lst (dBl (tabK gs m k))), Slot.val (D.int (k + 1)), Slot.un] := rfl
      rw [hr]
      refine ⟨⟨_, rfl⟩, rfl, ?_⟩
      simp only [List.getElem?_cons_succ, List.getElem?_cons_zero, rd_val, wF_some]
      refine ⟨_, rfl, _, rfl, k + 1, hx, ?_⟩
      refine ⟨Slot.val (D.int (k + 1)), ?_⟩
      rw [dBl_set, tabK_succ gs m k hk]
      rfl
  · subst hρ
    rw [rng_len]
    simp [still, tabK_all]

/-- .. as the first j of the generators tell it -/
noncomputable def anyK (gs : List Nat) (n j : Nat) : Bool := (gs.take j).any fun g => decide (g ≤ n) && sb gs (n - g)
theorem anyK_succ {gs : List Nat} {n j x : Nat} (h : gs[j]? = some x) : anyK gs n (j + 1) = (anyK gs n j || (decide (x ≤ n) && sb gs (n - x))) := by
  unfold anyK
  rw [List.take_add_one, h, List.any_append]
  simp
theorem run_table {g : D} {gs : List Nat} (hs : seqOf g = some (dN gs)) (hp : ∀ x ∈ gs, 0 < x) (m : Nat) (hm : m + 1 ≤ sizeLine) : Rn m__law_table [.val g, .val (.int m)] (.lst (dBl (tabB gs m))) true := by
  have hz := sizeL
  unfold Rn m__law_table
  refine wR_fn (by simp [ownOk]) ?_
  unfold b__law_table
  simp [opAdd, show (-4611686018427387904 : Int) ≤ m by omega, show (m : Int) < 4611686018427387904 by omega, rng_len, show m ≤ sizeLine by omega, notOwn, wipeE]
  refine wK_map (fun _ => some (.bl false)) (fun d hd => ?_) ?_
  · simp [tgS, wipeE]
  · have hL : (D.bl true :: List.map (fun _ => D.bl false) (rngD 0 m)) = dBl (tabK gs m 0) := by
      rw [tabK_zero]
      simp [rngD, dBl]
      exact List.eq_replicate_iff.mpr ⟨by simp, fun b hb => by obtain ⟨_, _, rfl⟩ := List.mem_map.mp hb; rfl⟩
    simp [rng_len, show 1 + m ≤ sizeLine by omega, restE]
    rw [hL]
    refine ⟨1, m + 1, ⟨rfl, rfl⟩, by omega, ?_⟩
    rw [show ((m : Int) + 1 - 1).toNat = m by omega]
    refine wL_inv (fun k ρ => ∃ s4 s5, ρ = [.val g, .val (.int m), .un, .own (.lst (dBl (tabK gs m k))), s4, s5]) ⟨_, _, rfl⟩ (fun k d ρ hd ⟨s4, s5, hρ⟩ => ?_) fun ρ ⟨s4, s5, hρ⟩ => ?_
    · obtain ⟨hk, rfl⟩ := rng_at hd
      subst hρ
      have hn : (1 : Int) + k = ((k + 1 : Nat) : Int) := by omega
      rw [hn]
      simp only [tgS, wF_some]
      simp only [wS_for, wI_nm, List.getElem?_cons_zero, List.set_cons_succ, List.set_cons_zero, rd_val, wF_some, hs]
      refine wL_inv (fun j ρ => ∃ s5, ρ = [.val g, .val (.int m), .un, .own (.lst (dBl ((tabK gs m k).set (k + 1) (anyK gs (k + 1) j)))), .val (.int ((k + 1 : Nat) : Int)), s5]) ⟨s5, ?_⟩ (fun j d ρ hd ⟨s5, hρ⟩ => ?_) fun ρ ⟨s5, hρ⟩ => ?_
      · have : (tabK gs m k).set (k + 1) (anyK gs (k + 1) 0) = tabK gs m k := by
          apply List.ext_getElem?
          intro n
          by_cases e : n = k + 1
          · subst e
            rw [List.getElem?_set_self (by rw [tabK_len]; omega), tabK_get (by omega)]
            simp [anyK]
            intro h; omega
          · rw [List.getElem?_set_ne (Ne.symm e)]
        rw [this]
      · subst hρ
        rw [List.getElem?_map] at hd
        obtain ⟨x, hx, rfl⟩ := Option.map_eq_some_iff.mp hd
        have hx0 := hp x (List.mem_of_getElem? hx)
        simp only [tgS, wF_some]
        by_cases h : x ≤ k + 1
        · have e : atI (dBl ((tabK gs m k).set (k + 1) (anyK gs (k + 1) j))) (((k + 1 : Nat) : Int) - x) = some (.bl (sb gs (k + 1 - x))) := by
            rw [show (((k + 1 : Nat) : Int) - x) = ((k + 1 - x : Nat) : Int) by omega]
            refine atI_bl ?_
            rw [List.getElem?_set_ne (by omega), tabK_get (by omega), show decide (k + 1 - x ≤ k) = true from decide_eq_true (by omega), Bool.true_and]
          have h' : (x : Int) ≤ ((k + 1 : Nat) : Int) := by omega
          have hix : ixN (dBl ((tabK gs m k).set (k + 1) (anyK gs (k + 1) j))).length (((k + 1 : Nat) : Int)) = some (k + 1) := ixN_nat (by simp [tabK_len]; omega)
          have hs1 : anyK gs (k + 1) (j + 1) = (anyK gs (k + 1) j || sb gs (k + 1 - x)) := by
            rw [anyK_succ hx, show decide (x ≤ k + 1) = true from decide_eq_true h, Bool.true_and]
          simp only [wS_if, wT_and, wT_B, wM_bin, wO_def, wPre_nm, wPre_nil, wF_finr, fin_nil, wF_some, List.getElem?_cons_succ, List.getElem?_cons_zero, List.set_cons_succ, List.set_cons_zero, rd_val, Option.isSome_some, true_and, w2_two, opCmp, wB_bl, h', decide_true, if_true, wT_tr, wPre_ex, opSub, rd_own, opIx, e, wF_map, wF_finl]
          refine ⟨_, rfl, ?_⟩
          simp only [truth, wF_some]
          cases hb : sb gs (k + 1 - x) with
          | true =>
            rw [if_pos rfl]
            simp only [wS_setIx, wM_C, wO_def, wPre_nm, wPre_nil, wF_finr, fin_nil, wF_some, List.getElem?_cons_succ, List.getElem?_cons_zero, rd_val, Option.isSome_some, true_and]
            refine ⟨⟨_, rfl⟩, _, _, k + 1, rfl, rfl, hix, ?_⟩
            simp only [turn_nx, List.set_cons_succ, List.set_cons_zero]
            refine ⟨.val (.int (x : Int)), ?_⟩
            rw [dBl_set, List.set_set, hs1, hb, Bool.or_true]
          | false =>
            rw [if_neg Bool.false_ne_true]
            simp only [wS_nop, turn_nx, List.set_cons_succ, List.set_cons_zero]
            refine ⟨.val (.int (x : Int)), ?_⟩
            rw [hs1, hb, Bool.or_false]
        · have h' : ¬ (x : Int) ≤ ((k + 1 : Nat) : Int) := by omega
          have hs1 : anyK gs (k + 1) (j + 1) = anyK gs (k + 1) j := by
            rw [anyK_succ hx, show decide (x ≤ k + 1) = false from decide_eq_false h, Bool.false_and, Bool.or_false]
          simp only [wS_if, wT_and, wT_B, wM_bin, wO_def, wPre_nm, wPre_nil, wF_finr, fin_nil, wF_some, List.getElem?_cons_succ, List.getElem?_cons_zero, List.set_cons_succ, List.set_cons_zero, rd_val, Option.isSome_some, true_and, w2_two, opCmp, wB_bl, h', decide_false, Bool.false_eq_true, if_false, wS_nop, turn_nx]
          refine ⟨.val (.int (x : Int)), ?_⟩
          rw [hs1]
      · subst hρ
        rw [turn_nx, List.length_map]
        refine ⟨.val (.int ((k + 1 : Nat) : Int)), s5, ?_⟩
        rw [show anyK gs (k + 1) gs.length = sb gs (k + 1) by unfold anyK; rw [List.take_length, sb_any hp (Nat.succ_pos k)], tabK_succ gs m k hk]
    · subst hρ
      rw [rng_len]
      simp [still, tabK_all]
end Eng
set_option Elab.async false
set_option linter.all false
set_option maxRecDepth 100000
set_option maxHeartbeats 2000000
/-! ComP: _law_exact of two equal data. -/
namespace Eng
open PySem PySem.Spec PyProof.Rows L2 Com
@[simp ↓] theorem wM_isi2 {ρ : Env} {Q : D → Bool → Env → Prop} {o : Opd} {y z : Ty} : wM (mIsi2 y z o) ρ Q = wO [o] ρ fun ds ρ' => ∃ x, ds = [x] ∧ isF x = false ∧ Q (.bl (isT y x || isT z x)) false ρ' := by
  simp only [wM, mIsi2, wO, wF_bind]
  congr 1
  funext q
  obtain ⟨l, r⟩ := q
  rcases l with _ | ⟨x, _ | ⟨w, l⟩⟩
  · rw [wF_none]; simp
  · rw [wF_guard]; simp
  · rw [wF_none]; simp
@[simp ↓] theorem wM_isi {ρ : Env} {Q : D → Bool → Env → Prop} {o : Opd} {y : Ty} : wM (mIsi y o) ρ Q = wO [o] ρ fun ds ρ' => ∃ x, ds = [x] ∧ isF x = false ∧ Q (.bl (isT y x)) false ρ' := by
  simp only [wM, mIsi, wO, wF_bind]
  congr 1
  funext q
  obtain ⟨l, r⟩ := q
  rcases l with _ | ⟨x, _ | ⟨w, l⟩⟩
  · rw [wF_none]; simp
  · rw [wF_guard]; simp
  · rw [wF_none]; simp
@[simp] theorem isF_lst {l : List D} : isF (.lst l) = false := rfl
@[simp] theorem isF_tup {l : List D} : isF (.tup l) = false := rfl
@[simp] theorem isF_int {l : Int} : isF (.int l) = false := rfl
@[simp] theorem isF_bl {l : Bool} : isF (.bl l) = false := rfl
@[simp] theorem isF_non : isF .non = false := rfl
theorem fm_some {α β : Type} (f : α → β) : ∀ l : List α, (l.filterMap fun x => some (f x)) = l.map f
  | [] => rfl
  | x :: r => by rw [List.filterMap_cons, List.map_cons, fm_some f r]
/-- data whose lists and tuples go n deep at most -/
def plD : Nat → D → Bool
  | 0, _ => false
  | n + 1, .lst xs => decide (xs.length ≤ sizeLine) && xs.all (plD n)
  | n + 1, .tup xs => decide (xs.length ≤ sizeLine) && xs.all (plD n)
  | n + 1, .int _ => true
  | n + 1, .bl _ => true
  | n + 1, .non => true
  | _, _ => false
theorem eq_bl {i j : Bool} : opEq (.bl i) (.bl j) = some (.bl (i == j), false) := by
  cases i <;> cases j <;> rfl
theorem ne_bl {i j : Bool} : opNe (.bl i) (.bl j) = some (.bl (i != j), false) := by
  cases i <;> cases j <;> rfl
theorem seq_exact (n : Nat) (d : D) (xs : List D) (hd : d = .lst xs ∨ d = .tup xs) (hz : xs.length ≤ sizeLine) (ih : ∀ x ∈ xs, Rn (mm__law_exact n) [.val x, .val x] (.bl true) false) : Rn (mm__law_exact (n + 1)) [.val d, .val d] (.bl true) false := by
  have hs := sizeL
  have hl : bLen [d] = some (.int xs.length, false) := by rcases hd with rfl | rfl <;> rfl
  have hi : ∀ k : Nat, ∀ x, xs[k]? = some x → opIx d (.int k) = some (x, false) := fun k x hx => by
    rcases hd with rfl | rfl <;> simp [opIx, atI_nat hx]
  have t2 : isF d = false := by rcases hd with rfl | rfl <;> rfl
  have t1 : isT .list d = true ∨ isT .tuple d = true := by rcases hd with rfl | rfl <;> simp [isT]
  unfold Rn
  show wR (mFn [] 2 (b__law_exact (mm__law_exact n))) _ _
  refine wR_fn (by simp [ownOk]) ?_
  unfold b__law_exact
  simp [truth, t1, t2, ne_bl, hl]
  refine ⟨by omega, ⟨by rw [rng_len]; exact hz, rfl⟩, ?_⟩
  refine wK_map (fun _ => some (.bl true)) (fun e he => ?_) ?_
  · obtain ⟨k, hk, rfl⟩ : ∃ k : Nat, k < xs.length ∧ e = .int k := by
      obtain ⟨k, hk, e1⟩ := List.mem_map.mp he
      exact ⟨k, List.mem_range.mp hk, by rw [← e1]; simp⟩
    have h2 := hi k _ (List.getElem?_eq_getElem hk)
    have h3 := ih _ (List.getElem_mem hk)
    simp only [tgS, wF_some, wipeE, List.set_cons_succ, List.set_cons_zero, wT_yes, if_true, wM_call, List.map_cons, List.map_nil, opd_ex, wO_def, wPre_ex, wPre_nm, wPre_nil, wM_bin, w2_two, List.getElem?_cons_succ, List.getElem?_cons_zero, rd_val, Option.isSome_some, true_and, wF_finr, fin_nil, wF_finl, h2, slots_ex, slots_nil, Option.map_some]
    rw [h3.call rfl rfl]
    simp [frzE]
  · have hb : bAll [.lst ((rngD 0 xs.length).filterMap fun _ => some (D.bl true))] = some (.bl true, false) := by
      have : ((rngD 0 xs.length).filterMap fun _ => some (D.bl true)) = (List.replicate xs.length true).map D.bl := by
        rw [fm_some, List.map_replicate]
        exact List.eq_replicate_iff.mpr ⟨by simp [rngD], fun b hb => by obtain ⟨_, _, rfl⟩ := List.mem_map.mp hb; rfl⟩
      rw [this]
      show Option.map (fun bs : List Bool => (D.bl (bs.all id), false)) (dBs _) = _
      rw [dBs_bls]
      simp
    rw [hb]
    simp [wipeE, restE, still]
theorem run_exact : ∀ (n : Nat) (d : D), plD n d = true → Rn (mm__law_exact n) [.val d, .val d] (.bl true) false
  | 0, d, h => by cases d <;> cases h
  | n + 1, .lst xs, h => by
    simp only [plD, Bool.and_eq_true, decide_eq_true_eq, List.all_eq_true] at h
    exact seq_exact n _ xs (.inl rfl) h.1 fun x hx => run_exact n x (h.2 x hx)
  | n + 1, .tup xs, h => by
    simp only [plD, Bool.and_eq_true, decide_eq_true_eq, List.all_eq_true] at h
    exact seq_exact n _ xs (.inr rfl) h.1 fun x hx => run_exact n x (h.2 x hx)
  | n + 1, .int i, _ => by
    show wR (mFn [] 2 (b__law_exact (mm__law_exact n))) _ _
    refine wR_fn (by simp [ownOk]) ?_
    unfold b__law_exact
    simp [truth, isT, opIsN, eq_bl, still]
  | n + 1, .bl i, _ => by
    show wR (mFn [] 2 (b__law_exact (mm__law_exact n))) _ _
    refine wR_fn (by simp [ownOk]) ?_
    unfold b__law_exact
    simp [truth, isT, opIsN, eq_bl, still]
  | n + 1, .non, _ => by
    show wR (mFn [] 2 (b__law_exact (mm__law_exact n))) _ _
    refine wR_fn (by simp [ownOk]) ?_
    unfold b__law_exact
    simp [truth, isT, opIsN, eq_bl, still]
  | n + 1, .str _, h => by cases h
  | n + 1, .scr _, h => by cases h
  | n + 1, .dK _, h => by cases h
  | n + 1, .dT _, h => by cases h
  | n + 1, .dF _, h => by cases h
end Eng
set_option Elab.async false
set_option linter.all false
set_option maxRecDepth 100000
set_option maxHeartbeats 2000000
/-! ComQ: _law_least. -/
namespace Eng
open PySem PySem.Spec PyProof.Rows L2 Com
theorem dIs_dN (ns : List Nat) : dIs (dN ns) = some (ns.map fun n : Nat => (n : Int)) := by
  have : dN ns = (ns.map fun n : Nat => (n : Int)).map D.int := by rw [List.map_map]; rfl
  rw [this, dIs_ints]
/-- the numbers in order, each once -/
def sortN (ns : List Nat) : List Nat := (sortU (ns.map fun n : Nat => (n : Int))).map Int.toNat
theorem sortU_mem {l : List Int} {k : Int} : k ∈ sortU l ↔ k ∈ l := by
  unfold sortU
  rw [undup_mem, (srtZ_perm l).mem_iff]
theorem sortN_cast (ns : List Nat) : (sortN ns).map (fun n : Nat => (n : Int)) = sortU (ns.map fun n : Nat => (n : Int)) := by
  unfold sortN
  rw [List.map_map]
  conv => rhs; rw [← List.map_id (sortU _)]
  apply List.map_congr_left
  intro k hk
  obtain ⟨n, _, rfl⟩ := List.mem_map.mp (sortU_mem.mp hk)
  rfl
theorem sortN_mem {ns : List Nat} {k : Nat} : k ∈ sortN ns ↔ k ∈ ns := by
  have h : ((k : Int) ∈ (sortN ns).map (fun n : Nat => (n : Int))) ↔ ((k : Int) ∈ ns.map fun n : Nat => (n : Int)) := by rw [sortN_cast, sortU_mem]
  have inj : ∀ l : List Nat, ((k : Int) ∈ l.map (fun n : Nat => (n : Int))) ↔ k ∈ l := fun l => by
    rw [List.mem_map]
    exact ⟨fun ⟨a, h1, h2⟩ => by have : a = k := by omega
                                 exact this ▸ h1, fun h => ⟨k, h, rfl⟩⟩
  rwa [inj, inj] at h
theorem sortN_lt (ns : List Nat) : (sortN ns).Pairwise (· < ·) := by
  have h : (sortU (ns.map fun n : Nat => (n : Int))).Pairwise (· < ·) := undup_ord (srtZ_ord _)
  rw [← sortN_cast, List.pairwise_map] at h
  exact h.imp fun h => by omega
/-- the least generators, one by one -/
noncomputable def lstStep (out : List Nat) (x : Nat) : List Nat := if out = [] ∨ sb out x = false then out ++ [x] else out
noncomputable def lstM (ns : List Nat) : List Nat := (sortN ns).foldl lstStep []
theorem lst_sub : ∀ (l out : List Nat) {x : Nat}, x ∈ l.foldl lstStep out → x ∈ out ∨ x ∈ l
  | [], out, x, h => .inl h
  | y :: r, out, x, h => by
    rw [List.foldl_cons] at h
    rcases lst_sub r _ h with h | h
    · unfold lstStep at h
      split at h
      · rcases List.mem_append.mp h with h | h
        · exact .inl h
        · rw [List.mem_singleton.mp h]; exact .inr List.mem_cons_self
      · exact .inl h
    · exact .inr (List.mem_cons_of_mem _ h)
theorem lst_len : ∀ (l out : List Nat), (l.foldl lstStep out).length ≤ out.length + l.length
  | [], out => Nat.le_refl _
  | y :: r, out => by
    rw [List.foldl_cons]
    refine Nat.le_trans (lst_len r _) ?_
    unfold lstStep
    split
    · rw [List.length_append, List.length_cons, List.length_cons, List.length_nil]; omega
    · rw [List.length_cons]; omega
theorem undup_len : ∀ l : List Int, (undup l).length ≤ l.length
  | [] => Nat.le_refl _
  | [x] => Nat.le_refl _
  | x :: y :: r => by
    unfold undup
    have := undup_len (y :: r)
    split
    · rw [List.length_cons (as := y :: r)]; omega
    · rw [List.length_cons, List.length_cons (as := y :: r)]; omega
theorem sortN_len (ns : List Nat) : (sortN ns).length ≤ ns.length := by
  unfold sortN sortU
  rw [List.length_map]
  refine Nat.le_trans (undup_len _) ?_
  rw [(srtZ_perm _).length_eq, List.length_map]
  exact Nat.le_refl _
theorem cleans_bl : ∀ bs : List Bool, cleans (dBl bs) = true
  | [] => by simp [dBl, cleans]
  | b :: r => by
    have := cleans_bl r
    simp only [dBl, List.map_cons, cleans, clean, Bool.true_and]
    exact this
theorem cleans_N : ∀ ns : List Nat, cleans (dN ns) = true
  | [] => by simp [dN, cleans]
  | b :: r => by
    have := cleans_N r
    simp only [dN, List.map_cons, cleans, clean, Bool.true_and]
    exact this
theorem clean1_bl (bs : List Bool) : clean1 (.lst (dBl bs)) = true := by
  unfold clean1
  exact cleans_bl bs
theorem clean1_N (bs : List Nat) : clean1 (.lst (dN bs)) = true := by
  unfold clean1
  exact cleans_N bs
theorem clean_N (bs : List Nat) : clean (.tup (dN bs)) = true := by
  unfold clean
  exact cleans_N bs
theorem run_least {ns : List Nat} {s0 : Slot} (hs0 : s0 = .val (.lst (dN ns))) (hp : ∀ x ∈ ns, 0 < x) (hl : ns.length < 64) (hm : ∀ x ∈ ns, x + 1 ≤ sizeLine) : Rn m__law_least [s0] (.tup (dN (lstM ns))) false := by
  subst hs0
  have hz := sizeL
  unfold Rn m__law_least
  refine wR_fn (by simp [ownOk]) ?_
  unfold b__law_least
  simp [bSortSet, dIs_dN, hl, seqOf]
  have e : (sortU (ns.map fun n : Nat => (n : Int))).map D.int = dN (sortN ns) := by
    rw [← sortN_cast, List.map_map]; rfl
  rw [e]
  refine wL_inv (fun k ρ => ∃ s2, ρ = [.val (.lst (dN ns)), .own (.lst (dN (((sortN ns).take k).foldl lstStep []))), s2]) ⟨_, rfl⟩ (fun k d ρ hd ⟨s2, hρ⟩ => ?_) fun ρ ⟨s2, hρ⟩ => ?_
  · subst hρ
    rw [List.getElem?_map] at hd
    obtain ⟨x, hx, rfl⟩ := Option.map_eq_some_iff.mp hd
    have hxm : x ∈ ns := sortN_mem.mp (List.mem_of_getElem? hx)
    generalize hout : ((sortN ns).take k).foldl lstStep [] = out
    have hsub : ∀ y ∈ out, y ∈ ns := fun y hy => by
      rw [← hout] at hy
      rcases lst_sub _ _ hy with h | h
      · cases h
      · exact sortN_mem.mp (List.mem_of_mem_take h)
    have hlen : out.length < 64 := by
      rw [← hout]
      refine Nat.lt_of_le_of_lt (lst_len _ _) ?_
      have := sortN_len ns
      rw [List.length_take]
      simp only [List.length_nil]
      omega
    have hstep : ((sortN ns).take (k + 1)).foldl lstStep [] = lstStep out x := by
      rw [List.take_add_one, hx, List.foldl_append, hout]; rfl
    have ht := run_table (g := .lst (dN out)) (gs := out) rfl (fun y hy => hp y (hsub y hy)) x (by have := hm x hxm; omega)
    have hix : atI (dBl (tabB out x)) (x : Int) = some (.bl (sb out x)) := atI_bl (by
      unfold tabB
      rw [List.getElem?_map, List.getElem?_range (by omega)]; rfl)
    have hcl := clean1_bl (tabB out x)
    have hap : dN out ++ [D.int (x : Int)] = dN (out ++ [x]) := by simp [dN]
    have hemp : (dN out).isEmpty = out.isEmpty := by simp [dN]
    rw [hstep]
    simp only [tgS, wF_some, List.set_cons_succ, List.set_cons_zero, wS_if, wT_or, wT_not, wT_tr, wO_def, wPre_nm, wPre_nil, List.getElem?_cons_succ, List.getElem?_cons_zero, rd_own, Option.isSome_some, true_and, wF_finr, fin_nil]
    refine ⟨_, rfl, ?_⟩
    simp only [truth, wF_some, hemp]
    have push : wS (sDo (mApp 1 (mVar 2))) [.val (.lst (dN ns)), .own (.lst (dN out)), .val (.int x)] (turn (fun ρ => ∃ s2, ρ = [.val (.lst (dN ns)), .own (.lst (dN (out ++ [x]))), s2]) (nxt (sRet (mCal bTuple [.nm 1])) fun f ρ' =>
          still [.val (.lst (dN ns))] ρ' = true ∧ fend (fun d o x => d = D.tup (dN (lstM ns)) ∧ o = false) f ρ')) := by
      simp
      omega
    by_cases hne : out = []
    · have h0 : out.isEmpty = true := by rw [hne]; rfl
      simp only [h0, Bool.not_true, Bool.not_false, if_true]
      rw [show lstStep out x = out ++ [x] from if_pos (.inl hne)]
      exact push
    · have h0 : out.isEmpty = false := by simpa using hne
      simp only [h0, Bool.not_false, Bool.not_true, Bool.false_eq_true, if_false]
      simp only [wPre_ex, wM_bin, wO_def, wM_call, List.map_cons, List.map_nil, opd_ln, wPre_nm, wPre_nil, List.getElem?_cons_succ, List.getElem?_cons_zero, rd_own, rd_val, Option.isSome_some, true_and, wF_finr, fin_nil, wF_some, slots_ln, slots_nil, Option.map_some]
      rw [ht.call rfl rfl, if_pos rfl, hcl]
      simp only [frzE, if_true, List.getElem?_cons_succ, List.getElem?_cons_zero, rd_val, Option.isSome_some, true_and, wF_finl, wF_finr, fin_nil, wF_some, w2_two, opIx, hix, Option.map_some]
      refine ⟨_, rfl, ?_⟩
      simp only [truth, wF_some]
      cases hb : sb out x with
      | true =>
        simp only [Bool.not_true, Bool.false_eq_true, if_false, wS_nop, turn_nx]
        refine ⟨.val (.int x), ?_⟩
        rw [show lstStep out x = out by unfold lstStep; rw [if_neg (by simp [hb, hne])]]
      | false =>
        simp only [Bool.not_false, if_true]
        rw [show lstStep out x = out ++ [x] by unfold lstStep; rw [if_pos (.inr hb)]]
        exact push
  · subst hρ
    simp [bTuple, still, lstM]
end Eng
set_option Elab.async false
set_option linter.all false
set_option maxRecDepth 100000
set_option maxHeartbeats 2000000
/-! ComR: _law_semigroup. -/
namespace Eng
open PySem PySem.Spec PyProof.Rows L2 Com
theorem slots_io {i : Nat} {as : List Arg} {d e : D} {ds : List D} {ρ : Env} (h : ρ[i]? = some (.own e)) : slotsOf (.io i :: as) (d :: ds) ρ = (slotsOf as ds ρ).map fun r => .own d :: r := by
  simp only [slotsOf, h]
/-- a draw -/
theorem call_draw {ns : List Int} {a b size : Int} {third : Arg} {ρ : Env} {Q : D → Bool → Env → Prop} (ha : 0 ≤ a) (hb : 0 ≤ b) (h1 : 0 < size) (h2 : size < 1073741824) (h3 : noIo [third] = true)
    (k : ∀ r a' b' : Int, 0 ≤ r → r < size → 0 ≤ a' → 0 ≤ b' → Q (.int r) false (frzE true [third] (ρ.set 0 (.own (St a' b'))))) :
    wCall m__law_draw [.io 0, .ln 1, third] [.own (St a b), .val (.scr (ns.map .int)), .val (.int size)] ρ Q := by
  unfold wCall
  refine wF_mono (run_draw ns a b size ha hb h1 h2) fun q hq => ?_
  obtain ⟨ho, r, a', b', x, y, z, hd, hr0, hr1, ha', hb', hs⟩ := hq
  rw [hd, ho, hs]
  have e1 : (if (false : Bool) = true then clean1 (.int r) else clean (.int r)) = true := by simp [clean]
  have e2 : outsOk [.io 0, .ln 1, third] [.own (St a' b'), x, y, z] = true := by
    have : clean1 (St a' b') = true := by simp [clean1, cleans, clean]
    cases third with
    | io j => simp [noIo] at h3
    | ln j => simp [outsOk, this]
    | ex m => simp [outsOk, this]
  rw [e1, e2]
  have e3 : backE (true && true) [.io 0, .ln 1, third] [.own (St a' b'), x, y, z] ρ = frzE true [third] (ρ.set 0 (.own (St a' b'))) := by
    cases third with
    | io j => simp [noIo] at h3
    | ln j => simp [backE, frzE]
    | ex m => simp [backE, frzE]
  rw [e3]
  exact k r a' b' hr0 hr1 ha' hb'
/-- the greatest common divisor of a list -/
def gcdL (ns : List Nat) : Nat := ns.foldl Nat.gcd 0
theorem gcdL_snoc (ns : List Nat) (x : Nat) : gcdL (ns ++ [x]) = Nat.gcd (gcdL ns) x := by
  unfold gcdL
  rw [List.foldl_append]; rfl
/-- what the drawn numbers are -/
structure Drawn (B : Nat) (ns : List Nat) : Prop where
  ne : ns ≠ []
  pos : ∀ x ∈ ns, 0 < x
  le : ∀ x ∈ ns, x ≤ B
  gcd : gcdL ns = 1
  len : ns.length < 64
theorem wS_cut {s t : MS} {ρ : Env} {Q : Fl → Env → Prop} (R : Env → Prop) (h : wS s ρ fun f ρ' => f = .nx ∧ R ρ') (k : ∀ ρ', R ρ' → wS t ρ' Q) : wS (sSeq s t) ρ Q := by
  rw [wS_seq]
  refine wS_mono h fun f ρ' ⟨e, r⟩ => ?_
  subst e
  exact k ρ' r
abbrev env8 (a b : Int) (ns : List Int) (many most : Int) (s4 s5 s6 s7 : Slot) : Env := [.own (St a b), .val (.scr (ns.map .int)), .val (.int many), .val (.int most), s4, s5, s6, s7]
/-- the loop that takes the divisor of all -/
theorem sem_gcd {a b : Int} {ns : List Int} {many most : Int} {ms : List Nat} {s6 s7 : Slot} {v : Slot} (hv : v = .own (.lst (dN ms))) (hb : ∀ x ∈ ms, x < 999999) :
    wS (sSeq (sSet 6 (mC (.int 0))) (sFor (iNm 5) (.one 7) (sSet 6 (mCall m__law_gcd [.ln 6, .ln 7])))) (env8 a b ns many most .un v s6 s7) fun f ρ' => f = .nx ∧ ∃ s7', ρ' = env8 a b ns many most .un v (.val (.int (gcdL ms))) s7' := by
  subst hv
  simp only [wS_seq, wS_set, wM_C, nxt_nx, List.set_cons_succ, List.set_cons_zero, slotOf_f, wS_for, wI_nm, List.getElem?_cons_succ, List.getElem?_cons_zero, rd_own, wF_some, seqOf]
  refine wL_inv (fun k ρ => ∃ s7', ρ = env8 a b ns many most .un (.own (.lst (dN ms))) (.val (.int (gcdL (ms.take k)))) s7') ⟨s7, rfl⟩ (fun k d ρ hd ⟨s7', hρ⟩ => ?_) fun ρ ⟨s7', hρ⟩ => ?_
  · subst hρ
    rw [List.getElem?_map] at hd
    obtain ⟨x, hx, rfl⟩ := Option.map_eq_some_iff.mp hd
    have hg := run_gcd (gcdL (ms.take k)) x (by have := hb x (List.mem_of_getElem? hx); omega)
    simp only [tgS, wF_some, List.set_cons_succ, List.set_cons_zero, wS_set, wM_call, wO_def, List.map_cons, List.map_nil, opd_ln, wPre_nm, wPre_nil, List.getElem?_cons_succ, List.getElem?_cons_zero, rd_val, Option.isSome_some, true_and, wF_finr, fin_nil, slots_ln, slots_nil, Option.map_some]
    rw [hg.call rfl rfl]
    have e1 : (if (false : Bool) = true then clean1 (.int (Int.gcd (gcdL (ms.take k)) x)) else clean (.int (Int.gcd (gcdL (ms.take k)) x))) = true := by simp [clean]
    rw [e1]
    simp only [frzE, if_true, turn_nx, List.set_cons_succ, List.set_cons_zero, slotOf_f]
    refine ⟨.val (.int x), ?_⟩
    rw [List.take_add_one, hx]
    show _ = env8 a b ns many most _ _ (.val (.int (gcdL (ms.take k ++ [x])))) _
    rw [gcdL_snoc]
    rfl
  · subst hρ
    rw [List.length_map, List.take_length]
    exact ⟨rfl, _, rfl⟩
end Eng
set_option Elab.async false
set_option linter.all false
set_option maxRecDepth 100000
set_option maxHeartbeats 2000000
/-! ComS: _law_semigroup. -/
namespace Eng
open PySem PySem.Spec PyProof.Rows L2 Com
theorem wS_assoc {r s t : MS} {ρ : Env} {Q : Fl → Env → Prop} : wS (sSeq r (sSeq s t)) ρ Q = wS (sSeq (sSeq r s) t) ρ Q := by
  rw [wS_seq, wS_seq, wS_seq]
  congr 1
  funext f ρ'
  cases f <;> first | rfl | simp only [nxt_nx, wS_seq]
theorem clean_int (i : Int) : clean (.int i) = true := by simp [clean]
/-- draws in a comprehension -/
theorem sem_draws {a b : Int} {ns : List Int} {many most : Nat} (ha : 0 ≤ a) (hb : 0 ≤ b) (h1 : 0 < many) (h2 : many ≤ 20) (h3 : 3 ≤ most) (h4 : most ≤ 1000) :
    wS (sSet 5 (mComp [4] (iR1 [.ex (mBin opAdd (.ex (mC (.int 1))) (.ex (mCall m__law_draw [.io 0, .ln 1, .ln 2])))]) (.one 4) (mYes) (mBin opAdd (.ex (mC (.int 2))) (.ex (mCall m__law_draw [.io 0, .ln 1, .ex (mBin opSub (.nm 3) (.ex (mC (.int 1))))])))))
      (env8 a b ns many most .un .un .un .un) fun f ρ' => f = .nx ∧ ∃ (a' b' : Int) (ms : List Nat), 0 ≤ a' ∧ 0 ≤ b' ∧ ms ≠ [] ∧ (∀ x ∈ ms, 2 ≤ x ∧ x ≤ most) ∧ ms.length ≤ many ∧ ρ' = env8 a' b' ns many most .un (.own (.lst (dN ms))) .un .un := by
  have hz := sizeL
  rw [wS_set, wM_comp, wI_r1, wO_def]
  simp only [wPre_ex, wM_bin, wO_def, wM_C, wM_call, List.map_cons, List.map_nil, opd_io, opd_ln, opd_ex, wPre_nm, wPre_nil, List.getElem?_cons_succ, List.getElem?_cons_zero, rd_own, rd_val, Option.isSome_some, true_and, wF_finr, wF_finl, fin_nil, wF_some]
  rw [slots_io (e := St a b) rfl]
  simp only [slots_ln, slots_nil, Option.map_some, wF_some]
  refine call_draw ha hb (by omega) (by omega) rfl fun r a1 b1 hr0 hr1 ha1 hb1 => ?_
  simp only [frzE, if_true, List.set_cons_zero, w2_two, opAdd, wF_some]
  refine ⟨1 + r, rfl, by omega, ⟨by rw [rng_len]; omega, rfl⟩, ?_⟩
  refine wK_inv (fun k acc ρ => ∃ (a' b' : Int) (ms : List Nat), 0 ≤ a' ∧ 0 ≤ b' ∧ (∀ x ∈ ms, 2 ≤ x ∧ x ≤ most) ∧ ms.length = k ∧ acc = dN ms ∧ ρ = env8 a' b' ns many most .un .un .un .un) ⟨a1, b1, [], ha1, hb1, by simp, rfl, rfl, rfl⟩ (fun k d acc ρ hd ⟨a', b', ms, ha', hb', hms, hl, hacc, hρ⟩ => ?_) fun acc ρ ⟨a', b', ms, ha', hb', hms, hl, hacc, hρ⟩ => ?_
  · obtain ⟨hk, rfl⟩ := rng_at hd
    subst hρ hacc
    simp only [tgS, wF_some, List.set_cons_succ, List.set_cons_zero, wT_yes, if_true]
    simp only [wPre_ex, wM_bin, wO_def, wM_C, wM_call, List.map_cons, List.map_nil, opd_io, opd_ln, opd_ex, wPre_nm, wPre_nil, List.getElem?_cons_succ, List.getElem?_cons_zero, rd_own, rd_val, Option.isSome_some, true_and, wF_finr, wF_finl, fin_nil, wF_some, w2_two, opSub]
    rw [slots_io (e := St a' b') rfl]
    simp only [slots_ln, slots_ex, slots_nil, Option.map_some, wF_some]
    refine call_draw ha' hb' (by omega) (by omega) rfl fun r2 a2 b2 hq0 hq1 ha2 hb2 => ?_
    simp only [frzE, List.set_cons_zero, w2_two, opAdd, wF_some]
    refine ⟨a2, b2, ms ++ [(2 + r2).toNat], ha2, hb2, fun x hx => ?_, by simp [hl], ?_, rfl⟩
    · rcases List.mem_append.mp hx with h | h
      · exact hms x h
      · rw [List.mem_singleton.mp h]; omega
    · simp only [dN, List.map_append, List.map_cons, List.map_nil]
      rw [show (((2 + r2).toNat : Nat) : Int) = 2 + r2 by omega]
  · subst hρ hacc
    rw [rng_len] at hl
    refine ⟨a', b', ms, ha', hb', ?_, hms, by omega, rfl⟩
    intro e
    rw [e] at hl
    simp at hl
    omega

theorem max_N {ms : List Nat} (h : ms ≠ []) : ∃ m0 ∈ ms, bMax [.lst (dN ms)] = some (.int (m0 : Int), false) ∧ ∀ x ∈ ms, x ≤ m0 := by
  have e : ∀ l : List Int, l ≠ [] → ∃ m, maxZ l = some m := fun l => by
    induction l with
    | nil => intro h; exact absurd rfl h
    | cons x r ih =>
      intro _
      cases r with
      | nil => exact ⟨x, rfl⟩
      | cons y r =>
        obtain ⟨m, hm⟩ := ih (by simp)
        exact ⟨max x m, by unfold maxZ; rw [hm]; rfl⟩
  obtain ⟨m, hm⟩ := e (ms.map fun n : Nat => (n : Int)) (by simpa using h)
  obtain ⟨k1, k2⟩ := maxZ_ok hm
  obtain ⟨m0, h0, rfl⟩ := List.mem_map.mp k1
  refine ⟨m0, h0, ?_, fun x hx => ?_⟩
  · show ((dIs (dN ms)).bind fun ns => (maxZ ns).map fun m => (D.int m, false)) = _
    rw [dIs_dN, Option.bind_some, hm]; rfl
  · have := k2 x (List.mem_map.mpr ⟨x, hx, rfl⟩)
    omega
theorem gcdL_pos {ms : List Nat} (h : ms ≠ []) (hp : ∀ x ∈ ms, 0 < x) : 0 < gcdL ms := by
  obtain ⟨x, r, rfl⟩ : ∃ x r, ms = x :: r := by
    cases ms with
    | nil => exact absurd rfl h
    | cons x r => exact ⟨x, r, rfl⟩
  have key : ∀ (l : List Nat) (g : Nat), 0 < g → 0 < l.foldl Nat.gcd g := by
    intro l
    induction l with
    | nil => intro g hg; exact hg
    | cons y l ih => intro g hg; exact ih _ (Nat.gcd_pos_of_pos_left _ hg)
  show 0 < (x :: r).foldl Nat.gcd 0
  rw [List.foldl_cons, Nat.gcd_zero_left]
  exact key r x (hp x List.mem_cons_self)
theorem sem_fix {a b : Int} {ns : List Int} {many most : Nat} {ms : List Nat} {s7 : Slot} (hne : ms ≠ []) (hms : ∀ x ∈ ms, 2 ≤ x ∧ x ≤ most) (hlen : ms.length ≤ 20) (h4 : most ≤ 1000) :
    wS (sIf (mB (mBin opGt (.nm 6) (.ex (mC (.int 1)))))
 (sDo (mApp 5 (mIf (mAnd (mB (mBin opEq (.ex (mCall m__law_gcd [.ln 6, .ex (mBin opAdd (.ex (mCal bMax [.nm 5])) (.ex (mC (.int 1))))])) (.ex (mC (.int 1))))) (mB (mBin opLt (.ex (mCal bMax [.nm 5])) (.nm 3)))) (mCal bMin [.nm 3, .ex (mBin opAdd (.ex (mCal bMax [.nm 5])) (.ex (mC (.int 1))))]) (mC (.int 1)))))
 (sNop)) (env8 a b ns many most .un (.own (.lst (dN ms))) (.val (.int (gcdL ms))) s7) fun f ρ' => f = .nx ∧ ∃ ms' : List Nat, gcdL ms' = 1 ∧ ms' ≠ [] ∧ (∀ x ∈ ms', 1 ≤ x ∧ x ≤ most) ∧ ms'.length ≤ 21 ∧ ρ' = env8 a b ns many most .un (.own (.lst (dN ms'))) (.val (.int (gcdL ms))) s7 := by
  have hz := sizeL
  obtain ⟨m0, hm0, hmax, hmx⟩ := max_N hne
  have hg0 := gcdL_pos hne fun x hx => by have := (hms x hx).1; omega
  have hb := hms m0 hm0
  have hgc := run_gcd (gcdL ms) ((m0 : Int) + 1) (by omega)
  have hcl : (if (false : Bool) = true then clean1 (.int (Int.gcd (gcdL ms) ((m0 : Int) + 1))) else clean (.int (Int.gcd (gcdL ms) ((m0 : Int) + 1)))) = true := by simp [clean]
  have happ : ∀ x : Nat, dN ms ++ [D.int (x : Int)] = dN (ms ++ [x]) := fun x => by simp [dN]
  have hgn : Int.gcd (gcdL ms) ((m0 : Int) + 1) = Nat.gcd (gcdL ms) (m0 + 1) := rfl
  by_cases hg : gcdL ms = 1
  · simp [opCmp, hg]
    exact ⟨ms, hg, hne, fun x hx => ⟨by have := (hms x hx).1; omega, (hms x hx).2⟩, by omega, rfl⟩
  · have h1 : (1 : Int) < gcdL ms := by omega
    simp [opCmp, h1, hmax, opAdd]
    rw [hgc.call rfl rfl, hcl]
    simp [frzE, hgn, hmax, opAdd]
    have one : ms.length < sizeLine ∧ ∃ ms' : List Nat, gcdL ms' = 1 ∧ ms' ≠ [] ∧ (∀ x ∈ ms', 1 ≤ x ∧ x ≤ most) ∧ ms'.length ≤ 21 ∧ dN ms ++ [D.int 1] = dN ms' :=
      ⟨by omega, ms ++ [1], by rw [gcdL_snoc]; exact Nat.gcd_one_right _, by simp, fun x hx => by
        rcases List.mem_append.mp hx with h | h
        · have := hms x h; omega
        · rw [List.mem_singleton.mp h]; omega, by simp; omega, by simp [dN]⟩
    by_cases hgg : Nat.gcd (gcdL ms) (m0 + 1) = 1
    · rw [if_pos (by omega)]
      by_cases hm : m0 < most
      · have hm' : (m0 : Int) < most := by omega
        have hv : (if (m0 : Int) + 1 < most then (m0 : Int) + 1 else most) = ((m0 + 1 : Nat) : Int) := by split <;> omega
        simp [opCmp, hm', bMin]
        rw [hv]
        refine ⟨by omega, ms ++ [m0 + 1], by rw [gcdL_snoc]; exact hgg, by simp, fun x hx => ?_, by simp; omega, happ _⟩
        rcases List.mem_append.mp hx with h | h
        · have := hms x h; omega
        · rw [List.mem_singleton.mp h]; omega
      · have hm' : ¬ (m0 : Int) < most := by omega
        simp [opCmp, hm']
        exact one
    · rw [if_neg (by omega)]
      exact one
theorem toPys_N : ∀ ms : List Nat, PyData.canLayAll0 (toPys (dN ms)) = true ∧ PyData.depthAll (toPys (dN ms)) = 0
  | [] => by simp [dN, toPys, PyData.canLayAll0, PyData.depthAll]
  | x :: r => by
    have ih := toPys_N r
    have ih1 : PyData.canLayAll0 (toPys (List.map (fun n : Nat => D.int (n : Int)) r)) = true := ih.1
    have ih2 : PyData.depthAll (toPys (List.map (fun n : Nat => D.int (n : Int)) r)) = 0 := ih.2
    simp [dN, toPys, toPy, PyData.canLayAll0, PyData.canLay0, PyData.depthAll, PyData.depth, ih1, ih2]
theorem dok_N (ms : List Nat) : dok (.lst (dN ms)) = true := by
  obtain ⟨h1, h2⟩ := toPys_N ms
  unfold dok SeqAt.shaped
  simp [toPy, PyData.canLay0, PyData.depth, h1, h2]
@[simp] theorem at_10 {x : D} : atI [x] 0 = some x := rfl
/-- where the drawing of a semigroup stands -/
structure E8 (ns : List Int) (many most : Int) (P : List Nat → Prop) (ρ : Env) : Prop where
  ex : ∃ (a b : Int) (ms : List Nat) (s6 s7 : Slot), 0 ≤ a ∧ 0 ≤ b ∧ P ms ∧ ρ = env8 a b ns many most .un (.own (.lst (dN ms))) s6 s7
/-- the drawn numbers may be 1 alone -/
theorem sem_one {a b : Int} {ns : List Int} {many most : Nat} {ms : List Nat} {s7 : Slot} (ha : 0 ≤ a) (hb : 0 ≤ b) (hg : gcdL ms = 1) (hne : ms ≠ []) (hms : ∀ x ∈ ms, 1 ≤ x ∧ x ≤ most) (hlen : ms.length ≤ 21) (h3 : 3 ≤ most) :
    wS (sIf (mOr (mB (mBin opGt (.nm 6) (.ex (mC (.int 1))))) (mB (mBin opEq (.ex (mCall m__law_draw [.io 0, .ln 1, .ex (mC (.int 30))])) (.ex (mC (.int 0))))))
 (sSet 5 (mLst [mC (.int 1)]))
 (sNop)) (env8 a b ns many most .un (.own (.lst (dN ms))) (.val (.int (gcdL ms))) s7) fun f ρ' => f = .nx ∧ E8 ns many most (fun ms' => gcdL ms' = 1 ∧ ms' ≠ [] ∧ (∀ x ∈ ms', 1 ≤ x ∧ x ≤ most) ∧ ms'.length ≤ 21) ρ' := by
  rw [hg]
  simp [opCmp]
  rw [slots_io (e := St a b) rfl]
  simp
  refine call_draw ha hb (by omega) (by omega) rfl fun r a1 b1 hr0 hr1 ha1 hb1 => ?_
  simp [frzE]
  by_cases h : r = 0
  · simp [h]
    exact ⟨a1, b1, [1], _, _, ha1, hb1, ⟨rfl, by simp, by simp; omega, by simp⟩, rfl⟩
  · simp [h]
    exact ⟨a1, b1, ms, _, _, ha1, hb1, ⟨hg, hne, hms, by omega⟩, rfl⟩
/-- .. or two numbers without a divisor -/
theorem sem_two {a b : Int} {ns : List Int} {many most : Nat} {ms : List Nat} {s6 s7 : Slot} (ha : 0 ≤ a) (hb : 0 ≤ b) (hg : gcdL ms = 1) (hne : ms ≠ []) (hms : ∀ x ∈ ms, 1 ≤ x ∧ x ≤ most) (hlen : ms.length ≤ 21) :
    wS (sIf (mAnd (mB (mBin (opIn false) (.ex (mC (.int 1))) (.nm 5))) (mB (mBin opGt (.ex (mCall m__law_draw [.io 0, .ln 1, .ex (mC (.int 8))])) (.ex (mC (.int 0))))))
 (sSeq (sSet 5 (mLst [mBin opAdd (.ex (mC (.int 2))) (.ex (mCall m__law_draw [.io 0, .ln 1, .ex (mC (.int 6))]))]))
 (sSet 5 (mBin opAdd (.nm 5) (.ex (mLst [mBin opAdd (.ex (mBin opAdd (.ex (mBin opIx (.nm 5) (.ex (mC (.int 0))))) (.ex (mC (.int 1))))) (.ex (mBin opMul (.ex (mCall m__law_draw [.io 0, .ln 1, .ex (mC (.int 2))])) (.ex (mBin opIx (.nm 5) (.ex (mC (.int 0)))))))])))))
 (sNop)) (env8 a b ns many most .un (.own (.lst (dN ms))) s6 s7) fun f ρ' => f = .nx ∧ E8 ns many most (fun ms' => gcdL ms' = 1 ∧ ms' ≠ [] ∧ (∀ x ∈ ms', 1 ≤ x ∧ x ≤ max most 15) ∧ ms'.length ≤ 21) ρ' := by
  have hz := sizeL
  have stay : ∀ (a b : Int), 0 ≤ a → 0 ≤ b → E8 ns many most (fun ms' => gcdL ms' = 1 ∧ ms' ≠ [] ∧ (∀ x ∈ ms', 1 ≤ x ∧ x ≤ max most 15) ∧ ms'.length ≤ 21) (env8 a b ns many most .un (.own (.lst (dN ms))) s6 s7) := fun a b ha hb =>
    ⟨a, b, ms, _, _, ha, hb, ⟨hg, hne, fun x hx => ⟨(hms x hx).1, by have := (hms x hx).2; omega⟩, hlen⟩, rfl⟩
  have hin : ∃ t, opIn false (.int 1) (.lst (dN ms)) = some (.bl t, false) := by
    have h1 : dok (.lst (dN ms)) = true := dok_N ms
    refine ⟨_, if_pos ⟨rfl, h1⟩⟩
  obtain ⟨t, ht⟩ := hin
  simp [ht]
  cases t with
  | false =>
    simp
    exact stay a b ha hb
  | true =>
    simp
    rw [slots_io (e := St a b) rfl]
    simp
    refine call_draw ha hb (by omega) (by omega) rfl fun r a1 b1 hr0 hr1 ha1 hb1 => ?_
    simp [frzE, opCmp]
    by_cases h : 0 < r
    · simp [h]
      rw [slots_io (e := St a1 b1) rfl]
      simp
      refine call_draw ha1 hb1 (by omega) (by omega) rfl fun r2 a2 b2 hq0 hq1 ha2 hb2 => ?_
      simp [frzE, opAdd, opIx]
      rw [slots_io (e := St a2 b2) rfl]
      simp
      refine call_draw ha2 hb2 (by omega) (by omega) rfl fun r3 a3 b3 hw0 hw1 ha3 hb3 => ?_
      have hmul : CMul r3 (2 + r2) := .inl ⟨by omega, by omega⟩
      simp [frzE, opAdd, opIx, opMul, hmul]
      refine ⟨by omega, ?_⟩
      have e3 : r3 = 0 ∨ r3 = 1 := by omega
      have hq : ∃ p : Nat, p = (2 + r2).toNat ∧ (p : Int) = 2 + r2 ∧ 2 ≤ p ∧ p ≤ 7 := ⟨_, rfl, by omega, by omega, by omega⟩
      obtain ⟨p, _, hp1, hp2, hp3⟩ := hq
      have hv : ∃ q : Nat, (q : Int) = 2 + r2 + 1 + r3 * (2 + r2) ∧ Nat.gcd p q = 1 ∧ 1 ≤ q ∧ q ≤ 15 := by
        rcases e3 with e | e
        · refine ⟨p + 1, by rw [e]; omega, ?_, by omega, by omega⟩
          rw [Nat.gcd_self_add_right]; exact Nat.gcd_one_right p
        · refine ⟨p + (p + 1), by rw [e]; omega, ?_, by omega, by omega⟩
          rw [Nat.gcd_self_add_right, Nat.gcd_self_add_right]; exact Nat.gcd_one_right p
      obtain ⟨q, hq1, hq2, hq3, hq4⟩ := hv
      rw [← hq1, ← hp1]
      refine ⟨a3, b3, [p, q], _, _, ha3, hb3, ⟨?_, by simp, fun x hx => ?_, by simp⟩, rfl⟩
      · show Nat.gcd (Nat.gcd 0 p) q = 1
        rw [Nat.gcd_zero_left]; exact hq2
      · rcases List.mem_cons.mp hx with h | h
        · rw [h]; omega
        · rw [List.mem_singleton.mp h]; omega
    · simp [h]
      exact stay a1 b1 ha1 hb1
end Eng
set_option Elab.async false
set_option linter.all false
set_option maxRecDepth 100000
set_option maxHeartbeats 2000000
/-! ComT: _law_semigroup whole. -/
namespace Eng
open PySem PySem.Spec PyProof.Rows L2 Com
theorem run_semigroup (ns : List Int) (a b : Int) (many most : Nat) (ha : 0 ≤ a) (hb : 0 ≤ b) (h1 : 0 < many) (h2 : many ≤ 20) (h3 : 3 ≤ most) (h4 : most ≤ 1000) :
    wC3 m__law_semigroup [.own (St a b), .val (.scr (ns.map .int)), .val (.int many), .val (.int most)] fun d o s2 => o = false ∧ ∃ (ms : List Nat) (a' b' : Int) (r : Env), d = .tup (dN (lstM ms)) ∧ Drawn (max most 15) ms ∧ 0 ≤ a' ∧ 0 ≤ b' ∧ s2 = .own (St a' b') :: r ∧ r.length = 7 := by
  have hz := sizeL
  unfold m__law_semigroup
  rw [wC_fn]
  refine ⟨by simp [ownOk], ?_⟩
  unfold b__law_semigroup
  refine wS_cut _ (sem_draws ha hb h1 h2 h3 h4) fun ρ1 ⟨a1, b1, ms, ha1, hb1, hne, hms, hlen, hρ⟩ => ?_
  subst hρ
  rw [wS_assoc]
  refine wS_cut _ (sem_gcd rfl fun x hx => by have := (hms x hx).2; omega) fun ρ2 ⟨s7, hρ⟩ => ?_
  subst hρ
  refine wS_cut _ (sem_fix hne hms (by omega) h4) fun ρ3 ⟨ms2, hg2, hne2, hms2, hlen2, hρ⟩ => ?_
  subst hρ
  rw [wS_assoc]
  refine wS_cut _ (sem_gcd rfl fun x hx => by have := (hms2 x hx).2; omega) fun ρ4 ⟨s7', hρ⟩ => ?_
  subst hρ
  refine wS_cut _ (sem_one ha1 hb1 hg2 hne2 hms2 hlen2 h3) fun ρ5 ⟨a5, b5, ms5, s65, s75, ha5, hb5, ⟨hg5, hne5, hms5, hlen5⟩, hρ⟩ => ?_
  subst hρ
  refine wS_cut _ (sem_two ha5 hb5 hg5 hne5 hms5 hlen5) fun ρ6 ⟨a6, b6, ms6, s66, s76, ha6, hb6, ⟨hg6, hne6, hms6, hlen6⟩, hρ⟩ => ?_
  subst hρ
  have hl := run_least (ns := ms6) rfl (fun x hx => (hms6 x hx).1) (by omega) (fun x hx => by have := (hms6 x hx).2; omega)
  have hd : Drawn (max most 15) ms6 := ⟨hne6, fun x hx => (hms6 x hx).1, fun x hx => (hms6 x hx).2, hg6, by omega⟩
  simp only [wS_ret, wM_call, wO_def, List.map_cons, List.map_nil, opd_ln, wPre_nm, wPre_nil, List.getElem?_cons_succ, List.getElem?_cons_zero, rd_own, Option.isSome_some, true_and, wF_finr, fin_nil, wF_some, slots_ln, slots_nil, Option.map_some]
  rw [hl.call rfl rfl]
  simp [frzE, clean_N, still]
  exact ⟨ms6, rfl, hd, a6, ha6, b6, hb6, _, ⟨⟨rfl, rfl⟩, rfl⟩, rfl⟩
end Eng
set_option Elab.async false
set_option linter.all false
set_option maxRecDepth 100000
set_option maxHeartbeats 2000000
/-! ComU: least_place. -/
namespace Eng
open PySem PySem.Spec PyProof.Rows L2 Com
/-- None, or a number -/
def dO : Option Nat → D
  | none => .non
  | some n => .int n
abbrev dOs (t : List (Option Nat)) : List D := t.map dO
/-- the place of the least number that is told and not done, of the first k -/
def LpOk (t : List (Option Nat)) (dn : List Bool) (k : Nat) : Option Nat → Prop
  | none => ∀ i < k, ∀ n, t[i]? = some (some n) → dn[i]? = some false → False
  | some b => b < k ∧ dn[b]? = some false ∧ ∃ n, t[b]? = some (some n) ∧ ∀ i < k, ∀ n', t[i]? = some (some n') → dn[i]? = some false → n ≤ n'
theorem en_at {ds : List D} {k : Nat} {d : D} (h : (enD ds)[k]? = some d) : ∃ e, ds[k]? = some e ∧ d = .tup [.int (k : Nat), e] := en_get h
theorem run_least_place (t : List (Option Nat)) (dn : List Bool) (hl : dn.length = t.length) : wR m_least_place [.val (.lst (dOs t)), .val (.lst (dBl dn))] fun d o => o = false ∧ ∃ res : Option Nat, d = dO res ∧ LpOk t dn t.length res := by
  unfold m_least_place
  refine wR_fn (by simp [ownOk]) ?_
  unfold b_least_place
  simp only [wS_seq, wS_set, wM_C, nxt_nx, wS_for, wI_enN, List.cons_append, List.nil_append, List.replicate, List.set_cons_succ, List.set_cons_zero, List.getElem?_cons_zero, List.getElem?_cons_succ, rd_val, wF_some, lstOf, slotOf_f]
  refine wL_inv (fun k ρ => ∃ (res : Option Nat) (s3 s4 : Slot), LpOk t dn k res ∧ ρ = [.val (.lst (dOs t)), .val (.lst (dBl dn)), .val (dO res), s3, s4]) ⟨none, .un, .un, fun i hi => absurd hi (Nat.not_lt_zero _), rfl⟩ (fun k d ρ hd ⟨res, s3, s4, hlp, hρ⟩ => ?_) fun ρ ⟨res, s3, s4, hlp, hρ⟩ => ?_
  · subst hρ
    obtain ⟨e, he, rfl⟩ := en_at hd
    rw [List.getElem?_map] at he
    obtain ⟨x, hx, rfl⟩ := Option.map_eq_some_iff.mp he
    have hk : k < t.length := (List.getElem?_eq_some_iff.mp hx).1
    obtain ⟨b, hb⟩ : ∃ b, dn[k]? = some b := ⟨dn[k]'(by omega), List.getElem?_eq_getElem (by omega)⟩
    have hbl : atI (dBl dn) (k : Int) = some (.bl b) := atI_bl hb
    simp only [tgS, setAll, wF_some, List.set_cons_succ, List.set_cons_zero]
    -- what a turn without a store leaves
    have keep : (∀ n, x = some n → b = false → ∃ c m, res = some c ∧ t[c]? = some (some m) ∧ m ≤ n) → LpOk t dn (k + 1) res := fun h => by
      cases res with
      | none =>
        intro i hi n h1 h2
        by_cases hik : i = k
        · subst hik
          rw [hx] at h1; rw [hb] at h2
          cases h1; cases h2
          obtain ⟨c, m, h3, _⟩ := h n rfl rfl
          cases h3
        · exact hlp i (by omega) n h1 h2
      | some c =>
        obtain ⟨h1, h2, m, h3, h4⟩ := hlp
        refine ⟨by omega, h2, m, h3, fun i hi n' h5 h6 => ?_⟩
        by_cases hik : i = k
        · subst hik
          rw [hx] at h5; rw [hb] at h6
          cases h5; cases h6
          obtain ⟨c', m', h7, h8, h9⟩ := h n' rfl rfl
          cases h7
          rw [h3] at h8; cases h8
          exact h9
        · exact h4 i (by omega) n' h5 h6
    cases x with
    | none =>
      simp [dO, opNotN]
      exact ⟨res, keep (fun n h => nomatch h), rfl⟩
    | some n =>
      simp [dO, opNotN, opIx, hbl, truth]
      cases b with
      | true =>
        simp
        exact ⟨res, keep (fun n _ h => nomatch h), rfl⟩
      | false =>
        cases res with
        | none =>
          simp [opIsN]
          refine ⟨some k, ⟨by omega, hb, n, hx, fun i hi n' h1 h2 => ?_⟩, rfl⟩
          by_cases hik : i = k
          · subst hik; rw [hx] at h1; cases h1; exact Nat.le_refl _
          · exact absurd h2 (fun h2 => hlp i (by omega) n' h1 h2)
        | some c =>
          obtain ⟨h1, h2, m, h3, h4⟩ := id hlp
          have hat : atI (dOs t) (c : Int) = some (.int m) := atI_nat (by rw [List.getElem?_map, h3]; rfl)
          simp [opIsN, hat, opCmp]
          by_cases hlt : n < m
          · simp [hlt]
            refine ⟨some k, ⟨by omega, hb, n, hx, fun i hi n' h5 h6 => ?_⟩, rfl⟩
            by_cases hik : i = k
            · subst hik; rw [hx] at h5; cases h5; exact Nat.le_refl _
            · have := h4 i (by omega) n' h5 h6; omega
          · simp [hlt]
            exact ⟨some c, keep (fun n' h _ => by cases h; exact ⟨c, m, rfl, h3, by omega⟩), rfl⟩
  · subst hρ
    rw [en_len, List.length_map] at hlp
    simp [still]
    exact ⟨res, rfl, hlp⟩
end Eng
set_option Elab.async false
set_option linter.all false
set_option maxRecDepth 100000
set_option maxHeartbeats 2000000
/-! ComV: least sums by rests, in plain Lean. -/
namespace Eng
/-- one road more -/
def rlx (m : Nat) (t : List (Option Nat)) (p n g : Nat) : List (Option Nat) := match t[(p + g) % m]? with
  | some (some v) => if n + g < v then t.set ((p + g) % m) (some (n + g)) else t
  | _ => t.set ((p + g) % m) (some (n + g))
structure Dij (gs : List Nat) (m : Nat) (t : List (Option Nat)) (dn : List Bool) (S : Nat → Nat → Prop) : Prop where
  lt : t.length = m
  ld : dn.length = m
  sm : ∀ r n, t[r]? = some (some n) → Sm gs n ∧ n % m = r
  zero : t[0]? = some (some 0)
  best : ∀ r, dn[r]? = some true → ∃ n, t[r]? = some (some n) ∧ ∀ n', Sm gs n' → n' % m = r → n ≤ n'
  out : ∀ r g, dn[r]? = some true → S r g → ∃ n n', t[r]? = some (some n) ∧ t[(r + g) % m]? = some (some n') ∧ n' ≤ n + g
section
variable {gs : List Nat} {m : Nat} {t : List (Option Nat)} {dn : List Bool} {S : Nat → Nat → Prop} {p n g : Nat}
theorem rlx_len : (rlx m t p n g).length = t.length := by
  unfold rlx
  split
  · split
    · rw [List.length_set]
    · rfl
  · rw [List.length_set]
/-- the other places stay; the goal is told, no more than before, nor than by this road -/
theorem rlx_at (hq : (p + g) % m < t.length) (r : Nat) : (r ≠ (p + g) % m → (rlx m t p n g)[r]? = t[r]?) ∧
    ∃ v, (rlx m t p n g)[(p + g) % m]? = some (some v) ∧ v ≤ n + g ∧ (v = n + g ∨ t[(p + g) % m]? = some (some v)) ∧ ∀ x, t[(p + g) % m]? = some (some x) → v ≤ x ∧ (x ≤ n + g → v = x) := by
  unfold rlx
  split
  · rename_i v hv
    split
    · rename_i h
      refine ⟨fun hr => by rw [List.getElem?_set_ne (Ne.symm hr)], n + g, by rw [List.getElem?_set_self hq], Nat.le_refl _, .inl rfl, fun x hx => ?_⟩
      rw [hv] at hx; cases hx
      exact ⟨Nat.le_of_lt h, fun h' => by omega⟩
    · rename_i h
      refine ⟨fun _ => rfl, v, hv, by omega, .inr hv, fun x hx => ?_⟩
      rw [hv] at hx; cases hx
      exact ⟨Nat.le_refl _, fun _ => rfl⟩
  · rename_i hno
    refine ⟨fun hr => by rw [List.getElem?_set_ne (Ne.symm hr)], n + g, by rw [List.getElem?_set_self hq], Nat.le_refl _, .inl rfl, fun x hx => absurd hx (hno x)⟩
theorem Dij.rlx (D : Dij gs m t dn S) (hm : 0 < m) (hg : g ∈ gs) (hp : dn[p]? = some true) (hn : t[p]? = some (some n)) :
    Dij gs m (Eng.rlx m t p n g) dn (fun r h => S r h ∨ (r = p ∧ h = g)) ∧ (Eng.rlx m t p n g)[p]? = some (some n) := by
  have hq : (p + g) % m < t.length := by rw [D.lt]; exact Nat.mod_lt _ hm
  obtain ⟨s1, s2⟩ := D.sm p n hn
  have hsum : Sm gs (n + g) ∧ (n + g) % m = (p + g) % m := ⟨.add s1 hg, by rw [← s2]; simp [Nat.add_mod]⟩
  obtain ⟨_, v, h1, h2, h3, h4⟩ := rlx_at (n := n) hq 0
  have oth : ∀ r, r ≠ (p + g) % m → (Eng.rlx m t p n g)[r]? = t[r]? := fun r => (rlx_at (n := n) hq r).1
  have fixed : ∀ r x, t[r]? = some (some x) → (∀ n', Sm gs n' → n' % m = r → x ≤ n') → (Eng.rlx m t p n g)[r]? = some (some x) := fun r x hx hb => by
    by_cases e : r = (p + g) % m
    · subst e
      rw [h1, (h4 x hx).2 (hb _ hsum.1 hsum.2)]
    · rw [oth r e]; exact hx
  have mono : ∀ r x, t[r]? = some (some x) → ∃ x', (Eng.rlx m t p n g)[r]? = some (some x') ∧ x' ≤ x := fun r x hx => by
    by_cases e : r = (p + g) % m
    · subst e
      exact ⟨v, h1, (h4 x hx).1⟩
    · exact ⟨x, by rw [oth r e]; exact hx, Nat.le_refl _⟩
  have done : ∀ r, dn[r]? = some true → ∃ x, t[r]? = some (some x) ∧ (Eng.rlx m t p n g)[r]? = some (some x) ∧ ∀ n', Sm gs n' → n' % m = r → x ≤ n' := fun r hr => by
    obtain ⟨x, hx, hb⟩ := D.best r hr
    exact ⟨x, hx, fixed r x hx hb, hb⟩
  have hpn : (Eng.rlx m t p n g)[p]? = some (some n) := by
    obtain ⟨x, hx, hx2, _⟩ := done p hp
    rw [hn] at hx; cases hx
    exact hx2
  refine ⟨⟨by rw [rlx_len]; exact D.lt, D.ld, fun r x hx => ?_, ?_, fun r hr => ?_, fun r h hr hs => ?_⟩, hpn⟩
  · by_cases e : r = (p + g) % m
    · subst e
      rw [h1] at hx; cases hx
      rcases h3 with rfl | h3
      · exact hsum
      · exact D.sm _ _ h3
    · rw [oth r e] at hx
      exact D.sm r x hx
  · exact fixed 0 0 D.zero fun n' _ _ => Nat.zero_le _
  · obtain ⟨x, _, hx2, hb⟩ := done r hr
    exact ⟨x, hx2, hb⟩
  · rcases hs with hs | ⟨rfl, rfl⟩
    · obtain ⟨a, b, ha, hb, hab⟩ := D.out r h hr hs
      obtain ⟨x, hx, hx2, _⟩ := done r hr
      rw [ha] at hx; cases hx
      obtain ⟨b', hb', hbb⟩ := mono _ _ hb
      exact ⟨a, b', hx2, hb', by omega⟩
    · exact ⟨n, v, hpn, h1, h2⟩
/-- every sum's rest is done, or something no greater waits -/
theorem Dij.reach (D : Dij gs m t dn fun _ g => g ∈ gs) (hm : 0 < m) (h0 : dn[0]? = some true) {n' : Nat} (h : Sm gs n') : dn[n' % m]? = some true ∨ ∃ q x : Nat, dn[q]? = some false ∧ t[q]? = some (some x) ∧ x ≤ n' := by
  induction h with
  | zero => rw [Nat.zero_mod]; exact .inl h0
  | @add k g hk hg ih =>
    rcases ih with ih | ⟨q, x, h1, h2, h3⟩
    · obtain ⟨a, b, ha, hb, hab⟩ := D.out _ g ih hg
      obtain ⟨c, hc, hbest⟩ := D.best _ ih
      rw [ha] at hc; cases hc
      have hle := hbest k hk rfl
      have e : (k % m + g) % m = (k + g) % m := by simp [Nat.add_mod]
      rw [e] at hb
      have hlt : (k + g) % m < dn.length := by rw [D.ld]; exact Nat.mod_lt _ hm
      cases hd : dn[(k + g) % m]? with
      | none => rw [List.getElem?_eq_none_iff] at hd; omega
      | some c =>
        cases c with
        | true => exact .inl rfl
        | false => exact .inr ⟨_, b, hd, hb, by omega⟩
    · exact .inr ⟨q, x, h1, h2, by omega⟩
/-- the place that is taken is told right -/
theorem Dij.take (D : Dij gs m t dn fun _ g => g ∈ gs) (hm : 0 < m) (hp : dn[p]? = some false) (hn : t[p]? = some (some n)) (hmin : ∀ i < m, ∀ n', t[i]? = some (some n') → dn[i]? = some false → n ≤ n') (h0 : dn[0]? = some true ∨ p = 0) :
    Dij gs m t (dn.set p true) fun r g => r ≠ p ∧ g ∈ gs := by
  have hpl : p < dn.length := (List.getElem?_eq_some_iff.mp hp).1
  have hdn : ∀ r, (dn.set p true)[r]? = some true → r = p ∨ dn[r]? = some true := fun r hr => by
    by_cases e : r = p
    · exact .inl e
    · rw [List.getElem?_set_ne (Ne.symm e)] at hr; exact .inr hr
  refine ⟨D.lt, by rw [List.length_set]; exact D.ld, D.sm, D.zero, fun r hr => ?_, fun r g hr hs => ?_⟩
  · rcases hdn r hr with rfl | hr
    · refine ⟨n, hn, fun n' hs hmod => ?_⟩
      rcases h0 with h0 | h0
      · rcases D.reach hm h0 hs with h | ⟨q, x, h1, h2, h3⟩
        · rw [hmod, hp] at h; cases h
        · have hq : q < m := by rw [← D.lt]; exact (List.getElem?_eq_some_iff.mp h2).1
          have := hmin q hq x h2 h1
          omega
      · subst h0
        rw [D.zero] at hn; cases hn
        exact Nat.zero_le _
    · exact D.best r hr
  · rcases hdn r hr with h | hr
    · exact absurd h hs.1
    · exact D.out r g hr hs.2
end
end Eng
set_option Elab.async false
set_option linter.all false
set_option maxRecDepth 100000
set_option maxHeartbeats 2000000
/-! ComW: remainders. -/
namespace Eng
open PySem PySem.Spec PyProof.Rows L2 Com
theorem Dij.mono {gs : List Nat} {m : Nat} {t : List (Option Nat)} {dn : List Bool} {S S' : Nat → Nat → Prop} (D : Dij gs m t dn S) (h : ∀ r g, S' r g → S r g) : Dij gs m t dn S' :=
  ⟨D.lt, D.ld, D.sm, D.zero, D.best, fun r g hr hs => D.out r g hr (h r g hs)⟩
/-- the least sums, by rests -/
structure Apery (gs : List Nat) (m : Nat) (w : List Nat) : Prop where
  len : w.length = m
  at_ : ∀ r x, w[r]? = some x → Sm gs x ∧ x % m = r ∧ ∀ n', Sm gs n' → n' % m = r → x ≤ n'
theorem count_set : ∀ {l : List Bool} {p : Nat}, l[p]? = some false → (l.set p true).count false + 1 = l.count false
  | [], p, h => by simp at h
  | b :: r, 0, h => by
    simp at h
    subst h
    simp
  | b :: r, p + 1, h => by
    have := count_set (l := r) (p := p) (by simpa using h)
    cases b <;> simp [List.count_cons] <;> omega
theorem dOs_set (t : List (Option Nat)) (k : Nat) (n : Nat) : (dOs t).set k (.int n) = dOs (t.set k (some n)) := by simp [dOs, List.map_set, dO]
theorem atI_dO {t : List (Option Nat)} {k : Nat} {x : Option Nat} (h : t[k]? = some x) : atI (dOs t) (k : Int) = some (dO x) := atI_nat (by rw [List.getElem?_map, h]; rfl)
theorem cleans_O : ∀ t : List (Option Nat), cleans (dOs t) = true
  | [] => by simp [dOs, cleans]
  | b :: r => by
    have ih : cleans (List.map dO r) = true := cleans_O r
    cases b <;> simp [dOs, cleans, clean, dO, ih]
theorem clean_dO (x : Option Nat) : clean (dO x) = true := by cases x <;> simp [dO, clean]
/-- one turn of the inner loop -/
theorem sem_rlx {g : D} {m p n x : Nat} {t : List (Option Nat)} {dn : List Bool} {s5 s6 : Slot} {Q : Fl → Env → Prop} (hm : 0 < m) (ht : t.length = m) (hn : t[p]? = some (some n))
    (k : ∀ s6', Q .nx [.val g, .val (.int m), .own (.lst (dOs (rlx m t p n x))), .own (.lst (dBl dn)), .val (.int p), .val (.int x), s6']) :
    wS (sSeq (sSet 6 (mBin opMod (.ex (mBin opAdd (.nm 4) (.nm 5))) (.nm 1)))
 (sIf (mOr (mB (mUn opIsN (.ex (mBin opIx (.nm 2) (.nm 6))))) (mB (mBin opLt (.ex (mBin opAdd (.ex (mBin opIx (.nm 2) (.nm 4))) (.nm 5))) (.ex (mBin opIx (.nm 2) (.nm 6))))))
 (sSetIx 2 (.nm 6) (mBin opAdd (.ex (mBin opIx (.nm 2) (.nm 4))) (.nm 5)))
 (sNop))) [.val g, .val (.int m), .own (.lst (dOs t)), .own (.lst (dBl dn)), .val (.int p), .val (.int x), s6] Q := by
  have hq : (p + x) % m < t.length := by rw [ht]; exact Nat.mod_lt _ hm
  have hmod : ((p : Int) + x).fmod m = (((p + x) % m : Nat) : Int) := by
    rw [Int.fmod_eq_emod_of_nonneg _ (by omega), Int.natCast_emod, Int.natCast_add]
  have hm0 : ¬ m = 0 := by omega
  obtain ⟨y, hy⟩ : ∃ y, t[(p + x) % m]? = some y := ⟨t[(p + x) % m], List.getElem?_eq_getElem hq⟩
  have hay := atI_dO hy
  have han := atI_dO hn
  have hix : ixN (dOs t).length ((((p + x) % m : Nat) : Int)) = some ((p + x) % m) := ixN_nat (by rw [List.length_map]; exact hq)
  generalize hqe : (p + x) % m = q at *
  have st : ∀ (Z : Prop), (rlx m t p n x = t.set q (some (n + x))) → Q .nx [.val g, .val (.int m), .own (.lst ((dOs t).set q (.int ((n : Int) + x)))), .own (.lst (dBl dn)), .val (.int p), .val (.int x), .val (.int q)] := fun _ e => by
    have := k (.val (.int q))
    rw [e] at this
    rw [show ((n : Int) + x) = ((n + x : Nat) : Int) by omega, dOs_set]
    exact this
  have go : wS (sSetIx 2 (.nm 6) (mBin opAdd (.ex (mBin opIx (.nm 2) (.nm 4))) (.nm 5))) [.val g, .val (.int m), .own (.lst (dOs t)), .own (.lst (dBl dn)), .val (.int p), .val (.int x), .val (.int q)] Q ↔ Q .nx [.val g, .val (.int m), .own (.lst ((dOs t).set q (.int ((n : Int) + x)))), .own (.lst (dBl dn)), .val (.int p), .val (.int x), .val (.int q)] := by
    simp only [wS_setIx, wM_bin, wO_def, wPre_ex, wPre_nm, wPre_nil, List.getElem?_cons_succ, List.getElem?_cons_zero, rd_val, rd_own, Option.isSome_some, true_and, wF_finl, wF_finr, fin_nil, wF_some, w2_two, opIx, han, Option.map_some, opAdd, dO]
    constructor
    · rintro ⟨_, k1, xs, n1, e1, e2, e3, h⟩
      cases e1
      simp only [Option.some.injEq, Slot.own.injEq, D.lst.injEq] at e2
      subst e2
      rw [hix] at e3
      cases e3
      exact h
    · intro h
      exact ⟨⟨_, rfl⟩, _, _, _, rfl, rfl, hix, h⟩
  simp only [wS_seq, wS_set, wM_bin, wO_def, wPre_ex, wPre_nm, wPre_nil, List.getElem?_cons_succ, List.getElem?_cons_zero, rd_val, rd_own, Option.isSome_some, true_and, wF_finl, wF_finr, fin_nil, wF_some, w2_two, opAdd, opMod, hm0, Int.natCast_eq_zero, if_true, not_false_eq_true, ne_eq, hmod, nxt_nx, List.set_cons_succ, List.set_cons_zero, slotOf_f, wS_if, wT_or, wT_B, wM_un, w1_one, opIx, hay, Option.map_some]
  cases y with
  | none =>
    simp only [dO, opIsN, wF_some, wB_bl, if_true]
    rw [go]
    exact st True (by unfold rlx; rw [hqe, hy])
  | some v =>
    simp only [dO, opIsN, wF_some, wB_bl, Bool.false_eq_true, if_false, wM_bin, wO_def, wPre_ex, wPre_nm, wPre_nil, List.getElem?_cons_succ, List.getElem?_cons_zero, rd_val, rd_own, Option.isSome_some, true_and, wF_finl, wF_finr, fin_nil, w2_two, opIx, han, hay, Option.map_some, opAdd, opCmp, wT_B]
    by_cases h : n + x < v
    · have h' : (n : Int) + x < v := by omega
      simp only [h', decide_true, if_true]
      rw [go]
      exact st True (by unfold rlx; rw [hqe, hy]; simp [h])
    · have h' : ¬ (n : Int) + x < v := by omega
      simp only [h', decide_false, Bool.false_eq_true, if_false, wS_nop]
      have := k (.val (.int q))
      rw [show rlx m t p n x = t by unfold rlx; rw [hqe, hy]; simp [h]] at this
      exact this
end Eng
set_option Elab.async false
set_option linter.all false
set_option maxRecDepth 100000
set_option maxHeartbeats 2000000
/-! ComX: remainders whole. -/
namespace Eng
open PySem PySem.Spec PyProof.Rows L2 Com
theorem run_remainders {g : D} {gs : List Nat} (hs : seqOf g = some (dN gs)) {m : Nat} (hm : 0 < m) (hm2 : m < 900000) (hall : ∀ r < m, ∃ n, Sm gs n ∧ n % m = r) :
    wR m_remainders [.val g, .val (.int m)] fun d o => o = true ∧ ∃ w : List Nat, d = .lst (dN w) ∧ Apery gs m w := by
  have hz := sizeL
  unfold m_remainders
  refine wR_fn (by simp [ownOk]) ?_
  unfold b_remainders
  have r1 : (List.replicate m [D.non]).flatten = dOs (List.replicate m none) := by simp [dOs, dO]
  have r2 : (List.replicate m [D.bl false]).flatten = dBl (List.replicate m false) := by simp [dBl]
  have c1 : (-(2 ^ 63) : Int) ≤ m ∧ (m : Int) < 2 ^ 63 ∧ [D.non].length * m ≤ sizeLine := ⟨by omega, by omega, by simp; omega⟩
  have c2 : (-(2 ^ 63) : Int) ≤ m ∧ (m : Int) < 2 ^ 63 ∧ [D.bl false].length * m ≤ sizeLine := ⟨by omega, by omega, by simp; omega⟩
  have hix : ixN (dOs (List.replicate m none)).length 0 = some 0 := ixN_nat (k := 0) (by simp; omega)
  have e0 : (dOs (List.replicate m none)).set 0 (.int 0) = dOs ((List.replicate m none).set 0 (some 0)) := dOs_set _ 0 0
  simp only [wS_seq, wS_set, wM_bin, wM_C, wO_def, wPre_ex, wPre_nm, wPre_nil, wM_lst, wV_cons, wV_nil, List.cons_append, List.nil_append, List.replicate, List.getElem?_cons_succ, List.getElem?_cons_zero, rd_val, rd_own, Option.isSome_some, true_and, wF_finl, wF_finr, fin_nil, wF_some, w2_two, opMul, if_pos c1, if_pos c2, Int.toNat_natCast, nxt_nx, List.set_cons_succ, List.set_cons_zero, slotOf_t, slotOf_f, wS_setIx]
  refine ⟨⟨_, rfl⟩, 0, _, 0, rfl, rfl, by rw [r1]; exact hix, ?_⟩
  rw [r1, r2, e0]
  have hl1 : ((List.replicate m (none : Option Nat)).set 0 (some 0)).length = m := by simp
  have at0 : ∀ r x, ((List.replicate m (none : Option Nat)).set 0 (some 0))[r]? = some (some x) → r = 0 ∧ x = 0 := fun r x h => by
    by_cases e : r = 0
    · subst e
      rw [List.getElem?_set_self (by simp; omega)] at h
      cases h; exact ⟨rfl, rfl⟩
    · rw [List.getElem?_set_ne (Ne.symm e), List.getElem?_replicate] at h
      split at h <;> cases h
  refine wW_inv (m0 := m) (fun k ρ => ∃ (t : List (Option Nat)) (dn : List Bool) (res : Option Nat) (s5 s6 : Slot), Dij gs m t dn (fun _ h => h ∈ gs) ∧ LpOk t dn m res ∧ (dn[0]? = some true ∨ res = some 0) ∧ k = dn.count false ∧ ρ = [.val g, .val (.int m), .own (.lst (dOs t)), .own (.lst (dBl dn)), .val (dO res), s5, s6])
    ⟨_, List.replicate m false, some 0, .un, .un, ⟨hl1, by simp, fun r n h => ?_, by rw [List.getElem?_set_self (by simp; omega)], fun r h => ?_, fun r h hr => ?_⟩, ⟨hm, by rw [List.getElem?_replicate, if_pos hm], 0, by rw [List.getElem?_set_self (by simp; omega)], fun _ _ _ _ _ => Nat.zero_le _⟩, .inr rfl, by simp, rfl⟩ (by unfold fuel; omega) ?_
  · obtain ⟨rfl, rfl⟩ := at0 r n h
    exact ⟨.zero, Nat.zero_mod _⟩
  · rw [List.getElem?_replicate] at h; split at h <;> cases h
  · rw [List.getElem?_replicate] at hr; split at hr <;> cases hr
  · rintro k _ ⟨t, dn, res, s5, s6, D, hlp, h0, hk, rfl⟩
    cases res with
    | none =>
      simp only [wT_B, wM_un, wO_def, wPre_nm, wPre_nil, List.getElem?_cons_succ, List.getElem?_cons_zero, rd_val, Option.isSome_some, true_and, wF_finr, fin_nil, wF_some, w1_one, dO, opNotN, wB_bl, Bool.false_eq_true, if_false]
      have h00 : dn[0]? = some true := by
        rcases h0 with h | h
        · exact h
        · cases h
      have hsome : ∀ r < m, ∃ x, t[r]? = some (some x) ∧ ∀ n', Sm gs n' → n' % m = r → x ≤ n' := fun r hr => by
        obtain ⟨n, h1, h2⟩ := hall r hr
        rcases D.reach hm h00 h1 with h | ⟨q, x, h3, h4, _⟩
        · rw [h2] at h; exact D.best r h
        · exact (hlp q (by rw [← D.lt]; exact (List.getElem?_eq_some_iff.mp h4).1) x h4 h3).elim
      have hw : dOs t = dN (t.map fun x => x.getD 0) := by
        simp only [dOs, dN, List.map_map]
        apply List.map_congr_left
        intro x hx
        obtain ⟨r, hr⟩ := List.getElem?_of_mem hx
        obtain ⟨y, hy, _⟩ := hsome r (by rw [← D.lt]; exact (List.getElem?_eq_some_iff.mp hr).1)
        rw [hy] at hr; cases hr
        rfl
      have hA : Apery gs m (t.map fun x => x.getD 0) := ⟨by rw [List.length_map]; exact D.lt, fun r x hx => by
        rw [List.getElem?_map] at hx
        obtain ⟨y, hy, rfl⟩ := Option.map_eq_some_iff.mp hx
        have hr : r < m := by rw [← D.lt]; exact (List.getElem?_eq_some_iff.mp hy).1
        obtain ⟨z, hz, hb⟩ := hsome r hr
        rw [hz] at hy; cases hy
        obtain ⟨s1, s2⟩ := D.sm r z hz
        exact ⟨s1, s2, hb⟩⟩
      simp only [nxt_nx, wS_ret, wM_move, List.getElem?_cons_succ, List.getElem?_cons_zero, fend_ret]
      refine ⟨by simp [still], trivial, _, by rw [hw], hA⟩
    | some p =>
      obtain ⟨hpm, hpd, n, hpn, hmin⟩ := hlp
      have D1 := D.take hm hpd hpn hmin (h0.imp id fun h => Option.some.inj h)
      have hixp : ixN (dBl dn).length (p : Int) = some p := ixN_nat (by rw [List.length_map, D.ld]; exact hpm)
      have hdp : (dn.set p true)[p]? = some true := List.getElem?_set_self (by rw [D.ld]; exact hpm)
      simp only [wT_B, wM_un, wO_def, wPre_nm, wPre_nil, List.getElem?_cons_succ, List.getElem?_cons_zero, rd_val, Option.isSome_some, true_and, wF_finr, fin_nil, wF_some, w1_one, dO, opNotN, wB_bl, if_true, wS_seq, wS_setIx, wM_C]
      refine ⟨⟨_, rfl⟩, (p : Int), _, p, rfl, rfl, hixp, ?_⟩
      rw [dBl_set]
      simp only [nxt_nx, List.set_cons_succ, List.set_cons_zero, wS_seq, wS_for, wI_nm, List.getElem?_cons_zero, rd_val, wF_some, hs]
      refine wL_inv (fun j ρ => ∃ (t' : List (Option Nat)) (s5 s6 : Slot), Dij gs m t' (dn.set p true) (fun r h => (r ≠ p ∧ h ∈ gs) ∨ (r = p ∧ h ∈ gs.take j)) ∧ t'[p]? = some (some n) ∧ ρ = [.val g, .val (.int m), .own (.lst (dOs t')), .own (.lst (dBl (dn.set p true))), .val (.int p), s5, s6])
        ⟨t, s5, s6, D1.mono fun r h hh => by
          rcases hh with hh | hh
          · exact hh
          · simp at hh, hpn, rfl⟩ (fun j d ρ hd ⟨t', s5, s6, D2, hn2, hρ⟩ => ?_) fun ρ ⟨t', s5, s6, D2, hn2, hρ⟩ => ?_
      · subst hρ
        rw [List.getElem?_map] at hd
        obtain ⟨x, hx, rfl⟩ := Option.map_eq_some_iff.mp hd
        obtain ⟨D3, hn3⟩ := D2.rlx hm (List.mem_of_getElem? hx) hdp hn2
        simp only [tgS, wF_some, List.set_cons_succ, List.set_cons_zero]
        refine sem_rlx (s5 := .un) hm D2.lt hn2 fun s6' => ?_
        rw [turn_nx]
        refine ⟨_, _, s6', D3.mono fun r h hh => ?_, hn3, rfl⟩
        rcases hh with hh | ⟨h1, h2⟩
        · exact .inl (.inl hh)
        · rw [List.take_add_one, hx] at h2
          rcases List.mem_append.mp h2 with h2 | h2
          · exact .inl (.inr ⟨h1, h2⟩)
          · exact .inr ⟨h1, by simpa using h2⟩
      · subst hρ
        rw [List.length_map, List.take_length] at D2
        have D4 : Dij gs m t' (dn.set p true) (fun _ h => h ∈ gs) := D2.mono fun r h hh => by
          by_cases e : r = p
          · exact .inr ⟨e, hh⟩
          · exact .inl ⟨e, hh⟩
        have hlp2 := run_least_place t' (dn.set p true) (by rw [D4.ld, D4.lt])
        have h00 : (dn.set p true)[0]? = some true := by
          by_cases e : p = 0
          · subst e; exact hdp
          · rw [List.getElem?_set_ne e]
            rcases h0 with h | h
            · exact h
            · exact absurd (Option.some.inj h) e
        have hcount := count_set hpd
        simp only [nxt_nx, wS_set, wM_call, wO_def, List.map_cons, List.map_nil, opd_ln, wPre_nm, wPre_nil, List.getElem?_cons_succ, List.getElem?_cons_zero, rd_own, Option.isSome_some, true_and, wF_finr, fin_nil, wF_some, slots_ln, slots_nil, Option.map_some]
        refine wCall_of rfl rfl (wF_mono hlp2 fun q hq => ⟨hq.1, ?_⟩)
        obtain ⟨_, ho, res, hd, hlp3⟩ := hq
        rw [hd, ho]
        have hcl : (if (false : Bool) = true then clean1 (dO res) else clean (dO res)) = true := by simp [clean_dO]
        rw [hcl]
        simp only [frzE, if_true, turn_nx, List.set_cons_succ, List.set_cons_zero, slotOf_f]
        rw [D4.lt] at hlp3
        exact ⟨(dn.set p true).count false, by omega, t', _, res, s5, s6, D4, hlp3, .inl h00, rfl, rfl⟩
end Eng
set_option Elab.async false
set_option linter.all false
set_option maxRecDepth 100000
set_option maxHeartbeats 2000000
/-! ComY: sums of numbers, in plain Lean. -/
namespace Eng
theorem Sm.add2 {gs : List Nat} {a b : Nat} (ha : Sm gs a) (hb : Sm gs b) : Sm gs (a + b) := by
  induction hb with
  | zero => exact ha
  | @add n g h hg ih => rw [← Nat.add_assoc]; exact .add ih hg
theorem Sm.mul {gs : List Nat} {x : Nat} (hx : x ∈ gs) : ∀ k : Nat, Sm gs (k * x)
  | 0 => by rw [Nat.zero_mul]; exact .zero
  | k + 1 => by rw [Nat.succ_mul]; exact .add (Sm.mul hx k) hx
theorem Sm.times {gs : List Nat} {x : Nat} (hx : Sm gs x) : ∀ k : Nat, Sm gs (k * x)
  | 0 => by rw [Nat.zero_mul]; exact .zero
  | k + 1 => by rw [Nat.succ_mul]; exact .add2 (Sm.times hx k) hx
theorem Sm.mono {gs hs : List Nat} (h : ∀ x ∈ gs, Sm hs x) {n : Nat} (s : Sm gs n) : Sm hs n := by
  induction s with
  | zero => exact .zero
  | @add n g _ hg ih => exact .add2 ih (h g hg)
theorem Sm.one {gs : List Nat} {x : Nat} (hx : x ∈ gs) : Sm gs x := by
  have := Sm.mul hx 1
  rwa [Nat.one_mul] at this
/-- every multiple of d is met by a sum, up to m -/
def Met (gs : List Nat) (m d : Nat) : Prop := ∀ k : Nat, ∃ n, Sm gs n ∧ n % m = (k * d) % m
theorem Met.rest {gs : List Nat} {m d x : Nat} (hm : 0 < m) (hd : Met gs m d) (hx : Met gs m x) : Met gs m (x % d) := fun k => by
  obtain ⟨a, ha, ha2⟩ := hx k
  obtain ⟨b, hb, hb2⟩ := hd (k * (x / d) * (m - 1))
  refine ⟨a + b, .add2 ha hb, ?_⟩
  have e1 : (a + b) % m = (k * x + k * (x / d) * (m - 1) * d) % m := by rw [Nat.add_mod, ha2, hb2, ← Nat.add_mod]
  rw [e1]
  have e2 : k * x = k * (x % d) + k * (d * (x / d)) := by rw [← Nat.mul_add, Nat.mod_add_div]
  have e3 : k * (x / d) * (m - 1) * d = k * (d * (x / d)) * (m - 1) := by
    rw [Nat.mul_assoc, Nat.mul_comm (m - 1) d, ← Nat.mul_assoc, Nat.mul_assoc k, Nat.mul_comm (x / d) d]
  have e4 : k * (d * (x / d)) + k * (d * (x / d)) * (m - 1) = k * (d * (x / d)) * m := by
    obtain ⟨j, rfl⟩ : ∃ j, m = j + 1 := ⟨m - 1, by omega⟩
    rw [Nat.add_sub_cancel, Nat.mul_succ, Nat.add_comm]
  rw [e2, e3, Nat.add_assoc, e4, Nat.add_mul_mod_self_right]
theorem Met.gcd {gs : List Nat} {m : Nat} (hm : 0 < m) : ∀ (d x : Nat), Met gs m d → Met gs m x → Met gs m (Nat.gcd d x) := by
  intro d
  induction d using Nat.strongRecOn with
  | ind d ih =>
    intro x hd hx
    by_cases h0 : d = 0
    · subst h0
      rw [Nat.gcd_zero_left]; exact hx
    · rw [Nat.gcd_rec]
      exact ih (x % d) (Nat.mod_lt _ (by omega)) d (hd.rest hm hx) hd
theorem Met.all {gs : List Nat} {m : Nat} (hm : 0 < m) : ∀ (l : List Nat) (d : Nat), (∀ x ∈ l, x ∈ gs) → Met gs m d → Met gs m (l.foldl Nat.gcd d)
  | [], d, _, h => h
  | x :: r, d, hl, h => by
    rw [List.foldl_cons]
    exact Met.all hm r _ (fun y hy => hl y (List.mem_cons_of_mem _ hy)) (Met.gcd hm d x h fun k => ⟨k * x, Sm.mul (hl x List.mem_cons_self) k, rfl⟩)
/-- every rest is met -/
theorem rests {gs : List Nat} {m : Nat} (hm : 0 < m) (hg : gcdL gs = 1) : ∀ r < m, ∃ n, Sm gs n ∧ n % m = r := fun r hr => by
  have h : Met gs m (gcdL gs) := Met.all hm gs 0 (fun _ h => h) fun k => ⟨0, .zero, by rw [Nat.mul_zero]⟩
  rw [hg] at h
  obtain ⟨n, h1, h2⟩ := h r
  exact ⟨n, h1, by rw [h2, Nat.mul_one, Nat.mod_eq_of_lt hr]⟩
/-! the least generators -/
theorem lst_keep : ∀ (l out : List Nat) {y : Nat}, y ∈ out → y ∈ l.foldl lstStep out
  | [], out, y, h => h
  | x :: r, out, y, h => by
    rw [List.foldl_cons]
    refine lst_keep r _ ?_
    unfold lstStep
    split
    · exact List.mem_append_left _ h
    · exact h
theorem lst_all : ∀ (l out : List Nat) {x : Nat}, x ∈ l → Sm (l.foldl lstStep out) x
  | [], out, x, h => by cases h
  | y :: r, out, x, h => by
    rw [List.foldl_cons]
    rcases List.mem_cons.mp h with e | h
    · subst e
      have hs : Sm (lstStep out x) x := by
        unfold lstStep
        split
        · exact Sm.one (List.mem_append_right _ (List.mem_singleton.mpr rfl))
        · rename_i hn
          have : sb out x = true := by
            cases hb : sb out x with
            | true => rfl
            | false => exact absurd (.inr hb) hn
          exact sb_iff.mp this
      exact hs.mono fun z hz => Sm.one (lst_keep r _ hz)
    · exact lst_all r _ h
theorem lst_Sm {ms : List Nat} {n : Nat} : Sm (lstM ms) n ↔ Sm ms n := by
  constructor
  · intro h
    exact h.mono fun x hx => Sm.one (by
      rcases lst_sub _ _ hx with h | h
      · cases h
      · exact sortN_mem.mp h)
  · intro h
    exact h.mono fun x hx => lst_all _ _ (sortN_mem.mpr hx)
theorem lst_ord : ∀ (l out : List Nat), (out ++ l).Pairwise (· < ·) → (l.foldl lstStep out).Pairwise (· < ·)
  | [], out, h => by rwa [List.append_nil] at h
  | x :: r, out, h => by
    rw [List.foldl_cons]
    refine lst_ord r _ ?_
    unfold lstStep
    split
    · rw [List.append_assoc]; exact h
    · exact h.sublist (List.Sublist.append (List.Sublist.refl out) (List.sublist_cons_self x r))
/-- a semigroup's least generators -/
structure Gen (B : Nat) (gs : List Nat) : Prop where
  ne : gs ≠ []
  pos : ∀ x ∈ gs, 0 < x
  le : ∀ x ∈ gs, x ≤ B
  len : gs.length < 64
  ord : gs.Pairwise (· < ·)
  met : ∀ m, 0 < m → ∀ r < m, ∃ n, Sm gs n ∧ n % m = r
theorem Drawn.gen {B : Nat} {ms : List Nat} (d : Drawn B ms) : Gen B (lstM ms) := by
  have sub : ∀ x ∈ lstM ms, x ∈ ms := fun x hx => by
    rcases lst_sub _ _ hx with h | h
    · cases h
    · exact sortN_mem.mp h
  refine ⟨fun e => ?_, fun x hx => d.pos x (sub x hx), fun x hx => d.le x (sub x hx), ?_, ?_, fun m hm r hr => ?_⟩
  · obtain ⟨x, r, hx⟩ : ∃ x r, ms = x :: r := by
      cases hms : ms with
      | nil => exact absurd hms d.ne
      | cons x r => exact ⟨x, r, rfl⟩
    have hm : x ∈ ms := by rw [hx]; exact List.mem_cons_self
    have h := lst_all (sortN ms) [] (sortN_mem.mpr hm)
    have e' : (sortN ms).foldl lstStep [] = [] := e
    rw [e'] at h
    obtain ⟨g, hg, _⟩ := h.last (d.pos x hm)
    cases hg
  · refine Nat.lt_of_le_of_lt (lst_len _ _) ?_
    have := sortN_len ms
    have := d.len
    simp only [List.length_nil]
    omega
  · exact lst_ord _ _ (by rw [List.nil_append]; exact sortN_lt ms)
  · obtain ⟨n, h1, h2⟩ := rests hm d.gcd r hr
    exact ⟨n, lst_Sm.mpr h1, h2⟩
end Eng
set_option Elab.async false
set_option linter.all false
set_option maxRecDepth 100000
set_option maxHeartbeats 2000000
/-! ComZ: greatest_gap. -/
namespace Eng
open PySem PySem.Spec PyProof.Rows L2 Com
/-- from c on all are sums, c - 1 is none -/
structure Con (gs : List Nat) (c : Nat) : Prop where
  all : ∀ n, c ≤ n → Sm gs n
  gap : ∀ n, n + 1 = c → ¬ Sm gs n
theorem Con.unique {gs : List Nat} {c d : Nat} (h : Con gs c) (k : Con gs d) : c = d := by
  rcases Nat.lt_trichotomy c d with q | q | q
  · exact absurd (h.all (d - 1) (by omega)) (k.gap (d - 1) (by omega))
  · exact q
  · exact absurd (k.all (c - 1) (by omega)) (h.gap (c - 1) (by omega))
theorem Apery.con {gs : List Nat} {m : Nat} {w : List Nat} (A : Apery gs m w) (hm : 0 < m) (hg : m ∈ gs) {M : Nat} (hM : M ∈ w) (hmax : ∀ x ∈ w, x ≤ M) : ∃ c, Con gs c ∧ (M : Int) - m = (c : Int) - 1 := by
  obtain ⟨r, hr⟩ := List.getElem?_of_mem hM
  obtain ⟨h1, h2, h3⟩ := A.at_ r M hr
  have top : ∀ n : Nat, (M : Int) - m < n → Sm gs n := fun n hn => by
    have hlt : n % m < w.length := by rw [A.len]; exact Nat.mod_lt _ hm
    obtain ⟨k1, k2, k3⟩ := A.at_ (n % m) _ (List.getElem?_eq_getElem hlt)
    have hle := hmax _ (List.getElem_mem hlt)
    generalize w[n % m] = x at *
    by_cases hx : x ≤ n
    · have hd : m ∣ n - x := Nat.dvd_of_mod_eq_zero (Nat.sub_mod_eq_zero_of_mod_eq k2.symm)
      obtain ⟨j, hj⟩ := hd
      have := Sm.add2 k1 (Sm.mul hg j)
      rwa [show x + j * m = n by rw [Nat.mul_comm j m, ← hj]; omega] at this
    · exfalso
      have hd : m ∣ x - n := Nat.dvd_of_mod_eq_zero (Nat.sub_mod_eq_zero_of_mod_eq k2)
      obtain ⟨j, hj⟩ := hd
      have : m ≤ x - n := by
        rw [hj]
        have hj0 : 0 < j := by
          cases j with
          | zero => rw [Nat.mul_zero] at hj; omega
          | succ j => exact Nat.succ_pos j
        exact Nat.le_mul_of_pos_right m hj0
      omega
  by_cases hMm : m ≤ M + 1
  · refine ⟨M + 1 - m, ⟨fun n hn => top n (by omega), fun n hn hs => ?_⟩, by omega⟩
    by_cases e : m ≤ M
    · have := h3 n hs (by
        have : n = M - m := by omega
        rw [this, ← h2]
        exact (Nat.mod_eq_sub_mod e).symm)
      omega
    · omega
  · exfalso
    have := h3
    have hs := top 0 (by omega)
    have h0 : (w.length : Nat) = m := A.len
    -- every rest below m is met by a least sum that is at most M: M < m - 1, yet the rest m - 1 asks for m - 1 at least
    obtain ⟨k1, k2, k3⟩ := A.at_ (m - 1) _ (List.getElem?_eq_getElem (by omega))
    have hle := hmax _ (List.getElem_mem (by omega : m - 1 < w.length))
    have := Nat.mod_le (w[m - 1]'(by omega)) m
    omega
theorem run_greatest_gap {B : Nat} {gs : List Nat} (G : Gen B gs) (hB : B < 900000) : ∃ c, Con gs c ∧ Rn m_greatest_gap [.val (.tup (dN gs))] (.int ((c : Int) - 1)) false := by
  obtain ⟨m, r, hgs⟩ : ∃ m r, gs = m :: r := by
    cases hgs : gs with
    | nil => exact absurd hgs G.ne
    | cons x r => exact ⟨x, r, rfl⟩
  have hmem : m ∈ gs := by rw [hgs]; exact List.mem_cons_self
  have hm := G.pos m hmem
  have hat : atI (dN gs) 0 = some (.int (m : Int)) := atI_nat (j := 0) (by rw [hgs]; rfl)
  have hr := run_remainders (g := .tup (dN gs)) rfl hm (by have := G.le m hmem; omega) (G.met m hm)
  obtain ⟨q, hq, hq2, hq3, w, hq4, A⟩ := wF_ex.mp hr
  have hw : w ≠ [] := fun e => by have := A.len; rw [e] at this; simp at this; omega
  obtain ⟨M, hM, hmax, hmx⟩ := max_N hw
  obtain ⟨c, hc, hcv⟩ := A.con hm hmem hM hmx
  have hR : Rn m_remainders [.val (.tup (dN gs)), .val (.int m)] (.lst (dN w)) true := wF_eq hq ⟨hq2, hq4, hq3⟩
  refine ⟨c, hc, ?_⟩
  unfold Rn m_greatest_gap
  refine wR_fn (by simp [ownOk]) ?_
  unfold b_greatest_gap
  simp only [wS_seq, wS_set, wM_bin, wM_C, wM_cal, wM_call, wO_def, wPre_ex, wPre_nm, wPre_nil, List.map_cons, List.map_nil, opd_ln, List.cons_append, List.nil_append, List.replicate, List.getElem?_cons_succ, List.getElem?_cons_zero, rd_val, Option.isSome_some, true_and, wF_finl, wF_finr, fin_nil, wF_some, w2_two, opIx, hat, Option.map_some, nxt_nx, List.set_cons_succ, List.set_cons_zero, slotOf_f, wS_ret, slots_ln, slots_nil]
  rw [hR.call rfl rfl, if_pos rfl, clean1_N]
  simp only [frzE, if_true, wF_finl, fin_nil, wF_some, hmax, wPre_nm, wPre_nil, List.getElem?_cons_succ, List.getElem?_cons_zero, rd_val, Option.isSome_some, true_and, wF_finr, w2_two, opSub, fend_ret]
  exact ⟨by simp [still], by rw [hcv], trivial⟩
end Eng
set_option Elab.async false
set_option linter.all false
set_option maxRecDepth 100000
set_option maxHeartbeats 2000000
/-! ComAA: all_up_to, gaps. -/
namespace Eng
open PySem PySem.Spec PyProof.Rows L2 Com
/-- the sums up to m, one by one -/
noncomputable def heldN (gs : List Nat) (m : Nat) : List Nat := (List.range (m + 1)).filter (sb gs)
noncomputable def gapsN (gs : List Nat) (c : Nat) : List Nat := (List.range c).filter fun n => !sb gs n
theorem fm_filter {α : Type} (p : α → Bool) (f : α → D) (h : D → Option D) (g : α → D) : ∀ l : List α, (∀ x ∈ l, h (g x) = if p x = true then some (f x) else none) → (l.map g).filterMap h = (l.filter p).map f
  | [], _ => rfl
  | x :: r, hx => by
    have ih := fm_filter p f h g r fun y hy => hx y (List.mem_cons_of_mem _ hy)
    have h0 := hx x List.mem_cons_self
    rw [List.map_cons, List.filterMap_cons, h0, List.filter_cons]
    cases hp : p x with
    | true => simp only [if_true, List.map_cons]; rw [ih]
    | false => simp only [Bool.false_eq_true, if_false]; rw [ih]
theorem enD_range (f : Nat → Bool) (n : Nat) : enD (((List.range n).map f).map D.bl) = (List.range n).map fun i => D.tup [.int (i : Nat), .bl (f i)] := by
  unfold enD
  apply List.ext_getElem?
  intro i
  by_cases h : i < n
  · simp [h, List.getElem?_range]
  · rw [List.getElem?_eq_none (by simp; omega), List.getElem?_eq_none (by simp; omega)]
theorem run_all_up_to {g : D} {gs : List Nat} (hs : seqOf g = some (dN gs)) (hp : ∀ x ∈ gs, 0 < x) (m : Nat) (hm : m + 1 ≤ sizeLine) : Rn m_all_up_to [.val g, .val (.int m)] (.lst (dN (heldN gs m))) true := by
  have hz := sizeL
  have ht := run_sums hs hp m hm
  unfold Rn m_all_up_to
  refine wR_fn (by simp [ownOk]) ?_
  unfold b_all_up_to
  simp only [wS_ret, wM_comp, wI_enE, wM_call, wO_def, List.map_cons, List.map_nil, opd_ln, wPre_nm, wPre_nil, List.cons_append, List.nil_append, List.replicate, List.getElem?_cons_succ, List.getElem?_cons_zero, rd_val, Option.isSome_some, true_and, wF_finr, fin_nil, wF_some, slots_ln, slots_nil, Option.map_some]
  rw [ht.call rfl rfl, if_pos rfl, clean1_bl]
  simp only [frzE, if_true, lstOf, wF_some]
  refine ⟨⟨by rw [en_len, List.length_map]; unfold tabB; rw [List.length_map, List.length_range]; exact hm, rfl⟩, ?_⟩
  have e1 : enD (dBl (tabB gs m)) = (List.range (m + 1)).map fun i => D.tup [.int (i : Nat), .bl (sb gs i)] := enD_range (sb gs) (m + 1)
  rw [e1]
  refine wK_map (fun d => match d with | .tup [.int i, .bl b] => if b = true then some (.int i) else none | _ => none) (fun d hd => ?_) ?_
  · obtain ⟨i, hi, rfl⟩ := List.mem_map.mp hd
    simp [tgS, setAll, wipeE, truth]
  · rw [fm_filter (sb gs) (fun i : Nat => D.int (i : Int)) _ (fun i : Nat => D.tup [.int (i : Nat), .bl (sb gs i)]) (List.range (m + 1)) fun x _ => rfl]
    simp [restE, wipeE, still, heldN]

theorem Con.last {gs : List Nat} {c : Nat} (h : Con gs c) {n : Nat} (hn : sb gs n = false) : n < c := by
  refine Nat.lt_of_not_le fun h2 => ?_
  have := sb_iff.mpr (h.all n h2)
  rw [hn] at this; cases this
theorem run_gaps {B : Nat} {gs : List Nat} (G : Gen B gs) (hB : B < 900000) {c : Nat} (hc : Con gs c) (hcz : c + 1 ≤ sizeLine) : Rn m_gaps [.val (.tup (dN gs))] (.lst (dN (gapsN gs c))) true := by
  have hz := sizeL
  obtain ⟨c', hc', hr⟩ := run_greatest_gap G hB
  have := hc'.unique hc
  subst this
  unfold Rn m_gaps
  refine wR_fn (by simp [ownOk]) ?_
  unfold b_gaps
  simp only [wS_seq, wS_set, wM_call, wO_def, List.map_cons, List.map_nil, opd_ln, wPre_nm, wPre_nil, List.cons_append, List.nil_append, List.replicate, List.getElem?_cons_succ, List.getElem?_cons_zero, rd_val, Option.isSome_some, true_and, wF_finr, fin_nil, wF_some, slots_ln, slots_nil, Option.map_some]
  rw [hr.call rfl rfl]
  have e1 : (if (false : Bool) = true then clean1 (.int ((c' : Int) - 1)) else clean (.int ((c' : Int) - 1))) = true := by simp [clean]
  rw [e1]
  obtain ⟨k, hk, hk2⟩ : ∃ k : Nat, (if (0 : Int) > (c' : Int) - 1 then (0 : Int) else (c' : Int) - 1) = k ∧ k = c' - 1 := ⟨c' - 1, by split <;> omega, rfl⟩
  have ht := run_sums (g := .tup (dN gs)) rfl G.pos k (by omega)
  simp only [frzE, if_true, nxt_nx, List.set_cons_succ, List.set_cons_zero, slotOf_f, wS_set, wM_call, wO_def, List.map_cons, List.map_nil, opd_ln, opd_ex, wPre_ex, wPre_nm, wPre_nil, wM_cal, wM_C, List.getElem?_cons_succ, List.getElem?_cons_zero, rd_val, Option.isSome_some, true_and, wF_finr, wF_finl, fin_nil, wF_some, bMax, hk, slots_ln, slots_ex, slots_nil, Option.map_some, wS_seq]
  rw [ht.call rfl rfl, if_pos rfl, clean1_bl]
  simp only [frzE, if_true, nxt_nx, List.set_cons_succ, List.set_cons_zero, slotOf_t, wS_ret, wM_comp, wI_r2, wO_def, wPre_ex, wPre_nm, wPre_nil, wM_bin, wM_C, List.getElem?_cons_succ, List.getElem?_cons_zero, rd_val, Option.isSome_some, true_and, wF_finr, wF_finl, fin_nil, wF_some, w2_two, opAdd]
  refine ⟨1, (c' : Int) - 1 + 1, rfl, by omega, ⟨by rw [rng_len]; omega, rfl⟩, ?_⟩
  have en : ((c' : Int) - 1 + 1 - 1).toNat = c' - 1 := by omega
  rw [en]
  have er : rngD 1 (c' - 1) = (List.range (c' - 1)).map fun i => D.int (((i + 1 : Nat) : Int)) := by
    unfold rngD
    apply List.map_congr_left
    intro i _
    congr 1; omega
  rw [er]
  refine wK_map (fun d => match d with | .int i => if sb gs i.toNat = true then none else some (.int i) | _ => none) (fun d hd => ?_) ?_
  · obtain ⟨i, hi, rfl⟩ := List.mem_map.mp hd
    have hi := List.mem_range.mp hi
    have hat : atI (dBl (tabB gs k)) (((i + 1 : Nat) : Int)) = some (.bl (sb gs (i + 1))) := atI_bl (by
      unfold tabB
      rw [List.getElem?_map, List.getElem?_range (by omega)]; rfl)
    simp only [tgS, wF_some, wipeE, List.set_cons_succ, List.set_cons_zero, wT_not, wT_tr, wO_def, wPre_ex, wPre_nm, wPre_nil, wM_bin, List.getElem?_cons_succ, List.getElem?_cons_zero, rd_val, rd_own, Option.isSome_some, true_and, wF_finr, wF_finl, fin_nil, w2_two, opIx, hat, Option.map_some]
    refine ⟨_, rfl, ?_⟩
    simp only [truth, wF_some]
    cases hb : sb gs (i + 1) with
    | true => simp [hb]
    | false => simp [hb]
  · rw [fm_filter (fun i => !sb gs (i + 1)) (fun i : Nat => D.int (((i + 1 : Nat) : Int))) _ (fun i : Nat => D.int (((i + 1 : Nat) : Int))) (List.range (c' - 1)) fun x _ => by simp; cases sb gs (x + 1) <;> simp]
    simp only [restE, wipeE, fend_ret]
    refine ⟨by simp [still], ?_, trivial⟩
    congr 1
    unfold gapsN
    have hz0 : sb gs 0 = true := sb_zero
    cases c' with
    | zero => rfl
    | succ c0 =>
      rw [List.range_succ_eq_map, List.filter_cons, hz0]
      simp [dN, List.filter_map]
      rfl
end Eng
set_option Elab.async false
set_option linter.all false
set_option maxRecDepth 100000
set_option maxHeartbeats 2000000
/-! ComAB: calls of the draws from any slots; how great the conductor is. -/
namespace Eng
open PySem PySem.Spec PyProof.Rows L2 Com
@[simp] theorem frz_true : ∀ (as : List Arg) (ρ : Env), frzE true as ρ = ρ
  | [], ρ => rfl
  | .ln j :: as, ρ => by simp only [frzE, if_true]; exact frz_true as ρ
  | .ex m :: as, ρ => by simp only [frzE]; exact frz_true as ρ
  | .io j :: as, ρ => by simp only [frzE]; exact frz_true as ρ
/-- a draw, the state and the script in any slots -/
theorem call_draw2 {i j : Nat} {ns : List Int} {a b size : Int} {third : Arg} {ρ : Env} {Q : D → Bool → Env → Prop} (ha : 0 ≤ a) (hb : 0 ≤ b) (h1 : 0 < size) (h2 : size < 1073741824) (h3 : noIo [third] = true)
    (k : ∀ r a' b' : Int, 0 ≤ r → r < size → 0 ≤ a' → 0 ≤ b' → Q (.int r) false (ρ.set i (.own (St a' b')))) :
    wCall m__law_draw [.io i, .ln j, third] [.own (St a b), .val (.scr (ns.map .int)), .val (.int size)] ρ Q := by
  unfold wCall
  refine wF_mono (run_draw ns a b size ha hb h1 h2) fun q hq => ?_
  obtain ⟨ho, r, a', b', x, y, z, hd, hr0, hr1, ha', hb', hs⟩ := hq
  rw [hd, ho, hs]
  have e1 : (if (false : Bool) = true then clean1 (.int r) else clean (.int r)) = true := by simp [clean]
  have e2 : outsOk [.io i, .ln j, third] [.own (St a' b'), x, y, z] = true := by
    have : clean1 (St a' b') = true := by simp [clean1, cleans, clean]
    cases third with
    | io j => simp [noIo] at h3
    | ln j => simp [outsOk, this]
    | ex m => simp [outsOk, this]
  rw [e1, e2]
  have e3 : backE (true && true) [.io i, .ln j, third] [.own (St a' b'), x, y, z] ρ = ρ.set i (.own (St a' b')) := by
    cases third with
    | io j => simp [noIo] at h3
    | ln j => simp [backE]
    | ex m => simp [backE]
  rw [e3]
  exact k r a' b' hr0 hr1 ha' hb'
theorem call_semigroup {i j : Nat} {ns : List Int} {a b : Int} {many most : Nat} {m1 m2 : ME} {ρ : Env} {Q : D → Bool → Env → Prop} (ha : 0 ≤ a) (hb : 0 ≤ b) (h1 : 0 < many) (h2 : many ≤ 20) (h3 : 3 ≤ most) (h4 : most ≤ 1000)
    (k : ∀ (ms : List Nat) (a' b' : Int), Drawn (max most 15) ms → 0 ≤ a' → 0 ≤ b' → Q (.tup (dN (lstM ms))) false (ρ.set i (.own (St a' b')))) :
    wCall m__law_semigroup [.io i, .ln j, .ex m1, .ex m2] [.own (St a b), .val (.scr (ns.map .int)), .val (.int many), .val (.int most)] ρ Q := by
  unfold wCall
  refine wF_mono (run_semigroup ns a b many most ha hb h1 h2 h3 h4) fun q hq => ?_
  obtain ⟨ho, ms, a', b', r, hd, hD, ha', hb', hs, hr⟩ := hq
  rw [hd, ho, hs]
  obtain ⟨x, y, z, r, rfl⟩ : ∃ x y z t, r = x :: y :: z :: t := by
    rcases r with _ | ⟨x, _ | ⟨y, _ | ⟨z, t⟩⟩⟩
    · simp at hr
    · simp at hr
    · simp at hr
    · exact ⟨_, _, _, _, rfl⟩
  have e1 : (if (false : Bool) = true then clean1 (.tup (dN (lstM ms))) else clean (.tup (dN (lstM ms)))) = true := by simp [clean_N]
  have e2 : outsOk [.io i, .ln j, .ex m1, .ex m2] (.own (St a' b') :: x :: y :: z :: r) = true := by
    have : clean1 (St a' b') = true := by simp [clean1, cleans, clean]
    simp [outsOk, this]
  rw [e1, e2]
  have e3 : backE (true && true) [.io i, .ln j, .ex m1, .ex m2] (.own (St a' b') :: x :: y :: z :: r) ρ = ρ.set i (.own (St a' b')) := by
    simp [backE]
  rw [e3]
  exact k ms a' b' hD ha' hb'
/-! how great the conductor is -/
theorem nodup_le : ∀ (m : Nat) (l : List Nat), l.Nodup → (∀ x ∈ l, x < m) → l.length ≤ m
  | 0, l, _, h => by
    cases l with
    | nil => exact Nat.le_refl 0
    | cons x r => exact absurd (h x List.mem_cons_self) (Nat.not_lt_zero _)
  | m + 1, l, hd, h => by
    have ih := nodup_le m (l.erase m) (hd.erase m) fun x hx => by
      have h1 := h x (List.mem_of_mem_erase hx)
      have h2 : x ≠ m := fun e => by
        subst e
        exact hd.not_mem_erase hx
      omega
    rw [List.length_erase] at ih
    split at ih <;> omega
/-- the least of its class -/
def LeastIn (gs : List Nat) (m n : Nat) : Prop := Sm gs n ∧ ∀ n', Sm gs n' → n' % m = n % m → n ≤ n'
theorem least_exists {gs : List Nat} {m : Nat} : ∀ n, Sm gs n → ∃ w, LeastIn gs m w ∧ w % m = n % m ∧ w ≤ n := by
  intro n
  induction n using Nat.strongRecOn with
  | ind n ih =>
    intro h
    by_cases hl : ∀ n', Sm gs n' → n' % m = n % m → n ≤ n'
    · exact ⟨n, ⟨h, hl⟩, rfl, Nat.le_refl _⟩
    · have ⟨n', h'⟩ := Classical.not_forall.mp hl
      have ⟨h1, h'⟩ := Classical.not_imp.mp h'
      have ⟨h2, h3⟩ := Classical.not_imp.mp h'
      obtain ⟨w, hw, hw2, hw3⟩ := ih n' (by omega) h1
      exact ⟨w, hw, by rw [hw2, h2], by omega⟩
theorem least_short {gs : List Nat} {m B : Nat} (hm : 0 < m) (hp : ∀ x ∈ gs, 0 < x) (hB : ∀ x ∈ gs, x ≤ B) {n : Nat} (h : Sm gs n) : (∀ n', Sm gs n' → n' % m = n % m → n ≤ n') →
    ∃ l : List Nat, l.Nodup ∧ (∀ x ∈ l, x < m ∧ ∃ y, LeastIn gs m y ∧ y % m = x ∧ y ≤ n) ∧ n + B ≤ l.length * B := by
  induction n using Nat.strongRecOn with
  | ind n ih =>
    intro hl
    rcases Nat.eq_zero_or_pos n with rfl | h0
    · exact ⟨[0 % m], by simp, fun x hx => by
        rw [List.mem_singleton.mp hx]
        exact ⟨Nat.mod_lt _ hm, 0, ⟨.zero, hl⟩, rfl, Nat.le_refl _⟩, by simp⟩
    · obtain ⟨g, hg, hg0, hgn, hs⟩ := h.last h0
      have hgp := hp g hg
      have hl' : ∀ n', Sm gs n' → n' % m = (n - g) % m → n - g ≤ n' := fun n' h1 h2 => by
        have := hl (n' + g) (Sm.add2 h1 (Sm.one hg)) (by
          rw [Nat.add_mod, h2, ← Nat.add_mod, Nat.sub_add_cancel hgn])
        omega
      obtain ⟨l, h1, h2, h3⟩ := ih (n - g) (by omega) hs hl'
      refine ⟨n % m :: l, List.nodup_cons.mpr ⟨fun hx => ?_, h1⟩, fun x hx => ?_, ?_⟩
      · obtain ⟨_, y, hy, hy2, hy3⟩ := h2 _ hx
        have := hl y hy.1 hy2
        omega
      · rcases List.mem_cons.mp hx with rfl | hx
        · exact ⟨Nat.mod_lt _ hm, n, ⟨h, hl⟩, rfl, Nat.le_refl _⟩
        · obtain ⟨q, y, hy, hy2, hy3⟩ := h2 x hx
          exact ⟨q, y, hy, hy2, by omega⟩
      · have := hB g hg
        rw [List.length_cons, Nat.add_mul]
        omega
/-- all numbers from (m - 1) B on are sums -/
theorem sm_far {gs : List Nat} {m B : Nat} (hm : 0 < m) (hmg : m ∈ gs) (hp : ∀ x ∈ gs, 0 < x) (hB : ∀ x ∈ gs, x ≤ B) (hmet : ∀ r < m, ∃ n, Sm gs n ∧ n % m = r) {n : Nat} (hn : m * B ≤ n + B) : Sm gs n := by
  obtain ⟨k, hk, hk2⟩ := hmet (n % m) (Nat.mod_lt _ hm)
  obtain ⟨w, hw, hw2, hw3⟩ := least_exists (m := m) k hk
  obtain ⟨l, h1, h2, h3⟩ := least_short hm hp hB hw.1 hw.2
  have hl := nodup_le m l h1 fun x hx => (h2 x hx).1
  have h4 : l.length * B ≤ m * B := Nat.mul_le_mul_right B hl
  have hwn : w ≤ n := by omega
  have hd : m ∣ n - w := Nat.dvd_of_mod_eq_zero (Nat.sub_mod_eq_zero_of_mod_eq (by rw [hw2, hk2]))
  obtain ⟨j, hj⟩ := hd
  have := Sm.add2 hw.1 (Sm.mul hmg j)
  rwa [show w + j * m = n by rw [Nat.mul_comm j m, ← hj]; omega] at this
theorem Con.le {gs : List Nat} {c m B : Nat} (h : Con gs c) (hm : 0 < m) (hmg : m ∈ gs) (hp : ∀ x ∈ gs, 0 < x) (hB : ∀ x ∈ gs, x ≤ B) (hmet : ∀ r < m, ∃ n, Sm gs n ∧ n % m = r) : c + B ≤ m * B := by
  have hmB := hB m hmg
  refine Nat.le_of_not_lt fun hlt => ?_
  have : B ≤ m * B := Nat.le_mul_of_pos_left B hm
  exact h.gap (c - 1) (by omega) (sm_far hm hmg hp hB hmet (by omega))
theorem Gen.con {B : Nat} {gs : List Nat} (G : Gen B gs) {c : Nat} (h : Con gs c) : c ≤ B * B := by
  obtain ⟨m, r, hgs⟩ : ∃ m r, gs = m :: r := by
    cases hgs : gs with
    | nil => exact absurd hgs G.ne
    | cons x r => exact ⟨x, r, rfl⟩
  have hmem : m ∈ gs := by rw [hgs]; exact List.mem_cons_self
  have hm := G.pos m hmem
  have h1 := h.le hm hmem G.pos G.le (G.met m hm)
  have h2 := Nat.mul_le_mul_right B (G.le m hmem)
  omega
end Eng
set_option Elab.async false
set_option linter.all false
set_option maxRecDepth 100000
set_option maxHeartbeats 2000000
/-! ComAE: operations on data, as equations; calls as equations. -/
namespace Eng
open PySem PySem.Spec PyProof.Rows L2 Com
abbrev dZ' (l : List Int) : List D := l.map D.int
theorem eqv_ints : ∀ a b : List Int, PyData.eqvAll (toPys (dZ' a)) (toPys (dZ' b)) = decide (a = b)
  | [], [] => by simp [toPys, PyData.eqvAll]
  | [], y :: b => by simp [toPys, PyData.eqvAll]
  | x :: a, [] => by simp [toPys, PyData.eqvAll]
  | x :: a, y :: b => by
    have ih := eqv_ints a b
    show (PyData.eqv (.int x) (.int y) && PyData.eqvAll (toPys (dZ' a)) (toPys (dZ' b))) = _
    rw [ih, PyData.eqv]
    by_cases h : x = y
    · subst h; by_cases h2 : a = b <;> simp [h2]
    · simp [h]
theorem dN_Z (l : List Nat) : dN l = dZ' (l.map fun n : Nat => (n : Int)) := by
  show _ = List.map _ (List.map _ _)
  rw [List.map_map]; rfl
theorem castN_inj {a b : List Nat} : (a.map fun n : Nat => (n : Int)) = (b.map fun n : Nat => (n : Int)) ↔ a = b := by
  constructor
  · intro h
    have := congrArg (List.map Int.toNat) h
    rw [List.map_map, List.map_map] at this
    have e : (Int.toNat ∘ fun n : Nat => (n : Int)) = id := by funext n; simp
    rw [e, List.map_id, List.map_id] at this
    exact this
  · intro h; rw [h]
theorem deq_tN (a b : List Nat) : deq (.tup (dN a)) (.tup (dN b)) = decide (a = b) := by
  rw [dN_Z a, dN_Z b]
  show PyData.eqv (.tuple _) (.tuple _) = _
  rw [PyData.eqv, eqv_ints]
  by_cases h : a = b
  · subst h; simp
  · have := mt castN_inj.mp h
    simp [h, this]
theorem deq_lZ (a b : List Int) : deq (.lst (dZ' a)) (.lst (dZ' b)) = decide (a = b) := by
  show PyData.eqv (.list _) (.list _) = _
  rw [PyData.eqv, eqv_ints]
theorem deq_i (i j : Int) : deq (.int i) (.int j) = decide (i = j) := by
  unfold deq
  show PyData.eqv (.int i) (.int j) = _
  rw [PyData.eqv]; by_cases h : i = j <;> simp [h]
theorem toPys_Z : ∀ ms : List Int, PyData.canLayAll0 (toPys (dZ' ms)) = true ∧ PyData.depthAll (toPys (dZ' ms)) = 0
  | [] => by simp [toPys, PyData.canLayAll0, PyData.depthAll]
  | x :: r => by
    have ih := toPys_Z r
    have ih1 : PyData.canLayAll0 (toPys (List.map D.int r)) = true := ih.1
    have ih2 : PyData.depthAll (toPys (List.map D.int r)) = 0 := ih.2
    simp [toPys, toPy, PyData.canLayAll0, PyData.canLay0, PyData.depthAll, PyData.depth, ih1, ih2]
theorem dok_lZ (ms : List Int) : dok (.lst (dZ' ms)) = true := by
  obtain ⟨h1, h2⟩ := toPys_Z ms
  unfold dok SeqAt.shaped
  simp [toPy, PyData.canLay0, PyData.depth, h1, h2]
theorem dok_tZ (ms : List Int) : dok (.tup (dZ' ms)) = true := by
  obtain ⟨h1, h2⟩ := toPys_Z ms
  unfold dok SeqAt.shaped
  simp [toPy, PyData.canLay0, PyData.depth, h1, h2]
theorem ne_tN (a b : List Nat) : opNe (.tup (dN a)) (.tup (dN b)) = some (.bl (!decide (a = b)), false) := by
  unfold opNe
  rw [if_pos ⟨by rw [dN_Z]; exact dok_tZ _, by rw [dN_Z]; exact dok_tZ _⟩, deq_tN]
theorem eq_tN (a b : List Nat) : opEq (.tup (dN a)) (.tup (dN b)) = some (.bl (decide (a = b)), false) := by
  unfold opEq
  rw [if_pos ⟨by rw [dN_Z]; exact dok_tZ _, by rw [dN_Z]; exact dok_tZ _⟩, deq_tN]
theorem any_N (l : List Nat) (x : Nat) : ((dN l).any fun z => deq z (.int (x : Int))) = decide (x ∈ l) := by
  induction l with
  | nil => rfl
  | cons y r ih =>
    have ih' : (List.map (fun n : Nat => D.int (n : Int)) r).any (fun z => deq z (.int (x : Int))) = decide (x ∈ r) := ih
    rw [dN, List.map_cons, List.any_cons, ih', deq_i]
    by_cases h : y = x
    · subst h; simp
    · have h2 : ¬ (y : Int) = x := by omega
      have h3 : ¬ x = y := fun e => h e.symm
      by_cases h4 : x ∈ r <;> simp [h2, h3, h4]
theorem in_tN (neg : Bool) (l : List Nat) (x : Nat) : opIn neg (.int (x : Int)) (.tup (dN l)) = some (.bl (if neg = true then !decide (x ∈ l) else decide (x ∈ l)), false) := by
  unfold opIn
  dsimp only
  rw [if_pos ⟨rfl, by simp [List.all_eq_true, flatD]⟩, any_N]
theorem in_lN (neg : Bool) (l : List Nat) (x : Nat) : opIn neg (.int (x : Int)) (.lst (dN l)) = some (.bl (if neg = true then !decide (x ∈ l) else decide (x ∈ l)), false) := by
  unfold opIn
  dsimp only
  rw [if_pos ⟨rfl, by rw [dN_Z]; exact dok_lZ _⟩, any_N]
@[simp] theorem add_int {i j : Int} : opAdd (.int i) (.int j) = some (.int (i + j), false) := rfl
@[simp] theorem sub_int {i j : Int} : opSub (.int i) (.int j) = some (.int (i - j), false) := rfl
@[simp] theorem neg_int {i : Int} : opNeg (.int i) = some (.int (-i), false) := rfl
@[simp] theorem cmp_int {p : Int → Int → Bool} {i j : Int} : opCmp p (.int i) (.int j) = some (.bl (p i j), false) := rfl
theorem mul_int {i j : Int} (h : CMul i j) : opMul (.int i) (.int j) = some (.int (i * j), false) := if_pos h
theorem ne_i {i j : Int} : opNe (.int i) (.int j) = some (.bl (!decide (i = j)), false) := by
  unfold opNe
  rw [if_pos ⟨rfl, rfl⟩, deq_i]
theorem eq_i {i j : Int} : opEq (.int i) (.int j) = some (.bl (decide (i = j)), false) := by
  unfold opEq
  rw [if_pos ⟨rfl, rfl⟩, deq_i]
theorem len_lN (l : List Nat) : bLen [.lst (dN l)] = some (.int (l.length : Int), false) := by
  show some (D.int ((dN l).length : Int), false) = _
  rw [List.length_map]
theorem len_tN (l : List Nat) : bLen [.tup (dN l)] = some (.int (l.length : Int), false) := by
  show some (D.int ((dN l).length : Int), false) = _
  rw [List.length_map]
theorem len_lZ (l : List Int) : bLen [.lst (dZ' l)] = some (.int (l.length : Int), false) := by
  show some (D.int ((dZ' l).length : Int), false) = _
  rw [List.length_map]
theorem len_bl (l : List Bool) : bLen [.lst (dBl l)] = some (.int (l.length : Int), false) := by
  show some (D.int ((dBl l).length : Int), false) = _
  rw [List.length_map]
theorem max2 {i j : Int} : bMax [.int i, .int j] = some (.int (if j > i then j else i), false) := rfl
theorem min2 {i j : Int} : bMin [.int i, .int j] = some (.int (if j < i then j else i), false) := rfl
theorem ix_t {xs : List D} {i : Int} {d : D} (h : atI xs i = some d) : opIx (.tup xs) (.int i) = some (d, false) := by
  show (atI xs i).map _ = _
  rw [h]; rfl
theorem ix_l {xs : List D} {i : Int} {d : D} (h : atI xs i = some d) : opIx (.lst xs) (.int i) = some (d, false) := by
  show (atI xs i).map _ = _
  rw [h]; rfl
/-- an index that is a whole number from 0 on -/
theorem at_of {xs : List D} {i : Int} {d : D} (k : Nat) (hi : i = k) (h : xs[k]? = some d) : atI xs i = some d := by
  subst hi; exact atI_nat h
theorem tab_at {gs : List Nat} {M n : Nat} (h : n ≤ M) : (dBl (tabB gs M))[n]? = some (.bl (sb gs n)) := by
  unfold tabB
  rw [List.getElem?_map, List.getElem?_map, List.getElem?_range (by omega)]; rfl
theorem N_at {l : List Nat} {n x : Nat} (h : l[n]? = some x) : (dN l)[n]? = some (.int (x : Int)) := by
  rw [List.getElem?_map, h]; rfl
theorem sum_Z (l : List Int) : bSum [.lst (dZ' l)] = some (.int l.sum, false) := by
  show (dIs _).map (fun ns : List Int => (D.int ns.sum, false)) = _
  have h : dIs (dZ' l) = some l := dIs_ints l
  rw [h]; rfl
theorem all_bl (l : List Bool) : bAll [.lst (dBl l)] = some (.bl (l.all id), false) := by
  show Option.map (fun bs : List Bool => (D.bl (bs.all id), false)) (dBs _) = _
  rw [dBs_bls]; rfl
theorem any_bl (l : List Bool) : bAny [.lst (dBl l)] = some (.bl (l.any id), false) := by
  show Option.map (fun bs : List Bool => (D.bl (bs.any id), false)) (dBs _) = _
  rw [dBs_bls]; rfl
/-! calls -/
section
variable {fm : FM} {d : D} {o : Bool} {ρ : Env} {Q : D → Bool → Env → Prop} {x y z : D} {i j k : Nat}
theorem call1 (h : Rn fm [.val x] d o) (hx : rd ρ[i]? = some x) (hc : (if o = true then clean1 d else clean d) = true) : wM (mCall fm [.ln i]) ρ Q = Q d o ρ := by
  rw [wM_call, wO_def]
  simp only [List.map_cons, List.map_nil, opd_ln, wPre_nm, wPre_nil, hx, Option.isSome_some, true_and, wF_finr, fin_nil, wF_some, slots_ln, slots_nil, Option.map_some]
  rw [h.call rfl rfl, hc, frz_true]
theorem call2 (h : Rn fm [.val x, .val y] d o) (hx : rd ρ[i]? = some x) (hy : rd ρ[j]? = some y) (hc : (if o = true then clean1 d else clean d) = true) : wM (mCall fm [.ln i, .ln j]) ρ Q = Q d o ρ := by
  rw [wM_call, wO_def]
  simp only [List.map_cons, List.map_nil, opd_ln, wPre_nm, wPre_nil, hx, hy, Option.isSome_some, true_and, wF_finr, fin_nil, wF_some, slots_ln, slots_nil, Option.map_some]
  rw [h.call rfl rfl, hc, frz_true]
/-- a call with one expression behind names -/
theorem call2e {m : ME} {p : Bool} (h : Rn fm [.val x, .val y] d o) (hx : rd ρ[i]? = some x) (hm : ∀ Q : D → Bool → Env → Prop, wM m ρ Q = Q y p ρ) (hc : (if o = true then clean1 d else clean d) = true) : wM (mCall fm [.ln i, .ex m]) ρ Q = Q d o ρ := by
  rw [wM_call, wO_def]
  simp only [List.map_cons, List.map_nil, opd_ln, opd_ex, wPre_nm, wPre_ex, wPre_nil, hx, Option.isSome_some, true_and]
  rw [hm]
  simp only [hx, wF_finr, wF_finl, fin_nil, wF_some, slots_ln, slots_ex, slots_nil, Option.map_some]
  rw [h.call rfl rfl, hc, frz_true]
theorem call1e {m : ME} {p : Bool} (h : Rn fm [.val y] d o) (hm : ∀ Q : D → Bool → Env → Prop, wM m ρ Q = Q y p ρ) (hc : (if o = true then clean1 d else clean d) = true) : wM (mCall fm [.ex m]) ρ Q = Q d o ρ := by
  rw [wM_call, wO_def]
  simp only [List.map_cons, List.map_nil, opd_ex, wPre_ex, wPre_nil]
  rw [hm]
  simp only [wF_finl, fin_nil, wF_some, slots_ex, slots_nil, Option.map_some]
  rw [h.call rfl rfl, hc, frz_true]
theorem call2ee {m n : ME} {p q : Bool} (h : Rn fm [.val x, .val y] d o) (hm : ∀ Q : D → Bool → Env → Prop, wM m ρ Q = Q x p ρ) (hn : ∀ Q : D → Bool → Env → Prop, wM n ρ Q = Q y q ρ) (hc : (if o = true then clean1 d else clean d) = true) : wM (mCall fm [.ex m, .ex n]) ρ Q = Q d o ρ := by
  rw [wM_call, wO_def]
  simp only [List.map_cons, List.map_nil, opd_ex, wPre_ex, wPre_nil]
  rw [hm, hn]
  simp only [wF_finl, fin_nil, wF_some, slots_ex, slots_nil, Option.map_some]
  rw [h.call rfl rfl, hc, frz_true]
theorem call3 (h : Rn fm [.val x, .val y, .val z] d o) (hx : rd ρ[i]? = some x) (hy : rd ρ[j]? = some y) (hw : rd ρ[k]? = some z) (hc : (if o = true then clean1 d else clean d) = true) : wM (mCall fm [.ln i, .ln j, .ln k]) ρ Q = Q d o ρ := by
  rw [wM_call, wO_def]
  simp only [List.map_cons, List.map_nil, opd_ln, wPre_nm, wPre_nil, hx, hy, hw, Option.isSome_some, true_and, wF_finr, fin_nil, wF_some, slots_ln, slots_nil, Option.map_some]
  rw [h.call rfl rfl, hc, frz_true]
end
end Eng
set_option Elab.async false
set_option linter.all false
set_option maxRecDepth 100000
set_option maxHeartbeats 2000000
/-! ComAF: _law_last, _law_gaps, lefts, has, last_gaps. -/
namespace Eng
open PySem PySem.Spec PyProof.Rows L2 Com
theorem Gen.head {B : Nat} {gs : List Nat} (G : Gen B gs) : ∃ m r, gs = m :: r ∧ 0 < m ∧ m ≤ B ∧ m ∈ gs ∧ ∀ x ∈ gs, m ≤ x := by
  obtain ⟨m, r, hgs⟩ : ∃ m r, gs = m :: r := by
    cases hgs : gs with
    | nil => exact absurd hgs G.ne
    | cons x r => exact ⟨x, r, rfl⟩
  have hmem : m ∈ gs := by rw [hgs]; exact List.mem_cons_self
  refine ⟨m, r, hgs, G.pos m hmem, G.le m hmem, hmem, fun x hx => ?_⟩
  have ho := G.ord
  rw [hgs] at ho hx
  rcases List.mem_cons.mp hx with rfl | hx
  · exact Nat.le_refl _
  · exact Nat.le_of_lt ((List.pairwise_cons.mp ho).1 x hx)
theorem Gen.tip {B : Nat} {gs : List Nat} (G : Gen B gs) : ∃ L, gs[gs.length - 1]? = some L ∧ L ≤ B ∧ L ∈ gs ∧ ∀ x ∈ gs, x ≤ L := by
  rcases List.eq_nil_or_concat gs with h | ⟨r, a, h⟩
  · exact absurd h G.ne
  · rw [List.concat_eq_append] at h
    have hmem : a ∈ gs := by rw [h]; exact List.mem_append_right _ (List.mem_singleton.mpr rfl)
    refine ⟨a, by rw [h]; simp, G.le a hmem, hmem, fun x hx => ?_⟩
    have ho := G.ord
    rw [h] at ho hx
    rcases List.mem_append.mp hx with hx | hx
    · exact Nat.le_of_lt ((List.pairwise_append.mp ho).2.2 x hx a (List.mem_singleton.mpr rfl))
    · rw [List.mem_singleton.mp hx]; exact Nat.le_refl _
theorem Gen.con_le {B : Nat} {gs : List Nat} (G : Gen B gs) {c m L : Nat} (hc : Con gs c) (hm : m ∈ gs) (hL : ∀ x ∈ gs, x ≤ L) : c + L ≤ m * L :=
  hc.le (G.pos m hm) hm G.pos hL (G.met m (G.pos m hm))
theorem gaps_rng {gs : List Nat} {c : Nat} (hc : Con gs c) {K : Nat} (h : c ≤ K) : (List.range K).filter (fun n => !sb gs n) = gapsN gs c := by
  obtain ⟨d, rfl⟩ := Nat.le.dest h
  unfold gapsN
  rw [List.range_add, List.filter_append]
  have : ((List.range d).map (c + ·)).filter (fun n => !sb gs n) = [] := by
    rw [List.filter_eq_nil_iff]
    intro n hn
    obtain ⟨i, _, rfl⟩ := List.mem_map.mp hn
    rw [sb_iff.mpr (hc.all (c + i) (by omega))]
    decide
  rw [this, List.append_nil]
theorem gaps_up {gs : List Nat} {c : Nat} (hc : Con gs c) {M : Nat} (h : c ≤ M + 1) : ((List.range M).map (· + 1)).filter (fun n => !sb gs n) = gapsN gs c := by
  rw [← gaps_rng hc h, List.range_succ_eq_map, List.filter_cons, sb_zero]
  rfl
theorem gaps_snoc {gs : List Nat} {c : Nat} (hc : Con gs c) (h : 0 < c) : gapsN gs c = gapsN gs (c - 1) ++ [c - 1] := by
  have hg : sb gs (c - 1) = false := by
    cases hb : sb gs (c - 1) with
    | false => rfl
    | true => exact absurd (sb_iff.mp hb) (hc.gap (c - 1) (by omega))
  have e : List.range c = List.range (c - 1) ++ [c - 1] := by
    rw [← List.range_succ]; congr 1; omega
  unfold gapsN
  rw [e, List.filter_append]
  simp [hg]
theorem run__law_last {B : Nat} {gs : List Nat} (G : Gen B gs) (hB : B ≤ 2000) {c : Nat} (hc : Con gs c) : Rn m__law_last [.val (.tup (dN gs))] (.int ((c : Int) - 1)) false := by
  have hz := sizeL
  obtain ⟨m, r, hgs, hm, hmB, hmem, hmin⟩ := G.head
  obtain ⟨L, hL, hLB, hLm, hLx⟩ := G.tip
  have hcl := G.con_le hc hmem hLx
  have hlen := G.len
  have hl0 : 0 < gs.length := by rw [hgs]; exact Nat.succ_pos _
  have hML : m * L ≤ 2000 * 2000 := Nat.mul_le_mul (by omega) (by omega)
  have a0 : opIx (.tup (dN gs)) (.int 0) = some (.int (m : Int), false) := ix_t (at_of 0 rfl (N_at (by rw [hgs]; rfl)))
  have a1 : opIx (.tup (dN gs)) (.int ((gs.length : Int) - 1)) = some (.int (L : Int), false) := ix_t (at_of (gs.length - 1) (by omega) (N_at hL))
  have hmul : opMul (.int (m : Int)) (.int (L : Int)) = some (.int ((m * L : Nat) : Int), false) := by
    rw [mul_int (.inl ⟨by omega, by omega⟩)]; simp
  have ht := run_table (g := .tup (dN gs)) rfl G.pos (m * L) (by omega)
  generalize hM : m * L = M at *
  unfold Rn m__law_last
  refine wR_fn (by simp [ownOk]) ?_
  unfold b__law_last
  simp only [wS_seq, wS_set, wM_bin, wM_C, wM_cal, wO_def, wPre_ex, wPre_nm, wPre_nil, List.cons_append, List.nil_append, List.replicate, List.getElem?_cons_succ, List.getElem?_cons_zero, rd_val, Option.isSome_some, true_and, wF_finl, wF_finr, fin_nil, wF_some, w2_two, a0, a1, len_tN, sub_int, hmul, nxt_nx, List.set_cons_succ, List.set_cons_zero, slotOf_f]
  rw [call2 ht rfl rfl (clean1_bl _)]
  simp only [wS_seq, wS_set, wM_bin, wM_lst, wV_cons, wV_nil, wM_un, w1_one, neg_int, wM_C, wM_comp, wI_r2, wO_def, wPre_ex, wPre_nm, wPre_nil, List.getElem?_cons_succ, List.getElem?_cons_zero, rd_val, Option.isSome_some, true_and, wF_finl, wF_finr, fin_nil, wF_some, w2_two, add_int, nxt_nx, List.set_cons_succ, List.set_cons_zero, slotOf_t]
  refine ⟨1, (M : Int) + 1, rfl, by omega, ⟨by rw [rng_len]; omega, rfl⟩, ?_⟩
  rw [show ((M : Int) + 1 - 1).toNat = M by omega]
  refine wK_ls ((List.range M).map (· + 1)) _ (fun n => !sb gs n) (fun n : Nat => .int (n : Int)) (rng1 M) (fun n hn => ?_) ?_
  · obtain ⟨k, hk, rfl⟩ := List.mem_map.mp hn
    have hk := List.mem_range.mp hk
    have hat := ix_l (at_of (xs := dBl (tabB gs M)) (k + 1) rfl (tab_at (by omega)))
    cases hb : sb gs (k + 1) with
    | true =>
      rw [hb] at hat
      simp [-Int.natCast_add, tgS, wipeE, hat, truth]
    | false =>
      rw [hb] at hat
      simp [-Int.natCast_add, tgS, wipeE, hat, truth]
  · rw [gaps_up hc (by omega)]
    have hgl : (gapsN gs c).length ≤ c := by
      have := List.length_filter_le (fun n => !sb gs n) (List.range c)
      rw [List.length_range] at this
      exact this
    have hcat : opAdd (.lst [.int (-1)]) (.lst (dN (gapsN gs c))) = some (.lst (.int (-1) :: dN (gapsN gs c)), true) := if_pos (by simp only [List.length_cons, List.length_nil, List.length_map]; omega)
    have hln : bLen [.lst (.int (-1) :: dN (gapsN gs c))] = some (.int (((gapsN gs c).length + 1 : Nat) : Int), false) := by
      show some (D.int ((D.int (-1) :: dN (gapsN gs c)).length : Int), false) = _
      rw [List.length_cons, List.length_map]
    have hend : opIx (.lst (.int (-1) :: dN (gapsN gs c))) (.int ((((gapsN gs c).length + 1 : Nat) : Int) - 1)) = some (.int ((c : Int) - 1), false) := by
      refine ix_l (at_of (gapsN gs c).length (by omega) ?_)
      rcases Nat.eq_zero_or_pos c with h | h
      · subst h; rfl
      · have e := gaps_snoc hc h
        have e2 : (gapsN gs c).length = (gapsN gs (c - 1)).length + 1 := by rw [e, List.length_append]; rfl
        rw [e2, List.getElem?_cons_succ, e]
        rw [List.getElem?_map, List.getElem?_append_right (Nat.le_refl _)]
        simp
        omega
    simp only [restE, wipeE, List.set_cons_succ, List.set_cons_zero, List.getElem?_cons_succ, List.getElem?_cons_zero, wPre_nil, wPre_nm, wF_finl, wF_finr, fin_nil, wF_some, w2_two, hcat, hln, hend, nxt_nx, slotOf_t, wS_ret, wM_bin, wM_cal, wM_C, wO_def, wPre_ex, rd_own, Option.isSome_some, true_and, sub_int, fend_ret]
    simp [still]
theorem run__law_gaps {B : Nat} {gs : List Nat} (G : Gen B gs) (hB : B ≤ 2000) {c : Nat} (hc : Con gs c) : Rn m__law_gaps [.val (.tup (dN gs))] (.lst (dN (gapsN gs c))) true := by
  have hz := sizeL
  have hcB := G.con hc
  have hBB : B * B ≤ 2000 * 2000 := Nat.mul_le_mul hB hB
  have hl := run__law_last G hB hc
  obtain ⟨M, hM, hM2⟩ : ∃ M : Nat, (if (c : Int) - 1 > 0 then (c : Int) - 1 else 0) = M ∧ M = c - 1 := ⟨c - 1, by split <;> omega, rfl⟩
  have ht := run_table (g := .tup (dN gs)) rfl G.pos M (by omega)
  unfold Rn m__law_gaps
  refine wR_fn (by simp [ownOk]) ?_
  unfold b__law_gaps
  simp only [wS_seq, wS_set, List.cons_append, List.nil_append, List.replicate]
  have hex : ∀ Q : D → Bool → Env → Prop, wM (mCal bMax [.ex (mC (.int 0)), .ex (mCall m__law_last [.ln 0])]) [.val (.tup (dN gs)), .un, .un] Q = Q (.int (M : Int)) false [.val (.tup (dN gs)), .un, .un] := fun Q => by
    simp only [wM_cal, wM_C, wO_def, wPre_ex, wPre_nil]
    rw [call1 hl rfl (by simp [clean])]
    simp only [wF_finl, fin_nil, wF_some, max2, hM, wPre_nil]
  rw [call2e ht rfl hex (clean1_bl _)]
  have hbl : bLen [.lst (dBl (tabB gs M))] = some (.int ((M + 1 : Nat) : Int), false) := by
    rw [len_bl]; unfold tabB; rw [List.length_map, List.length_range]
  simp only [nxt_nx, List.set_cons_succ, List.set_cons_zero, slotOf_t, wS_ret, wM_comp, wI_r1, wM_cal, wO_def, wPre_ex, wPre_nm, wPre_nil, List.getElem?_cons_succ, List.getElem?_cons_zero, rd_own, Option.isSome_some, true_and, wF_finr, wF_finl, fin_nil, wF_some, hbl]
  refine ⟨_, rfl, by omega, ⟨by rw [rng_len]; omega, rfl⟩, ?_⟩
  rw [Int.toNat_natCast]
  refine wK_ls (List.range (M + 1)) _ (fun n => !sb gs n) (fun n : Nat => .int (n : Int)) (rng0 _) (fun k hk => ?_) ?_
  · have hk := List.mem_range.mp hk
    have hat := ix_l (at_of (xs := dBl (tabB gs M)) k rfl (tab_at (by omega)))
    cases hb : sb gs k with
    | true =>
      rw [hb] at hat
      simp [-Int.natCast_add, tgS, wipeE, hat, truth]
    | false =>
      rw [hb] at hat
      simp [-Int.natCast_add, tgS, wipeE, hat, truth]
  · rw [gaps_rng hc (by omega)]
    simp [restE, wipeE, still]
/-- the elements below the conductor -/
noncomputable def lowN (gs : List Nat) (c : Nat) : List Nat := (List.range c).filter (sb gs)
theorem low_held {gs : List Nat} {c : Nat} (hc : Con gs c) : (heldN gs (c - 1)).filter (fun n : Nat => decide ((n : Int) < (c : Int) - 1)) = lowN gs c := by
  unfold heldN lowN
  rw [List.filter_filter]
  rcases Nat.eq_zero_or_pos c with h | h
  · subst h
    show List.filter _ [0] = []
    rw [List.filter_cons, if_neg (by simp)]; rfl
  · rw [show c - 1 + 1 = c by omega]
    apply List.filter_congr
    intro n hn
    have hn := List.mem_range.mp hn
    by_cases e : n = c - 1
    · have hb : sb gs n = false := by
        cases hb : sb gs n with
        | false => rfl
        | true => exact absurd (sb_iff.mp hb) (hc.gap n (by omega))
      simp [hb]
    · have : (n : Int) < (c : Int) - 1 := by omega
      simp [this]
theorem run_lefts {B : Nat} {gs : List Nat} (G : Gen B gs) (hB : B ≤ 2000) {c : Nat} (hc : Con gs c) : Rn m_lefts [.val (.tup (dN gs))] (.lst (dN (lowN gs c))) true := by
  have hz := sizeL
  have hcB := G.con hc
  have hBB : B * B ≤ 2000 * 2000 := Nat.mul_le_mul hB hB
  obtain ⟨c', hc', hgr⟩ := run_greatest_gap G (by omega)
  have e := hc'.unique hc
  subst e
  obtain ⟨M, hM, hM2⟩ : ∃ M : Nat, (if (0 : Int) > (c' : Int) - 1 then (0 : Int) else (c' : Int) - 1) = M ∧ M = c' - 1 := ⟨c' - 1, by split <;> omega, rfl⟩
  have ha := run_all_up_to (g := .tup (dN gs)) rfl G.pos M (by omega)
  unfold Rn m_lefts
  refine wR_fn (by simp [ownOk]) ?_
  unfold b_lefts
  simp only [wS_seq, wS_set, List.cons_append, List.nil_append, List.replicate]
  rw [call1 hgr rfl (by simp [clean])]
  have hex : ∀ Q : D → Bool → Env → Prop, wM (mCal bMax [.nm 1, .ex (mC (.int 0))]) [.val (.tup (dN gs)), .val (.int ((c' : Int) - 1)), .un] Q = Q (.int (M : Int)) false [.val (.tup (dN gs)), .val (.int ((c' : Int) - 1)), .un] := fun Q => by
    simp only [wM_cal, wM_C, wO_def, wPre_ex, wPre_nm, wPre_nil, List.getElem?_cons_succ, List.getElem?_cons_zero, rd_val, Option.isSome_some, true_and, wF_finr, wF_finl, fin_nil, wF_some, max2, hM]
  simp only [nxt_nx, List.set_cons_succ, List.set_cons_zero, slotOf_f, wS_ret, wM_comp, wI_ex]
  rw [call2e ha rfl hex (clean1_N _)]
  have hh : (heldN gs M).length ≤ M + 1 := by
    have := List.length_filter_le (sb gs) (List.range (M + 1))
    rw [List.length_range] at this
    exact this
  simp only [seqOf, wF_some]
  refine ⟨⟨by rw [List.length_map]; omega, rfl⟩, ?_⟩
  refine wK_ls (heldN gs M) _ (fun n : Nat => decide ((n : Int) < (c' : Int) - 1)) (fun n : Nat => .int (n : Int)) rfl (fun k hk => ?_) ?_
  · by_cases h : (k : Int) < (c' : Int) - 1
    · simp [tgS, wipeE, h]
    · simp [tgS, wipeE, h]
  · rw [hM2, low_held hc]
    simp [restE, wipeE, still]
/-! remainders, has -/
theorem run_rem {B : Nat} {gs : List Nat} (G : Gen B gs) (hB : B ≤ 2000) {m : Nat} (hm : m ∈ gs) : ∃ w, Apery gs m w ∧ Rn m_remainders [.val (.tup (dN gs)), .val (.int m)] (.lst (dN w)) true := by
  have hr := run_remainders (g := .tup (dN gs)) rfl (G.pos m hm) (by have := G.le m hm; omega) (G.met m (G.pos m hm))
  obtain ⟨q, hq, hq2, hq3, w, hq4, A⟩ := wF_ex.mp hr
  exact ⟨w, A, wF_eq hq ⟨hq2, hq4, hq3⟩⟩
theorem Apery.sm {gs : List Nat} {m : Nat} {w : List Nat} (A : Apery gs m w) (hm : m ∈ gs) (hm0 : 0 < m) {n x : Nat} (hx : w[n % m]? = some x) : x ≤ n ↔ Sm gs n := by
  obtain ⟨h1, h2, h3⟩ := A.at_ (n % m) x hx
  constructor
  · intro h
    obtain ⟨j, hj⟩ : m ∣ n - x := Nat.dvd_of_mod_eq_zero (Nat.sub_mod_eq_zero_of_mod_eq h2.symm)
    have := Sm.add2 h1 (Sm.mul hm j)
    rwa [show x + j * m = n by rw [Nat.mul_comm j m, ← hj]; omega] at this
  · intro h
    exact h3 n h rfl
theorem Apery.get {gs : List Nat} {m : Nat} {w : List Nat} (A : Apery gs m w) {r : Nat} (h : r < m) : ∃ x, w[r]? = some x := ⟨_, List.getElem?_eq_getElem (by rw [A.len]; exact h)⟩
theorem Apery.mem {gs : List Nat} {m : Nat} {w : List Nat} (A : Apery gs m w) (hm : m ∈ gs) (hm0 : 0 < m) {x : Nat} : x ∈ w ↔ Sm gs x ∧ (m ≤ x → ¬ Sm gs (x - m)) := by
  constructor
  · intro h
    obtain ⟨r, hr⟩ := List.getElem?_of_mem h
    obtain ⟨h1, h2, h3⟩ := A.at_ r x hr
    refine ⟨h1, fun hx hs => ?_⟩
    have := h3 _ hs (by rw [← h2]; exact (Nat.mod_eq_sub_mod hx).symm)
    omega
  · rintro ⟨h1, h2⟩
    obtain ⟨y, hy⟩ := A.get (Nat.mod_lt x hm0)
    obtain ⟨k1, k2, k3⟩ := A.at_ (x % m) y hy
    have hle := k3 x h1 rfl
    have e : y = x := by
      refine Nat.le_antisymm hle (Nat.le_of_not_lt fun hlt => ?_)
      obtain ⟨j, hj⟩ : m ∣ x - y := Nat.dvd_of_mod_eq_zero (Nat.sub_mod_eq_zero_of_mod_eq k2.symm)
      have hj0 : 0 < j := by
        cases j with
        | zero => rw [Nat.mul_zero] at hj; omega
        | succ j => exact Nat.succ_pos j
      have hmj : m ≤ m * j := Nat.le_mul_of_pos_right m hj0
      refine h2 (by omega) ?_
      have := Sm.add2 k1 (Sm.mul hm (j - 1))
      rwa [show y + (j - 1) * m = x - m by rw [Nat.sub_mul, Nat.one_mul, Nat.mul_comm j m, ← hj]; omega] at this
    rw [← e]
    exact List.mem_of_getElem? hy
theorem run_has {B : Nat} {gs : List Nat} (G : Gen B gs) (hB : B ≤ 2000) (n : Int) : Rn m_has [.val (.tup (dN gs)), .val (.int n)] (.bl (decide (0 ≤ n) && sb gs n.toNat)) false := by
  obtain ⟨m, r, hgs, hm, hmB, hmem, hmin⟩ := G.head
  obtain ⟨w, A, hw⟩ := run_rem G hB hmem
  have a0 : opIx (.tup (dN gs)) (.int 0) = some (.int (m : Int), false) := ix_t (at_of 0 rfl (N_at (by rw [hgs]; rfl)))
  unfold Rn m_has
  refine wR_fn (by simp [ownOk]) ?_
  unfold b_has
  simp only [List.cons_append, List.nil_append, List.replicate]
  by_cases h : 0 ≤ n
  · obtain ⟨n, rfl⟩ := Int.eq_ofNat_of_zero_le h
    obtain ⟨x, hx⟩ := A.get (Nat.mod_lt n hm)
    have hmod : opMod (.int (n : Int)) (.int (m : Int)) = some (.int ((n % m : Nat) : Int), false) := by
      unfold opMod
      dsimp only
      rw [if_pos (by omega), Int.fmod_eq_emod_of_nonneg _ (by omega)]; rfl
    have a1 : opIx (.lst (dN w)) (.int ((n % m : Nat) : Int)) = some (.int (x : Int), false) := ix_l (at_of _ rfl (N_at hx))
    have hres : decide ((n : Int) ≥ (x : Int)) = sb gs n := by
      have := A.sm hmem hm hx
      cases hb : sb gs n with
      | true =>
        have := this.mpr (sb_iff.mp hb)
        simp; omega
      | false =>
        have h2 : ¬ x ≤ n := fun h => by
          have := sb_iff.mpr (this.mp h)
          rw [hb] at this; cases this
        simp; omega
    have hlt : decide ((n : Int) < 0) = false := by simp
    simp only [wS_seq, wS_if, wT_B, wM_bin, wM_C, wO_def, wPre_ex, wPre_nm, wPre_nil, List.getElem?_cons_succ, List.getElem?_cons_zero, rd_val, Option.isSome_some, true_and, wF_finl, wF_finr, fin_nil, wF_some, w2_two, cmp_int, hlt, wB_bl, Bool.false_eq_true, if_false, wS_nop, nxt_nx, wS_set, a0, List.set_cons_succ, List.set_cons_zero, slotOf_f, wS_ret]
    rw [call2 hw rfl rfl (clean1_N _)]
    simp only [wPre_ex, wPre_nm, wPre_nil, wM_bin, wO_def, List.getElem?_cons_succ, List.getElem?_cons_zero, rd_val, Option.isSome_some, true_and, wF_finl, wF_finr, fin_nil, wF_some, w2_two, hmod, a1, cmp_int, hres, fend_ret]
    simp [still]
  · have hlt : decide (n < 0) = true := by simp; omega
    simp only [wS_seq, wS_if, wT_B, wM_bin, wM_C, wO_def, wPre_ex, wPre_nm, wPre_nil, List.getElem?_cons_succ, List.getElem?_cons_zero, rd_val, Option.isSome_some, true_and, wF_finl, wF_finr, fin_nil, wF_some, w2_two, cmp_int, hlt, wB_bl, if_true, wS_ret, nxt_ret, fend_ret]
    simp [still, h]
end Eng
set_option Elab.async false
set_option linter.all false
set_option maxRecDepth 100000
set_option maxHeartbeats 2000000
/-! ComAG: last_gaps. -/
namespace Eng
open PySem PySem.Spec PyProof.Rows L2 Com
theorem sort_N {L P : List Nat} (hL : L.Nodup) (hP : P.Pairwise (· < ·)) (h : ∀ x, x ∈ L ↔ x ∈ P) : bSort [.lst (dN L)] = some (.lst (dN P), true) := by
  show (dIs (dN L)).map (fun ns : List Int => (D.lst ((srtZ ns).map .int), true)) = _
  rw [dIs_dN, Option.map_some]
  have hp : L.Perm P := (List.perm_ext_iff_of_nodup hL (hP.imp fun h => Nat.ne_of_lt h)).mpr h
  have e : srtZ (L.map fun n : Nat => (n : Int)) = P.map fun n : Nat => (n : Int) := by
    refine ord_unique ((srtZ_perm _).trans (hp.map _)) (srtZ_ord _) ?_
    rw [List.pairwise_map]
    exact hP.imp fun h => by omega
  rw [e, dN_Z P]
theorem Apery.nodup {gs : List Nat} {m : Nat} {w : List Nat} (A : Apery gs m w) : w.Nodup := by
  have e : w.map (· % m) = List.range m := by
    apply List.ext_getElem?
    intro r
    by_cases h : r < m
    · obtain ⟨x, hx⟩ := A.get h
      rw [List.getElem?_map, hx, List.getElem?_range h, Option.map_some, (A.at_ r x hx).2.1]
    · rw [List.getElem?_eq_none (by rw [List.length_map, A.len]; omega), List.getElem?_eq_none (by simpa using Nat.le_of_not_lt h)]
  have hn : (w.map (· % m)).Nodup := by rw [e]; exact List.nodup_range
  exact (List.pairwise_map.mp hn).imp fun h e => h (by rw [e])
/-- the last gaps -/
noncomputable def pfN (gs : List Nat) (c : Nat) : List Nat := (List.range c).filter fun f => !sb gs f && gs.all fun g => sb gs (f + g)
theorem pf_mem {gs : List Nat} {c f : Nat} (hc : Con gs c) : f ∈ pfN gs c ↔ ¬ Sm gs f ∧ ∀ g ∈ gs, Sm gs (f + g) := by
  unfold pfN
  rw [List.mem_filter, List.mem_range, Bool.and_eq_true, List.all_eq_true]
  constructor
  · rintro ⟨h1, h2, h3⟩
    refine ⟨fun h => ?_, fun g hg => sb_iff.mp (h3 g hg)⟩
    rw [sb_iff.mpr h] at h2; cases h2
  · rintro ⟨h1, h2⟩
    have hb : sb gs f = false := by
      cases hb : sb gs f with
      | false => rfl
      | true => exact absurd (sb_iff.mp hb) h1
    exact ⟨hc.last hb, by rw [hb]; rfl, fun g hg => sb_iff.mpr (h2 g hg)⟩
noncomputable def amax (gs : List Nat) (m : Nat) (w : List Nat) (x : Nat) : Bool := !(w.any fun y => !decide (y = x) && (decide (x ≤ y) && sb gs (y - x))) && decide (m < x)
theorem amax_iff {gs : List Nat} {m : Nat} {w : List Nat} (A : Apery gs m w) (hm : m ∈ gs) (hp : ∀ x ∈ gs, 0 < x) {c f : Nat} (hc : Con gs c) : (∃ x ∈ w, amax gs m w x = true ∧ x - m = f) ↔ f ∈ pfN gs c := by
  have hm0 := hp m hm
  rw [pf_mem hc]
  constructor
  · rintro ⟨x, hx, ha, rfl⟩
    unfold amax at ha
    rw [Bool.and_eq_true, decide_eq_true_eq, Bool.not_eq_true', List.any_eq_false] at ha
    obtain ⟨ha, hmx⟩ := ha
    have h1 := (A.mem hm hm0).mp hx
    refine ⟨h1.2 (by omega), fun g hg => Classical.byContradiction fun hn => ?_⟩
    have hg0 := hp g hg
    have hy : x + g ∈ w := (A.mem hm hm0).mpr ⟨Sm.add2 h1.1 (Sm.one hg), fun _ => by
      rwa [show x + g - m = x - m + g by omega]⟩
    refine ha _ hy ?_
    rw [Bool.and_eq_true, Bool.and_eq_true, decide_eq_true_eq]
    refine ⟨?_, by omega, sb_iff.mpr ?_⟩
    · have : ¬ x + g = x := by omega
      simp [this]; omega
    · rw [show x + g - x = g by omega]; exact Sm.one hg
  · rintro ⟨h1, h2⟩
    have hf0 : 0 < f := Nat.pos_of_ne_zero fun e => h1 (e ▸ Sm.zero)
    refine ⟨f + m, (A.mem hm hm0).mpr ⟨h2 m hm, fun _ => by rwa [Nat.add_sub_cancel]⟩, ?_, by omega⟩
    unfold amax
    rw [Bool.and_eq_true, decide_eq_true_eq, Bool.not_eq_true', List.any_eq_false]
    refine ⟨fun y hy h => ?_, by omega⟩
    rw [Bool.and_eq_true, Bool.and_eq_true, decide_eq_true_eq, Bool.not_eq_true', decide_eq_false_iff_not] at h
    obtain ⟨h3, h4, h5⟩ := h
    obtain ⟨g, hg, hg0, hgs, hs⟩ := (sb_iff.mp h5).last (by omega)
    have := (A.mem hm hm0).mp hy
    refine this.2 (by omega) ?_
    have := Sm.add2 (h2 g hg) hs
    rwa [show f + g + (y - (f + m) - g) = y - m by omega] at this
theorem run_last_gaps {B : Nat} {gs : List Nat} (G : Gen B gs) (hB : B ≤ 2000) {c : Nat} (hc : Con gs c) : Rn m_last_gaps [.val (.tup (dN gs))] (.lst (dN (pfN gs c))) true := by
  have hz := sizeL
  obtain ⟨m, r, hgs, hm, hmB, hmem, hmin⟩ := G.head
  obtain ⟨w, A, hw⟩ := run_rem G hB hmem
  have hwl := A.len
  have a0 : opIx (.tup (dN gs)) (.int 0) = some (.int (m : Int), false) := ix_t (at_of 0 rfl (N_at (by rw [hgs]; rfl)))
  unfold Rn m_last_gaps
  refine wR_fn (by simp [ownOk]) ?_
  unfold b_last_gaps
  simp only [List.cons_append, List.nil_append, List.replicate, wS_seq, wS_set, wM_bin, wM_C, wO_def, wPre_ex, wPre_nm, wPre_nil, List.getElem?_cons_succ, List.getElem?_cons_zero, rd_val, Option.isSome_some, true_and, wF_finl, wF_finr, fin_nil, wF_some, w2_two, a0, nxt_nx, List.set_cons_succ, List.set_cons_zero, slotOf_f]
  rw [call2 hw rfl rfl (clean1_N _)]
  simp only [nxt_nx, List.set_cons_succ, List.set_cons_zero, slotOf_t, wS_seq, wS_set, wM_lst, wV_nil, wS_for, wI_nm, List.getElem?_cons_succ, List.getElem?_cons_zero, rd_own, wF_some, seqOf]
  refine wL_inv (fun k ρ => ∃ s4, ρ = [.val (.tup (dN gs)), .val (.int m), .own (.lst (dN w)), .own (.lst (dN (((w.take k).filter (amax gs m w)).map (· - m)))), s4, .un]) ⟨.un, rfl⟩ (fun k d ρ hd ⟨s4, hρ⟩ => ?_) fun ρ ⟨s4, hρ⟩ => ?_
  · subst hρ
    rw [List.getElem?_map] at hd
    obtain ⟨x, hx, rfl⟩ := Option.map_eq_some_iff.mp hd
    have hk : k < w.length := Nat.lt_of_not_le fun h => by rw [List.getElem?_eq_none h] at hx; cases hx
    have tk : w.take (k + 1) = w.take k ++ [x] := by rw [List.take_add_one, hx]; rfl
    have hlen : (((w.take k).filter (amax gs m w)).map (· - m)).length ≤ k := by
      rw [List.length_map]
      refine Nat.le_trans (List.length_filter_le _ _) ?_
      rw [List.length_take]; omega
    generalize hacc : ((w.take k).filter (amax gs m w)).map (· - m) = acc at *
    have hacc2 : ((w.take (k + 1)).filter (amax gs m w)).map (· - m) = if amax gs m w x = true then acc ++ [x - m] else acc := by
      rw [tk, List.filter_append, List.map_append, hacc]
      cases h : amax gs m w x <;> simp [h]
    rw [hacc2]
    simp only [tgS, wF_some, List.set_cons_succ, List.set_cons_zero, wS_if, wT_and, wT_not, wT_tr, wO_def, wPre_ex, wM_gx, wI_nm, List.getElem?_cons_succ, List.getElem?_cons_zero, rd_own, seqOf]
    refine ⟨rfl, ?_⟩
    refine wX_mp w _ (fun y => !decide (y = x) && (decide (x ≤ y) && sb gs (y - x))) rfl (fun y hy => ?_) ?_
    · have hne : (decide ((y : Int) = (x : Int))) = decide (y = x) := by
        by_cases h : y = x
        · simp [h]
        · have : ¬ (y : Int) = x := by omega
          simp [h, this]
      simp only [tgS, wF_some, wipeE, List.set_cons_succ, List.set_cons_zero, wM_and, wM_bin, wO_def, wPre_nm, wPre_nil, List.getElem?_cons_succ, List.getElem?_cons_zero, rd_val, Option.isSome_some, true_and, wF_finr, fin_nil, w2_two, ne_i, truth, hne]
      by_cases h : y = x
      · simp [h]
      · have hh := run_has G hB ((y : Int) - x)
        have hex : ∀ Q : D → Bool → Env → Prop, wM (mBin opSub (.nm 5) (.nm 4)) [.val (.tup (dN gs)), .val (.int m), .own (.lst (dN w)), .own (.lst (dN acc)), .val (.int (x : Int)), .val (.int (y : Int))] Q = Q (.int ((y : Int) - x)) false [.val (.tup (dN gs)), .val (.int m), .own (.lst (dN w)), .own (.lst (dN acc)), .val (.int (x : Int)), .val (.int (y : Int))] := fun Q => by
          simp only [wM_bin, wO_def, wPre_nm, wPre_nil, List.getElem?_cons_succ, List.getElem?_cons_zero, rd_val, Option.isSome_some, true_and, wF_finr, fin_nil, wF_some, w2_two, sub_int]
        rw [if_pos (by simp [h]), call2e hh rfl hex (by simp [clean])]
        refine ⟨?_, rfl⟩
        have e1 : decide (0 ≤ (y : Int) - x) = decide (x ≤ y) := by
          by_cases h2 : x ≤ y
          · simp [h2]
          · simp [h2]
        rw [e1]
        by_cases h2 : x ≤ y
        · rw [show ((y : Int) - x).toNat = y - x by omega]; simp [h]
        · simp [h, h2]
    · have hgt : decide ((x : Int) > (m : Int)) = decide (m < x) := by
        by_cases h : m < x
        · simp [h]
        · simp [h]
      simp only [if_true, wPre_nil, wF_finl, fin_nil, wF_some, restE, wipeE, List.set_cons_succ, List.set_cons_zero, List.getElem?_cons_succ, List.getElem?_cons_zero]
      refine ⟨_, rfl, ?_⟩
      simp only [truth, wF_some, wT_B, wM_bin, wO_def, wPre_nm, wPre_nil, List.getElem?_cons_succ, List.getElem?_cons_zero, rd_val, Option.isSome_some, true_and, wF_finr, fin_nil, w2_two, cmp_int, wB_bl, hgt, wS_do, wM_app, wS_nop]
      unfold amax
      generalize (w.any fun y => !decide (y = x) && (decide (x ≤ y) && sb gs (y - x))) = t
      cases t with
      | true => simp
      | false =>
        by_cases h : m < x
        · simp [h]
          exact ⟨by omega, by omega⟩
        · simp [h]
  · subst hρ
    rw [List.length_map, List.take_length]
    have hs : bSort [.lst (dN ((w.filter (amax gs m w)).map (· - m)))] = some (.lst (dN (pfN gs c)), true) := by
      refine sort_N ?_ (List.pairwise_lt_range.filter _) fun f => ?_
      · have : ((w.filter (amax gs m w)).map (· - m)).Pairwise (· ≠ ·) := by
          rw [List.pairwise_map]
          refine (A.nodup.filter _).imp_of_mem fun {a b} ha hb hne => ?_
          have h1 := (List.mem_filter.mp ha).2
          have h2 := (List.mem_filter.mp hb).2
          unfold amax at h1 h2
          rw [Bool.and_eq_true, decide_eq_true_eq] at h1 h2
          omega
        exact this
      · rw [← amax_iff A hmem G.pos hc, List.mem_map]
        constructor
        · rintro ⟨x, hx, e⟩
          exact ⟨x, (List.mem_filter.mp hx).1, (List.mem_filter.mp hx).2, e⟩
        · rintro ⟨x, hx, ha, e⟩
          exact ⟨x, List.mem_filter.mpr ⟨hx, ha⟩, e⟩
    simp only [nxt_nx, wS_ret, wM_cal, wO_def, wPre_nm, wPre_nil, List.getElem?_cons_succ, List.getElem?_cons_zero, rd_own, Option.isSome_some, true_and, wF_finr, fin_nil, wF_some, hs, fend_ret]
    simp [still]
/-- (Froeberg, Gottlieb, Haeggkvist) the type bounds the gaps -/
theorem nodup_sub : ∀ (l l' : List Nat), l.Nodup → (∀ x ∈ l, x ∈ l') → l.length ≤ l'.length
  | [], l', _, _ => Nat.zero_le _
  | x :: r, l', hd, h => by
    obtain ⟨h1, h2⟩ := List.nodup_cons.mp hd
    have hx := h x List.mem_cons_self
    have ih := nodup_sub r (l'.erase x) h2 fun y hy => (List.mem_erase_of_ne (fun e => h1 (by rw [← e]; exact hy))).mpr (h y (List.mem_cons_of_mem _ hy))
    rw [List.length_erase_of_mem hx] at ih
    have := List.length_pos_of_mem hx
    rw [List.length_cons]; omega
theorem pf_above {gs : List Nat} {c : Nat} (hc : Con gs c) (hp : ∀ x ∈ gs, 0 < x) : ∀ (k x : Nat), c - x ≤ k → ¬ Sm gs x → ∃ f ∈ pfN gs c, x ≤ f ∧ Sm gs (f - x)
  | 0, x, hk, h => absurd (hc.all x (by omega)) h
  | k + 1, x, hk, h => by
    by_cases h2 : ∀ g ∈ gs, Sm gs (x + g)
    · exact ⟨x, (pf_mem hc).mpr ⟨h, h2⟩, Nat.le_refl _, by rw [Nat.sub_self]; exact .zero⟩
    · have ⟨g, h2⟩ := Classical.not_forall.mp h2
      have ⟨hg, h2⟩ := Classical.not_imp.mp h2
      have hg0 := hp g hg
      obtain ⟨f, h3, h4, h5⟩ := pf_above hc hp k (x + g) (by omega) h2
      refine ⟨f, h3, by omega, ?_⟩
      have := Sm.add2 h5 (Sm.one hg)
      rwa [show f - (x + g) + g = f - x by omega] at this
theorem low_gaps (gs : List Nat) (c : Nat) : (lowN gs c).length + (gapsN gs c).length = c := by
  unfold lowN gapsN
  have : ∀ l : List Nat, (l.filter (sb gs)).length + (l.filter fun n => !sb gs n).length = l.length := by
    intro l
    induction l with
    | nil => rfl
    | cons x r ih =>
      rw [List.filter_cons, List.filter_cons, List.length_cons]
      cases h : sb gs x <;> simp <;> omega
  rw [this, List.length_range]
theorem type_le {gs : List Nat} {c : Nat} (hc : Con gs c) (hp : ∀ x ∈ gs, 0 < x) : c ≤ ((pfN gs c).length + 1) * (lowN gs c).length := by
  have h1 := low_gaps gs c
  have h2 : (gapsN gs c).length ≤ ((pfN gs c).flatMap fun f => (lowN gs c).map fun s => f - s).length := by
    refine nodup_sub _ _ ((List.pairwise_lt_range.filter _).imp fun h => Nat.ne_of_lt h) fun x hx => ?_
    have hx := (List.mem_filter.mp hx)
    have hb : sb gs x = false := by simpa using hx.2
    have hn : ¬ Sm gs x := fun h => by rw [sb_iff.mpr h] at hb; cases hb
    obtain ⟨f, h3, h4, h5⟩ := pf_above hc hp (c - x) x (Nat.le_refl _) hn
    have hfc : f < c := List.mem_range.mp (List.mem_filter.mp h3).1
    exact List.mem_flatMap.mpr ⟨f, h3, List.mem_map.mpr ⟨f - x, List.mem_filter.mpr ⟨List.mem_range.mpr (by omega), sb_iff.mpr h5⟩, by omega⟩⟩
  have h3 : ((pfN gs c).flatMap fun f => (lowN gs c).map fun s => f - s).length = (pfN gs c).length * (lowN gs c).length := by
    have : ∀ l : List Nat, (l.flatMap fun f => (lowN gs c).map fun s => f - s).length = l.length * (lowN gs c).length := by
      intro l
      induction l with
      | nil => simp
      | cons x r ih => rw [List.flatMap_cons, List.length_append, ih, List.length_map, List.length_cons, Nat.add_mul]; omega
    exact this _
  rw [Nat.add_mul]
  omega
end Eng
set_option Elab.async false
set_option linter.all false
set_option maxRecDepth 100000
set_option maxHeartbeats 2000000
/-! K87BX: parts of K87B that other laws take. -/
namespace Eng
open PySem PySem.Spec PyProof.Rows L2 Com
section
variable {B : Nat} {gs : List Nat} {c : Nat}
theorem run_gap' (G : Gen B gs) (hB : B ≤ 2000) (hc : Con gs c) : Rn m_greatest_gap [.val (.tup (dN gs))] (.int ((c : Int) - 1)) false := by
  obtain ⟨c', hc', hgr⟩ := run_greatest_gap G (by omega)
  have e := hc'.unique hc
  subst e
  exact hgr
theorem low_le (gs : List Nat) (c : Nat) : (lowN gs c).length ≤ c := by
  have := List.length_filter_le (sb gs) (List.range c)
  rw [List.length_range] at this
  exact this
theorem con_small (G : Gen B gs) (hB : B ≤ 2000) (hc : Con gs c) : c ≤ 4000000 := by
  have hcB := G.con hc
  have hBB : B * B ≤ 2000 * 2000 := Nat.mul_le_mul hB hB
  omega
end
end Eng
set_option Elab.async false
set_option linter.all false
set_option maxRecDepth 100000
set_option maxHeartbeats 2000000
/-! ComAI: pairs, in the program. -/
namespace Eng
open PySem PySem.Spec PyProof.Rows L2 Com
abbrev cst (l : List Nat) : List Int := l.map fun n : Nat => (n : Int)
theorem cst_has (l : List Nat) (i : Int) : (cst l).contains i = (decide (0 ≤ i) && l.contains i.toNat) := by
  induction l with
  | nil => simp
  | cons x r ih =>
    rw [cst, List.map_cons, List.contains_cons, List.contains_cons]
    have ih' : (List.map (fun n : Nat => (n : Int)) r).contains i = (decide (0 ≤ i) && r.contains i.toNat) := ih
    rw [ih']
    by_cases h : 0 ≤ i
    · obtain ⟨j, rfl⟩ := Int.eq_ofNat_of_zero_le h
      have e : ((j : Int) == (x : Int)) = (j == x) := by
        rw [Bool.eq_iff_iff, beq_iff_eq, beq_iff_eq]; omega
      simp [e]
    · have e : (i == (x : Int)) = false := by simp; omega
      simp [h, e]
theorem cst_nodup {l : List Nat} (h : l.Nodup) : (cst l).Nodup := by
  have : (l.map fun n : Nat => (n : Int)).Pairwise (· ≠ ·) := by
    rw [List.pairwise_map]
    exact h.imp fun h => by omega
  exact this
theorem seq_dF (l : List Nat) : seqOf (.dF (cst l)) = some (dN l) := by
  show some ((cst l).map D.int) = _
  rw [List.map_map]; rfl
theorem in_dF (neg : Bool) (l : List Nat) (i : Int) : opIn neg (.int i) (.dF (cst l)) = some (.bl (if neg = true then !(decide (0 ≤ i) && l.contains i.toNat) else decide (0 ≤ i) && l.contains i.toNat), false) := by
  show some (D.bl (if neg = true then !(cst l).contains i else (cst l).contains i), false) = _
  rw [cst_has]
/-- how many of a list's numbers have the rest in it -/
def cntP (l : List Nat) (n : Int) : Nat := (l.filter fun a : Nat => decide (0 ≤ n - (a : Int)) && l.contains (n - (a : Int)).toNat).length
theorem run_pairs_in (l : List Nat) (n : Int) (hl : l.length ≤ 16000000) : Rn m_pairs_in [.val (.dF (cst l)), .val (.int n)] (.int (cntP l n : Nat)) false := by
  have hz := sizeL
  unfold Rn m_pairs_in
  refine wR_fn (by simp [ownOk]) ?_
  unfold b_pairs_in
  simp only [List.cons_append, List.nil_append, List.replicate, wS_ret, wM_cal, wO_def, wPre_ex, wM_comp, wI_nm, List.getElem?_cons_succ, List.getElem?_cons_zero, rd_val, wF_some, seq_dF]
  refine ⟨⟨by rw [List.length_map]; omega, rfl⟩, ?_⟩
  refine wK_ls l _ (fun a : Nat => decide (0 ≤ n - (a : Int)) && l.contains (n - (a : Int)).toNat) (fun a : Nat => .int (a : Int)) rfl (fun a ha => ?_) ?_
  · simp only [tgS, wF_some, wipeE, List.set_cons_succ, List.set_cons_zero, wT_B, wM_bin, wO_def, wPre_ex, wPre_nm, wPre_nil, List.getElem?_cons_succ, List.getElem?_cons_zero, rd_val, Option.isSome_some, true_and, wF_finr, wF_finl, fin_nil, w2_two, sub_int, in_dF, wB_bl, Bool.false_eq_true, if_false]
    split <;> simp
  · simp only [restE, wipeE, List.set_cons_succ, List.set_cons_zero, List.getElem?_cons_succ, List.getElem?_cons_zero, wPre_nil, wF_finl, fin_nil, wF_some]
    have e : bLen [.lst ((l.filter fun a : Nat => decide (0 ≤ n - (a : Int)) && l.contains (n - (a : Int)).toNat).map fun a : Nat => D.int (a : Int))] = some (.int (cntP l n : Nat), false) := len_lN _
    rw [e]
    simp [still]
theorem held_nodup (gs : List Nat) (M : Nat) : (heldN gs M).Nodup := List.nodup_range.filter _
theorem held_le (gs : List Nat) (M : Nat) : (heldN gs M).length ≤ M + 1 := by
  have := List.length_filter_le (sb gs) (List.range (M + 1))
  rw [List.length_range] at this
  exact this
theorem run_held_up_to {gs : List Nat} (hp : ∀ x ∈ gs, 0 < x) (n : Int) {M : Nat} (hM : M = (if 0 > n then 0 else n).toNat) (hb : M ≤ 8000000) : Rn m_held_up_to [.val (.tup (dN gs)), .val (.int n)] (.dF (cst (heldN gs M))) false := by
  have hz := sizeL
  have ha := run_all_up_to (g := .tup (dN gs)) rfl hp M (by omega)
  have hMn : (if 0 > n then 0 else n) = (M : Int) := by rw [hM]; split <;> omega
  have hh := held_le gs M
  unfold Rn m_held_up_to
  refine wR_fn (by simp [ownOk]) ?_
  unfold b_held_up_to
  have hex : ∀ Q : D → Bool → Env → Prop, wM (mCal bMax [.nm 1, .ex (mC (.int 0))]) [.val (.tup (dN gs)), .val (.int n), .un] Q = Q (.int (M : Int)) false [.val (.tup (dN gs)), .val (.int n), .un] := fun Q => by
    simp only [wM_cal, wM_C, wO_def, wPre_ex, wPre_nm, wPre_nil, List.getElem?_cons_succ, List.getElem?_cons_zero, rd_val, Option.isSome_some, true_and, wF_finr, wF_finl, fin_nil, wF_some, max2]
    rw [show (if (0 : Int) > n then (0 : Int) else n) = (M : Int) from hMn]
  simp only [List.cons_append, List.nil_append, List.replicate, wS_ret, wM_dc, wI_ex]
  rw [call2e ha rfl hex (clean1_N _)]
  simp only [seqOf, wF_some]
  refine ⟨⟨by rw [List.length_map]; omega, rfl⟩, ?_⟩
  refine wD_mp (heldN gs M) _ (fun n : Nat => (n : Int)) rfl (cst_nodup (held_nodup gs M)) (fun x hx => ?_) ?_
  · simp [tgS, wipeE]
  · simp [restE, wipeE, still]
theorem callx1 {fm : FM} {d x y : D} {o p : Bool} {m : ME} {i : Nat} {ρ : Env} {Q : D → Bool → Env → Prop} (h : Rn fm [.val x, .val y] d o) (hm : ∀ Q : D → Bool → Env → Prop, wM m ρ Q = Q x p ρ) (hy : rd ρ[i]? = some y) (hc : (if o = true then clean1 d else clean d) = true) : wM (mCall fm [.ex m, .ln i]) ρ Q = Q d o ρ := by
  rw [wM_call, wO_def]
  simp only [List.map_cons, List.map_nil, opd_ln, opd_ex, wPre_nm, wPre_ex, wPre_nil]
  rw [hm]
  simp only [hy, Option.isSome_some, true_and, wF_finr, wF_finl, fin_nil, wF_some, slots_ln, slots_ex, slots_nil, Option.map_some]
  rw [h.call rfl rfl, hc, frz_true]
/-- a call of names, all of them frozen: whatever comes back -/
theorem call2v {fm : FM} {d x y : D} {o : Bool} {i j : Nat} {ρ : Env} {Q : D → Bool → Env → Prop} (h : Rn fm [.val x, .val y] d o) (hx : ρ[i]? = some (.val x)) (hy : ρ[j]? = some (.val y)) : wM (mCall fm [.ln i, .ln j]) ρ Q = Q d o ρ := by
  rw [wM_call, wO_def]
  simp only [List.map_cons, List.map_nil, opd_ln, wPre_nm, wPre_nil, hx, hy, rd_val, Option.isSome_some, true_and, wF_finr, fin_nil, wF_some, slots_ln, slots_nil, Option.map_some]
  rw [h.call rfl rfl]
  have e : ∀ c, frzE c [.ln i, .ln j] ρ = ρ := fun c => by
    cases c <;> simp [frzE, freezeE, hx, hy]
  rw [e]
theorem call2ev {fm : FM} {d x y : D} {o p : Bool} {m : ME} {i : Nat} {ρ : Env} {Q : D → Bool → Env → Prop} (h : Rn fm [.val x, .val y] d o) (hx : ρ[i]? = some (.val x)) (hm : ∀ Q : D → Bool → Env → Prop, wM m ρ Q = Q y p ρ) : wM (mCall fm [.ln i, .ex m]) ρ Q = Q d o ρ := by
  rw [wM_call, wO_def]
  simp only [List.map_cons, List.map_nil, opd_ln, opd_ex, wPre_nm, wPre_ex, wPre_nil, hx, rd_val, Option.isSome_some, true_and]
  rw [hm]
  simp only [hx, rd_val, wF_finr, wF_finl, fin_nil, wF_some, slots_ln, slots_ex, slots_nil, Option.map_some]
  rw [h.call rfl rfl]
  have e : ∀ c, frzE c [.ln i, .ex m] ρ = ρ := fun c => by
    cases c <;> simp [frzE, freezeE, hx]
  rw [e]
/-- the pairs of a number -/
noncomputable def nu (gs : List Nat) (n : Nat) : Nat := ((List.range (n + 1)).filter fun a => sb gs a && sb gs (n - a)).length
theorem cntP_nu {gs : List Nat} {M n : Nat} (h : n ≤ M) : cntP (heldN gs M) n = nu gs n := by
  unfold cntP nu heldN
  rw [List.filter_filter]
  obtain ⟨d, rfl⟩ := Nat.le.dest h
  rw [show n + d + 1 = (n + 1) + d by omega, List.range_add, List.filter_append]
  have z : ((List.range d).map (n + 1 + ·)).filter (fun a : Nat => (decide (0 ≤ (n : Int) - (a : Int)) && ((List.range (n + 1) ++ (List.range d).map (n + 1 + ·)).filter (sb gs)).contains ((n : Int) - (a : Int)).toNat) && sb gs a) = [] := by
    rw [List.filter_eq_nil_iff]
    intro a ha
    obtain ⟨i, _, rfl⟩ := List.mem_map.mp ha
    have : ¬ (0 : Int) ≤ (n : Int) - ((n + 1 + i : Nat) : Int) := by omega
    simp only [this, decide_false, Bool.false_and, Bool.false_eq_true, not_false_eq_true]
  rw [z, List.append_nil]
  congr 1
  apply List.filter_congr
  intro a ha
  have ha := List.mem_range.mp ha
  have h1 : (0 : Int) ≤ (n : Int) - (a : Int) := by omega
  have h2 : ((n : Int) - (a : Int)).toNat = n - a := by omega
  rw [h2]
  have h3 : ((List.range (n + 1) ++ (List.range d).map (n + 1 + ·)).filter (sb gs)).contains (n - a) = sb gs (n - a) := by
    cases hb : sb gs (n - a) with
    | true => simp [List.mem_filter, hb]; omega
    | false => simp [List.mem_filter, hb]
  rw [h3]
  simp only [h1, decide_true, Bool.true_and]
  rw [Bool.and_comm]
end Eng
set_option Elab.async false
set_option linter.all false
set_option maxRecDepth 100000
set_option maxHeartbeats 2000000
/-! ComAJ: gaps, order bounds, weights, in the program. -/
namespace Eng
open PySem PySem.Spec PyProof.Rows L2 Com
theorem gaps_nodup (gs : List Nat) (c : Nat) : (gapsN gs c).Nodup := List.nodup_range.filter _
theorem gaps_le (gs : List Nat) (c : Nat) : (gapsN gs c).length ≤ c := by
  have := List.length_filter_le (fun n => !sb gs n) (List.range c)
  rw [List.length_range] at this
  exact this
section
variable {B : Nat} {gs : List Nat} {c : Nat}
theorem run_gaps' (G : Gen B gs) (hB : B ≤ 2000) (hc : Con gs c) : Rn m_gaps [.val (.tup (dN gs))] (.lst (dN (gapsN gs c))) true := by
  have hz := sizeL
  have := con_small G hB hc
  exact run_gaps G (by omega) hc (by omega)
/-- the weight -/
noncomputable def wgt (gs : List Nat) (c : Nat) : Int := ((gapsN gs c).zipIdx.map fun q => (q.1 : Int) - (q.2 : Int) - 1).sum
theorem run_gap_weight (G : Gen B gs) (hB : B ≤ 2000) (hc : Con gs c) : Rn m_gap_weight [.val (.tup (dN gs))] (.int (wgt gs c)) false := by
  have hz := sizeL
  have hcs := con_small G hB hc
  have hgl := gaps_le gs c
  unfold Rn m_gap_weight
  refine wR_fn (by simp [ownOk]) ?_
  unfold b_gap_weight
  simp only [List.cons_append, List.nil_append, List.replicate, wS_ret, wM_cal, wO_def, wPre_ex, wM_comp, wI_enE]
  rw [call1 (run_gaps' G hB hc) rfl (clean1_N _)]
  simp only [lstOf, wF_some]
  refine ⟨⟨by rw [en_len, List.length_map]; omega, rfl⟩, ?_⟩
  have he : enD (dN (gapsN gs c)) = (gapsN gs c).zipIdx.map fun q => D.tup [.int (q.2 : Nat), .int (q.1 : Nat)] := by
    unfold enD
    rw [List.zipIdx_map, List.map_map]; rfl
  refine wK_mp (gapsN gs c).zipIdx _ (fun q => .int ((q.1 : Int) - (q.2 : Int) - 1)) he (fun q hq => ?_) ?_
  · simp [tgS, setAll, wipeE]
  · have hsum : bSum [.lst ((gapsN gs c).zipIdx.map fun q => D.int ((q.1 : Int) - (q.2 : Int) - 1))] = some (.int (wgt gs c), false) := by
      have e : ((gapsN gs c).zipIdx.map fun q => D.int ((q.1 : Int) - (q.2 : Int) - 1)) = dZ' ((gapsN gs c).zipIdx.map fun q => (q.1 : Int) - (q.2 : Int) - 1) := by rw [dZ', List.map_map]; rfl
      rw [e, sum_Z]; rfl
    simp only [wPre_nil, wF_finl, fin_nil, wF_some, hsum]
    simp [still, restE, wipeE]
theorem min_lZ {l : List Int} {v : Int} (h : minZ l = some v) : bMin [.lst (dZ' l)] = some (.int v, false) := by
  show ((dIs (dZ' l)).bind fun ns => (minZ ns).map fun m => (D.int m, false)) = _
  have h1 : dIs (dZ' l) = some l := dIs_ints l
  rw [h1, Option.bind_some, h]; rfl
/-- the numbers of pairs from n on, as far as M -/
noncomputable def nuL (gs : List Nat) (n M : Nat) : List Int := ((heldN gs M).filter fun a => decide (n ≤ a)).map fun a => (nu gs a : Int)
theorem run_order_bound (G : Gen B gs) (hB : B ≤ 2000) (hc : Con gs c) (n : Nat) (hn : n ≤ 7000000) {v : Int} (hv : minZ (nuL gs n (max n (2 * c))) = some v) : Rn m_order_bound [.val (.tup (dN gs)), .val (.int n)] (.int v) false := by
  have hz := sizeL
  have hcs : c ≤ 2000 * 2000 := by have hcB := G.con hc; have hBB : B * B ≤ 2000 * 2000 := Nat.mul_le_mul hB hB; omega
  generalize hM : max n (2 * c) = M at hv
  have hMi : (if 2 * ((c : Int) - 1) + 2 > (n : Int) then 2 * ((c : Int) - 1) + 2 else (n : Int)) = (M : Int) := by split <;> omega
  have hh := held_le gs M
  have h1 := run_held_up_to (gs := gs) G.pos (M : Int) (M := M) (by split <;> omega) (by omega)
  unfold Rn m_order_bound
  refine wR_fn (by simp [ownOk]) ?_
  unfold b_order_bound
  have hex : ∀ Q : D → Bool → Env → Prop, wM (mCal bMax [.nm 1, .ex (mBin opAdd (.ex (mBin opMul (.ex (mC (.int 2))) (.ex (mCall m_greatest_gap [.ln 0])))) (.ex (mC (.int 2))))]) [.val (.tup (dN gs)), .val (.int n), .un, .un] Q = Q (.int (M : Int)) false [.val (.tup (dN gs)), .val (.int n), .un, .un] := fun Q => by
    simp only [wM_cal, wM_C, wM_bin, wO_def, wPre_ex, wPre_nm, wPre_nil, List.getElem?_cons_succ, List.getElem?_cons_zero, rd_val, Option.isSome_some, true_and]
    rw [call1 (run_gap' G hB hc) rfl (by simp [clean])]
    have hm : CMul 2 ((c : Int) - 1) := .inl ⟨by omega, by omega⟩
    simp only [wPre_nil, wF_finl, wF_finr, fin_nil, wF_some, w2_two, mul_int hm, add_int, wPre_ex, wM_C, List.getElem?_cons_succ, List.getElem?_cons_zero, rd_val, max2, hMi]
  have hcall : ∀ Q : D → Bool → Env → Prop, wM (mCall m_held_up_to [.ln 0, .ex (mCal bMax [.nm 1, .ex (mBin opAdd (.ex (mBin opMul (.ex (mC (.int 2))) (.ex (mCall m_greatest_gap [.ln 0])))) (.ex (mC (.int 2))))])]) [.val (.tup (dN gs)), .val (.int n), .un, .un] Q = Q (.dF (cst (heldN gs M))) false [.val (.tup (dN gs)), .val (.int n), .un, .un] := fun Q => by
    rw [wM_call, wO_def]
    simp only [List.map_cons, List.map_nil, opd_ln, opd_ex, wPre_nm, wPre_ex, wPre_nil, List.getElem?_cons_succ, List.getElem?_cons_zero, rd_val, Option.isSome_some, true_and]
    rw [hex]
    simp only [List.getElem?_cons_succ, List.getElem?_cons_zero, rd_val, wF_finr, wF_finl, fin_nil, wF_some, slots_ln, slots_ex, slots_nil, Option.map_some]
    rw [h1.call rfl rfl]
    have e : ∀ c, frzE c [.ln 0, .ex (mCal bMax [.nm 1, .ex (mBin opAdd (.ex (mBin opMul (.ex (mC (.int 2))) (.ex (mCall m_greatest_gap [.ln 0])))) (.ex (mC (.int 2))))])] [.val (.tup (dN gs)), .val (.int n), .un, .un] = [.val (.tup (dN gs)), .val (.int n), .un, .un] := fun c => by cases c <;> simp [frzE, freezeE]
    rw [e]
  simp only [List.cons_append, List.nil_append, List.replicate, wS_seq, wS_set]
  rw [hcall]
  simp only [nxt_nx, slotOf_f, List.set_cons_succ, List.set_cons_zero, wS_ret, wM_cal, wO_def, wPre_ex, wM_comp, wI_nm, List.getElem?_cons_succ, List.getElem?_cons_zero, rd_val, wF_some, seq_dF]
  refine ⟨⟨by rw [List.length_map]; omega, rfl⟩, ?_⟩
  refine wK_ls (heldN gs M) _ (fun a => decide (n ≤ a)) (fun a : Nat => .int (nu gs a : Nat)) rfl (fun a ha => ?_) ?_
  · have haM : a ≤ M := by
      have := List.mem_range.mp (List.mem_filter.mp ha).1
      omega
    have hge : decide ((a : Int) ≥ (n : Int)) = decide (n ≤ a) := by
      by_cases h : n ≤ a
      · simp [h]
      · simp [h]
    have hp := run_pairs_in (heldN gs M) a (by omega)
    rw [cntP_nu haM] at hp
    simp only [tgS, wF_some, wipeE, List.set_cons_succ, List.set_cons_zero, wT_B, wM_bin, wO_def, wPre_nm, wPre_nil, List.getElem?_cons_succ, List.getElem?_cons_zero, rd_val, Option.isSome_some, true_and, wF_finr, fin_nil, w2_two, cmp_int, hge, wB_bl]
    by_cases h : n ≤ a
    · simp only [h, decide_true, if_true, true_and]
      rw [call2v hp rfl rfl]
      simp
    · simp [h]
  · have e : (((heldN gs M).filter fun a => decide (n ≤ a)).map fun a : Nat => D.int (nu gs a : Nat)) = dZ' (nuL gs n M) := by
      unfold nuL
      rw [dZ', List.map_map]; rfl
    simp only [restE, wipeE, List.set_cons_succ, List.set_cons_zero, List.getD_cons_succ, List.getD_cons_zero, wPre_nil, wF_finl, fin_nil, wF_some]
    rw [e, min_lZ hv]
    simp [still]
end
end Eng
set_option Elab.async false
set_option linter.all false
set_option maxRecDepth 100000
set_option maxHeartbeats 2000000
/-! ComAK: pairs, in plain Lean. -/
namespace Eng
/-- how many there are below n -/
def cnt (p : Nat → Bool) (n : Nat) : Nat := ((List.range n).filter p).length
theorem cnt_succ (p : Nat → Bool) (n : Nat) : cnt p (n + 1) = cnt p n + if p n = true then 1 else 0 := by
  unfold cnt
  rw [List.range_succ, List.filter_append, List.length_append]
  congr 1
  rw [List.filter_cons]
  split <;> rfl
theorem cnt_shift (p : Nat → Bool) (n : Nat) : cnt p (n + 1) = (if p 0 = true then 1 else 0) + cnt (fun a => p (a + 1)) n := by
  unfold cnt
  rw [List.range_succ_eq_map, List.filter_cons, List.filter_map]
  split
  · rw [List.length_cons, List.length_map, Nat.add_comm]; rfl
  · rw [List.length_map, Nat.zero_add]; rfl
theorem cnt_congr {p q : Nat → Bool} {n : Nat} (h : ∀ a < n, p a = q a) : cnt p n = cnt q n := by
  unfold cnt
  rw [List.filter_congr fun a ha => h a (List.mem_range.mp ha)]
theorem cnt_rev (p : Nat → Bool) : ∀ n, cnt (fun a => p (n - a)) (n + 1) = cnt p (n + 1)
  | 0 => cnt_congr fun a h => by rw [show 0 - a = a by omega]
  | n + 1 => by
    rw [cnt_shift, cnt_succ p (n + 1), Nat.add_comm]
    have := cnt_rev p n
    rw [← this]
    congr 1
    exact cnt_congr fun a h => by rw [show n + 1 - (a + 1) = n - a by omega]
theorem cnt_incl (p q : Nat → Bool) : ∀ n, cnt (fun a => p a && q a) n + cnt (fun a => !p a) n + cnt (fun a => !q a) n = n + cnt (fun a => !p a && !q a) n
  | 0 => rfl
  | n + 1 => by
    have ih := cnt_incl p q n
    rw [cnt_succ, cnt_succ, cnt_succ, cnt_succ]
    cases p n <;> cases q n <;> simp <;> omega
/-- gaps below n -/
noncomputable def gb (gs : List Nat) (n : Nat) : Nat := cnt (fun a => !sb gs a) n
/-- pairs of gaps -/
noncomputable def gp (gs : List Nat) (n : Nat) : Nat := cnt (fun a => !sb gs a && !sb gs (n - a)) (n + 1)
theorem nu_eq (gs : List Nat) (n : Nat) : nu gs n + 2 * gb gs (n + 1) = n + 1 + gp gs n := by
  have h1 := cnt_incl (sb gs) (fun a => sb gs (n - a)) (n + 1)
  have h2 := cnt_rev (fun a => !sb gs a) n
  have h3 : nu gs n = cnt (fun a => sb gs a && sb gs (n - a)) (n + 1) := rfl
  rw [h3]
  unfold gb gp
  omega
theorem gb_all {gs : List Nat} {c n : Nat} (hc : Con gs c) (h : c ≤ n) : gb gs n = (gapsN gs c).length := by
  unfold gb cnt
  rw [gaps_rng hc h]
theorem gb_mono (gs : List Nat) {m n : Nat} (h : m ≤ n) : gb gs m ≤ gb gs n := by
  obtain ⟨d, rfl⟩ := Nat.le.dest h
  induction d with
  | zero => exact Nat.le_refl _
  | succ d ih =>
    refine Nat.le_trans (ih (by omega)) ?_
    show _ ≤ cnt _ (m + d + 1)
    rw [cnt_succ]; exact Nat.le_add_right _ _
theorem gb_le {gs : List Nat} {c : Nat} (hc : Con gs c) (n : Nat) : gb gs n ≤ (gapsN gs c).length := by
  rcases Nat.le_total n c with h | h
  · rw [← gb_all hc (Nat.le_refl c)]; exact gb_mono gs h
  · rw [gb_all hc h]; exact Nat.le_refl _
theorem nu_ge {gs : List Nat} {c : Nat} (hc : Con gs c) (n : Nat) : n + 1 ≤ nu gs n + 2 * (gapsN gs c).length := by
  have h1 := nu_eq gs n
  have h2 := gb_le hc (n + 1)
  omega
theorem gp_far {gs : List Nat} {c n : Nat} (hc : Con gs c) (h : 2 * c ≤ n + 1) : gp gs n = 0 := by
  unfold gp cnt
  rw [List.length_eq_zero_iff, List.filter_eq_nil_iff]
  intro a ha
  have ha := List.mem_range.mp ha
  intro hg
  rw [Bool.and_eq_true, Bool.not_eq_true', Bool.not_eq_true'] at hg
  have h1 := hc.last hg.1
  have h2 := hc.last hg.2
  omega
theorem nu_far {gs : List Nat} {c n : Nat} (hc : Con gs c) (h : 2 * c ≤ n + 1) : nu gs n + 2 * (gapsN gs c).length = n + 1 := by
  have h1 := nu_eq gs n
  have h2 := gp_far hc h
  have h3 : c ≤ n + 1 := by omega
  rw [gb_all hc h3] at h1
  omega
/-- the pairs of gaps as the program counts them -/
theorem cntP_gp {gs : List Nat} {c : Nat} (hc : Con gs c) (n : Nat) : cntP (gapsN gs c) n = gp gs n := by
  unfold cntP gp cnt
  have hg : ∀ a, a ∈ gapsN gs c ↔ sb gs a = false := fun a => by
    unfold gapsN
    rw [List.mem_filter, List.mem_range]
    constructor
    · rintro ⟨_, h⟩; simpa using h
    · intro h; exact ⟨hc.last h, by simp [h]⟩
  refine Nat.le_antisymm (nodup_sub _ _ ((gaps_nodup gs c).filter _) fun a ha => ?_) (nodup_sub _ _ (List.nodup_range.filter _) fun a ha => ?_)
  · obtain ⟨h1, h2⟩ := List.mem_filter.mp ha
    rw [Bool.and_eq_true, decide_eq_true_eq, List.contains_iff_mem] at h2
    have h3 := (hg a).mp h1
    have h4 := (hg _).mp h2.2
    refine List.mem_filter.mpr ⟨List.mem_range.mpr (by omega), ?_⟩
    rw [show n - a = ((n : Int) - (a : Int)).toNat by omega, h3, h4]; rfl
  · obtain ⟨h1, h2⟩ := List.mem_filter.mp ha
    have h1 := List.mem_range.mp h1
    rw [Bool.and_eq_true, Bool.not_eq_true', Bool.not_eq_true'] at h2
    refine List.mem_filter.mpr ⟨(hg a).mpr h2.1, ?_⟩
    rw [Bool.and_eq_true, decide_eq_true_eq, List.contains_iff_mem]
    exact ⟨by omega, (hg _).mpr (by rw [show ((n : Int) - (a : Int)).toNat = n - a by omega]; exact h2.2)⟩
theorem below_gb {gs : List Nat} {c : Nat} (hc : Con gs c) (n : Nat) : ((gapsN gs c).filter fun x => decide (x < n)).length = gb gs n := by
  unfold gb cnt gapsN
  rw [List.filter_filter]
  refine Nat.le_antisymm (nodup_sub _ _ (List.nodup_range.filter _) fun a ha => ?_) (nodup_sub _ _ (List.nodup_range.filter _) fun a ha => ?_)
  · obtain ⟨h1, h2⟩ := List.mem_filter.mp ha
    rw [Bool.and_eq_true, decide_eq_true_eq] at h2
    exact List.mem_filter.mpr ⟨List.mem_range.mpr h2.1, h2.2⟩
  · obtain ⟨h1, h2⟩ := List.mem_filter.mp ha
    have h1 := List.mem_range.mp h1
    have h3 : a < c := hc.last (by simpa using h2)
    exact List.mem_filter.mpr ⟨List.mem_range.mpr h3, by rw [Bool.and_eq_true, decide_eq_true_eq]; exact ⟨h1, h2⟩⟩
/-- for an element the pairs are told by gaps -/
theorem pairs_gaps {gs : List Nat} {c n : Nat} (hc : Con gs c) (hn : sb gs n = true) : (n : Int) + 1 - 2 * (((gapsN gs c).filter fun x => decide (x < n)).length : Nat) + (cntP (gapsN gs c) n : Nat) = (nu gs n : Int) := by
  have h1 := nu_eq gs n
  have h2 : gb gs (n + 1) = gb gs n := by
    show cnt _ (n + 1) = _
    rw [cnt_succ, hn]; rfl
  rw [below_gb hc, cntP_gp hc]
  omega
/-! the least number of pairs -/
theorem minZ_some : ∀ l : List Int, l ≠ [] → ∃ v, minZ l = some v
  | [], h => absurd rfl h
  | [x], _ => ⟨x, rfl⟩
  | x :: y :: r, _ => by
    obtain ⟨v, hv⟩ := minZ_some (y :: r) (by simp)
    exact ⟨min x v, by show (minZ (y :: r)).map _ = _; rw [hv]; rfl⟩
theorem minZ_eq {l : List Int} {v : Int} (h1 : v ∈ l) (h2 : ∀ y ∈ l, v ≤ y) : minZ l = some v := by
  obtain ⟨w, hw⟩ := minZ_some l (fun e => by rw [e] at h1; cases h1)
  obtain ⟨h3, h4⟩ := minZ_ok hw
  rw [hw, Int.le_antisymm (h4 v h1) (h2 w h3)]
theorem nuL_mem {gs : List Nat} {n M : Nat} {y : Int} : y ∈ nuL gs n M ↔ ∃ a, sb gs a = true ∧ n ≤ a ∧ a ≤ M ∧ y = (nu gs a : Int) := by
  unfold nuL heldN
  simp only [List.mem_map, List.mem_filter, List.mem_range, decide_eq_true_eq]
  constructor
  · rintro ⟨a, ⟨⟨h1, h2⟩, h3⟩, h4⟩
    exact ⟨a, h2, h3, by omega, h4.symm⟩
  · rintro ⟨a, h1, h2, h3, h4⟩
    exact ⟨a, ⟨⟨by omega, h1⟩, h2⟩, h4.symm⟩
/-- the least one, by the program and by the law -/
theorem nuL_min {gs : List Nat} {c n M : Nat} (hc : Con gs c) (hM : max n (2 * c) ≤ M) : ∃ v : Nat, minZ (nuL gs n (max n (2 * c))) = some (v : Int) ∧ minZ (nuL gs n M) = some (v : Int) ∧ n + 1 ≤ v + 2 * (gapsN gs c).length ∧ (2 * c ≤ n + 1 → sb gs n = true → v + 2 * (gapsN gs c).length = n + 1) := by
  have htop : sb gs (max n (2 * c)) = true := sb_iff.mpr (hc.all _ (by omega))
  have hne : nuL gs n (max n (2 * c)) ≠ [] := fun e => by
    have : (nu gs (max n (2 * c)) : Int) ∈ nuL gs n (max n (2 * c)) := nuL_mem.mpr ⟨_, htop, by omega, Nat.le_refl _, rfl⟩
    rw [e] at this; cases this
  obtain ⟨w, hw⟩ := minZ_some _ hne
  obtain ⟨h1, h2⟩ := minZ_ok hw
  obtain ⟨a, ha1, ha2, ha3, rfl⟩ := nuL_mem.mp h1
  refine ⟨nu gs a, hw, minZ_eq (nuL_mem.mpr ⟨a, ha1, ha2, by omega, rfl⟩) fun y hy => ?_, ?_, fun h3 h4 => ?_⟩
  · obtain ⟨b, hb1, hb2, hb3, rfl⟩ := nuL_mem.mp hy
    by_cases hb : b ≤ max n (2 * c)
    · exact h2 _ (nuL_mem.mpr ⟨b, hb1, hb2, hb, rfl⟩)
    · have h5 := h2 _ (nuL_mem.mpr ⟨_, htop, by omega, Nat.le_refl _, rfl⟩)
      have h6 := nu_far (n := max n (2 * c)) hc (by omega)
      have h7 := nu_far (n := b) hc (by omega)
      omega
  · have := nu_ge hc a
    omega
  · have h5 := h2 _ (nuL_mem.mpr ⟨n, h4, Nat.le_refl _, by omega, rfl⟩)
    have h6 := nu_far (n := n) hc h3
    have h7 := nu_ge hc a
    omega
/-! weights -/
theorem nu_gap {gs : List Nat} {n : Nat} (h : sb gs n = false) : nu gs n = 0 := by
  unfold nu
  rw [List.length_eq_zero_iff, List.filter_eq_nil_iff]
  intro a ha hs
  have ha := List.mem_range.mp ha
  rw [Bool.and_eq_true] at hs
  have := Sm.add2 (sb_iff.mp hs.1) (sb_iff.mp hs.2)
  rw [show a + (n - a) = n by omega] at this
  rw [sb_iff.mpr this] at h; cases h
theorem gap_place {gs : List Nat} {n : Nat} (h : sb gs n = false) : 2 * gb gs n + 2 = n + 1 + gp gs n := by
  have h1 := nu_eq gs n
  rw [nu_gap h] at h1
  have h2 : gb gs (n + 1) = gb gs n + 1 := by
    show cnt _ (n + 1) = _
    rw [cnt_succ, h]; rfl
  omega
noncomputable def wgb (gs : List Nat) : Nat → Int
  | 0 => 0
  | n + 1 => wgb gs n + if sb gs n = true then 0 else (n : Int) - (gb gs n : Int) - 1
theorem sum_ap : ∀ (l m : List Int), (l ++ m).sum = l.sum + m.sum
  | [], m => by simp
  | x :: r, m => by rw [List.cons_append, List.sum_cons, List.sum_cons, sum_ap r m]; omega
theorem wgt_eq (gs : List Nat) : ∀ c, wgt gs c = wgb gs c
  | 0 => rfl
  | c + 1 => by
    have ih := wgt_eq gs c
    have e : gapsN gs (c + 1) = gapsN gs c ++ if sb gs c = true then [] else [c] := by
      unfold gapsN
      rw [List.range_succ, List.filter_append, List.filter_cons]
      cases sb gs c <;> simp
    unfold wgt
    rw [e, List.zipIdx_append, List.map_append, sum_ap]
    unfold wgt at ih
    rw [ih]
    show _ = wgb gs c + _
    congr 1
    have hl : (gapsN gs c).length = gb gs c := rfl
    cases sb gs c <;> simp [hl]
theorem wgb_le (gs : List Nat) : ∀ n, 2 * wgb gs n + (gb gs n : Int) ≤ (gb gs n : Int) * (gb gs n : Int)
  | 0 => by simp [wgb, gb, cnt]
  | n + 1 => by
    have ih := wgb_le gs n
    have e : gb gs (n + 1) = gb gs n + if (!sb gs n) = true then 1 else 0 := cnt_succ _ n
    unfold wgb
    rw [e]
    cases h : sb gs n with
    | true => simpa using ih
    | false =>
      have h2 := gap_place h
      simp only [Bool.not_false, if_true, Bool.false_eq_true, if_false]
      generalize gb gs n = k at *
      have e2 : ((k + 1 : Nat) : Int) * ((k + 1 : Nat) : Int) = (k : Int) * k + 2 * k + 1 := by
        rw [Int.natCast_add, Int.add_mul, Int.mul_add]; omega
      rw [e2]
      omega
theorem wgb_two {gs : List Nat} (h2 : sb gs 2 = true) : ∀ n, 2 * wgb gs n + (gb gs n : Int) = (gb gs n : Int) * (gb gs n : Int)
  | 0 => by simp [wgb, gb, cnt]
  | n + 1 => by
    have ih := wgb_two h2 n
    have e : gb gs (n + 1) = gb gs n + if (!sb gs n) = true then 1 else 0 := cnt_succ _ n
    unfold wgb
    rw [e]
    cases h : sb gs n with
    | true => simpa using ih
    | false =>
      have h3 := gap_place h
      have even : ∀ k, sb gs (2 * k) = true := fun k => by
        have := Sm.times (sb_iff.mp h2) k
        rw [Nat.mul_comm]; exact sb_iff.mpr this
      have h4 : gp gs n = 0 := by
        unfold gp cnt
        rw [List.length_eq_zero_iff, List.filter_eq_nil_iff]
        intro a ha hg
        have ha := List.mem_range.mp ha
        rw [Bool.and_eq_true, Bool.not_eq_true', Bool.not_eq_true'] at hg
        have odd : ∀ x, sb gs x = false → x % 2 = 1 := fun x hx => by
          rcases Nat.mod_two_eq_zero_or_one x with h | h
          · have := even (x / 2)
            rw [show 2 * (x / 2) = x by omega, hx] at this; cases this
          · exact h
        have := odd _ hg.1
        have := odd _ hg.2
        have := odd _ h
        omega
      simp only [Bool.not_false, if_true, Bool.false_eq_true, if_false]
      generalize gb gs n = k at *
      have e2 : ((k + 1 : Nat) : Int) * ((k + 1 : Nat) : Int) = (k : Int) * k + 2 * k + 1 := by
        rw [Int.natCast_add, Int.add_mul, Int.mul_add]; omega
      rw [e2]
      omega
theorem wgb_eq {gs : List Nat} : ∀ n, 2 * wgb gs n + (gb gs n : Int) = (gb gs n : Int) * (gb gs n : Int) → 2 ≤ gb gs n → sb gs 2 = true
  | 0, _, h => by simp [gb, cnt] at h
  | n + 1, h, hl => by
    have e : gb gs (n + 1) = gb gs n + if (!sb gs n) = true then 1 else 0 := cnt_succ _ n
    unfold wgb at h
    rw [e] at h hl
    cases hn : sb gs n with
    | true =>
      rw [hn] at h hl
      exact wgb_eq n (by simpa using h) (by simpa using hl)
    | false =>
      rw [hn] at h hl
      simp only [Bool.not_false, if_true, Bool.false_eq_true, if_false] at h hl
      have h3 := gap_place hn
      have hle := wgb_le gs n
      have ih := wgb_eq (gs := gs) n
      have e2 : ((gb gs n + 1 : Nat) : Int) * ((gb gs n + 1 : Nat) : Int) = (gb gs n : Int) * (gb gs n : Int) + 2 * (gb gs n : Int) + 1 := by
        rw [Int.natCast_add, Int.add_mul, Int.mul_add]; omega
      rw [e2] at h
      have heq : 2 * wgb gs n + (gb gs n : Int) = (gb gs n : Int) * (gb gs n : Int) := by omega
      have hgp : gp gs n = 0 := by omega
      by_cases h1 : 2 ≤ gb gs n
      · exact ih heq h1
      · have hk : gb gs n = 1 := by omega
        have hn3 : n = 3 := by omega
        subst hn3
        cases hb : sb gs 2 with
        | true => rfl
        | false =>
          exfalso
          have h0 : sb gs 0 = true := sb_zero
          have h1 : sb gs 1 = false := by
            cases h1 : sb gs 1 with
            | false => rfl
            | true =>
              have := Sm.times (sb_iff.mp h1) 2
              rw [sb_iff.mpr this] at hb; cases hb
          have : gb gs 3 = 2 := by
            show cnt _ 3 = 2
            rw [cnt_succ, cnt_succ, cnt_succ, h0, h1, hb]; rfl
          omega
theorem sum_idx (gs : List Nat) (c : Nat) : 2 * wgt gs c + (gapsN gs c).length * ((gapsN gs c).length + 1) = 2 * ((gapsN gs c).map fun n : Nat => (n : Int)).sum := by
  unfold wgt
  have key : ∀ (l : List Nat) (k : Nat), 2 * ((l.zipIdx k).map fun q => (q.1 : Int) - (q.2 : Int) - 1).sum + ((l.length : Int) * (l.length + 1) + 2 * (k : Int) * l.length) = 2 * (l.map fun n : Nat => (n : Int)).sum := by
    intro l
    induction l with
    | nil => intro k; simp
    | cons x r ih =>
      intro k
      have := ih (k + 1)
      rw [List.zipIdx_cons, List.map_cons, List.sum_cons, List.map_cons, List.sum_cons, List.length_cons]
      simp only [Int.natCast_add, Int.add_mul, Int.mul_add, Int.mul_one, Int.one_mul] at this ⊢
      have e : 2 * (k : Int) * (r.length : Int) = 2 * ((k : Int) * (r.length : Int)) := Int.mul_assoc _ _ _
      simp only [e] at this ⊢
      omega
  have := key (gapsN gs c) 0
  simpa using this
end Eng
set_option Elab.async false
set_option linter.all false
set_option maxRecDepth 100000
set_option maxHeartbeats 2000000
/-! ComAL: genus, fewest_checks. -/
namespace Eng
open PySem PySem.Spec PyProof.Rows L2 Com
theorem div_N {y m : Nat} (hm : 0 < m) (hb : m < 1000000000) : opDiv (.int (y : Int)) (.int (m : Int)) = some (.int ((y / m : Nat) : Int), false) := by
  have : CDivN (y : Int) (m : Int) := ⟨by omega, by omega⟩
  unfold opDiv
  dsimp only
  rw [if_pos this, Int.fdiv_eq_ediv_of_nonneg _ (by omega)]; rfl
theorem sum_castN (l : List Nat) : (l.map fun n : Nat => (n : Int)).sum = ((l.sum : Nat) : Int) := by
  induction l with
  | nil => rfl
  | cons x r ih => rw [List.map_cons, List.sum_cons, List.sum_cons, ih]; simp
theorem Apery.gap_iff {gs : List Nat} {m : Nat} {w : List Nat} (A : Apery gs m w) (hm : m ∈ gs) (hm0 : 0 < m) {n : Nat} : sb gs n = false ↔ n / m < w.getD (n % m) 0 / m := by
  obtain ⟨x, hx⟩ := A.get (Nat.mod_lt n hm0)
  have h1 := A.sm hm hm0 hx
  have h2 := (A.at_ (n % m) x hx).2.1
  rw [List.getD_eq_getElem?_getD, hx, Option.getD_some]
  have e1 := Nat.div_add_mod n m
  have e2 := Nat.div_add_mod x m
  rw [h2] at e2
  have h3 : sb gs n = false ↔ ¬ x ≤ n := by
    rw [h1]
    cases hb : sb gs n with
    | true => simp [sb_iff.mp hb]
    | false => simp; intro h; rw [sb_iff.mpr h] at hb; cases hb
  rw [h3]
  constructor
  · intro h
    refine Nat.lt_of_not_le fun h4 => h ?_
    have := Nat.mul_le_mul_left m h4
    omega
  · intro h h4
    have := Nat.mul_lt_mul_of_pos_left h hm0
    omega
theorem genus_eq {gs : List Nat} {m c : Nat} {w : List Nat} (A : Apery gs m w) (hm : m ∈ gs) (hm0 : 0 < m) (hc : Con gs c) : (w.map fun x => x / m).sum = (gapsN gs c).length := by
  have hL : ((List.range m).flatMap fun r => (List.range (w.getD r 0 / m)).map fun j => m * j + r).length = (w.map fun x => x / m).sum := by
    rw [List.length_flatMap]
    congr 1
    apply List.ext_getElem?
    intro r
    by_cases h : r < m
    · obtain ⟨x, hx⟩ := A.get h
      rw [List.getElem?_map, List.getElem?_range h, List.getElem?_map, hx]
      simp [hx]
    · rw [List.getElem?_eq_none (by simpa using Nat.le_of_not_lt h), List.getElem?_eq_none (by rw [List.length_map, A.len]; omega)]
  rw [← hL]
  have mem : ∀ n, n ∈ ((List.range m).flatMap fun r => (List.range (w.getD r 0 / m)).map fun j => m * j + r) ↔ sb gs n = false := fun n => by
    rw [A.gap_iff hm hm0, List.mem_flatMap]
    constructor
    · rintro ⟨r, hr, h⟩
      obtain ⟨j, hj, rfl⟩ := List.mem_map.mp h
      have hr := List.mem_range.mp hr
      have hj := List.mem_range.mp hj
      rw [Nat.mul_add_mod, Nat.mod_eq_of_lt hr, Nat.mul_add_div hm0, Nat.div_eq_of_lt hr, Nat.add_zero]
      exact hj
    · intro h
      exact ⟨n % m, List.mem_range.mpr (Nat.mod_lt n hm0), List.mem_map.mpr ⟨n / m, List.mem_range.mpr h, Nat.div_add_mod n m⟩⟩
  have gm : ∀ n, n ∈ gapsN gs c ↔ sb gs n = false := fun n => by
    unfold gapsN
    rw [List.mem_filter, List.mem_range]
    constructor
    · rintro ⟨_, h⟩; simpa using h
    · intro h; exact ⟨hc.last h, by simp [h]⟩
  refine Nat.le_antisymm (nodup_sub _ _ ?_ fun n hn => (gm n).mpr ((mem n).mp hn)) (nodup_sub _ _ (gaps_nodup gs c) fun n hn => (mem n).mpr ((gm n).mp hn))
  show List.Pairwise (· ≠ ·) _
  rw [List.pairwise_flatMap]
  refine ⟨fun r _ => ?_, List.nodup_range.imp_of_mem fun {r r'} hr hr' hne x hx y hy e => ?_⟩
  · rw [List.pairwise_map]
    refine List.nodup_range.imp fun {a b} h e => h ?_
    exact Nat.eq_of_mul_eq_mul_left hm0 (Nat.add_right_cancel e)
  · obtain ⟨j, _, rfl⟩ := List.mem_map.mp hx
    obtain ⟨j', _, rfl⟩ := List.mem_map.mp hy
    have h1 := List.mem_range.mp hr
    have h2 := List.mem_range.mp hr'
    have := congrArg (· % m) e
    simp only [Nat.mul_add_mod, Nat.mod_eq_of_lt h1, Nat.mod_eq_of_lt h2] at this
    exact hne this
section
variable {B : Nat} {gs : List Nat} {c : Nat}
theorem run_genus (G : Gen B gs) (hB : B ≤ 2000) (hc : Con gs c) : Rn m_genus [.val (.tup (dN gs))] (.int ((gapsN gs c).length : Nat)) false := by
  have hz := sizeL
  obtain ⟨m, r, hgs, hm, hmB, hmem, hmin⟩ := G.head
  obtain ⟨w, A, hw⟩ := run_rem G hB hmem
  have hwl := A.len
  have a0 : opIx (.tup (dN gs)) (.int 0) = some (.int (m : Int), false) := ix_t (at_of 0 rfl (N_at (by rw [hgs]; rfl)))
  unfold Rn m_genus
  refine wR_fn (by simp [ownOk]) ?_
  unfold b_genus
  simp only [List.cons_append, List.nil_append, List.replicate, wS_seq, wS_set, wM_bin, wM_C, wO_def, wPre_ex, wPre_nm, wPre_nil, List.getElem?_cons_succ, List.getElem?_cons_zero, rd_val, Option.isSome_some, true_and, wF_finl, wF_finr, fin_nil, wF_some, w2_two, a0, nxt_nx, List.set_cons_succ, List.set_cons_zero, slotOf_f, wS_ret, wM_cal, wM_comp, wI_ex]
  rw [call2 hw rfl rfl (clean1_N _)]
  simp only [seqOf, wF_some]
  refine ⟨⟨by rw [List.length_map]; omega, rfl⟩, ?_⟩
  refine wK_mp w _ (fun x => .int ((x / m : Nat) : Int)) rfl (fun x hx => ?_) ?_
  · have := div_N (y := x) hm (by omega)
    simp [-Int.natCast_ediv, tgS, wipeE, this]
  · have e : bSum [.lst (w.map fun x => D.int ((x / m : Nat) : Int))] = some (.int ((gapsN gs c).length : Nat), false) := by
      have e1 : (w.map fun x => D.int ((x / m : Nat) : Int)) = dZ' ((w.map fun x => x / m).map fun n : Nat => (n : Int)) := by rw [dZ', List.map_map, List.map_map]; rfl
      rw [e1, sum_Z, sum_castN, genus_eq A hmem hm hc]
    simp only [restE, wipeE, List.set_cons_succ, List.set_cons_zero, wPre_nil, wF_finl, fin_nil, wF_some, e]
    simp [still]
/-- the fewest checks -/
noncomputable def fewL (gs : List Nat) (g t : Nat) : List Nat := (heldN gs (t + 2 * g)).filter fun a => decide (nu gs a < t)
theorem few_eq (hc : Con gs c) {t M : Nat} (h : t + 2 * (gapsN gs c).length ≤ M) : (heldN gs M).filter (fun a => decide (nu gs a < t)) = fewL gs (gapsN gs c).length t := by
  unfold fewL heldN
  obtain ⟨d, hd⟩ := Nat.le.dest h
  rw [← hd, show t + 2 * (gapsN gs c).length + d + 1 = (t + 2 * (gapsN gs c).length + 1) + d by omega, List.range_add, List.filter_append, List.filter_append]
  have z : ((((List.range d).map (t + 2 * (gapsN gs c).length + 1 + ·)).filter (sb gs)).filter fun a => decide (nu gs a < t)) = [] := by
    rw [List.filter_eq_nil_iff]
    intro a ha
    obtain ⟨h1, _⟩ := List.mem_filter.mp ha
    obtain ⟨i, _, rfl⟩ := List.mem_map.mp h1
    have := nu_ge hc (t + 2 * (gapsN gs c).length + 1 + i)
    simp; omega
  rw [z, List.append_nil]
theorem fewL_mem {g t a : Nat} : a ∈ fewL gs g t ↔ sb gs a = true ∧ a ≤ t + 2 * g ∧ nu gs a < t := by
  unfold fewL heldN
  simp only [List.mem_filter, List.mem_range, decide_eq_true_eq]
  exact ⟨fun ⟨⟨h1, h2⟩, h3⟩ => ⟨h2, by omega, h3⟩, fun ⟨h1, h2, h3⟩ => ⟨⟨by omega, h1⟩, h3⟩⟩
theorem fewL_ord (gs : List Nat) (g t : Nat) : (fewL gs g t).Pairwise (· < ·) := (List.pairwise_lt_range.filter _).filter _
theorem fewL_len (gs : List Nat) (g t : Nat) : (fewL gs g t).length ≤ t + 2 * g + 1 := Nat.le_trans (List.length_filter_le _ _) (held_le _ _)
theorem run_fewest (G : Gen B gs) (hB : B ≤ 2000) (hc : Con gs c) (hcs : c ≤ 100000) (t : Nat) (ht : t ≤ 100000) : Rn m_fewest_checks [.val (.tup (dN gs)), .val (.int t)] (.lst (dN (fewL gs (gapsN gs c).length t))) true := by
  have hz := sizeL
  have hg := gaps_le gs c
  generalize hgg : (gapsN gs c).length = g at *
  obtain ⟨M, hM⟩ : ∃ M : Nat, M = t + 2 * g + 2 * c + 2 := ⟨_, rfl⟩
  have hh := held_le gs M
  have h1 := run_held_up_to (gs := gs) G.pos (M : Int) (M := M) (by split <;> omega) (by omega)
  have hgen := run_genus G hB hc
  rw [hgg] at hgen
  unfold Rn m_fewest_checks
  refine wR_fn (by simp [ownOk]) ?_
  unfold b_fewest_checks
  have m1 : CMul 2 (g : Int) := .inl ⟨by omega, by omega⟩
  have m2 : CMul 2 ((c : Int) - 1) := .inl ⟨by omega, by omega⟩
  have eM : (t : Int) + 2 * (g : Int) + 2 * ((c : Int) - 1) + 4 = (M : Int) := by omega
  simp only [List.cons_append, List.nil_append, List.replicate, wS_seq, wS_set]
  rw [call2ev (p := false) h1 rfl (fun Q => ?_)]
  rotate_left 1
  · simp only [wM_bin, wM_C, wO_def, wPre_ex, wPre_nm, wPre_nil, List.getElem?_cons_succ, List.getElem?_cons_zero, rd_val, Option.isSome_some, true_and]
    rw [call1 hgen rfl (by simp [clean])]
    simp only [wPre_nil, wPre_ex, wM_bin, wM_C, wO_def, List.getElem?_cons_succ, List.getElem?_cons_zero, rd_val, wF_finl, wF_finr, fin_nil, wF_some, w2_two, mul_int m1, add_int]
    rw [call1 (run_gap' G hB hc) rfl (by simp [clean])]
    simp only [wPre_nil, wPre_ex, wM_C, wF_finl, fin_nil, wF_some, w2_two, mul_int m2, add_int, eM]
  simp only [nxt_nx, slotOf_f, List.set_cons_succ, List.set_cons_zero, wS_ret, wM_cal, wO_def, wPre_ex, wM_comp, wI_nm, List.getElem?_cons_succ, List.getElem?_cons_zero, rd_val, wF_some, seq_dF]
  refine ⟨⟨by rw [List.length_map]; omega, rfl⟩, ?_⟩
  refine wK_ls (heldN gs M) _ (fun a => decide (nu gs a < t)) (fun a : Nat => .int (a : Nat)) rfl (fun a ha => ?_) ?_
  · have haM : a ≤ M := by
      have := List.mem_range.mp (List.mem_filter.mp ha).1
      omega
    have hp := run_pairs_in (heldN gs M) a (by omega)
    rw [cntP_nu haM] at hp
    have hlt : decide ((nu gs a : Int) < (t : Int)) = decide (nu gs a < t) := by
      by_cases h : nu gs a < t
      · simp [h]
      · simp [h]
    simp only [tgS, wF_some, wipeE, List.set_cons_succ, List.set_cons_zero, wT_B, wM_bin, wO_def, wPre_ex]
    rw [call2v hp rfl rfl]
    simp only [wPre_nm, wPre_nil, List.getElem?_cons_succ, List.getElem?_cons_zero, rd_val, Option.isSome_some, true_and, wF_finr, wF_finl, fin_nil, wF_some, w2_two, cmp_int, hlt, wB_bl]
    by_cases h : nu gs a < t
    · simp [h]
    · simp [h]
  · have e : bSort [.lst (((heldN gs M).filter fun a => decide (nu gs a < t)).map fun a : Nat => D.int (a : Nat))] = some (.lst (dN (fewL gs g t)), true) := by
      have := few_eq hc (t := t) (M := M) (by rw [hgg]; omega)
      rw [this, hgg]
      exact sort_N ((fewL_ord gs g t).imp fun h => Nat.ne_of_lt h) (fewL_ord gs g t) fun x => Iff.rfl
    simp only [restE, wipeE, List.set_cons_succ, List.set_cons_zero, List.getD_cons_succ, List.getD_cons_zero, wPre_nil, wF_finl, fin_nil, wF_some, e]
    simp [still]
end
end Eng
set_option Elab.async false
set_option linter.all false
set_option maxRecDepth 100000
set_option maxHeartbeats 2000000
/-! ComAM: Arf semigroups and rows, in plain Lean. -/
namespace Eng
/-! least generators are told by the semigroup -/
theorem ord_ext : ∀ {l k : List Nat}, l.Pairwise (· < ·) → k.Pairwise (· < ·) → (∀ x, x ∈ l ↔ x ∈ k) → l = k
  | [], [], _, _, _ => rfl
  | [], y :: k, _, _, h => by have := (h y).mpr List.mem_cons_self; cases this
  | x :: l, [], _, _, h => by have := (h x).mp List.mem_cons_self; cases this
  | x :: l, y :: k, hl, hk, h => by
    obtain ⟨hl1, hl2⟩ := List.pairwise_cons.mp hl
    obtain ⟨hk1, hk2⟩ := List.pairwise_cons.mp hk
    have e : x = y := by
      rcases List.mem_cons.mp ((h x).mp List.mem_cons_self) with e | e
      · exact e
      · rcases List.mem_cons.mp ((h y).mpr List.mem_cons_self) with e2 | e2
        · exact e2.symm
        · have := hl1 y e2
          have := hk1 x e
          omega
    subst e
    rw [ord_ext hl2 hk2 fun z => ⟨fun hz => ?_, fun hz => ?_⟩]
    · rcases List.mem_cons.mp ((h z).mp (List.mem_cons_of_mem _ hz)) with e | e
      · subst e; exact absurd (hl1 z hz) (Nat.lt_irrefl _)
      · exact e
    · rcases List.mem_cons.mp ((h z).mpr (List.mem_cons_of_mem _ hz)) with e | e
      · subst e; exact absurd (hk1 z hz) (Nat.lt_irrefl _)
      · exact e
theorem Sm.low {gs hs : List Nat} {x : Nat} (h : ∀ g ∈ gs, g < x → g ∈ hs) {a : Nat} (s : Sm gs a) : a < x → Sm hs a := by
  induction s with
  | zero => exact fun _ => .zero
  | @add n g _ hg ih => exact fun ha => .add (ih (by omega)) (h g hg (by omega))
def Fresh (out : List Nat) : Prop := ∀ o1 x o2, out = o1 ++ x :: o2 → o1 = [] ∨ ¬ Sm o1 x
theorem lst_fresh : ∀ (l out : List Nat), Fresh out → Fresh (l.foldl lstStep out)
  | [], out, h => h
  | y :: r, out, h => by
    rw [List.foldl_cons]
    refine lst_fresh r _ ?_
    unfold lstStep
    split
    · rename_i hn
      intro o1 x o2 e
      rcases List.eq_nil_or_concat o2 with e2 | ⟨o3, z, e2⟩
      · subst e2
        obtain ⟨e3, e4⟩ := List.append_inj' e rfl
        obtain rfl : y = x := by simpa using e4
        rw [← e3]
        rcases hn with hn | hn
        · exact .inl hn
        · exact .inr fun hs => by rw [sb_iff.mpr hs] at hn; cases hn
      · rw [List.concat_eq_append] at e2
        subst e2
        rw [← List.cons_append, ← List.append_assoc] at e
        exact h o1 x o3 (List.append_inj' e rfl).1
    · exact h
theorem lst_mem {ms : List Nat} (hp : ∀ x ∈ ms, 0 < x) {x : Nat} : x ∈ lstM ms ↔ 0 < x ∧ Sm ms x ∧ ∀ a b, 0 < a → 0 < b → a + b = x → Sm ms a → ¬ Sm ms b := by
  constructor
  · intro h
    have hxm : x ∈ ms := by
      rcases lst_sub _ _ h with h | h
      · cases h
      · exact sortN_mem.mp h
    refine ⟨hp x hxm, Sm.one hxm, fun a b ha hb e sa sb => ?_⟩
    obtain ⟨o1, o2, e1⟩ := List.append_of_mem h
    have ho : (lstM ms).Pairwise (· < ·) := lst_ord _ _ (by rw [List.nil_append]; exact sortN_lt ms)
    have hf : Fresh (lstM ms) := lst_fresh _ _ fun o1 x o2 e => by
      have := congrArg List.length e
      simp at this
    rw [e1] at ho
    have lowg : ∀ g ∈ lstM ms, g < x → g ∈ o1 := fun g hg hgx => by
      rw [e1] at hg
      rcases List.mem_append.mp hg with hg | hg
      · exact hg
      · rcases List.mem_cons.mp hg with e | hg
        · omega
        · have := (List.pairwise_cons.mp (List.pairwise_append.mp ho).2.1).1 g hg
          omega
    have s1 : Sm o1 a := Sm.low lowg (lst_Sm.mpr sa) (by omega)
    have s2 : Sm o1 b := Sm.low lowg (lst_Sm.mpr sb) (by omega)
    rcases hf o1 x o2 e1 with h0 | h0
    · subst h0
      obtain ⟨g, hg, _⟩ := s1.last ha
      cases hg
    · exact h0 (e ▸ s1.add2 s2)
  · rintro ⟨h0, hs, hi⟩
    obtain ⟨g, hg, h1, h2, h3⟩ := (lst_Sm.mpr hs).last h0
    by_cases e : x - g = 0
    · have : x = g := by omega
      rw [this]; exact hg
    · exact absurd (lst_Sm.mp (Sm.one hg)) (hi (x - g) g (by omega) h1 (by omega) (lst_Sm.mp h3))
theorem lst_canon {ms ns : List Nat} (hm : ∀ x ∈ ms, 0 < x) (hn : ∀ x ∈ ns, 0 < x) (h : ∀ n, Sm ms n ↔ Sm ns n) : lstM ms = lstM ns := by
  refine ord_ext (lst_ord _ _ (by rw [List.nil_append]; exact sortN_lt ms)) (lst_ord _ _ (by rw [List.nil_append]; exact sortN_lt ns)) fun x => ?_
  rw [lst_mem hm, lst_mem hn, h]
  refine and_congr_right fun _ => and_congr_right fun _ => ?_
  exact ⟨fun k a b ha hb e sa sb => k a b ha hb e ((h a).mpr sa) ((h b).mpr sb), fun k a b ha hb e sa sb => k a b ha hb e ((h a).mp sa) ((h b).mp sb)⟩
theorem sortN_id {l : List Nat} (h : l.Pairwise (· < ·)) : sortN l = l := ord_ext (sortN_lt l) h fun x => sortN_mem
/-! rows and their semigroups -/
def ar : List Nat → Nat → Bool
  | [], _ => true
  | m :: l, n => n == 0 || (decide (m ≤ n) && ar l (n - m))
def rowOk : List Nat → Bool
  | [] => true
  | m :: l => ar l m && rowOk l
/-- closed under x + y - z -/
def Arf (T : Nat → Prop) : Prop := ∀ x y z, T x → T y → T z → z ≤ x → z ≤ y → T (x + y - z)
theorem ar_zero : ∀ l, ar l 0 = true
  | [] => rfl
  | m :: l => by simp [ar]
theorem ar_cons {m : Nat} {l : List Nat} {n : Nat} : ar (m :: l) n = true ↔ n = 0 ∨ (m ≤ n ∧ ar l (n - m) = true) := by
  simp [ar]
theorem ar_arf : ∀ l, rowOk l = true → Arf fun n => ar l n = true
  | [], _ => fun _ _ _ _ _ _ _ _ => rfl
  | m :: l, h => by
    simp only [rowOk, Bool.and_eq_true] at h
    have ih := ar_arf l h.2
    intro x y z hx hy hz h1 h2
    change ar (m :: l) (x + y - z) = true
    rw [ar_cons] at hx hy hz ⊢
    by_cases hz0 : z = 0
    · subst hz0
      by_cases hx0 : x = 0
      · subst hx0
        rw [Nat.zero_add, Nat.sub_zero]; exact hy
      · by_cases hy0 : y = 0
        · subst hy0
          rw [Nat.add_zero, Nat.sub_zero]; exact hx
        · obtain ⟨x1, x2⟩ := hx.resolve_left hx0
          obtain ⟨y1, y2⟩ := hy.resolve_left hy0
          refine .inr ⟨by omega, ?_⟩
          have k1 := ih (x - m) (y - m) 0 x2 y2 (ar_zero l) (Nat.zero_le _) (Nat.zero_le _)
          have k2 := ih _ m 0 k1 h.1 (ar_zero l) (Nat.zero_le _) (Nat.zero_le _)
          try simp only at k2
          rwa [show x - m + (y - m) - 0 + m - 0 = x + y - 0 - m by omega] at k2
    · obtain ⟨z1, z2⟩ := hz.resolve_left hz0
      by_cases hx0 : x = 0
      · omega
      by_cases hy0 : y = 0
      · omega
      obtain ⟨x1, x2⟩ := hx.resolve_left hx0
      obtain ⟨y1, y2⟩ := hy.resolve_left hy0
      have k1 := ih (x - m) (y - m) (z - m) x2 y2 z2 (by omega) (by omega)
      try simp only at k1
      refine .inr ⟨by omega, ?_⟩
      rwa [show x - m + (y - m) - (z - m) = x + y - z - m by omega] at k1
theorem Arf.add {T : Nat → Prop} (h : Arf T) (h0 : T 0) {x y : Nat} (hx : T x) (hy : T y) : T (x + y) := by
  have := h x y 0 hx hy h0 (Nat.zero_le _) (Nat.zero_le _)
  rwa [Nat.sub_zero] at this
theorem Arf.sm {T : Nat → Prop} (h : Arf T) (h0 : T 0) {gs : List Nat} (hg : ∀ g ∈ gs, T g) {n : Nat} (s : Sm gs n) : T n := by
  induction s with
  | zero => exact h0
  | @add n g _ hm ih => exact h.add h0 ih (hg g hm)
/-- partial sums -/
def psum (t : Nat) : List Nat → List Nat
  | [] => []
  | m :: l => (t + m) :: psum (t + m) l
theorem psum_ar : ∀ (l : List Nat) (t g : Nat), g ∈ psum t l → ∃ d, g = t + d ∧ ar l d = true
  | [], t, g, h => by cases h
  | m :: l, t, g, h => by
    rcases List.mem_cons.mp h with e | h
    · exact ⟨m, e, ar_cons.mpr (.inr ⟨Nat.le_refl _, by rw [Nat.sub_self]; exact ar_zero l⟩)⟩
    · obtain ⟨d, e, hd⟩ := psum_ar l _ g h
      exact ⟨m + d, by omega, ar_cons.mpr (.inr ⟨by omega, by rw [Nat.add_sub_cancel_left]; exact hd⟩)⟩
theorem ar_psum : ∀ (l : List Nat) (t n : Nat), ar l n = true → n = 0 ∨ t + n ∈ psum t l ∨ l.sum < n
  | [], t, n, _ => by
    by_cases h : n = 0
    · exact .inl h
    · exact .inr (.inr (by simp; omega))
  | m :: l, t, n, h => by
    rcases ar_cons.mp h with h | ⟨h1, h2⟩
    · exact .inl h
    · refine .inr ?_
      rcases ar_psum l (t + m) (n - m) h2 with h | h | h
      · exact .inl (by
          have : n = m := by omega
          rw [this]; exact List.mem_cons_self)
      · exact .inl (List.mem_cons_of_mem _ (by rwa [show t + m + (n - m) = t + n by omega] at h))
      · exact .inr (by rw [List.sum_cons]; omega)
theorem ar_far : ∀ (l : List Nat) (n : Nat), l.sum ≤ n → ar l n = true
  | [], _, _ => rfl
  | m :: l, n, h => by
    rw [List.sum_cons] at h
    exact ar_cons.mpr (.inr ⟨by omega, ar_far l _ (by omega)⟩)
/-- what semigroup_of hands to least_generators -/
def genR (row : List Nat) (m : Nat) : List Nat := psum 0 row ++ (List.range m).map fun k => row.sum + 1 + k
theorem genR_pos {row : List Nat} {m : Nat} (hp : ∀ x ∈ row, 0 < x) : ∀ x ∈ genR row m, 0 < x := by
  have : ∀ (l : List Nat) (t : Nat), (∀ x ∈ l, 0 < x) → ∀ x ∈ psum t l, t < x := by
    intro l
    induction l with
    | nil => intro t _ x h; cases h
    | cons m l ih =>
      intro t hl x h
      have hm := hl m List.mem_cons_self
      rcases List.mem_cons.mp h with e | h
      · omega
      · have := ih (t + m) (fun x hx => hl x (List.mem_cons_of_mem _ hx)) x h
        omega
  intro x h
  rcases List.mem_append.mp h with h | h
  · exact this row 0 hp x h
  · obtain ⟨k, _, rfl⟩ := List.mem_map.mp h
    omega
theorem psum_ord : ∀ (l : List Nat) (t : Nat), (∀ x ∈ l, 0 < x) → (psum t l).Pairwise (· < ·) ∧ ∀ x ∈ psum t l, t < x ∧ x ≤ t + l.sum
  | [], t, _ => ⟨.nil, fun x h => by cases h⟩
  | m :: l, t, hl => by
    obtain ⟨h1, h2⟩ := psum_ord l (t + m) fun x hx => hl x (List.mem_cons_of_mem _ hx)
    have hm := hl m List.mem_cons_self
    refine ⟨List.pairwise_cons.mpr ⟨fun x hx => (h2 x hx).1, h1⟩, fun x hx => ?_⟩
    rw [List.sum_cons]
    rcases List.mem_cons.mp hx with e | hx
    · omega
    · have := h2 x hx
      omega
theorem genR_ord {row : List Nat} {m : Nat} (hp : ∀ x ∈ row, 0 < x) : (genR row m).Pairwise (· < ·) := by
  obtain ⟨h1, h2⟩ := psum_ord row 0 hp
  refine List.pairwise_append.mpr ⟨h1, ?_, fun x hx y hy => ?_⟩
  · rw [List.pairwise_map]
    exact List.pairwise_lt_range.imp fun h => by omega
  · obtain ⟨k, _, rfl⟩ := List.mem_map.mp hy
    have := h2 x hx
    omega
theorem psum_len : ∀ (l : List Nat) (t : Nat), (psum t l).length = l.length
  | [], _ => rfl
  | m :: l, t => by simp only [psum, List.length_cons, psum_len l]
theorem genR_Sm {m : Nat} {l : List Nat} (hp : ∀ x ∈ m :: l, 0 < x) (ho : rowOk (m :: l) = true) (n : Nat) : Sm (genR (m :: l) m) n ↔ ar (m :: l) n = true := by
  have ha := ar_arf _ ho
  have hm := hp m List.mem_cons_self
  constructor
  · refine ha.sm (ar_zero _) fun g hg => ?_
    rcases List.mem_append.mp hg with hg | hg
    · obtain ⟨d, e, hd⟩ := psum_ar _ _ _ hg
      rw [Nat.zero_add] at e
      subst e; exact hd
    · obtain ⟨k, _, rfl⟩ := List.mem_map.mp hg
      exact ar_far _ _ (by omega)
  · have far : ∀ n, (m :: l).sum < n → Sm (genR (m :: l) m) n := by
      intro n
      induction n using Nat.strongRecOn with
      | ind n ih =>
        intro hn
        by_cases h : n ≤ (m :: l).sum + m
        · refine Sm.one (List.mem_append_right _ (List.mem_map.mpr ⟨n - (m :: l).sum - 1, List.mem_range.mpr (by omega), by omega⟩))
        · have h1 := ih (n - m) (by omega) (by omega)
          have h2 : m ∈ genR (m :: l) m := List.mem_append_left _ (by rw [psum, Nat.zero_add]; exact List.mem_cons_self)
          have := Sm.add h1 h2
          rwa [Nat.sub_add_cancel (by omega)] at this
    intro h
    rcases ar_psum _ 0 _ h with h | h | h
    · subst h; exact .zero
    · rw [Nat.zero_add] at h
      exact Sm.one (List.mem_append_left _ h)
    · exact far n h
end Eng
set_option Elab.async false
set_option linter.all false
set_option maxRecDepth 100000
set_option maxHeartbeats 2000000
/-! ComAN: multiplicities, in plain Lean. -/
namespace Eng
def nxtN : List Nat → List Nat
  | [] => []
  | m :: r => m :: r.map fun g => g - m
noncomputable def blow (gs : List Nat) : List Nat := lstM (nxtN gs)
section
variable {B : Nat} {m : Nat} {r gs : List Nat}
theorem nxtN_pos (G : Gen B (m :: r)) : ∀ x ∈ nxtN (m :: r), 0 < x := by
  intro x hx
  rcases List.mem_cons.mp hx with e | hx
  · subst e; exact G.pos _ List.mem_cons_self
  · obtain ⟨g, hg, rfl⟩ := List.mem_map.mp hx
    have := (List.pairwise_cons.mp G.ord).1 g hg
    omega
theorem nxt_mono (G : Gen B (m :: r)) {n : Nat} (h : Sm (m :: r) n) : Sm (nxtN (m :: r)) n := by
  refine h.mono fun g hg => ?_
  rcases List.mem_cons.mp hg with e | hg
  · subst e; exact Sm.one List.mem_cons_self
  · have h1 := (List.pairwise_cons.mp G.ord).1 g hg
    have h2 : Sm (nxtN (m :: r)) (g - m) := Sm.one (List.mem_cons_of_mem _ (List.mem_map.mpr ⟨g, hg, rfl⟩))
    have := Sm.add h2 (List.mem_cons_self (a := m) (l := r.map fun g => g - m))
    rwa [Nat.sub_add_cancel (by omega)] at this
theorem Gen.hd_le (G : Gen B (m :: r)) {x : Nat} (hx : x ∈ m :: r) : m ≤ x := by
  rcases List.mem_cons.mp hx with e | hx
  · omega
  · exact Nat.le_of_lt ((List.pairwise_cons.mp G.ord).1 x hx)
theorem Gen.le_sm (G : Gen B (m :: r)) {n : Nat} (h : Sm (m :: r) n) (hn : 0 < n) : m ≤ n := by
  obtain ⟨g, hg, _, h2, _⟩ := h.last hn
  have := G.hd_le hg
  omega
theorem nxt_shift (G : Gen B (m :: r)) {n : Nat} (h : Sm (m :: r) n) (hn : 0 < n) : Sm (nxtN (m :: r)) (n - m) := by
  obtain ⟨g, hg, h1, h2, h3⟩ := h.last hn
  have h4 := nxt_mono G h3
  have h5 := G.hd_le hg
  rcases List.mem_cons.mp hg with e | hg
  · subst e; exact h4
  · have h6 : Sm (nxtN (m :: r)) (g - m) := Sm.one (List.mem_cons_of_mem _ (List.mem_map.mpr ⟨g, hg, rfl⟩))
    have := h4.add2 h6
    rwa [show n - g + (g - m) = n - m by omega] at this
theorem blow_gen (G : Gen B (m :: r)) : Gen B (blow (m :: r)) := by
  have sub : ∀ x ∈ blow (m :: r), x ∈ nxtN (m :: r) := fun x hx => by
    rcases lst_sub _ _ hx with h | h
    · cases h
    · exact sortN_mem.mp h
  have hm : 0 < m := G.pos _ List.mem_cons_self
  refine ⟨fun e => ?_, fun x hx => nxtN_pos G x (sub x hx), fun x hx => ?_, ?_, ?_, fun k hk r' hr => ?_⟩
  · have h := lst_all (sortN (nxtN (m :: r))) [] (sortN_mem.mpr List.mem_cons_self)
    have e' : (sortN (nxtN (m :: r))).foldl lstStep [] = [] := e
    rw [e'] at h
    obtain ⟨g, hg, _⟩ := h.last hm
    cases hg
  · rcases List.mem_cons.mp (sub x hx) with e | hx
    · subst e; exact G.le _ List.mem_cons_self
    · obtain ⟨g, hg, rfl⟩ := List.mem_map.mp hx
      have := G.le g (List.mem_cons_of_mem _ hg)
      omega
  · have h1 := lst_len (sortN (nxtN (m :: r))) []
    have h2 := sortN_len (nxtN (m :: r))
    have h3 := G.len
    have h4 : (nxtN (m :: r)).length = (m :: r).length := by simp [nxtN]
    have h5 : (blow (m :: r)).length = ((sortN (nxtN (m :: r))).foldl lstStep []).length := rfl
    rw [h5]
    simp only [List.length_nil] at h1
    omega
  · exact lst_ord _ _ (by rw [List.nil_append]; exact sortN_lt _)
  · obtain ⟨n, h1, h2⟩ := G.met k hk r' hr
    exact ⟨n, lst_Sm.mpr (nxt_mono G h1), h2⟩
theorem con_of : ∀ (K : Nat), (∀ n, K ≤ n → Sm gs n) → ∃ c, Con gs c ∧ c ≤ K
  | 0, h => ⟨0, ⟨h, fun n e => by omega⟩, Nat.le_refl _⟩
  | K + 1, h => by
    by_cases hK : Sm gs K
    · obtain ⟨c, h1, h2⟩ := con_of K fun n hn => by
        rcases Nat.eq_or_lt_of_le hn with e | e
        · rwa [← e]
        · exact h n e
      exact ⟨c, h1, by omega⟩
    · exact ⟨K + 1, ⟨h, fun n e => by
        have : n = K := by omega
        rw [this]; exact hK⟩, Nat.le_refl _⟩
theorem nxt_con (G : Gen B (m :: r)) (h1 : 1 < m) {c : Nat} (hc : Con (m :: r) c) : ∃ c', Con (blow (m :: r)) c' ∧ c' + m ≤ c := by
  have hmc : m ≤ c := Nat.le_of_not_lt fun h => by
    have := G.le_sm (hc.all (m - 1) (by omega)) (by omega)
    omega
  obtain ⟨c', h2, h3⟩ := con_of (gs := blow (m :: r)) (c - m) fun n hn => by
    have := nxt_shift G (hc.all (n + m) (by omega)) (by omega)
    rw [Nat.add_sub_cancel] at this
    exact lst_Sm.mpr this
  exact ⟨c', h2, by omega⟩
end
/-- the multiplicities of a semigroup and of those behind it -/
inductive Mul : List Nat → List Nat → Prop where
  | one {r : List Nat} : Mul (1 :: r) [1]
  | step {m : Nat} {r row : List Nat} (h : 1 < m) (t : Mul (blow (m :: r)) row) : Mul (m :: r) (m :: row)
theorem Mul.fn {gs a : List Nat} (h : Mul gs a) : ∀ {b}, Mul gs b → a = b := by
  induction h with
  | one =>
    intro b k
    cases k with
    | one => rfl
    | step h t => omega
  | @step m r row h t ih =>
    intro b k
    cases k with
    | one => omega
    | step h' t' => rw [ih t']
/-- a row's form: numbers from 2 on, and 1 behind them -/
def rowV : List Nat → Bool
  | [] => false
  | [x] => x == 1
  | x :: y :: l => decide (2 ≤ x) && rowV (y :: l)
theorem rowV_pos : ∀ {l : List Nat}, rowV l = true → ∀ x ∈ l, 0 < x
  | [], h => by cases h
  | [x], h => fun y hy => by
    rw [List.mem_singleton.mp hy]
    have : x = 1 := by simpa [rowV] using h
    omega
  | x :: y :: l, h => fun z hz => by
    simp only [rowV, Bool.and_eq_true, decide_eq_true_eq] at h
    rcases List.mem_cons.mp hz with e | hz
    · omega
    · exact rowV_pos h.2 z hz
theorem rowV_cons {m : Nat} {l : List Nat} (hm : 1 < m) (h : rowV l = true) : rowV (m :: l) = true := by
  cases l with
  | nil => cases h
  | cons x l => simp only [rowV, Bool.and_eq_true, decide_eq_true_eq]; exact ⟨hm, h⟩
structure MulR (gs : List Nat) (c : Nat) (row : List Nat) : Prop where
  mul : Mul gs row
  ok : rowOk row = true
  v : rowV row = true
  up : ∀ n, Sm gs n → ar row n = true
  least : ∀ T : Nat → Prop, T 0 → Arf T → (∀ n, Sm gs n → T n) → ∀ n, ar row n = true → T n
  sum : row.sum ≤ c + 1
  hd : row.head? = gs.head?
theorem mul_ex : ∀ (c : Nat) {B : Nat} {gs : List Nat}, Gen B gs → Con gs c → ∃ row, MulR gs c row := by
  intro c
  induction c using Nat.strongRecOn with
  | ind c ih =>
    intro B gs G hc
    obtain ⟨m, r, e, hm, hmB, hmem, hle⟩ := G.head
    subst e
    by_cases h1 : 1 < m
    · obtain ⟨c', hc', hcc⟩ := nxt_con G h1 hc
      obtain ⟨row, R⟩ := ih c' (by omega) (blow_gen G) hc'
      have up : ∀ n, Sm (m :: r) n → ar (m :: row) n = true := fun n hs => by
        rw [ar_cons]
        by_cases hn : n = 0
        · exact .inl hn
        · exact .inr ⟨G.le_sm hs (by omega), R.up _ (lst_Sm.mpr (nxt_shift G hs (by omega)))⟩
      refine ⟨m :: row, .step h1 R.mul, ?_, rowV_cons h1 R.v, up, fun T h0 ha hS n hn => ?_, ?_, rfl⟩
      · simp only [rowOk, Bool.and_eq_true]
        exact ⟨R.up m (lst_Sm.mpr (Sm.one List.mem_cons_self)), R.ok⟩
      · have hTm : T m := hS m (Sm.one List.mem_cons_self)
        rcases ar_cons.mp hn with e | ⟨e1, e2⟩
        · subst e; exact h0
        · have h3 := R.least (fun k => T (m + k)) (by exact hTm) (fun x y z hx hy hz h1 h2 => by
            have := ha (m + x) (m + y) (m + z) hx hy hz (by omega) (by omega)
            show T (m + (x + y - z))
            rwa [show m + x + (m + y) - (m + z) = m + (x + y - z) by omega] at this) (fun k hk => by
            have ha' : Arf (fun k => T (m + k)) := fun x y z hx hy hz h1 h2 => by
              have := ha (m + x) (m + y) (m + z) hx hy hz (by omega) (by omega)
              show T (m + (x + y - z))
              rwa [show m + x + (m + y) - (m + z) = m + (x + y - z) by omega] at this
            refine ha'.sm (by exact hTm) (gs := nxtN (m :: r)) (fun g hg => ?_) (lst_Sm.mp hk)
            rcases List.mem_cons.mp hg with e | hg
            · subst e
              exact ha.add h0 hTm hTm
            · obtain ⟨x, hx, rfl⟩ := List.mem_map.mp hg
              have h4 := G.hd_le (List.mem_cons_of_mem m hx)
              show T (m + (x - m))
              rw [show m + (x - m) = x by omega]
              exact hS x (Sm.one (List.mem_cons_of_mem m hx))) (n - m) e2
          try simp only at h3
          rwa [show m + (n - m) = n by omega] at h3
      · rw [List.sum_cons]
        have := R.sum
        omega
    · have : m = 1 := by omega
      subst this
      have all : ∀ n, Sm (1 :: r) n := fun n => by
        have := Sm.mul (gs := 1 :: r) (x := 1) List.mem_cons_self n
        rwa [Nat.mul_one] at this
      exact ⟨[1], .one, by simp [rowOk, ar], rfl, fun n _ => by simp [ar]; omega, fun T _ _ hS n _ => hS n (all n), by simp, rfl⟩
/-- a semigroup of a row has the row as multiplicities -/
theorem mul_row : ∀ (row : List Nat) {B : Nat} {gs : List Nat}, Gen B gs → rowV row = true → rowOk row = true → (∀ n, Sm gs n ↔ ar row n = true) → Mul gs row
  | [], _, _, _, h, _, _ => by cases h
  | [x], B, gs, G, hv, _, h => by
    have hx : x = 1 := by simpa [rowV] using hv
    subst hx
    obtain ⟨m, r, e, hm, _, _, _⟩ := G.head
    subst e
    have := G.le_sm ((h 1).mpr (by simp [ar])) (by omega)
    have : m = 1 := by omega
    subst this
    exact .one
  | x :: y :: l, B, gs, G, hv, ho, h => by
    simp only [rowV, Bool.and_eq_true, decide_eq_true_eq] at hv
    simp only [rowOk, Bool.and_eq_true] at ho
    have ho' : rowOk (y :: l) = true := by simp only [rowOk, Bool.and_eq_true]; exact ho.2
    obtain ⟨m, r, e, hm, _, _, _⟩ := G.head
    subst e
    have e1 : m = x := by
      have h1 := G.le_sm ((h x).mpr (ar_cons.mpr (.inr ⟨Nat.le_refl _, by rw [Nat.sub_self]; exact ar_zero _⟩))) (by omega)
      rcases ar_cons.mp ((h m).mp (Sm.one List.mem_cons_self)) with h2 | h2
      · omega
      · omega
    subst e1
    have ha := ar_arf (y :: l) ho'
    refine .step (by omega) (mul_row (y :: l) (blow_gen G) hv.2 ho' fun n => ⟨fun hs => ?_, fun hn => ?_⟩)
    · refine ha.sm (ar_zero _) (fun g hg => ?_) (lst_Sm.mp hs)
      rcases List.mem_cons.mp hg with e | hg
      · subst e; exact ho.1
      · obtain ⟨k, hk, rfl⟩ := List.mem_map.mp hg
        have hkm := List.mem_cons_of_mem m hk
        rcases ar_cons.mp ((h k).mp (Sm.one hkm)) with e | e
        · have := G.pos k hkm
          omega
        · exact e.2
    · have := nxt_shift G ((h (n + m)).mpr (ar_cons.mpr (.inr ⟨by omega, by rw [Nat.add_sub_cancel]; exact hn⟩))) (by omega)
      rw [Nat.add_sub_cancel] at this
      exact lst_Sm.mpr this
end Eng
set_option Elab.async false
set_option linter.all false
set_option maxRecDepth 100000
set_option maxHeartbeats 2000000
/-! ComAO: least_generators, multiplicities, rows. -/
namespace Eng
open PySem PySem.Spec PyProof.Rows L2 Com
theorem run_least_of {g : D} {ns : List Nat} (hs : seqOf g = some (dN ns)) (hp : ∀ x ∈ ns, 0 < x) (hl : ns.length < 1000000) (hm : ∀ x ∈ ns, x + 1 ≤ sizeLine) : Rn m_least_of [.val g] (.tup (dN (ns.foldl lstStep []))) false := by
  have hz := sizeL
  unfold Rn m_least_of
  refine wR_fn (by simp [ownOk]) ?_
  unfold b_least_of
  simp [hs]
  refine wL_inv (fun k ρ => ∃ s2, ρ = [.val g, .own (.lst (dN ((ns.take k).foldl lstStep []))), s2]) ⟨_, rfl⟩ (fun k d ρ hd ⟨s2, hρ⟩ => ?_) fun ρ ⟨s2, hρ⟩ => ?_
  · subst hρ
    rw [List.getElem?_map] at hd
    obtain ⟨x, hx, rfl⟩ := Option.map_eq_some_iff.mp hd
    have hxm : x ∈ ns := List.mem_of_getElem? hx
    generalize hout : (ns.take k).foldl lstStep [] = out
    have hsub : ∀ y ∈ out, y ∈ ns := fun y hy => by
      rw [← hout] at hy
      rcases lst_sub _ _ hy with h | h
      · cases h
      · exact List.mem_of_mem_take h
    have hlen : out.length < 1000000 := by
      rw [← hout]
      refine Nat.lt_of_le_of_lt (lst_len _ _) ?_
      rw [List.length_take]
      simp only [List.length_nil]
      omega
    have hstep : (ns.take (k + 1)).foldl lstStep [] = lstStep out x := by
      rw [List.take_add_one, hx, List.foldl_append, hout]; rfl
    have ht := run_sums (g := .lst (dN out)) (gs := out) rfl (fun y hy => hp y (hsub y hy)) x (by have := hm x hxm; omega)
    have hix : atI (dBl (tabB out x)) (x : Int) = some (.bl (sb out x)) := atI_bl (by
      unfold tabB
      rw [List.getElem?_map, List.getElem?_range (by omega)]; rfl)
    have hcl := clean1_bl (tabB out x)
    have hap : dN out ++ [D.int (x : Int)] = dN (out ++ [x]) := by simp [dN]
    have hemp : (dN out).isEmpty = out.isEmpty := by simp [dN]
    rw [hstep]
    simp only [tgS, wF_some, List.set_cons_succ, List.set_cons_zero, wS_if, wT_or, wT_not, wT_tr, wO_def, wPre_nm, wPre_nil, List.getElem?_cons_succ, List.getElem?_cons_zero, rd_own, Option.isSome_some, true_and, wF_finr, fin_nil]
    refine ⟨_, rfl, ?_⟩
    simp only [truth, wF_some, hemp]
    have push : wS (sDo (mApp 1 (mVar 2))) [.val g, .own (.lst (dN out)), .val (.int x)] (turn (fun ρ => ∃ s2, ρ = [.val g, .own (.lst (dN (out ++ [x]))), s2]) (nxt (sRet (mCal bTuple [.nm 1])) fun f ρ' =>
          still [.val g] ρ' = true ∧ fend (fun d o x => d = D.tup (dN (ns.foldl lstStep [])) ∧ o = false) f ρ')) := by
      simp
      omega
    by_cases hne : out = []
    · have h0 : out.isEmpty = true := by rw [hne]; rfl
      simp only [h0, Bool.not_true, Bool.not_false, if_true]
      rw [show lstStep out x = out ++ [x] from if_pos (.inl hne)]
      exact push
    · have h0 : out.isEmpty = false := by simpa using hne
      simp only [h0, Bool.not_false, Bool.not_true, Bool.false_eq_true, if_false]
      simp only [wPre_ex, wM_bin, wO_def, wM_call, List.map_cons, List.map_nil, opd_ln, wPre_nm, wPre_nil, List.getElem?_cons_succ, List.getElem?_cons_zero, rd_own, rd_val, Option.isSome_some, true_and, wF_finr, fin_nil, wF_some, slots_ln, slots_nil, Option.map_some]
      rw [ht.call rfl rfl, if_pos rfl, hcl]
      simp only [frzE, if_true, List.getElem?_cons_succ, List.getElem?_cons_zero, rd_val, Option.isSome_some, true_and, wF_finl, wF_finr, fin_nil, wF_some, w2_two, opIx, hix, Option.map_some]
      refine ⟨_, rfl, ?_⟩
      simp only [truth, wF_some]
      cases hb : sb out x with
      | true =>
        simp only [Bool.not_true, Bool.false_eq_true, if_false, wS_nop, turn_nx]
        refine ⟨.val (.int x), ?_⟩
        rw [show lstStep out x = out by unfold lstStep; rw [if_neg (by simp [hb, hne])]]
      | false =>
        simp only [Bool.not_false, if_true]
        rw [show lstStep out x = out ++ [x] by unfold lstStep; rw [if_pos (.inr hb)]]
        exact push
  · subst hρ
    simp [bTuple, still]
theorem run_least_generators {g : D} {ns : List Nat} (hs : seqOf g = some (dN ns)) (hp : ∀ x ∈ ns, 0 < x) (hl : ns.length < 1000000) (hm : ∀ x ∈ ns, x + 1 ≤ sizeLine) : Rn m_least_generators [.val g] (.tup (dN (ns.foldl lstStep []))) false := by
  have h := run_least_of hs hp hl hm
  unfold Rn m_least_generators
  refine wR_fn (by simp [ownOk]) ?_
  unfold b_least_generators
  simp only [List.cons_append, List.nil_append, List.replicate, wS_ret]
  rw [call1 h rfl (clean_N _)]
  simp [still]
theorem wM_eq {m : ME} {ρ : Env} {y : D} {p : Bool} (h : wM m ρ fun e o ρ' => e = y ∧ o = p ∧ ρ' = ρ) (Q : D → Bool → Env → Prop) : wM m ρ Q = Q y p ρ := by
  unfold wM at *
  obtain ⟨q, h1, h2, h3, h4⟩ := wF_ex.mp h
  rw [h1]
  rw [wF_some, h2, h3, h4]
theorem cut_drop (xs : List D) (k : Nat) : cutD xs (some (k : Int)) none = xs.drop k := by
  unfold cutD
  rw [show HT.sIx xs.length 0 (some (k : Int)) = min k xs.length from HT.sIx_nat xs.length 0 k, HT.sIx_none]
  rw [List.take_of_length_le (by rw [List.length_drop]; omega)]
  by_cases h : k ≤ xs.length
  · rw [Nat.min_eq_left h]
  · rw [Nat.min_eq_right (by omega), List.drop_eq_nil_of_le (Nat.le_refl _), List.drop_eq_nil_of_le (by omega)]
theorem sl1_t (x : D) (xs : List D) : opSl (some 1) none (.tup (x :: xs)) = some (.tup xs, false) := by
  show some (D.tup (cutD (x :: xs) (some ((1 : Nat) : Int)) none), false) = _
  rw [cut_drop]; rfl
theorem sl1_l (x : D) (xs : List D) : opSl (some 1) none (.lst (x :: xs)) = some (.lst xs, true) := by
  show some (D.lst (cutD (x :: xs) (some ((1 : Nat) : Int)) none), true) = _
  rw [cut_drop]; rfl
theorem add_tt {a b : List D} (h : a.length + b.length ≤ sizeLine) : opAdd (.tup a) (.tup b) = some (.tup (a ++ b), false) := if_pos h
theorem add_ll {a b : List D} (h : a.length + b.length ≤ sizeLine) : opAdd (.lst a) (.lst b) = some (.lst (a ++ b), true) := if_pos h
theorem sset_N {l : List Nat} (h : l.length < 64) : bSortSet [.lst (dN l)] = some (.lst (dN (sortN l)), true) := by
  have e : (sortU (l.map fun n : Nat => (n : Int))).map D.int = dN (sortN l) := by
    rw [← sortN_cast, List.map_map]; rfl
  simp [bSortSet, dIs_dN, h, e, seqOf]
section
variable {B : Nat} {gs : List Nat} {c : Nat}
theorem run_next_one (G : Gen B gs) (hB : B ≤ 2000) : Rn m_next_one [.val (.tup (dN gs))] (.tup (dN (blow gs))) false := by
  have hz := sizeL
  obtain ⟨m, r, e, hm, hmB, hmem, hle⟩ := G.head
  subst e
  have hl := G.len
  have hN : nxtN (m :: r) = m :: r.map fun g => g - m := rfl
  have hlen : (nxtN (m :: r)).length = (m :: r).length := by simp [nxtN]
  have hpos := nxtN_pos G
  have hleB : ∀ x ∈ nxtN (m :: r), x ≤ B := fun x hx => by
    rcases List.mem_cons.mp hx with e | hx
    · omega
    · obtain ⟨g, hg, rfl⟩ := List.mem_map.mp hx
      have := G.le g (List.mem_cons_of_mem _ hg)
      omega
  have hsl := sortN_len (nxtN (m :: r))
  have hlg := run_least_generators (g := .tup (dN (sortN (nxtN (m :: r))))) (ns := sortN (nxtN (m :: r))) rfl (fun x hx => hpos x (sortN_mem.mp hx)) (by omega) (fun x hx => by have := hleB x (sortN_mem.mp hx); omega)
  have a0 : opIx (.tup (dN (m :: r))) (.int 0) = some (.int (m : Int), false) := ix_t (at_of 0 rfl (N_at rfl))
  unfold Rn m_next_one
  refine wR_fn (by simp [ownOk]) ?_
  unfold b_next_one
  simp only [List.cons_append, List.nil_append, List.replicate, wS_seq, wS_set, wM_bin, wM_C, wO_def, wPre_ex, wPre_nm, wPre_nil, List.getElem?_cons_succ, List.getElem?_cons_zero, rd_val, Option.isSome_some, true_and, wF_finl, wF_finr, fin_nil, wF_some, w2_two, a0, slotOf_f, nxt_nx, List.set_cons_succ, List.set_cons_zero, wS_ret]
  rw [call1e (p := false) hlg (wM_eq ?_) (clean_N _)]
  · simp [still]; rfl
  · have hsl' : opSl (some 1) none (.tup (dN (m :: r))) = some (.tup (dN r), false) := sl1_t _ _
    have hsl2 : wM (mSlL (.nm 0) (.ex (mC (.int 1)))) [.val (.tup (dN (m :: r))), .val (.int m), .un] = fun Q => Q (.tup (dN r)) false [.val (.tup (dN (m :: r))), .val (.int m), .un] := by
      funext Q
      show wM (mBin (fun x l => (dI l).bind fun i => opSl (some i) none x) (.nm 0) (.ex (mC (.int 1)))) _ _ = _
      simp only [wM_bin, wM_C, wO_def, wPre_ex, wPre_nm, wPre_nil, List.getElem?_cons_succ, List.getElem?_cons_zero, rd_val, Option.isSome_some, true_and, wF_finl, wF_finr, fin_nil, wF_some, w2_two, dI, Option.bind_some, hsl']
    simp only [wM_cal, wM_bin, wM_lst, wM_comp, wI_ex, hsl2, wO_def, wPre_ex, wPre_nm, wPre_nil, wV_nil, wV_cons, wM_var, List.getElem?_cons_succ, List.getElem?_cons_zero, rd_val, Option.isSome_some, true_and, wF_finl, wF_finr, fin_nil, wF_some, seqOf]
    refine ⟨⟨by rw [List.length_map]; simp only [List.length_cons] at hl; omega, rfl⟩, ?_⟩
    refine wK_mp r _ (fun g : Nat => .int ((g - m : Nat) : Int)) rfl (fun g hg => ?_) ?_
    · have h1 := G.hd_le (List.mem_cons_of_mem m hg)
      simp [tgS, wipeE]
      omega
    · have hap : opAdd (.lst [.int (m : Int)]) (.lst (r.map fun g : Nat => D.int ((g - m : Nat) : Int))) = some (.lst (dN (nxtN (m :: r))), true) := by
        show (if _ then some (D.lst _, true) else none) = _
        rw [if_pos (by simp only [List.length_map, List.length_cons, List.length_nil] at *; omega)]
        simp [nxtN, Function.comp_def]
      have hss := sset_N (l := nxtN (m :: r)) (by omega)
      have hbt : bTuple [.lst (dN (sortN (nxtN (m :: r))))] = some (.tup (dN (sortN (nxtN (m :: r)))), false) := rfl
      simp only [w2_two, hap, wF_some, hss, hbt]
      simp [restE, wipeE]
theorem run_multiplicities (G : Gen B gs) (hB : B ≤ 2000) {row : List Nat} (hr : Mul gs row) (hl : row.length ≤ 900000) : Rn m_multiplicities [.val (.tup (dN gs))] (.tup (dN row)) false := by
  have hz := sizeL
  unfold Rn m_multiplicities
  refine wR_fn (by simp [ownOk]) ?_
  unfold b_multiplicities
  simp only [List.cons_append, List.nil_append, List.replicate, wS_seq, wS_set, wM_lst, wV_nil, slotOf_t, nxt_nx, List.set_cons_succ, List.set_cons_zero]
  refine wW_inv (m0 := row.length) (fun k ρ => ∃ gs' told rest, ρ = [.val (.tup (dN gs')), .own (.lst (dN told))] ∧ Gen B gs' ∧ Mul gs' rest ∧ told ++ rest = row ∧ rest.length = k) ⟨gs, [], row, rfl, G, hr, rfl, rfl⟩ (by unfold fuel; omega) ?_
  rintro k _ ⟨gs', told, rest, rfl, G', hM, hrow, hk⟩
  have hlen := congrArg List.length hrow
  rw [List.length_append] at hlen
  cases hM with
  | @one r =>
    have a0 : opIx (.tup (dN (1 :: r))) (.int 0) = some (.int ((1 : Nat) : Int), false) := ix_t (at_of 0 rfl (N_at rfl))
    have hbt : bTuple [.lst (dN told)] = some (.tup (dN told), false) := rfl
    have had : opAdd (.tup (dN told)) (.tup [.int 1]) = some (.tup (dN row), false) := by
      show (if _ then some (D.tup _, false) else none) = _
      rw [if_pos (by simp only [List.length_map, List.length_cons, List.length_nil] at *; omega), ← hrow]
      simp [dN]
    simp only [wT_B, wM_bin, wM_C, wO_def, wPre_ex, wPre_nm, wPre_nil, List.getElem?_cons_succ, List.getElem?_cons_zero, rd_val, Option.isSome_some, true_and, wF_finl, wF_finr, fin_nil, wF_some, w2_two, a0, cmp_int, wB_bl]
    simp [hbt, had, still]
  | @step m r row' h t =>
    have a0 : opIx (.tup (dN (m :: r))) (.int 0) = some (.int (m : Int), false) := ix_t (at_of 0 rfl (N_at rfl))
    have h1 : decide ((m : Int) > 1) = true := by simp; omega
    simp only [wT_B, wM_bin, wM_C, wO_def, wPre_ex, wPre_nm, wPre_nil, List.getElem?_cons_succ, List.getElem?_cons_zero, rd_val, Option.isSome_some, true_and, wF_finl, wF_finr, fin_nil, wF_some, w2_two, a0, cmp_int, wB_bl, h1, if_true]
    have hap : dN told ++ [D.int (m : Int)] = dN (told ++ [m]) := by simp [dN]
    simp only [List.length_cons] at hlen hk
    have hsz : told.length + 1 ≤ 16777216 := by omega
    simp [a0, -List.map_cons, -wM_call]
    refine ⟨by omega, ?_⟩
    rw [call1 (run_next_one G' hB) rfl (clean_N _)]
    simp only [slotOf_f, List.set_cons_zero, hap]
    exact ⟨row'.length, by omega, _, _, rfl, blow_gen G', row', t, by rw [List.append_assoc]; exact hrow, rfl⟩
theorem run_sums_of_row (t : Bool) (row : List Nat) (hl : row.length ≤ 900000) : Rn m_sums_of_row [.val (if t then .tup (dN row) else .lst (dN row))] (.lst (dN (0 :: psum 0 row))) true := by
  have hz := sizeL
  unfold Rn m_sums_of_row
  refine wR_fn (by cases t <;> simp [ownOk]) ?_
  unfold b_sums_of_row
  have hs : seqOf (if t then D.tup (dN row) else .lst (dN row)) = some (dN row) := by cases t <;> rfl
  generalize (if t then D.tup (dN row) else .lst (dN row)) = g at *
  simp only [List.cons_append, List.nil_append, List.replicate, wS_seq, wS_set, wM_lst, wV_nil, wV_cons, wM_C, slotOf_t, nxt_nx, List.set_cons_succ, List.set_cons_zero, wS_for, wI_nm, List.getElem?_cons_succ, List.getElem?_cons_zero, rd_val, wF_some, hs]
  have ps : ∀ (l : List Nat) (u : Nat) (x : Nat), psum u (l ++ [x]) = psum u l ++ [u + l.sum + x] := by
    intro l
    induction l with
    | nil => intro u x; simp [psum]
    | cons y l ih => intro u x; simp only [List.cons_append, psum, ih, List.sum_cons]; rw [show u + y + l.sum + x = u + (y + l.sum) + x by omega]
  have pl : ∀ l : List Nat, ∃ r, (0 :: psum 0 l) = r ++ [l.sum] := fun l => by
    rcases List.eq_nil_or_concat l with e | ⟨k, z, e⟩
    · subst e; exact ⟨[], rfl⟩
    · rw [List.concat_eq_append] at e
      subst e
      refine ⟨0 :: psum 0 k, ?_⟩
      rw [ps]; simp
  refine wL_inv (fun k ρ => ∃ s2, ρ = [.val g, .own (.lst (dN (0 :: psum 0 (row.take k)))), s2]) ⟨_, rfl⟩ (fun k d ρ hd ⟨s2, hρ⟩ => ?_) fun ρ ⟨s2, hρ⟩ => ?_
  · subst hρ
    rw [List.getElem?_map] at hd
    obtain ⟨x, hx, rfl⟩ := Option.map_eq_some_iff.mp hd
    have tk : row.take (k + 1) = row.take k ++ [x] := by rw [List.take_add_one, hx]; rfl
    have htl : (row.take k).length ≤ 900000 := by rw [List.length_take]; omega
    obtain ⟨r, hr⟩ := pl (row.take k)
    have hrl : r.length = (row.take k).length := by
      have := congrArg List.length hr
      simp only [List.length_cons, List.length_append, List.length_nil, psum_len] at this
      omega
    have am : opIx (.lst (dN (0 :: psum 0 (row.take k)))) (.int (-1)) = some (.int ((row.take k).sum : Int), false) := by
      rw [hr]
      refine ix_l ?_
      have e : dN (r ++ [(row.take k).sum]) = dN r ++ [.int ((row.take k).sum : Int)] := by simp [dN]
      rw [e]
      exact atI_last _ _
    have hap : dN (0 :: psum 0 (row.take k)) ++ [D.int (((row.take k).sum : Int) + (x : Int))] = dN (0 :: psum 0 (row.take (k + 1))) := by
      rw [tk, ps]; simp [dN]
    have hsz : (dN (0 :: psum 0 (row.take k))).length < 16777216 := by
      rw [List.length_map, List.length_cons, psum_len]; omega
    generalize dN (0 :: psum 0 (row.take (k + 1))) = P' at *
    generalize dN (0 :: psum 0 (row.take k)) = P at *
    subst hap
    simp [am, hz, tgS]
    exact hsz
  · subst hρ
    rw [List.length_map, List.take_length]
    simp [still]
theorem lst_genR {row : List Nat} {m : Nat} (hp : ∀ x ∈ row, 0 < x) : (genR row m).foldl lstStep [] = lstM (genR row m) := by
  unfold lstM
  rw [sortN_id (genR_ord hp)]
theorem run_semigroup_of {m : Nat} {l : List Nat} (hp : ∀ x ∈ m :: l, 0 < x) (hs : (m :: l).sum ≤ 500000) (hl : (m :: l).length ≤ 500000) (hm : m ≤ 100000) : Rn m_semigroup_of [.val (.tup (dN (m :: l)))] (.tup (dN (lstM (genR (m :: l) m)))) false := by
  have hz := sizeL
  have hgl : (genR (m :: l) m).length < 1000000 := by
    unfold genR
    rw [List.length_append, List.length_map, List.length_range, psum_len]
    omega
  have hgm : ∀ x ∈ genR (m :: l) m, x + 1 ≤ sizeLine := fun x hx => by
    rcases List.mem_append.mp hx with h | h
    · have := (psum_ord (m :: l) 0 hp).2 x h
      omega
    · obtain ⟨k, hk, rfl⟩ := List.mem_map.mp h
      have := List.mem_range.mp hk
      omega
  have hlg := run_least_generators (g := .tup (dN (genR (m :: l) m))) (ns := genR (m :: l) m) rfl (genR_pos hp) hgl hgm
  rw [lst_genR hp] at hlg
  have h1 := run_sums_of_row true (m :: l) (by omega)
  have a0 : opIx (.tup (dN (m :: l))) (.int 0) = some (.int (m : Int), false) := ix_t (at_of 0 rfl (N_at rfl))
  have hlast : ∀ (l : List Nat) (t m : Nat), ∃ r, psum t (m :: l) = r ++ [t + m + l.sum] := by
    intro l
    induction l with
    | nil => intro t m; exact ⟨[], by simp [psum]⟩
    | cons y l ih =>
      intro t m
      obtain ⟨r, hr⟩ := ih (t + m) y
      refine ⟨(t + m) :: r, ?_⟩
      rw [psum, hr, List.sum_cons, List.cons_append]
      congr 3
      omega
  obtain ⟨r, hr⟩ := hlast l 0 m
  have hsum : 0 + m + l.sum = (m :: l).sum := by rw [List.sum_cons]; omega
  rw [hsum] at hr
  have am : opIx (.lst (dN (psum 0 (m :: l)))) (.int (-1)) = some (.int ((m :: l).sum : Int), false) := by
    rw [hr]
    refine ix_l ?_
    have e : dN (r ++ [(m :: l).sum]) = dN r ++ [.int ((m :: l).sum : Int)] := by simp [dN]
    rw [e]
    exact atI_last _ _
  have hsl : opSl (some 1) none (.lst (dN (0 :: psum 0 (m :: l)))) = some (.lst (dN (psum 0 (m :: l))), true) := sl1_l _ _
  have hrg : opTRg (.int (((m :: l).sum : Int) + 1)) (.int (((m :: l).sum : Int) + (m : Int) + 1)) = some (.tup (rngD (((m :: l).sum : Int) + 1) m), false) := by
    have hok : RgOk (((m :: l).sum : Int) + 1) (((m :: l).sum : Int) + (m : Int) + 1) := ⟨by omega, by omega, by omega, by omega, by omega⟩
    simp only [opTRg]
    rw [if_pos hok]
    rw [show ((((m :: l).sum : Int) + (m : Int) + 1) - (((m :: l).sum : Int) + 1)).toNat = m by omega]
  have hbt : bTuple [.lst (dN (psum 0 (m :: l)))] = some (.tup (dN (psum 0 (m :: l))), false) := rfl
  have had : opAdd (.tup (dN (psum 0 (m :: l)))) (.tup (rngD (((m :: l).sum : Int) + 1) m)) = some (.tup (dN (genR (m :: l) m)), false) := by
    have hle : (dN (psum 0 (m :: l))).length + (rngD (((m :: l).sum : Int) + 1) m).length ≤ sizeLine := by rw [List.length_map, psum_len, rng_len]; omega
    have hL : rngD (((m :: l).sum : Int) + 1) m = dN ((List.range m).map fun k => (m :: l).sum + 1 + k) := by
      unfold rngD
      rw [dN, List.map_map]
      apply List.map_congr_left
      intro k _
      show D.int (((m :: l).sum : Int) + 1 + (k : Int)) = D.int (((m :: l).sum + 1 + k : Nat) : Int)
      exact congrArg D.int (by omega)
    rw [add_tt hle, hL, ← List.map_append]
    rfl
  unfold Rn m_semigroup_of
  refine wR_fn (by simp [ownOk]) ?_
  unfold b_semigroup_of
  have hex : ∀ Q : D → Bool → Env → Prop, wM (mSlL (.ex (mCall m_sums_of_row [.ln 0])) (.ex (mC (.int 1)))) [.val (.tup (dN (m :: l))), .un, .un] Q = Q (.lst (dN (psum 0 (m :: l)))) true [.val (.tup (dN (m :: l))), .un, .un] := fun Q => by
    show wM (mBin (fun x l => (dI l).bind fun i => opSl (some i) none x) (.ex (mCall m_sums_of_row [.ln 0])) (.ex (mC (.int 1)))) _ _ = _
    rw [wM_bin, wO_def, wPre_ex, call1 h1 rfl (clean1_N _)]
    simp only [wM_bin, wM_C, wO_def, wPre_ex, wPre_nm, wPre_nil, List.getElem?_cons_succ, List.getElem?_cons_zero, rd_val, Option.isSome_some, true_and, wF_finl, wF_finr, fin_nil, wF_some, w2_two, dI, Option.bind_some, hsl]
  simp only [List.cons_append, List.nil_append, List.replicate, wS_seq, wS_set, hex, slotOf_t, nxt_nx, List.set_cons_succ, List.set_cons_zero, wM_bin, wM_un, wM_C, wO_def, wPre_ex, wPre_nm, wPre_nil, List.getElem?_cons_succ, List.getElem?_cons_zero, rd_val, rd_own, Option.isSome_some, true_and, wF_finl, wF_finr, fin_nil, wF_some, w2_two, w1_one, neg_int, am, slotOf_f, wS_ret]
  rw [call1e (p := false) hlg (fun Q => ?_) (clean_N _)]
  · simp [still]
  · simp only [wM_cal, wM_bin, wM_un, wM_C, wO_def, wPre_ex, wPre_nm, wPre_nil, List.getElem?_cons_succ, List.getElem?_cons_zero, rd_val, rd_own, Option.isSome_some, true_and, wF_finl, wF_finr, fin_nil, wF_some, w2_two, w1_one, add_int, a0, hbt, hrg, had]
theorem run_arf_closure (G : Gen B gs) (hB : B ≤ 2000) {m : Nat} {l : List Nat} (hr : Mul gs (m :: l)) (hp : ∀ x ∈ m :: l, 0 < x) (hs : (m :: l).sum ≤ 500000) (hl : (m :: l).length ≤ 500000) (hm : m ≤ 100000) : Rn m_arf_closure [.val (.tup (dN gs))] (.tup (dN (lstM (genR (m :: l) m)))) false := by
  have h1 := run_multiplicities G hB hr (by omega)
  have h2 := run_semigroup_of hp hs hl hm
  unfold Rn m_arf_closure
  refine wR_fn (by simp [ownOk]) ?_
  unfold b_arf_closure
  simp only [List.cons_append, List.nil_append, List.replicate, wS_ret]
  rw [call1e (p := false) h2 (fun Q => call1 h1 rfl (clean_N _)) (clean_N _)]
  simp [still]
end
end Eng
set_option Elab.async false
set_option linter.all false
set_option maxRecDepth 100000
set_option maxHeartbeats 2000000
/-! ComAP: is_arf, _law_arf. -/
namespace Eng
open PySem PySem.Spec PyProof.Rows L2 Com
theorem rn_of {fm : FM} {ss : Env} {Q : D → Bool → Prop} (h : wR fm ss Q) : ∃ d o, Rn fm ss d o ∧ Q d o := by
  unfold wR at h
  obtain ⟨q, h1, h2, h3⟩ := wF_ex.mp h
  refine ⟨q.1.1, q.1.2, ?_, h3⟩
  unfold Rn wR
  exact wF_ex.mpr ⟨q, h1, h2, rfl, rfl⟩
section
variable {α : Type} {g : Tg} {b : MS} {ρ : Env}
/-- a loop whose turns end the def or show something of each -/
theorem wL_each {Q : Fl → Env → Prop} {items : List D} (l : List α) (emb : α → D) (S : Env → Prop) (P : α → Prop) (hi : items = l.map emb) (h0 : S ρ)
    (step : ∀ x ρ, x ∈ l → S ρ → wF (tgS g (emb x) ρ) fun ρ1 => wS b ρ1 (turn (fun ρ2 => S ρ2 ∧ P x) Q)) (hn : ∀ ρ, S ρ → (∀ x ∈ l, P x) → Q .nx ρ) : wL g b items ρ Q := by
  have key : ∀ (l acc : List α) (x : α), x ∈ l.foldl (fun acc x => x :: acc) acc ↔ x ∈ acc ∨ x ∈ l := by
    intro l
    induction l with
    | nil => intro acc x; simp
    | cons y l ih => intro acc x; rw [List.foldl_cons, ih, List.mem_cons, List.mem_cons]; exact ⟨fun h => by rcases h with (h | h) | h <;> simp [h], fun h => by rcases h with h | h | h <;> simp [h]⟩
  refine wL_fold l emb (fun (acc : List α) ρ => S ρ ∧ ∀ x ∈ acc, P x) (fun acc x => x :: acc) [] hi ⟨h0, fun x h => by cases h⟩ (fun acc x ρ hx hS => ?_) fun ρ hS => hn ρ hS.1 fun x hx => hS.2 x ((key _ _ _).mpr (.inr hx))
  refine wF_mono (step x ρ hx hS.1) fun ρ1 h1 => wS_mono h1 fun f ρ2 h2 => ?_
  have fin : S ρ2 ∧ P x → S ρ2 ∧ ∀ y ∈ x :: acc, P y := fun h => ⟨h.1, fun y hy => by
    rcases List.mem_cons.mp hy with e | hy
    · subst e; exact h.2
    · exact hS.2 y hy⟩
  cases f with
  | nx => exact fin h2
  | cont => exact fin h2
  | brk => exact h2
  | ret d o => exact h2
end
section
variable {B : Nat} {gs : List Nat} {c : Nat}
theorem held_mem {M x : Nat} : x ∈ heldN gs M ↔ x ≤ M ∧ Sm gs x := by
  unfold heldN
  rw [List.mem_filter, List.mem_range, sb_iff]
  exact and_congr_left fun _ => by omega
theorem held_ord (M : Nat) : (heldN gs M).Pairwise (· < ·) := List.pairwise_lt_range.filter _
theorem arf_of (hc : Con gs c) (h : ∀ z x y, Sm gs z → Sm gs x → Sm gs y → z ≤ x → x ≤ y → x + y - z < c → Sm gs (x + y - z)) : Arf (Sm gs) := fun x y z hx hy hz h1 h2 => by
  by_cases hlt : x + y - z < c
  · rcases Nat.le_total x y with h3 | h3
    · exact h z x y hz hx hy h1 h3 hlt
    · have := h z y x hz hy hx h2 h3 (by omega)
      rwa [Nat.add_comm y x] at this
  · exact hc.all _ (by omega)
theorem run_is_arf (G : Gen B gs) (hB : B ≤ 2000) (hc : Con gs c) : ∃ b, Rn m_is_arf [.val (.tup (dN gs))] (.bl b) false ∧ (b = true ↔ Arf (Sm gs)) := by
  have hz := sizeL
  have hcs := con_small G hB hc
  have ha := run_all_up_to (g := .tup (dN gs)) rfl G.pos c (by omega)
  have hh := held_le gs c
  suffices h : wR m_is_arf [.val (.tup (dN gs))] fun d o => o = false ∧ ∃ b, d = .bl b ∧ (b = true ↔ Arf (Sm gs)) by
    obtain ⟨d, o, h1, rfl, b, rfl, h2⟩ := rn_of h
    exact ⟨b, h1, h2⟩
  unfold m_is_arf
  refine wR_fn (by simp [ownOk]) ?_
  unfold b_is_arf
  simp only [List.cons_append, List.nil_append, List.replicate, wS_seq, wS_set]
  rw [call1 (run_gap' G hB hc) rfl (by simp [clean])]
  simp only [slotOf_f, nxt_nx, List.set_cons_succ, List.set_cons_zero, wS_seq, wS_set]
  rw [call2e (p := false) ha rfl (fun Q => ?_) (clean1_N _)]
  rotate_left 1
  · simp only [wM_bin, wM_C, wO_def, wPre_ex, wPre_nm, wPre_nil, List.getElem?_cons_succ, List.getElem?_cons_zero, rd_val, Option.isSome_some, true_and, wF_finl, wF_finr, fin_nil, wF_some, w2_two, add_int]
    rw [Int.sub_add_cancel]
  simp only [slotOf_t, nxt_nx, List.set_cons_succ, List.set_cons_zero, wS_seq, wS_set, wM_dc, wI_nm, List.getElem?_cons_succ, List.getElem?_cons_zero, rd_own, wF_some, seqOf]
  refine ⟨⟨by rw [List.length_map]; omega, rfl⟩, ?_⟩
  refine wD_mp (heldN gs c) _ (fun n : Nat => (n : Int)) rfl (cst_nodup (held_nodup gs c)) (fun x hx => ?_) ?_
  · simp [tgS, wipeE]
  simp only [restE, wipeE, List.set_cons_succ, List.set_cons_zero, List.getD_cons_succ, List.getD_cons_zero, slotOf_f, nxt_nx, wS_seq, wS_for, wI_nm, List.getElem?_cons_succ, List.getElem?_cons_zero, rd_own, wF_some, seqOf]
  refine wL_each (heldN gs c) (fun z : Nat => D.int (z : Int)) (fun ρ => ∃ s5 s6 s7 s8, ρ = [.val (.tup (dN gs)), .val (.int ((c : Int) - 1)), .own (.lst (dN (heldN gs c))), .un, .val (.dF (cst (heldN gs c))), s5, s6, s7, s8])
    (fun z => ∀ x y, Sm gs x → Sm gs y → z ≤ x → x ≤ y → x + y - z < c → Sm gs (x + y - z)) rfl ⟨_, _, _, _, rfl⟩ (fun z ρ hzm hS => ?_) fun ρ hS hP => ?_
  · obtain ⟨s5, s6, s7, s8, rfl⟩ := hS
    obtain ⟨hzc, hzs⟩ := held_mem.mp hzm
    simp only [tgS, wF_some, List.set_cons_succ, List.set_cons_zero, wS_for, wI_enN, List.getElem?_cons_succ, List.getElem?_cons_zero, rd_own, lstOf]
    have he : enD (dN (heldN gs c)) = (heldN gs c).zipIdx.map fun q => D.tup [.int (q.2 : Nat), .int (q.1 : Nat)] := by
      unfold enD
      rw [List.zipIdx_map, List.map_map]; rfl
    rw [he]
    refine wL_each (heldN gs c).zipIdx _ (fun ρ => ∃ s6 s7 s8, ρ = [.val (.tup (dN gs)), .val (.int ((c : Int) - 1)), .own (.lst (dN (heldN gs c))), .un, .val (.dF (cst (heldN gs c))), .val (.int (z : Int)), s6, s7, s8])
      (fun q => ∀ y, Sm gs y → z ≤ q.1 → q.1 ≤ y → q.1 + y - z < c → Sm gs (q.1 + y - z)) rfl ⟨_, _, _, rfl⟩ (fun q ρ hq hS => ?_) fun ρ hS hP => ?_
    · obtain ⟨s6, s7, s8, rfl⟩ := hS
      obtain ⟨x, i⟩ := q
      have hq' : (heldN gs c)[i]? = some x := by simpa [List.mem_zipIdx_iff_getElem?] using hq
      have hxm := List.mem_of_getElem? hq'
      obtain ⟨hxc, hxs⟩ := held_mem.mp hxm
      have hsl : opSl (some (i : Int)) none (.lst (dN (heldN gs c))) = some (.lst (dN ((heldN gs c).drop i)), true) := by
        show some (D.lst (cutD (dN (heldN gs c)) (some (i : Int)) none), true) = _
        rw [cut_drop, ← List.map_drop]
      simp only [tgS, setAll, wF_some, List.set_cons_succ, List.set_cons_zero, wS_for, wI_ex]
      rw [show mSlL (.nm 2) (.nm 6) = mBin (fun x l => (dI l).bind fun i => opSl (some i) none x) (.nm 2) (.nm 6) from rfl]
      simp only [wM_bin, wM_C, wO_def, wPre_ex, wPre_nm, wPre_nil, List.getElem?_cons_succ, List.getElem?_cons_zero, rd_val, rd_own, Option.isSome_some, true_and, wF_finl, wF_finr, fin_nil, wF_some, w2_two, dI, Option.bind_some, hsl, seqOf]
      refine wL_each ((heldN gs c).drop i) (fun y : Nat => D.int (y : Int)) (fun ρ => ∃ s8, ρ = [.val (.tup (dN gs)), .val (.int ((c : Int) - 1)), .own (.lst (dN (heldN gs c))), .un, .val (.dF (cst (heldN gs c))), .val (.int (z : Int)), .val (.int (i : Nat)), .val (.int (x : Nat)), s8])
        (fun y => z ≤ x → x + y - z < c → Sm gs (x + y - z)) rfl ⟨_, rfl⟩ (fun y ρ hym hS => ?_) fun ρ hS hP => ?_
      · obtain ⟨s8, rfl⟩ := hS
        obtain ⟨hyc, hys⟩ := held_mem.mp (List.mem_of_mem_drop hym)
        simp only [tgS, wF_some, List.set_cons_succ, List.set_cons_zero, wS_if, wT_and, wT_B, wM_bin, wO_def, wPre_ex, wPre_nm, wPre_nil, List.getElem?_cons_succ, List.getElem?_cons_zero, rd_val, rd_own, Option.isSome_some, true_and, wF_finl, wF_finr, fin_nil, w2_two, cmp_int, add_int, sub_int, in_dF, wB_bl, if_true]
        by_cases h1 : z ≤ x
        · have d1 : decide ((z : Int) ≤ (x : Int)) = true := by simp; omega
          by_cases h2 : x + y - z < c
          · have d2 : decide ((x : Int) + (y : Int) - (z : Int) ≤ (c : Int) - 1) = true := by simp; omega
            have d3 : decide (0 ≤ (x : Int) + (y : Int) - (z : Int)) = true := by simp; omega
            have e : ((x : Int) + (y : Int) - (z : Int)).toNat = x + y - z := by omega
            by_cases h3 : Sm gs (x + y - z)
            · have d4 : (heldN gs c).contains (x + y - z) = true := by
                rw [List.contains_iff_mem]; exact held_mem.mpr ⟨by omega, h3⟩
              simp only [d1, d2, d3, e, d4, if_true, Bool.and_true, Bool.not_true, Bool.false_eq_true, if_false, wS_nop, turn_nx]
              exact ⟨⟨_, rfl⟩, fun _ _ => h3⟩
            · have d4 : (heldN gs c).contains (x + y - z) = false := by
                rw [Bool.eq_false_iff, ne_eq, List.contains_iff_mem]
                exact fun h => h3 (held_mem.mp h).2
              simp only [d1, d2, d3, e, d4, if_true, Bool.and_false, Bool.not_false]
              simp [still]
              exact fun hA => h3 (hA x y z hxs hys hzs h1 (by
                have hp : ((heldN gs c).drop i).Pairwise (· < ·) := (held_ord c).sublist (List.drop_sublist _ _)
                have hkl : i < (heldN gs c).length := Nat.lt_of_not_le fun h => by rw [List.getElem?_eq_none h] at hq'; cases hq'
                have hdr : (heldN gs c).drop i = x :: (heldN gs c).drop (i + 1) := by
                  rw [List.drop_eq_getElem_cons hkl]
                  rw [List.getElem?_eq_getElem hkl] at hq'
                  rw [Option.some.inj hq']
                rw [hdr] at hp hym
                rcases List.mem_cons.mp hym with e | hy
                · omega
                · have := (List.pairwise_cons.mp hp).1 y hy
                  omega))
          · have d2 : decide ((x : Int) + (y : Int) - (z : Int) ≤ (c : Int) - 1) = false := by simp; omega
            simp only [d1, d2, if_true, Bool.false_eq_true, if_false, wS_nop, turn_nx]
            exact ⟨⟨_, rfl⟩, fun _ h => absurd h h2⟩
        · have d1 : decide ((z : Int) ≤ (x : Int)) = false := by simp; omega
          simp only [d1, Bool.false_eq_true, if_false, wS_nop, turn_nx]
          exact ⟨⟨_, rfl⟩, fun h => absurd h h1⟩
      · obtain ⟨s8, rfl⟩ := hS
        refine ⟨⟨_, _, _, rfl⟩, fun y hys h1 h2 h3 => ?_⟩
        by_cases h4 : y ≤ c
        · refine hP y ?_ h1 h3
          obtain ⟨j, hj⟩ := List.getElem?_of_mem (held_mem.mpr ⟨h4, hys⟩)
          have hij : i ≤ j := Nat.le_of_not_lt fun h => by
            have h5 : j < (heldN gs c).length := Nat.lt_of_not_le fun h => by rw [List.getElem?_eq_none h] at hj; cases hj
            have h6 : i < (heldN gs c).length := Nat.lt_of_not_le fun h => by rw [List.getElem?_eq_none h] at hq'; cases hq'
            have := (List.pairwise_iff_getElem.mp (held_ord (gs := gs) c)) j i h5 h6 h
            rw [List.getElem?_eq_getElem h5] at hj
            rw [List.getElem?_eq_getElem h6] at hq'
            have := Option.some.inj hj
            have := Option.some.inj hq'
            try simp only at h2
            omega
          exact List.mem_of_getElem? (i := j - i) (by rw [List.getElem?_drop, show i + (j - i) = j by omega]; exact hj)
        · exfalso; try simp only at h1 h2 h3
          omega
    · obtain ⟨s6, s7, s8, rfl⟩ := hS
      refine ⟨⟨_, _, _, _, rfl⟩, fun x y hxs hys h1 h2 h3 => ?_⟩
      by_cases h4 : x ≤ c
      · obtain ⟨i, hi⟩ := List.getElem?_of_mem (held_mem.mpr ⟨h4, hxs⟩)
        exact hP (x, i) (by simpa [List.mem_zipIdx_iff_getElem?] using hi) y hys h1 h2 h3
      · omega
  · obtain ⟨s5, s6, s7, s8, rfl⟩ := hS
    simp [still]
    refine arf_of hc fun z x y hzs hxs hys h1 h2 h3 => ?_
    by_cases h4 : z ≤ c
    · exact hP z (held_mem.mpr ⟨h4, hzs⟩) x y hxs hys h1 h2 h3
    · omega
end
end Eng
set_option Elab.async false
set_option linter.all false
set_option maxRecDepth 100000
set_option maxHeartbeats 2000000
/-! ComAQ: _law_arf, _law_of_row, _law_row_right. -/
namespace Eng
open PySem PySem.Spec PyProof.Rows L2 Com
def ht (bs : List Bool) (n : Nat) : Bool := bs.getD n false
theorem ht_at {bs : List Bool} {n : Nat} (h : n < bs.length) : (dBl bs)[n]? = some (.bl (ht bs n)) := by
  rw [List.getElem?_map, List.getElem?_eq_getElem h]
  unfold ht
  rw [List.getD_eq_getElem?_getD, List.getElem?_eq_getElem h]; rfl
def htL (bs : List Bool) : List Nat := (List.range bs.length).filter (ht bs)
theorem htL_mem {bs : List Bool} {n : Nat} : n ∈ htL bs ↔ ht bs n = true := by
  unfold htL
  rw [List.mem_filter, List.mem_range]
  refine ⟨fun h => h.2, fun h => ⟨Nat.lt_of_not_le fun hl => ?_, h⟩⟩
  unfold ht at h
  rw [List.getD_eq_getElem?_getD, List.getElem?_eq_none hl] at h
  cases h
theorem ht_lt {bs : List Bool} {n : Nat} (h : ht bs n = true) : n < bs.length := Nat.lt_of_not_le fun hl => by
  unfold ht at h
  rw [List.getD_eq_getElem?_getD, List.getElem?_eq_none hl] at h
  cases h
theorem ht_tab {gs : List Nat} {M n : Nat} (h : n ≤ M) : ht (tabB gs M) n = sb gs n := by
  unfold ht tabB
  rw [List.getD_eq_getElem?_getD, List.getElem?_map, List.getElem?_range (by omega)]; rfl
/-- the rows of a table: numbers that are held -/
theorem rows_wK {bs : List Bool} {i j : Nat} {ρ : Env} {Q : List D → Env → Prop} (h1 : ρ[i]? = some .un) (hj : rd ρ[j]? = some (.lst (dBl bs))) (hij : i ≠ j)
    (hn : Q (dN (htL bs)) ρ) : wK [i] (.one i) (mTr (.ex (mBin opIx (.nm j) (.nm i)))) (mVar i) (rngD 0 bs.length) ρ Q := by
  have hi : i < ρ.length := Nat.lt_of_not_le fun h => by rw [List.getElem?_eq_none h] at h1; cases h1
  have back : ∀ s, (ρ.set i s).set i .un = ρ := fun s => by
    rw [List.set_set]
    apply List.ext_getElem?
    intro k
    by_cases e : i = k
    · subst e; rw [List.getElem?_set_self hi, h1]
    · rw [List.getElem?_set_ne e]
  refine wK_ls (List.range bs.length) (fun k : Nat => D.int (k : Int)) (ht bs) (fun k : Nat => .int (k : Int)) (rng0 _) (fun k hk => ?_) hn
  have hk := List.mem_range.mp hk
  have a1 : opIx (.lst (dBl bs)) (.int (k : Int)) = some (.bl (ht bs k), false) := ix_l (at_of k rfl (ht_at hk))
  have g1 : (ρ.set i (.val (.int (k : Int))))[i]? = some (.val (.int (k : Int))) := by rw [List.getElem?_set_self hi]
  have g2 : rd (ρ.set i (.val (.int (k : Int))))[j]? = some (.lst (dBl bs)) := by rw [List.getElem?_set_ne hij]; exact hj
  have hw : wipeE [i] (ρ.set i (.val (.int (k : Int)))) = ρ := back _
  simp only [tgS, wF_some, wT_tr, wO_def, wPre_ex, wM_bin, wPre_nm, wPre_nil, g1, g2, rd_val, Option.isSome_some, true_and, wF_finl, wF_finr, fin_nil, w2_two, a1]
  refine ⟨_, rfl, ?_⟩
  simp only [truth, wF_some]
  refine ⟨trivial, ?_⟩
  split
  · simp [g1, hw]
  · exact hw
theorem run__law_arf (bs : List Bool) (hl : bs.length ≤ 8000000) : ∃ b, Rn m__law_arf [.val (.lst (dBl bs))] (.bl b) false ∧
    (b = true ↔ ∀ z x y, ht bs z = true → ht bs x = true → ht bs y = true → z ≤ x → x ≤ y → x + y - z < bs.length → ht bs (x + y - z) = true) := by
  have hz := sizeL
  suffices h : wR m__law_arf [.val (.lst (dBl bs))] fun d o => o = false ∧ ∃ b, d = .bl b ∧ (b = true ↔ ∀ z x y, ht bs z = true → ht bs x = true → ht bs y = true → z ≤ x → x ≤ y → x + y - z < bs.length → ht bs (x + y - z) = true) by
    obtain ⟨d, o, h1, rfl, b, rfl, h2⟩ := rn_of h
    exact ⟨b, h1, h2⟩
  unfold m__law_arf
  refine wR_fn (by simp [ownOk]) ?_
  unfold b__law_arf
  simp only [List.cons_append, List.nil_append, List.replicate, wS_seq, wS_set, wM_comp, wI_r1, wM_cal, wO_def, wPre_ex, wPre_nm, wPre_nil, List.getElem?_cons_succ, List.getElem?_cons_zero, rd_val, Option.isSome_some, true_and, wF_finl, wF_finr, fin_nil, wF_some, len_bl]
  refine ⟨_, rfl, ⟨by omega, by omega⟩, ?_⟩
  rw [Int.toNat_natCast]
  refine ⟨⟨by rw [rng_len]; omega, rfl⟩, ?_⟩
  refine rows_wK rfl rfl (by decide) ?_
  simp only [restE, wipeE, List.set_cons_succ, List.set_cons_zero, List.getD_cons_succ, List.getD_cons_zero, slotOf_t, nxt_nx, wS_seq, wS_for, wI_nm, List.getElem?_cons_succ, List.getElem?_cons_zero, rd_own, wF_some, seqOf]
  refine wL_each (htL bs) (fun z : Nat => D.int (z : Int)) (fun ρ => ∃ s3 s4 s5, ρ = [.val (.lst (dBl bs)), .un, .own (.lst (dN (htL bs))), s3, s4, s5])
    (fun z => ∀ x y, ht bs x = true → ht bs y = true → z ≤ x → x ≤ y → x + y - z < bs.length → ht bs (x + y - z) = true) rfl ⟨_, _, _, rfl⟩ (fun z ρ hzm hS => ?_) fun ρ hS hP => ?_
  · obtain ⟨s3, s4, s5, rfl⟩ := hS
    have hzs := htL_mem.mp hzm
    simp only [tgS, wF_some, List.set_cons_succ, List.set_cons_zero, wS_for, wI_nm, List.getElem?_cons_succ, List.getElem?_cons_zero, rd_own, seqOf]
    refine wL_each (htL bs) (fun x : Nat => D.int (x : Int)) (fun ρ => ∃ s4 s5, ρ = [.val (.lst (dBl bs)), .un, .own (.lst (dN (htL bs))), .val (.int (z : Int)), s4, s5])
      (fun x => ∀ y, ht bs y = true → z ≤ x → x ≤ y → x + y - z < bs.length → ht bs (x + y - z) = true) rfl ⟨_, _, rfl⟩ (fun x ρ hxm hS => ?_) fun ρ hS hP => ?_
    · obtain ⟨s4, s5, rfl⟩ := hS
      have hxs := htL_mem.mp hxm
      simp only [tgS, wF_some, List.set_cons_succ, List.set_cons_zero, wS_for, wI_nm, List.getElem?_cons_succ, List.getElem?_cons_zero, rd_own, seqOf]
      refine wL_each (htL bs) (fun y : Nat => D.int (y : Int)) (fun ρ => ∃ s5, ρ = [.val (.lst (dBl bs)), .un, .own (.lst (dN (htL bs))), .val (.int (z : Int)), .val (.int (x : Int)), s5])
        (fun y => z ≤ x → x ≤ y → x + y - z < bs.length → ht bs (x + y - z) = true) rfl ⟨_, rfl⟩ (fun y ρ hym hS => ?_) fun ρ hS hP => ?_
      · obtain ⟨s5, rfl⟩ := hS
        have hys := htL_mem.mp hym
        simp only [tgS, wF_some, List.set_cons_succ, List.set_cons_zero, wS_if, wT_and, wT_B, wM_chain, wO_def, wPre_ex, wPre_nm, wPre_nil, List.getElem?_cons_succ, List.getElem?_cons_zero, rd_val, rd_own, Option.isSome_some, true_and, wF_finl, wF_finr, fin_nil, wCh_two, pLe]
        by_cases h1 : z ≤ x
        · have d1 : decide ((z : Int) ≤ (x : Int)) = true := by simp; omega
          rw [if_pos d1]
          refine ⟨_, rfl, ?_⟩
          simp only [wB_bl]
          by_cases h2 : x ≤ y
          · have d2 : decide ((x : Int) ≤ (y : Int)) = true := by simp; omega
            simp only [d2, if_true, wM_bin, wM_cal, wT_not, wT_tr, wO_def, wPre_ex, wPre_nm, wPre_nil, List.getElem?_cons_succ, List.getElem?_cons_zero, rd_val, rd_own, Option.isSome_some, true_and, wF_finl, wF_finr, fin_nil, wF_some, w2_two, cmp_int, add_int, sub_int, len_bl, wB_bl]
            by_cases h3 : x + y - z < bs.length
            · have d3 : decide ((x : Int) + (y : Int) - (z : Int) < (bs.length : Int)) = true := by simp; omega
              have a1 : opIx (.lst (dBl bs)) (.int ((x : Int) + (y : Int) - (z : Int))) = some (.bl (ht bs (x + y - z)), false) := ix_l (at_of (x + y - z) (by omega) (ht_at h3))
              simp only [d3, if_true, a1, w2_two]
              refine ⟨_, rfl, ?_⟩
              simp only [truth, wF_some]
              refine ⟨_, rfl, ?_⟩
              simp only [truth, wF_some]
              cases h4 : ht bs (x + y - z) with
              | true =>
                simp only [Bool.not_true, Bool.false_eq_true, if_false, wS_nop, turn_nx]
                exact ⟨⟨_, rfl⟩, fun _ _ _ => trivial⟩
              | false =>
                simp [still]
                exact ⟨z, hzs, x, hxs, y, hys, h1, h2, h3, h4⟩
            · have d3 : decide ((x : Int) + (y : Int) - (z : Int) < (bs.length : Int)) = false := by simp; omega
              simp only [d3, Bool.false_eq_true, if_false, wS_nop, turn_nx]
              exact ⟨⟨_, rfl⟩, fun _ _ h => absurd h h3⟩
          · have d2 : decide ((x : Int) ≤ (y : Int)) = false := by simp; omega
            simp only [d2, Bool.false_eq_true, if_false, wS_nop, turn_nx]
            exact ⟨⟨_, rfl⟩, fun _ h => absurd h h2⟩
        · have d1 : decide ((z : Int) ≤ (x : Int)) = false := by simp; omega
          simp only [d1, Bool.false_eq_true, if_false, wB_bl, wS_nop, turn_nx]
          exact ⟨⟨_, rfl⟩, fun h => absurd h h1⟩
      · obtain ⟨s5, rfl⟩ := hS
        exact ⟨⟨_, _, rfl⟩, fun y hys h1 h2 h3 => hP y (htL_mem.mpr hys) h1 h2 h3⟩
    · obtain ⟨s4, s5, rfl⟩ := hS
      exact ⟨⟨_, _, _, rfl⟩, fun x y hxs hys h1 h2 h3 => hP x (htL_mem.mpr hxs) y hys h1 h2 h3⟩
  · obtain ⟨s3, s4, s5, rfl⟩ := hS
    simp [still]
    exact fun z x y hzs hxs hys h1 h2 h3 => hP z (htL_mem.mpr hzs) x y hxs hys h1 h2 h3
end Eng
set_option Elab.async false
set_option linter.all false
set_option maxRecDepth 100000
set_option maxHeartbeats 2000000
/-! ComAR: _law_of_row, _law_row_right. -/
namespace Eng
open PySem PySem.Spec PyProof.Rows L2 Com
/-! rows, in plain Lean -/
theorem rowV_app : ∀ (r : List Nat) (z : Nat), rowV (r ++ [z]) = (decide (z = 1) && r.all fun x => decide (1 < x))
  | [], z => by
    by_cases h : z = 1 <;> simp [rowV, h]
  | [x], z => by
    show (decide (2 ≤ x) && rowV [z]) = _
    by_cases h : z = 1 <;> by_cases h2 : 2 ≤ x <;> simp [rowV, h, h2] <;> omega
  | x :: y :: r, z => by
    show (decide (2 ≤ x) && rowV ((y :: r) ++ [z])) = _
    rw [rowV_app (y :: r) z, List.all_cons (a := x)]
    have e : decide (2 ≤ x) = decide (1 < x) := rfl
    rw [e, ← Bool.and_assoc, ← Bool.and_assoc, Bool.and_comm (decide (1 < x))]
theorem rowOk_iff : ∀ (row : List Nat), rowOk row = true ↔ ∀ k t, row[k]? = some t → ar (row.drop (k + 1)) t = true
  | [] => ⟨fun _ k t h => by simp at h, fun _ => rfl⟩
  | m :: l => by
    simp only [rowOk, Bool.and_eq_true]
    rw [rowOk_iff l]
    constructor
    · rintro ⟨h1, h2⟩ k t hk
      cases k with
      | zero => simp at hk; subst hk; exact h1
      | succ k => exact h2 k t (by simpa using hk)
    · intro h
      exact ⟨h 0 m rfl, fun k t hk => h (k + 1) t (by simpa using hk)⟩
/-! slices [:-1] -/
theorem cut_init (xs : List D) : cutD xs none (some (-1)) = xs.dropLast := by
  unfold cutD
  rw [HT.sIx_none]
  have e : HT.sIx xs.length xs.length (some (-1)) = xs.length - 1 := by
    show (if (-1 : Int) < 0 then ((-1 : Int) + (xs.length : Int)).toNat else min (-1 : Int).toNat xs.length) = _
    rw [if_pos (by decide)]
    omega
  rw [e, Nat.sub_zero, List.drop_zero, List.dropLast_eq_take]
theorem slm_t (l : List Nat) : opSl none (some (-1)) (.tup (dN l)) = some (.tup (dN l.dropLast), false) := by
  show some (D.tup (cutD (dN l) none (some (-1))), false) = _
  rw [cut_init, dN, ← List.map_dropLast]
theorem slm_l (l : List Nat) : opSl none (some (-1)) (.lst (dN l)) = some (.lst (dN l.dropLast), true) := by
  show some (D.lst (cutD (dN l) none (some (-1))), true) = _
  rw [cut_init, dN, ← List.map_dropLast]
theorem run__law_of_row {m : Nat} {l : List Nat} (hp : ∀ x ∈ m :: l, 0 < x) (hs : (m :: l).sum ≤ 500000) (hl : (m :: l).length + m < 64) : Rn m__law_of_row [.val (.lst (dN (m :: l)))] (.tup (dN (lstM (genR (m :: l) m)))) false := by
  have hz := sizeL
  have hgl : (genR (m :: l) m).length < 64 := by
    unfold genR
    rw [List.length_append, List.length_map, List.length_range, psum_len]
    omega
  have hgm : ∀ x ∈ genR (m :: l) m, x + 1 ≤ sizeLine := fun x hx => by
    rcases List.mem_append.mp hx with h | h
    · have := (psum_ord (m :: l) 0 hp).2 x h
      omega
    · obtain ⟨k, hk, rfl⟩ := List.mem_map.mp h
      have := List.mem_range.mp hk
      omega
  have hlg := run_least (ns := genR (m :: l) m) (s0 := .val (.lst (dN (genR (m :: l) m)))) rfl (genR_pos hp) hgl hgm
  have a0 : opIx (.lst (dN (m :: l))) (.int 0) = some (.int (m : Int), false) := ix_l (at_of 0 rfl (N_at rfl))
  unfold Rn m__law_of_row
  refine wR_fn (by simp [ownOk]) ?_
  unfold b__law_of_row
  simp only [List.cons_append, List.nil_append, List.replicate, wS_seq, wS_par, wM_lst, wV_nil, wM_C, slotOf_t, slotOf_f, nxt_nx, List.set_cons_succ, List.set_cons_zero, wS_for, wI_nm, List.getElem?_cons_succ, List.getElem?_cons_zero, rd_val, wF_some, seqOf]
  refine wL_inv (fun k ρ => ∃ s3, ρ = [.val (.lst (dN (m :: l))), .own (.lst (dN (psum 0 ((m :: l).take k)))), .val (.int (((m :: l).take k).sum : Nat)), s3, .un]) ⟨_, rfl⟩ (fun k d ρ hd ⟨s3, hρ⟩ => ?_) fun ρ ⟨s3, hρ⟩ => ?_
  · subst hρ
    rw [List.getElem?_map] at hd
    obtain ⟨x, hx, rfl⟩ := Option.map_eq_some_iff.mp hd
    have tk : (m :: l).take (k + 1) = (m :: l).take k ++ [x] := by rw [List.take_add_one, hx]; rfl
    have htl : ((m :: l).take k).length ≤ 64 := by rw [List.length_take]; omega
    have ps : ∀ (l : List Nat) (u : Nat) (x : Nat), psum u (l ++ [x]) = psum u l ++ [u + l.sum + x] := by
      intro l
      induction l with
      | nil => intro u x; simp [psum]
      | cons y l ih => intro u x; simp only [List.cons_append, psum, ih, List.sum_cons]; rw [show u + y + l.sum + x = u + (y + l.sum) + x by omega]
    have hsz : (dN (psum 0 ((m :: l).take k))).length < 16777216 := by
      rw [List.length_map, psum_len]; omega
    have hap : dN (psum 0 ((m :: l).take k)) ++ [D.int ((((m :: l).take k).sum : Int) + (x : Int))] = dN (psum 0 ((m :: l).take (k + 1))) := by
      rw [tk, ps]; simp [dN]
    have hsum : (((m :: l).take (k + 1)).sum : Int) = (((m :: l).take k).sum : Int) + (x : Int) := by
      rw [tk, List.sum_append]; simp
    rw [hsum]
    generalize dN (psum 0 ((m :: l).take (k + 1))) = P' at *
    generalize dN (psum 0 ((m :: l).take k)) = P at *
    subst hap
    simp [hz, tgS, -List.map_cons]
    exact hsz
  · subst hρ
    rw [List.length_map, List.take_length]
    simp only [nxt_nx, wS_ret]
    rw [call1e (p := true) hlg (wM_eq ?_) (clean_N _)]
    · simp [still, -List.map_cons]
    · simp only [wM_bin, wM_comp, wI_r2, wM_C, wO_def, wPre_ex, wPre_nm, wPre_nil, List.getElem?_cons_succ, List.getElem?_cons_zero, rd_val, rd_own, Option.isSome_some, true_and, wF_finl, wF_finr, fin_nil, wF_some, w2_two, a0, add_int]
      refine ⟨_, _, rfl, ⟨by omega, by omega, by simp only [List.length_cons] at hl; omega, by simp only [List.length_cons] at hl; omega⟩, ?_⟩
      rw [show ((m : Int) + 1 - 1).toNat = m by omega, rng1]
      refine ⟨⟨by simp only [List.length_map, List.length_range, List.length_cons] at *; omega, rfl⟩, ?_⟩
      refine wK_mp ((List.range m).map (· + 1)) _ (fun k : Nat => .int (((m :: l).sum : Int) + (k : Int))) rfl (fun k hk => ?_) ?_
      · simp [tgS, wipeE, -List.sum_cons, -List.map_cons]
      · have hL : ((List.range m).map (· + 1)).map (fun k : Nat => D.int (((m :: l).sum : Int) + (k : Int))) = dN ((List.range m).map fun k => (m :: l).sum + 1 + k) := by
          rw [dN, List.map_map, List.map_map]
          apply List.map_congr_left
          intro k _
          show D.int (((m :: l).sum : Int) + ((k + 1 : Nat) : Int)) = D.int (((m :: l).sum + 1 + k : Nat) : Int)
          exact congrArg D.int (by omega)
        have had : opAdd (.lst (dN (psum 0 (m :: l)))) (.lst (dN ((List.range m).map fun k => (m :: l).sum + 1 + k))) = some (.lst (dN (genR (m :: l) m)), true) := by
          rw [add_ll (by rw [List.length_map, List.length_map, List.length_map, List.length_range, psum_len]; omega), ← List.map_append]
          rfl
        rw [hL]
        simp only [restE, wipeE, List.set_cons_succ, List.set_cons_zero, List.getD_cons_succ, List.getD_cons_zero, wPre_nil, wF_finl, wF_finr, fin_nil, wF_some, w2_two, had]
        simp only [List.getElem?_cons_succ, List.getElem?_cons_zero, rd_own, wF_some, had]
        exact ⟨trivial, trivial, trivial⟩
/-- what stands behind a statement that may end the def -/
def cutP (S : Env → Prop) (Q : Fl → Env → Prop) (f : Fl) (ρ : Env) : Prop := match f with
  | .nx => S ρ
  | f => Q f ρ
@[simp ↓] theorem cutP_nx {S Q} {ρ : Env} : cutP S Q .nx ρ = S ρ := rfl
@[simp ↓] theorem cutP_ret {S Q} {ρ : Env} {d o} : cutP S Q (.ret d o) ρ = Q (.ret d o) ρ := rfl
theorem wS_cutR {a b : MS} {ρ : Env} {Q : Fl → Env → Prop} (S : Env → Prop) (h1 : wS a ρ (cutP S Q)) (h2 : ∀ ρ', S ρ' → wS b ρ' Q) : wS (sSeq a b) ρ Q := by
  rw [wS_seq]
  refine wS_mono h1 fun f ρ' h => ?_
  cases f with
  | nx => exact h2 ρ' h
  | cont => exact h
  | brk => exact h
  | ret d o => exact h
theorem ix_lst_last {r : List Nat} {z : Nat} : opIx (.lst (dN (r ++ [z]))) (.int (((r ++ [z]).length : Int) - 1)) = some (.int (z : Int), false) :=
  ix_l (at_of r.length (by simp) (N_at (by simp)))
theorem run__law_row_right (row : List Nat) (hl : row.length ≤ 100000) (hm : ∀ x ∈ row, x ≤ 100000) : Rn m__law_row_right [.val (.lst (dN row))] (.bl (rowV row && rowOk row)) false := by
  have hz := sizeL
  suffices h : wR m__law_row_right [.val (.lst (dN row))] fun d o => o = false ∧ ∃ b, d = .bl b ∧ (b = true ↔ (rowV row && rowOk row) = true) by
    obtain ⟨d, o, h1, rfl, b, rfl, h2⟩ := rn_of h
    have : b = (rowV row && rowOk row) := by rw [Bool.eq_iff_iff]; exact h2
    rw [← this]; exact h1
  unfold m__law_row_right
  refine wR_fn (by simp [ownOk]) ?_
  unfold b__law_row_right
  simp only [List.cons_append, List.nil_append, List.replicate]
  refine wS_cutR (fun ρ => rowV row = true ∧ ρ = [.val (.lst (dN row)), .un, .un, .un, .un, .un]) ?_ ?_
  · rcases List.eq_nil_or_concat row with e | ⟨r, z, e⟩
    · subst e
      have e0 : bLen [.lst []] = some (.int 0, false) := rfl
      simp [e0, eq_i, still, rowV]
    · rw [List.concat_eq_append] at e
      subst e
      have hlen : ¬ ((r ++ [z]).length : Int) = 0 := by simp; omega
      have a1 := ix_lst_last (r := r) (z := z)
      have hsl : opSl none (some (-1)) (.lst (dN (r ++ [z]))) = some (.lst (dN r), true) := by
        rw [slm_l, List.dropLast_concat]
      simp only [wS_if, wT_or, wT_B, wM_bin, wM_cal, wM_C, wO_def, wPre_ex, wPre_nm, wPre_nil, List.getElem?_cons_succ, List.getElem?_cons_zero, rd_val, Option.isSome_some, true_and, wF_finl, wF_finr, fin_nil, wF_some, len_lN, w2_two, eq_i, sub_int, a1, ne_i, wB_bl, hlen, decide_false, Bool.false_eq_true, if_false]
      by_cases hz1 : z = 1
      · have hz2 : (z : Int) = 1 := by omega
        simp only [hz2, decide_true, Bool.not_true, Bool.false_eq_true, if_false, wT_not, wT_tr, wO_def, wPre_ex, wM_cal, wM_comp, wI_ex]
        rw [show mSlH (.nm 0) (.ex (mUn opNeg (.ex (mC (.int 1))))) = mBin (fun x l => (dI l).bind fun i => opSl none (some i) x) (.nm 0) (.ex (mUn opNeg (.ex (mC (.int 1))))) from rfl]
        simp only [wM_bin, wM_un, wM_C, wO_def, wPre_ex, wPre_nm, wPre_nil, List.getElem?_cons_succ, List.getElem?_cons_zero, rd_val, Option.isSome_some, true_and, wF_finl, wF_finr, fin_nil, wF_some, w1_one, neg_int, w2_two, dI, Option.bind_some, hsl, seqOf]
        refine ⟨⟨by simp only [List.length_map, List.length_append, List.length_cons, List.length_nil] at *; omega, rfl⟩, ?_⟩
        refine wK_mp r _ (fun x : Nat => .bl (decide (1 < x))) rfl (fun x hx => ?_) ?_
        · simp [tgS, wipeE]
          omega
        · have hb : bAll [.lst (r.map fun x : Nat => D.bl (decide (1 < x)))] = some (.bl (r.all fun x => decide (1 < x)), false) := by
            have := all_bl (r.map fun x : Nat => decide (1 < x))
            rw [dBl, List.map_map] at this
            rw [show (r.map fun x : Nat => D.bl (decide (1 < x))) = r.map (D.bl ∘ fun x : Nat => decide (1 < x)) from rfl, this, List.all_map]
            rfl
          have hV : rowV (r ++ [z]) = r.all fun x => decide (1 < x) := by rw [rowV_app]; simp [hz1]
          rw [hV]
          simp only [restE, wipeE, List.set_cons_succ, List.set_cons_zero, List.getD_cons_succ, List.getD_cons_zero, wPre_nil, wF_finl, wF_finr, fin_nil, wF_some, hb]
          cases hall : r.all fun x => decide (1 < x) with
          | true =>
            simp [truth]
          | false =>
            simp [truth, still]
      · have hz2 : ¬ (z : Int) = 1 := by omega
        have hV : rowV (r ++ [z]) = false := by rw [rowV_app]; simp [hz1]
        rw [hV]
        simp [hz2, still]
  rintro _ ⟨hV, rfl⟩
  have hp := rowV_pos hV
  refine wS_cutR (fun ρ => (∀ k t, row[k]? = some t → ar (row.drop (k + 1)) t = true) ∧ ∃ s2 s3 s4 s5, ρ = [.val (.lst (dN row)), .un, s2, s3, s4, s5]) ?_ ?_
  · simp only [wS_for, wI_r1, wM_cal, wO_def, wPre_ex, wPre_nm, wPre_nil, List.getElem?_cons_succ, List.getElem?_cons_zero, rd_val, Option.isSome_some, true_and, wF_finl, wF_finr, fin_nil, wF_some, len_lN]
    refine ⟨_, rfl, ⟨by omega, by omega⟩, ?_⟩
    rw [Int.toNat_natCast]
    refine wL_each (List.range row.length) (fun k : Nat => D.int (k : Int)) (fun ρ => ∃ s2 s3 s4 s5, ρ = [.val (.lst (dN row)), .un, s2, s3, s4, s5]) (fun k => ∀ t, row[k]? = some t → ar (row.drop (k + 1)) t = true) (rng0 _) ⟨_, _, _, _, rfl⟩ (fun k ρ hk hS => ?_) fun ρ hS hP => ?_
    · obtain ⟨s2, s3, s4, s5, rfl⟩ := hS
      have hk := List.mem_range.mp hk
      obtain ⟨t, ht⟩ : ∃ t, row[k]? = some t := ⟨_, List.getElem?_eq_getElem hk⟩
      have htm := hm t (List.mem_of_getElem? ht)
      have a1 : opIx (.lst (dN row)) (.int (k : Int)) = some (.int (t : Int), false) := ix_l (at_of k rfl (N_at ht))
      simp only [tgS, wF_some, List.set_cons_succ, List.set_cons_zero, wS_seq, wS_par, wM_C, wM_bin, wO_def, wPre_ex, wPre_nm, wPre_nil, List.getElem?_cons_succ, List.getElem?_cons_zero, rd_val, Option.isSome_some, true_and, wF_finl, wF_finr, fin_nil, w2_two, add_int, slotOf_f, nxt_nx, wS_for, wI_r1, a1]
      refine ⟨_, rfl, ⟨by omega, by omega⟩, ?_⟩
      rw [show ((t : Int) + 1).toNat = t + 1 by omega]
      refine wL_inv (fun j ρ => ∃ (total many : Nat) (s5 : Slot), ρ = [.val (.lst (dN row)), .un, .val (.int (k : Int)), .val (.int (total : Int)), .val (.int (many : Int)), s5] ∧
        (total < t → j ≤ total ∧ ar (row.drop (k + 1)) t = ar (row.drop many) (t - total)) ∧ (t ≤ total → (total = t ↔ ar (row.drop (k + 1)) t = true))) ?_ (fun j d ρ hd hI => ?_) fun ρ hI => ?_
      · refine ⟨0, k + 1, s5, rfl, fun _ => ⟨Nat.le_refl _, by rw [Nat.sub_zero]⟩, fun h => ?_⟩
        have : t = 0 := by omega
        subst this
        simp [ar_zero]
      · obtain ⟨hj, rfl⟩ := rng_at hd
        obtain ⟨total, many, s5', rfl, h1, h2⟩ := hI
        simp only [tgS, wF_some, List.set_cons_succ, List.set_cons_zero, wS_if, wT_B, wM_bin, wO_def, wPre_ex, wPre_nm, wPre_nil, List.getElem?_cons_succ, List.getElem?_cons_zero, rd_val, Option.isSome_some, true_and, wF_finl, wF_finr, fin_nil, w2_two, a1, cmp_int, wB_bl]
        by_cases hlt : total < t
        · have d1 : decide ((total : Int) < (t : Int)) = true := by simp; omega
          obtain ⟨h3, h4⟩ := h1 hlt
          rw [if_pos d1]
          by_cases hmany : many < row.length
          · obtain ⟨x, hx⟩ : ∃ x, row[many]? = some x := ⟨_, List.getElem?_eq_getElem hmany⟩
            have hxp := hp x (List.mem_of_getElem? hx)
            have a2 : opIx (.lst (dN row)) (.int (many : Int)) = some (.int (x : Int), false) := ix_l (at_of many rfl (N_at hx))
            have hdr : row.drop many = x :: row.drop (many + 1) := by
              rw [List.drop_eq_getElem_cons hmany]
              rw [List.getElem?_eq_getElem hmany] at hx
              rw [Option.some.inj hx]
            have d2 : decide ((many : Int) < (row.length : Int)) = true := by simp; omega
            rw [hdr] at h4
            simp only [wS_seq, wS_set, wM_bin, wM_if, wM_cal, wT_B, wM_C, wO_def, wPre_ex, wPre_nm, wPre_nil, List.set_cons_succ, List.set_cons_zero, List.getElem?_cons_succ, List.getElem?_cons_zero, rd_val, Option.isSome_some, true_and, wF_finl, wF_finr, fin_nil, wF_some, len_lN, w2_two, cmp_int, wB_bl, d2, if_true, Bool.false_eq_true, if_false, add_int, slotOf_f, nxt_nx, turn_nx, a2]
            refine ⟨total + x, many + 1, .val (.int (j : Int)), by simp, fun h5 => ⟨by omega, ?_⟩, fun h5 => ?_⟩
            · rw [h4, ar]
              have e1 : (t - total == 0) = false := by simp; omega
              have e2 : decide (x ≤ t - total) = true := by simp; omega
              rw [e1, e2, Bool.false_or, Bool.true_and, Nat.sub_sub]
            · rw [h4, ar_cons]
              constructor
              · intro e
                refine .inr ⟨by omega, ?_⟩
                rw [show t - total - x = 0 by omega]
                exact ar_zero _
              · rintro (e | ⟨e, _⟩) <;> omega
          · have hdr : row.drop many = [] := List.drop_eq_nil_of_le (by omega)
            have hdr2 : row.drop (many + 1) = [] := List.drop_eq_nil_of_le (by omega)
            rw [hdr] at h4
            have d2 : decide ((many : Int) < (row.length : Int)) = false := by simp; omega
            simp only [wS_seq, wS_set, wM_bin, wM_if, wM_cal, wT_B, wM_C, wO_def, wPre_ex, wPre_nm, wPre_nil, List.set_cons_succ, List.set_cons_zero, List.getElem?_cons_succ, List.getElem?_cons_zero, rd_val, Option.isSome_some, true_and, wF_finl, wF_finr, fin_nil, wF_some, len_lN, w2_two, cmp_int, wB_bl, d2, if_true, Bool.false_eq_true, if_false, add_int, slotOf_f, nxt_nx, turn_nx]
            refine ⟨total + 1, many + 1, .val (.int (j : Int)), by simp, fun h5 => ⟨by omega, ?_⟩, fun h5 => ?_⟩
            · rw [h4, hdr2]; rfl
            · rw [h4]
              simp [ar]
              omega
        · have d1 : ¬ ((total : Int) < (t : Int)) := by omega
          simp only [d1, decide_false, Bool.false_eq_true, if_false, wS_nop, turn_nx]
          exact ⟨total, many, _, rfl, fun h => absurd h hlt, h2⟩
      · obtain ⟨total, many, s5', rfl, h1, h2⟩ := hI
        rw [rng_len] at h1
        have hge : t ≤ total := Nat.le_of_not_lt fun h => by have := (h1 h).1; omega
        have h3 := h2 hge
        by_cases he : total = t
        · have hh := h3.mp he
          subst he
          simp [a1, ne_i]
          exact fun t' ht' => by
            rw [ht] at ht'
            rw [← Option.some.inj ht']; exact hh
        · have hne : ¬ (total : Int) = (t : Int) := by omega
          simp [a1, ne_i, hne, still]
          intro _
          rw [Bool.eq_false_iff]
          intro hO
          exact he (h3.mpr ((rowOk_iff row).mp hO k t ht))
    · obtain ⟨s2, s3, s4, s5, rfl⟩ := hS
      exact ⟨fun k t hk => hP k (List.mem_range.mpr (Nat.lt_of_not_le fun h => by rw [List.getElem?_eq_none h] at hk; cases hk)) t hk, _, _, _, _, rfl⟩
  · rintro _ ⟨hP, s2, s3, s4, s5, rfl⟩
    simp [still, hV]
    exact (rowOk_iff row).mpr hP
end Eng
set_option Elab.async false
set_option linter.all false
set_option maxRecDepth 100000
set_option maxHeartbeats 2000000
/-! K72A: is_row. -/
namespace Eng
open PySem PySem.Spec PyProof.Rows L2 Com
def rstF (r : Int) (x : Nat) : Int := if 0 < r then r - (x : Int) else r
theorem rst_neg : ∀ (l : List Nat) (r : Int), r < 0 → l.foldl rstF r < 0
  | [], r, h => h
  | x :: l, r, h => by
    rw [List.foldl_cons]
    refine rst_neg l _ ?_
    unfold rstF
    rw [if_neg (by omega)]; exact h
theorem rst_ar : ∀ (l : List Nat) (t : Nat), l.foldl rstF (t : Int) < 0 ↔ ar l t = false
  | [], t => by simp [ar]
  | x :: l, t => by
    rw [List.foldl_cons]
    by_cases h0 : t = 0
    · subst h0
      have e : rstF ((0 : Nat) : Int) x = ((0 : Nat) : Int) := by unfold rstF; rw [if_neg (by omega)]
      rw [e, rst_ar l 0, ar_zero, ar_zero]
    · by_cases h : x ≤ t
      · have e : rstF (t : Int) x = ((t - x : Nat) : Int) := by unfold rstF; rw [if_pos (by omega)]; omega
        rw [e, rst_ar l (t - x), ar]
        have e1 : (t == 0) = false := by simp; omega
        rw [e1, Bool.false_or, decide_eq_true h, Bool.true_and]
      · have e : rstF (t : Int) x < 0 := by unfold rstF; rw [if_pos (by omega)]; omega
        refine ⟨fun _ => ?_, fun _ => rst_neg l _ e⟩
        rw [ar]
        have e1 : (t == 0) = false := by simp; omega
        rw [e1, Bool.false_or, decide_eq_false h, Bool.false_and]
theorem run_is_row (row : List Nat) (hl : row.length ≤ 100000) : Rn K72.m_is_row [.val (.tup (dN row))] (.bl (rowV row && rowOk row)) false := by
  have hz := sizeL
  suffices h : wR K72.m_is_row [.val (.tup (dN row))] fun d o => o = false ∧ ∃ b, d = .bl b ∧ (b = true ↔ (rowV row && rowOk row) = true) by
    obtain ⟨d, o, h1, rfl, b, rfl, h2⟩ := rn_of h
    have : b = (rowV row && rowOk row) := by rw [Bool.eq_iff_iff]; exact h2
    rw [← this]; exact h1
  unfold K72.m_is_row
  refine wR_fn (by simp [ownOk]) ?_
  unfold K72.b_is_row
  simp only [List.cons_append, List.nil_append, List.replicate]
  refine wS_cutR (fun ρ => rowV row = true ∧ ρ = [.val (.tup (dN row)), .un, .un, .un, .un]) ?_ ?_
  · rcases List.eq_nil_or_concat row with e | ⟨r, z, e⟩
    · subst e
      simp [truth, still, rowV]
    · rw [List.concat_eq_append] at e
      subst e
      have hne : (dN (r ++ [z])).isEmpty = false := by simp [dN]
      have a1 : opIx (.tup (dN (r ++ [z]))) (.int (-1)) = some (.int (z : Int), false) := by
        refine ix_t ?_
        have e : dN (r ++ [z]) = dN r ++ [.int (z : Int)] := by simp [dN]
        rw [e]
        exact atI_last _ _
      have hsl : opSl none (some (-1)) (.tup (dN (r ++ [z]))) = some (.tup (dN r), false) := by
        rw [slm_t, List.dropLast_concat]
      simp only [wS_if, wT_or, wT_not, wT_tr, wT_B, wM_bin, wM_un, wM_cal, wM_C, wO_def, wPre_ex, wPre_nm, wPre_nil, List.getElem?_cons_succ, List.getElem?_cons_zero, rd_val, Option.isSome_some, true_and, wF_finl, wF_finr, fin_nil, wF_some]
      refine ⟨_, rfl, ?_⟩
      simp only [truth, wF_some, hne, Bool.not_true, Bool.not_false, Bool.false_eq_true, if_false, w1_one, neg_int, w2_two, a1, ne_i, wB_bl]
      by_cases hz1 : z = 1
      · have hz2 : (z : Int) = 1 := by omega
        simp only [hz2, decide_true, Bool.not_true, Bool.false_eq_true, if_false, wM_gx, wI_ex]
        rw [show mSlH (.nm 0) (.ex (mUn opNeg (.ex (mC (.int 1))))) = mBin (fun x l => (dI l).bind fun i => opSl none (some i) x) (.nm 0) (.ex (mUn opNeg (.ex (mC (.int 1))))) from rfl]
        simp only [wM_bin, wM_un, wM_C, wO_def, wPre_ex, wPre_nm, wPre_nil, List.getElem?_cons_succ, List.getElem?_cons_zero, rd_val, Option.isSome_some, true_and, wF_finl, wF_finr, fin_nil, wF_some, w1_one, neg_int, w2_two, dI, Option.bind_some, hsl, seqOf]
        refine ⟨rfl, ?_⟩
        refine wX_mp r _ (fun x : Nat => decide (x < 2)) rfl (fun x hx => ?_) ?_
        · simp [tgS, wipeE]
          omega
        · have hV : rowV (r ++ [z]) = !(r.any fun x => decide (x < 2)) := by
            rw [rowV_app, List.not_any_eq_all_not]
            simp [hz1]
            congr 1
            funext x
            by_cases h : 1 < x
            · simp [h]
              omega
            · simp [h]
              omega
          rw [hV]
          simp only [restE, wipeE, List.set_cons_succ, List.set_cons_zero, List.getD_cons_succ, List.getD_cons_zero, wPre_nil, wF_finl, wF_finr, fin_nil, wF_some, if_true]
          refine ⟨_, rfl, ?_⟩
          cases hall : r.any fun x => decide (x < 2) with
          | true =>
            simp [truth, still]
          | false =>
            simp [truth]
      · have hz2 : ¬ (z : Int) = 1 := by omega
        have hV : rowV (r ++ [z]) = false := by rw [rowV_app]; simp [hz1]
        rw [hV]
        simp [hz2, still]
  rintro _ ⟨hV, rfl⟩
  refine wS_cutR (fun ρ => (∀ k t, row[k]? = some t → ar (row.drop (k + 1)) t = true) ∧ ∃ s1 s2 s3 s4, ρ = [.val (.tup (dN row)), s1, s2, s3, s4]) ?_ ?_
  · simp only [wS_for, wI_enN, List.getElem?_cons_succ, List.getElem?_cons_zero, rd_val, wF_some, lstOf]
    have he : enD (dN row) = row.zipIdx.map fun q => D.tup [.int (q.2 : Nat), .int (q.1 : Nat)] := by
      unfold enD
      rw [List.zipIdx_map, List.map_map]; rfl
    rw [he]
    refine wL_each row.zipIdx _ (fun ρ => ∃ s1 s2 s3 s4, ρ = [.val (.tup (dN row)), s1, s2, s3, s4]) (fun q => ar (row.drop (q.2 + 1)) q.1 = true) rfl ⟨_, _, _, _, rfl⟩ (fun q ρ hq hS => ?_) fun ρ hS hP => ?_
    · obtain ⟨s1, s2, s3, s4, rfl⟩ := hS
      obtain ⟨t, k⟩ := q
      have ht : row[k]? = some t := by simpa [List.mem_zipIdx_iff_getElem?] using hq
      have hsl : opSl (some ((k : Int) + 1)) none (.tup (dN row)) = some (.tup (dN (row.drop (k + 1))), false) := by
        show some (D.tup (cutD (dN row) (some ((k : Int) + 1)) none), false) = _
        rw [show (k : Int) + 1 = ((k + 1 : Nat) : Int) by omega, cut_drop, ← List.map_drop]
      simp only [tgS, setAll, wF_some, List.set_cons_succ, List.set_cons_zero, wS_seq, wS_set, wM_var, List.getElem?_cons_succ, List.getElem?_cons_zero, rd_val, slotOf_f, nxt_nx, wS_for, wI_ex]
      rw [show mSlL (.nm 0) (.ex (mBin opAdd (.nm 2) (.ex (mC (.int 1))))) = mBin (fun x l => (dI l).bind fun i => opSl (some i) none x) (.nm 0) (.ex (mBin opAdd (.nm 2) (.ex (mC (.int 1))))) from rfl]
      simp only [wM_bin, wM_C, wO_def, wPre_ex, wPre_nm, wPre_nil, List.getElem?_cons_succ, List.getElem?_cons_zero, rd_val, Option.isSome_some, true_and, wF_finl, wF_finr, fin_nil, wF_some, w2_two, add_int, dI, Option.bind_some, hsl, seqOf]
      refine wL_fold (row.drop (k + 1)) (fun y : Nat => D.int (y : Int)) (fun (r : Int) ρ => ∃ s4, ρ = [.val (.tup (dN row)), .val (.int (t : Int)), .val (.int (k : Int)), .val (.int r), s4]) rstF (t : Int) rfl ⟨_, rfl⟩ (fun r y ρ hy hS => ?_) fun ρ hS => ?_
      · obtain ⟨s4, rfl⟩ := hS
        by_cases h : 0 < r
        · have : rstF r y = r - (y : Int) := if_pos h
          simp [tgS, h, this]
        · have : rstF r y = r := if_neg h
          simp [tgS, h, this]
      · obtain ⟨s4, rfl⟩ := hS
        have hr := rst_ar (row.drop (k + 1)) t
        by_cases hneg : (row.drop (k + 1)).foldl rstF (t : Int) < 0
        · have h1 := hr.mp hneg
          simp [hneg, still]
          intro _
          rw [Bool.eq_false_iff]
          intro hO
          have := (rowOk_iff row).mp hO k t ht
          rw [h1] at this; cases this
        · have h1 : ar (row.drop (k + 1)) t = true := by
            cases ha : ar (row.drop (k + 1)) t with
            | true => rfl
            | false => exact absurd (hr.mpr ha) hneg
          simp [hneg, h1]
    · obtain ⟨s1, s2, s3, s4, rfl⟩ := hS
      exact ⟨fun k t hk => hP (t, k) (by simpa [List.mem_zipIdx_iff_getElem?] using hk), _, _, _, _, rfl⟩
  · rintro _ ⟨hP, s1, s2, s3, s4, rfl⟩
    simp [still, hV]
    exact (rowOk_iff row).mpr hP
end Eng
set_option Elab.async false
set_option linter.all false
set_option maxRecDepth 100000
set_option maxHeartbeats 2000000
/-! K72B: _law_closed. -/
namespace Eng
open PySem PySem.Spec PyProof.Rows L2 Com
section
variable {α : Type} {g : Tg} {b : MS} {ρ : Env}
/-- a loop that gathers what it has shown -/
theorem wL_acc {Q : Fl → Env → Prop} {items : List D} (l : List α) (emb : α → D) (S : Prop → Env → Prop) (P : α → Prop) (R0 : Prop) (hi : items = l.map emb) (mono : ∀ R R' ρ, (R → R') → S R ρ → S R' ρ) (h0 : S R0 ρ)
    (step : ∀ x ρ R, x ∈ l → S R ρ → wF (tgS g (emb x) ρ) fun ρ1 => wS b ρ1 (turn (S (R ∧ P x)) Q)) (hn : ∀ ρ, S (R0 ∧ ∀ x ∈ l, P x) ρ → Q .nx ρ) : wL g b items ρ Q := by
  have key : ∀ (l acc : List α) (x : α), x ∈ l.foldl (fun acc x => x :: acc) acc ↔ x ∈ acc ∨ x ∈ l := by
    intro l
    induction l with
    | nil => intro acc x; simp
    | cons y l ih => intro acc x; rw [List.foldl_cons, ih, List.mem_cons, List.mem_cons]; exact ⟨fun h => by rcases h with (h | h) | h <;> simp [h], fun h => by rcases h with h | h | h <;> simp [h]⟩
  refine wL_fold l emb (fun (acc : List α) ρ => S (R0 ∧ ∀ x ∈ acc, P x) ρ) (fun acc x => x :: acc) [] hi (mono _ _ _ (fun h => ⟨h, fun x h => by cases h⟩) h0) (fun acc x ρ hx hS => ?_) fun ρ hS => hn ρ (mono _ _ _ (fun h => ⟨h.1, fun x hx => h.2 x ((key _ _ _).mpr (.inr hx))⟩) hS)
  refine wF_mono (step x ρ _ hx hS) fun ρ1 h1 => wS_mono h1 fun f ρ2 h2 => ?_
  have fin : S ((R0 ∧ ∀ y ∈ acc, P y) ∧ P x) ρ2 → S (R0 ∧ ∀ y ∈ x :: acc, P y) ρ2 := mono _ _ _ fun h => ⟨h.1.1, fun y hy => by
    rcases List.mem_cons.mp hy with e | hy
    · subst e; exact h.2
    · exact h.1.2 y hy⟩
  cases f with
  | nx => exact fin h2
  | cont => exact fin h2
  | brk => exact h2
  | ret d o => exact h2
end
/-- how many are false -/
def cf : List Bool → Nat
  | [] => 0
  | b :: r => (if b then 0 else 1) + cf r
theorem cf_set : ∀ (bs : List Bool) (n : Nat), n < bs.length → ht bs n = false → cf (bs.set n true) + 1 = cf bs
  | [], n, h, _ => by simp at h
  | b :: r, 0, _, h => by
    have : b = false := h
    subst this
    simp only [List.set_cons_zero, cf]
    simp
    omega
  | b :: r, n + 1, h, h2 => by
    have := cf_set r n (by simpa using h) h2
    simp only [List.set_cons_succ, cf]
    omega
theorem cf_le : ∀ bs : List Bool, cf bs ≤ bs.length
  | [] => Nat.le_refl _
  | b :: r => by
    have := cf_le r
    simp only [cf, List.length_cons]
    split <;> omega
theorem ht_set {bs : List Bool} {n k : Nat} (h : n < bs.length) : ht (bs.set n true) k = (ht bs k || decide (k = n)) := by
  unfold ht
  rw [List.getD_eq_getElem?_getD, List.getD_eq_getElem?_getD]
  by_cases e : n = k
  · subst e
    rw [List.getElem?_set_self h]; simp
  · rw [List.getElem?_set_ne e]
    have : ¬ k = n := fun e' => e e'.symm
    simp [this]
/-- what the law's own closing keeps -/
structure Clo (gs : List Nat) (c : Nat) (T : Nat → Prop) (bs : List Bool) : Prop where
  len : bs.length = c + 1
  up : ∀ n, ht bs n = true → T n
  low : ∀ n, n ≤ c → Sm gs n → ht bs n = true
def ClosedB (bs : List Bool) : Prop := ∀ z, ht bs z = true → ∀ x, ht bs x = true → ∀ y, ht bs y = true → z ≤ x → x ≤ y → x + y - z < bs.length → ht bs (x + y - z) = true
section
variable {B : Nat} {gs : List Nat} {c : Nat}
/-- the closing loop -/
theorem run_closing (hcs : c ≤ 100000) {T : Nat → Prop} (hT : Arf T) {bs0 : List Bool} (h0 : Clo gs c T bs0) {g l : D} {Q : Fl → Env → Prop}
    (hq : ∀ bs s5 s6 s7 s8, Clo gs c T bs → ClosedB bs → Q .nx [.val g, .val l, .own (.lst (dBl bs)), .val (.bl false), .un, s5, s6, s7, s8, .un, .un, .un]) :
    wS (whileM (mTr (.nm 3))
 (sSeq (sSet 3 (mC (.bl false)))
 (sSeq (sSet 5 (mComp [4] (iR1 [.ex (mCal bLen [.nm 2])]) (.one 4) (mTr (.ex (mBin opIx (.nm 2) (.nm 4)))) (mVar 4)))
 (sFor (iNm 5) (.one 6)
 (sFor (iNm 5) (.one 7)
 (sFor (iNm 5) (.one 8)
 (sIf (mAnd (mB (mChain pLe pLe (.nm 6) (.nm 7) (.nm 8))) (mAnd (mB (mBin opLt (.ex (mBin opSub (.ex (mBin opAdd (.nm 7) (.nm 8))) (.nm 6))) (.ex (mCal bLen [.nm 2])))) (mNot (mTr (.ex (mBin opIx (.nm 2) (.ex (mBin opSub (.ex (mBin opAdd (.nm 7) (.nm 8))) (.nm 6)))))))))
 (sSeq (sSetIx 2 (.ex (mBin opSub (.ex (mBin opAdd (.nm 7) (.nm 8))) (.nm 6))) (mC (.bl true)))
 (sSet 3 (mC (.bl true))))
 (sNop))))))) K72.fuel) [.val g, .val l, .own (.lst (dBl bs0)), .val (.bl true), .un, .un, .un, .un, .un, .un, .un, .un] Q := by
  have hz := sizeL
  refine wW_inv (m0 := 2 * cf bs0 + 1) (fun k ρ => ∃ bs ch s5 s6 s7 s8, ρ = [.val g, .val l, .own (.lst (dBl bs)), .val (.bl ch), .un, s5, s6, s7, s8, .un, .un, .un] ∧ Clo gs c T bs ∧ (ch = false → ClosedB bs) ∧ k = 2 * cf bs + (if ch then 1 else 0)) ⟨bs0, true, _, _, _, _, rfl, h0, fun h => absurd h (by decide), rfl⟩ (by have := cf_le bs0; have := h0.len; unfold K72.fuel fuel; omega) ?_
  rintro k _ ⟨bs, ch, s5, s6, s7, s8, rfl, hC, hcl, hk⟩
  simp only [wT_tr, wO_def, wPre_nm, wPre_nil, List.getElem?_cons_succ, List.getElem?_cons_zero, rd_val, Option.isSome_some, true_and, wF_finr, fin_nil, wF_some]
  refine ⟨_, rfl, ?_⟩
  simp only [truth, wF_some]
  cases ch with
  | false =>
    simp only [Bool.false_eq_true, if_false]
    exact hq bs s5 s6 s7 s8 hC (hcl rfl)
  | true =>
    have hlen := hC.len
    simp only [if_true, wS_seq, wS_set, wM_C, slotOf_f, nxt_nx, List.set_cons_succ, List.set_cons_zero, wM_comp, wI_r1, wM_cal, wO_def, wPre_ex, wPre_nm, wPre_nil, List.getElem?_cons_succ, List.getElem?_cons_zero, rd_val, rd_own, Option.isSome_some, true_and, wF_finl, wF_finr, fin_nil, wF_some, len_bl]
    refine ⟨_, rfl, ⟨by omega, by omega⟩, ?_⟩
    rw [Int.toNat_natCast]
    refine ⟨⟨by rw [rng_len]; omega, rfl⟩, ?_⟩
    refine rows_wK rfl rfl (by decide) ?_
    simp only [restE, wipeE, List.set_cons_succ, List.set_cons_zero, List.getD_cons_succ, List.getD_cons_zero, slotOf_t, nxt_nx, wS_for, wI_nm, List.getElem?_cons_succ, List.getElem?_cons_zero, rd_own, wF_some, seqOf]
    refine wL_acc (htL bs) (fun z : Nat => D.int (z : Int)) (fun R ρ => ∃ bs' ch', (∃ s6 s7 s8, ρ = [.val g, .val l, .own (.lst (dBl bs')), .val (.bl ch'), .un, .own (.lst (dN (htL bs))), s6, s7, s8, .un, .un, .un]) ∧ Clo gs c T bs' ∧ (∀ n, ht bs n = true → ht bs' n = true) ∧ (ch' = true → cf bs' < cf bs) ∧ (ch' = false → bs' = bs ∧ R))
      (fun z => ∀ x, ht bs x = true → ∀ y, ht bs y = true → z ≤ x → x ≤ y → x + y - z < bs.length → ht bs (x + y - z) = true) True rfl (fun R R' ρ h ⟨bs', ch', a, b, d, e, f⟩ => ⟨bs', ch', a, b, d, e, fun q => ⟨(f q).1, h (f q).2⟩⟩) ⟨bs, false, ⟨_, _, _, rfl⟩, hC, fun _ h => h, fun h => absurd h (by decide), fun _ => ⟨rfl, trivial⟩⟩ (fun z ρ R hzm hS => ?_) fun ρ hS => ?_
    · obtain ⟨bs1, ch1, ⟨s6', s7', s8', rfl⟩, hrest⟩ := hS
      have hzs := htL_mem.mp hzm
      simp only [tgS, wF_some, List.set_cons_succ, List.set_cons_zero, wS_for, wI_nm, List.getElem?_cons_succ, List.getElem?_cons_zero, rd_own, seqOf]
      refine wL_acc (htL bs) (fun x : Nat => D.int (x : Int)) (fun R ρ => ∃ bs' ch', (∃ s7 s8, ρ = [.val g, .val l, .own (.lst (dBl bs')), .val (.bl ch'), .un, .own (.lst (dN (htL bs))), .val (.int (z : Int)), s7, s8, .un, .un, .un]) ∧ Clo gs c T bs' ∧ (∀ n, ht bs n = true → ht bs' n = true) ∧ (ch' = true → cf bs' < cf bs) ∧ (ch' = false → bs' = bs ∧ R))
        (fun x => ∀ y, ht bs y = true → z ≤ x → x ≤ y → x + y - z < bs.length → ht bs (x + y - z) = true) R rfl (fun R R' ρ h ⟨bs', ch', a, b, d, e, f⟩ => ⟨bs', ch', a, b, d, e, fun q => ⟨(f q).1, h (f q).2⟩⟩) ⟨bs1, ch1, ⟨_, _, rfl⟩, hrest⟩ (fun x ρ R hxm hS => ?_) fun ρ hS => ?_
      · obtain ⟨bs2, ch2, ⟨s7', s8', rfl⟩, hrest⟩ := hS
        have hxs := htL_mem.mp hxm
        simp only [tgS, wF_some, List.set_cons_succ, List.set_cons_zero, wS_for, wI_nm, List.getElem?_cons_succ, List.getElem?_cons_zero, rd_own, seqOf]
        refine wL_acc (htL bs) (fun y : Nat => D.int (y : Int)) (fun R ρ => ∃ bs' ch', (∃ s8, ρ = [.val g, .val l, .own (.lst (dBl bs')), .val (.bl ch'), .un, .own (.lst (dN (htL bs))), .val (.int (z : Int)), .val (.int (x : Int)), s8, .un, .un, .un]) ∧ Clo gs c T bs' ∧ (∀ n, ht bs n = true → ht bs' n = true) ∧ (ch' = true → cf bs' < cf bs) ∧ (ch' = false → bs' = bs ∧ R))
          (fun y => z ≤ x → x ≤ y → x + y - z < bs.length → ht bs (x + y - z) = true) R rfl (fun R R' ρ h ⟨bs', ch', a, b, d, e, f⟩ => ⟨bs', ch', a, b, d, e, fun q => ⟨(f q).1, h (f q).2⟩⟩) ⟨bs2, ch2, ⟨_, rfl⟩, hrest⟩ (fun y ρ R hym hS => ?_) fun ρ hS => ?_
        · obtain ⟨bs3, ch3, ⟨s8', rfl⟩, hC3, hup3, hcf3, hsame3⟩ := hS
          have hys := htL_mem.mp hym
          have hlen3 := hC3.len
          have skip : (z ≤ x → x ≤ y → x + y - z < bs.length → ht bs3 (x + y - z) = true) → ∃ bs' ch', (∃ s8, ([.val g, .val l, .own (.lst (dBl bs3)), .val (.bl ch3), .un, .own (.lst (dN (htL bs))), .val (.int (z : Int)), .val (.int (x : Int)), .val (.int (y : Int)), .un, .un, .un] : Env) = [.val g, .val l, .own (.lst (dBl bs')), .val (.bl ch'), .un, .own (.lst (dN (htL bs))), .val (.int (z : Int)), .val (.int (x : Int)), s8, .un, .un, .un]) ∧ Clo gs c T bs' ∧ (∀ n, ht bs n = true → ht bs' n = true) ∧ (ch' = true → cf bs' < cf bs) ∧ (ch' = false → bs' = bs ∧ (R ∧ (z ≤ x → x ≤ y → x + y - z < bs.length → ht bs (x + y - z) = true))) := fun h =>
            ⟨bs3, ch3, ⟨_, rfl⟩, hC3, hup3, hcf3, fun q => ⟨(hsame3 q).1, (hsame3 q).2, by rw [← (hsame3 q).1]; rw [(hsame3 q).1] at h ⊢; exact h⟩⟩
          simp only [tgS, wF_some, List.set_cons_succ, List.set_cons_zero, wS_if, wT_and, wT_B, wM_chain, wO_def, wPre_ex, wPre_nm, wPre_nil, List.getElem?_cons_succ, List.getElem?_cons_zero, rd_val, rd_own, Option.isSome_some, true_and, wF_finl, wF_finr, fin_nil, wCh_two, pLe]
          by_cases h1 : z ≤ x
          · have d1 : decide ((z : Int) ≤ (x : Int)) = true := by simp; omega
            rw [if_pos d1]
            refine ⟨_, rfl, ?_⟩
            simp only [wB_bl]
            by_cases h2 : x ≤ y
            · have d2 : decide ((x : Int) ≤ (y : Int)) = true := by simp; omega
              simp only [d2, if_true, wM_bin, wM_cal, wT_not, wT_tr, wO_def, wPre_ex, wPre_nm, wPre_nil, List.getElem?_cons_succ, List.getElem?_cons_zero, rd_val, rd_own, Option.isSome_some, true_and, wF_finl, wF_finr, fin_nil, wF_some, w2_two, cmp_int, add_int, sub_int, len_bl, wB_bl]
              by_cases h3 : x + y - z < bs3.length
              · have d3 : decide ((x : Int) + (y : Int) - (z : Int) < (bs3.length : Int)) = true := by simp; omega
                have a1 : opIx (.lst (dBl bs3)) (.int ((x : Int) + (y : Int) - (z : Int))) = some (.bl (ht bs3 (x + y - z)), false) := ix_l (at_of (x + y - z) (by omega) (ht_at h3))
                simp only [d3, if_true, a1, w2_two]
                refine ⟨_, rfl, ?_⟩
                simp only [truth, wF_some]
                refine ⟨_, rfl, ?_⟩
                simp only [truth, wF_some]
                cases h4 : ht bs3 (x + y - z) with
                | true =>
                  simp only [Bool.not_true, Bool.false_eq_true, if_false, wS_nop, turn_nx]
                  exact skip fun _ _ _ => h4
                | false =>
                  have hix : ixN (dBl bs3).length ((x : Int) + (y : Int) - (z : Int)) = some (x + y - z) := by
                    unfold ixN
                    rw [List.length_map, if_pos (by omega), if_pos (by omega)]
                    congr 1
                    omega
                  have hset : (dBl bs3).set (x + y - z) (.bl true) = dBl (bs3.set (x + y - z) true) := by show (List.map D.bl bs3).set _ (D.bl true) = List.map D.bl (bs3.set _ true); rw [List.map_set]
                  simp only [Bool.not_false, if_true, wS_seq, wS_setIx, wM_C, wO_def, wPre_ex, wM_bin, wPre_nm, wPre_nil, List.getElem?_cons_succ, List.getElem?_cons_zero, rd_val, Option.isSome_some, true_and, wF_finl, wF_finr, fin_nil, wF_some, w2_two, add_int, sub_int]
                  refine ⟨⟨_, rfl⟩, _, _, _, rfl, rfl, hix, ?_⟩
                  simp only [nxt_nx, wS_set, wM_C, slotOf_f, List.set_cons_succ, List.set_cons_zero, turn_nx, hset]
                  have hcf := cf_set bs3 _ h3 h4
                  refine ⟨bs3.set (x + y - z) true, true, ⟨_, rfl⟩, ⟨by rw [List.length_set]; exact hC3.len, fun n hn => ?_, fun n hn hs => ?_⟩, fun n hn => ?_, fun _ => ?_, fun h => by cases h⟩
                  · rw [ht_set h3, Bool.or_eq_true, decide_eq_true_eq] at hn
                    rcases hn with hn | hn
                    · exact hC3.up n hn
                    · subst hn
                      exact hT x y z (hC.up x hxs) (hC.up y hys) (hC.up z hzs) h1 (by omega)
                  · rw [ht_set h3, hC3.low n hn hs, Bool.true_or]
                  · rw [ht_set h3, hup3 n hn, Bool.true_or]
                  · cases ch3 with
                    | true => have := hcf3 rfl; omega
                    | false => rw [(hsame3 rfl).1] at hcf ⊢; omega
              · have d3 : decide ((x : Int) + (y : Int) - (z : Int) < (bs3.length : Int)) = false := by simp; omega
                simp only [d3, Bool.false_eq_true, if_false, wS_nop, turn_nx]
                exact skip fun _ _ h => absurd h (by omega)
            · have d2 : decide ((x : Int) ≤ (y : Int)) = false := by simp; omega
              simp only [d2, Bool.false_eq_true, if_false, wS_nop, turn_nx]
              exact skip fun _ h => absurd h h2
          · have d1 : decide ((z : Int) ≤ (x : Int)) = false := by simp; omega
            simp only [d1, Bool.false_eq_true, if_false, wB_bl, wS_nop, turn_nx]
            exact skip fun h => absurd h h1
        · obtain ⟨bs3, ch3, ⟨s8', rfl⟩, hC3, hup3, hcf3, hsame3⟩ := hS
          exact ⟨bs3, ch3, ⟨_, _, rfl⟩, hC3, hup3, hcf3, fun q => ⟨(hsame3 q).1, (hsame3 q).2.1, fun y hy h1 h2 h3 => (hsame3 q).2.2 y (htL_mem.mpr hy) h1 h2 h3⟩⟩
      · obtain ⟨bs3, ch3, ⟨s7', s8', rfl⟩, hC3, hup3, hcf3, hsame3⟩ := hS
        exact ⟨bs3, ch3, ⟨_, _, _, rfl⟩, hC3, hup3, hcf3, fun q => ⟨(hsame3 q).1, (hsame3 q).2.1, fun x hx y hy h1 h2 h3 => (hsame3 q).2.2 x (htL_mem.mpr hx) y hy h1 h2 h3⟩⟩
    · obtain ⟨bs3, ch3, ⟨s6', s7', s8', rfl⟩, hC3, hup3, hcf3, hsame3⟩ := hS
      refine ⟨2 * cf bs3 + (if ch3 then 1 else 0), ?_, bs3, ch3, _, _, _, _, rfl, hC3, fun q => ?_, rfl⟩
      · cases ch3 with
        | true => have := hcf3 rfl; simp at hk ⊢; omega
        | false => rw [(hsame3 rfl).1]; simp at hk ⊢; omega
      · obtain ⟨e, _, h⟩ := hsame3 q
        subst e
        exact fun z hz x hx y hy h1 h2 h3 => h z (htL_mem.mpr hz) x hx y hy h1 h2 h3
end
end Eng
set_option Elab.async false
set_option linter.all false
set_option maxRecDepth 100000
set_option maxHeartbeats 2000000
/-! K72C: _law_closed, the whole. -/
namespace Eng
open PySem PySem.Spec PyProof.Rows L2 Com
def lowB (bs : List Bool) : List Nat := ((List.range (bs.length - 1)).map (· + 1)).filter (ht bs)
theorem lowB_mem {bs : List Bool} {n : Nat} : n ∈ lowB bs ↔ 0 < n ∧ ht bs n = true := by
  unfold lowB
  rw [List.mem_filter, List.mem_map]
  constructor
  · rintro ⟨⟨k, _, rfl⟩, h⟩
    exact ⟨by omega, h⟩
  · rintro ⟨h1, h2⟩
    have := ht_lt h2
    exact ⟨⟨n - 1, List.mem_range.mpr (by omega), by omega⟩, h2⟩
theorem lowB_len (bs : List Bool) : (lowB bs).length ≤ bs.length - 1 := by
  unfold lowB
  refine Nat.le_trans (List.length_filter_le _ _) ?_
  rw [List.length_map, List.length_range]
  exact Nat.le_refl _
section
variable {B : Nat} {gs : List Nat} {c : Nat}
theorem clo_arf (hc : Con gs c) {row : List Nat} (R : MulR gs c row) {bs : List Bool} (h : Clo gs c (fun n => ar row n = true) bs) (hcl : ClosedB bs) (n : Nat) (hn : n ≤ c) : ht bs n = true ↔ ar row n = true := by
  refine ⟨h.up n, fun ha => ?_⟩
  have hl := h.len
  have := R.least (fun k => c < k ∨ ht bs k = true) (.inr (h.low 0 (by omega) .zero)) (fun x y z hx hy hz h1 h2 => by
    by_cases hlt : c < x + y - z
    · exact .inl hlt
    · have hx := hx.resolve_left (by omega)
      have hy := hy.resolve_left (by omega)
      have hz := hz.resolve_left (by omega)
      refine .inr ?_
      rcases Nat.le_total x y with h3 | h3
      · exact hcl z hz x hx y hy h1 h3 (by omega)
      · have := hcl z hz y hy x hx h2 h3 (by omega)
        rwa [Nat.add_comm y x] at this) (fun k hk => by
    by_cases h1 : c < k
    · exact .inl h1
    · exact .inr (h.low k (by omega) hk)) n ha
  exact this.resolve_left (by omega)
/-- the numbers that the law hands to _law_least -/
def nsB (bs : List Bool) (c m : Nat) : List Nat := lowB bs ++ (List.range m).map fun k => c + 1 + k
theorem nsB_sm (hc : Con gs c) {row : List Nat} (R : MulR gs c row) {bs : List Bool} (h : Clo gs c (fun n => ar row n = true) bs) (hcl : ClosedB bs) {m : Nat} (hm : m ∈ lowB bs ++ [c + 1]) (n : Nat) : Sm (nsB bs c m) n ↔ ar row n = true := by
  have ha := ar_arf row R.ok
  have hm0 : 0 < m := by
    rcases List.mem_append.mp hm with h1 | h1
    · exact (lowB_mem.mp h1).1
    · rw [List.mem_singleton.mp h1]; omega
  have hmem : m ∈ nsB bs c m := by
    rcases List.mem_append.mp hm with h1 | h1
    · exact List.mem_append_left _ h1
    · exact List.mem_append_right _ (List.mem_map.mpr ⟨0, List.mem_range.mpr hm0, by rw [List.mem_singleton.mp h1]⟩)
  constructor
  · refine ha.sm (ar_zero _) fun g hg => ?_
    rcases List.mem_append.mp hg with h1 | h1
    · exact h.up g (lowB_mem.mp h1).2
    · obtain ⟨k, _, rfl⟩ := List.mem_map.mp h1
      exact R.up _ (hc.all _ (by omega))
  · have far : ∀ n, c < n → Sm (nsB bs c m) n := by
      intro n
      induction n using Nat.strongRecOn with
      | ind n ih =>
        intro hn
        by_cases h1 : n ≤ c + m
        · exact Sm.one (List.mem_append_right _ (List.mem_map.mpr ⟨n - c - 1, List.mem_range.mpr (by omega), by omega⟩))
        · have := Sm.add (ih (n - m) (by omega) (by omega)) hmem
          rwa [Nat.sub_add_cancel (by omega)] at this
    intro hn
    by_cases h0 : n = 0
    · subst h0; exact .zero
    · by_cases h1 : n ≤ c
      · exact Sm.one (List.mem_append_left _ (lowB_mem.mpr ⟨by omega, (clo_arf hc R h hcl n h1).mpr hn⟩))
      · exact far n (by omega)
theorem run__law_closed (G : Gen B gs) (hB : B ≤ 15) (hc : Con gs c) (hcs : c ≤ 46) {m : Nat} {l : List Nat} (R : MulR gs c (m :: l)) : Rn K72.m__law_closed [.val (.tup (dN gs))] (.tup (dN (lstM (genR (m :: l) m)))) false := by
  have hz := sizeL
  have hlast := run__law_last G (by omega) hc
  have htab := run_table (g := .tup (dN gs)) rfl G.pos c (by omega)
  have hpos := rowV_pos R.v
  have hT := ar_arf (m :: l) R.ok
  unfold Rn K72.m__law_closed
  refine wR_fn (by simp [ownOk]) ?_
  unfold K72.b__law_closed
  simp only [List.cons_append, List.nil_append, List.replicate, wS_seq, wS_set]
  rw [call1 hlast rfl (by simp [clean])]
  simp only [slotOf_f, nxt_nx, List.set_cons_succ, List.set_cons_zero, wS_seq, wS_set]
  rw [call2e (p := false) htab rfl (fun Q => ?_) (clean1_bl _)]
  rotate_left 1
  · simp only [wM_bin, wM_C, wO_def, wPre_ex, wPre_nm, wPre_nil, List.getElem?_cons_succ, List.getElem?_cons_zero, rd_val, Option.isSome_some, true_and, wF_finl, wF_finr, fin_nil, wF_some, w2_two, add_int]
    rw [Int.sub_add_cancel]
  simp only [slotOf_t, slotOf_f, nxt_nx, List.set_cons_succ, List.set_cons_zero, wS_seq, wS_set, wM_C]
  have h0 : Clo gs c (fun n => ar (m :: l) n = true) (tabB gs c) := by
    have hl : (tabB gs c).length = c + 1 := by simp [tabB]
    refine ⟨hl, fun n hn => ?_, fun n hn hs => ?_⟩
    · have hlt := ht_lt hn
      rw [hl] at hlt
      rw [ht_tab (by omega)] at hn
      exact R.up n (sb_iff.mp hn)
    · rw [ht_tab hn]; exact sb_iff.mpr hs
  refine run_closing (by omega) hT h0 (fun bs s5 s6 s7 s8 hC hcl => ?_)
  have hlen := hC.len
  have hll := lowB_len bs
  rw [hlen] at hll
  -- the least member
  obtain ⟨v, hv⟩ := minZ_some ((lowB bs ++ [c + 1]).map fun n : Nat => (n : Int)) (by simp)
  obtain ⟨m', hm', hmin⟩ : ∃ m' : Nat, v = (m' : Int) ∧ m' ∈ lowB bs ++ [c + 1] ∧ ∀ x ∈ lowB bs ++ [c + 1], m' ≤ x := by
    obtain ⟨h3, h4⟩ := minZ_ok hv
    obtain ⟨m', h5, h6⟩ := List.mem_map.mp h3
    exact ⟨m', h6.symm, h5, fun x hx => by have := h4 _ (List.mem_map.mpr ⟨x, hx, rfl⟩); omega⟩
  subst hm'
  have hbm : bMin [.lst (dN (lowB bs ++ [c + 1]))] = some (.int (m' : Int), false) := by
    rw [dN_Z]; exact min_lZ hv
  have hm15 : m' ≤ 15 := by
    obtain ⟨g, r, e, hg0, hgB, hgm, _⟩ := G.head
    by_cases hgc : g ≤ c
    · have := hmin.2 g (List.mem_append_left _ (lowB_mem.mpr ⟨hg0, hC.low g hgc (Sm.one hgm)⟩))
      omega
    · have := hmin.2 (c + 1) (List.mem_append_right _ (List.mem_singleton.mpr rfl))
      omega
  have hnl : (nsB bs c m').length < 64 := by
    unfold nsB
    rw [List.length_append, List.length_map, List.length_range]
    omega
  have hnp : ∀ x ∈ nsB bs c m', 0 < x := fun x hx => by
    rcases List.mem_append.mp hx with h | h
    · exact (lowB_mem.mp h).1
    · obtain ⟨k, _, rfl⟩ := List.mem_map.mp h
      omega
  have hnm : ∀ x ∈ nsB bs c m', x + 1 ≤ sizeLine := fun x hx => by
    rcases List.mem_append.mp hx with h | h
    · have := ht_lt (lowB_mem.mp h).2
      omega
    · obtain ⟨k, hk, rfl⟩ := List.mem_map.mp h
      have := List.mem_range.mp hk
      omega
  have hls := run_least (ns := nsB bs c m') (s0 := .val (.lst (dN (nsB bs c m')))) rfl hnp hnl hnm
  have hcan : lstM (nsB bs c m') = lstM (genR (m :: l) m) := lst_canon hnp (genR_pos hpos) fun n => by
    rw [nsB_sm hc R hC hcl hmin.1, genR_Sm hpos R.ok]
  rw [hcan] at hls
  simp only [nxt_nx, wS_seq, wS_set, wM_comp, wI_r2, wM_cal, wM_C, wO_def, wPre_ex, wPre_nm, wPre_nil, List.getElem?_cons_succ, List.getElem?_cons_zero, rd_val, rd_own, Option.isSome_some, true_and, wF_finl, wF_finr, fin_nil, wF_some, len_bl]
  refine ⟨_, _, rfl, ⟨by omega, by omega, by omega, by omega⟩, ?_⟩
  rw [show ((bs.length : Int) - 1).toNat = bs.length - 1 by omega, rng1]
  refine ⟨⟨by simp only [List.length_map, List.length_range] at *; omega, rfl⟩, ?_⟩
  refine wK_ls ((List.range (bs.length - 1)).map (· + 1)) _ (ht bs) (fun k : Nat => .int (k : Int)) rfl (fun k hk => ?_) ?_
  · have hkl : k < bs.length := by
      obtain ⟨j, hj, e⟩ := List.mem_map.mp hk
      have := List.mem_range.mp hj
      omega
    have a1 : opIx (.lst (dBl bs)) (.int (k : Int)) = some (.bl (ht bs k), false) := ix_l (at_of k rfl (ht_at hkl))
    cases hb : ht bs k with
    | true => simp [tgS, wipeE, a1, hb, truth]
    | false => simp [tgS, wipeE, a1, hb, truth]
  have hlowD : (((List.range (bs.length - 1)).map (· + 1)).filter (ht bs)).map (fun k : Nat => D.int (k : Int)) = dN (lowB bs) := rfl
  rw [hlowD]
  have hadd : opAdd (.lst (dN (lowB bs))) (.lst [.int ((c : Int) - 1 + 2)]) = some (.lst (dN (lowB bs ++ [c + 1])), true) := by
    rw [add_ll (by simp only [List.length_map, List.length_cons, List.length_nil]; omega)]
    rw [show ((c : Int) - 1 + 2) = ((c + 1 : Nat) : Int) by omega]
    simp [dN]
  simp only [restE, wipeE, List.set_cons_succ, List.set_cons_zero, List.getD_cons_succ, List.getD_cons_zero, slotOf_t, slotOf_f, nxt_nx, wS_seq, wS_set, wM_cal, wM_bin, wM_lst, wV_cons, wV_nil, wM_C, wO_def, wPre_ex, wPre_nm, wPre_nil, List.getElem?_cons_succ, List.getElem?_cons_zero, rd_val, rd_own, Option.isSome_some, true_and, wF_finl, wF_finr, fin_nil, wF_some, w2_two, add_int, hadd, hbm, wS_ret]
  rw [call1e (p := true) hls (wM_eq ?_) (clean_N _)]
  · simp [still]
  · simp only [wM_bin, wM_comp, wI_r2, wM_C, wO_def, wPre_ex, wPre_nm, wPre_nil, List.getElem?_cons_succ, List.getElem?_cons_zero, rd_val, rd_own, Option.isSome_some, true_and, wF_finl, wF_finr, fin_nil, wF_some, w2_two, add_int]
    refine ⟨_, _, rfl, ⟨by omega, by omega, by omega, by omega⟩, ?_⟩
    rw [show ((m' : Int) + 1 - 1).toNat = m' by omega, rng1]
    refine ⟨⟨by simp only [List.length_map, List.length_range] at *; omega, rfl⟩, ?_⟩
    refine wK_mp ((List.range m').map (· + 1)) _ (fun k : Nat => .int ((c : Int) - 1 + 1 + (k : Int))) rfl (fun k hk => ?_) ?_
    · simp [tgS, wipeE]
    · have hL : ((List.range m').map (· + 1)).map (fun k : Nat => D.int ((c : Int) - 1 + 1 + (k : Int))) = dN ((List.range m').map fun k => c + 1 + k) := by
        rw [dN, List.map_map, List.map_map]
        apply List.map_congr_left
        intro k _
        show D.int ((c : Int) - 1 + 1 + ((k + 1 : Nat) : Int)) = D.int ((c + 1 + k : Nat) : Int)
        exact congrArg D.int (by omega)
      have had : opAdd (.lst (dN (lowB bs))) (.lst (dN ((List.range m').map fun k => c + 1 + k))) = some (.lst (dN (nsB bs c m')), true) := by
        rw [add_ll (by rw [List.length_map, List.length_map, List.length_map, List.length_range]; omega), ← List.map_append]
        rfl
      rw [hL]
      simp only [restE, wipeE, List.set_cons_succ, List.set_cons_zero, List.getD_cons_succ, List.getD_cons_zero, wPre_nil, wF_finl, wF_finr, fin_nil, wF_some, w2_two, List.getElem?_cons_succ, List.getElem?_cons_zero, rd_own, had]
      exact ⟨trivial, trivial, trivial⟩
end
end Eng
set_option Elab.async false
set_option linter.all false
set_option maxRecDepth 100000
set_option maxHeartbeats 4000000
/-! K72D: the law's turn. -/
namespace Eng
open PySem PySem.Spec PyProof.Rows L2 Com
/-! 4, 6, 9 -/
theorem sm469 (n : Nat) (h : 12 ≤ n) : Sm [4, 6, 9] n := by
  have h4 : ∀ k, Sm [4, 6, 9] (k * 4) := fun k => Sm.mul (by decide) k
  have h6 : Sm [4, 6, 9] 6 := Sm.one (by decide)
  have h9 : Sm [4, 6, 9] 9 := Sm.one (by decide)
  have hr : n % 4 = 0 ∨ n % 4 = 1 ∨ n % 4 = 2 ∨ n % 4 = 3 := by omega
  rcases hr with h | h | h | h
  · have := h4 (n / 4)
    rwa [show n / 4 * 4 = n by omega] at this
  · have := (h4 ((n - 9) / 4)).add2 h9
    rwa [show (n - 9) / 4 * 4 + 9 = n by omega] at this
  · have := (h4 ((n - 6) / 4)).add2 h6
    rwa [show (n - 6) / 4 * 4 + 6 = n by omega] at this
  · have := (h4 ((n - 15) / 4)).add2 (h6.add2 h9)
    rwa [show (n - 15) / 4 * 4 + (6 + 9) = n by omega] at this
theorem con469 : Con [4, 6, 9] 12 := by
  refine ⟨sm469, fun n e h => ?_⟩
  have : n = 11 := by omega
  subst this
  have n1 : ∀ k, Sm [4, 6, 9] k → k ≠ 1 ∧ k ≠ 2 ∧ k ≠ 3 ∧ k ≠ 5 ∧ k ≠ 7 ∧ k ≠ 11 := by
    intro k hk
    induction hk with
    | zero => omega
    | @add m g _ hg ih =>
      have : g = 4 ∨ g = 6 ∨ g = 9 := by simpa using hg
      omega
  exact (n1 11 h).2.2.2.2.2 rfl
theorem gen469 : Gen 15 [4, 6, 9] := by
  refine ⟨by simp, by decide, by decide, by decide, by decide, fun m hm r hr => ⟨r + 12 * m, sm469 _ (by omega), ?_⟩⟩
  rw [Nat.mul_comm, Nat.add_mul_mod_self_left, Nat.mod_eq_of_lt hr]
theorem ex72 {d : D} (h : plD 6 d = true) : Rn m__law_exact [.val d, .val d] (.bl true) false := run_exact 6 d h
theorem plD_tN (n : Nat) (l : List Nat) (h : l.length ≤ sizeLine) : plD (n + 2) (.tup (dN l)) = true := by
  simp only [plD, Bool.and_eq_true, decide_eq_true_eq, List.length_map]
  exact ⟨h, by simp [List.all_eq_true, plD]⟩
theorem ar_take : ∀ (row : List Nat) (k : Nat), ar row ((row.take k).sum + (k - row.length)) = true
  | [], _ => rfl
  | m :: l, 0 => by simp [ar]
  | m :: l, k + 1 => by
    have := ar_take l k
    rw [List.take_succ_cons, List.sum_cons, List.length_cons, show k + 1 - (l.length + 1) = k - l.length by omega]
    exact ar_cons.mpr (.inr ⟨by omega, by rwa [show m + (l.take k).sum + (k - l.length) - m = (l.take k).sum + (k - l.length) by omega]⟩)
/-- a row that the law draws -/
structure Row (n : Nat) (row : List Nat) : Prop where
  v : rowV row = true
  ok : rowOk row = true
  len : row.length ≤ n
  lt : ∀ x ∈ row, x < 30
theorem Row.ne {n : Nat} {row : List Nat} (h : Row n row) : ∃ m l, row = m :: l := by
  cases row with
  | nil => have := h.v; cases this
  | cons m l => exact ⟨m, l, rfl⟩
theorem sum_lt : ∀ (l : List Nat) (b : Nat), (∀ x ∈ l, x < b) → l.sum ≤ l.length * b
  | [], b, _ => by simp
  | x :: l, b, h => by
    have h1 := h x List.mem_cons_self
    have h2 := sum_lt l b fun y hy => h y (List.mem_cons_of_mem _ hy)
    rw [List.sum_cons, List.length_cons, Nat.succ_mul]
    omega
theorem sum_ge : ∀ (l : List Nat), (∀ x ∈ l, 0 < x) → l.length ≤ l.sum
  | [], _ => by simp
  | x :: l, h => by
    have h1 := h x List.mem_cons_self
    have h2 := sum_ge l fun y hy => h y (List.mem_cons_of_mem _ hy)
    rw [List.sum_cons, List.length_cons]
    omega
/-- the semigroup of a row -/
theorem genR_gen {m : Nat} {l : List Nat} (hp : ∀ x ∈ m :: l, 0 < x) (ho : rowOk (m :: l) = true) (hl : (m :: l).length + m < 64) (hs : (m :: l).sum + m ≤ 2000) :
    Gen 2000 (lstM (genR (m :: l) m)) ∧ (∀ n, Sm (lstM (genR (m :: l) m)) n ↔ ar (m :: l) n = true) ∧ ∃ c, Con (lstM (genR (m :: l) m)) c := by
  have hsm : ∀ n, Sm (lstM (genR (m :: l) m)) n ↔ ar (m :: l) n = true := fun n => by rw [lst_Sm, genR_Sm hp ho]
  have sub : ∀ x ∈ lstM (genR (m :: l) m), x ∈ genR (m :: l) m := fun x hx => by
    rcases lst_sub _ _ hx with h | h
    · cases h
    · exact sortN_mem.mp h
  have hle : ∀ x ∈ genR (m :: l) m, x ≤ 2000 := fun x hx => by
    rcases List.mem_append.mp hx with h | h
    · have := (psum_ord (m :: l) 0 hp).2 x h
      omega
    · obtain ⟨k, hk, rfl⟩ := List.mem_map.mp h
      have := List.mem_range.mp hk
      omega
  have hcon : ∃ c, Con (lstM (genR (m :: l) m)) c := by
    obtain ⟨c, h1, _⟩ := con_of (gs := lstM (genR (m :: l) m)) (m :: l).sum fun n hn => (hsm n).mpr (ar_far _ _ hn)
    exact ⟨c, h1⟩
  refine ⟨⟨fun e => ?_, fun x hx => genR_pos hp x (sub x hx), fun x hx => hle x (sub x hx), ?_, ?_, fun k hk r hr => ?_⟩, hsm, hcon⟩
  · have := (hsm 2000).mpr (ar_far _ _ (by omega))
    rw [e] at this
    obtain ⟨g, hg, _⟩ := this.last (by omega)
    cases hg
  · have h1 := lst_len (sortN (genR (m :: l) m)) []
    have h2 := sortN_len (genR (m :: l) m)
    have h3 : (genR (m :: l) m).length = (m :: l).length + m := by
      unfold genR
      rw [List.length_append, List.length_map, List.length_range, psum_len]
    show ((sortN (genR (m :: l) m)).foldl lstStep []).length < 64
    simp only [List.length_nil] at h1
    omega
  · exact lst_ord _ _ (by rw [List.nil_append]; exact sortN_lt _)
  · refine ⟨r + 2000 * k, (hsm _).mpr (ar_far _ _ ?_), ?_⟩
    · have : 2000 ≤ 2000 * k := Nat.le_mul_of_pos_right 2000 hk
      omega
    · rw [Nat.mul_comm, Nat.add_mul_mod_self_left, Nat.mod_eq_of_lt hr]
end Eng
set_option Elab.async false
set_option linter.all false
set_option maxRecDepth 100000
set_option maxHeartbeats 4000000
/-! K72G: the law's turn. -/
namespace Eng
open PySem PySem.Spec PyProof.Rows L2 Com
structure T72 (ns : List Int) (ρ : Env) : Prop where
  ex : ∃ (a b : Int) (s2 s3 s4 s5 s6 s7 s8 s9 s10 s11 : Slot), 0 ≤ a ∧ 0 ≤ b ∧ ρ = [.val (.scr (ns.map .int)), .own (St a b), s2, s3, s4, s5, s6, s7, s8, s9, s10, s11]
theorem law_arf_eq {B : Nat} {gs : List Nat} {c : Nat} (G : Gen B gs) (hB : B ≤ 2000) (hc : Con gs c) (hcs : c ≤ 46) : ∃ b, Rn m__law_arf [.val (.lst (dBl (tabB gs (c + 1))))] (.bl b) false ∧ Rn m_is_arf [.val (.tup (dN gs))] (.bl b) false ∧ (b = true ↔ Arf (Sm gs)) := by
  have hl : (tabB gs (c + 1)).length = c + 2 := by simp [tabB]
  obtain ⟨b1, h1, h2⟩ := run__law_arf (tabB gs (c + 1)) (by omega)
  obtain ⟨b2, h3, h4⟩ := run_is_arf G hB hc
  have hh : ∀ n, ht (tabB gs (c + 1)) n = true ↔ n ≤ c + 1 ∧ Sm gs n := fun n => by
    constructor
    · intro h
      have := ht_lt h
      rw [hl] at this
      rw [ht_tab (by omega)] at h
      exact ⟨by omega, sb_iff.mp h⟩
    · rintro ⟨h5, h6⟩
      rw [ht_tab h5]; exact sb_iff.mpr h6
  have e : b1 = b2 := by
    rw [Bool.eq_iff_iff, h2, h4]
    constructor
    · intro h
      refine arf_of hc fun z x y hz hx hy l1 l2 l3 => ?_
      exact ((hh _).mp (h z x y ((hh z).mpr ⟨by omega, hz⟩) ((hh x).mpr ⟨by omega, hx⟩) ((hh y).mpr ⟨by omega, hy⟩) l1 l2 (by omega))).2
    · intro hA z x y hz hx hy l1 l2 l3
      exact (hh _).mpr ⟨by omega, hA x y z ((hh x).mp hx).2 ((hh y).mp hy).2 ((hh z).mp hz).2 l1 (by omega)⟩
  subst e
  exact ⟨b1, h1, h3, h4⟩
theorem bt6 {i : Nat} {ρ : Env} {l : List Nat} {Q : D → Bool → Env → Prop} (h : rd ρ[i]? = some (.lst (dN l))) : wM (mCal bTuple [.nm i]) ρ Q = Q (.tup (dN l)) false ρ := by
  have e : bTuple [.lst (dN l)] = some (.tup (dN l), false) := rfl
  simp only [wM_cal, wO_def, wPre_nm, wPre_nil, h, Option.isSome_some, true_and, wF_finr, fin_nil, wF_some, e]
theorem run_law72 {ns : List Int} : wR K72.m_law [.val (.scr (ns.map .int))] fun d o => d = .bl true ∧ o = false := by
  have hz := sizeL
  unfold K72.m_law
  refine wR_fn (by simp [ownOk]) ?_
  unfold K72.b_law
  refine wS_cut (fun ρ => ρ = [.val (.scr (ns.map .int)), .own (St 0 0), .un, .un, .un, .un, .un, .un, .un, .un, .un, .un]) ?_ fun ρ hρ => ?_
  · simp [St]
  subst hρ
  rw [wS_seq]
  simp only [wS_for, wI_r1, wO_def, wPre_ex, wM_C, wPre_nil, wF_finl, fin_nil, wF_some]
  refine ⟨3, rfl, by omega, ?_⟩
  refine wL_inv (fun _ ρ => T72 ns ρ) ⟨0, 0, _, _, _, _, _, _, _, _, _, _, by omega, by omega, rfl⟩ (fun k d ρ hd ⟨a, b, s2, s3, s4, s5, s6, s7, s8, s9, s10, s11, ha, hb, hρ⟩ => ?_) fun ρ ⟨a, b, s2, s3, s4, s5, s6, s7, s8, s9, s10, s11, ha, hb, hρ⟩ => ?_
  rotate_left
  · subst hρ
    simp [still]
  obtain ⟨hk, rfl⟩ := rng_at hd
  subst hρ
  simp only [tgS, wF_some, List.set_cons_succ, List.set_cons_zero]
  -- the semigroup
  refine wS_cut (fun ρ => ∃ (a b : Int) (gs : List Nat), 0 ≤ a ∧ 0 ≤ b ∧ Gen 15 gs ∧ ρ = [.val (.scr (ns.map .int)), .own (St a b), .val (.int (0 + (k : Int))), .val (.tup (dN gs)), s4, s5, s6, s7, s8, s9, s10, s11]) ?_ fun ρ ⟨a, b, gs, ha, hb, G, hρ⟩ => ?_
  · simp only [wS_set, wM_call, List.map_cons, List.map_nil, opd_io, opd_ln, opd_ex, wO_def, wPre_nm, wPre_ex, wPre_nil, wM_C, List.getElem?_cons_succ, List.getElem?_cons_zero, rd_own, rd_val, Option.isSome_some, true_and, wF_finr, wF_finl, fin_nil, wF_some]
    rw [slots_io (e := St a b) rfl]
    simp only [slots_ln, slots_ex, slots_nil, Option.map_some, wF_some]
    refine call_semigroup (many := 4) (most := 10) ha hb (by omega) (by omega) (by omega) (by omega) fun ms a' b' hD ha' hb' => ?_
    exact ⟨a', b', _, ha', hb', hD.gen, rfl⟩
  subst hρ
  obtain ⟨c, hc, _⟩ := run_greatest_gap G (by omega)
  refine wS_cut (fun ρ => ρ = [.val (.scr (ns.map .int)), .own (St a b), .val (.int (0 + (k : Int))), .val (.tup (dN gs)), .val (.int ((c : Int) - 1)), s5, s6, s7, s8, s9, s10, s11]) ?_ fun ρ hρ => ?_
  · rw [wS_set, call1 (run__law_last G (by omega) hc) rfl (by simp [clean])]
    simp
  subst hρ
  refine wS_cut (fun ρ => ∃ (gs : List Nat) (c : Nat), Gen 15 gs ∧ Con gs c ∧ c ≤ 46 ∧ ρ = [.val (.scr (ns.map .int)), .own (St a b), .val (.int (0 + (k : Int))), .val (.tup (dN gs)), .val (.int ((c : Int) - 1)), s5, s6, s7, s8, s9, s10, s11]) ?_ fun ρ ⟨gs, c, G, hc, hcs, hρ⟩ => ?_
  · simp only [wS_if, wT_B, wM_bin, wM_C, wO_def, wPre_ex, wPre_nm, wPre_nil, List.getElem?_cons_succ, List.getElem?_cons_zero, rd_own, rd_val, Option.isSome_some, true_and, wF_finr, wF_finl, fin_nil, wF_some, w2_two, cmp_int, wB_bl]
    by_cases h : (c : Int) - 1 > 45
    · rw [if_pos (by simpa using h)]
      simp only [wS_par, wM_tup, wV_cons, wV_nil, wM_C, slotOf_f, List.set_cons_succ, List.set_cons_zero]
      exact ⟨trivial, [4, 6, 9], 12, gen469, con469, by omega, rfl⟩
    · rw [if_neg (by simpa using h)]
      simp only [wS_nop]
      exact ⟨trivial, gs, c, G, hc, by omega, rfl⟩
  subst hρ
  -- is_arf
  obtain ⟨ba, hla, hia, _⟩ := law_arf_eq G (by omega) hc hcs
  have htab := run_table (g := .tup (dN gs)) rfl G.pos (c + 1) (by omega)
  refine wS_cut (fun ρ => ρ = [.val (.scr (ns.map .int)), .own (St a b), .val (.int (0 + (k : Int))), .val (.tup (dN gs)), .val (.int ((c : Int) - 1)), s5, s6, s7, s8, s9, s10, s11]) ?_ fun ρ hρ => ?_
  · simp only [wS_if, wT_not, wT_tr, wO_def, wPre_ex]
    rw [call2ee (p := false) (q := false) (ex72 (d := .bl ba) (by simp [plD])) (fun Q => call1e (p := true) hla (fun Q => call2e (p := false) htab rfl (fun Q => ?_) (clean1_bl _)) (by simp [clean])) (fun Q => call1 hia rfl (by simp [clean])) (by simp [clean])]
    · simp [truth]
    · simp only [wM_bin, wM_C, wO_def, wPre_ex, wPre_nm, wPre_nil, List.getElem?_cons_succ, List.getElem?_cons_zero, rd_val, Option.isSome_some, true_and, wF_finl, wF_finr, fin_nil, wF_some, w2_two, add_int]
      rw [show (c : Int) - 1 + 2 = ((c + 1 : Nat) : Int) by omega]
  subst hρ
  -- the closure
  obtain ⟨row0, R⟩ := mul_ex c G hc
  obtain ⟨m, l, hrow0⟩ : ∃ m l, row0 = m :: l := by
    cases row0 with
    | nil => have := R.v; cases this
    | cons m l => exact ⟨m, l, rfl⟩
  subst hrow0
  have hpos := rowV_pos R.v
  have hsum := R.sum
  have hlen := sum_ge (m :: l) hpos
  have hm15 : m ≤ 15 := by
    obtain ⟨g, r, e, _, hgB, _⟩ := G.head
    have h1 := R.hd
    rw [e] at h1
    simp at h1
    omega
  obtain ⟨G2, hsm2, c2, hc2⟩ := genR_gen hpos R.ok (by omega) (by omega)
  have hclo := run_arf_closure G (by omega) R.mul hpos (by omega) (by omega) (by omega)
  have hcld := run__law_closed G (by omega) hc hcs R
  obtain ⟨b2, hia2, hb2⟩ := run_is_arf G2 (by omega) hc2
  have hb2t : b2 = true := hb2.mpr fun x y z hx hy hz h1 h2 => (hsm2 _).mpr (ar_arf _ R.ok x y z ((hsm2 x).mp hx) ((hsm2 y).mp hy) ((hsm2 z).mp hz) h1 h2)
  subst hb2t
  have hmu1 := run_multiplicities G (by omega) R.mul (by omega)
  have hmu2 := run_multiplicities G2 (by omega) (mul_row (m :: l) G2 R.v R.ok hsm2) (by omega)
  have hl2 := G2.len
  generalize lstM (genR (m :: l) m) = told at *
  refine wS_cut (fun ρ => ρ = [.val (.scr (ns.map .int)), .own (St a b), .val (.int (0 + (k : Int))), .val (.tup (dN gs)), .val (.int ((c : Int) - 1)), .val (.tup (dN told)), s6, s7, s8, s9, s10, s11]) ?_ fun ρ hρ => ?_
  · rw [wS_set, call1 hclo rfl (clean_N _)]
    simp
  subst hρ
  refine wS_cut (fun ρ => ρ = [.val (.scr (ns.map .int)), .own (St a b), .val (.int (0 + (k : Int))), .val (.tup (dN gs)), .val (.int ((c : Int) - 1)), .val (.tup (dN told)), s6, s7, s8, s9, s10, s11]) ?_ fun ρ hρ => ?_
  · simp only [wS_if, wT_or, wT_not, wT_tr, wO_def, wPre_ex]
    rw [callx1 (p := false) (ex72 (d := .tup (dN told)) (plD_tN 4 _ (by omega))) (fun Q => call1 hcld rfl (clean_N _)) rfl (by simp [clean])]
    simp only [wPre_nil, wF_finl, fin_nil, wF_some]
    refine ⟨_, rfl, ?_⟩
    simp only [truth, wF_some, Bool.not_true, Bool.false_eq_true, if_false]
    rw [call2ee (p := false) (q := false) (ex72 (d := .bl true) (by simp [plD])) (fun Q => by rw [wM_C]) (fun Q => call1 hia2 rfl (by simp [clean])) (by simp [clean])]
    simp [truth]
  subst hρ
  refine wS_cut (fun ρ => ρ = [.val (.scr (ns.map .int)), .own (St a b), .val (.int (0 + (k : Int))), .val (.tup (dN gs)), .val (.int ((c : Int) - 1)), .val (.tup (dN told)), s6, s7, s8, s9, s10, s11]) ?_ fun ρ hρ => ?_
  · simp only [wS_if, wT_or, wT_not, wT_tr, wO_def, wPre_ex]
    rw [call2ee (p := false) (q := false) (ex72 (d := .tup (dN (m :: l))) (plD_tN 4 _ (by omega))) (fun Q => call1 hmu1 rfl (clean_N _)) (fun Q => call1 hmu2 rfl (clean_N _)) (by simp [clean])]
    simp [truth]
  subst hρ
  -- a row
  refine wS_cut (fun ρ => ρ = [.val (.scr (ns.map .int)), .own (St a b), .val (.int (0 + (k : Int))), .val (.tup (dN gs)), .val (.int ((c : Int) - 1)), .val (.tup (dN told)), .own (.lst (dN [1])), s7, s8, s9, s10, s11]) ?_ fun ρ hρ => ?_
  · simp
  subst hρ
  refine wS_cut (fun ρ => ∃ (a b : Int) (row : List Nat) (s7 s8 s9 s10 : Slot), 0 ≤ a ∧ 0 ≤ b ∧ Row 6 row ∧ ρ = [.val (.scr (ns.map .int)), .own (St a b), .val (.int (0 + (k : Int))), .val (.tup (dN gs)), .val (.int ((c : Int) - 1)), .val (.tup (dN told)), .own (.lst (dN row)), s7, s8, s9, s10, s11]) ?_ fun ρ ⟨a, b, row, s7, s8, s9, s10, ha, hb, hR, hρ⟩ => ?_
  · simp only [wS_for, wI_r1, wM_call, List.map_cons, List.map_nil, opd_io, opd_ln, opd_ex, wO_def, wPre_nm, wPre_ex, wPre_nil, wM_C, List.getElem?_cons_succ, List.getElem?_cons_zero, rd_own, rd_val, Option.isSome_some, true_and, wF_finr, wF_finl, fin_nil, wF_some]
    rw [slots_io (e := St a b) rfl]
    simp only [slots_ln, slots_ex, slots_nil, Option.map_some, wF_some]
    refine call_draw2 ha hb (by omega) (by omega) rfl fun n a' b' hn0 hn1 ha' hb' => ?_
    simp only [wPre_nil, wF_finl, fin_nil, wF_some, List.set_cons_succ, List.set_cons_zero]
    refine ⟨n, rfl, ⟨by omega, by omega⟩, ?_⟩
    refine wL_inv (fun j ρ => ∃ (a b : Int) (row : List Nat) (s7 s8 s9 s10 : Slot), 0 ≤ a ∧ 0 ≤ b ∧ Row (j + 1) row ∧ ρ = [.val (.scr (ns.map .int)), .own (St a b), .val (.int (0 + (k : Int))), .val (.tup (dN gs)), .val (.int ((c : Int) - 1)), .val (.tup (dN told)), .own (.lst (dN row)), s7, s8, s9, s10, s11]) ⟨a', b', [1], _, _, _, _, ha', hb', ⟨rfl, by simp [rowOk, ar], by simp, by simp⟩, rfl⟩ (fun j d ρ hd hI => ?_) fun ρ hI => ?_
    · obtain ⟨hj, rfl⟩ := rng_at hd
      obtain ⟨a, b, row, s7, s8, s9, s10, ha, hb, hR, rfl⟩ := hI
      have hrl := hR.len
      simp only [tgS, wF_some, List.set_cons_succ, List.set_cons_zero]
      refine wS_cut (fun ρ => ∃ (a b : Int) (many : Nat), 0 ≤ a ∧ 0 ≤ b ∧ many ≤ 4 ∧ ρ = [.val (.scr (ns.map .int)), .own (St a b), .val (.int (0 + (k : Int))), .val (.tup (dN gs)), .val (.int ((c : Int) - 1)), .val (.tup (dN told)), .own (.lst (dN row)), .val (.int (0 + (j : Int))), .val (.int (many : Int)), .val (.int 0), s10, s11]) ?_ fun ρ ⟨a, b, many, ha, hb, hm4, hρ⟩ => ?_
      · simp only [wS_par, wM_bin, wM_call, List.map_cons, List.map_nil, opd_io, opd_ln, opd_ex, wO_def, wPre_nm, wPre_ex, wPre_nil, wM_C, List.getElem?_cons_succ, List.getElem?_cons_zero, rd_own, rd_val, Option.isSome_some, true_and, wF_finr, wF_finl, fin_nil, wF_some]
        rw [slots_io (e := St a b) rfl]
        simp only [slots_ln, slots_ex, slots_nil, Option.map_some, wF_some]
        refine call_draw2 ha hb (by omega) (by omega) rfl fun q a' b' h0 h1 ha' hb' => ?_
        simp only [wPre_nil, wF_finl, fin_nil, wF_some, w2_two, add_int, wM_C, slotOf_f, List.set_cons_succ, List.set_cons_zero, true_and]
        refine ⟨a', b', (1 + q).toNat, ha', hb', by omega, ?_⟩
        rw [show (((1 + q).toNat : Nat) : Int) = 1 + q by omega]
      subst hρ
      refine wS_cut (fun ρ => ∃ s10 : Slot, ρ = [.val (.scr (ns.map .int)), .own (St a b), .val (.int (0 + (k : Int))), .val (.tup (dN gs)), .val (.int ((c : Int) - 1)), .val (.tup (dN told)), .own (.lst (dN row)), .val (.int (0 + (j : Int))), .val (.int (many : Int)), .val (.int (((row.take many).sum + (many - row.length) : Nat) : Int)), s10, s11]) ?_ fun ρ ⟨s10, hρ⟩ => ?_
      · simp only [wS_for, wI_r1, wO_def, wPre_nm, wPre_nil, List.getElem?_cons_succ, List.getElem?_cons_zero, rd_own, rd_val, Option.isSome_some, true_and, wF_finr, wF_finl, fin_nil, wF_some]
        refine ⟨_, rfl, ⟨by omega, by omega⟩, ?_⟩
        rw [Int.toNat_natCast]
        refine wL_inv (fun i ρ => ∃ s10 : Slot, ρ = [.val (.scr (ns.map .int)), .own (St a b), .val (.int (0 + (k : Int))), .val (.tup (dN gs)), .val (.int ((c : Int) - 1)), .val (.tup (dN told)), .own (.lst (dN row)), .val (.int (0 + (j : Int))), .val (.int (many : Int)), .val (.int (((row.take i).sum + (i - row.length) : Nat) : Int)), s10, s11]) ⟨s10, by simp⟩ (fun i d ρ hd hI => ?_) fun ρ hI => ?_
        · obtain ⟨hi, rfl⟩ := rng_at hd
          obtain ⟨s10, rfl⟩ := hI
          rw [Int.zero_add]
          by_cases hil : i < row.length
          · obtain ⟨x, hx⟩ : ∃ x, row[i]? = some x := ⟨_, List.getElem?_eq_getElem hil⟩
            have a2 : opIx (.lst (dN row)) (.int (i : Int)) = some (.int (x : Int), false) := ix_l (at_of i rfl (N_at hx))
            have d2 : decide ((i : Int) < (row.length : Int)) = true := by simp; omega
            have tk : (row.take (i + 1)).sum = (row.take i).sum + x := by rw [List.take_add_one, hx, List.sum_append]; simp
            simp only [tgS, wS_set, wM_bin, wM_if, wM_cal, wT_B, wM_C, wO_def, wPre_ex, wPre_nm, wPre_nil, List.set_cons_succ, List.set_cons_zero, List.getElem?_cons_succ, List.getElem?_cons_zero, rd_own, rd_val, Option.isSome_some, true_and, wF_finr, wF_finl, fin_nil, wF_some, len_lN, w2_two, cmp_int, wB_bl, d2, if_true, add_int, a2, slotOf_f, turn_nx]
            refine ⟨.val (.int (i : Int)), ?_⟩
            have e : (((row.take i).sum + x + (i + 1 - row.length) : Nat) : Int) = (((row.take i).sum + (i - row.length) : Nat) : Int) + (x : Int) := by omega
            rw [tk, e]
          · have d2 : decide ((i : Int) < (row.length : Int)) = false := by simp; omega
            have tk : row.take (i + 1) = row.take i := by rw [List.take_of_length_le (by omega), List.take_of_length_le (by omega)]
            simp only [tgS, wS_set, wM_bin, wM_if, wM_cal, wT_B, wM_C, wO_def, wPre_ex, wPre_nm, wPre_nil, List.set_cons_succ, List.set_cons_zero, List.getElem?_cons_succ, List.getElem?_cons_zero, rd_own, rd_val, Option.isSome_some, true_and, wF_finr, wF_finl, fin_nil, wF_some, len_lN, w2_two, cmp_int, wB_bl, d2, Bool.false_eq_true, if_false, add_int, slotOf_f, turn_nx]
            refine ⟨.val (.int (i : Int)), ?_⟩
            have e : (((row.take i).sum + (i + 1 - row.length) : Nat) : Int) = (((row.take i).sum + (i - row.length) : Nat) : Int) + 1 := by omega
            rw [tk, e]
        · obtain ⟨s10, rfl⟩ := hI
          rw [rng_len]
          exact ⟨rfl, s10, rfl⟩
      subst hρ
      have htot := ar_take row many
      generalize (row.take many).sum + (many - row.length) = total at *
      simp only [wS_if, wT_and, wT_B, wM_bin, wM_C, wO_def, wPre_ex, wPre_nm, wPre_nil, List.getElem?_cons_succ, List.getElem?_cons_zero, rd_own, rd_val, Option.isSome_some, true_and, wF_finr, wF_finl, fin_nil, wF_some, w2_two, cmp_int, wB_bl]
      by_cases h1 : 1 < total
      · by_cases h2 : total < 30
        · have d1 : decide ((total : Int) > 1) = true := by simp; omega
          have d2 : decide ((total : Int) < 30) = true := by simp; omega
          have had : opAdd (.lst [.int (total : Int)]) (.lst (dN row)) = some (.lst (dN (total :: row)), true) := by
            rw [add_ll (by simp only [List.length_map, List.length_cons, List.length_nil]; omega)]
            rfl
          simp only [d1, d2, if_true, wS_set, wM_bin, wM_lst, wV_cons, wV_nil, wM_var, wO_def, wPre_ex, wPre_nm, wPre_nil, List.getElem?_cons_succ, List.getElem?_cons_zero, rd_own, rd_val, Option.isSome_some, true_and, wF_finr, wF_finl, fin_nil, wF_some, w2_two, had, slotOf_t, List.set_cons_succ, List.set_cons_zero, turn_nx]
          refine ⟨a, b, total :: row, _, _, _, _, ha, hb, ⟨rowV_cons h1 hR.v, by simp only [rowOk, Bool.and_eq_true]; exact ⟨htot, hR.ok⟩, by simp only [List.length_cons]; omega, fun x hx => ?_⟩, rfl⟩
          rcases List.mem_cons.mp hx with e | hx
          · omega
          · exact hR.lt x hx
        · have d1 : decide ((total : Int) > 1) = true := by simp; omega
          have d2 : decide ((total : Int) < 30) = false := by simp; omega
          simp only [d1, d2, if_true, Bool.false_eq_true, if_false, wS_nop, turn_nx]
          exact ⟨a, b, row, _, _, _, _, ha, hb, ⟨hR.v, hR.ok, by omega, hR.lt⟩, rfl⟩
      · have d1 : decide ((total : Int) > 1) = false := by simp; omega
        simp only [d1, Bool.false_eq_true, if_false, wS_nop, turn_nx]
        exact ⟨a, b, row, _, _, _, _, ha, hb, ⟨hR.v, hR.ok, by omega, hR.lt⟩, rfl⟩
    · obtain ⟨a, b, row, s7, s8, s9, s10, ha, hb, hR, rfl⟩ := hI
      rw [rng_len] at hR
      exact ⟨rfl, a, b, row, s7, s8, s9, s10, ha, hb, ⟨hR.v, hR.ok, by have := hR.len; omega, hR.lt⟩, rfl⟩
  subst hρ
  obtain ⟨m3, l3, e3⟩ := hR.ne
  subst e3
  have hp3 := rowV_pos hR.v
  have hlen3 := hR.len
  have hsum3 := sum_lt (m3 :: l3) 30 hR.lt
  have hm3 := hR.lt m3 List.mem_cons_self
  obtain ⟨G3, hsm3, c3, hc3⟩ := genR_gen hp3 hR.ok (by omega) (by omega)
  have hlr := run__law_of_row hp3 (by omega) (by omega)
  have hir := run_is_row (m3 :: l3) (by omega)
  have hsr := run_semigroup_of hp3 (by omega) (by omega) (by omega)
  have hrr := run__law_row_right (m3 :: l3) (by omega) (fun x hx => by have := hR.lt x hx; omega)
  rw [hR.v, hR.ok] at hir hrr
  obtain ⟨b3, hia3, hb3⟩ := run_is_arf G3 (by omega) hc3
  have hb3t : b3 = true := hb3.mpr fun x y z hx hy hz h1 h2 => (hsm3 _).mpr (ar_arf _ hR.ok x y z ((hsm3 x).mp hx) ((hsm3 y).mp hy) ((hsm3 z).mp hz) h1 h2)
  subst hb3t
  have hmu3 := run_multiplicities G3 (by omega) (mul_row (m3 :: l3) G3 hR.v hR.ok hsm3) (by omega)
  have hl3 := G3.len
  generalize lstM (genR (m3 :: l3) m3) = told3 at *
  refine wS_cut (fun ρ => ρ = [.val (.scr (ns.map .int)), .own (St a b), .val (.int (0 + (k : Int))), .val (.tup (dN gs)), .val (.int ((c : Int) - 1)), .val (.tup (dN told)), .own (.lst (dN (m3 :: l3))), s7, s8, s9, s10, s11]) ?_ fun ρ hρ => ?_
  · simp only [wS_if, wT_or, wT_not, wT_tr, wO_def, wPre_ex]
    rw [call2ee (p := true) (q := true) (ex72 (d := .lst [.bl true, .tup (dN told3)]) (by
      have := plD_tN 3 told3 (by omega)
      simp only [plD, Bool.and_eq_true, decide_eq_true_eq, List.all_cons, List.all_nil, List.length_cons, List.length_nil]
      simp only [plD, Bool.and_eq_true, decide_eq_true_eq] at this
      exact ⟨by omega, trivial, this, trivial⟩)) (fun Q => ?_) (fun Q => ?_) (by simp [clean])]
    · simp only [wPre_nil, wF_finl, fin_nil, wF_some]
      refine ⟨_, rfl, ?_⟩
      simp only [truth, wF_some, Bool.not_true, Bool.false_eq_true, if_false]
      rw [call1 hrr rfl (by simp [clean])]
      simp [truth]
    · simp only [wM_lst, wV_cons, wM_C]
      rw [call1 hlr rfl (clean_N _)]
      simp only [wV_nil]
    · simp only [wM_lst, wV_cons]
      rw [call1e (p := false) hir (fun Q => bt6 rfl) (by simp [clean])]
      rw [call1e (p := false) hsr (fun Q => bt6 rfl) (clean_N _)]
      simp only [wV_nil, Bool.and_self]
  subst hρ
  refine wS_cut (fun ρ => ρ = [.val (.scr (ns.map .int)), .own (St a b), .val (.int (0 + (k : Int))), .val (.tup (dN gs)), .val (.int ((c : Int) - 1)), .val (.tup (dN told)), .own (.lst (dN (m3 :: l3))), s7, s8, s9, s10, s11]) ?_ fun ρ hρ => ?_
  · simp only [wS_if, wT_or, wT_not, wT_tr, wO_def, wPre_ex]
    rw [call1e (p := false) hia3 (fun Q => call1e (p := false) hsr (fun Q => bt6 rfl) (clean_N _)) (by simp [clean])]
    simp only [wPre_nil, wF_finl, fin_nil, wF_some]
    refine ⟨_, rfl, ?_⟩
    simp only [truth, wF_some, Bool.not_true, Bool.false_eq_true, if_false]
    rw [call2ee (p := false) (q := false) (ex72 (d := .tup (dN (m3 :: l3))) (plD_tN 4 _ (by omega))) (fun Q => bt6 rfl) (fun Q => call1e (p := false) hmu3 (fun Q => call1e (p := false) hsr (fun Q => bt6 rfl) (clean_N _)) (clean_N _)) (by simp [clean])]
    simp [truth]
  subst hρ
  have hlp : 0 < (m3 :: l3).length := by simp
  clear hp3 hsum3 G3 hsm3 hlr hir hsr hrr hia3 hb3 hmu3 hc3
  generalize m3 :: l3 = row3 at *
  have hbl : bList [.lst (dN row3)] = some (.lst (dN row3), true) := rfl
  refine wS_cut (fun ρ => ρ = [.val (.scr (ns.map .int)), .own (St a b), .val (.int (0 + (k : Int))), .val (.tup (dN gs)), .val (.int ((c : Int) - 1)), .val (.tup (dN told)), .own (.lst (dN row3)), s7, s8, s9, s10, .own (.lst (dN row3))]) ?_ fun ρ hρ => ?_
  · simp only [wS_set, wM_cal, wO_def, wPre_nm, wPre_nil, List.getElem?_cons_succ, List.getElem?_cons_zero, rd_own, rd_val, Option.isSome_some, true_and, wF_finr, wF_finl, fin_nil, wF_some, hbl, slotOf_t, List.set_cons_succ, List.set_cons_zero]
  subst hρ
  refine wS_cut (fun ρ => ∃ (a b : Int) (bent : List Nat), 0 ≤ a ∧ 0 ≤ b ∧ bent ≠ [] ∧ bent.length ≤ 6 ∧ (∀ x ∈ bent, x ≤ 30) ∧ ρ = [.val (.scr (ns.map .int)), .own (St a b), .val (.int (0 + (k : Int))), .val (.tup (dN gs)), .val (.int ((c : Int) - 1)), .val (.tup (dN told)), .own (.lst (dN row3)), s7, s8, s9, s10, .own (.lst (dN bent))]) ?_ fun ρ ⟨a, b, bent, ha, hb, hbn, hb6, hb30, hρ⟩ => ?_
  · simp only [wS_setIx, wM_call, List.map_cons, List.map_nil, opd_io, opd_ln, opd_ex, wO_def, wPre_nm, wPre_ex, wPre_nil, wM_C, List.getElem?_cons_succ, List.getElem?_cons_zero, rd_own, rd_val, Option.isSome_some, true_and, wF_finr, wF_finl, fin_nil, wF_some]
    rw [slots_io (e := St a b) rfl]
    simp only [slots_ln, slots_ex, slots_nil, Option.map_some, wF_some]
    refine call_draw2 ha hb (by omega) (by omega) rfl fun v a' b' hv0 hv1 ha' hb' => ?_
    simp only [List.set_cons_succ, List.set_cons_zero, wM_call, List.map_cons, List.map_nil, opd_io, opd_ln, opd_ex, wO_def, wPre_nm, wPre_ex, wPre_nil, wM_C, List.getElem?_cons_succ, List.getElem?_cons_zero, rd_own, rd_val, Option.isSome_some, true_and, wF_finr, wF_finl, fin_nil, wF_some, wM_cal, len_lN]
    refine ⟨⟨_, rfl⟩, ?_⟩
    rw [slots_io (e := St a' b') rfl]
    simp only [slots_ln, slots_ex, slots_nil, Option.map_some, wF_some]
    refine call_draw2 ha' hb' (by omega) (by omega) rfl fun q a2 b2 hq0 hq1 ha2 hb2 => ?_
    have hix : ixN (dN row3).length q = some q.toNat := by
      unfold ixN
      rw [List.length_map, if_pos hq0, if_pos hq1]
    simp only [wPre_nil, wF_finl, fin_nil, wF_some, List.set_cons_succ, List.set_cons_zero]
    refine ⟨q, _, q.toNat, rfl, rfl, hix, a2, b2, row3.set q.toNat v.toNat, ha2, hb2, fun e => by have := congrArg List.length e; rw [List.length_set, List.length_nil] at this; omega, by rw [List.length_set]; exact hlen3, fun x hx => ?_, ?_⟩
    · rcases List.mem_or_eq_of_mem_set hx with h | h
      · have := hR.lt x h
        omega
      · omega
    · have : (dN row3).set q.toNat (.int v) = dN (row3.set q.toNat v.toNat) := by
        show _ = List.map _ (List.set _ _ _)
        rw [List.map_set, show ((v.toNat : Nat) : Int) = v by omega]
      rw [this]
  subst hρ
  refine wS_cut (fun ρ => ∃ (a b : Int) (bent : List Nat), 0 ≤ a ∧ 0 ≤ b ∧ bent.length ≤ 6 ∧ (∀ x ∈ bent, x ≤ 30) ∧ ρ = [.val (.scr (ns.map .int)), .own (St a b), .val (.int (0 + (k : Int))), .val (.tup (dN gs)), .val (.int ((c : Int) - 1)), .val (.tup (dN told)), .own (.lst (dN row3)), s7, s8, s9, s10, .own (.lst (dN bent))]) ?_ fun ρ ⟨a, b, bent, ha, hb, hb6, hb30, hρ⟩ => ?_
  · simp only [wS_if, wT_B, wM_bin, wM_call, List.map_cons, List.map_nil, opd_io, opd_ln, opd_ex, wO_def, wPre_nm, wPre_ex, wPre_nil, wM_C, List.getElem?_cons_succ, List.getElem?_cons_zero, rd_own, rd_val, Option.isSome_some, true_and, wF_finr, wF_finl, fin_nil, wF_some]
    rw [slots_io (e := St a b) rfl]
    simp only [slots_ln, slots_ex, slots_nil, Option.map_some, wF_some]
    refine call_draw2 ha hb (by omega) (by omega) rfl fun q a' b' hq0 hq1 ha' hb' => ?_
    simp only [wPre_nil, wPre_ex, wM_C, wF_finl, fin_nil, wF_some, w2_two, eq_i, wB_bl, List.set_cons_succ, List.set_cons_zero]
    by_cases hq : q = 0
    · rw [if_pos (by simpa using hq)]
      obtain ⟨x, r, e⟩ : ∃ x r, bent = x :: r := by
        cases bent with
        | nil => exact absurd rfl hbn
        | cons x r => exact ⟨x, r, rfl⟩
      subst e
      have hsl : opSl (some 1) none (.lst (dN (x :: r))) = some (.lst (dN r), true) := sl1_l _ _
      rw [show mSlL (.nm 11) (.ex (mC (.int 1))) = mBin (fun x l => (dI l).bind fun i => opSl (some i) none x) (.nm 11) (.ex (mC (.int 1))) from rfl]
      simp only [wS_set, wM_bin, wM_C, wO_def, wPre_ex, wPre_nm, wPre_nil, List.getElem?_cons_succ, List.getElem?_cons_zero, rd_own, rd_val, Option.isSome_some, true_and, wF_finr, wF_finl, fin_nil, wF_some, w2_two, dI, Option.bind_some, hsl, slotOf_t, List.set_cons_succ, List.set_cons_zero]
      exact ⟨a', b', r, ha', hb', by simp only [List.length_cons] at hb6; omega, fun y hy => hb30 y (List.mem_cons_of_mem _ hy), rfl⟩
    · rw [if_neg (by simpa using hq)]
      simp only [wS_nop, true_and]
      exact ⟨a', b', bent, ha', hb', hb6, hb30, rfl⟩
  subst hρ
  have hrb := run__law_row_right bent (by omega) (fun x hx => by have := hb30 x hx; omega)
  have hib := run_is_row bent (by omega)
  generalize (rowV bent && rowOk bent) = bb at *
  simp only [wS_if, wT_not, wT_tr, wO_def, wPre_ex]
  rw [call2ee (p := false) (q := false) (ex72 (d := .bl bb) (by simp [plD])) (fun Q => call1 hrb rfl (by simp [clean])) (fun Q => call1e (p := false) hib (fun Q => bt6 rfl) (by simp [clean])) (by simp [clean])]
  simp only [wPre_nil, wF_finl, fin_nil, wF_some]
  refine ⟨_, rfl, ?_⟩
  simp only [truth, wF_some, Bool.not_true, Bool.false_eq_true, if_false, wS_nop, turn_nx]
  exact ⟨a, b, _, _, _, _, _, _, _, _, _, _, ha, hb, rfl⟩
end Eng
open PySem PySem.Spec PyProof.Rows L2 Eng in
theorem K72.hlaw : ∀ ns : List Int, ns.length ≤ 63 → ∃ ss', K72.m_law [.val (.scr (ns.map .int))] = some ((.bl true, false), ss') := fun ns _ => by
  obtain ⟨q, h1, h2, h3, h4⟩ := wF_ex.mp (run_law72 (ns := ns))
  obtain ⟨⟨d, o⟩, ss'⟩ := q
  dsimp only at h3 h4
  subst h3 h4
  exact ⟨ss', h1⟩
set_option Elab.async false
set_option linter.all false
set_option maxRecDepth 100000
set_option maxHeartbeats 0
/-! k72: the end, printed by gen.py -/
namespace K72
open PySem PySem.Spec PyProof.Rows L2 Eng
abbrev R : PySem.W.OpenRow := PySem.W.OpenLaw.row PySem.Challenge.rw_gaphouse_k72_whole_arf_closures
abbrev hk : PySem.W.Hook := He.hookX 4 (faOf ds fr) (Eng.fnOf ds) [] tf fun _ => true
def ob (s : PySem.W.SharedT) : He.AlX := He.obsX 4 (faOf ds fr) (Eng.fnOf ds) [] tf (fun _ => true) (HandSHeadRun.getT s)
theorem ob_eq (s : PySem.W.SharedT) : ob s = hk.obs s.abs := He.obsX_eq (HandSHeadRun.getT_eq s)
def loose : List Str := ["remainders", "least_place", "sums_up_to", "least_of", "least_generators", "all_up_to", "greatest_gap", "next_one", "multiplicities", "is_arf", "sums_of_row", "semigroup_of", "arf_closure", "is_row", "_law_refill", "_law_draw", "_law_exact", "_law_gcd", "_law_table", "_law_least", "_law_semigroup", "_law_last", "_law_arf", "_law_row_right", "_law_of_row", "_law_closed"]
theorem run (w : World) : HandSHeadRun.RunEq R (PySem.W.view R.prog [31]) hk ob 3000 loose w := by
  intro os
  kernel_rfl
theorem ends (hlaw : ∀ ns : List Int, ns.length ≤ 63 → ∃ ss', m_law [.val (.scr (ns.map .int))] = some ((.bl true, false), ss')) {w : World} {K : PySem.W.Frag} {h : Heap} {mg : Str → Option Value} {fAt : Addr}
    (c : He.SaysX (faOf ds fr) (Eng.fnOf ds) [] tf (fun _ => true) w h K) (KX : K.In h) (G0 : h.Ns mainGlobals mg) (hmg : mg ("law" : Str) = some (.ref fAt)) :
    LamX.LawAtS PySem.Challenge.rw_gaphouse_k72_whole_arf_closures w K CX0 8 63 "script" mg fAt h :=
  law_at (l := PySem.Challenge.rw_gaphouse_k72_whole_arf_closures) (mm := m_law) (ds := ds) (fr := fr) c KX G0 26 rfl hmg (fun _ _ _ _ _ _ us hl => match us, hl with | [_], _ => rfl) (fun base G fd F => fn_law G F) hlaw
end K72
open PySem PySem.W PySem.Calls PyProof.Rows
theorem K72.holds (hlaw : ∀ ns : List Int, ns.length ≤ 63 → ∃ ss', K72.m_law [.val (.scr (ns.map .int))] = some ((.bl true, false), ss')) : PySem.Challenge.rw_gaphouse_k72_whole_arf_closures.Holds := by
  w_on; o_law
  refine HandSHeadRun.head_any (r := OpenLaw.row PySem.Challenge.rw_gaphouse_k72_whole_arf_closures) (q := view (OpenLaw.row PySem.Challenge.rw_gaphouse_k72_whole_arf_closures).prog [31]) (H := K72.hk) (ob := K72.ob) (M := 3000) (loose := K72.loose) (d := HandSHeadRun.topDef (OpenLaw.row PySem.Challenge.rw_gaphouse_k72_whole_arf_closures).prog 31) (kwd := []) K72.ob_eq
    (by kernel_rfl) (fun s => by kernel_rfl) K72.run (by kernel_rfl) (by kernel_rfl) (by kernel_rfl) (by rfl) (by first | assumption | decide +kernel) (by decide +kernel) ⟨rfl, rfl, rfl, rfl, rfl, by decide +kernel⟩ ?hw ?hc
  case hw => w_witness2
  case hc =>
    refine LamX.walk_ofTsE (l := PySem.Challenge.rw_gaphouse_k72_whole_arf_closures) (n := 63) (k := 8) (x := "script") (CX := fun _ => L2.CX0) rfl (by decide) (by kernel_rfl) ⟨rfl, by decide, by decide⟩ ?F (fun _ _ _ _ _ z => z)
    intro w mg fa h Y G hmg0
    obtain ⟨K, KX, c⟩ := Y
    have hmg : mg ("law" : PySem.Str) = some (.ref fa) := by
      have e : (HandSHeadRun.topDef (OpenLaw.row PySem.Challenge.rw_gaphouse_k72_whole_arf_closures).prog 31).name = ("law" : PySem.Str) := by kernel_rfl
      rw [← e]
      exact hmg0
    exact ⟨K, KX, K72.ends hlaw c KX G hmg⟩
set_option maxRecDepth 100000 in
set_option maxHeartbeats 0 in
theorem PySem.Challenge.cw_gaphouse_k72_whole_arf_closures_holds : PySem.Challenge.rw_gaphouse_k72_whole_arf_closures.Holds := by
  exact K72.holds K72.hlaw
