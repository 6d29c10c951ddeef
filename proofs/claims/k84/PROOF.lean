import PyProof.Rows.All
import HandS.ForMost
import HandS.ForExc
import HandS.IsInst
import HandS.TupAny
import HandS.Flow
import HandS.Wide
import HandS.Gcd
import HandS.Zip
import HandS.Rev
import HandS.Conv
import HandS.Star
import HandS.StrMore
import HandS.Deep
import HandS.Style
import HandS.TupLe
import HandS.SortRule
import HandS.Walk
import HandS.RaiseMore
import HandS.Defaults
import HandS.EndBits
import HandS.HeadEnd
import HandS.HeadHook2
import HandS.Head3
import PySem.Challenge.RW_whatthepicturesays_k84_whole_middles_of
import PyProof.Rows.ReprShort
import PyProof.Rows.RegFStrParts
import Wide.All
import OpenK.AllK
import Wide.FinOn

section
set_option Elab.async false
set_option linter.all false
set_option autoImplicit false
set_option maxRecDepth 100000
set_option maxHeartbeats 1000000
namespace DL
open PySem PySem.Spec L2

/-! ### deep values -/
inductive D where
  | non | bl (b : Bool) | int (i : Int) | str (s : Str)
  | tup (xs : List D) | lst (xs : List D) | klst (xs : List D) | emp | ref (k : Nat)
  deriving Inhabited

mutual
/-- the value v stands for the data d, in the heap part G; cells at io -/
inductive DV (K : PySem.W.Frag) (G : Hp) (io : List Addr) : V → D → Prop
  | non : DV K G io .non .non
  | bl (b : Bool) : DV K G io (.bl b) (.bl b)
  | int (i : Int) : DV K G io (.int i) (.int i)
  | str (x : Str) : DV K G io (.str x) (.str x)
  | tup {a : Addr} {vs : List V} {ds : List D} : SqT K G a vs → DVs K G io vs ds → DV K G io (.ref a) (.tup ds)
  | lst {a : Addr} {vs : List V} {ds : List D} : G a = some (.lst vs) → DVs K G io vs ds → DV K G io (.ref a) (.lst ds)
  | klst {a : Addr} {vs : List V} {ds : List D} : SqL K G a vs → DVs K G io vs ds → DV K G io (.ref a) (.klst ds)
  | emp {a : Addr} : G a = some (.dK []) → DV K G io (.ref a) .emp
  | ref {a : Addr} {k : Nat} : io[k]? = some a → DV K G io (.ref a) (.ref k)
inductive DVs (K : PySem.W.Frag) (G : Hp) (io : List Addr) : List V → List D → Prop
  | nil : DVs K G io [] []
  | cons {v : V} {d : D} {vs : List V} {ds : List D} : DV K G io v d → DVs K G io vs ds → DVs K G io (v :: vs) (d :: ds)
end

def Sub (G G' : Hp) : Prop := ∀ a o, G a = some o → G' a = some o
theorem Sub.rfl' {G : Hp} : Sub G G := fun _ _ h => h
theorem Sub.tr {G G1 G2 : Hp} (h : Sub G G1) (h' : Sub G1 G2) : Sub G G2 := fun a o e => h' a o (h a o e)
theorem sub_upd {G : Hp} {p : Addr} {o : HO} (h : G p = none) : Sub G (upd G p o) := fun a u e => by
  rw [upd_ne (ne_of_none e h)]; exact e
theorem sub_updR {G H : Hp} {p : Addr} {o : HO} (h : Sub G H) (hp : G p = none) : Sub G (upd H p o) := fun a u e => by
  rw [upd_ne (ne_of_none e hp)]; exact h a u e

theorem SqT.sub {K : PySem.W.Frag} {G G' : Hp} {a : Addr} {vs : List V} (s : Sub G G') (h : SqT K G a vs) : SqT K G' a vs := by
  rcases h with (h | ⟨o, h⟩) | h
  · exact .inl (.inl (s _ _ h))
  · exact .inl (.inr ⟨o, s _ _ h⟩)
  · exact .inr h
theorem SqL.sub {K : PySem.W.Frag} {G G' : Hp} {a : Addr} {vs : List V} (s : Sub G G') (h : SqL K G a vs) : SqL K G' a vs := by
  rcases h with (h | ⟨o, h⟩) | h
  · exact .inl (.inl (s _ _ h))
  · exact .inl (.inr ⟨o, s _ _ h⟩)
  · exact .inr h

mutual
theorem DV.up {K : PySem.W.Frag} {G G' : Hp} {io io' : List Addr} (s : Sub G G') (p : io <+: io') : ∀ {d : D} {v : V}, DV K G io v d → DV K G' io' v d
  | .non, _, h => by cases h; exact .non
  | .bl _, _, h => by cases h; exact .bl _
  | .int _, _, h => by cases h; exact .int _
  | .str _, _, h => by cases h; exact .str _
  | .tup _, _, h => by cases h with | tup a b => exact .tup (SqT.sub s a) (DVs.up s p b)
  | .lst _, _, h => by cases h with | lst a b => exact .lst (s _ _ a) (DVs.up s p b)
  | .klst _, _, h => by cases h with | klst a b => exact .klst (SqL.sub s a) (DVs.up s p b)
  | .emp, _, h => by cases h with | emp a => exact .emp (s _ _ a)
  | .ref _, _, h => by
    cases h with
    | ref a =>
      obtain ⟨t, rfl⟩ := p
      refine .ref ?_
      rw [List.getElem?_append_left (List.getElem?_eq_some_iff.mp a).1]; exact a
theorem DVs.up {K : PySem.W.Frag} {G G' : Hp} {io io' : List Addr} (s : Sub G G') (p : io <+: io') : ∀ {ds : List D} {vs : List V}, DVs K G io vs ds → DVs K G' io' vs ds
  | [], _, h => by cases h; exact .nil
  | _ :: _, _, h => by cases h with | cons a b => exact .cons (DV.up s p a) (DVs.up s p b)
end

section
variable {K : PySem.W.Frag} {G : Hp} {io : List Addr}
theorem DVs.length : ∀ {vs : List V} {ds : List D}, DVs K G io vs ds → vs.length = ds.length
  | _, _, .nil => rfl
  | _, _, .cons _ t => congrArg (· + 1) (DVs.length t)
theorem DVs.get : ∀ {vs : List V} {ds : List D} {i : Nat} {d : D}, DVs K G io vs ds → ds[i]? = some d → ∃ v, vs[i]? = some v ∧ DV K G io v d
  | _, _, _, _, .nil, e => by simp at e
  | _, _, 0, _, .cons a _, e => by simp at e; subst e; exact ⟨_, rfl, a⟩
  | _, _, i + 1, d, .cons _ t, e => by
    obtain ⟨v, e', r⟩ := DVs.get (i := i) (d := d) t (by simpa using e)
    exact ⟨v, by simpa using e', r⟩
theorem DVs.getV : ∀ {vs : List V} {ds : List D} {i : Nat} {v : V}, DVs K G io vs ds → vs[i]? = some v → ∃ d, ds[i]? = some d ∧ DV K G io v d
  | _, _, _, _, .nil, e => by simp at e
  | _, _, 0, _, .cons a _, e => by simp at e; subst e; exact ⟨_, rfl, a⟩
  | _, _, i + 1, d, .cons _ t, e => by
    obtain ⟨v, e', r⟩ := DVs.getV (i := i) (v := d) t (by simpa using e)
    exact ⟨v, by simpa using e', r⟩
theorem DVs.app : ∀ {vs ws : List V} {ds es : List D}, DVs K G io vs ds → DVs K G io ws es → DVs K G io (vs ++ ws) (ds ++ es)
  | _, _, _, _, .nil, s => s
  | _, _, _, _, .cons a t, s => .cons a (DVs.app t s)
theorem DVs.take : ∀ {vs : List V} {ds : List D} (n : Nat), DVs K G io vs ds → DVs K G io (vs.take n) (ds.take n)
  | _, _, 0, _ => by simpa using DVs.nil
  | _, _, _ + 1, .nil => .nil
  | _, _, n + 1, .cons a t => .cons a (DVs.take n t)
theorem DVs.drop : ∀ {vs : List V} {ds : List D} (n : Nat), DVs K G io vs ds → DVs K G io (vs.drop n) (ds.drop n)
  | _, _, 0, h => by simpa using h
  | _, _, _ + 1, .nil => .nil
  | _, _, n + 1, .cons _ t => DVs.drop n t
theorem DVs.set {v : V} {d : D} (r : DV K G io v d) : ∀ {vs : List V} {ds : List D} (i : Nat), DVs K G io vs ds → DVs K G io (vs.set i v) (ds.set i d)
  | _, _, _, .nil => .nil
  | _, _, 0, .cons _ t => .cons r t
  | _, _, i + 1, .cons a t => .cons a (DVs.set r i t)
theorem DVs.rev : ∀ {vs : List V} {ds : List D}, DVs K G io vs ds → DVs K G io vs.reverse ds.reverse
  | _, _, .nil => .nil
  | _, _, .cons a t => by rw [List.reverse_cons, List.reverse_cons]; exact (DVs.rev t).app (.cons a .nil)
theorem DVs.erase : ∀ {vs : List V} {ds : List D} (i : Nat), DVs K G io vs ds → DVs K G io (vs.eraseIdx i) (ds.eraseIdx i)
  | _, _, _, .nil => .nil
  | _, _, 0, .cons _ t => t
  | _, _, i + 1, .cons a t => .cons a (DVs.erase i t)
theorem DVs.reps {v : V} {d : D} (r : DV K G io v d) : ∀ n : Nat, DVs K G io (List.replicate n v) (List.replicate n d)
  | 0 => .nil
  | n + 1 => .cons r (DVs.reps r n)
theorem DVs.reps2 {vs : List V} {ds : List D} (r : DVs K G io vs ds) : ∀ n : Nat, DVs K G io (List.replicate n vs).flatten (List.replicate n ds).flatten
  | 0 => .nil
  | n + 1 => by
    rw [List.replicate_succ, List.replicate_succ, List.flatten_cons, List.flatten_cons]
    exact r.app (DVs.reps2 r n)
theorem DVs.ints : ∀ {ns : List Int} {vs : List V}, DVs K G io vs (ns.map D.int) → vs = ns.map V.int
  | [], _, h => by cases h; rfl
  | n :: ns, _, h => by
    cases h with
    | cons a t => cases a; rw [DVs.ints t]; rfl
theorem DVs.bls : ∀ {ns : List Bool} {vs : List V}, DVs K G io vs (ns.map D.bl) → vs = ns.map V.bl
  | [], _, h => by cases h; rfl
  | n :: ns, _, h => by
    cases h with
    | cons a t => cases a; rw [DVs.bls t]; rfl
theorem DVs.strs : ∀ {ns : List Str} {vs : List V}, DVs K G io vs (ns.map D.str) → vs = ns.map V.str
  | [], _, h => by cases h; rfl
  | n :: ns, _, h => by
    cases h with
    | cons a t => cases a; rw [DVs.strs t]; rfl
theorem dvs_ints : ∀ (ns : List Int), DVs K G io (ns.map V.int) (ns.map D.int)
  | [] => .nil
  | _ :: ns => .cons (.int _) (dvs_ints ns)
theorem dvs_strs : ∀ (ns : List Str), DVs K G io (ns.map V.str) (ns.map D.str)
  | [] => .nil
  | _ :: ns => .cons (.str _) (dvs_strs ns)
end

/-! ### states -/
/-- what a slot holds: a value, or a list of its own that no other name holds -/
inductive Sl where
  | val (d : D) | own (xs : List D)
structure S where
  r : List (Option Sl)
  m : List (List D)

/-- the base of a body: what is protected, the part known at the entry, the cells at the entry -/
structure Bs where
  P : Hp
  G0 : Hp
  io0 : List Addr

structure Rep (K : PySem.W.Frag) (B : Bs) (G : Hp) (io : List Addr) (s : S) (σ : St) (H : Hp) : Prop where
  le : Sub G H
  nd : io.Nodup
  ml : io.length = s.m.length
  cell : ∀ (k : Nat) (c : List D), s.m[k]? = some c → ∃ a vs, io[k]? = some a ∧ H a = some (.lst vs) ∧ DVs K G io vs c
  cg : ∀ a, a ∈ io → G a = none ∧ B.P a = none
  len : s.r.length = σ.length
  val : ∀ (i : Nat) (d : D), s.r[i]? = some (some (.val d)) → ∃ v, σ[i]? = some (some v) ∧ DV K G io v d
  own : ∀ (i : Nat) (xs : List D), s.r[i]? = some (some (.own xs)) → ∃ a vs, σ[i]? = some (some (.ref a)) ∧ H a = some (.lst vs) ∧ DVs K G io vs xs ∧ G a = none ∧ a ∉ io ∧ B.P a = none
  apart : ∀ (i j : Nat) (xs ys : List D) (a : Addr), i ≠ j → s.r[i]? = some (some (.own xs)) → s.r[j]? = some (some (.own ys)) → σ[i]? = some (some (.ref a)) → σ[j]? ≠ some (some (.ref a))
  fr : ∀ a o, B.P a = some o → H a = some o
  g0 : Sub B.G0 G
  gnew : ∀ a o, G a = some o → B.G0 a = some o ∨ B.P a = none
  i0 : B.io0 <+: io

section
variable {K : PySem.W.Frag} {B : Bs} {G : Hp} {io : List Addr} {s : S} {σ : St} {H : Hp}
theorem Rep.pn (R : Rep K B G io s σ H) {p : Addr} (h : H p = none) : G p = none ∧ B.P p = none ∧ p ∉ io := by
  refine ⟨?_, ?_, fun hp => ?_⟩
  · cases e : G p with
    | none => rfl
    | some o => have := R.le _ _ e; rw [h] at this; cases this
  · cases e : B.P p with
    | none => rfl
    | some o => have := R.fr _ _ e; rw [h] at this; cases this
  · obtain ⟨k, hk, rfl⟩ := List.getElem_of_mem hp
    obtain ⟨a, vs, e1, e2, _⟩ := R.cell k (s.m[k]'(R.ml ▸ hk)) (by simp)
    rw [List.getElem?_eq_getElem hk] at e1; cases e1
    rw [h] at e2; cases e2
/-- a new immutable object -/
theorem Rep.new (R : Rep K B G io s σ H) {p : Addr} {o : HO} (h : H p = none) : Rep K B (upd G p o) io s σ (upd H p o) := by
  obtain ⟨hG, hP, hi⟩ := R.pn h
  have sg : Sub G (upd G p o) := sub_upd hG
  have nH : ∀ {a u}, H a = some u → upd H p o a = some u := fun {a u} e => by rw [upd_ne (ne_of_none e h)]; exact e
  have nG : ∀ {a}, H a ≠ none → G a = none → upd G p o a = none := fun {a} e1 e2 => by
    have q : a ≠ p := fun z => e1 (by rw [z]; exact h)
    rw [upd_ne q]; exact e2
  refine ⟨fun a u e => ?_, R.nd, R.ml, fun k c e => ?_, fun a ha => ?_, R.len, fun i d e => ?_, fun i xs e => ?_, R.apart, fun a u e => nH (R.fr a u e), R.g0.tr sg, fun a u e => ?_, R.i0⟩
  · by_cases z : a = p
    · subst z; rw [upd_same] at e ⊢; exact e
    · rw [upd_ne z] at e ⊢; exact R.le _ _ e
  · obtain ⟨a, vs, e1, e2, e3⟩ := R.cell k c e
    exact ⟨a, vs, e1, nH e2, e3.up sg (List.prefix_refl _)⟩
  · refine ⟨?_, (R.cg a ha).2⟩
    have q : a ≠ p := fun z => hi (by rw [← z]; exact ha)
    rw [upd_ne q]; exact (R.cg a ha).1
  · obtain ⟨v, e1, e2⟩ := R.val i d e
    exact ⟨v, e1, e2.up sg (List.prefix_refl _)⟩
  · obtain ⟨a, vs, e1, e2, e3, e4, e5, e6⟩ := R.own i xs e
    exact ⟨a, vs, e1, nH e2, e3.up sg (List.prefix_refl _), nG (by rw [e2]; simp) e4, e5, e6⟩
  · by_cases z : a = p
    · subst z; exact .inr hP
    · rw [upd_ne z] at e; exact R.gnew _ _ e
/-- a new object that stays unknown to G -/
theorem Rep.grow (R : Rep K B G io s σ H) {p : Addr} {o : HO} (h : H p = none) : Rep K B G io s σ (upd H p o) := by
  have nH : ∀ {a u}, H a = some u → upd H p o a = some u := fun {a u} e => by rw [upd_ne (ne_of_none e h)]; exact e
  refine ⟨fun a u e => nH (R.le _ _ e), R.nd, R.ml, fun k c e => ?_, R.cg, R.len, R.val, fun i xs e => ?_, R.apart, fun a u e => nH (R.fr a u e), R.g0, R.gnew, R.i0⟩
  · obtain ⟨a, vs, e1, e2, e3⟩ := R.cell k c e
    exact ⟨a, vs, e1, nH e2, e3⟩
  · obtain ⟨a, vs, e1, e2, e3⟩ := R.own i xs e
    exact ⟨a, vs, e1, nH e2, e3⟩
/-- a known list that nobody holds as its own becomes immutable -/
theorem Rep.freeze (R : Rep K B G io s σ H) {p : Addr} {o : HO} (h : H p = some o) (hg : G p = none) (hi : p ∉ io) (hP : B.P p = none)
    (ho : ∀ (i : Nat) (xs : List D), s.r[i]? = some (some (.own xs)) → σ[i]? ≠ some (some (.ref p))) : Rep K B (upd G p o) io s σ H := by
  have sg : Sub G (upd G p o) := sub_upd hg
  refine ⟨fun a u e => ?_, R.nd, R.ml, fun k c e => ?_, fun a ha => ?_, R.len, fun i d e => ?_, fun i xs e => ?_, R.apart, R.fr, R.g0.tr sg, fun a u e => ?_, R.i0⟩
  · by_cases z : a = p
    · subst z; rw [upd_same] at e; cases e; exact h
    · rw [upd_ne z] at e; exact R.le _ _ e
  · obtain ⟨a, vs, e1, e2, e3⟩ := R.cell k c e
    exact ⟨a, vs, e1, e2, e3.up sg (List.prefix_refl _)⟩
  · refine ⟨?_, (R.cg a ha).2⟩
    have q : a ≠ p := fun z => hi (by rw [← z]; exact ha)
    rw [upd_ne q]; exact (R.cg a ha).1
  · obtain ⟨v, e1, e2⟩ := R.val i d e
    exact ⟨v, e1, e2.up sg (List.prefix_refl _)⟩
  · obtain ⟨a, vs, e1, e2, e3, e4, e5, e6⟩ := R.own i xs e
    refine ⟨a, vs, e1, e2, e3.up sg (List.prefix_refl _), ?_, e5, e6⟩
    have q : a ≠ p := fun z => ho i xs e (by rw [← z]; exact e1)
    rw [upd_ne q]; exact e4
  · by_cases z : a = p
    · subst z; exact .inr hP
    · rw [upd_ne z] at e; exact R.gnew _ _ e
end
end DL
end

section
set_option Elab.async false
set_option linter.all false
set_option autoImplicit false
set_option maxRecDepth 100000
set_option maxHeartbeats 1000000
namespace DL
open PySem PySem.Spec L2

/-! ### the small language -/
inductive Op2 where | add | sub | mul | fdiv | mod | pow
  deriving DecidableEq, Repr
inductive Cm where | eq | ne | lt | le | gt | ge | is | isnot | inn | notin
  deriving DecidableEq, Repr
inductive Bi where | len | abs | int | min | max | list | tuple | all | any | sum | isinst (t : String) | repr | gcd | sorted | str
  deriving DecidableEq, Repr
inductive Mt where | upper | join | replace | split | strip
  deriving DecidableEq, Repr
/-- constants of the text -/
inductive Ct where | non | bl (b : Bool) | int (i : Int) | str (s : String)
  deriving DecidableEq, Repr
def Ct.d : Ct → D
  | .non => .non | .bl b => .bl b | .int i => .int i | .str s => .str (Str.ofString s)

mutual
inductive DX where
  | fail | var (i : Nat) | const (c : Ct) | glob (x : Nat)
  | op (o : Op2) (a b : DX) | neg (a : DX)
  | cmp (c : Cm) (a b : DX) | chain (c c' : Cm) (a b e : DX)
  | and (a b : DX) | or (a b : DX) | not (a : DX) | ite (t : DT) (a b : DX)
  | tup (as : DXs) | lst (as : DXs) | cell (as : DXs) | emp
  | idx (a b : DX) | sli (a : DX) (lo hi : DXo) | rev (a : DX)
  | call (f : Nat) (as : DXs) | bi (f : Bi) (as : DXs) | meth (m : Mt) (a : DX) (as : DXs)
  | lrg (t : Bool) (as : DXs)
  | comp (own : List Nat) (tg : DTg) (it : DIt) (ifs : DT) (e : DX)
inductive DT where | yes | tv (a : DX) | and (a b : DT) | or (a b : DT) | not (a : DT)
inductive DXs where | nil | cons (a : DX) (as : DXs) | star (a : DX) (as : DXs)
inductive DXo where | none | some (a : DX)
inductive DIt where | seq (a : DX) | rng (as : DXs) | zip (a b : DX) | enum (a : DX)
inductive DTg where | nm (i : Nat) | tup (ts : DTgs)
inductive DTgs where | nil | cons (t : DTg) (ts : DTgs)
end
mutual
inductive DS where
  | set (i : Nat) (e : DX) | own (i : Nat) (e : DX) | unp (tg : DTg) (e : DX) | par (is : List (Nat × Bool)) (es : DXs)
  | app (i : Nat) (e : DX) | ext (i : Nat) (e : DX) | putv (i : Nat) (k e : DX) | put (a k e : DX)
  | fail | drop (e : DX) | ret (e : DX) | retn | pass | brk | cont
  | ite (t : DT) (a b : DSs) | whl (t : DT) (b : DSs) | forr (tg : DTg) (it : DIt) (b : DSs)
inductive DSs where | nil | cons (a : DS) (as : DSs)
end

/-! ### what is reckoned -/
inductive R (α : Type) where
  | ok (a : α) (s : S) | exc (c : String) (d : D) (s : S) | stuck
/-- a mark that holds simp out of what comes behind -/
def Tg {α : Type} (_f : α) : Type := Unit
def R.bind {α β : Type} (x : R α) (f : α → S → R β) (_t : Tg f := ()) : R β := match x with | .ok a s => f a s | .exc c d s => .exc c d s | .stuck => .stuck
@[simp] theorem bind_ok {α β : Type} (a : α) (s : S) (f : α → S → R β) : (R.ok a s).bind f = f a s := rfl
@[simp] theorem bind_exc {α β : Type} (c : String) (d : D) (s : S) (f : α → S → R β) : (R.exc c d s).bind f = .exc c d s := rfl
@[simp] theorem bind_stuck {α β : Type} (f : α → S → R β) : (R.stuck : R α).bind f = .stuck := rfl
def opt {α : Type} (o : Option α) (s : S) : R α := match o with | some a => .ok a s | none => .stuck
@[simp] theorem opt_some {α : Type} (a : α) (s : S) : opt (some a) s = .ok a s := rfl
@[simp] theorem opt_none {α : Type} (s : S) : opt (none : Option α) s = .stuck := rfl
theorem bind_eq_ok {α β : Type} {x : R α} {f : α → S → R β} {b : β} {s : S} (h : x.bind f = .ok b s) : ∃ a s1, x = .ok a s1 ∧ f a s1 = .ok b s := by
  cases x with
  | ok a s1 => exact ⟨a, s1, rfl, h⟩
  | exc _ _ _ => cases h
  | stuck => cases h
theorem opt_eq_ok {α : Type} {o : Option α} {s s' : S} {a : α} (h : opt o s = .ok a s') : o = some a ∧ s = s' := by
  cases o with
  | none => cases h
  | some b => cases h; exact ⟨rfl, rfl⟩

/-! data of the library's own kind -/
mutual
def toP : D → Option PyData
  | .non => some .none | .bl b => some (.bool b) | .int i => some (.int i) | .str s => some (.str s)
  | .tup xs => (toPs xs).map .tuple | .lst xs => (toPs xs).map .list | .klst xs => (toPs xs).map .list
  | .emp => none | .ref _ => none
def toPs : List D → Option (List PyData)
  | [] => some []
  | x :: xs => match toP x, toPs xs with | some a, some as => some (a :: as) | _, _ => none
end
/-- == where it is decided -/
def eqD (x y : D) : Option Bool := match x, y with
  | .int i, .int j => some (decide (i = j))
  | .str i, .str j => some (decide (i = j))
  | .bl i, .bl j => some (decide (i = j))
  | x, y => match toP x, toP y with
    | some a, some b => if SeqAt.shaped a && SeqAt.shaped b then some (PyData.eqv a b) else none
    | _, _ => none
def truth : D → Option Bool
  | .non => some false | .bl b => some b | .int i => some (i != 0)
  | .str s => if s.length ≤ sizeLine then some ((s.length : Int) != 0) else none
  | .tup xs => some (!xs.isEmpty) | .lst xs => some (!xs.isEmpty) | .klst xs => some (!xs.isEmpty) | .emp => some false
  | .ref _ => none
def isNon : D → Bool
  | .non => true | _ => false
def seqOf : D → Option (List D)
  | .tup xs => some xs | .lst xs => some xs | .klst xs => some xs | _ => none
def lseqOf : D → Option (List D)
  | .lst xs => some xs | .klst xs => some xs | _ => none
/-- a sequence's items, a text's signs too -/
def itemsOf : D → Option (List D)
  | .tup xs => some xs | .lst xs => some xs | .klst xs => some xs
  | .str s => some (s.cps.toList.map fun c => .str ⟨#[c]⟩)
  | _ => none
def flatD : D → Bool
  | .non => true | .bl _ => true | .int _ => true | .str _ => true | _ => false
def eqS : D → D → Bool
  | .non, .non => true
  | .bl a, .bl b => a == b
  | .bl a, .int b => (if a then 1 else 0) == b
  | .int a, .bl b => a == (if b then 1 else 0)
  | .int a, .int b => a == b
  | .str a, .str b => a == b
  | _, _ => false
def inD (x : D) (y : D) : Option Bool := match seqOf y with
  | some ys => if flatD x && ys.all flatD then some (ys.any fun z => eqS z x) else none
  | none => match x, y with
    | .str i, .str j => some (!(Builtin.Str.occurrences j i 0 j.length 1).isEmpty)
    | _, _ => none
def cmD (c : Cm) (x y : D) : Option Bool := match c with
  | .eq => eqD x y
  | .ne => (eqD x y).map (!·)
  | .lt => match x, y with | .int i, .int j => some (decide (i < j)) | _, _ => none
  | .le => match x, y with | .int i, .int j => some (decide (i ≤ j)) | _, _ => none
  | .gt => match x, y with | .int i, .int j => some (decide (j < i)) | _, _ => none
  | .ge => match x, y with | .int i, .int j => some (decide (j ≤ i)) | _, _ => none
  | .is => match x, y with | x, .non => some (isNon x) | .bl a, .bl b => some (decide (a = b)) | _, _ => none
  | .isnot => match x, y with | x, .non => some (!isNon x) | .bl a, .bl b => some (!decide (a = b)) | _, _ => none
  | .inn => inD x y
  | .notin => (inD x y).map (!·)
def op2 (o : Op2) (x y : D) : Option D := match o, x, y with
  | .add, .int i, .int j => some (.int (i + j))
  | .sub, .int i, .int j => some (.int (i - j))
  | .mul, .int i, .int j => if i.natAbs.log2 + j.natAbs.log2 < 1000000 then some (.int (i * j)) else none
  | .fdiv, .int i, .int j => if 0 < j ∧ j.natAbs.log2 < 9000 then some (.int (i / j)) else none
  | .mod, .int i, .int j => if 0 < j then some (.int (i % j)) else none
  | .pow, .int i, .int j => if 0 ≤ j ∧ (Builtin.Int.intBits i : Int) * j ≤ 2 ^ 27 then some (.int (i ^ j.toNat)) else none
  | .add, .str i, .str j => if i.length + j.length ≤ sizeLine then some (.str (i ++ j)) else none
  | .add, .tup i, .tup j => if i.length + j.length ≤ sizeLine then some (.tup (i ++ j)) else none
  | .add, .lst i, .lst j => if i.length + j.length ≤ sizeLine then some (.lst (i ++ j)) else none
  | .mul, .lst i, .int k => if -(2 ^ 63) ≤ k ∧ k < 2 ^ 63 ∧ i.length * k.toNat ≤ sizeLine then some (.lst (List.replicate k.toNat i).flatten) else none
  | _, _, _ => none
def idxD (x y : D) : Option D := match x, y with
  | .tup xs, .int i => atI xs i
  | .lst xs, .int i => atI xs i
  | .klst xs, .int i => atI xs i
  | .str z, .int i => if z.length ≤ sizeLine then (atI z.cps.toList i).map fun c => .str ⟨#[c]⟩ else none
  | _, _ => none
def cutD (xs : List D) (lo hi : Option Int) : List D := (xs.drop (HT.sIx xs.length 0 lo)).take (HT.sIx xs.length xs.length hi - HT.sIx xs.length 0 lo)
def sliD (x : D) (lo hi : Option Int) : Option D := match x with
  | .tup xs => some (.tup (cutD xs lo hi))
  | .lst xs => some (.lst (cutD xs lo hi))
  | .klst xs => some (.lst (cutD xs lo hi))
  | .str z => if z.length ≤ sizeLine then some (.str (cutS z lo hi)) else none
  | _ => none
def revD (x : D) : Option D := match x with
  | .tup xs => some (.tup xs.reverse)
  | .lst xs => some (.lst xs.reverse)
  | _ => none
def isTy (t : String) : D → Option Bool
  | .non => some false
  | .bl _ => some (t == "bool" || t == "int")
  | .int _ => some (t == "int")
  | .str _ => some (t == "str")
  | .tup _ => some (t == "tuple")
  | .lst _ => some (t == "list")
  | .klst _ => some (t == "list")
  | .emp => some (t == "dict")
  | .ref _ => some (t == "list")
def intsOf : List D → Option (List Int)
  | [] => some []
  | .int i :: r => (intsOf r).map (i :: ·)
  | _ => none
def blsOf : List D → Option (List Bool)
  | [] => some []
  | .bl i :: r => (blsOf r).map (i :: ·)
  | _ => none
def strsOf : List D → Option (List Str)
  | [] => some []
  | .str i :: r => (strsOf r).map (i :: ·)
  | _ => none
/-- pairs of ints in their order -/
def pairsOf : List D → Option (List (Int × Int))
  | [] => some []
  | .tup [.int i, .int j] :: r => (pairsOf r).map ((i, j) :: ·)
  | _ => none
def insP (p : Int × Int) : List (Int × Int) → List (Int × Int)
  | [] => [p]
  | q :: r => if p.1 < q.1 ∨ (p.1 = q.1 ∧ p.2 ≤ q.2) then p :: q :: r else q :: insP p r
def sortP : List (Int × Int) → List (Int × Int)
  | [] => []
  | p :: r => insP p (sortP r)
def reprD (x : D) : Option Str := match x with
  | .non => some (Str.ofString "None") | .bl b => some (Str.ofString (if b then "True" else "False"))
  | .int i => if i.natAbs.log2 < 1920 then some (Str.ofString (toString i)) else none
  | x => match toP x with
    | some a => match a with
      | .list _ | .tuple _ => if a.showable && decide (a.depth ≤ 64) && decide (a.shown.length ≤ sizeLine) then some a.shown else none
      | _ => none
    | none => none
def biD (f : Bi) (xs : List D) : Option D := match f, xs with
  | .len, [.str s] => if s.length ≤ sizeLine then some (.int (s.length : Nat)) else none
  | .len, [x] => (seqOf x).map fun ys => .int (ys.length : Nat)
  | .abs, [.int i] => some (.int (if i < 0 then -i else i))
  | .int, [.int i] => some (.int i)
  | .int, [.bl b] => some (.int (if b then 1 else 0))
  | .min, [.int i, .int j] => some (.int (if j < i then j else i))
  | .max, [.int i, .int j] => some (.int (if j > i then j else i))
  | .list, [x] => (seqOf x).map .lst
  | .tuple, [x] => (seqOf x).map .tup
  | .all, [x] => ((lseqOf x).bind blsOf).map fun bs => .bl (bs.all id)
  | .any, [x] => ((lseqOf x).bind blsOf).map fun bs => .bl (bs.any id)
  | .sum, [x] => ((lseqOf x).bind intsOf).map fun ns => .int ns.sum
  | .isinst t, [x] => (isTy t x).map .bl
  | .repr, [x] => (reprD x).map .str
  | .gcd, [.int a, .int b] => some (.int ((Nat.gcd a.natAbs b.natAbs : Nat) : Int))
  | .str, [.int i] => if i.natAbs.log2 < 1920 then some (.str (Str.ofString (toString i))) else none
  | .sorted, [x] => ((lseqOf x).bind pairsOf).map fun ps => .lst ((sortP ps).map fun p => .tup [.int p.1, .int p.2])
  | _, _ => none
def mtD (m : Mt) (x : D) (ys : List D) : Option D := match m, x, ys with
  | .upper, .str z, [] => if z.length ≤ 5592405 then some (.str (Txt.upper z)) else none
  | _, _, _ => none
def rngD (xs : List D) : Option (List D) := match xs with
  | [.int j] => if -(2 ^ 62) ≤ j ∧ j < 2 ^ 62 then some ((List.range j.toNat).map fun (i : Nat) => .int i) else none
  | [.int i, .int j] => if -(2 ^ 62) ≤ i ∧ i < 2 ^ 62 ∧ -(2 ^ 62) ≤ j ∧ j < 2 ^ 62 then some ((List.range (j - i).toNat).map fun (k : Nat) => .int (i + k)) else none
  | _ => none

def rgDs (a b : Int) : List D := (List.range (b - a).toNat).map fun i => D.int (a + (i : Nat))
/-- list(range(..)) -/
def lrgD (t : Bool) (xs : List D) : Option D := match xs with
  | [.int j] => if -(2 ^ 62) ≤ j ∧ j < 2 ^ 62 ∧ (j - 0).toNat ≤ 2 ^ 24 then some (if t then .tup (rgDs 0 j) else .lst (rgDs 0 j)) else none
  | [.int i, .int j] => if -(2 ^ 62) ≤ i ∧ i < 2 ^ 62 ∧ -(2 ^ 62) ≤ j ∧ j < 2 ^ 62 ∧ (j - i).toNat ≤ 2 ^ 24 then some (if t then .tup (rgDs i j) else .lst (rgDs i j)) else none
  | _ => none

/-! ### functions of the text -/
inductive FR where
  | ok (d : D) (m : List (List D)) | exc (c : String) (d : D) (m : List (List D)) | stuck
structure Gv where
  F : Nat → List D → List (List D) → FR
  C : Nat → Option D
def frR (x : FR) (s : S) : R D := match x with | .ok d m => .ok d { s with m := m } | .exc c d m => .exc c d { s with m := m } | .stuck => .stuck
@[simp] theorem frR_ok (d : D) (m : List (List D)) (s : S) : frR (.ok d m) s = .ok d { s with m := m } := rfl
@[simp] theorem frR_stuck (s : S) : frR .stuck s = .stuck := rfl

/-! ### the evaluator -/
inductive Fl where | next | brk | cont | ret (d : D)
/-- a slot as a value; an own list is then held by others too -/
def rdv (i : Nat) (s : S) : R D := match s.r[i]? with
  | some (some (.val d)) => .ok d s
  | some (some (.own xs)) => .ok (.lst xs) { s with r := s.r.set i (some (.val (.lst xs))) }
  | _ => .stuck
/-- a slot as it stands -/
def peek (i : Nat) (s : S) : Option D := match s.r[i]? with
  | some (some (.val d)) => some d
  | some (some (.own xs)) => some (.lst xs)
  | _ => none
def rderef (d : D) (s : S) : Option D := match d with
  | .ref k => (s.m[k]?).map .lst
  | d => some d
def setV (i : Nat) (d : D) (s : S) : Option S := if i < s.r.length then some { s with r := s.r.set i (some (.val d)) } else none
mutual
def asg : DTg → D → S → Option S
  | .nm i, d, s => setV i d s
  | .tup ts, d, s => match d with
    | .tup ds => asgs ts ds s
    | _ => none
def asgs : DTgs → List D → S → Option S
  | .nil, [], s => some s
  | .cons t ts, d :: ds, s => (asg t d s).bind fun s => asgs ts ds s
  | _, _, _ => none
end
def loopF (body : D → S → R Fl) : List D → S → R Fl
  | [], s => .ok .next s
  | d :: ds, s => (body d s).bind fun f s => match f with
    | .next => loopF body ds s
    | .cont => loopF body ds s
    | .brk => .ok .next s
    | .ret d => .ok (.ret d) s
def loopW (t : S → R Bool) (body : S → R Fl) : Nat → S → R Fl
  | 0, _ => .stuck
  | n + 1, s => (t s).bind fun b s => if b then (body s).bind fun f s => (match f with
    | .next => loopW t body n s
    | .cont => loopW t body n s
    | .brk => .ok .next s
    | .ret d => .ok (.ret d) s) else .ok .next s
open Classical in
noncomputable def whileR (t : S → R Bool) (body : S → R Fl) (s : S) : R Fl :=
  if h : ∃ n f s', loopW t body n s = .ok f s' then loopW t body h.choose s else .stuck
def wipeS (r : List (Option Sl)) : List Nat → List (Option Sl)
  | [] => r
  | i :: is => (wipeS r is).set i none
/-- no slot of these is a list of its own -/
def plainAt (r : List (Option Sl)) : List Nat → Bool
  | [] => true
  | i :: is => (match r[i]? with | some (some (.own _)) => false | _ => true) && plainAt r is
def backS (r0 r : List (Option Sl)) : List Nat → List (Option Sl)
  | [] => r
  | i :: is => (match r0[i]? with | some x => (backS r0 r is).set i x | none => backS r0 r is)
def loopC (own : List Nat) (g : D → S → Option S) (t : S → R Bool) (e : S → R D) : List D → S → R (List D)
  | [], s => .ok [] s
  | d :: ds, s => (opt (g d s) s).bind fun s1 _ => (t s1).bind fun b s2 => if b then (e s2).bind fun y s3 =>
      (loopC own g t e ds { s3 with r := wipeS s3.r own }).bind fun ys s4 => .ok (y :: ys) s4
    else loopC own g t e ds { s2 with r := wipeS s2.r own }
def zipD : List D → List D → List D
  | x :: xs, y :: ys => .tup [x, y] :: zipD xs ys
  | _, _ => []
def zipK (x y : D) : Option (List D) := match seqOf x, seqOf y with
  | some xs, some ys => some (zipD xs ys)
  | _, _ => none
def enumD : Int → List D → List D
  | i, x :: xs => .tup [.int i, x] :: enumD (i + 1) xs
  | _, [] => []
/-- a slot that is read behind another part -/
def peekR {α : Type} (i : Nat) (f : S → R D) (g : D → D → S → R α) (s : S) : R α := match peek i s with
  | some _ => (f s).bind fun y s => (match peek i s with | some x => g x y s | none => .stuck)
  | none => .stuck
def isVar : DX → Option Nat
  | .var i => some i
  | _ => none

mutual
noncomputable def ev (E : Gv) : DX → S → R D
  | .fail, _ => .stuck
  | .var i, s => rdv i s
  | .const c, s => .ok c.d s
  | .glob x, s => opt (E.C x) s
  | .op o a b, s => (ev E a s).bind fun x s => (ev E b s).bind fun y s => opt (op2 o x y) s
  | .neg a, s => (ev E a s).bind fun x s => (match x with | .int i => .ok (.int (-i)) s | _ => .stuck)
  | .cmp c a b, s => match isVar a with
    | some i => peekR i (ev E b) (fun x y s => opt ((cmD c x y).map .bl) s) s
    | none => (ev E a s).bind fun x s => (ev E b s).bind fun y s => opt ((cmD c x y).map .bl) s
  | .chain c c' a b e, s => (ev E a s).bind fun x s => (ev E b s).bind fun y s => (opt (cmD c x y) s).bind fun k s => if k then (ev E e s).bind fun z s => opt ((cmD c' y z).map .bl) s else .ok (.bl false) s
  | .and a b, s => (ev E a s).bind fun x s => (opt (truth x) s).bind fun k s => if k then ev E b s else .ok x s
  | .or a b, s => (ev E a s).bind fun x s => (opt (truth x) s).bind fun k s => if k then .ok x s else ev E b s
  | .not a, s => (ev E a s).bind fun x s => (opt (truth x) s).bind fun k s => .ok (.bl (!k)) s
  | .ite t a b, s => (tst E t s).bind fun k s => if k then ev E a s else ev E b s
  | .tup as, s => (evs E as s).bind fun ds s => if ds.length ≤ sizeLine then .ok (.tup ds) s else .stuck
  | .lst as, s => (evs E as s).bind fun ds s => if ds.length ≤ sizeLine then .ok (.lst ds) s else .stuck
  | .cell as, s => (evs E as s).bind fun ds s => if ds.length ≤ sizeLine then .ok (.ref s.m.length) { s with m := s.m ++ [ds] } else .stuck
  | .emp, s => .ok .emp s
  | .idx a b, s => match isVar a with
    | some i => peekR i (ev E b) (fun x y s => (opt (rderef x s) s).bind fun x s => opt (idxD x y) s) s
    | none => (ev E a s).bind fun x s => (ev E b s).bind fun y s => (opt (rderef x s) s).bind fun x s => opt (idxD x y) s
  | .sli a lo hi, s => (ev E a s).bind fun x s => (evo E lo s).bind fun l s => (evo E hi s).bind fun h s => opt (sliD x l h) s
  | .rev a, s => (ev E a s).bind fun x s => opt (revD x) s
  | .call f as, s => (evs E as s).bind fun ds s => frR (E.F f ds s.m) s
  | .bi f as, s => match f, as with
    | .len, .cons (.var i) .nil => (match peek i s with | some x => (opt (rderef x s) s).bind fun x s => opt (biD .len [x]) s | none => .stuck)
    | _, _ => (evs E as s).bind fun ds s => opt (biD f ds) s
  | .meth m a as, s => (ev E a s).bind fun x s => (evs E as s).bind fun ys s => opt (mtD m x ys) s
  | .lrg t as, s => (evs E as s).bind fun ds s => opt (lrgD t ds) s
  | .comp own tg it ifs e, s => (evit E it s).bind fun ds s => if plainAt s.r own then
      (loopC own (asg tg) (tst E ifs) (ev E e) ds { s with r := wipeS s.r own }).bind fun ys s' => if ds.length < sizeLine then .ok (.lst ys) { s' with r := backS s.r s'.r own } else .stuck
    else .stuck
noncomputable def evs (E : Gv) : DXs → S → R (List D)
  | .nil, s => .ok [] s
  | .cons a as, s => (ev E a s).bind fun d s => (evs E as s).bind fun ds s => .ok (d :: ds) s
  | .star a as, s => (ev E a s).bind fun d s => (match seqOf d with | some xs => (evs E as s).bind fun ds s => .ok (xs ++ ds) s | none => .stuck)
noncomputable def evo (E : Gv) : DXo → S → R (Option Int)
  | .none, s => .ok none s
  | .some a, s => (ev E a s).bind fun d s => (match d with | .int i => .ok (some i) s | _ => .stuck)
noncomputable def evit (E : Gv) : DIt → S → R (List D)
  | .seq a, s => (ev E a s).bind fun d s => opt (itemsOf d) s
  | .rng as, s => (evs E as s).bind fun ds s => opt (rngD ds) s
  | .zip a b, s => (ev E a s).bind fun x s => (ev E b s).bind fun y s => opt (zipK x y) s
  | .enum a, s => (ev E a s).bind fun x s => opt ((lseqOf x).map (enumD 0)) s
noncomputable def tst (E : Gv) : DT → S → R Bool
  | .yes, s => .ok true s
  | .and a b, s => (tst E a s).bind fun k s => if k then tst E b s else .ok false s
  | .or a b, s => (tst E a s).bind fun k s => if k then .ok true s else tst E b s
  | .not a, s => (tst E a s).bind fun k s => .ok (!k) s
  | .tv a, s => match isVar a with
    | some i => (match peek i s with | some x => opt (truth x) s | none => .stuck)
    | none => (ev E a s).bind fun x s => opt (truth x) s
end
def ownAt (i : Nat) (s : S) : Option (List D) := match s.r[i]? with
  | some (some (.own xs)) => some xs
  | _ => none
def own1 (i : Nat) (d : D) (s : S) : Option S := match d with
  | .lst xs => if i < s.r.length then some { s with r := s.r.set i (some (.own xs)) } else none
  | _ => none
def put1 : List (Nat × Bool) → List D → S → Option S
  | [], [], s => some s
  | (i, o) :: is, d :: ds, s => (if o then own1 i d s else setV i d s).bind fun s => put1 is ds s
  | _, _, _ => none
mutual
noncomputable def evS (E : Gv) : DS → S → R Fl
  | .set i e, s => (ev E e s).bind fun d s => (opt (setV i d s) s).bind fun s _ => .ok .next s
  | .own i e, s => (ev E e s).bind fun d s => (opt (own1 i d s) s).bind fun s _ => .ok .next s
  | .unp tg e, s => (ev E e s).bind fun d s => (opt (asg tg d s) s).bind fun s _ => .ok .next s
  | .par is es, s => (evs E es s).bind fun ds s => (opt (put1 is ds s) s).bind fun s _ => .ok .next s
  | .app i e, s => if (ownAt i s).isSome then (ev E e s).bind fun d s => (opt (ownAt i s) s).bind fun xs s =>
      if xs.length < sizeLine then .ok .next { s with r := s.r.set i (some (.own (xs ++ [d]))) } else .stuck else .stuck
  | .ext i e, s => if (ownAt i s).isSome then (ev E e s).bind fun d s => (opt (ownAt i s) s).bind fun xs s => (match d with
      | .lst ys => if xs.length + ys.length ≤ sizeLine then .ok .next { s with r := s.r.set i (some (.own (xs ++ ys))) } else .stuck
      | _ => .stuck) else .stuck
  | .putv i k e, s => (ev E e s).bind fun d s => if (ownAt i s).isSome then (ev E k s).bind fun kd s => (opt (ownAt i s) s).bind fun xs s => (match kd with
      | .int k => (match ixN xs.length k with
        | some j => .ok .next { s with r := s.r.set i (some (.own (xs.set j d))) }
        | none => .stuck)
      | _ => .stuck) else .stuck
  | .put a k e, s => (ev E e s).bind fun d s => (ev E a s).bind fun ad s => (ev E k s).bind fun kd s => (match ad, kd with
    | .ref c, .int k => (match s.m[c]? with
      | some xs => (match ixN xs.length k with
        | some j => .ok .next { s with m := s.m.set c (xs.set j d) }
        | none => .stuck)
      | none => .stuck)
    | _, _ => .stuck)
  | .fail, _ => .stuck
  | .drop e, s => (ev E e s).bind fun _ s => .ok .next s
  | .ret e, s => (ev E e s).bind fun d s => .ok (.ret d) s
  | .retn, s => .ok (.ret .non) s
  | .pass, s => .ok .next s
  | .brk, s => .ok .brk s
  | .cont, s => .ok .cont s
  | .ite t a b, s => (tst E t s).bind fun k s => if k then evSs E a s else evSs E b s
  | .whl t b, s => whileR (tst E t) (evSs E b) s
  | .forr tg it b, s => (evit E it s).bind fun ds s => loopF (fun d s => (opt (asg tg d s) s).bind fun s _ => evSs E b s) ds s
noncomputable def evSs (E : Gv) : DSs → S → R Fl
  | .nil, s => .ok .next s
  | .cons a as, s => (evS E a s).bind fun f s => match f with
    | .next => evSs E as s
    | f => .ok f s
end
/-- a body run at its arguments -/
noncomputable def runB (E : Gv) (n : Nat) (b : DSs) (ds : List D) (m : List (List D)) : FR :=
  match evSs E b ⟨ds.map (fun d => some (Sl.val d)) ++ List.replicate (n - ds.length) none, m⟩ with
  | .ok (.ret d) s => .ok d s.m
  | .ok .next s => .ok .non s.m
  | .exc c d s => .exc c d s.m
  | _ => .stuck
end DL
end

section
set_option Elab.async false
set_option linter.all false
set_option autoImplicit false
set_option maxRecDepth 100000
set_option maxHeartbeats 1000000
namespace DL
open PySem PySem.Spec L2
abbrev St := L2.St

/-! ### readings over deep values -/
def post (K : PySem.W.Frag) (B : Bs) (G : Hp) (io : List Addr) (σ : St) (r : R D) (Q : VK) : Prop := match r with
  | .ok d s => ∀ G' io' v H', Rep K B G' io' s σ H' → Sub G G' → io <+: io' → DV K G' io' v d → Q v H'
  | _ => False
def tD (K : PySem.W.Frag) (B : Bs) (f : S → R D) : TE := fun σ H Q => ∃ G io s, Rep K B G io s σ H ∧ post K B G io σ (f s) Q
/-- a new list that nobody holds -/
structure Fresh (K : PySem.W.Frag) (B : Bs) (G : Hp) (io : List Addr) (s : S) (σ : St) (H : Hp) (p : Addr) (vs : List V) (ds : List D) : Prop where
  at' : H p = some (.lst vs)
  dv : DVs K G io vs ds
  g : G p = none
  io : p ∉ io
  P : B.P p = none
  no : ∀ (i : Nat) (xs : List D), s.r[i]? = some (some (.own xs)) → σ[i]? ≠ some (some (.ref p))
def postL (K : PySem.W.Frag) (B : Bs) (G : Hp) (io : List Addr) (σ : St) (r : R D) (Q : VK) : Prop := match r with
  | .ok (.lst ds) s => ∀ G' io' p vs H', Rep K B G' io' s σ H' → Sub G G' → io <+: io' → Fresh K B G' io' s σ H' p vs ds → Q (.ref p) H'
  | _ => False
def tL (K : PySem.W.Frag) (B : Bs) (f : S → R D) : TE := fun σ H Q => ∃ G io s, Rep K B G io s σ H ∧ postL K B G io σ (f s) Q
def postA (K : PySem.W.Frag) (B : Bs) (G : Hp) (io : List Addr) (σ : St) (r : R (List D)) (Q : List V → Hp → Prop) : Prop := match r with
  | .ok ds s => ∀ G' io' vs H', Rep K B G' io' s σ H' → Sub G G' → io <+: io' → DVs K G' io' vs ds → Q vs H'
  | _ => False
def tA (K : PySem.W.Frag) (B : Bs) (f : S → R (List D)) : TA := fun σ H Q => ∃ G io s, Rep K B G io s σ H ∧ postA K B G io σ (f s) Q
def postT (K : PySem.W.Frag) (B : Bs) (G : Hp) (io : List Addr) (σ : St) (r : R Bool) (Q : Bool → Hp → Prop) : Prop := match r with
  | .ok b s => ∀ G' io' H', Rep K B G' io' s σ H' → Sub G G' → io <+: io' → Q b H'
  | _ => False
def tT (K : PySem.W.Frag) (B : Bs) (f : S → R Bool) : TT := fun σ H Q => ∃ G io s, Rep K B G io s σ H ∧ postT K B G io σ (f s) Q

section
variable {X : Cx} {e a b : Expr} {t t' : TE} {pos : Pos}
theorem PE.imp (h : PE X e t) (i : ∀ σ H Q, t' σ H Q → t σ H Q) : PE X e t' := ⟨fun pins s σ H Q I q => h.run pins s σ H Q I (i σ H Q q)⟩
theorem PT.imp {u u' : TT} (h : PT X e u) (i : ∀ σ H Q, u' σ H Q → u σ H Q) : PT X e u' := ⟨fun pins s σ H Q I q => h.run pins s σ H Q I (i σ H Q q)⟩
theorem PW.imp {u u' : TT} (h : PW X e u) (i : ∀ σ H Q, u' σ H Q → u σ H Q) : PW X e u' := ⟨fun wh pins s σ H Q I q => h.run wh pins s σ H Q I (i σ H Q q)⟩
theorem PA.imp {es : List Expr} {u u' : TA} (h : PA X es u) (i : ∀ σ H Q, u' σ H Q → u σ H Q) : PA X es u' := ⟨fun pos pins s σ H Q I q => h.run pos pins s σ H Q I (i σ H Q q)⟩
theorem PS.imp {st : Stmt} {u u' : TS} (h : PS X st u) (i : ∀ D σ H, u' D σ H → u D σ H) : PS X st u' := ⟨fun pins s σ H D I q => h.run pins s σ H D I (i D σ H q)⟩
theorem PSs.imp {st : List Stmt} {u u' : TS} (h : PSs X st u) (i : ∀ D σ H, u' D σ H → u D σ H) : PSs X st u' := ⟨fun pins s σ H D I q => h.run pins s σ H D I (i D σ H q)⟩
end

section
variable {K : PySem.W.Frag} {B : Bs} {G G1 : Hp} {io io1 : List Addr} {s : S} {σ : St} {H : Hp} {Q : VK}
/-- from a later state -/
theorem post.up {r : R D} (h : post K B G io σ r Q) (sg : Sub G G1) (p : io <+: io1) : post K B G1 io1 σ r Q := by
  cases r with
  | ok d s => exact fun G' io' v H' R s1 p1 dv => h G' io' v H' R (sg.tr s1) (p.trans p1) dv
  | exc => exact h
  | stuck => exact h
theorem postL.up {r : R D} (h : postL K B G io σ r Q) (sg : Sub G G1) (p : io <+: io1) : postL K B G1 io1 σ r Q := by
  cases r with
  | ok d s =>
    cases d with
    | lst ds => exact fun G' io' v vs H' R s1 p1 dv => h G' io' v vs H' R (sg.tr s1) (p.trans p1) dv
    | _ => exact h
  | exc => exact h
  | stuck => exact h
theorem postA.up {r : R (List D)} {Q : List V → Hp → Prop} (h : postA K B G io σ r Q) (sg : Sub G G1) (p : io <+: io1) : postA K B G1 io1 σ r Q := by
  cases r with
  | ok d s => exact fun G' io' v H' R s1 p1 dv => h G' io' v H' R (sg.tr s1) (p.trans p1) dv
  | exc => exact h
  | stuck => exact h
theorem postT.up {r : R Bool} {Q : Bool → Hp → Prop} (h : postT K B G io σ r Q) (sg : Sub G G1) (p : io <+: io1) : postT K B G1 io1 σ r Q := by
  cases r with
  | ok d s => exact fun G' io' H' R s1 p1 => h G' io' H' R (sg.tr s1) (p.trans p1)
  | exc => exact h
  | stuck => exact h
/-- THE STEP of a chain: the first part, then the rest -/
theorem tD.run {f : S → R D} {g : D → S → R D} (R : Rep K B G io s σ H) (h : post K B G io σ ((f s).bind g) Q) {Q1 : VK}
    (k : ∀ d s1 G1 io1 v H1, f s = .ok d s1 → Rep K B G1 io1 s1 σ H1 → Sub G G1 → io <+: io1 → DV K G1 io1 v d → post K B G1 io1 σ (g d s1) Q → Q1 v H1) : tD K B f σ H Q1 := by
  refine ⟨G, io, s, R, ?_⟩
  cases e : f s with
  | ok d s1 =>
    rw [e] at h
    exact fun G1 io1 v H1 R1 sg p dv => k d s1 G1 io1 v H1 e R1 sg p dv (post.up h sg p)
  | exc => rw [e] at h; exact h.elim
  | stuck => rw [e] at h; exact h.elim
theorem DV.inH {v : V} {d : D} (R : Rep K B G io s σ H) (h : DV K G io v d) : DV K H io v d := h.up R.le (List.prefix_refl _)
theorem DVs.inH {v : List V} {d : List D} (R : Rep K B G io s σ H) (h : DVs K G io v d) : DVs K H io v d := h.up R.le (List.prefix_refl _)
/-- what is done with a value that needs no object -/
theorem post.done {d : D} {v : V} (h : post K B G io σ (.ok d s) Q) (R : Rep K B G io s σ H) (dv : DV K G io v d) : Q v H :=
  h G io v H R Sub.rfl' (List.prefix_refl _) dv
/-- .. with a new list, tuple -/
theorem post.lst {ds : List D} {vs : List V} {p : Addr} (h : post K B G io σ (.ok (.lst ds) s) Q) (R : Rep K B G io s σ H) (dv : DVs K G io vs ds) (hp : H p = none) : Q (.ref p) (upd H p (.lst vs)) := by
  have sg : Sub G (upd G p (.lst vs)) := sub_upd (R.pn hp).1
  exact h _ io _ _ (R.new hp) sg (List.prefix_refl _) (.lst upd_same (dv.up sg (List.prefix_refl _)))
theorem post.tup {ds : List D} {vs : List V} {p : Addr} (h : post K B G io σ (.ok (.tup ds) s) Q) (R : Rep K B G io s σ H) (dv : DVs K G io vs ds) (hp : H p = none) : Q (.ref p) (upd H p (.tup vs)) := by
  have sg : Sub G (upd G p (.tup vs)) := sub_upd (R.pn hp).1
  exact h _ io _ _ (R.new hp) sg (List.prefix_refl _) (.tup (SqT.of upd_same) (dv.up sg (List.prefix_refl _)))
theorem Fresh.mk' {ds : List D} {vs : List V} {p : Addr} (R : Rep K B G io s σ H) (dv : DVs K G io vs ds) (hp : H p = none) : Fresh K B G io s σ (upd H p (.lst vs)) p vs ds := by
  obtain ⟨h1, h2, h3⟩ := R.pn hp
  refine ⟨upd_same, dv, h1, h3, h2, fun i xs e z => ?_⟩
  obtain ⟨a, ws, e1, e2, _⟩ := R.own i xs e
  rw [e1] at z; cases z
  rw [hp] at e2; cases e2
theorem postL.lst {ds : List D} {vs : List V} {p : Addr} (h : postL K B G io σ (.ok (.lst ds) s) Q) (R : Rep K B G io s σ H) (dv : DVs K G io vs ds) (hp : H p = none) : Q (.ref p) (upd H p (.lst vs)) :=
  h G io p vs _ (R.grow hp) Sub.rfl' (List.prefix_refl _) (Fresh.mk' R dv hp)
/-- a fresh list may be taken as a value -/
theorem tL.val {f : S → R D} (hf : ∀ s d s', f s = .ok d s' → ∃ ds, d = .lst ds) (h : tD K B f σ H Q) : tL K B f σ H Q := by
  obtain ⟨G, io, s, R, h⟩ := h
  refine ⟨G, io, s, R, ?_⟩
  cases e : f s with
  | ok d s1 =>
    obtain ⟨ds, rfl⟩ := hf _ _ _ e
    rw [e] at h
    intro G' io' p vs H' R' sg pp F
    have sg' : Sub G' (upd G' p (.lst vs)) := sub_upd F.g
    exact h _ io' _ _ (R'.freeze F.at' F.g F.io F.P F.no) (sg.tr sg') pp (.lst upd_same (F.dv.up sg' (List.prefix_refl _)))
  | exc => rw [e] at h; exact h.elim
  | stuck => rw [e] at h; exact h.elim
end

/-! ### data of the library's kind -/
mutual
theorem DV.dp {K : PySem.W.Frag} {H : Hp} {io : List Addr} : ∀ {d : D} {v : V} {x : PyData}, DV K H io v d → toP d = some x → Dp K H v x
  | .non, _, _, h, e => by cases h; cases e; exact .non
  | .bl _, _, _, h, e => by cases h; cases e; exact .bl _
  | .int _, _, _, h, e => by cases h; cases e; exact .int _
  | .str _, _, _, h, e => by cases h; cases e; exact .str _
  | .tup ds, _, _, h, e => by
    cases h with
    | tup a b =>
      cases q : toPs ds with
      | none => simp [toP, q] at e
      | some xs => simp [toP, q] at e; subst e; exact .tup a (DVs.dp b q)
  | .lst ds, _, _, h, e => by
    cases h with
    | lst a b =>
      cases q : toPs ds with
      | none => simp [toP, q] at e
      | some xs => simp [toP, q] at e; subst e; exact .lst (SqL.of a) (DVs.dp b q)
  | .klst ds, _, _, h, e => by
    cases h with
    | klst a b =>
      cases q : toPs ds with
      | none => simp [toP, q] at e
      | some xs => simp [toP, q] at e; subst e; exact .lst a (DVs.dp b q)
  | .emp, _, _, _, e => by simp [toP] at e
  | .ref _, _, _, _, e => by simp [toP] at e
theorem DVs.dp {K : PySem.W.Frag} {H : Hp} {io : List Addr} : ∀ {ds : List D} {vs : List V} {xs : List PyData}, DVs K H io vs ds → toPs ds = some xs → DpAll K H vs xs
  | [], _, _, h, e => by cases h; cases e; exact .nil
  | d :: ds, _, _, h, e => by
    cases h with
    | cons a b =>
      cases q : toP d with
      | none => simp [toPs, q] at e
      | some x =>
        cases q' : toPs ds with
        | none => simp [toPs, q, q'] at e
        | some xs => simp [toPs, q, q'] at e; subst e; exact .cons (DV.dp a q) (DVs.dp b q')
end
end DL
end

section
set_option Elab.async false
set_option linter.all false
set_option autoImplicit false
set_option maxRecDepth 100000
set_option maxHeartbeats 1000000
namespace DL
open PySem PySem.Spec L2

/-! ### operators by values -/
def opA : Op2 → Operator
  | .add => .Add | .sub => .Sub | .mul => .Mult | .fdiv => .FloorDiv | .mod => .Mod | .pow => .Pow
def rO (K : PySem.W.Frag) (B : Bs) (o : Op2) : R2 := fun x y H Q => ∃ G io s σ d e, Rep K B G io s σ H ∧ DV K G io x d ∧ DV K G io y e ∧ post K B G io σ (opt (op2 o d e) s) Q
theorem nope {K : PySem.W.Frag} {B : Bs} {G : Hp} {io : List Addr} {s : S} {σ : St} {Q : VK} {P : Prop} (h : post K B G io σ (opt (none : Option D) s) Q) : P := h.elim
section
variable {X : Cx} {B : Bs}
theorem opr_add : OpR X (binaryOp .Add) (rO X.K B .add) := by
  intro pins s σ H x y v u Q I rx ry h
  obtain ⟨G, io, st, σ', d, e, R, dx, dy, h⟩ := h
  cases d <;> cases e <;> first | exact nope h | skip
  case int.int i j =>
    cases dx; cases dy
    exact op_add pins s σ H _ _ v u Q I rx ry ⟨i, j, rfl, rfl, post.done h R (.int _)⟩
  case str.str i j =>
    cases dx; cases dy
    simp only [op2] at h
    split at h
    · rename_i hz
      exact op_add_str pins s σ H _ _ v u Q I rx ry ⟨i, j, rfl, rfl, hz, post.done h R (.str _)⟩
    · exact nope h
  case tup.tup xs ys =>
    cases dx with
    | tup a1 b1 =>
      cases dy with
      | tup a2 b2 =>
        simp only [op2] at h
        split at h
        · rename_i hz
          rename_i aa vs bb ws
          refine op_catA pins s σ H _ _ v u Q I rx ry ⟨_, _, _, _, rfl, rfl, SqT.sub R.le a1, SqT.sub R.le a2, by rw [b1.length, b2.length]; exact hz, fun e => ?_, fun e1 e2 => ?_, fun e1 e2 p hp => post.tup h R (b1.app b2) hp⟩
          · have e' : xs = [] := by have := b1.length; rw [e] at this; exact List.length_eq_zero_iff.mp this.symm
            subst e'
            exact post.done h R (.tup a2 b2)
          · have e' : ys = [] := by have := b2.length; rw [e2] at this; exact List.length_eq_zero_iff.mp this.symm
            subst e'
            rw [List.append_nil] at h
            exact post.done h R (.tup a1 b1)
        · exact nope h
  case lst.lst xs ys =>
    cases dx with
    | lst a1 b1 =>
      cases dy with
      | lst a2 b2 =>
        simp only [op2] at h
        split at h
        · rename_i hz
          exact op_cat pins s σ H _ _ v u Q I rx ry ⟨_, _, _, _, rfl, rfl, R.le _ _ a1, R.le _ _ a2, by rw [b1.length, b2.length]; exact hz, fun p hp => post.lst h R (b1.app b2) hp⟩
        · exact nope h
theorem opr_sub : OpR X (binaryOp .Sub) (rO X.K B .sub) := by
  intro pins s σ H x y v u Q I rx ry h
  obtain ⟨G, io, st, σ', d, e, R, dx, dy, h⟩ := h
  cases d <;> cases e <;> first | exact nope h | skip
  case int.int i j =>
    cases dx; cases dy
    exact op_sub pins s σ H _ _ v u Q I rx ry ⟨i, j, rfl, rfl, post.done h R (.int _)⟩
theorem opr_mul : OpR X (binaryOp .Mult) (rO X.K B .mul) := by
  intro pins s σ H x y v u Q I rx ry h
  obtain ⟨G, io, st, σ', d, e, R, dx, dy, h⟩ := h
  cases d <;> cases e <;> first | exact nope h | skip
  case int.int i j =>
    cases dx; cases dy
    simp only [op2] at h
    split at h
    · rename_i hz
      exact op_mulW pins s σ H _ _ v u Q I rx ry ⟨i, j, rfl, rfl, hz, post.done h R (.int _)⟩
    · exact nope h
  case lst.int xs k =>
    cases dy
    cases dx with
    | lst a1 b1 =>
      simp only [op2] at h
      split at h
      · rename_i hz
        exact op_rep pins s σ H _ _ v u Q I rx ry ⟨_, k, _, rfl, rfl, R.le _ _ a1, hz.1, hz.2.1, by rw [b1.length]; exact hz.2.2, fun p hp => post.lst h R (b1.reps2 _) hp⟩
      · exact nope h
theorem opr_fdiv : OpR X (binaryOp .FloorDiv) (rO X.K B .fdiv) := by
  intro pins s σ H x y v u Q I rx ry h
  obtain ⟨G, io, st, σ', d, e, R, dx, dy, h⟩ := h
  cases d <;> cases e <;> first | exact nope h | skip
  case int.int i j =>
    cases dx; cases dy
    simp only [op2] at h
    split at h
    · rename_i hz
      exact op_fdivW pins s σ H _ _ v u Q I rx ry ⟨i, j, rfl, rfl, hz, post.done h R (.int _)⟩
    · exact nope h
theorem opr_mod : OpR X (binaryOp .Mod) (rO X.K B .mod) := by
  intro pins s σ H x y v u Q I rx ry h
  obtain ⟨G, io, st, σ', d, e, R, dx, dy, h⟩ := h
  cases d <;> cases e <;> first | exact nope h | skip
  case int.int i j =>
    cases dx; cases dy
    simp only [op2] at h
    split at h
    · rename_i hz
      exact op_mod pins s σ H _ _ v u Q I rx ry ⟨i, j, rfl, rfl, hz, post.done h R (.int _)⟩
    · exact nope h
theorem opr_pow : OpR X (binaryOp .Pow) (rO X.K B .pow) := by
  intro pins s σ H x y v u Q I rx ry h
  obtain ⟨G, io, st, σ', d, e, R, dx, dy, h⟩ := h
  cases d <;> cases e <;> first | exact nope h | skip
  case int.int i j =>
    cases dx; cases dy
    simp only [op2] at h
    split at h
    · rename_i hz
      exact opI (C := fun i j => 0 ≤ j ∧ (Builtin.Int.intBits i : Int) * j ≤ 2 ^ 27) (g := fun i j => i ^ j.toNat) (fun _ _ _ _ _ _ _ hc q => PyProof.Rows.pow_int hc.1 hc.2 q) pins s σ H _ _ v u Q I rx ry ⟨i, j, rfl, rfl, hz, post.done h R (.int _)⟩
    · exact nope h
theorem opr (o : Op2) : OpR X (binaryOp (opA o)) (rO X.K B o) := by
  cases o
  · exact opr_add
  · exact opr_sub
  · exact opr_mul
  · exact opr_fdiv
  · exact opr_mod
  · exact opr_pow

/-! ### comparisons by values -/
def cmA : Cm → CmpOp
  | .eq => .Eq | .ne => .NotEq | .lt => .Lt | .le => .LtE | .gt => .Gt | .ge => .GtE | .is => .Is | .isnot => .IsNot | .inn => .In | .notin => .NotIn
def rC (K : PySem.W.Frag) (c : Cm) : R2 := fun x y H Q => ∃ io d e k, DV K H io x d ∧ DV K H io y e ∧ cmD c d e = some k ∧ Q (.bl k) H
theorem eqD_gen {x y : D} {k : Bool} (h : eqD x y = some k) : (∃ i j : Int, x = .int i ∧ y = .int j ∧ k = decide (i = j)) ∨ (∃ i j : Str, x = .str i ∧ y = .str j ∧ k = decide (i = j)) ∨
    (∃ i j : Bool, x = .bl i ∧ y = .bl j ∧ k = decide (i = j)) ∨ (∃ a b, toP x = some a ∧ toP y = some b ∧ SeqAt.shaped a = true ∧ SeqAt.shaped b = true ∧ k = PyData.eqv a b) := by
  unfold eqD at h
  split at h
  · exact .inl ⟨_, _, rfl, rfl, (Option.some.inj h).symm⟩
  · exact .inr (.inl ⟨_, _, rfl, rfl, (Option.some.inj h).symm⟩)
  · exact .inr (.inr (.inl ⟨_, _, rfl, rfl, (Option.some.inj h).symm⟩))
  · split at h
    · rename_i a b e1 e2
      split at h
      · rename_i hs
        simp only [Bool.and_eq_true] at hs
        exact .inr (.inr (.inr ⟨a, b, e1, e2, hs.1, hs.2, (Option.some.inj h).symm⟩))
      · cases h
    · cases h
theorem isNon_iff {K : PySem.W.Frag} {H : Hp} {io : List Addr} {x : V} {d : D} (h : DV K H io x d) : decide (x = .non) = isNon d := by
  cases h <;> simp [isNon]
theorem opc_eq (hu : X.A.units + 64 < cLine) : OpR X (compareOp .Eq) (rC X.K .eq) := by
  intro pins s σ H x y v u Q I rx ry h
  obtain ⟨io, d, e, k, dx, dy, hk, q⟩ := h
  rcases eqD_gen (show eqD d e = some k from hk) with ⟨i, j, rfl, rfl, rfl⟩ | ⟨i, j, rfl, rfl, rfl⟩ | ⟨i, j, rfl, rfl, rfl⟩ | ⟨a, b, e1, e2, s1, s2, rfl⟩
  · cases dx; cases dy
    refine op_eq pins s σ H _ _ v u Q I rx ry ⟨rfl, ?_⟩
    have e : decide (V.int i = V.int j) = decide (i = j) := by simp
    rw [e]; exact q
  · cases dx; cases dy
    refine op_eq pins s σ H _ _ v u Q I rx ry ⟨rfl, ?_⟩
    have e : decide (V.str i = V.str j) = decide (i = j) := by simp
    rw [e]; exact q
  · cases dx; cases dy
    refine op_eq pins s σ H _ _ v u Q I rx ry ⟨rfl, ?_⟩
    have e : decide (V.bl i = V.bl j) = decide (i = j) := by simp
    rw [e]; exact q
  · exact op_eqD hu pins s σ H _ _ v u Q I rx ry ⟨a, b, dx.dp e1, dy.dp e2, s1, s2, q⟩
theorem opc_ne (hu : X.A.units + 64 < cLine) : OpR X (compareOp .NotEq) (rC X.K .ne) := by
  intro pins s σ H x y v u Q I rx ry h
  obtain ⟨io, d, e, k, dx, dy, hk, q⟩ := h
  obtain ⟨k', hk', rfl⟩ := Option.map_eq_some_iff.mp (show (eqD d e).map (!·) = some k from hk)
  rcases eqD_gen hk' with ⟨i, j, rfl, rfl, rfl⟩ | ⟨i, j, rfl, rfl, rfl⟩ | ⟨i, j, rfl, rfl, rfl⟩ | ⟨a, b, e1, e2, s1, s2, rfl⟩
  · cases dx; cases dy
    refine op_ne pins s σ H _ _ v u Q I rx ry ⟨rfl, ?_⟩
    have e : decide (V.int i = V.int j) = decide (i = j) := by simp
    rw [e]; exact q
  · cases dx; cases dy
    refine op_ne pins s σ H _ _ v u Q I rx ry ⟨rfl, ?_⟩
    have e : decide (V.str i = V.str j) = decide (i = j) := by simp
    rw [e]; exact q
  · cases dx; cases dy
    refine op_ne pins s σ H _ _ v u Q I rx ry ⟨rfl, ?_⟩
    have e : decide (V.bl i = V.bl j) = decide (i = j) := by simp
    rw [e]; exact q
  · exact op_neD hu pins s σ H _ _ v u Q I rx ry ⟨a, b, dx.dp e1, dy.dp e2, s1, s2, q⟩
theorem opc_ord (c : Cm) (hc : c = .lt ∨ c = .le ∨ c = .gt ∨ c = .ge) : OpR X (compareOp (cmA c)) (rC X.K c) := by
  intro pins s σ H x y v u Q I rx ry h
  obtain ⟨io, d, e, k, dx, dy, hk, q⟩ := h
  rcases hc with rfl | rfl | rfl | rfl <;> cases d <;> cases e <;> simp only [cmD, reduceCtorEq, Option.some.injEq] at hk <;> cases dx <;> cases dy <;> subst hk
  · exact op_lt pins s σ H _ _ v u Q I rx ry ⟨_, _, rfl, rfl, q⟩
  · exact op_le pins s σ H _ _ v u Q I rx ry ⟨_, _, rfl, rfl, q⟩
  · exact op_gt pins s σ H _ _ v u Q I rx ry ⟨_, _, rfl, rfl, q⟩
  · exact op_ge pins s σ H _ _ v u Q I rx ry ⟨_, _, rfl, rfl, q⟩
theorem opc_is : OpR X (compareOp .Is) (rC X.K .is) := by
  intro pins s σ H x y v u Q I rx ry h
  obtain ⟨io, d, e, k, dx, dy, hk, q⟩ := h
  simp only [cmD] at hk
  split at hk
  · cases hk; cases dy
    exact op_isN pins s σ H _ _ v u Q I rx ry ⟨rfl, by rw [isNon_iff dx]; exact q⟩
  · cases hk; cases dx; cases dy
    exact op_isBl pins s σ H _ _ v u Q I rx ry ⟨_, _, rfl, rfl, q⟩
  · cases hk
theorem opc_isnot : OpR X (compareOp .IsNot) (rC X.K .isnot) := by
  intro pins s σ H x y v u Q I rx ry h
  obtain ⟨io, d, e, k, dx, dy, hk, q⟩ := h
  simp only [cmD] at hk
  split at hk
  · cases hk; cases dy
    exact op_notN pins s σ H _ _ v u Q I rx ry ⟨rfl, by rw [isNon_iff dx]; exact q⟩
  · cases hk; cases dx; cases dy
    exact op_isnot_bl pins s σ H _ _ v u Q I rx ry ⟨_, _, rfl, rfl, q⟩
  · cases hk
theorem flat_v {K : PySem.W.Frag} {H : Hp} {io : List Addr} {x : V} {d : D} (h : DV K H io x d) (f : flatD d = true) : flatV x = true := by
  cases h <;> first | rfl | cases f
theorem flat_vs {K : PySem.W.Frag} {H : Hp} {io : List Addr} : ∀ {xs : List V} {ds : List D}, DVs K H io xs ds → ds.all flatD = true → xs.all flatV = true
  | _, _, .nil, _ => rfl
  | _, _, .cons a t, f => by
    simp only [List.all_cons, Bool.and_eq_true] at f ⊢
    exact ⟨flat_v a f.1, flat_vs t f.2⟩
theorem eqS_v {K : PySem.W.Frag} {H : Hp} {io : List Addr} {x y : V} {d e : D} (h : DV K H io x d) (h' : DV K H io y e) (f : flatD d = true) (f' : flatD e = true) : eqV x y = eqS d e := by
  cases d <;> first | exact Bool.noConfusion f | skip
  all_goals (cases e <;> first | exact Bool.noConfusion f' | skip)
  all_goals (cases h; cases h'; rfl)
theorem anyS {K : PySem.W.Frag} {H : Hp} {io : List Addr} {x : V} {d : D} (h : DV K H io x d) (f : flatD d = true) : ∀ {xs : List V} {ds : List D}, DVs K H io xs ds → ds.all flatD = true → inV x xs = ds.any fun z => eqS z d
  | _, _, .nil, _ => rfl
  | _, _, .cons a t, g => by
    simp only [List.all_cons, Bool.and_eq_true] at g
    have ih := anyS h f t g.2
    unfold inV at ih ⊢
    rw [List.any_cons, List.any_cons, ih, eqS_v a h g.1 f]
theorem seq_v {K : PySem.W.Frag} {H : Hp} {io : List Addr} {x : V} {d : D} {ds : List D} (h : DV K H io x d) (e : seqOf d = some ds) : ∃ p vs, x = .ref p ∧ (SqL K H p vs ∨ SqT K H p vs) ∧ DVs K H io vs ds := by
  cases h <;> first | cases e | skip
  · rename_i a b c; exact ⟨_, _, rfl, .inr b, c⟩
  · rename_i a b c; exact ⟨_, _, rfl, .inl (SqL.of b), c⟩
  · rename_i a b c; exact ⟨_, _, rfl, .inl b, c⟩
theorem opc_in : OpR X (compareOp .In) (rC X.K .inn) := by
  intro pins s σ H x y v u Q I rx ry h
  obtain ⟨io, d, e, k, dx, dy, hk, q⟩ := h
  simp only [cmD, inD] at hk
  split at hk
  · rename_i ys hy
    split at hk
    · rename_i hf
      simp only [Bool.and_eq_true] at hf
      cases hk
      obtain ⟨p, vs, rfl, hs, hv⟩ := seq_v dy hy
      exact op_in_seq pins s σ H _ _ v u Q I rx ry ⟨p, vs, rfl, hs, flat_v dx hf.1, flat_vs hv hf.2, by rw [anyS dx hf.1 hv hf.2]; exact q⟩
    · cases hk
  · split at hk
    · cases hk; cases dx; cases dy
      exact op_in_str pins s σ H _ _ v u Q I rx ry ⟨_, _, rfl, rfl, q⟩
    · cases hk
theorem opc_notin : OpR X (compareOp .NotIn) (rC X.K .notin) := by
  intro pins s σ H x y v u Q I rx ry h
  obtain ⟨io, d, e, k, dx, dy, hk, q⟩ := h
  obtain ⟨k', hk', rfl⟩ := Option.map_eq_some_iff.mp (show (inD d e).map (!·) = some k from hk)
  simp only [inD] at hk'
  split at hk'
  · rename_i ys hy
    split at hk'
    · rename_i hf
      simp only [Bool.and_eq_true] at hf
      cases hk'
      obtain ⟨p, vs, rfl, hs, hv⟩ := seq_v dy hy
      exact op_notIn_seq pins s σ H _ _ v u Q I rx ry ⟨p, vs, rfl, hs, flat_v dx hf.1, flat_vs hv hf.2, by rw [anyS dx hf.1 hv hf.2]; exact q⟩
    · cases hk'
  · split at hk'
    · cases hk'; cases dx; cases dy
      exact op_notin_str pins s σ H _ _ v u Q I rx ry ⟨_, _, rfl, rfl, q⟩
    · cases hk'
theorem opc (hu : X.A.units + 64 < cLine) (c : Cm) : OpR X (compareOp (cmA c)) (rC X.K c) := by
  cases c
  · exact opc_eq hu
  · exact opc_ne hu
  · exact opc_ord .lt (by simp)
  · exact opc_ord .le (by simp)
  · exact opc_ord .gt (by simp)
  · exact opc_ord .ge (by simp)
  · exact opc_is
  · exact opc_isnot
  · exact opc_in
  · exact opc_notin
end
end DL
end

section
set_option Elab.async false
set_option linter.all false
set_option autoImplicit false
set_option maxRecDepth 100000
set_option maxHeartbeats 1000000
namespace DL
open PySem PySem.Spec L2

section
variable {K : PySem.W.Frag} {B : Bs} {G G1 : Hp} {io io1 : List Addr} {s : S} {σ : St} {H : Hp} {Q : VK}
/-- other slots -/
theorem Rep.reslot (R : Rep K B G io s σ H) {r' : List (Option Sl)} {σ' : St} (len : r'.length = σ'.length)
    (val : ∀ (i : Nat) (d : D), r'[i]? = some (some (.val d)) → ∃ v, σ'[i]? = some (some v) ∧ DV K G io v d)
    (own : ∀ (i : Nat) (xs : List D), r'[i]? = some (some (.own xs)) → ∃ a vs, σ'[i]? = some (some (.ref a)) ∧ H a = some (.lst vs) ∧ DVs K G io vs xs ∧ G a = none ∧ a ∉ io ∧ B.P a = none)
    (apart : ∀ (i j : Nat) (xs ys : List D) (a : Addr), i ≠ j → r'[i]? = some (some (.own xs)) → r'[j]? = some (some (.own ys)) → σ'[i]? = some (some (.ref a)) → σ'[j]? ≠ some (some (.ref a))) :
    Rep K B G io { s with r := r' } σ' H := ⟨R.le, R.nd, R.ml, R.cell, R.cg, len, val, own, apart, R.fr, R.g0, R.gnew, R.i0⟩
theorem get_set {α : Type} {l : List α} {i j : Nat} {x y : α} (h : (l.set i x)[j]? = some y) : (i = j ∧ y = x ∧ i < l.length) ∨ (i ≠ j ∧ l[j]? = some y) := by
  by_cases e : i = j
  · subst e
    by_cases hl : i < l.length
    · rw [List.getElem?_set_self hl] at h; exact .inl ⟨rfl, (Option.some.inj h).symm, hl⟩
    · rw [List.getElem?_eq_none (by simpa using hl)] at h; cases h
  · rw [List.getElem?_set_ne e] at h; exact .inr ⟨e, h⟩
/-- a slot gets a value -/
theorem Rep.setv (R : Rep K B G io s σ H) {i : Nat} {v : V} {d : D} (dv : DV K G io v d) (hi : i < s.r.length) :
    Rep K B G io { s with r := s.r.set i (some (.val d)) } (σ.set i (some v)) H := by
  have hl := R.len
  refine R.reslot (by simp [hl]) (fun j e h => ?_) (fun j xs h => ?_) fun j k xs ys a n h1 h2 h3 => ?_
  · rcases get_set h with ⟨rfl, e', _⟩ | ⟨n, h⟩
    · cases e'; exact ⟨v, by rw [List.getElem?_set_self (by omega)], dv⟩
    · rw [List.getElem?_set_ne n]; exact R.val j e h
  · rcases get_set h with ⟨rfl, e', _⟩ | ⟨n, h⟩
    · cases e'
    · rw [List.getElem?_set_ne n]; exact R.own j xs h
  · rcases get_set h1 with ⟨rfl, e', _⟩ | ⟨n1, h1⟩
    · cases e'
    · rcases get_set h2 with ⟨rfl, e', _⟩ | ⟨n2, h2⟩
      · cases e'
      · rw [List.getElem?_set_ne n1] at h3; rw [List.getElem?_set_ne n2]; exact R.apart j k xs ys a n h1 h2 h3
/-- .. a list of its own -/
theorem Rep.seto (R : Rep K B G io s σ H) {i : Nat} {p : Addr} {vs : List V} {ds : List D} (F : Fresh K B G io s σ H p vs ds) (hi : i < s.r.length) :
    Rep K B G io { s with r := s.r.set i (some (.own ds)) } (σ.set i (some (.ref p))) H := by
  have hl := R.len
  refine R.reslot (by simp [hl]) (fun j e h => ?_) (fun j xs h => ?_) fun j k xs ys a n h1 h2 h3 => ?_
  · rcases get_set h with ⟨rfl, e', _⟩ | ⟨n, h⟩
    · cases e'
    · rw [List.getElem?_set_ne n]; exact R.val j e h
  · rcases get_set h with ⟨rfl, e', _⟩ | ⟨n, h⟩
    · cases e'
      exact ⟨p, vs, by rw [List.getElem?_set_self (by omega)], F.at', F.dv, F.g, F.io, F.P⟩
    · rw [List.getElem?_set_ne n]; exact R.own j xs h
  · rcases get_set h1 with ⟨rfl, e1, l1⟩ | ⟨n1, h1⟩
    · rcases get_set h2 with ⟨rfl, _, _⟩ | ⟨n2, h2⟩
      · exact absurd rfl n
      · rw [List.getElem?_set_self (by omega)] at h3
        cases h3
        rw [List.getElem?_set_ne n2]; exact F.no k ys h2
    · rcases get_set h2 with ⟨rfl, e2, l2⟩ | ⟨n2, h2⟩
      · rw [List.getElem?_set_self (by omega)]
        rw [List.getElem?_set_ne n1] at h3
        intro z; cases z
        exact F.no j xs h1 h3
      · rw [List.getElem?_set_ne n1] at h3; rw [List.getElem?_set_ne n2]; exact R.apart j k xs ys a n h1 h2 h3
/-- an own list is told to all -/
theorem Rep.tell (R : Rep K B G io s σ H) {i : Nat} {xs : List D} (h : s.r[i]? = some (some (.own xs))) :
    ∃ a vs, σ[i]? = some (some (.ref a)) ∧ Sub G (upd G a (.lst vs)) ∧ Rep K B (upd G a (.lst vs)) io { s with r := s.r.set i (some (.val (.lst xs))) } σ H ∧ DV K (upd G a (.lst vs)) io (.ref a) (.lst xs) := by
  obtain ⟨a, vs, e1, e2, e3, e4, e5, e6⟩ := R.own i xs h
  have hl := R.len
  have sg : Sub G (upd G a (.lst vs)) := sub_upd e4
  have hi : i < s.r.length := (List.getElem?_eq_some_iff.mp h).1
  have R1 : Rep K B G io { s with r := s.r.set i none } σ H := by
    refine R.reslot (by simp [hl]) (fun j e h => ?_) (fun j ys h => ?_) fun j k ys zs b n h1 h2 h3 => ?_
    · rcases get_set h with ⟨rfl, e', _⟩ | ⟨n, h⟩
      · cases e'
      · exact R.val j e h
    · rcases get_set h with ⟨rfl, e', _⟩ | ⟨n, h⟩
      · cases e'
      · exact R.own j ys h
    · rcases get_set h1 with ⟨rfl, e', _⟩ | ⟨n1, h1⟩
      · cases e'
      · rcases get_set h2 with ⟨rfl, e', _⟩ | ⟨n2, h2⟩
        · cases e'
        · exact R.apart j k ys zs b n h1 h2 h3
  have no : ∀ (j : Nat) (ys : List D), (s.r.set i none)[j]? = some (some (.own ys)) → σ[j]? ≠ some (some (.ref a)) := fun j ys q => by
    rcases get_set q with ⟨_, e', _⟩ | ⟨n, q⟩
    · cases e'
    · exact R.apart i j xs ys a n h q e1
  have R2 := R1.freeze (p := a) e2 e4 e5 e6 no
  have dv : DV K (upd G a (.lst vs)) io (.ref a) (.lst xs) := .lst upd_same (e3.up sg (List.prefix_refl _))
  have R3 := R2.setv (i := i) dv (by simpa using hi)
  refine ⟨a, vs, e1, sg, ?_, dv⟩
  have es : σ.set i (some (.ref a)) = σ := by
    apply List.ext_getElem?
    intro j
    by_cases e : i = j
    · subst e; rw [List.getElem?_set_self (by omega), e1]
    · rw [List.getElem?_set_ne e]
  rw [es] at R3
  have er : (s.r.set i none).set i (some (Sl.val (.lst xs))) = s.r.set i (some (.val (.lst xs))) := by rw [List.set_set]
  have R3' : Rep K B (upd G a (.lst vs)) io { s with r := (s.r.set i none).set i (some (Sl.val (.lst xs))) } σ H := R3
  rw [er] at R3'
  exact R3'
theorem peek_v (R : Rep K B G io s σ H) {i : Nat} {d : D} (h : peek i s = some d) : ∃ v, σ[i]? = some (some v) ∧ DV K H io v d := by
  unfold peek at h
  split at h
  · cases h
    rename_i e
    obtain ⟨v, e1, dv⟩ := R.val _ _ e
    exact ⟨v, e1, dv.inH R⟩
  · cases h
    rename_i e
    obtain ⟨a, vs, e1, e2, e3, _⟩ := R.own _ _ e
    exact ⟨_, e1, .lst e2 (e3.inH R)⟩
  · cases h
theorem truth_v {v : V} {d : D} {k : Bool} (h : DV K H io v d) (e : truth d = some k) : TruV K v H k := by
  cases h with
  | non => cases e; rfl
  | bl b => cases e; rfl
  | int i => cases e; rfl
  | str x =>
    simp only [truth] at e
    split at e
    · rename_i hz; cases e; exact ⟨hz, rfl⟩
    · cases e
  | tup a b =>
    cases e
    refine .inr (.inl ⟨_, a, ?_⟩)
    have := b.length
    cases b <;> rfl
  | lst a b =>
    cases e
    refine .inl ⟨_, SqL.of a, ?_⟩
    cases b <;> rfl
  | klst a b =>
    cases e
    refine .inl ⟨_, a, ?_⟩
    cases b <;> rfl
  | emp a => cases e; exact .inr (.inr ⟨_, a, rfl⟩)
  | ref a => cases e
/-- what may be read by its places -/
inductive RdS (K : PySem.W.Frag) (G : Hp) (io : List Addr) (H : Hp) : V → D → Prop where
  | tup {a : Addr} {vs : List V} {ds : List D} : SqT K H a vs → DVs K G io vs ds → RdS K G io H (.ref a) (.tup ds)
  | lst {a : Addr} {vs : List V} {ds : List D} : SqL K H a vs → DVs K G io vs ds → RdS K G io H (.ref a) (.lst ds)
  | klst {a : Addr} {vs : List V} {ds : List D} : SqL K H a vs → DVs K G io vs ds → RdS K G io H (.ref a) (.klst ds)
  | str (z : Str) : RdS K G io H (.str z) (.str z)
  | no {v : V} {d : D} : (∀ y, idxD d y = none) → seqOf d = none → (∀ z, d ≠ .str z) → RdS K G io H v d
theorem rds_of {v : V} {d d' : D} (R : Rep K B G io s σ H) (h : DV K G io v d) (e : rderef d s = some d') : RdS K G io H v d' := by
  cases h with
  | tup a b => cases e; exact .tup (SqT.sub R.le a) b
  | lst a b => cases e; exact .lst (SqL.of (R.le _ _ a)) b
  | klst a b => cases e; exact .klst (SqL.sub R.le a) b
  | str x => cases e; exact .str _
  | ref a =>
    rename_i a' k
    cases q : s.m[k]? with
    | none => simp [rderef, q] at e
    | some c =>
      simp [rderef, q] at e; subst e
      obtain ⟨b, vs, e1, e2, e3⟩ := R.cell k c q
      rw [a] at e1; cases e1
      exact .lst (SqL.of e2) e3
  | _ => cases e; exact .no (fun y => rfl) rfl (fun z h => by cases h)
theorem rds_peek {i : Nat} {d d' : D} (R : Rep K B G io s σ H) (h : peek i s = some d) (e : rderef d s = some d') : ∃ v, σ[i]? = some (some v) ∧ RdS K G io H v d' := by
  unfold peek at h
  split at h
  · cases h
    rename_i q
    obtain ⟨v, e1, dv⟩ := R.val _ _ q
    exact ⟨v, e1, rds_of R dv e⟩
  · cases h
    rename_i q
    obtain ⟨a, vs, e1, e2, e3, _⟩ := R.own _ _ q
    cases e
    exact ⟨_, e1, .lst (SqL.of e2) e3⟩
  · cases h
theorem at_v {vs : List V} {ds : List D} {i : Int} {d : D} (h : DVs K G io vs ds) (e : atI ds i = some d) : ∃ v, atI vs i = some v ∧ DV K G io v d := by
  unfold atI at e ⊢
  rw [h.length]
  cases q : ixN ds.length i with
  | none => rw [q] at e; cases e
  | some j =>
    rw [q] at e
    exact h.get e
theorem idx_run {v w : V} {d y : D} (R : Rep K B G io s σ H) (h : RdS K G io H v d) (hy : DV K G io w y) (p : post K B G io σ (opt (idxD d y) s) Q) : rIx K v w H Q := by
  have one : ∀ {vs ds i}, DVs K G io vs ds → y = .int i → idxD d y = atI ds i → ∃ u, atI vs i = some u ∧ Q u H := fun {vs ds i} hv hi e => by
    rw [e] at p
    cases q : atI ds i with
    | none => rw [q] at p; exact p.elim
    | some r =>
      rw [q] at p
      obtain ⟨u, e2, dv⟩ := at_v hv q
      exact ⟨u, e2, post.done p R dv⟩
  cases h with
  | no n => rw [n] at p; exact p.elim
  | tup a b =>
    cases hy <;> first | exact p.elim | skip
    rename_i i
    obtain ⟨u, e2, q⟩ := one b rfl rfl
    exact .inr (.inl ⟨_, _, i, u, rfl, rfl, a, e2, q⟩)
  | lst a b =>
    cases hy <;> first | exact p.elim | skip
    rename_i i
    obtain ⟨u, e2, q⟩ := one b rfl rfl
    exact .inl ⟨_, _, i, u, rfl, rfl, a, e2, q⟩
  | klst a b =>
    cases hy <;> first | exact p.elim | skip
    rename_i i
    obtain ⟨u, e2, q⟩ := one b rfl rfl
    exact .inl ⟨_, _, i, u, rfl, rfl, a, e2, q⟩
  | str z =>
    cases hy <;> first | exact p.elim | skip
    rename_i i
    simp only [idxD] at p
    split at p
    · rename_i hz
      cases q : atI z.cps.toList i with
      | none => rw [q] at p; exact p.elim
      | some c =>
        rw [q] at p
        exact .inr (.inr ⟨z, i, c, rfl, rfl, hz, q, post.done p R (.str _)⟩)
    · exact p.elim
end

/-! ### expressions -/
section
variable {X : Cx} {a b e : Expr} {pos : Pos} {fa fb : S → R D}
theorem s_var {i : Nat} {x : Str} (hN : X.N[i]? = some x) (hv : Vis X.env.scope x) (hd : (x == ("__debug__" : Str)) = false) (hcd : (x == ("__classdict__" : Str)) = false) (B : Bs) :
    PE X (.Name x pos) (tD X.K B (rdv i)) := by
  refine PE.imp (pe_var hN hv hd hcd) fun σ H Q ⟨G, io, s, R, h⟩ => ?_
  unfold rdv at h
  split at h
  · rename_i d q
    obtain ⟨v, e1, dv⟩ := R.val _ _ q
    exact ⟨v, e1, post.done h R dv⟩
  · rename_i xs q
    obtain ⟨a, vs, e1, sg, R', dv⟩ := R.tell q
    exact ⟨_, e1, h _ io _ _ R' sg (List.prefix_refl _) dv⟩
  · exact h.elim
theorem s_int {i : Int} {j : Nat} (B : Bs) : PE X (.Constant (.int i) j pos) (tD X.K B fun s => .ok (.int i) s) :=
  PE.imp pe_int fun σ H Q ⟨G, io, s, R, h⟩ => post.done h R (.int _)
theorem s_bl {i : Bool} {j : Nat} (B : Bs) : PE X (.Constant (.bool i) j pos) (tD X.K B fun s => .ok (.bl i) s) :=
  PE.imp pe_bl fun σ H Q ⟨G, io, s, R, h⟩ => post.done h R (.bl _)
theorem s_non {j : Nat} (B : Bs) : PE X (.Constant .none j pos) (tD X.K B fun s => .ok .non s) :=
  PE.imp pe_non fun σ H Q ⟨G, io, s, R, h⟩ => post.done h R .non
theorem s_str {i : Str} {j : Nat} (B : Bs) : PE X (.Constant (.str i) j pos) (tD X.K B fun s => .ok (.str i) s) :=
  PE.imp pe_str fun σ H Q ⟨G, io, s, R, h⟩ => post.done h R (.str _)
theorem s_glob {x : Str} {v : V} {u : Value} {d : D} (hg : Gl X x) (hm : X.mg x = some u) (r : RelV v u) (hv : ∀ G io, DV X.K G io v d) (hd : (x == ("__debug__" : Str)) = false) (B : Bs) :
    PE X (.Name x pos) (tD X.K B fun s => .ok d s) :=
  PE.imp (pe_glob hg hm r hd) fun σ H Q ⟨G, io, s, R, h⟩ => post.done h R (hv _ _)
theorem s_op (o : Op2) (ha : ∀ B, PE X a (tD X.K B fa)) (hb : ∀ B, PE X b (tD X.K B fb)) (B : Bs) :
    PE X (.BinOp a (opA o) b pos) (tD X.K B fun s => (fa s).bind fun x s => (fb s).bind fun y s => opt (op2 o x y) s) := by
  refine PE.imp (pe_op (opr (B := B) o) (ha B) (hb B)) fun σ H Q ⟨G, io, s, R, h⟩ => ?_
  refine tD.run R h fun d s1 G1 io1 v H1 e1 R1 sg1 p1 dv1 h1 => ?_
  refine tD.run R1 h1 fun d2 s2 G2 io2 v2 H2 e2 R2 sg2 p2 dv2 h2 => ?_
  exact ⟨G2, io2, s2, σ, d, d2, R2, dv1.up sg2 p2, dv2, h2⟩
theorem s_neg (ha : ∀ B, PE X a (tD X.K B fa)) (B : Bs) :
    PE X (.UnaryOp .USub a pos) (tD X.K B fun s => (fa s).bind fun x s => (match x with | .int i => .ok (.int (-i)) s | _ => .stuck)) := by
  refine PE.imp (pe_un un_neg (ha B)) fun σ H Q ⟨G, io, s, R, h⟩ => ?_
  refine tD.run R h fun d s1 G1 io1 v H1 e1 R1 sg1 p1 dv1 h1 => ?_
  cases dv1 <;> first | exact h1.elim | exact ⟨_, rfl, post.done h1 R1 (.int _)⟩
theorem cm_nomark (c : Cm) (h : ∀ es k p, b ≠ .Set es k p) : behindInMarks (cmA c) b = false := by
  cases b <;> first | rfl | exact absurd rfl (h _ _ _)
/-- the right side of a comparison, the left one read -/
theorem s_cmp (hu : X.A.units + 64 < cLine) (c : Cm) (ha : ∀ B, PE X a (tD X.K B fa)) (hb : ∀ B, PE X b (tD X.K B fb)) (hs : ∀ es k p, b ≠ .Set es k p) (B : Bs) :
    PE X (.Compare a [cmA c] [b] pos) (tD X.K B fun s => (fa s).bind fun x s => (fb s).bind fun y s => opt ((cmD c x y).map .bl) s) := by
  refine PE.imp (pe_cmpR (opc hu c) (ha B) (hb B) (cm_nomark c hs)) fun σ H Q ⟨G, io, s, R, h⟩ => ?_
  refine tD.run R h fun d s1 G1 io1 v H1 e1 R1 sg1 p1 dv1 h1 => ?_
  refine tD.run R1 h1 fun d2 s2 G2 io2 v2 H2 e2 R2 sg2 p2 dv2 h2 => ?_
  cases q : cmD c d d2 with
  | none => rw [q] at h2; exact h2.elim
  | some k =>
    rw [q] at h2
    exact ⟨io2, d, d2, k, (dv1.up sg2 p2).inH R2, dv2.inH R2, q, post.done h2 R2 (.bl _)⟩
/-- THE STEP where a slot is read, then another part -/
theorem tVar.run {K : PySem.W.Frag} {B : Bs} {G : Hp} {io : List Addr} {s : S} {σ : St} {H : Hp} {Q : VK} {i : Nat} {f : S → R D} {g : D → D → S → R D} {T : V → V → Hp → Prop} (R : Rep K B G io s σ H) (h : post K B G io σ (peekR i f g s) Q)
    (k : ∀ w d s1 G1 io1 x v H1, Rep K B G1 io1 s1 σ H1 → Sub G G1 → io <+: io1 → DV K G1 io1 v d → peek i s1 = some x → σ[i]? = some (some w) → post K B G1 io1 σ (g x d s1) Q → T w v H1) :
    tVar i σ H fun w H' => tD K B f σ H' fun v H1 => T w v H1 := by
  unfold peekR at h
  split at h
  · rename_i d0 q
    obtain ⟨w, e1, _⟩ := peek_v R q
    refine ⟨w, e1, ?_⟩
    refine tD.run R h fun d s1 G1 io1 v H1 e2 R1 sg1 p1 dv1 h1 => ?_
    split at h1
    · rename_i x q1
      exact k w d s1 G1 io1 x v H1 R1 sg1 p1 dv1 q1 e1 h1
    · exact h1.elim
  · exact h.elim
theorem s_cmpV (hu : X.A.units + 64 < cLine) (c : Cm) {i : Nat} {x : Str} {pos' : Pos} (hN : X.N[i]? = some x) (hv : Vis X.env.scope x) (hd : (x == ("__debug__" : Str)) = false) (hcd : (x == ("__classdict__" : Str)) = false)
    (hb : ∀ B, PE X b (tD X.K B fb)) (hs : ∀ es k p, b ≠ .Set es k p) (B : Bs) :
    PE X (.Compare (.Name x pos') [cmA c] [b] pos) (tD X.K B (peekR i fb fun x y s => opt ((cmD c x y).map .bl) s)) := by
  refine PE.imp (pe_cmpR (opc hu c) (pe_var hN hv hd hcd) (hb B) (cm_nomark c hs)) fun σ H Q ⟨G, io, s, R, h⟩ => ?_
  refine tVar.run R h fun w d s1 G1 io1 x v H1 R1 sg1 p1 dv1 q1 e1 h1 => ?_
  obtain ⟨w', e2, dw⟩ := peek_v R1 q1
  rw [e1] at e2; cases e2
  cases q : cmD c x d with
  | none => rw [q] at h1; exact h1.elim
  | some k =>
    rw [q] at h1
    exact ⟨io1, x, d, k, dw, dv1.inH R1, q, post.done h1 R1 (.bl _)⟩
theorem s_chain (hu : X.A.units + 64 < cLine) (c c' : Cm) {fe : S → R D} (ha : ∀ B, PE X a (tD X.K B fa)) (hb : ∀ B, PE X b (tD X.K B fb)) (he : ∀ B, PE X e (tD X.K B fe)) (hs : ∀ es k p, e ≠ .Set es k p) (B : Bs) :
    PE X (.Compare a [cmA c, cmA c'] [b, e] pos) (tD X.K B fun s => (fa s).bind fun x s => (fb s).bind fun y s => (opt (cmD c x y) s).bind fun k s => if k then (fe s).bind fun z s => opt ((cmD c' y z).map .bl) s else .ok (.bl false) s) := by
  refine PE.imp (pe_chain (opc hu c) (opc hu c') (ha B) (hb B) (he B) (cm_nomark c' hs)) fun σ H Q ⟨G, io, s, R, h⟩ => ?_
  refine tD.run R h fun d s1 G1 io1 v H1 e1 R1 sg1 p1 dv1 h1 => ?_
  refine tD.run R1 h1 fun d2 s2 G2 io2 v2 H2 e2 R2 sg2 p2 dv2 h2 => ?_
  cases q : cmD c d d2 with
  | none => rw [q] at h2; exact h2.elim
  | some k =>
    rw [q] at h2
    refine ⟨io2, d, d2, k, (dv1.up sg2 p2).inH R2, dv2.inH R2, q, k, rfl, ?_⟩
    cases k with
    | false => exact post.done h2 R2 (.bl _)
    | true =>
      rw [if_pos rfl]
      refine tD.run R2 h2 fun d3 s3 G3 io3 v3 H3 e3 R3 sg3 p3 dv3 h3 => ?_
      cases q : cmD c' d2 d3 with
      | none => rw [q] at h3; exact h3.elim
      | some k =>
        rw [q] at h3
        exact ⟨io3, d2, d3, k, (dv2.up sg3 p3).inH R3, dv3.inH R3, q, post.done h3 R3 (.bl _)⟩
theorem s_and {rest : List Expr} (ha : ∀ B, PE X a (tD X.K B fa)) (hb : ∀ B, PE X (.BoolOp .And (b :: rest) pos) (tD X.K B fb)) (B : Bs) :
    PE X (.BoolOp .And (a :: b :: rest) pos) (tD X.K B fun s => (fa s).bind fun x s => (opt (truth x) s).bind fun k s => if k then fb s else .ok x s) := by
  refine PE.imp (pe_andT (ha B) (hb B)) fun σ H Q ⟨G, io, s, R, h⟩ => ?_
  refine tD.run R h fun d s1 G1 io1 v H1 e1 R1 sg1 p1 dv1 h1 => ?_
  cases q : truth d with
  | none => rw [q] at h1; exact h1.elim
  | some k =>
    rw [q] at h1
    refine ⟨k, truth_v (dv1.inH R1) q, ?_⟩
    cases k with
    | false => exact post.done h1 R1 dv1
    | true => rw [if_pos rfl]; exact ⟨G1, io1, s1, R1, h1⟩
theorem s_or {rest : List Expr} (ha : ∀ B, PE X a (tD X.K B fa)) (hb : ∀ B, PE X (.BoolOp .Or (b :: rest) pos) (tD X.K B fb)) (B : Bs) :
    PE X (.BoolOp .Or (a :: b :: rest) pos) (tD X.K B fun s => (fa s).bind fun x s => (opt (truth x) s).bind fun k s => if k then .ok x s else fb s) := by
  refine PE.imp (pe_orT (ha B) (hb B)) fun σ H Q ⟨G, io, s, R, h⟩ => ?_
  refine tD.run R h fun d s1 G1 io1 v H1 e1 R1 sg1 p1 dv1 h1 => ?_
  cases q : truth d with
  | none => rw [q] at h1; exact h1.elim
  | some k =>
    rw [q] at h1
    refine ⟨k, truth_v (dv1.inH R1) q, ?_⟩
    cases k with
    | true => exact post.done h1 R1 dv1
    | false => rw [if_neg Bool.false_ne_true]; exact ⟨G1, io1, s1, R1, h1⟩
theorem s_not (ha : ∀ B, PE X a (tD X.K B fa)) (B : Bs) :
    PE X (.UnaryOp .Not a pos) (tD X.K B fun s => (fa s).bind fun x s => (opt (truth x) s).bind fun k s => .ok (.bl (!k)) s) := by
  refine PE.imp (pe_notT (ha B)) fun σ H Q ⟨G, io, s, R, h⟩ => ?_
  refine tD.run R h fun d s1 G1 io1 v H1 e1 R1 sg1 p1 dv1 h1 => ?_
  cases q : truth d with
  | none => rw [q] at h1; exact h1.elim
  | some k =>
    rw [q] at h1
    exact ⟨k, truth_v (dv1.inH R1) q, post.done h1 R1 (.bl _)⟩
theorem tT.run {K : PySem.W.Frag} {B : Bs} {G : Hp} {io : List Addr} {s : S} {σ : St} {H : Hp} {Q : VK} {f : S → R Bool} {g : Bool → S → R D} (R : Rep K B G io s σ H) (h : post K B G io σ ((f s).bind g) Q) {Q1 : Bool → Hp → Prop}
    (k : ∀ d s1 G1 io1 H1, f s = .ok d s1 → Rep K B G1 io1 s1 σ H1 → Sub G G1 → io <+: io1 → post K B G1 io1 σ (g d s1) Q → Q1 d H1) : tT K B f σ H Q1 := by
  refine ⟨G, io, s, R, ?_⟩
  cases e : f s with
  | ok d s1 =>
    rw [e] at h
    exact fun G1 io1 H1 R1 sg p => k d s1 G1 io1 H1 e R1 sg p (post.up h sg p)
  | exc => rw [e] at h; exact h.elim
  | stuck => rw [e] at h; exact h.elim
theorem tA.run {K : PySem.W.Frag} {B : Bs} {G : Hp} {io : List Addr} {s : S} {σ : St} {H : Hp} {Q : VK} {f : S → R (List D)} {g : List D → S → R D} (R : Rep K B G io s σ H) (h : post K B G io σ ((f s).bind g) Q) {Q1 : List V → Hp → Prop}
    (k : ∀ d s1 G1 io1 v H1, f s = .ok d s1 → Rep K B G1 io1 s1 σ H1 → Sub G G1 → io <+: io1 → DVs K G1 io1 v d → post K B G1 io1 σ (g d s1) Q → Q1 v H1) : tA K B f σ H Q1 := by
  refine ⟨G, io, s, R, ?_⟩
  cases e : f s with
  | ok d s1 =>
    rw [e] at h
    exact fun G1 io1 v H1 R1 sg p dv => k d s1 G1 io1 v H1 e R1 sg p dv (post.up h sg p)
  | exc => rw [e] at h; exact h.elim
  | stuck => rw [e] at h; exact h.elim
theorem s_ite {t : Expr} {ft : S → R Bool} (ht : ∀ B, PT X t (tT X.K B ft)) (ha : ∀ B, PE X a (tD X.K B fa)) (hb : ∀ B, PE X b (tD X.K B fb)) (B : Bs) :
    PE X (.IfExp t a b pos) (tD X.K B fun s => (ft s).bind fun k s => if k then fa s else fb s) := by
  refine PE.imp (pe_ifExp (ht B) (ha B) (hb B)) fun σ H Q ⟨G, io, s, R, h⟩ => ?_
  refine tT.run R h fun d s1 G1 io1 H1 e1 R1 sg1 p1 h1 => ?_
  cases d with
  | true => exact ⟨G1, io1, s1, R1, h1⟩
  | false => exact ⟨G1, io1, s1, R1, h1⟩
theorem s_nil (B : Bs) : PA X [] (tA X.K B fun s => .ok [] s) := PA.imp pa_nil fun σ H Q ⟨G, io, s, R, h⟩ => h G io [] H R Sub.rfl' (List.prefix_refl _) .nil
theorem tA.next {K : PySem.W.Frag} {B : Bs} {G : Hp} {io : List Addr} {s : S} {σ : St} {H : Hp} {Q : List V → Hp → Prop} {f : S → R D} {g : D → S → R (List D)} (R : Rep K B G io s σ H) (h : postA K B G io σ ((f s).bind g) Q) {Q1 : VK}
    (k : ∀ d s1 G1 io1 v H1, f s = .ok d s1 → Rep K B G1 io1 s1 σ H1 → Sub G G1 → io <+: io1 → DV K G1 io1 v d → postA K B G1 io1 σ (g d s1) Q → Q1 v H1) : tD K B f σ H Q1 := by
  refine ⟨G, io, s, R, ?_⟩
  cases e : f s with
  | ok d s1 =>
    rw [e] at h
    exact fun G1 io1 v H1 R1 sg p dv => k d s1 G1 io1 v H1 e R1 sg p dv (postA.up h sg p)
  | exc => rw [e] at h; exact h.elim
  | stuck => rw [e] at h; exact h.elim
theorem tA.nexts {K : PySem.W.Frag} {B : Bs} {G : Hp} {io : List Addr} {s : S} {σ : St} {H : Hp} {Q : List V → Hp → Prop} {f : S → R (List D)} {g : List D → S → R (List D)} (R : Rep K B G io s σ H) (h : postA K B G io σ ((f s).bind g) Q) {Q1 : List V → Hp → Prop}
    (k : ∀ d s1 G1 io1 v H1, f s = .ok d s1 → Rep K B G1 io1 s1 σ H1 → Sub G G1 → io <+: io1 → DVs K G1 io1 v d → postA K B G1 io1 σ (g d s1) Q → Q1 v H1) : tA K B f σ H Q1 := by
  refine ⟨G, io, s, R, ?_⟩
  cases e : f s with
  | ok d s1 =>
    rw [e] at h
    exact fun G1 io1 v H1 R1 sg p dv => k d s1 G1 io1 v H1 e R1 sg p dv (postA.up h sg p)
  | exc => rw [e] at h; exact h.elim
  | stuck => rw [e] at h; exact h.elim
def starred : Expr → Bool
  | .Starred .. => true
  | _ => false
theorem star_ns {e : Expr} {es : List Expr} {env : Env} (h : starred e = false) : starEach (e :: es) env = (false, eval e env) :: starEach es env := by
  cases e <;> first | rfl | cases h
theorem s_cons {es : List Expr} {fs : S → R (List D)} (hn : starred e = false) (ha : ∀ B, PE X e (tD X.K B fa)) (hs : ∀ B, PA X es (tA X.K B fs)) (B : Bs) :
    PA X (e :: es) (tA X.K B fun s => (fa s).bind fun d s => (fs s).bind fun ds s => .ok (d :: ds) s) := by
  refine PA.imp (pa_cons (ha B) (hs B) (star_ns hn)) fun σ H Q ⟨G, io, s, R, h⟩ => ?_
  refine tA.next R h fun d s1 G1 io1 v H1 e1 R1 sg1 p1 dv1 h1 => ?_
  refine tA.nexts R1 h1 fun ds s2 G2 io2 vs H2 e2 R2 sg2 p2 dv2 h2 => ?_
  exact h2 G2 io2 _ H2 R2 Sub.rfl' (List.prefix_refl _) (.cons (dv1.up sg2 p2) dv2)
theorem s_star {es : List Expr} {fs : S → R (List D)} {p : Pos} (ha : ∀ B, PE X e (tD X.K B fa)) (hs : ∀ B, PA X es (tA X.K B fs)) (B : Bs) :
    PA X (.Starred e p :: es) (tA X.K B fun s => (fa s).bind fun d s => (match seqOf d with | some xs => (fs s).bind fun ds s => .ok (xs ++ ds) s | none => .stuck)) := by
  refine PA.imp (StX.pa_star (ha B) (hs B)) fun σ H Q ⟨G, io, s, R, h⟩ => ?_
  refine tA.next R h fun d s1 G1 io1 v H1 e1 R1 sg1 p1 dv1 h1 => ?_
  split at h1
  · rename_i xs q
    obtain ⟨p, vs, rfl, hs, hv⟩ := seq_v dv1 q
    refine ⟨p, vs, rfl, hs.elim (fun z => .inr (SqL.sub R1.le z)) (fun z => .inl (SqT.sub R1.le z)), ?_⟩
    refine tA.nexts R1 h1 fun ds s2 G2 io2 ws H2 e2 R2 sg2 p2 dv2 h2 => ?_
    exact h2 G2 io2 _ H2 R2 Sub.rfl' (List.prefix_refl _) ((hv.up sg2 p2).app dv2)
  · exact h1.elim
theorem s_tup {es : List Expr} {fs : S → R (List D)} {k : Nat} (hs : ∀ B, PA X es (tA X.K B fs)) (B : Bs) :
    PE X (.Tuple es k pos) (tD X.K B fun s => (fs s).bind fun ds s => if ds.length ≤ sizeLine then .ok (.tup ds) s else .stuck) := by
  refine PE.imp (pe_tup (hs B)) fun σ H Q ⟨G, io, s, R, h⟩ => ?_
  refine tA.run R h fun ds s1 G1 io1 vs H1 e1 R1 sg1 p1 dv1 h1 => ?_
  split at h1
  · rename_i hz
    exact ⟨by rw [dv1.length]; exact hz, fun p hp => post.tup h1 R1 dv1 hp⟩
  · exact h1.elim
theorem s_lst {es : List Expr} {fs : S → R (List D)} (hs : ∀ B, PA X es (tA X.K B fs)) (B : Bs) :
    PE X (.List es pos) (tD X.K B fun s => (fs s).bind fun ds s => if ds.length ≤ sizeLine then .ok (.lst ds) s else .stuck) := by
  refine PE.imp (pe_lst (hs B)) fun σ H Q ⟨G, io, s, R, h⟩ => ?_
  refine tA.run R h fun ds s1 G1 io1 vs H1 e1 R1 sg1 p1 dv1 h1 => ?_
  split at h1
  · rename_i hz
    exact ⟨by rw [dv1.length]; exact hz, fun p hp => post.lst h1 R1 dv1 hp⟩
  · exact h1.elim
theorem s_emp (B : Bs) : PE X (.Dict [] [] pos) (tD X.K B fun s => .ok .emp s) :=
  PE.imp pe_dnewK fun σ H Q ⟨G, io, s, R, h⟩ p hp => h _ io _ _ (R.new hp) (sub_upd (R.pn hp).1) (List.prefix_refl _) (.emp upd_same)
/-- a new cell -/
theorem Rep.celled {K : PySem.W.Frag} {B : Bs} {G : Hp} {io : List Addr} {s : S} {σ : St} {H : Hp} (R : Rep K B G io s σ H) {ds : List D} {vs : List V} {p : Addr} (dv : DVs K G io vs ds) (hp : H p = none) :
    Rep K B G (io ++ [p]) { s with m := s.m ++ [ds] } σ (upd H p (.lst vs)) := by
  obtain ⟨hG, hP, hi⟩ := R.pn hp
  have pr : io <+: io ++ [p] := List.prefix_append _ _
  have nH : ∀ {a u}, H a = some u → upd H p (.lst vs) a = some u := fun {a u} e => by rw [upd_ne (ne_of_none e hp)]; exact e
  have ml := R.ml
  refine ⟨fun a u e => nH (R.le _ _ e), List.nodup_append.mpr ⟨R.nd, by simp, fun a ha b hb => by simp at hb; subst hb; exact fun z => hi (z ▸ ha)⟩, by simp [ml], fun k c e => ?_, fun a ha => ?_, R.len, fun i d e => ?_, fun i xs e => ?_, R.apart, fun a u e => nH (R.fr a u e), R.g0, R.gnew, R.i0.trans pr⟩
  · have e : (s.m ++ [ds])[k]? = some c := e
    by_cases hk : k < s.m.length
    · rw [List.getElem?_append_left hk] at e
      obtain ⟨a, ws, e1, e2, e3⟩ := R.cell k c e
      exact ⟨a, ws, by rw [List.getElem?_append_left (by omega)]; exact e1, nH e2, e3.up Sub.rfl' pr⟩
    · rw [List.getElem?_append_right (by omega)] at e
      have hk' : k - s.m.length = 0 := by
        cases q : k - s.m.length with
        | zero => rfl
        | succ n => rw [q] at e; simp at e
      rw [hk'] at e
      simp at e
      subst e
      exact ⟨p, vs, by rw [List.getElem?_append_right (by omega), show k - io.length = 0 by omega]; rfl, upd_same, dv.up Sub.rfl' pr⟩
  · rcases List.mem_append.mp ha with ha | ha
    · exact R.cg a ha
    · simp at ha; subst ha; exact ⟨hG, hP⟩
  · obtain ⟨v, e1, e2⟩ := R.val i d e
    exact ⟨v, e1, e2.up Sub.rfl' pr⟩
  · obtain ⟨a, ws, e1, e2, e3, e4, e5, e6⟩ := R.own i xs e
    refine ⟨a, ws, e1, nH e2, e3.up Sub.rfl' pr, e4, fun z => ?_, e6⟩
    rcases List.mem_append.mp z with z | z
    · exact e5 z
    · simp at z; subst z; rw [hp] at e2; cases e2
theorem s_cell {es : List Expr} {fs : S → R (List D)} (hs : ∀ B, PA X es (tA X.K B fs)) (B : Bs) :
    PE X (.List es pos) (tD X.K B fun s => (fs s).bind fun ds s => if ds.length ≤ sizeLine then .ok (.ref s.m.length) { s with m := s.m ++ [ds] } else .stuck) := by
  refine PE.imp (pe_lst (hs B)) fun σ H Q ⟨G, io, s, R, h⟩ => ?_
  refine tA.run R h fun ds s1 G1 io1 vs H1 e1 R1 sg1 p1 dv1 h1 => ?_
  split at h1
  · rename_i hz
    refine ⟨by rw [dv1.length]; exact hz, fun p hp => ?_⟩
    have R2 := R1.celled dv1 hp
    exact h1 G1 _ _ _ R2 Sub.rfl' (List.prefix_append _ _) (.ref (by rw [← R1.ml]; simp))
  · exact h1.elim
def isSlice : Expr → Bool
  | .Slice .. => true
  | _ => false
theorem plainIx {b : Expr} (h : isSlice b = false) : PlainIx b := by
  intro o i
  cases b <;> first | rfl | cases h
theorem s_idx (ha : ∀ B, PE X a (tD X.K B fa)) (hb : ∀ B, PE X b (tD X.K B fb)) (hs : isSlice b = false) (B : Bs) :
    PE X (.Subscript a b pos) (tD X.K B fun s => (fa s).bind fun x s => (fb s).bind fun y s => (opt (rderef x s) s).bind fun x s => opt (idxD x y) s) := by
  refine PE.imp (pe_ix ix_seq (ha B) (hb B) (plainIx hs)) fun σ H Q ⟨G, io, s, R, h⟩ => ?_
  refine tD.run R h fun d s1 G1 io1 v H1 e1 R1 sg1 p1 dv1 h1 => ?_
  refine tD.run R1 h1 fun d2 s2 G2 io2 v2 H2 e2 R2 sg2 p2 dv2 h2 => ?_
  cases q : rderef d s2 with
  | none => rw [q] at h2; exact h2.elim
  | some x =>
    rw [q] at h2
    exact idx_run R2 (rds_of R2 (dv1.up sg2 p2) q) dv2 h2
theorem s_idxV {i : Nat} {x : Str} {pos' : Pos} (hN : X.N[i]? = some x) (hv : Vis X.env.scope x) (hd : (x == ("__debug__" : Str)) = false) (hcd : (x == ("__classdict__" : Str)) = false)
    (hb : ∀ B, PE X b (tD X.K B fb)) (hs : isSlice b = false) (B : Bs) :
    PE X (.Subscript (.Name x pos') b pos) (tD X.K B (peekR i fb fun x y s => (opt (rderef x s) s).bind fun x s => opt (idxD x y) s)) := by
  refine PE.imp (pe_ix ix_seq (pe_var hN hv hd hcd) (hb B) (plainIx hs)) fun σ H Q ⟨G, io, s, R, h⟩ => ?_
  refine tVar.run R h fun w d s1 G1 io1 x v H1 R1 sg1 p1 dv1 q1 e1 h1 => ?_
  cases q : rderef x s1 with
  | none => rw [q] at h1; exact h1.elim
  | some y =>
    rw [q] at h1
    obtain ⟨w', e2, rd⟩ := rds_peek R1 q1 q
    rw [e1] at e2; cases e2
    exact idx_run R1 rd dv1 h1
end
end DL
end

section
set_option Elab.async false
set_option linter.all false
set_option autoImplicit false
set_option maxRecDepth 100000
set_option maxHeartbeats 1000000
namespace DL
open PySem PySem.Spec L2
open PyProof.Rows hiding St

/-! ### a tuple turned about -/
section
variable {prog : Program} {w : World} {A : Around} {E : Value → Shared → Prop} {s : Shared}
theorem rev_pick (xs : Array Value) : ((List.range xs.size).filterMap fun (m : Nat) => xs[(((xs.size : Int) - 1) + (m : Int) * (-1)).toNat]?).toArray = xs.toList.reverse.toArray := by
  have e : ((List.range xs.size).filterMap fun (m : Nat) => xs[(((xs.size : Int) - 1) + (m : Int) * (-1)).toNat]?) = ((List.range xs.size).map fun k => xs.size - 1 - k).filterMap (xs[·]?) := by
    rw [List.filterMap_map]
    have gen : ∀ (l : List Nat), (∀ m ∈ l, m < xs.size) → l.filterMap (fun (m : Nat) => xs[(((xs.size : Int) - 1) + (m : Int) * (-1)).toNat]?) = l.filterMap ((xs[·]?) ∘ fun k => xs.size - 1 - k) := by
      intro l
      induction l with
      | nil => intro _; rfl
      | cons m l ih =>
        intro hl
        have h1 := hl m (List.mem_cons_self ..)
        have q : (((xs.size : Int) - 1) + (m : Int) * (-1)).toNat = xs.size - 1 - m := by omega
        rw [List.filterMap_cons, List.filterMap_cons, ih fun k hk => hl k (List.mem_cons_of_mem _ hk), q]
        rfl
    exact gen _ fun m hm => List.mem_range.mp hm
  rw [e, PySem.W.krv_range, List.filterMap_reverse, PySem.W.krv_all]
theorem slice_turned {sl : Addr} {vl vu vs : Value} {n : Nat} {Q : Int × Int × Nat → Shared → Prop} (hs : s.heap.IsSliceOf sl vl vu vs) (pl : IsPart vl none) (pu : IsPart vu none) (ps : IsPart vs (some (-1)))
    (h : Q ((n : Int) - 1, -1, n) s) : wpAny (model prog w) A (Builtin.Slice.sliceApplied (.ref sl) (pure (n : Int))) Q E s := by
  obtain ⟨os, hos, hcs, hds⟩ := id hs
  unfold Builtin.Slice.sliceApplied Builtin.Slice.sliceFields
  refine wpAny_bind (wpAny_bind (wpAny_field hos hds (x := vl) rfl (wpAny_bind (wpAny_field hos hds (x := vu) rfl (wpAny_bind (wpAny_field hos hds (x := vs) rfl (wpAny_pure ?_)))))))
  refine wpAny_bind (HT.slicePart_ ps ?_)
  show wpAny _ _ (if ((-1 : Int) == 0) = true then _ else _) _ _ s
  rw [if_neg (by decide)]
  refine wpAny_bind (HT.slicePart_ pl (wpAny_bind (HT.slicePart_ pu (wpAny_bind (wpAny_pure ?_)))))
  have e1 : Builtin.Slice.sliceAdjust none none (-1) (n : Int) = ((n : Int) - 1, -1) := by
    simp [Builtin.Slice.sliceAdjust]
  have e2 : Builtin.Slice.slicePlaces ((n : Int) - 1) (-1) (-1) = n := by
    unfold Builtin.Slice.slicePlaces
    simp
    omega
  show wpAny _ _ (match Builtin.Slice.sliceAdjust none none (-1) (n : Int) with | (lo, hi) => pure (lo, (-1 : Int), Builtin.Slice.slicePlaces lo hi (-1))) _ _ s
  rw [e1]
  show wpAny _ _ (pure ((n : Int) - 1, (-1 : Int), Builtin.Slice.slicePlaces ((n : Int) - 1) (-1) (-1))) _ _ s
  rw [e2]
  exact wpAny_pure h
theorem tuple_turned {t sl : Addr} {items : Array Value} {vl vu vs : Value} {Q : Value → Shared → Prop} (ht : IsTup s.heap t items) (hs : s.heap.IsSliceOf sl vl vu vs) (pl : IsPart vl none) (pu : IsPart vu none) (ps : IsPart vs (some (-1)))
    (h : Q (.ref s.heap.objs.size) { s with heap := s.heap.push { cls := .type "tuple", data := .seq items.toList.reverse.toArray } })
    (hsz : items.size ≤ sizeLine) : wpAny (model prog w) A (getItem (.ref t) (.ref sl)) Q E s := by
  have htake : sizeOk (.seq items.toList.reverse.toArray) := by
    show items.toList.reverse.toArray.size ≤ sizeLine
    rw [List.size_toArray, List.length_reverse, Array.length_toList]
    exact hsz
  obtain ⟨os, hos, hcs, hds⟩ := id hs
  have hTs : s.TypeIs (.ref sl) "slice" := ⟨os, hos, hcs⟩
  unfold getItem
  try with_reducible refine wpAny_holding ?_
  first | refine wpAny_bind (wpAny_pure ?_) | skip
  refine wpAny_bind (wpAny_sequenceKey ht.typeIs (by decide) ?_)
  refine wpAny_bind (wpAny_callSpecial?_slot (name := Str.ofString "__getitem__") ht.typeIs PyProof.Rows.slot_tuple_getitem
    (wpAny_call_entry PyProof.Rows.slot_tuple_getitem ht.typeIs entry_tuple_getitem ?_ (args_tuple_getitem _ _)))
  show wpAny _ _ (Builtin.Tuple.tupleItemsOf (.ref t) >>= _) _ _ s
  refine wpAny_bind (PyProof.Rows.tupleItemsOf_ ht ?_)
  refine wpAny_bind (wpAny_typeOf hTs ?_)
  rw [if_pos (by decide)]
  refine wpAny_bind (slice_turned hs pl pu ps ?_)
  show wpAny _ _ (if (((items.size : Int) - 1) == 0 && (-1 : Int) == 1 && items.size == items.size) = true then _ else _) _ _ s
  rw [if_neg (by simp), rev_pick]
  first
    | exact wpAny_bind (m := Builtin.Tuple.tupleExact _) (wpAny_newObj_type (wpAny_pure ⟨_, rfl, wpAny_pure h⟩) htake)
    | exact wpAny_bind (m := Builtin.Tuple.tupleExact _) (wpAny_newObj_type (wpAny_bind (wpAny_pure (wpAny_pure ⟨_, rfl, wpAny_pure h⟩))) htake)
    | exact wpAny_bind (wpAny_bind (m := Builtin.Tuple.tupleExact _) (wpAny_newObj_type (wpAny_pure (wpAny_pure ⟨_, rfl, wpAny_pure h⟩)) htake))
    | exact wpAny_bind (wpAny_bind (m := Builtin.Tuple.tupleExact _) (wpAny_newObj_type (wpAny_pure ⟨_, rfl, wpAny_pure h⟩) htake))
end

/-! ### slices -/
def postO (K : PySem.W.Frag) (B : Bs) (G : Hp) (io : List Addr) (σ : L2.St) (r : R (Option Int)) (Q : Option Int → Hp → Prop) : Prop := match r with
  | .ok o s => ∀ G' io' H', Rep K B G' io' s σ H' → Sub G G' → io <+: io' → Q o H'
  | _ => False
def tO (K : PySem.W.Frag) (B : Bs) (f : S → R (Option Int)) : TO := fun σ H Q => ∃ G io s, Rep K B G io s σ H ∧ postO K B G io σ (f s) Q
theorem postO.up {K : PySem.W.Frag} {B : Bs} {G G1 : Hp} {io io1 : List Addr} {σ : L2.St} {r : R (Option Int)} {Q : Option Int → Hp → Prop} (h : postO K B G io σ r Q) (sg : Sub G G1) (p : io <+: io1) : postO K B G1 io1 σ r Q := by
  cases r with
  | ok d s => exact fun G' io' H' R s1 p1 => h G' io' H' R (sg.tr s1) (p.trans p1)
  | exc => exact h
  | stuck => exact h
theorem tO.run {K : PySem.W.Frag} {B : Bs} {G : Hp} {io : List Addr} {s : S} {σ : L2.St} {H : Hp} {Q : VK} {f : S → R (Option Int)} {g : Option Int → S → R D} (R : Rep K B G io s σ H) (h : post K B G io σ ((f s).bind g) Q) {Q1 : Option Int → Hp → Prop}
    (k : ∀ d s1 G1 io1 H1, f s = .ok d s1 → Rep K B G1 io1 s1 σ H1 → Sub G G1 → io <+: io1 → post K B G1 io1 σ (g d s1) Q → Q1 d H1) : tO K B f σ H Q1 := by
  refine ⟨G, io, s, R, ?_⟩
  cases e : f s with
  | ok d s1 =>
    rw [e] at h
    exact fun G1 io1 H1 R1 sg p => k d s1 G1 io1 H1 e R1 sg p (post.up h sg p)
  | exc => rw [e] at h; exact h.elim
  | stuck => rw [e] at h; exact h.elim
theorem tD.runO {K : PySem.W.Frag} {B : Bs} {G : Hp} {io : List Addr} {s : S} {σ : L2.St} {H : Hp} {Q : Option Int → Hp → Prop} {f : S → R D} {g : D → S → R (Option Int)} (R : Rep K B G io s σ H) (h : postO K B G io σ ((f s).bind g) Q) {Q1 : VK}
    (k : ∀ d s1 G1 io1 v H1, f s = .ok d s1 → Rep K B G1 io1 s1 σ H1 → Sub G G1 → io <+: io1 → DV K G1 io1 v d → postO K B G1 io1 σ (g d s1) Q → Q1 v H1) : tD K B f σ H Q1 := by
  refine ⟨G, io, s, R, ?_⟩
  cases e : f s with
  | ok d s1 =>
    rw [e] at h
    exact fun G1 io1 v H1 R1 sg p dv => k d s1 G1 io1 v H1 e R1 sg p dv (postO.up h sg p)
  | exc => rw [e] at h; exact h.elim
  | stuck => rw [e] at h; exact h.elim
theorem PO.imp {X : Cx} {e : Option Expr} {t t' : TO} (h : PO X e t) (i : ∀ σ H Q, t' σ H Q → t σ H Q) : PO X e t' := ⟨fun pins s σ H Q I q => h.run pins s σ H Q I (i σ H Q q)⟩
section
variable {X : Cx} {a b e : Expr} {pos : Pos} {fa fb : S → R D}
theorem s_ono (B : Bs) : PO X none (tO X.K B fun s => .ok none s) := PO.imp po_none fun σ H Q ⟨G, io, s, R, h⟩ => h G io H R Sub.rfl' (List.prefix_refl _)
theorem s_oso (ha : ∀ B, PE X a (tD X.K B fa)) (B : Bs) : PO X (some a) (tO X.K B fun s => (fa s).bind fun d s => (match d with | .int i => .ok (some i) s | _ => .stuck)) := by
  refine PO.imp (po_some (ha B)) fun σ H Q ⟨G, io, s, R, h⟩ => ?_
  refine tD.runO R h fun d s1 G1 io1 v H1 e1 R1 sg1 p1 dv1 h1 => ?_
  cases dv1 <;> first | exact h1.elim | exact ⟨_, rfl, h1 G1 io1 H1 R1 Sub.rfl' (List.prefix_refl _)⟩
def rSlX (K : PySem.W.Frag) : V → Option Int → Option Int → Hp → VK → Prop := fun x lo hi H Q => rSlL K x lo hi H Q ∨ rSlA K x lo hi H Q ∨ rSlS x lo hi H Q
theorem sl_any : SlR X (rSlX X.K) := by
  intro pins s σ H x v vl vu lo hi sl Q I rx hs pl pu h
  rcases h with h | h | h
  · exact sl_list pins s σ H x v vl vu lo hi sl Q I rx hs pl pu h
  · exact sl_tupA pins s σ H x v vl vu lo hi sl Q I rx hs pl pu h
  · exact sl_str pins s σ H x v vl vu lo hi sl Q I rx hs pl pu h
theorem cut_v {K : PySem.W.Frag} {G : Hp} {io : List Addr} {vs : List V} {ds : List D} (h : DVs K G io vs ds) (lo hi : Option Int) : DVs K G io (cutV vs lo hi) (cutD ds lo hi) := by
  unfold cutV cutD
  rw [h.length]
  exact (h.drop _).take _
theorem sli_run {K : PySem.W.Frag} {B : Bs} {G : Hp} {io : List Addr} {s : S} {σ : L2.St} {H : Hp} {Q : VK} {v : V} {d : D} {lo hi : Option Int} (R : Rep K B G io s σ H) (dv : DV K G io v d) (h : post K B G io σ (opt (sliD d lo hi) s) Q) : rSlX K v lo hi H Q := by
  cases dv <;> first | exact h.elim | skip
  · rename_i x
    simp only [sliD] at h
    split at h
    · rename_i hz
      exact .inr (.inr ⟨x, rfl, hz, post.done h R (.str _)⟩)
    · exact h.elim
  · rename_i p vs ds a b
    refine .inr (.inl ⟨p, vs, rfl, SqT.sub R.le a, fun e => ?_, fun e q hq => post.tup h R (cut_v b lo hi) hq⟩)
    rw [b.length] at e
    have e' : cutD ds lo hi = ds := by
      unfold cutD
      rw [e.1, e.2]
      simp
    have h' : post K B G io σ (.ok (.tup (cutD ds lo hi)) s) Q := h
    rw [e'] at h'
    exact post.done h' R (.tup a b)
  · rename_i p vs ds a b
    exact .inl ⟨p, vs, rfl, SqL.of (R.le _ _ a), fun q hq => post.lst h R (cut_v b lo hi) hq⟩
  · rename_i p vs ds a b
    exact .inl ⟨p, vs, rfl, SqL.sub R.le a, fun q hq => post.lst h R (cut_v b lo hi) hq⟩
theorem s_sli {lo hi : Option Expr} {fl fh : S → R (Option Int)} {p2 : Pos} (ha : ∀ B, PE X a (tD X.K B fa)) (hl : ∀ B, PO X lo (tO X.K B fl)) (hh : ∀ B, PO X hi (tO X.K B fh)) (B : Bs) :
    PE X (.Subscript a (.Slice lo hi none p2) pos) (tD X.K B fun s => (fa s).bind fun x s => (fl s).bind fun l s => (fh s).bind fun h s => opt (sliD x l h) s) := by
  refine PE.imp (pe_slice sl_any (ha B) (hl B) (hh B)) fun σ H Q ⟨G, io, s, R, h⟩ => ?_
  refine tD.run R h fun d s1 G1 io1 v H1 e1 R1 sg1 p1 dv1 h1 => ?_
  refine tO.run R1 h1 fun l s2 G2 io2 H2 e2 R2 sg2 p2 h2 => ?_
  refine tO.run R2 h2 fun u s3 G3 io3 H3 e3 R3 sg3 p3 h3 => ?_
  exact sli_run R3 (dv1.up (sg2.tr sg3) (p2.trans p3)) h3
/-- a list or a tuple turned about -/
def tTurn (K : PySem.W.Frag) (te : TE) : TE := fun σ H Q => te σ H fun x H1 => (∃ a xs, x = .ref a ∧ SqL K H1 a xs ∧ ∀ p, H1 p = none → Q (.ref p) (upd H1 p (.lst xs.reverse))) ∨
  (∃ a xs, x = .ref a ∧ SqT K H1 a xs ∧ ∀ p, H1 p = none → Q (.ref p) (upd H1 p (.tup xs.reverse)))
theorem pe_turn {te : TE} {k : Nat} {p1 p2 p3 : Pos} (he : PE X e te) : PE X (.Subscript e (.Slice none none (some (.UnaryOp .USub (.Constant (.int 1) k p1) p2)) p3) pos) (tTurn X.K te) := by
  refine ⟨fun pins s σ H Q I h => Subscript_ (thn (he.run pins s σ H _ I h) fun v s1 ⟨x, H1, I1, r1, q1⟩ => ?_)⟩
  have part : PO X (some (.UnaryOp .USub (.Constant (.int 1) k p1) p2)) (tPart (tUn (rU fun i => .int (-i)) (tC (.int 1)))) := po_some (pe_un un_neg pe_int)
  refine wpAny_Slice (thn (po_none.run pins s1 σ H1 (fun o J => o = none ∧ J = H1) I1 ⟨rfl, rfl⟩) fun vl s2 ⟨l, J2, I2, pl, el, ej2⟩ => ?_)
  subst el ej2
  refine thn (po_none.run pins s2 σ J2 (fun o J => o = none ∧ J = J2) I2 ⟨rfl, rfl⟩) fun vu s3 ⟨u, J3, I3, pu, eu, ej3⟩ => ?_
  subst eu ej3
  refine thn (part.run pins s3 σ J3 (fun o J => o = some (-1) ∧ J = J3) I3 ⟨1, rfl, -1, rfl, rfl, rfl⟩) fun vs s4 ⟨o, J4, I4, ps, eo, ej4⟩ => ?_
  subst eo ej4
  have I5 : L2.Inv X pins σ J4 { s4 with heap := s4.heap.push { cls := .type "slice", data := .fields #[vl, vu, vs] } } := I4.kept (t' := s4.toks) fun b ob q => Heap.get?_push_of_some _ q
  rcases q1 with ⟨a, xs, ex, hx, q⟩ | ⟨a, xs, ex, hx, q⟩
  · subst ex
    cases r1
    obtain ⟨its, r, ht, hz⟩ := I5.list hx
    have hlen := r.length
    show wpAny (model X.prog X.w) X.A (subscriptTail e (.Slice none none (some (.UnaryOp .USub (.Constant (.int 1) k p1) p2)) p3) (.ref a) (.ref s4.heap.objs.size)) (EP X pins σ Q) X.xe { s4 with heap := s4.heap.push { cls := .type "slice", data := .fields #[vl, vu, vs] } }
    refine tail_any (ops := [.ref a, .ref s4.heap.objs.size]) ht.isList.typeIs PySem.slot_list_getitem.lookup (wpAny_getItem_list_slice ht.isList (Heap.IsSliceOf.new _ vl vu vs) pl pu ps (by decide) ?_ (by rw [List.size_toArray]; omega)) (by with_unfolding_all rfl)
    rw [PySem.W.krv_pick]
    refine ⟨.ref _, _, I5.laid (t' := s4.toks) (o := .lst xs.reverse) (fun b ob q => Heap.get?_push_of_some _ q) (Nat.le_refl _) ⟨by rw [List.length_reverse]; exact hz, _, 0, r.reverse, Heap.get?_push_size _ rfl⟩, rfl, q _ (I5.hok.fresh (Nat.le_refl _))⟩
  · subst ex
    cases r1
    obtain ⟨its, r, ht, hz⟩ := I5.tuple hx
    have hlen := r.length
    show wpAny (model X.prog X.w) X.A (subscriptTail e (.Slice none none (some (.UnaryOp .USub (.Constant (.int 1) k p1) p2)) p3) (.ref a) (.ref s4.heap.objs.size)) (EP X pins σ Q) X.xe { s4 with heap := s4.heap.push { cls := .type "slice", data := .fields #[vl, vu, vs] } }
    refine tail_any (ops := [.ref a, .ref s4.heap.objs.size]) ht.typeIs PyProof.Rows.slot_tuple_getitem.lookup (tuple_turned ht (Heap.IsSliceOf.new _ vl vu vs) pl pu ps ?_ (by rw [List.size_toArray]; omega)) (by with_unfolding_all rfl)
    refine ⟨.ref _, _, I5.laid (t' := s4.toks) (o := .tup xs.reverse) (fun b ob q => Heap.get?_push_of_some _ q) (Nat.le_refl _) ⟨by rw [List.length_reverse]; exact hz, _, r.reverse, IsTup.new _ _⟩, rfl, q _ (I5.hok.fresh (Nat.le_refl _))⟩
theorem s_rev {k : Nat} {p1 p2 p3 : Pos} (ha : ∀ B, PE X a (tD X.K B fa)) (B : Bs) :
    PE X (.Subscript a (.Slice none none (some (.UnaryOp .USub (.Constant (.int 1) k p1) p2)) p3) pos) (tD X.K B fun s => (fa s).bind fun x s => opt (revD x) s) := by
  refine PE.imp (pe_turn (ha B)) fun σ H Q ⟨G, io, s, R, h⟩ => ?_
  refine tD.run R h fun d s1 G1 io1 v H1 e1 R1 sg1 p1 dv1 h1 => ?_
  cases dv1 <;> first | exact h1.elim | skip
  · rename_i b c
    exact .inr ⟨_, _, rfl, SqT.sub R1.le b, fun p hp => post.tup h1 R1 c.rev hp⟩
  · rename_i b c
    exact .inl ⟨_, _, rfl, SqL.of (R1.le _ _ b), fun p hp => post.lst h1 R1 c.rev hp⟩
end
end DL
end

section
set_option Elab.async false
set_option linter.all false
set_option autoImplicit false
set_option maxRecDepth 100000
set_option maxHeartbeats 1000000
namespace DL
open PySem PySem.Spec L2

/-! ### calls -/
/-- what stands at a call -/
structure Cr (K : PySem.W.Frag) (G : Hp) (io : List Addr) (m : List (List D)) (H : Hp) : Prop where
  le : Sub G H
  nd : io.Nodup
  ml : io.length = m.length
  cell : ∀ (k : Nat) (c : List D), m[k]? = some c → ∃ a vs, io[k]? = some a ∧ H a = some (.lst vs) ∧ DVs K G io vs c
  cg : ∀ a, a ∈ io → G a = none
structure CrEnd (K : PySem.W.Frag) (G : Hp) (io : List Addr) (H : Hp) (G' : Hp) (io' : List Addr) (m' : List (List D)) (H' : Hp) : Prop where
  cr : Cr K G' io' m' H'
  sub : Sub G G'
  pre : io <+: io'
  keep : ∀ a o, H a = some o → a ∉ io → H' a = some o
  gn : ∀ a o, G' a = some o → G a = some o ∨ H a = none
  nw : ∀ a, a ∈ io' → a ∉ io → H a = none
/-- the promise of a def by its function on data -/
def spD (K : PySem.W.Frag) (n : Nat) (F : List D → List (List D) → FR) : Sp := fun vs H Q _ => vs.length = n ∧ ∃ G io m ds, Cr K G io m H ∧ DVs K G io vs ds ∧
  match F ds m with
  | .ok d m' => ∀ G' io' v H', CrEnd K G io H G' io' m' H' → DV K G' io' v d → Q v H'
  | _ => False
/-- a def keeps its promise, where nothing guards -/
structure FnG (P : Program) (w : World) (K : PySem.W.Frag) (mg : Str → Option Value) (base : Heap) (k : Nat) (f : Addr) (fd : FuncData) (ps : List Str) (sp : Sp) : Prop where
  len : ∀ vs H Q E, sp vs H Q E → vs.length = ps.length
  run : ∀ (A : Around) (outer : List Env) (s : Shared) (H : Hp) (args : Args) (us : List Value) (vs : List V) (Q : VK), Room k A → A.guards = some [] → Env0 P w K mg base A outer s H → BindsTo s fd args (ps.zip us) → Vals vs us → sp vs H Q E0 →
    codeAny (model P w) A (.call (.ref f) args) (CR CX0 outer P w H s Q E0) s

section
variable {K : PySem.W.Frag} {B : Bs} {G G' : Hp} {io io' : List Addr} {s : S} {σ : L2.St} {H H' : Hp} {m' : List (List D)}
theorem Rep.cr (R : Rep K B G io s σ H) : Cr K G io s.m H := ⟨R.le, R.nd, R.ml, R.cell, fun a h => (R.cg a h).1⟩
/-- behind a call -/
theorem Rep.after (R : Rep K B G io s σ H) (C : CrEnd K G io H G' io' m' H') : Rep K B G' io' { s with m := m' } σ H' := by
  refine ⟨C.cr.le, C.cr.nd, C.cr.ml, C.cr.cell, fun a ha => ⟨C.cr.cg a ha, ?_⟩, R.len, fun i d e => ?_, fun i xs e => ?_, R.apart, fun a o e => ?_, R.g0.tr C.sub, fun a o e => ?_, R.i0.trans C.pre⟩
  · by_cases hi : a ∈ io
    · exact (R.cg a hi).2
    · exact (R.pn (C.nw a ha hi)).2.1
  · obtain ⟨v, e1, dv⟩ := R.val i d e
    exact ⟨v, e1, dv.up C.sub C.pre⟩
  · obtain ⟨a, vs, e1, e2, e3, e4, e5, e6⟩ := R.own i xs e
    refine ⟨a, vs, e1, C.keep a _ e2 e5, e3.up C.sub C.pre, ?_, fun z => ?_, e6⟩
    · cases q : G' a with
      | none => rfl
      | some o =>
        rcases C.gn a o q with z | z
        · rw [e4] at z; cases z
        · rw [e2] at z; cases z
    · have := C.nw a z e5
      rw [e2] at this; cases this
  · have hi : a ∉ io := fun z => by have := (R.cg a z).2; rw [e] at this; cases this
    exact C.keep a o (R.fr a o e) hi
  · rcases C.gn a o e with z | z
    · exact R.gnew a o z
    · exact .inr (R.pn z).2.1
/-- a callee's base -/
def baseOf (G : Hp) (io : List Addr) (H : Hp) : Bs := ⟨fun a => if a ∈ io then none else H a, G, io⟩
theorem start_get {N : List Str} {vs : List V} {i : Nat} : (L2.start N vs)[i]? = if i < vs.length then (vs[i]?).map some else if i < N.length then some none else none := by
  unfold L2.start
  by_cases h : i < vs.length
  · rw [if_pos h, List.getElem?_append_left (by simpa using h), List.getElem?_map]
  · rw [if_neg h, List.getElem?_append_right (by simpa using h), List.getElem?_replicate, List.length_map]
    by_cases h2 : i < N.length
    · rw [if_pos h2, if_pos (by omega)]
    · rw [if_neg h2, if_neg (by omega)]
/-- the state at a def's entry -/
def enterS (n : Nat) (ds : List D) (m : List (List D)) : S := ⟨ds.map (fun d => some (Sl.val d)) ++ List.replicate (n - ds.length) none, m⟩
theorem Rep.enter {m : List (List D)} {N : List Str} {vs : List V} {ds : List D} (C : Cr K G io m H) (dv : DVs K G io vs ds) (hn : ds.length ≤ N.length) :
    Rep K (baseOf G io H) G io (enterS N.length ds m) (L2.start N vs) H := by
  have hl := dv.length
  have get : ∀ {i : Nat} {x : Sl}, (enterS N.length ds m).r[i]? = some (some x) → ∃ d, ds[i]? = some d ∧ x = .val d := fun {i x} e => by
    unfold enterS at e
    by_cases h : i < ds.length
    · rw [List.getElem?_append_left (by simpa using h), List.getElem?_map] at e
      cases q : ds[i]? with
      | none => rw [q] at e; cases e
      | some d => rw [q] at e; exact ⟨d, rfl, by simpa using e.symm⟩
    · rw [List.getElem?_append_right (by simpa using h), List.getElem?_replicate] at e
      split at e <;> cases e
  refine ⟨C.le, C.nd, C.ml, C.cell, fun a ha => ⟨C.cg a ha, if_pos ha⟩, ?_, fun i d e => ?_, fun i xs e => ?_, fun i j xs ys a n h1 => ?_, fun a o e => ?_, Sub.rfl', fun a o e => .inl e, List.prefix_refl _⟩
  · unfold enterS L2.start
    simp [hl]
  · obtain ⟨d', e1, e2⟩ := get e
    cases e2
    obtain ⟨v, e3, dvv⟩ := dv.get e1
    refine ⟨v, ?_, dvv⟩
    rw [start_get, if_pos (List.getElem?_eq_some_iff.mp e3).1, e3]
    rfl
  · obtain ⟨d', _, e2⟩ := get e; cases e2
  · obtain ⟨d', _, e2⟩ := get h1; cases e2
  · have e : (if a ∈ io then none else H a) = some o := e
    split at e
    · cases e
    · exact e
theorem Rep.leave {G0 : Hp} {io0 : List Addr} {H0 : Hp} (R : Rep K (baseOf G0 io0 H0) G io s σ H) : CrEnd K G0 io0 H0 G io s.m H := by
  have hP : ∀ {a}, (baseOf G0 io0 H0).P a = none → a ∈ io0 ∨ H0 a = none := fun {a} e => by
    have e : (if a ∈ io0 then none else H0 a) = none := e
    split at e
    · exact .inl ‹_›
    · exact .inr e
  refine ⟨R.cr, R.g0, R.i0, fun a o e hi => R.fr a o (by show (if a ∈ io0 then none else H0 a) = some o; rw [if_neg hi]; exact e), fun a o e => ?_, fun a ha hi => ?_⟩
  · rcases R.gnew a o e with z | z
    · exact .inl z
    · rcases hP z with z | z
      · have := (R.cg a (R.i0.subset z)).1
        rw [e] at this; cases this
      · exact .inr z
  · rcases hP (R.cg a ha).2 with z | z
    · exact absurd z hi
    · exact z
end

/-- a def that may be called here -/
structure FnHere (X : Cx) (x : Str) (ps : List Str) (F : List D → List (List D) → FR) : Prop where
  ex : ∃ k f fd, FnG X.prog X.w X.K X.mg X.base k f fd ps (spD X.K ps.length F) ∧ Room k X.A ∧ X.mg x = some (.ref f) ∧ PySem.W.keepIn X.K (.ref f) = true ∧
    ∀ (s : Shared) (us ws : List Value), X.K.In s.heap → (us ++ ws).length = ps.length → BindsTo s fd ⟨us, (ps.drop us.length).zip ws⟩ (ps.zip (us ++ ws))
section
variable {X : Cx} {x : Str} {p pos : Pos} {e : Expr} {es : List Expr} {ps : List Str} {F : List D → List (List D) → FR}
theorem run_G {k : Nat} {f : Addr} {fd : FuncData} {sp : Sp} {pins : List (Addr × Obj)} {σ : L2.St} {H : Hp} {s : Shared} {Q : VK} {us ws : List Value} {vs zs : List V}
    (FG : FnG X.prog X.w X.K X.mg X.base k f fd ps sp) (hr : Room k X.A) (hg : X.A.guards = some [])
    (hb : ∀ (s : Shared) (us ws : List Value), X.K.In s.heap → (us ++ ws).length = ps.length → BindsTo s fd ⟨us, (ps.drop us.length).zip ws⟩ (ps.zip (us ++ ws)))
    (I : L2.Inv X pins σ H s) (r : Vals vs us) (rz : Vals zs ws) (h : sp (vs ++ zs) H Q E0) : wpAny (model X.prog X.w) X.A (call (.ref f) us ((ps.drop us.length).zip ws)) (EP X pins σ Q) X.xe s := by
  have r2 : Vals (vs ++ zs) (us ++ ws) := r.append rz
  have hl : (us ++ ws).length = ps.length := by rw [← r2.length]; exact FG.len _ _ _ _ h
  refine wpAny_call (codeAny_mono (FG.run X.A X.stack s H _ _ _ Q hr hg I.env0 (hb s us ws I.kIn hl) r2 h) fun r s' hq => ?_)
  cases r with
  | error e => exact hq.elim
  | ok fl =>
    cases fl with
    | ret u => exact I.after hq
    | next => exact hq.elim
    | brk => exact hq.elim
    | cont => exact hq.elim
theorem tCallD {K : PySem.W.Frag} {B : Bs} {G : Hp} {io : List Addr} {s : S} {σ : L2.St} {H : Hp} {Q : VK} {vs : List V} {ds : List D} {n : Nat} (R : Rep K B G io s σ H) (dv : DVs K G io vs ds) (hn : vs.length = n) (h : post K B G io σ (frR (F ds s.m) s) Q) : spD K n F vs H Q E0 := by
  refine ⟨hn, G, io, s.m, ds, R.cr, dv, ?_⟩
  cases e : F ds s.m with
  | ok d m' =>
    rw [e] at h
    exact fun G' io' v H' C dv' => h G' io' v H' (R.after C) C.sub C.pre dv'
  | exc => rw [e] at h; exact h.elim
  | stuck => rw [e] at h; exact h.elim
theorem starEach_any {env : Env} {pos : Pos} : ∀ {es : List Expr}, es.all (fun e => !starred e) = true → (backTo pos (starEach es env)).any (·.1) = false
  | [], _ => rfl
  | e :: es, h => by
    simp only [List.all_cons, Bool.and_eq_true, Bool.not_eq_true'] at h
    rw [star_ns h.1]
    have ih := starEach_any (env := env) (pos := pos) h.2
    cases es with
    | nil => rfl
    | cons a r =>
      have e2 : backTo pos ((false, eval e env) :: starEach (a :: r) env) = (false, eval e env) :: backTo pos (starEach (a :: r) env) := by
        simp only [List.all_cons, Bool.and_eq_true, Bool.not_eq_true'] at h
        rw [star_ns h.2.1]
        rfl
      rw [e2, List.any_cons, ih]
      rfl
end
end DL
end

section
set_option Elab.async false
set_option linter.all false
set_option autoImplicit false
set_option maxRecDepth 100000
set_option maxHeartbeats 1000000
namespace DL
open PySem PySem.Spec L2

/-! ### a function of the text is called -/
section
variable {X : Cx} {x : Str} {p pos : Pos} {e : Expr} {es : List Expr} {ps : List Str} {F : List D → List (List D) → FR} {fs : S → R (List D)}
theorem s_call (C : FnHere X x ps F) (hgu : X.A.guards = some []) (hg : Gl X x) (hd : (x == ("__debug__" : Str)) = false) (hn : (e :: es).all (fun e => !starred e) = true) (hs : ∀ B, PA X (e :: es) (tA X.K B fs))
    (hl : ∀ s ds s', fs s = .ok ds s' → ds.length = ps.length) (B : Bs) : PE X (.Call (.Name x p) (e :: es) [] pos) (tD X.K B fun s => (fs s).bind fun ds s => frR (F ds s.m) s) := by
  obtain ⟨k, f, fd, FG, hr, hm, hk, hb⟩ := C.ex
  simp only [List.all_cons, Bool.and_eq_true, Bool.not_eq_true'] at hn
  refine ⟨fun pins s σ H Q I ⟨G, io, st, R, h⟩ => ?_⟩
  refine wpAny_Call_Name_kw (ld_glob I hg hm ?_ hd)
  have hs2 : es.all (fun e => !starred e) = true := hn.2
  refine PySem.W.callWith_K (h₀ := X.base) I.ok.mod.kin hk (thn ((hs B).run pos pins s σ H (fun vs H1 => spD X.K ps.length F vs H1 Q E0) I ?_) fun us s1 ⟨vs, H1, I1, r, q⟩ => ⟨I1.kIn, ?_⟩) (star_ns hn.1) (starEach_any hs2)
  · refine tA.run R h fun ds s1 G1 io1 vs H1 e1 R1 sg1 p1 dv1 h1 => ?_
    exact tCallD R1 dv1 (by rw [dv1.length]; exact hl _ _ _ e1) h1
  · have q' : spD X.K ps.length F (vs ++ []) H1 Q E0 := by rw [List.append_nil]; exact q
    have hlv : vs.length = ps.length := q.1
    have := run_G (ws := []) (zs := []) FG hr hgu hb I1 r .nil q'
    rw [← r.length, hlv, List.drop_length] at this
    exact this
/-- the values of keywords -/
def kwVals (kws : List Keyword) : List Expr := kws.map fun k => k.value
def kwNames (kws : List Keyword) : List (Option Str) := kws.map fun k => k.arg
theorem s_knil (B : Bs) : PK X [] (tA X.K B fun s => .ok [] s) := ⟨fun pos pins s σ H Q I ⟨G, io, st, R, h⟩ => pk_nil.run pos pins s σ H Q I (h G io [] H R Sub.rfl' (List.prefix_refl _) .nil)⟩
theorem s_kcons {fa : S → R D} {kws : List Keyword} {nm : Option Str} {kp : Pos} (ha : ∀ B, PE X e (tD X.K B fa)) (hs : ∀ B, PK X kws (tA X.K B fs)) (B : Bs) :
    PK X (⟨nm, e, kp⟩ :: kws) (tA X.K B fun s => (fa s).bind fun d s => (fs s).bind fun ds s => .ok (d :: ds) s) := by
  refine ⟨fun pos pins s σ H Q I ⟨G, io, st, R, h⟩ => (pk_cons (nm := nm) (kpos := kp) (ha B) (hs B)).run pos pins s σ H Q I ?_⟩
  refine tA.next R h fun d s1 G1 io1 v H1 e1 R1 sg1 p1 dv1 h1 => ?_
  refine tA.nexts R1 h1 fun ds s2 G2 io2 vs H2 e2 R2 sg2 p2 dv2 h2 => ?_
  exact h2 G2 io2 _ H2 R2 Sub.rfl' (List.prefix_refl _) (.cons (dv1.up sg2 p2) dv2)
theorem kw_some {env : Env} {pos : Pos} : ∀ {kws : List Keyword} {ks : List Str}, kwNames kws = ks.map some → (backToKw pos (keywordEach kws env)).all (·.1.isSome) = true ∧ (backToKw pos (keywordEach kws env)).filterMap (·.1) = ks ∧ (backToKw pos (keywordEach kws env)).any (·.1.isNone) = false
  | [], [], _ => ⟨rfl, rfl, rfl⟩
  | [], _ :: _, h => by simp [kwNames] at h
  | _ :: _, [], h => by simp [kwNames] at h
  | ⟨nm, v, kp⟩ :: kws, k :: ks, h => by
    simp only [kwNames, List.map_cons, List.cons.injEq] at h
    obtain ⟨h1, h2⟩ := h
    obtain ⟨a, b, c⟩ := kw_some (env := env) (pos := pos) (kws := kws) (ks := ks) h2
    subst h1
    have e : backToKw pos (keywordEach (⟨some k, v, kp⟩ :: kws) env) = (some k, (do let w ← eval v env; standAt pos; pure w)) :: backToKw pos (keywordEach kws env) := rfl
    refine ⟨?_, ?_, ?_⟩
    · rw [e, List.all_cons, a]; rfl
    · rw [e, List.filterMap_cons]
      show k :: _ = _
      rw [b]
    · rw [e, List.any_cons, c]; rfl
theorem s_callK0 {kws : List Keyword} (C : FnHere X x ps F) (hgu : X.A.guards = some []) (hg : Gl X x) (hd : (x == ("__debug__" : Str)) = false) (hn : kwNames kws = ps.map some) (hs : ∀ B, PK X kws (tA X.K B fs))
    (hl : ∀ s ds s', fs s = .ok ds s' → ds.length = ps.length) (B : Bs) : PE X (.Call (.Name x p) [] kws pos) (tD X.K B fun s => (fs s).bind fun ds s => frR (F ds s.m) s) := by
  obtain ⟨k, f, fd, FG, hr, hm, hk, hb⟩ := C.ex
  refine ⟨fun pins s σ H Q I ⟨G, io, st, R, h⟩ => ?_⟩
  refine wpAny_Call_Name_kw (ld_glob I hg hm ?_ hd)
  obtain ⟨a1, a2, a3⟩ := kw_some (env := X.env) (pos := pos) hn
  refine PySem.W.callWith_KW0 (h₀ := X.base) I.ok.mod.kin hk a1 ?_ (by rw [a3]; rfl)
  refine thn ((hs B).run pos pins s σ H (fun vs H1 => spD X.K ps.length F vs H1 Q E0) I ?_) fun ws s2 ⟨zs, H2, I2, rz, q2⟩ => ⟨I2.kIn, ?_⟩
  · refine tA.run R h fun ds s1 G1 io1 vs H1 e1 R1 sg1 p1 dv1 h1 => ?_
    exact tCallD R1 dv1 (by rw [dv1.length]; exact hl _ _ _ e1) h1
  · rw [a2]
    exact run_G (us := []) (vs := []) FG hr hgu hb I2 .nil rz q2
theorem s_call0 (C : FnHere X x [] F) (hgu : X.A.guards = some []) (hg : Gl X x) (hd : (x == ("__debug__" : Str)) = false) (B : Bs) : PE X (.Call (.Name x p) [] [] pos) (tD X.K B fun s => frR (F [] s.m) s) := by
  obtain ⟨k, f, fd, FG, hr, hm, hk, hb⟩ := C.ex
  refine ⟨fun pins s σ H Q I ⟨G, io, st, R, h⟩ => ?_⟩
  refine wpAny_Call_Name_kw (ld_glob I hg hm ?_ hd)
  exact PySem.W.callWith_K0 I.kIn hk (run_G (us := []) (vs := []) (ws := []) (zs := []) FG hr hgu hb I .nil .nil (tCallD R .nil rfl h))
end

/-! ### built-in functions by values -/
def rB (K : PySem.W.Frag) (B : Bs) (f : Bi) : List V → Hp → VK → Prop := fun vs H Q => ∃ G io s σ ds, Rep K B G io s σ H ∧ DVs K G io vs ds ∧ post K B G io σ (opt (biD f ds) s) Q
section
variable {X : Cx} {B : Bs}
theorem ints_v : ∀ {ds : List D} {ns : List Int}, intsOf ds = some ns → ds = ns.map D.int
  | [], _, h => by cases h; rfl
  | d :: ds, ns, h => by
    cases d <;> first | cases h | skip
    rename_i i
    simp only [intsOf, Option.map_eq_some_iff] at h
    obtain ⟨r, e, rfl⟩ := h
    rw [ints_v e]; rfl
theorem bls_v : ∀ {ds : List D} {ns : List Bool}, blsOf ds = some ns → ds = ns.map D.bl
  | [], _, h => by cases h; rfl
  | d :: ds, ns, h => by
    cases d <;> first | cases h | skip
    rename_i i
    simp only [blsOf, Option.map_eq_some_iff] at h
    obtain ⟨r, e, rfl⟩ := h
    rw [bls_v e]; rfl
theorem strs_v : ∀ {ds : List D} {ns : List Str}, strsOf ds = some ns → ds = ns.map D.str
  | [], _, h => by cases h; rfl
  | d :: ds, ns, h => by
    cases d <;> first | cases h | skip
    rename_i i
    simp only [strsOf, Option.map_eq_some_iff] at h
    obtain ⟨r, e, rfl⟩ := h
    rw [strs_v e]; rfl
theorem one_v {K : PySem.W.Frag} {G : Hp} {io : List Addr} {vs : List V} {d : D} (h : DVs K G io vs [d]) : ∃ v, vs = [v] ∧ DV K G io v d := by
  cases h with
  | cons a t => cases t; exact ⟨_, rfl, a⟩
theorem two_v {K : PySem.W.Frag} {G : Hp} {io : List Addr} {vs : List V} {d e : D} (h : DVs K G io vs [d, e]) : ∃ v w, vs = [v, w] ∧ DV K G io v d ∧ DV K G io w e := by
  cases h with
  | cons a t => obtain ⟨w, rfl, b⟩ := one_v t; exact ⟨_, _, rfl, a, b⟩
theorem lenv_of {K : PySem.W.Frag} {B : Bs} {G : Hp} {io : List Addr} {s : S} {σ : L2.St} {H : Hp} {Q : VK} {v : V} {d : D} (R : Rep K B G io s σ H) (rd : RdS K G io H v d) (h : post K B G io σ (opt (biD .len [d]) s) Q) : ∃ n : Nat, LenV K v H n ∧ Q (.int n) H := by
  cases rd with
  | tup a b => exact ⟨_, .inr ⟨_, a, rfl⟩, by rw [b.length]; exact post.done h R (.int _)⟩
  | lst a b => exact ⟨_, .inl ⟨_, a, rfl⟩, by rw [b.length]; exact post.done h R (.int _)⟩
  | klst a b => exact ⟨_, .inl ⟨_, a, rfl⟩, by rw [b.length]; exact post.done h R (.int _)⟩
  | str z =>
    simp only [biD] at h
    split at h
    · rename_i hz
      exact ⟨_, ⟨hz, rfl⟩, post.done h R (.int _)⟩
    · exact h.elim
  | no n1 n2 n3 =>
    cases d <;> first | exact h.elim | exact absurd rfl (n3 _) | exact nomatch n2
theorem ldr {K : PySem.W.Frag} {B : Bs} {G : Hp} {io : List Addr} {s : S} {σ : L2.St} {H : Hp} {Q : VK} {v : V} {d : D} (R : Rep K B G io s σ H) (dv : DV K G io v d) (h : post K B G io σ (opt (biD .len [d]) s) Q) : RdS K G io H v d := by
  cases d with
  | ref k => exact h.elim
  | _ => exact rds_of R dv rfl
theorem cb_len : CallR X (.builtin "len") (rB X.K B .len) := by
  intro pins s σ H vs us Q I r h
  obtain ⟨G, io, st, σ', ds, R, dv, h⟩ := h
  match ds, dv, h with
  | [], _, h => exact h.elim
  | [d], dv, h =>
    obtain ⟨v, rfl, du⟩ := one_v dv
    obtain ⟨n, hl, q⟩ := lenv_of R (ldr R du h) h
    exact call_len pins s σ H _ us Q I r ⟨v, n, rfl, hl, q⟩
  | d :: e :: ds, _, h => cases d <;> exact h.elim
theorem cb_abs : CallR X (.builtin "abs") (rB X.K B .abs) := by
  intro pins s σ H vs us Q I r h
  obtain ⟨G, io, st, σ', ds, R, dv, h⟩ := h
  match ds, dv, h with
  | [.int i], dv, h =>
    obtain ⟨v, rfl, du⟩ := one_v dv
    cases du
    exact call_abs pins s σ H _ us Q I r ⟨i, rfl, post.done h R (.int _)⟩
  | [], _, h => exact h.elim
  | [.non], _, h | [.bl _], _, h | [.str _], _, h | [.tup _], _, h | [.lst _], _, h | [.klst _], _, h | [.emp], _, h | [.ref _], _, h => exact h.elim
  | d :: e :: ds, _, h => cases d <;> exact h.elim
theorem cb_int : CallR X (.type "int") (rB X.K B .int) := by
  intro pins s σ H vs us Q I r h
  obtain ⟨G, io, st, σ', ds, R, dv, h⟩ := h
  match ds, dv, h with
  | [.int i], dv, h =>
    obtain ⟨v, rfl, du⟩ := one_v dv
    cases du
    exact call_int1 pins s σ H _ us Q I r (.inl ⟨i, rfl, post.done h R (.int _)⟩)
  | [.bl i], dv, h =>
    obtain ⟨v, rfl, du⟩ := one_v dv
    cases du
    exact call_int1 pins s σ H _ us Q I r (.inr ⟨i, rfl, post.done h R (.int _)⟩)
  | [], _, h => exact h.elim
  | [.non], _, h | [.str _], _, h | [.tup _], _, h | [.lst _], _, h | [.klst _], _, h | [.emp], _, h | [.ref _], _, h => exact h.elim
  | d :: e :: ds, _, h => cases d <;> exact h.elim
theorem cb_min (hc : X.calm = true) : CallR X (.builtin "min") (rB X.K B .min) := by
  intro pins s σ H vs us Q I r h
  obtain ⟨G, io, st, σ', ds, R, dv, h⟩ := h
  match ds, dv, h with
  | [.int i, .int j], dv, h =>
    obtain ⟨v, w, rfl, du, dw⟩ := two_v dv
    cases du; cases dw
    exact call_min2 hc pins s σ H _ us Q I r ⟨i, j, rfl, post.done h R (.int _)⟩
  | [], _, h => exact h.elim
  | [d], _, h => cases d <;> exact h.elim
  | .non :: _ :: _, _, h | .bl _ :: _ :: _, _, h | .str _ :: _ :: _, _, h | .tup _ :: _ :: _, _, h | .lst _ :: _ :: _, _, h | .klst _ :: _ :: _, _, h | .emp :: _ :: _, _, h | .ref _ :: _ :: _, _, h => exact h.elim
  | [.int _, .non], _, h | [.int _, .bl _], _, h | [.int _, .str _], _, h | [.int _, .tup _], _, h | [.int _, .lst _], _, h | [.int _, .klst _], _, h | [.int _, .emp], _, h | [.int _, .ref _], _, h => exact h.elim
  | .int _ :: d :: e :: ds, _, h => cases d <;> exact h.elim
theorem cb_max (hc : X.calm = true) : CallR X (.builtin "max") (rB X.K B .max) := by
  intro pins s σ H vs us Q I r h
  obtain ⟨G, io, st, σ', ds, R, dv, h⟩ := h
  match ds, dv, h with
  | [.int i, .int j], dv, h =>
    obtain ⟨v, w, rfl, du, dw⟩ := two_v dv
    cases du; cases dw
    exact call_max2 hc pins s σ H _ us Q I r ⟨i, j, rfl, post.done h R (.int _)⟩
  | [], _, h => exact h.elim
  | [d], _, h => cases d <;> exact h.elim
  | .non :: _ :: _, _, h | .bl _ :: _ :: _, _, h | .str _ :: _ :: _, _, h | .tup _ :: _ :: _, _, h | .lst _ :: _ :: _, _, h | .klst _ :: _ :: _, _, h | .emp :: _ :: _, _, h | .ref _ :: _ :: _, _, h => exact h.elim
  | [.int _, .non], _, h | [.int _, .bl _], _, h | [.int _, .str _], _, h | [.int _, .tup _], _, h | [.int _, .lst _], _, h | [.int _, .klst _], _, h | [.int _, .emp], _, h | [.int _, .ref _], _, h => exact h.elim
  | .int _ :: d :: e :: ds, _, h => cases d <;> exact h.elim
/-- one argument: what biD says of it -/
theorem one_bi {f : Bi} {ds : List D} {K : PySem.W.Frag} {G : Hp} {io : List Addr} {vs : List V} {r : D} (hf : f = .list ∨ f = .tuple ∨ f = .all ∨ f = .any ∨ f = .sum ∨ f = .repr ∨ f = .sorted) (dv : DVs K G io vs ds) (h : biD f ds = some r) : ∃ v d, vs = [v] ∧ ds = [d] ∧ DV K G io v d := by
  match ds, dv, h with
  | [d], dv, _ => obtain ⟨v, rfl, du⟩ := one_v dv; exact ⟨v, d, rfl, rfl, du⟩
  | [], _, h => rcases hf with rfl | rfl | rfl | rfl | rfl | rfl | rfl <;> cases h
  | d :: e :: ds, _, h => rcases hf with rfl | rfl | rfl | rfl | rfl | rfl | rfl <;> cases d <;> cases h
theorem opt_post {K : PySem.W.Frag} {B : Bs} {G : Hp} {io : List Addr} {s : S} {σ : L2.St} {Q : VK} {o : Option D} (h : post K B G io σ (opt o s) Q) : ∃ d, o = some d ∧ post K B G io σ (.ok d s) Q := by
  cases o with
  | none => exact h.elim
  | some d => exact ⟨d, rfl, h⟩
theorem seq_v' {K : PySem.W.Frag} {B : Bs} {G : Hp} {io : List Addr} {s : S} {σ : L2.St} {H : Hp} (R : Rep K B G io s σ H) {v : V} {d : D} {ds : List D} (h : DV K G io v d) (e : seqOf d = some ds) : ∃ p vs, v = .ref p ∧ (SqL K H p vs ∨ SqT K H p vs) ∧ DVs K G io vs ds := by
  obtain ⟨p, vs, rfl, hs, hv⟩ := seq_v h e
  exact ⟨p, vs, rfl, hs.imp (SqL.sub R.le) (SqT.sub R.le), hv⟩
theorem cb_list : CallR X (.type "list") (rB X.K B .list) := by
  intro pins s σ H vs us Q I r h
  obtain ⟨G, io, st, σ', ds, R, dv, h⟩ := h
  obtain ⟨x, e, h⟩ := opt_post h
  obtain ⟨v, d, rfl, rfl, du⟩ := one_bi (.inl rfl) dv e
  obtain ⟨xs, e1, rfl⟩ := Option.map_eq_some_iff.mp (show (seqOf d).map .lst = some x from e)
  obtain ⟨p, vs, rfl, hs, hv⟩ := seq_v' R du e1
  exact call_list_of pins s σ H _ us Q I r ⟨p, vs, rfl, hs, fun l hl => post.lst h R hv hl⟩
theorem cb_tuple : CallR X (.type "tuple") (rB X.K B .tuple) := by
  intro pins s σ H vs us Q I r h
  obtain ⟨G, io, st, σ', ds, R, dv, h⟩ := h
  obtain ⟨x, e, h⟩ := opt_post h
  obtain ⟨v, d, rfl, rfl, du⟩ := one_bi (.inr (.inl rfl)) dv e
  obtain ⟨xs, e1, rfl⟩ := Option.map_eq_some_iff.mp (show (seqOf d).map .tup = some x from e)
  cases du <;> first | cases e1 | skip
  · rename_i p vs a b
    exact call_tuple_of pins s σ H _ us Q I r ⟨p, vs, rfl, .inr ⟨SqT.sub R.le a, post.done h R (.tup a b)⟩⟩
  · rename_i p vs a b
    exact call_tuple_of pins s σ H _ us Q I r ⟨p, vs, rfl, .inl ⟨SqL.of (R.le _ _ a), fun l hl => post.tup h R b hl⟩⟩
  · rename_i p vs a b
    exact call_tuple_of pins s σ H _ us Q I r ⟨p, vs, rfl, .inl ⟨SqL.sub R.le a, fun l hl => post.tup h R b hl⟩⟩
theorem lseq_v {K : PySem.W.Frag} {B : Bs} {G : Hp} {io : List Addr} {s : S} {σ : L2.St} {H : Hp} (R : Rep K B G io s σ H) {v : V} {d : D} {ds : List D} (h : DV K G io v d) (e : lseqOf d = some ds) : ∃ p vs, v = .ref p ∧ SqL K H p vs ∧ DVs K G io vs ds := by
  cases h <;> first | cases e | skip
  · rename_i a b c; exact ⟨_, _, rfl, SqL.of (R.le _ _ b), c⟩
  · rename_i a b c; exact ⟨_, _, rfl, SqL.sub R.le b, c⟩
theorem cb_all (hc : X.calm = true) : CallR X (.builtin "all") (rB X.K B .all) := by
  intro pins s σ H vs us Q I r h
  obtain ⟨G, io, st, σ', ds, R, dv, h⟩ := h
  obtain ⟨x, e, h⟩ := opt_post h
  obtain ⟨v, d, rfl, rfl, du⟩ := one_bi (.inr (.inr (.inl rfl))) dv e
  obtain ⟨bs, e1, rfl⟩ := Option.map_eq_some_iff.mp (show ((lseqOf d).bind blsOf).map (fun bs => D.bl (bs.all id)) = some x from e)
  obtain ⟨xs, e2, e3⟩ := Option.bind_eq_some_iff.mp e1
  obtain ⟨p, vs, rfl, hs, hv⟩ := lseq_v R du e2
  rw [bls_v e3] at hv
  rw [DVs.bls hv] at hs
  exact cr_all hc pins s σ H _ us Q I r ⟨p, bs, rfl, hs, post.done h R (.bl _)⟩
theorem cb_any (hc : X.calm = true) : CallR X (.builtin "any") (rB X.K B .any) := by
  intro pins s σ H vs us Q I r h
  obtain ⟨G, io, st, σ', ds, R, dv, h⟩ := h
  obtain ⟨x, e, h⟩ := opt_post h
  obtain ⟨v, d, rfl, rfl, du⟩ := one_bi (.inr (.inr (.inr (.inl rfl)))) dv e
  obtain ⟨bs, e1, rfl⟩ := Option.map_eq_some_iff.mp (show ((lseqOf d).bind blsOf).map (fun bs => D.bl (bs.any id)) = some x from e)
  obtain ⟨xs, e2, e3⟩ := Option.bind_eq_some_iff.mp e1
  obtain ⟨p, vs, rfl, hs, hv⟩ := lseq_v R du e2
  rw [bls_v e3] at hv
  rw [DVs.bls hv] at hs
  exact cr_any hc pins s σ H _ us Q I r ⟨p, bs, rfl, hs, post.done h R (.bl _)⟩
theorem cb_sum (hc : X.calm = true) : CallR X (.builtin "sum") (rB X.K B .sum) := by
  intro pins s σ H vs us Q I r h
  obtain ⟨G, io, st, σ', ds, R, dv, h⟩ := h
  obtain ⟨x, e, h⟩ := opt_post h
  obtain ⟨v, d, rfl, rfl, du⟩ := one_bi (.inr (.inr (.inr (.inr (.inl rfl))))) dv e
  obtain ⟨bs, e1, rfl⟩ := Option.map_eq_some_iff.mp (show ((lseqOf d).bind intsOf).map (fun bs => D.int bs.sum) = some x from e)
  obtain ⟨xs, e2, e3⟩ := Option.bind_eq_some_iff.mp e1
  obtain ⟨p, vs, rfl, hs, hv⟩ := lseq_v R du e2
  rw [ints_v e3] at hv
  rw [DVs.ints hv] at hs
  exact cr_sum hc pins s σ H _ us Q I r ⟨p, bs, rfl, hs, post.done h R (.int _)⟩
theorem cb_gcd : CallR X (.builtin "math.gcd") (rB X.K B .gcd) := by
  intro pins s σ H vs us Q I r h
  obtain ⟨G, io, st, σ', ds, R, dv, h⟩ := h
  match ds, dv, h with
  | [.int i, .int j], dv, h =>
    obtain ⟨v, w, rfl, du, dw⟩ := two_v dv
    cases du; cases dw
    exact cr_gcd pins s σ H _ us Q I r ⟨i, j, rfl, post.done h R (.int _)⟩
  | [], _, h => exact h.elim
  | [d], _, h => cases d <;> exact h.elim
  | .non :: _ :: _, _, h | .bl _ :: _ :: _, _, h | .str _ :: _ :: _, _, h | .tup _ :: _ :: _, _, h | .lst _ :: _ :: _, _, h | .klst _ :: _ :: _, _, h | .emp :: _ :: _, _, h | .ref _ :: _ :: _, _, h => exact h.elim
  | [.int _, .non], _, h | [.int _, .bl _], _, h | [.int _, .str _], _, h | [.int _, .tup _], _, h | [.int _, .lst _], _, h | [.int _, .klst _], _, h | [.int _, .emp], _, h | [.int _, .ref _], _, h => exact h.elim
  | .int _ :: d :: e :: ds, _, h => cases d <;> exact h.elim
theorem cb_str : CallR X (.type "str") (rB X.K B .str) := by
  intro pins s σ H vs us Q I r h
  obtain ⟨G, io, st, σ', ds, R, dv, h⟩ := h
  match ds, dv, h with
  | [.int i], dv, h =>
    obtain ⟨v, rfl, du⟩ := one_v dv
    cases du
    simp only [biD] at h
    split at h
    · rename_i hz
      exact call_str_int pins s σ H _ us Q I r ⟨i, rfl, hz, post.done h R (.str _)⟩
    · exact h.elim
  | [], _, h => exact h.elim
  | [.non], _, h | [.bl _], _, h | [.str _], _, h | [.tup _], _, h | [.lst _], _, h | [.klst _], _, h | [.emp], _, h | [.ref _], _, h => exact h.elim
  | d :: e :: ds, _, h => cases d <;> exact h.elim
end
end DL
end

section
set_option Elab.async false
set_option linter.all false
set_option autoImplicit false
set_option maxRecDepth 100000
set_option maxHeartbeats 1000000
namespace DL
open PySem PySem.Spec L2
section
variable {X : Cx} {B : Bs}
mutual
theorem toP_noDict : ∀ {d : D} {x : PyData}, toP d = some x → x.hasDict = false
  | .non, _, e => by cases e; rfl
  | .bl _, _, e => by cases e; rfl
  | .int _, _, e => by cases e; rfl
  | .str _, _, e => by cases e; rfl
  | .tup ds, _, e => by
    cases q : toPs ds with
    | none => simp [toP, q] at e
    | some xs => simp [toP, q] at e; subst e; exact toPs_noDict q
  | .lst ds, _, e => by
    cases q : toPs ds with
    | none => simp [toP, q] at e
    | some xs => simp [toP, q] at e; subst e; exact toPs_noDict q
  | .klst ds, _, e => by
    cases q : toPs ds with
    | none => simp [toP, q] at e
    | some xs => simp [toP, q] at e; subst e; exact toPs_noDict q
  | .emp, _, e => by simp [toP] at e
  | .ref _, _, e => by simp [toP] at e
theorem toPs_noDict : ∀ {ds : List D} {xs : List PyData}, toPs ds = some xs → PyData.hasDictAll xs = false
  | [], _, e => by cases e; rfl
  | d :: ds, _, e => by
    cases q : toP d with
    | none => simp [toPs, q] at e
    | some x =>
      cases q' : toPs ds with
      | none => simp [toPs, q, q'] at e
      | some xs =>
        simp [toPs, q, q'] at e; subst e
        show (PyData.hasDict x || PyData.hasDictAll xs) = false
        rw [toP_noDict q, toPs_noDict q']
        rfl
end
theorem refl_ref {K : PySem.W.Frag} {H : Hp} {io : List Addr} {v : V} {d : D} {x : PyData} (h : DV K H io v d) (e : toP d = some x) (hx : (∃ xs, x = .list xs) ∨ ∃ xs, x = .tuple xs) : ∃ a, v = .ref a := by
  cases h <;> first | exact ⟨_, rfl⟩ | (rcases hx with ⟨xs, rfl⟩ | ⟨xs, rfl⟩ <;> cases e)
theorem repr_nested (hgu : X.A.guards = some []) (hu : X.A.units + 200 < cLine) {pins : List (Addr × Obj)} {s : Shared} {σ : L2.St} {H : Hp} {v : V} {us : List Value} {Q : VK} {G : Hp} {io : List Addr} {st : S} {σ' : L2.St} {d : D} {x : PyData}
    (I : L2.Inv X pins σ H s) (r : Vals [v] us) (R : Rep X.K B G io st σ' H) (dv : DV X.K G io v d) (e : toP d = some x) (hx : (∃ xs, x = .list xs) ∨ ∃ xs, x = .tuple xs) (hs : x.showable = true) (hd : x.depth ≤ 64) (hz : x.shown.length ≤ sizeLine)
    (h : post X.K B G io σ' (.ok (.str x.shown) st) Q) : wpAny (model X.prog X.w) X.A (call (.builtin "repr") us) (EP X pins σ Q) X.xe s := by
  obtain ⟨a, rfl⟩ := refl_ref dv e hx
  obtain ⟨u, rfl, ru⟩ := vals1 r
  cases ru
  obtain ⟨as, rd⟩ := Dp.reads I x _ _ ((dv.inH R).dp e) (show RelV (.ref a) (.ref a) from rfl)
  refine PySem.repr_of_reads' rd hs (fun z => by rw [toP_noDict e] at z; cases z) hgu (by omega) (fun _ _ q => q) (fun h' u tk kp => ?_) hz
  exact ⟨.str x.shown, H, I.kept kp, ⟨u, rfl⟩, post.done h R (.str _)⟩
theorem cb_repr (hgu : X.A.guards = some []) (hu : X.A.units + 200 < cLine) : CallR X (.builtin "repr") (rB X.K B .repr) := by
  intro pins s σ H vs us Q I r h
  obtain ⟨G, io, st, σ', ds, R, dv, h⟩ := h
  obtain ⟨x, e, h⟩ := opt_post h
  obtain ⟨v, d, rfl, rfl, du⟩ := one_bi (.inr (.inr (.inr (.inr (.inr (.inl rfl)))))) dv e
  obtain ⟨t, e1, rfl⟩ := Option.map_eq_some_iff.mp (show (reprD d).map .str = some x from e)
  have nest : ∀ a, toP d = some a → ((∃ xs, a = .list xs) ∨ ∃ xs, a = .tuple xs) → (a.showable && decide (a.depth ≤ 64) && decide (a.shown.length ≤ sizeLine)) = true → a.shown = t → wpAny (model X.prog X.w) X.A (call (.builtin "repr") us) (EP X pins σ Q) X.xe s := fun a ea hx hb ht => by
    simp only [Bool.and_eq_true, decide_eq_true_eq] at hb
    exact repr_nested hgu hu I r R du ea hx hb.1.1 hb.1.2 hb.2 (by rw [ht]; exact h)
  have go : (match toP d with | some a => (match a with | .list _ | .tuple _ => if a.showable && decide (a.depth ≤ 64) && decide (a.shown.length ≤ sizeLine) then some a.shown else none | _ => none) | none => none) = some t → wpAny (model X.prog X.w) X.A (call (.builtin "repr") us) (EP X pins σ Q) X.xe s := fun q => by
    cases ea : toP d with
    | none => rw [ea] at q; cases q
    | some a =>
      rw [ea] at q
      cases a <;> first | cases q | skip
      · simp only at q
        split at q
        · rename_i hb
          exact nest _ ea (.inl ⟨_, rfl⟩) hb (Option.some.inj q)
        · cases q
      · simp only at q
        split at q
        · rename_i hb
          exact nest _ ea (.inr ⟨_, rfl⟩) hb (Option.some.inj q)
        · cases q
  cases d with
  | non =>
    cases e1
    cases du
    obtain ⟨u, rfl, ru⟩ := vals1 r
    cases ru
    exact PySem.call_repr_gives (T := "NoneType") (typeIs_none _) PySem.F.slot_NoneType_repr PySem.F.entry_NoneType_repr (PySem.F.args_NoneType_repr_1 _) PySem.gives_none_repr ⟨.str _, H, I.tok _, ⟨_, rfl⟩, post.done h R (.str _)⟩ rfl (by decide +kernel)
  | bl b =>
    cases e1
    cases du
    obtain ⟨u, rfl, ru⟩ := vals1 r
    cases ru
    refine PySem.call_repr_gives (T := "bool") (typeIs_bool _ _) PySem.F.slot_bool_repr PySem.F.entry_bool_repr (PySem.F.args_bool_repr_1 _) (PySem.gives_bool_repr b) ⟨.str _, H, I.tok _, ⟨_, rfl⟩, ?_⟩ rfl (by cases b <;> decide +kernel)
    have e : (if b = true then Str.ofString "True" else Str.ofString "False") = Str.ofString (if b = true then "True" else "False") := by cases b <;> rfl
    rw [e]
    exact post.done h R (.str _)
  | int i =>
    simp only [reprD] at e1
    split at e1
    · rename_i hz
      cases e1
      cases du
      exact SkE.call_repr_int pins s σ H _ us Q I r ⟨i, rfl, hz, post.done h R (.str _)⟩
    · cases e1
  | str x => cases e1
  | tup xs => exact go e1
  | lst xs => exact go e1
  | klst xs => exact go e1
  | emp => cases e1
  | ref k => cases e1
end
end DL
end

section
set_option Elab.async false
set_option linter.all false
set_option autoImplicit false
set_option maxRecDepth 100000
set_option maxHeartbeats 1000000
namespace DL
open PySem PySem.Spec L2

/-! ### sorted of pairs -/
def pairD (p : Int × Int) : D := .tup [.int p.1, .int p.2]
def leP (p q : Int × Int) : Prop := p.1 < q.1 ∨ (p.1 = q.1 ∧ p.2 ≤ q.2)
theorem pairs_v : ∀ {ds : List D} {ps : List (Int × Int)}, pairsOf ds = some ps → ds = ps.map pairD
  | [], _, h => by cases h; rfl
  | d :: ds, ps, h => by
    unfold pairsOf at h
    split at h
    · rename_i e; cases e
    · rename_i i j r e
      cases e
      obtain ⟨q, e1, rfl⟩ := Option.map_eq_some_iff.mp h
      rw [pairs_v e1]; rfl
    · cases h
theorem insP_perm (p : Int × Int) : ∀ l, (insP p l).Perm (p :: l)
  | [] => List.Perm.refl _
  | q :: r => by
    unfold insP
    split
    · exact List.Perm.refl _
    · exact ((insP_perm p r).cons q).trans (List.Perm.swap p q r)
theorem sortP_perm : ∀ l, (sortP l).Perm l
  | [] => List.Perm.refl _
  | p :: r => (insP_perm p (sortP r)).trans ((sortP_perm r).cons p)
theorem leP_tr {a b c : Int × Int} (h : leP a b) (h' : leP b c) : leP a c := by
  unfold leP at *
  omega
theorem insP_ord (p : Int × Int) : ∀ {l : List (Int × Int)}, l.Pairwise leP → (insP p l).Pairwise leP
  | [], _ => List.pairwise_singleton _ _
  | q :: r, h => by
    obtain ⟨h1, h2⟩ := List.pairwise_cons.mp h
    unfold insP
    split
    · rename_i c
      have c : leP p q := c
      refine List.pairwise_cons.mpr ⟨fun z hz => ?_, h⟩
      rcases List.mem_cons.mp hz with rfl | hz
      · exact c
      · exact leP_tr c (h1 z hz)
    · rename_i c
      have c : leP q p := by unfold leP; omega
      refine List.pairwise_cons.mpr ⟨fun z hz => ?_, insP_ord p h2⟩
      rcases List.mem_cons.mp ((insP_perm p r).mem_iff.mp hz) with rfl | hz
      · exact c
      · exact h1 z hz
theorem sortP_ord : ∀ l, (sortP l).Pairwise leP
  | [] => List.Pairwise.nil
  | p :: r => insP_ord p (sortP_ord r)
theorem ord_uniq : ∀ {l m : List (Int × Int)}, l.Pairwise leP → m.Pairwise leP → l.Perm m → l = m
  | [], m, _, _, h => (List.Perm.eq_nil h.symm).symm
  | x :: l, [], _, _, h => absurd h.length_eq (by simp)
  | x :: l, y :: m, hl, hm, h => by
    obtain ⟨l1, l2⟩ := List.pairwise_cons.mp hl
    obtain ⟨m1, m2⟩ := List.pairwise_cons.mp hm
    have e1 : leP x y := by
      rcases List.mem_cons.mp (h.mem_iff.mpr (List.mem_cons_self (a := y) (l := m))) with e | hy
      · rw [e]; unfold leP; omega
      · exact l1 y hy
    have e2 : leP y x := by
      rcases List.mem_cons.mp (h.mem_iff.mp (List.mem_cons_self (a := x) (l := l))) with e | hx
      · rw [e]; unfold leP; omega
      · exact m1 x hx
    have e : x = y := by
      unfold leP at e1 e2
      exact Prod.ext_iff.mpr ⟨by omega, by omega⟩
    subst e
    rw [ord_uniq l2 m2 h.cons_inv]
open Classical in
noncomputable def keyP (K : PySem.W.Frag) (H : Hp) (v : V) : Int × Int :=
  if h : ∃ (t : Addr) (p : Int × Int), v = V.ref t ∧ SqT K H t [.int p.1, .int p.2] then h.choose_spec.choose else (0, 0)
section
variable {X : Cx} {B : Bs}
theorem keyP_at {pins : List (Addr × Obj)} {σ : L2.St} {H : Hp} {s : Shared} (I : L2.Inv X pins σ H s) {t : Addr} {p : Int × Int} (h : SqT X.K H t [.int p.1, .int p.2]) : keyP X.K H (.ref t) = p := by
  have ex : ∃ (t' : Addr) (p' : Int × Int), V.ref t = V.ref t' ∧ SqT X.K H t' [.int p'.1, .int p'.2] := ⟨t, p, rfl, h⟩
  have h2 := ex.choose_spec.choose_spec
  have e : keyP X.K H (.ref t) = ex.choose_spec.choose := by
    unfold keyP
    rw [dif_pos ex]
  rw [e]
  generalize ex.choose_spec.choose = q at *
  generalize ex.choose = t' at *
  obtain ⟨h3, h4⟩ := h2
  cases h3
  have h5 := I.tuple_inj h h4
  simp only [List.cons.injEq, V.int.injEq, and_true] at h5
  exact Prod.ext_iff.mpr ⟨h5.1.symm, h5.2.symm⟩
theorem dvs_pairs {K : PySem.W.Frag} {G : Hp} {io : List Addr} : ∀ {vs : List V} {ps : List (Int × Int)}, DVs K G io vs (ps.map pairD) → ∀ v ∈ vs, ∃ (t : Addr) (p : Int × Int), v = V.ref t ∧ SqT K G t [.int p.1, .int p.2] ∧ DV K G io v (pairD p)
  | _, [], h, v, hv => by cases h; simp at hv
  | _, p :: ps, h, v, hv => by
    cases h with
    | cons a b =>
      rcases List.mem_cons.mp hv with rfl | hv
      · have a0 := a
        cases a with
        | tup c d =>
          obtain ⟨x, y, rfl, d1, d2⟩ := two_v d
          cases d1
          cases d2
          exact ⟨_, p, rfl, c, a0⟩
      · exact dvs_pairs b v hv
theorem dvs_keys {K : PySem.W.Frag} {G : Hp} {io : List Addr} {f : V → Int × Int} : ∀ {vs : List V} {ps : List (Int × Int)}, DVs K G io vs (ps.map pairD) → (∀ v ∈ vs, ∀ p, DV K G io v (pairD p) → f v = p) → vs.map f = ps
  | _, [], h, _ => by cases h; rfl
  | _, p :: ps, h, hf => by
    cases h with
    | cons a b =>
      rw [List.map_cons, hf _ (by simp) p a, dvs_keys b fun v hv p hp => hf v (by simp [hv]) p hp]
theorem dvs_of_keys {K : PySem.W.Frag} {G : Hp} {io : List Addr} {f : V → Int × Int} : ∀ {vs : List V}, (∀ v ∈ vs, DV K G io v (pairD (f v))) → DVs K G io vs ((vs.map f).map pairD)
  | [], _ => .nil
  | v :: vs, h => .cons (h v (by simp)) (dvs_of_keys fun u hu => h u (by simp [hu]))
theorem cb_sorted : CallR X (.builtin "sorted") (rB X.K B .sorted) := by
  intro pins s σ H xs us Q I r h
  obtain ⟨G, io, st, σ', ds, R, dv, h⟩ := h
  obtain ⟨x, e, h⟩ := opt_post h
  obtain ⟨v, d, rfl, rfl, du⟩ := one_bi (.inr (.inr (.inr (.inr (.inr (.inr rfl)))))) dv e
  obtain ⟨ps, e1, rfl⟩ := Option.map_eq_some_iff.mp (show ((lseqOf d).bind pairsOf).map (fun ps => D.lst ((sortP ps).map fun p => .tup [.int p.1, .int p.2])) = some x from e)
  obtain ⟨ys, e2, e3⟩ := Option.bind_eq_some_iff.mp e1
  obtain ⟨a, vs, rfl, hs, hv⟩ := lseq_v R du e2
  rw [pairs_v e3] at hv
  obtain ⟨its, rv, hl, hz⟩ := I.list hs
  obtain ⟨u, rfl, ru⟩ := vals1 r
  obtain rfl : u = Value.ref a := ru
  have inf := dvs_pairs hv
  obtain ⟨e4, e5⟩ := refs_back rv fun x m => by
    obtain ⟨t, _, e, _⟩ := inf x m
    exact ⟨t, e⟩
  have kat : ∀ v ∈ vs, ∀ p, DV X.K G io v (pairD p) → keyP X.K H v = p := fun v hm p hp => by
    cases hp with
    | tup c d =>
      obtain ⟨x, y, rfl, d1, d2⟩ := two_v d
      cases d1
      cases d2
      exact keyP_at I (SqT.sub R.le c)
  refine SrtO.sorted_pairsO (k := fun u => keyP X.K H (backV u)) hl.isList (by rw [← rv.length]; exact hz) (fun w hw => ?_) fun h' q out h1 h2 kp hd hn => ?_
  · obtain ⟨t, rfl⟩ := e5 w hw
    have hm : V.ref t ∈ vs := by rw [e4]; exact List.mem_map.mpr ⟨_, hw, rfl⟩
    obtain ⟨t', p, et, ht, hp⟩ := inf _ hm
    cases et
    have ek : keyP X.K H (backV (Value.ref t)) = p := kat _ hm p hp
    rw [ek]
    obtain ⟨its2, r2, ⟨o, ho, hc, n, hdat⟩, _⟩ := I.tuple (SqT.sub R.le ht)
    obtain ⟨u1, u2, rfl, ri, rj⟩ := vals2 r2
    obtain ⟨t1, rfl⟩ := ri
    obtain ⟨t2, rfl⟩ := rj
    exact ⟨t, o, t1, t2, n, rfl, ho, hc, hdat⟩
  · have h3 : ∀ u ∈ out, ∃ a, u = Value.ref a := fun u hu => e5 u (h2.perm.mem_iff.mp hu)
    have pm : (out.map backV).Perm vs := by rw [e4]; exact h2.perm.map backV
    have hk : (out.map backV).map (keyP X.K H) = sortP ps := by
      refine ord_uniq ?_ (sortP_ord ps) ?_
      · rw [List.map_map]
        refine List.pairwise_map.mpr (List.Pairwise.imp (fun {a b} hab => ?_) h1)
        have := SrtO.lexB_no.mp hab
        unfold leP
        simp only [Function.comp_apply]
        omega
      · refine (pm.map _).trans ?_
        rw [dvs_keys hv kat]
        exact (sortP_perm ps).symm
    have dvo : DVs X.K G io (out.map backV) ((sortP ps).map pairD) := by
      rw [← hk]
      refine dvs_of_keys fun w hw => ?_
      have hm := pm.mem_iff.mp hw
      obtain ⟨t, p, _, _, hp⟩ := inf w hm
      rw [kat w hm p hp]
      exact hp
    obtain ⟨n, hn⟩ := hn
    have hlen : (out.map backV).length ≤ sizeLine := by rw [pm.length_eq]; exact hz
    refine ⟨.ref q, upd H q (.lst (out.map backV)), I.laid (t' := s.toks) kp hd ⟨hlen, out, n, vals_back h3, hn⟩, rfl, ?_⟩
    exact post.lst h R dvo (I.hok.fresh hd)
end
end DL
end

section
set_option Elab.async false
set_option linter.all false
set_option autoImplicit false
set_option maxRecDepth 100000
set_option maxHeartbeats 1000000
/-! zip of two sequences of unlike kinds: an iterator of either kind (true: a tuple's) -/
namespace ZM
open PySem PySem.Spec PyProof.Rows
def It1 (t : Bool) (h : Heap) (c l : Addr) (n : Nat) : Prop := match t with
  | true => h.IsTupleIter c l n | false => h.IsListIter c l n
def Sq1 (t : Bool) (h : Heap) (l : Addr) (xs : Array Value) : Prop := match t with
  | true => h.IsTuple l xs | false => h.IsList l xs
theorem It1.but {t : Bool} {h h' : Heap} {c d l : Addr} {n : Nat} (x : It1 t h c l n) (e : Heap.ExtBut d h h') (ne : c ≠ d) : It1 t h' c l n := by
  cases t
  · exact Heap.IsListIter.extBut x e ne
  · exact Heap.IsTupleIter.extBut x e ne
theorem It1.stay {t : Bool} {h h' : Heap} {c l : Addr} {n : Nat} (x : It1 t h c l n) (e : ∀ o, h.get? c = some o → h'.get? c = some o) : It1 t h' c l n := by
  cases t
  · exact Heap.IsListIter.at x e
  · exact Heap.IsTupleIter.at x e
theorem Sq1.but {t : Bool} {h h' : Heap} {l d : Addr} {xs : Array Value} (x : Sq1 t h l xs) (e : Heap.ExtBut d h h') (ne : l ≠ d) : Sq1 t h' l xs := by
  cases t
  · exact Heap.IsList.extBut x e ne
  · exact Heap.IsTuple.extBut x e ne
theorem Sq1.more {t : Bool} {h : Heap} {l : Addr} {xs : Array Value} (x : Sq1 t h l xs) (o : Obj) : Sq1 t (h.push o) l xs := by
  cases t
  · exact Heap.IsList.push x o
  · exact Heap.IsTuple.push x o
theorem It1.ob {t : Bool} {h : Heap} {c l : Addr} {n : Nat} (x : It1 t h c l n) : ∃ o, h.get? c = some o ∧ ∀ v, o.data ≠ .cell v := by
  cases t
  · obtain ⟨o, e, _, d⟩ := x; exact ⟨o, e, fun v q => by rw [d] at q; cases q⟩
  · obtain ⟨o, e, _, d⟩ := x; exact ⟨o, e, fun v q => by rw [d] at q; cases q⟩
section
variable {prog : Program} {w : World} {A : Around} {E : Value → Shared → Prop} {s : Shared}
theorem next1 {t : Bool} {c l : Addr} {n : Nat} {xs : Array Value} {x : Value} {Q : Value → Shared → Prop} (hc : It1 t s.heap c l n) (hl : Sq1 t s.heap l xs) (hx : xs[n]? = some x)
    (q : ∀ h', It1 t h' c l (n + 1) → Heap.SameBut c s.heap h' → Q x { s with heap := h' }) : wpAny (model prog w) A (Builtin.SmallTypes.nextOf (.ref c)) Q E s := by
  cases t
  · exact wpAny_nextOf_list_item hc hl hx q
  · exact RZ.nextOf_tuple_item hc hl hx q
theorem stop1 {t : Bool} {c l : Addr} {n : Nat} {xs : Array Value} {Q : Value → Shared → Prop} (hh : A.handled = none) (hc : It1 t s.heap c l n) (hl : Sq1 t s.heap l xs) (hx : xs[n]? = none)
    (q : ∀ h' e, Heap.ExtBut c s.heap h' → (∃ o, h'.get? e = some o ∧ o.cls = .type "StopIteration") → E (.ref e) { s with heap := h' }) : wpAny (model prog w) A (Builtin.SmallTypes.nextOf (.ref c)) Q E s := by
  cases t
  · exact wpAny_nextOf_list_end hh hc hl hx q
  · exact RZ.nextOf_tuple_end hh hc hl hx q
variable {Z U T c d l m : Addr} {n k : Nat} {xs ys : Array Value} {x y p q : Value} {t u : Bool}
theorem zip_item {Q : Value → Shared → Prop} (D : ZipApart Z U T c d l m) (z0 : IsZip s.heap Z U T .none) (u0 : IsPair s.heap U (.ref c) (.ref d)) (t0 : IsPair s.heap T p q)
    (c0 : It1 t s.heap c l n) (d0 : It1 u s.heap d m k) (l0 : Sq1 t s.heap l xs) (m0 : Sq1 u s.heap m ys) (ex : xs[n]? = some x) (ey : ys[k]? = some y)
    (fin : ∀ h', IsZip h' Z U T (rawInt s.heap.objs.size) → IsPair h' T x y → It1 t h' c l (n + 1) → It1 u h' d m (k + 1) → IsPair h' s.heap.objs.size x y → h'.objs.size = s.heap.objs.size + 1 →
      (∀ a o, a ≠ Z → a ≠ T → a ≠ c → a ≠ d → s.heap.get? a = some o → h'.get? a = some o) → Q (.ref s.heap.objs.size) { s with heap := h' }) :
    wpAny (model prog w) A (Builtin.«zip.__next__» ⟨[.ref Z], []⟩) (fun r s' => ∃ v, r = .done (.ret v) ∧ Q v s') E s := by
  show wpAny _ _ (field (.ref Z) 2 >>= _) _ _ _
  refine wpAny_bind (wpAny_field z0 rfl (x := .bool false) rfl ?_)
  show wpAny _ _ (field (.ref Z) 3 >>= _) _ _ _
  refine wpAny_bind (wpAny_field z0 rfl (x := .ref U) rfl (wpAny_bind (wpAny_seqItems u0 rfl ?_)))
  show wpAny _ _ (Builtin.SmallTypes.ownedTupleIsFree (.ref Z) >>= _) _ _ _
  refine wpAny_bind ?_
  unfold Builtin.SmallTypes.ownedTupleIsFree; refine wpAny_bind (wpAny_field z0 rfl (x := .none) rfl (wpAny_pure ?_))
  simp only [if_true]
  refine wpAny_bind (wpAny_rule (wpAny_bind (wpAny_field z0 rfl (x := .ref T) rfl (wpAny_bind (wpAny_setField_rec z0 (by simp) fun h1 z1 b1 => ?_)))))
  replace z1 : IsZip h1 Z U T .ellipsis := z1
  refine wpAny_bind ?_
  simp only [List.forIn_cons, List.forIn_nil, List.zipIdx_cons, List.zipIdx_nil]
  refine wpAny_bind (wpAny_bind (wpAny_onRaise ?_))
  show wpAny _ _ (Builtin.SmallTypes.nextOf (.ref c) >>= _) _ _ _
  refine wpAny_bind (next1 (c0.but b1.extBut D.i1z) (l0.but b1.extBut D.l1z) ex fun h2 c2 b2 => wpAny_pure ?_)
  have t2 : IsPair h2 T p q := b2.extBut _ _ D.TOi1 (b1.extBut _ _ D.TOz t0)
  refine wpAny_bind (wpAny_seqItems t2 rfl (wpAny_bind (wpAny_updateSeq_pair t2 fun h3 t3 b3 => wpAny_bind (wpAny_letGo (wpAny_pure ?_)))))
  replace t3 : IsPair h3 T x q := t3
  refine wpAny_bind (wpAny_bind (wpAny_onRaise ?_))
  show wpAny _ _ (Builtin.SmallTypes.nextOf (.ref d) >>= _) _ _ _
  refine wpAny_bind (next1 (((d0.but b1.extBut D.i2z).but b2.extBut D.i12.symm).but b3.extBut D.TOi2.symm) (((m0.but b1.extBut D.l2z).but b2.extBut D.l2i1).but b3.extBut D.l2TO) ey fun h4 d4 b4 => wpAny_pure ?_)
  have t4 : IsPair h4 T x q := b4.extBut _ _ D.TOi2 t3
  refine wpAny_bind (wpAny_seqItems t4 rfl (wpAny_bind (wpAny_updateSeq_pair t4 fun h5 t5 b5 => wpAny_bind (wpAny_letGo (wpAny_pure (wpAny_pure ?_))))))
  replace t5 : IsPair h5 T x y := t5
  refine wpAny_bind (wpAny_seqItems t5 rfl (wpAny_bind (wpAny_newTuple ?_)))
  have sz : h5.objs.size = s.heap.objs.size := by rw [b5.1, b4.1, b3.1, b2.1, b1.1]
  have z5 : IsZip h5 Z U T .ellipsis := b5.extBut _ _ D.TOz.symm (b4.extBut _ _ D.i2z.symm (b3.extBut _ _ D.TOz.symm (b2.extBut _ _ D.i1z.symm z1)))
  have k5 : ∀ a o, a ≠ Z → a ≠ T → a ≠ c → a ≠ d → s.heap.get? a = some o → h5.get? a = some o := fun a o n1 n2 n3 n4 e =>
    b5.extBut _ _ n2 (b4.extBut _ _ n4 (b3.extBut _ _ n2 (b2.extBut _ _ n3 (b1.extBut _ _ n1 e))))
  have c5 : It1 t h5 c l (n + 1) := ((c2.but b3.extBut D.TOi1.symm).but b4.extBut D.i12).but b5.extBut D.TOi1.symm
  have d5 : It1 u h5 d m (k + 1) := d4.but b5.extBut D.TOi2.symm
  have zlt : Z < h5.objs.size := Heap.lt_size z5
  show wpAny _ _ (Builtin.SmallTypes.ownedTupleHandOut (.ref Z) (.ref h5.objs.size) >>= _) _ _ _
  refine wpAny_bind ?_
  unfold Builtin.SmallTypes.ownedTupleHandOut
  have z6 : IsZip (h5.push { cls := .type "tuple", data := .seq #[x, y] }) Z U T .ellipsis := Heap.get?_push_of_some _ z5
  refine wpAny_bind (wpAny_setField_rec z6 (by simp) fun h7 z7 b7 => ?_)
  replace z7 : IsZip h7 Z U T (rawInt h5.objs.size) := z7
  refine wpAny_setField_rec z7 (by simp) fun h8 z8 b8 => ?_
  replace z8 : IsZip h8 Z U T (rawInt h5.objs.size) := z8
  have up : ∀ a o, a ≠ Z → h5.get? a = some o → h8.get? a = some o := fun a o n1 e => b8.extBut _ _ n1 (b7.extBut _ _ n1 (Heap.get?_push_of_some _ e))
  have p8 : IsPair h8 h5.objs.size x y := b8.extBut _ _ (Nat.ne_of_gt zlt) (b7.extBut _ _ (Nat.ne_of_gt zlt) (Heap.get?_push_size _ rfl))
  have s8 : h8.objs.size = h5.objs.size + 1 := by rw [b8.1, b7.1, Heap.size_push]
  rw [sz] at z8 p8 s8
  refine wpAny_pure ⟨_, rfl, ?_⟩
  show Q (.ref h5.objs.size) _
  rw [sz]
  exact fin h8 z8 (up _ _ D.TOz t5) (c5.stay fun o e => up _ o D.i1z e) (d5.stay fun o e => up _ o D.i2z e) p8 s8 fun a o n1 n2 n3 n4 e => up a o n1 (k5 a o n1 n2 n3 n4 e)
theorem zip_stop {Q : Fin → Shared → Prop} (hh : A.handled = none) (D : ZipApart Z U T c d l m) (z0 : IsZip s.heap Z U T .none) (u0 : IsPair s.heap U (.ref c) (.ref d)) (t0 : IsPair s.heap T p q)
    (c0 : It1 t s.heap c l n) (d0 : It1 u s.heap d m k) (l0 : Sq1 t s.heap l xs) (m0 : Sq1 u s.heap m ys) (hend : xs[n]? = none ∨ ys[k]? = none)
    (out : ∀ h' e, (∀ a o, a ≠ Z → a ≠ T → a ≠ c → a ≠ d → s.heap.get? a = some o → h'.get? a = some o) → (∃ o, h'.get? e = some o ∧ o.cls = .type "StopIteration") → E (.ref e) { s with heap := h' }) :
    wpAny (model prog w) A (Builtin.«zip.__next__» ⟨[.ref Z], []⟩) Q E s := by
  show wpAny _ _ (field (.ref Z) 2 >>= _) _ _ _
  refine wpAny_bind (wpAny_field z0 rfl (x := .bool false) rfl ?_)
  show wpAny _ _ (field (.ref Z) 3 >>= _) _ _ _
  refine wpAny_bind (wpAny_field z0 rfl (x := .ref U) rfl (wpAny_bind (wpAny_seqItems u0 rfl ?_)))
  show wpAny _ _ (Builtin.SmallTypes.ownedTupleIsFree (.ref Z) >>= _) _ _ _
  refine wpAny_bind ?_
  unfold Builtin.SmallTypes.ownedTupleIsFree; refine wpAny_bind (wpAny_field z0 rfl (x := .none) rfl (wpAny_pure ?_))
  simp only [if_true]
  refine wpAny_bind (wpAny_rule (wpAny_bind (wpAny_field z0 rfl (x := .ref T) rfl (wpAny_bind (wpAny_setField_rec z0 (by simp) fun h1 z1 b1 => ?_)))))
  replace z1 : IsZip h1 Z U T .ellipsis := z1
  refine wpAny_bind ?_
  simp only [List.forIn_cons, List.forIn_nil, List.zipIdx_cons, List.zipIdx_nil]
  refine wpAny_bind (wpAny_bind (wpAny_onRaise ?_))
  show wpAny _ _ (Builtin.SmallTypes.nextOf (.ref c) >>= _) _ _ _
  cases ex : xs[n]? with
  | none =>
    refine wpAny_bind (stop1 hh (c0.but b1.extBut D.i1z) (l0.but b1.extBut D.l1z) ex fun h2 e b2 ⟨oe, e1, e2⟩ => ?_)
    have z2 : IsZip h2 Z U T .ellipsis := b2 _ _ D.i1z.symm z1
    have ne : e ≠ Z := fun q => by subst q; rw [z2] at e1; cases e1; simp at e2
    exact wpAny_setField_rec z2 (by simp) fun h3 _ b3 => out h3 e (fun a o n1 _ n3 _ q => b3.extBut _ _ n1 (b2 _ _ n3 (b1.extBut _ _ n1 q))) ⟨oe, b3.extBut _ _ ne e1, e2⟩
  | some x =>
    have ey : ys[k]? = none := by rcases hend with h | h; rw [ex] at h; cases h; exact h
    refine wpAny_bind (next1 (c0.but b1.extBut D.i1z) (l0.but b1.extBut D.l1z) ex fun h2 c2 b2 => wpAny_pure ?_)
    have t2 : IsPair h2 T p q := b2.extBut _ _ D.TOi1 (b1.extBut _ _ D.TOz t0)
    refine wpAny_bind (wpAny_seqItems t2 rfl (wpAny_bind (wpAny_updateSeq_pair t2 fun h3 t3 b3 => wpAny_bind (wpAny_letGo (wpAny_pure ?_)))))
    refine wpAny_bind (wpAny_bind (wpAny_onRaise ?_))
    show wpAny _ _ (Builtin.SmallTypes.nextOf (.ref d) >>= _) _ _ _
    refine wpAny_bind (stop1 hh (((d0.but b1.extBut D.i2z).but b2.extBut D.i12.symm).but b3.extBut D.TOi2.symm) (((m0.but b1.extBut D.l2z).but b2.extBut D.l2i1).but b3.extBut D.l2TO) ey fun h4 e b4 ⟨oe, e1, e2⟩ => ?_)
    have z4 : IsZip h4 Z U T .ellipsis := b4 _ _ D.i2z.symm (b3.extBut _ _ D.TOz.symm (b2.extBut _ _ D.i1z.symm z1))
    have ne : e ≠ Z := fun q => by subst q; rw [z4] at e1; cases e1; simp at e2
    exact wpAny_setField_rec z4 (by simp) fun h5 _ b5 => out h5 e (fun a o n1 n2 n3 n4 q => b5.extBut _ _ n1 (b4 _ _ n4 (b3.extBut _ _ n2 (b2.extBut _ _ n3 (b1.extBut _ _ n1 q))))) ⟨oe, b5.extBut _ _ ne e1, e2⟩
theorem next_item {Q : Option Value → Shared → Prop} (D : ZipApart Z U T c d l m) (z0 : IsZip s.heap Z U T .none) (u0 : IsPair s.heap U (.ref c) (.ref d)) (t0 : IsPair s.heap T p q)
    (c0 : It1 t s.heap c l n) (d0 : It1 u s.heap d m k) (l0 : Sq1 t s.heap l xs) (m0 : Sq1 u s.heap m ys) (ex : xs[n]? = some x) (ey : ys[k]? = some y)
    (fin : ∀ h', IsZip h' Z U T (rawInt s.heap.objs.size) → IsPair h' T x y → It1 t h' c l (n + 1) → It1 u h' d m (k + 1) → IsPair h' s.heap.objs.size x y → h'.objs.size = s.heap.objs.size + 1 →
      (∀ a o, a ≠ Z → a ≠ T → a ≠ c → a ≠ d → s.heap.get? a = some o → h'.get? a = some o) → Q (some (.ref s.heap.objs.size)) { s with heap := h' }) : wpAny (model prog w) A (pyNext (.ref Z)) Q E s := by
  have ty : s.TypeIs (.ref Z) "zip" := ⟨_, z0, rfl⟩
  unfold pyNext
  exact wpAny_bind (wpAny_attempt (wpAny_callSpecial?_slot (name := Str.ofString "__next__") ty F.slot_zip_next (wpAny_call_entry F.slot_zip_next ty F.entry_zip_next
    (zip_item D z0 u0 t0 c0 d0 l0 m0 ex ey fun h' a1 a2 a3 a4 a5 a6 a7 => wpAny_pure (fin h' a1 a2 a3 a4 a5 a6 a7)) (F.args_zip_next_1 _))))
theorem next_stop {Q : Option Value → Shared → Prop} (hh : A.handled = none) (D : ZipApart Z U T c d l m) (z0 : IsZip s.heap Z U T .none) (u0 : IsPair s.heap U (.ref c) (.ref d)) (t0 : IsPair s.heap T p q)
    (c0 : It1 t s.heap c l n) (d0 : It1 u s.heap d m k) (l0 : Sq1 t s.heap l xs) (m0 : Sq1 u s.heap m ys) (hend : xs[n]? = none ∨ ys[k]? = none)
    (fin : ∀ h', (∀ a o, a ≠ Z → a ≠ T → a ≠ c → a ≠ d → s.heap.get? a = some o → h'.get? a = some o) → Q none { s with heap := h' }) : wpAny (model prog w) A (pyNext (.ref Z)) Q E s := by
  have ty : s.TypeIs (.ref Z) "zip" := ⟨_, z0, rfl⟩
  unfold pyNext
  refine wpAny_bind (wpAny_attempt (wpAny_callSpecial?_slot (name := Str.ofString "__next__") ty F.slot_zip_next (wpAny_call_entry F.slot_zip_next ty F.entry_zip_next
    (zip_stop hh D z0 u0 t0 c0 d0 l0 m0 hend fun h' e hk ⟨o, e1, e2⟩ => ?_) (F.args_zip_next_1 _))))
  exact wpAny_bind (wpAny_isInstance (T := "StopIteration") (b := true) ⟨o, e1, e2⟩ isSubtype_stop (wpAny_pure (fin _ hk)))
end
/-- the iterator's name -/
def itN (t : Bool) : String := if t then "tuple_iterator" else "list_iterator"
abbrev g1 (t : Bool) (h : Heap) (l : Addr) : Heap := h.push { cls := .type (itN t), data := .fields #[.ref l, .int 0 0] }
abbrev g2 (t u : Bool) (h : Heap) (l m : Addr) : Heap := (g1 t h l).push { cls := .type (itN u), data := .fields #[.ref m, .int 0 0] }
abbrev g3 (t u : Bool) (h : Heap) (l m : Addr) : Heap := (g2 t u h l m).push { cls := .type "tuple", data := .seq #[.ref h.objs.size, .ref (g1 t h l).objs.size] }
abbrev g4 (t u : Bool) (h : Heap) (l m : Addr) : Heap := (g3 t u h l m).push { cls := .type "tuple", data := .seq #[.none, .none] }
abbrev g5 (t u : Bool) (h : Heap) (l m : Addr) : Heap := (g4 t u h l m).push { cls := .type "zip", data := .fields #[.none, .bool false, .bool false, .ref (g2 t u h l m).objs.size, .ref (g3 t u h l m).objs.size] }
theorem iter1 {prog : Program} {w : World} {A : Around} {E : Value → Shared → Prop} {s : Shared} {t : Bool} {l : Addr} {xs : Array Value} {Q : Value → Shared → Prop} (hl : Sq1 t s.heap l xs)
    (q : Q (.ref s.heap.objs.size) { s with heap := g1 t s.heap l }) : wpAny (model prog w) A (pyIter (.ref l)) Q E s := by
  cases t
  · exact wpAny_pyIter_list hl q
  · exact wpAny_pyIter_tuple hl q
theorem new_meets (t u : Bool) (l m : Addr) (xs ys : Array Value) :
    Meets (Builtin.«zip.__new__» ⟨[.type "zip", .ref l, .ref m], []⟩) (fun _ R s => Sq1 t s.heap l xs ∧ Sq1 u s.heap m ys ∧ R (.ok (.ret (.ref (g4 t u s.heap l m).objs.size))) { s with heap := g5 t u s.heap l m }) :=
  .of_wp fun prog w A R s h => by
    obtain ⟨hp, g, d, tk, os⟩ := s
    obtain ⟨hl, hm, h⟩ := h
    have sb := sub_zip
    have a1 : Sq1 t (Shared.heap ⟨hp, g, d, tk, os⟩) l xs := hl
    have a2 : Sq1 u (Shared.heap ⟨g1 t hp l, g, d, tk, os⟩) m ys := Sq1.more hm _
    wp_walk using iter1 a1, iter1 a2
    exact ⟨_, rfl, h⟩
theorem call_new {prog : Program} {w : World} {A : Around} {E : Value → Shared → Prop} {s : Shared} {t u : Bool} {l m : Addr} {xs ys : Array Value} {Q : Value → Shared → Prop} (hl : Sq1 t s.heap l xs) (hm : Sq1 u s.heap m ys)
    (q : ∀ h', IsZip h' (s.heap.objs.size + 4) (s.heap.objs.size + 2) (s.heap.objs.size + 3) .none → IsPair h' (s.heap.objs.size + 2) (.ref s.heap.objs.size) (.ref (s.heap.objs.size + 1)) → IsPair h' (s.heap.objs.size + 3) .none .none →
      It1 t h' s.heap.objs.size l 0 → It1 u h' (s.heap.objs.size + 1) m 0 → h'.objs.size = s.heap.objs.size + 5 → (∀ c o, s.heap.get? c = some o → h'.get? c = some o) → Q (.ref (s.heap.objs.size + 4)) { s with heap := h' }) :
    wpAny (model prog w) A (call (.type "zip") [.ref l, .ref m]) Q E s := by
  refine callType_new F.called_zip (by decide) (F.typeCall_zip_2 _ _) (F.newCall_zip_2 _ _) (fun obj => F.args_object_init_3 obj _ _) F.entry_zip_new (new_meets t u l m xs ys) ⟨hl, hm, ?_⟩
  have s1 : (g1 t s.heap l).objs.size = s.heap.objs.size + 1 := Heap.size_push ..
  have s2 : (g2 t u s.heap l m).objs.size = s.heap.objs.size + 2 := by rw [Heap.size_push, s1]
  have s3 : (g3 t u s.heap l m).objs.size = s.heap.objs.size + 3 := by rw [Heap.size_push, s2]
  have s4 : (g4 t u s.heap l m).objs.size = s.heap.objs.size + 4 := by rw [Heap.size_push, s3]
  have s5 : (g5 t u s.heap l m).objs.size = s.heap.objs.size + 5 := by rw [Heap.size_push, s4]
  have e5 : (g5 t u s.heap l m).get? (g4 t u s.heap l m).objs.size = some _ := Heap.get?_push_size _ rfl
  have e4 : (g5 t u s.heap l m).get? (g3 t u s.heap l m).objs.size = some _ := Heap.get?_push_of_some _ (Heap.get?_push_size _ rfl)
  have e3 : (g5 t u s.heap l m).get? (g2 t u s.heap l m).objs.size = some _ := Heap.get?_push_of_some _ (Heap.get?_push_of_some _ (Heap.get?_push_size _ rfl))
  have e2 : (g5 t u s.heap l m).get? (g1 t s.heap l).objs.size = some _ := Heap.get?_push_of_some _ (Heap.get?_push_of_some _ (Heap.get?_push_of_some _ (Heap.get?_push_size _ rfl)))
  have e1 : (g5 t u s.heap l m).get? s.heap.objs.size = some _ := Heap.get?_push_of_some _ (Heap.get?_push_of_some _ (Heap.get?_push_of_some _ (Heap.get?_push_of_some _ (Heap.get?_push_size _ rfl))))
  have i1 : It1 t (g5 t u s.heap l m) s.heap.objs.size l 0 := by cases t <;> exact ⟨_, e1, rfl, rfl⟩
  have i2 : It1 u (g5 t u s.heap l m) (s.heap.objs.size + 1) m 0 := by rw [← s1]; cases u <;> exact ⟨_, e2, rfl, rfl⟩
  show _ ∧ _
  rw [s2, s3, s4] at e5
  rw [s1, s2] at e3
  rw [s3] at e4
  rw [s4]
  exact ⟨⟨_, e5, rfl⟩, q _ e5 e3 e4 i1 i2 s5 fun c o x => Heap.get?_push_of_some _ (Heap.get?_push_of_some _ (Heap.get?_push_of_some _ (Heap.get?_push_of_some _ (Heap.get?_push_of_some _ x))))⟩
end ZM
namespace DL
open PySem PySem.Spec L2
open PyProof.Rows hiding St
/-- a sequence of the told kind -/
def SqK (t : Bool) (K : PySem.W.Frag) (H : Hp) (a : Addr) (xs : List V) : Prop := match t with
  | true => SqT K H a xs | false => SqL K H a xs
theorem SqK.sub {t : Bool} {K : PySem.W.Frag} {G G' : Hp} {a : Addr} {vs : List V} (s : Sub G G') (h : SqK t K G a vs) : SqK t K G' a vs := by
  cases t
  · exact SqL.sub s h
  · exact SqT.sub s h
section
variable {X : Cx} {pins : List (Addr × Obj)} {σ : L2.St} {H : Hp} {s : Shared} {t : Bool} {a : Addr} {xs ys : List V}
theorem sqk_in (I : L2.Inv X pins σ H s) (h : SqK t X.K H a xs) : ∃ its : List Value, Vals xs its ∧ ZM.Sq1 t s.heap a its.toArray ∧ a < s.heap.objs.size := by
  cases t
  · obtain ⟨its, r, p, _⟩ := I.list h
    exact ⟨its, r, p.isList, p.lt⟩
  · obtain ⟨its, r, p, _⟩ := I.tuple h
    obtain ⟨o, ho, _⟩ := id p
    exact ⟨its, r, p, Heap.lt_size ho⟩
theorem sqk_inj (I : L2.Inv X pins σ H s) (h : SqK t X.K H a xs) (h' : SqK t X.K H a ys) : xs = ys := by
  cases t
  · exact I.list_inj h h'
  · exact I.tuple_inj h h'
end
/-- what zip of the two gives, turn by turn -/
def ItK (t u : Bool) (K : PySem.W.Frag) (a b : Addr) : It :=
  ⟨fun i H => ∃ (xs ys : List V) (x y : V), SqK t K H a xs ∧ SqK u K H b ys ∧ xs[i]? = some x ∧ ys[i]? = some y,
    fun i H v H' => ∃ T x y, v = .ref T ∧ H T = none ∧ H' = upd H T (.tup [x, y]) ∧ (∀ xs, SqK t K H a xs → xs[i]? = some x) ∧ ∀ ys, SqK u K H b ys → ys[i]? = some y,
    fun i H => ∃ xs ys : List V, SqK t K H a xs ∧ SqK u K H b ys ∧ (xs.length ≤ i ∨ ys.length ≤ i)⟩
theorem turnK {P : Program} {w : World} {K : PySem.W.Frag} {elts : List Expr} {kk : Nat} {tpos : Pos} {a b Z U T c d : Addr} {t u : Bool} (D : ZipApart Z U T c d a b) :
    Turn P w K (.Tuple elts kk tpos) (ItK t u K a b) [Z, U, T, c, d] Z (fun i h => IsZip h Z U T .none ∧ IsPair h U (.ref c) (.ref d) ∧ (∃ x y, IsPair h T x y) ∧ ZM.It1 t h c a i ∧ ZM.It1 u h d b i) where
  mem := by simp
  obj := fun i h ⟨z0, u0, ⟨x, y, t0⟩, c0, d0⟩ r hr => by
    have e' : r = Z ∨ r = U ∨ r = T ∨ r = c ∨ r = d := by simpa using hr
    rcases e' with rfl | rfl | rfl | rfl | rfl
    · exact ⟨_, z0, fun v q => nomatch q⟩
    · exact ⟨_, u0, fun v q => nomatch q⟩
    · exact ⟨_, t0, fun v q => nomatch q⟩
    · exact c0.ob
    · exact d0.ob
  keep := fun i h h' ⟨z0, u0, ⟨x, y, t0⟩, c0, d0⟩ k =>
    ⟨k Z (by simp) _ z0, k U (by simp) _ u0, ⟨x, y, k T (by simp) _ t0⟩, c0.stay fun o q => k c (by simp) o q, d0.stay fun o q => k d (by simp) o q⟩
  item := by
    intro X hP hw hK hc i pins s σ H E I hf ⟨z0, u0, ⟨x0, y0, t0⟩, c0, d0⟩ ⟨xs, ys, x, y, qx, qy, ex, ey⟩
    subst hP hw hK
    obtain ⟨is1, r1, p1, _⟩ := sqk_in I qx
    obtain ⟨is2, r2, p2, _⟩ := sqk_in I qy
    obtain ⟨v1, hv1, rv1⟩ := r1.get ex
    obtain ⟨v2, hv2, rv2⟩ := r2.get ey
    have zl : Z < s.heap.objs.size := Heap.lt_size z0
    refine ZM.next_item D z0 u0 t0 c0 d0 p1 p2 (x := v1) (y := v2) (by simpa using hv1) (by simpa using hv2) fun h1 z1 t1 c1 d1 n1 _ kp => ⟨_, rfl, wpAny_letOwnedTupleGo_zip (s := { s with heap := h1 }) z1 fun h2 z2 sb => ?_⟩
    have n2 : h2.get? s.heap.objs.size = some { cls := .type "tuple", data := .seq #[v1, v2] } := (sb.2 _ (Nat.ne_of_gt zl)).trans n1
    have ob : ObjOk X.prog X.w (upd H s.heap.objs.size (.tup [x, y])) h2 s.heap.objs.size (.tup [x, y]) := ⟨by show 2 ≤ sizeLine; decide, [v1, v2], .cons rv1 (.cons rv2 .nil), ⟨_, n2, rfl, _, rfl⟩⟩
    have I1 : L2.Inv X pins σ (upd H s.heap.objs.size (.tup [x, y])) { s with heap := h2 } :=
      I.turnedNew (t' := s.toks) (ch := [Z, U, T, c, d]) (fun r o nr q => (sb.2 r (fun e => nr (by simp [e]))).trans (kp r o (fun e => nr (by simp [e])) (fun e => nr (by simp [e])) (fun e => nr (by simp [e])) (fun e => nr (by simp [e])) q)) hf (Nat.le_refl _) ob
    refine ⟨.ref s.heap.objs.size, _, I1, rfl, ⟨_, x, y, rfl, I.hok.fresh (Nat.le_refl _), rfl, fun l hl => by rw [sqk_inj I hl qx]; exact ex, fun l hl => by rw [sqk_inj I hl qy]; exact ey⟩, ⟨z2, ?_, ⟨v1, v2, ?_⟩, ?_, ?_⟩, fun r hr => ?_⟩
    · exact (sb.2 _ D.TIz).trans (kp _ _ D.TIz D.TITO D.TIi1 D.TIi2 u0)
    · exact (sb.2 _ D.TOz).trans t1
    · exact c1.stay fun o q => (sb.2 _ D.i1z).trans q
    · exact d1.stay fun o q => (sb.2 _ D.i2z).trans q
    · have lt : r < s.heap.objs.size := by
        have e' : r = Z ∨ r = U ∨ r = T ∨ r = c ∨ r = d := by simpa using hr
        rcases e' with rfl | rfl | rfl | rfl | rfl
        · exact zl
        · exact Heap.lt_size u0
        · exact Heap.lt_size t0
        · obtain ⟨_, e, _⟩ := c0.ob; exact Heap.lt_size e
        · obtain ⟨_, e, _⟩ := d0.ob; exact Heap.lt_size e
      rw [upd_ne (Nat.ne_of_lt lt)]
      exact (hf r hr).1
  done := by
    intro X hP hw hK hc i pins s σ H E I hf ⟨z0, u0, ⟨x0, y0, t0⟩, c0, d0⟩ ⟨xs, ys, qx, qy, hend⟩
    subst hP hw hK
    obtain ⟨is1, r1, p1, _⟩ := sqk_in I qx
    obtain ⟨is2, r2, p2, _⟩ := sqk_in I qy
    have l1 := r1.length
    have l2 := r2.length
    have he : is1.toArray[i]? = none ∨ is2.toArray[i]? = none := by
      rcases hend with q | q
      · exact .inl (by simp; omega)
      · exact .inr (by simp; omega)
    exact ZM.next_stop (I.ok.hd hc) D z0 u0 t0 c0 d0 p1 p2 he fun h' kp => ⟨rfl, I.turnedL (t' := s.toks) (ch := [Z, U, T, c, d]) (fun r o nr q =>
      kp r o (fun e => nr (by simp [e])) (fun e => nr (by simp [e])) (fun e => nr (by simp [e])) (fun e => nr (by simp [e])) q) hf⟩
  self := fun A i s Q E st h => wpAny_pyIter_zip st.1 h
def iZipK (K : PySem.W.Frag) (ta : TA) : TI := fun σ H R => ta σ H fun vs H1 => ∃ t u a b xs ys, vs = [.ref a, .ref b] ∧ SqK t K H1 a xs ∧ SqK u K H1 b ys ∧ R (ItK t u K a b) H1
theorem pi_zipK {X : Cx} {e e2 : Expr} {ta : TA} {p pos tpos : Pos} {elts : List Expr} {kk : Nat} (hg : Gl X "zip") (hm : X.mg "zip" = none) (ha : PA X [e, e2] ta)
    (hs : starEach [e, e2] X.env = (false, eval e X.env) :: starEach [e2] X.env) (hpl : (backTo pos (starEach [e2] X.env)).any (·.1) = false) :
    PI X (.Tuple elts kk tpos) (.Call (.Name "zip" p) [e, e2] [] pos) (iZipK X.K ta) := by
  refine ⟨fun pins s σ H R I h => Call_ (ld_blt I hg hm PyProof.Rows.boot_zip (PyProof.Rows.callWith_type1 (thn (ha.run pos pins s σ H _ I h) fun us s1 ⟨vs, H1, I1, r1, t, u, a, b, xs, ys, ex, qx, qy, q⟩ => ?_) hs hpl))⟩
  subst ex
  obtain ⟨v1, v2, rfl, e1, e2⟩ := vals2 r1
  obtain rfl : v1 = Value.ref a := e1
  obtain rfl : v2 = Value.ref b := e2
  obtain ⟨is1, _, p1, la⟩ := sqk_in I1 qx
  obtain ⟨is2, _, p2, lb⟩ := sqk_in I1 qy
  refine ZM.call_new p1 p2 fun h' z0 u0 t0 c0 d0 _ kp => wpAny_pyIter_zip z0 ⟨s1.heap.objs.size + 4, [s1.heap.objs.size + 4, s1.heap.objs.size + 2, s1.heap.objs.size + 3, s1.heap.objs.size, s1.heap.objs.size + 1], _, _, H1, rfl, I1.kept (t' := s1.toks) kp,
    turnK (PySem.W.ktu_apart s1.heap.objs.size a b la lb), ⟨z0, u0, ⟨_, _, t0⟩, c0, d0⟩, fun r hr => ?_, q⟩
  have le : s1.heap.objs.size ≤ r := by
    have e' : r = s1.heap.objs.size + 4 ∨ r = s1.heap.objs.size + 2 ∨ r = s1.heap.objs.size + 3 ∨ r = s1.heap.objs.size ∨ r = s1.heap.objs.size + 1 := by simpa using hr
    rcases e' with rfl | rfl | rfl | rfl | rfl <;> first | exact Nat.le_refl _ | exact Nat.le_add_right _ _
  exact I1.fpOk le (I1.hok.fresh le)
end DL
end

section
set_option Elab.async false
set_option linter.all false
set_option autoImplicit false
set_option maxRecDepth 100000
set_option maxHeartbeats 1000000
namespace DL
open PySem PySem.Spec L2
section
variable {X : Cx} {B : Bs} {x : Str} {p pos : Pos} {e a b : Expr} {es : List Expr} {fs : S → R (List D)} {fa fb : S → R D}
/-- a built-in's call -/
theorem s_biB {id : String} (f : Bi) (hc : ∀ B, CallR X (.builtin id) (rB X.K B f)) (hg : Gl X x) (hm : X.mg x = none) (hv : bootBuiltins x = some (.builtin id)) (hn : x ≠ "__name__") (hd : (x == ("__debug__" : Str)) = false) (hst : (e :: es).all (fun e => !starred e) = true)
    (hs : ∀ B, PA X (e :: es) (tA X.K B fs)) (B : Bs) : PE X (.Call (.Name x p) (e :: es) [] pos) (tD X.K B fun s => (fs s).bind fun ds s => opt (biD f ds) s) := by
  simp only [List.all_cons, Bool.and_eq_true, Bool.not_eq_true'] at hst
  refine PE.imp (pe_callB (hc B) hg hm hv (hs B) hn hd (star_ns hst.1) (starEach_any hst.2)) fun σ H Q ⟨G, io, s, R, h⟩ => ?_
  refine tA.run R h fun ds s1 G1 io1 vs H1 e1 R1 sg1 p1 dv1 h1 => ?_
  exact ⟨G1, io1, s1, σ, ds, R1, dv1, h1⟩
theorem s_biT {T : String} (f : Bi) (hc : ∀ B, CallR X (.type T) (rB X.K B f)) (hg : Gl X x) (hm : X.mg x = none) (hv : bootBuiltins x = some (.type T)) (hn : x ≠ "__name__") (hd : (x == ("__debug__" : Str)) = false) (hst : (e :: es).all (fun e => !starred e) = true)
    (hs : ∀ B, PA X (e :: es) (tA X.K B fs)) (B : Bs) : PE X (.Call (.Name x p) (e :: es) [] pos) (tD X.K B fun s => (fs s).bind fun ds s => opt (biD f ds) s) := by
  simp only [List.all_cons, Bool.and_eq_true, Bool.not_eq_true'] at hst
  refine PE.imp (pe_callTy (hc B) hg hm hv (hs B) hn hd (star_ns hst.1) (starEach_any hst.2)) fun σ H Q ⟨G, io, s, R, h⟩ => ?_
  refine tA.run R h fun ds s1 G1 io1 vs H1 e1 R1 sg1 p1 dv1 h1 => ?_
  exact ⟨G1, io1, s1, σ, ds, R1, dv1, h1⟩
theorem s_biG {id : String} (f : Bi) (hc : ∀ B, CallR X (.builtin id) (rB X.K B f)) (hg : Gl X x) (hm : X.mg x = some (.builtin id)) (hd : (x == ("__debug__" : Str)) = false) (hst : (e :: es).all (fun e => !starred e) = true)
    (hs : ∀ B, PA X (e :: es) (tA X.K B fs)) (B : Bs) : PE X (.Call (.Name x p) (e :: es) [] pos) (tD X.K B fun s => (fs s).bind fun ds s => opt (biD f ds) s) := by
  simp only [List.all_cons, Bool.and_eq_true, Bool.not_eq_true'] at hst
  refine PE.imp (pe_callBfun (hc B) hg hm (hs B) hd (star_ns hst.1) (starEach_any hst.2)) fun σ H Q ⟨G, io, s, R, h⟩ => ?_
  refine tA.run R h fun ds s1 G1 io1 vs H1 e1 R1 sg1 p1 dv1 h1 => ?_
  exact ⟨G1, io1, s1, σ, ds, R1, dv1, h1⟩
/-- len of a slot -/
theorem s_lenV {i : Nat} {y : Str} {pos' : Pos} (hN : X.N[i]? = some y) (hv : Vis X.env.scope y) (hyd : (y == ("__debug__" : Str)) = false) (hcd : (y == ("__classdict__" : Str)) = false)
    (hg : Gl X "len") (hm : X.mg "len" = none) (B : Bs) : PE X (.Call (.Name "len" p) [.Name y pos'] [] pos)
      (tD X.K B fun s => match peek i s with | some x => (opt (rderef x s) s).bind fun x s => opt (biD .len [x]) s | none => .stuck) := by
  refine PE.imp (pe_callB call_len hg hm PySem.boot_len (pa_cons (pe_var hN hv hyd hcd) pa_nil)) fun σ H Q ⟨G, io, s, R, h⟩ => ?_
  dsimp only at h
  split at h
  · rename_i d q
    cases q2 : rderef d s with
    | none => rw [q2] at h; exact h.elim
    | some d' =>
      rw [q2] at h
      obtain ⟨v, e1, rd⟩ := rds_peek R q q2
      obtain ⟨n, hl, hq⟩ := lenv_of R rd h
      exact ⟨v, e1, v, n, rfl, hl, hq⟩
  · exact h.elim
/-! isinstance -/
theorem isTy_v {K : PySem.W.Frag} {H : Hp} {io : List Addr} {v : V} {d : D} {t : String} {k : Bool} (ht : t ∈ ["int", "bool", "str", "tuple", "list", "dict"]) (h : DV K H io v d) (hr : ∀ j, d = .ref j → ∃ a vs, v = .ref a ∧ H a = some (.lst vs)) (e : isTy t d = some k) :
    ∃ T, TyX K H v T ∧ PySem.W.kitOne K T (.type t) = some k := by
  have tup : ∀ {a vs}, SqT K H a vs → TyX K H (.ref a) (.type "tuple") := fun {a vs} q => by
    rcases q with (q | ⟨o, q⟩) | ⟨o, its, n, q1, q2, _⟩
    · exact .base (.tup q)
    · exact .fTuple q
    · exact .kTuple q1 q2
  have lst : ∀ {a vs}, SqL K H a vs → TyX K H (.ref a) (.type "list") := fun {a vs} q => by
    rcases q with (q | ⟨o, q⟩) | ⟨o, its, n, q1, q2, _⟩
    · exact .base (.lst q)
    · exact .base (.frz q)
    · exact .kList q1 q2
  simp only [List.mem_cons, List.not_mem_nil, or_false] at ht
  cases h with
  | non => cases e; rcases ht with rfl | rfl | rfl | rfl | rfl | rfl <;> exact ⟨_, .base .non, kit_ty (by decide +kernel)⟩
  | bl b => cases e; rcases ht with rfl | rfl | rfl | rfl | rfl | rfl <;> exact ⟨_, .base (.bl b), kit_ty (by decide +kernel)⟩
  | int i => cases e; rcases ht with rfl | rfl | rfl | rfl | rfl | rfl <;> exact ⟨_, .base (.int i), kit_ty (by decide +kernel)⟩
  | str z => cases e; rcases ht with rfl | rfl | rfl | rfl | rfl | rfl <;> exact ⟨_, .base (.str z), kit_ty (by decide +kernel)⟩
  | tup a b => cases e; rcases ht with rfl | rfl | rfl | rfl | rfl | rfl <;> exact ⟨_, tup a, kit_ty (by decide +kernel)⟩
  | lst a b => cases e; rcases ht with rfl | rfl | rfl | rfl | rfl | rfl <;> exact ⟨_, lst (SqL.of a), kit_ty (by decide +kernel)⟩
  | klst a b => cases e; rcases ht with rfl | rfl | rfl | rfl | rfl | rfl <;> exact ⟨_, lst a, kit_ty (by decide +kernel)⟩
  | emp a => cases e; rcases ht with rfl | rfl | rfl | rfl | rfl | rfl <;> exact ⟨_, .base (.dK a), kit_ty (by decide +kernel)⟩
  | ref a =>
    obtain ⟨a', vs, e1, e2⟩ := hr _ rfl
    cases e1
    cases e; rcases ht with rfl | rfl | rfl | rfl | rfl | rfl <;> exact ⟨_, lst (SqL.of e2), kit_ty (by decide +kernel)⟩
theorem s_isi {t : String} {tn : Str} {pt : Pos} (ht : t ∈ ["int", "bool", "str", "tuple", "list", "dict"]) (ha : ∀ B, PE X a (tD X.K B fa)) (hst : starred a = false) (hg : Gl X "isinstance") (hm : X.mg "isinstance" = none)
    (hg2 : Gl X tn) (hm2 : X.mg tn = none) (hv2 : bootBuiltins tn = some (.type t)) (hn2 : tn ≠ "__name__") (hd2 : (tn == ("__debug__" : Str)) = false) (B : Bs) :
    PE X (.Call (.Name "isinstance" p) [a, .Name tn pt] [] pos) (tD X.K B fun s => ((fa s).bind fun d s => R.ok [d] s).bind fun ds s => opt (biD (.isinst t) ds) s) := by
  refine PE.imp (pe_callB call_isi hg hm PyProof.Rows.boot_isinstance (pa_cons (ha B) (pa_cons (pe_bltn (v := .ty t) hg2 hm2 hv2 rfl hn2 hd2) pa_nil) (star_ns hst)) (by decide) (by decide) (star_ns hst) (starEach_any (by rfl))) fun σ H Q ⟨G, io, s, R, h⟩ => ?_
  have h' : post X.K B G io σ ((fa s).bind fun d s => opt (biD (.isinst t) [d]) s) Q := by
    cases q : fa s <;> (simp only [q, bind_ok, bind_exc, bind_stuck] at h ⊢; exact h)
  refine tD.run R h' fun d s1 G1 io1 v H1 e1 R1 sg1 p1 dv1 h1 => ?_
  obtain ⟨r, e2, h1⟩ := opt_post h1
  obtain ⟨k, e3, rfl⟩ := Option.map_eq_some_iff.mp (show (isTy t d).map .bl = some r from e2)
  obtain ⟨T, ty, hk⟩ := isTy_v ht (dv1.inH R1) (fun j ej => by
    subst ej
    cases dv1 with
    | ref q =>
      obtain ⟨hj, _⟩ := List.getElem?_eq_some_iff.mp q
      obtain ⟨a', vs, e5, e6, _⟩ := R1.cell j (s1.m[j]'(R1.ml ▸ hj)) (by simp)
      rw [q] at e5; cases e5
      exact ⟨_, vs, rfl, e6⟩) e3
  exact ⟨v, .ty t, T, .type t, k, rfl, .ty t, ty, hk, post.done h1 R1 (.bl _)⟩
/-! sorted of pairs of ints -/
theorem pairs_dv {K : PySem.W.Frag} {B : Bs} {G : Hp} {io : List Addr} {s : S} {σ : L2.St} {H : Hp} (R : Rep K B G io s σ H) : ∀ {ds : List D} {ps : List (Int × Int)} {vs : List V}, pairsOf ds = some ps → DVs K G io vs ds → True := fun _ _ => trivial
/-! upper -/
theorem s_upper {nm : Pos} (ha : ∀ B, PE X a (tD X.K B fa)) (hsup : attributeBase a "upper" X.env (eval a X.env) = eval a X.env) (hl : (nm.endLine == pos.line) = true) (B : Bs) :
    PE X (.Call (.Attribute a "upper" nm) [] [] pos) (tD X.K B fun s => (fa s).bind fun x s => (R.ok [] s).bind fun ys s => opt (mtD .upper x ys) s) := by
  refine PE.imp (pe_m0 PySem.F.slot_str_upper PySem.F.type_str_upper mt_upper (ha B) hsup hl) fun σ H Q ⟨G, io, s, R, h⟩ => ?_
  refine tD.run R h fun d s1 G1 io1 v H1 e1 R1 sg1 p1 dv1 h1 => ?_
  cases dv1 <;> first | exact h1.elim | skip
  rename_i z
  simp only [bind_ok, mtD] at h1
  split at h1
  · rename_i hz
    exact ⟨⟨z, rfl⟩, z, rfl, rfl, hz, post.done h1 R1 (.str _)⟩
  · exact h1.elim
end

/-! ### tests -/
section
variable {X : Cx} {a b e : Expr} {pos : Pos} {fa fb : S → R D} {ta tb : S → R Bool}
theorem tD.runT {K : PySem.W.Frag} {B : Bs} {G : Hp} {io : List Addr} {s : S} {σ : L2.St} {H : Hp} {Q : Bool → Hp → Prop} {f : S → R D} {g : D → S → R Bool} (R : Rep K B G io s σ H) (h : postT K B G io σ ((f s).bind g) Q) {Q1 : VK}
    (k : ∀ d s1 G1 io1 v H1, f s = .ok d s1 → Rep K B G1 io1 s1 σ H1 → Sub G G1 → io <+: io1 → DV K G1 io1 v d → postT K B G1 io1 σ (g d s1) Q → Q1 v H1) : tD K B f σ H Q1 := by
  refine ⟨G, io, s, R, ?_⟩
  cases e : f s with
  | ok d s1 =>
    rw [e] at h
    exact fun G1 io1 v H1 R1 sg p dv => k d s1 G1 io1 v H1 e R1 sg p dv (postT.up h sg p)
  | exc => rw [e] at h; exact h.elim
  | stuck => rw [e] at h; exact h.elim
theorem tT.runT {K : PySem.W.Frag} {B : Bs} {G : Hp} {io : List Addr} {s : S} {σ : L2.St} {H : Hp} {Q : Bool → Hp → Prop} {f : S → R Bool} {g : Bool → S → R Bool} (R : Rep K B G io s σ H) (h : postT K B G io σ ((f s).bind g) Q) {Q1 : Bool → Hp → Prop}
    (k : ∀ d s1 G1 io1 H1, f s = .ok d s1 → Rep K B G1 io1 s1 σ H1 → Sub G G1 → io <+: io1 → postT K B G1 io1 σ (g d s1) Q → Q1 d H1) : tT K B f σ H Q1 := by
  refine ⟨G, io, s, R, ?_⟩
  cases e : f s with
  | ok d s1 =>
    rw [e] at h
    exact fun G1 io1 H1 R1 sg p => k d s1 G1 io1 H1 e R1 sg p (postT.up h sg p)
  | exc => rw [e] at h; exact h.elim
  | stuck => rw [e] at h; exact h.elim
theorem postT.done {K : PySem.W.Frag} {B : Bs} {G : Hp} {io : List Addr} {s : S} {σ : L2.St} {H : Hp} {Q : Bool → Hp → Prop} {k : Bool} (h : postT K B G io σ (.ok k s) Q) (R : Rep K B G io s σ H) : Q k H := h G io H R Sub.rfl' (List.prefix_refl _)
/-- what is looked at as a value -/
def plainT : Expr → Bool
  | .UnaryOp .Not _ _ => false | .BoolOp .. => false | .IfExp .. => false | .Compare .. => false | _ => true
theorem plain_isTrue {a : Expr} {env : Env} (h : plainT a = true) (whole : Sem Value) : PySem.isTrue a env whole = (do let v ← whole; standAt a.pos; holding [v] (truthy v)) := by
  cases a <;> first | rfl | cases h | skip
  rename_i op _ _
  cases op <;> first | rfl | cases h
theorem t_val (ha : ∀ B, PE X a (tD X.K B fa)) (hp : plainT a = true) (B : Bs) : PT X a (tT X.K B fun s => (fa s).bind fun x s => opt (truth x) s) := by
  refine PT.imp (pt_truth (ha B) (plain_isTrue hp)) fun σ H Q ⟨G, io, s, R, h⟩ => ?_
  refine tD.runT R h fun d s1 G1 io1 v H1 e1 R1 sg1 p1 dv1 h1 => ?_
  cases q : truth d with
  | none => rw [q] at h1; exact h1.elim
  | some k =>
    rw [q] at h1
    exact ⟨k, truth_v (dv1.inH R1) q, postT.done h1 R1⟩
theorem t_var {i : Nat} {x : Str} (hN : X.N[i]? = some x) (hv : Vis X.env.scope x) (hd : (x == ("__debug__" : Str)) = false) (hcd : (x == ("__classdict__" : Str)) = false) (B : Bs) :
    PT X (.Name x pos) (tT X.K B fun s => match peek i s with | some x => opt (truth x) s | none => .stuck) := by
  refine PT.imp (pt_truth (pe_var hN hv hd hcd) (plain_isTrue rfl)) fun σ H Q ⟨G, io, s, R, h⟩ => ?_
  dsimp only at h
  split at h
  · rename_i d q
    obtain ⟨v, e1, dv⟩ := peek_v R q
    cases q2 : truth d with
    | none => rw [q2] at h; exact h.elim
    | some k =>
      rw [q2] at h
      exact ⟨v, e1, k, truth_v dv q2, postT.done h R⟩
  · exact h.elim
theorem t_not (ha : ∀ B, PT X a (tT X.K B ta)) (B : Bs) : PT X (.UnaryOp .Not a pos) (tT X.K B fun s => (ta s).bind fun k s => .ok (!k) s) := by
  refine PT.imp (pt_not (ha B)) fun σ H Q ⟨G, io, s, R, h⟩ => ?_
  exact tT.runT R h fun d s1 G1 io1 H1 e1 R1 sg1 p1 h1 => postT.done h1 R1
theorem t_and1 (ha : ∀ B, PT X a (tT X.K B ta)) (B : Bs) : PW X (.BoolOp .And [a] pos) (tT X.K B ta) := pw_and1 (ha B)
theorem t_or1 (ha : ∀ B, PT X a (tT X.K B ta)) (B : Bs) : PW X (.BoolOp .Or [a] pos) (tT X.K B ta) := pw_or1 (ha B)
theorem t_and {rest : List Expr} (ha : ∀ B, PT X a (tT X.K B ta)) (hb : ∀ B, PW X (.BoolOp .And (b :: rest) pos) (tT X.K B tb)) (B : Bs) :
    PW X (.BoolOp .And (a :: b :: rest) pos) (tT X.K B fun s => (ta s).bind fun k s => if k then tb s else .ok false s) := by
  refine PW.imp (pw_and (ha B) (hb B)) fun σ H Q ⟨G, io, s, R, h⟩ => ?_
  refine tT.runT R h fun d s1 G1 io1 H1 e1 R1 sg1 p1 h1 => ?_
  cases d with
  | true => exact ⟨G1, io1, s1, R1, h1⟩
  | false => exact postT.done h1 R1
theorem t_or {rest : List Expr} (ha : ∀ B, PT X a (tT X.K B ta)) (hb : ∀ B, PW X (.BoolOp .Or (b :: rest) pos) (tT X.K B tb)) (B : Bs) :
    PW X (.BoolOp .Or (a :: b :: rest) pos) (tT X.K B fun s => (ta s).bind fun k s => if k then .ok true s else tb s) := by
  refine PW.imp (pw_or (ha B) (hb B)) fun σ H Q ⟨G, io, s, R, h⟩ => ?_
  refine tT.runT R h fun d s1 G1 io1 H1 e1 R1 sg1 p1 h1 => ?_
  cases d with
  | true => exact postT.done h1 R1
  | false => exact ⟨G1, io1, s1, R1, h1⟩
theorem truth_bl (k : Bool) (s : S) : opt (truth (.bl k)) s = .ok k s := rfl
theorem t_cmp (hu : X.A.units + 64 < cLine) (c : Cm) (ha : ∀ B, PE X a (tD X.K B fa)) (hb : ∀ B, PE X b (tD X.K B fb)) (hs : ∀ es k p, b ≠ .Set es k p) (B : Bs) :
    PT X (.Compare a [cmA c] [b] pos) (tT X.K B fun s => ((fa s).bind fun x s => (fb s).bind fun y s => opt ((cmD c x y).map .bl) s).bind fun x s => opt (truth x) s) := by
  refine PT.imp (pt_cmpR (opc hu c) (ha B) (hb B) (cm_nomark c hs)) fun σ H Q ⟨G, io, s, R, h⟩ => ?_
  have h' : postT X.K B G io σ ((fa s).bind fun x s => (fb s).bind fun y s => opt (cmD c x y) s) Q := by
    cases q : fa s with
    | ok x s1 =>
      simp only [q, bind_ok] at h ⊢
      cases q2 : fb s1 with
      | ok y s2 =>
        simp only [q2, bind_ok] at h ⊢
        cases q3 : cmD c x y with
        | none => rw [q3] at h; exact h.elim
        | some k => rw [q3] at h; exact h
      | exc => simp only [q2, bind_exc] at h; exact h.elim
      | stuck => simp only [q2, bind_stuck] at h; exact h.elim
    | exc => simp only [q, bind_exc] at h; exact h.elim
    | stuck => simp only [q, bind_stuck] at h; exact h.elim
  refine tD.runT R h' fun d s1 G1 io1 v H1 e1 R1 sg1 p1 dv1 h1 => ?_
  refine tD.runT R1 h1 fun d2 s2 G2 io2 v2 H2 e2 R2 sg2 p2 dv2 h2 => ?_
  cases q : cmD c d d2 with
  | none => rw [q] at h2; exact h2.elim
  | some k =>
    rw [q] at h2
    exact ⟨io2, d, d2, k, (dv1.up sg2 p2).inH R2, dv2.inH R2, q, k, rfl, postT.done h2 R2⟩
theorem tVar.runT {K : PySem.W.Frag} {B : Bs} {G : Hp} {io : List Addr} {s : S} {σ : L2.St} {H : Hp} {Q : Bool → Hp → Prop} {i : Nat} {f : S → R D} {g : D → D → S → R Bool} {T : V → V → Hp → Prop} (R : Rep K B G io s σ H) (h : postT K B G io σ (peekR i f g s) Q)
    (k : ∀ w d s1 G1 io1 x v H1, Rep K B G1 io1 s1 σ H1 → Sub G G1 → io <+: io1 → DV K G1 io1 v d → peek i s1 = some x → σ[i]? = some (some w) → postT K B G1 io1 σ (g x d s1) Q → T w v H1) :
    tVar i σ H fun w H' => tD K B f σ H' fun v H1 => T w v H1 := by
  unfold peekR at h
  split at h
  · rename_i d0 q
    obtain ⟨w, e1, _⟩ := peek_v R q
    refine ⟨w, e1, ?_⟩
    refine tD.runT R h fun d s1 G1 io1 v H1 e2 R1 sg1 p1 dv1 h1 => ?_
    split at h1
    · rename_i x q1
      exact k w d s1 G1 io1 x v H1 R1 sg1 p1 dv1 q1 e1 h1
    · exact h1.elim
  · exact h.elim
theorem t_cmpV (hu : X.A.units + 64 < cLine) (c : Cm) {i : Nat} {x : Str} {pos' : Pos} (hN : X.N[i]? = some x) (hv : Vis X.env.scope x) (hd : (x == ("__debug__" : Str)) = false) (hcd : (x == ("__classdict__" : Str)) = false)
    (hb : ∀ B, PE X b (tD X.K B fb)) (hs : ∀ es k p, b ≠ .Set es k p) (B : Bs) :
    PT X (.Compare (.Name x pos') [cmA c] [b] pos) (tT X.K B fun s => (peekR i fb (fun x y s => opt ((cmD c x y).map .bl) s) s).bind fun x s => opt (truth x) s) := by
  refine PT.imp (pt_cmpR (opc hu c) (pe_var hN hv hd hcd) (hb B) (cm_nomark c hs)) fun σ H Q ⟨G, io, s, R, h⟩ => ?_
  have h' : postT X.K B G io σ (peekR i fb (fun x y s => opt (cmD c x y) s) s) Q := by
    unfold peekR at h ⊢
    cases q0 : peek i s with
    | none => simp only [q0, bind_stuck] at h; exact h.elim
    | some d0 =>
      simp only [q0] at h ⊢
      cases q2 : fb s with
      | ok y s2 =>
        simp only [q2, bind_ok] at h ⊢
        cases q1 : peek i s2 with
        | none => simp only [q1, bind_stuck] at h; exact h.elim
        | some x0 =>
          simp only [q1] at h ⊢
          cases q3 : cmD c x0 y with
          | none => rw [q3] at h; exact h.elim
          | some k => rw [q3] at h; exact h
      | exc => simp only [q2, bind_exc] at h; exact h.elim
      | stuck => simp only [q2, bind_stuck] at h; exact h.elim
  refine tVar.runT R h' fun w d s1 G1 io1 x v H1 R1 sg1 p1 dv1 q1 e1 h1 => ?_
  obtain ⟨w', e2, dw⟩ := peek_v R1 q1
  rw [e1] at e2; cases e2
  cases q : cmD c x d with
  | none => rw [q] at h1; exact h1.elim
  | some k =>
    rw [q] at h1
    exact ⟨io1, x, d, k, dw, dv1.inH R1, q, k, rfl, postT.done h1 R1⟩
theorem t_chain (hu : X.A.units + 64 < cLine) (c c' : Cm) {fe : S → R D} (ha : ∀ B, PE X a (tD X.K B fa)) (hb : ∀ B, PE X b (tD X.K B fb)) (he : ∀ B, PE X e (tD X.K B fe)) (hs : ∀ es k p, e ≠ .Set es k p) (B : Bs) :
    PT X (.Compare a [cmA c, cmA c'] [b, e] pos) (tT X.K B fun s => ((fa s).bind fun x s => (fb s).bind fun y s => (opt (cmD c x y) s).bind fun k s => if k then (fe s).bind fun z s => opt ((cmD c' y z).map .bl) s else .ok (.bl false) s).bind fun x s => opt (truth x) s) := by
  refine PT.imp (pt_chain (opc hu c) (opc hu c') (ha B) (hb B) (he B) (cm_nomark c' hs)) fun σ H Q ⟨G, io, s, R, h⟩ => ?_
  have h' : postT X.K B G io σ ((fa s).bind fun x s => ((fb s).bind fun y s => (opt (cmD c x y) s).bind fun k s => if k then (fe s).bind fun z s => opt ((cmD c' y z).map .bl) s else .ok (.bl false) s).bind fun x s => opt (truth x) s) Q := by
    cases q : fa s <;> (simp only [q, bind_ok, bind_exc, bind_stuck] at h ⊢; exact h)
  refine tD.runT R h' fun d s1 G1 io1 v H1 e1 R1 sg1 p1 dv1 h1 => ?_
  have h1' : postT X.K B G1 io1 σ ((fb s1).bind fun y s => ((opt (cmD c d y) s).bind fun k s => if k then (fe s).bind fun z s => opt ((cmD c' y z).map .bl) s else .ok (.bl false) s).bind fun x s => opt (truth x) s) Q := by
    cases q : fb s1 <;> (simp only [q, bind_ok, bind_exc, bind_stuck] at h1 ⊢; exact h1)
  refine tD.runT R1 h1' fun d2 s2 G2 io2 v2 H2 e2 R2 sg2 p2 dv2 h2 => ?_
  cases q : cmD c d d2 with
  | none => rw [q] at h2; exact h2.elim
  | some k =>
    rw [q] at h2
    refine ⟨io2, d, d2, k, (dv1.up sg2 p2).inH R2, dv2.inH R2, q, k, rfl, ?_⟩
    cases k with
    | false => exact ⟨false, rfl, postT.done h2 R2⟩
    | true =>
      rw [if_pos rfl]
      have h2' : postT X.K B G2 io2 σ ((fe s2).bind fun z s => (opt ((cmD c' d2 z).map .bl) s).bind fun x s => opt (truth x) s) Q := by
        simp only [opt_some, bind_ok, if_true] at h2
        cases q : fe s2 <;> (simp only [q, bind_ok, bind_exc, bind_stuck] at h2 ⊢; exact h2)
      refine tD.runT R2 h2' fun d3 s3 G3 io3 v3 H3 e3 R3 sg3 p3 dv3 h3 => ?_
      cases q : cmD c' d2 d3 with
      | none => rw [q] at h3; exact h3.elim
      | some k =>
        rw [q] at h3
        exact ⟨io3, d2, d3, k, (dv2.up sg3 p3).inH R3, dv3.inH R3, q, k, rfl, postT.done h3 R3⟩
end

/-! ### list(range(..)) -/
section
variable {X : Cx} {a b : Expr} {p p2 pos pos2 : Pos} {fa fb : S → R D}
theorem rgDs_v {K : PySem.W.Frag} {G : Hp} {io : List Addr} (a b : Int) : DVs K G io (rgV a b) (rgDs a b) := by
  unfold rgV rgDs
  generalize List.range (b - a).toNat = l
  induction l with
  | nil => exact .nil
  | cons x l ih => exact .cons (.int _) ih
theorem rg_done {K : PySem.W.Frag} {B : Bs} {G : Hp} {io : List Addr} {s : S} {σ : L2.St} {H : Hp} {Q : VK} {i j : Int} (R : Rep K B G io s σ H) (h : post K B G io σ (.ok (.lst (rgDs i j)) s) Q) : ∀ q, H q = none → Q (.ref q) (upd H q (.lst (rgV i j))) :=
  fun q hq => post.lst h R (rgDs_v i j) hq
theorem rg_doneT {K : PySem.W.Frag} {B : Bs} {G : Hp} {io : List Addr} {s : S} {σ : L2.St} {H : Hp} {Q : VK} {i j : Int} (R : Rep K B G io s σ H) (h : post K B G io σ (.ok (.tup (rgDs i j)) s) Q) : ∀ q, H q = none → Q (.ref q) (upd H q (.tup (rgV i j))) :=
  fun q hq => post.tup h R (rgDs_v i j) hq
theorem s_lrg1 (t : Bool) {nm : Str} (hnm : nm = if t then ("tuple" : Str) else ("list" : Str)) (hc : X.calm = true) (hg : Gl X nm) (hm : X.mg nm = none) (hg2 : Gl X "range") (hm2 : X.mg "range" = none) (hst : starred a = false) (ha : ∀ B, PE X a (tD X.K B fa)) (B : Bs) :
    PE X (.Call (.Name nm p) [.Call (.Name "range" p2) [a] [] pos2] [] pos) (tD X.K B fun s => ((fa s).bind fun x s => R.ok [x] s).bind fun ds s => opt (lrgD t ds) s) := by
  have go : ∀ {σ : L2.St} {H : Hp} {Q : VK}, tD X.K B (fun s => ((fa s).bind fun x s => R.ok [x] s).bind fun ds s => opt (lrgD t ds) s) σ H Q →
      tRg1 (tD X.K B fa) σ H fun i j H1 => RgOk i j ∧ ∀ q, H1 q = none → Q (.ref q) (upd H1 q (if t then .tup (rgV i j) else .lst (rgV i j))) := fun {σ H Q} ⟨G, io, s, R, h⟩ => by
    have h : post X.K B G io σ ((fa s).bind fun x s => opt (lrgD t [x]) s) Q := by
      dsimp only at h
      cases q : fa s <;> rw [q] at h <;> exact h
    refine tD.run R h fun d s1 G1 io1 v H1 e1 R1 sg1 p1 dv1 h1 => ?_
    cases d <;> first | exact h1.elim | skip
    rename_i n
    cases dv1
    refine ⟨n, rfl, ?_⟩
    simp only [lrgD] at h1
    split at h1
    · rename_i hb
      obtain ⟨b1, b2, b3⟩ := hb
      refine ⟨⟨by decide, by decide, b1, b2, b3⟩, ?_⟩
      cases t with
      | true => exact rg_doneT R1 h1
      | false => exact rg_done R1 h1
    · exact h1.elim
  subst hnm
  cases t with
  | false => exact PE.imp (pe_listRg hc hg hm (prg_1 hg2 hm2 (ha B) (star_ns hst))) fun σ H Q h => go h
  | true => exact PE.imp (pe_tupRg hc hg hm (prg_1 hg2 hm2 (ha B) (star_ns hst))) fun σ H Q h => go h
theorem s_lrg2 (t : Bool) {nm : Str} (hnm : nm = if t then ("tuple" : Str) else ("list" : Str)) (hc : X.calm = true) (hg : Gl X nm) (hm : X.mg nm = none) (hg2 : Gl X "range") (hm2 : X.mg "range" = none) (hst : starred a = false) (hst2 : starred b = false) (ha : ∀ B, PE X a (tD X.K B fa)) (hb : ∀ B, PE X b (tD X.K B fb)) (B : Bs) :
    PE X (.Call (.Name nm p) [.Call (.Name "range" p2) [a, b] [] pos2] [] pos) (tD X.K B fun s => ((fa s).bind fun x s => (fb s).bind fun y s => R.ok [x, y] s).bind fun ds s => opt (lrgD t ds) s) := by
  have go : ∀ {σ : L2.St} {H : Hp} {Q : VK}, tD X.K B (fun s => ((fa s).bind fun x s => (fb s).bind fun y s => R.ok [x, y] s).bind fun ds s => opt (lrgD t ds) s) σ H Q →
      tRg2 (tD X.K B fa) (tD X.K B fb) σ H fun i j H1 => RgOk i j ∧ ∀ q, H1 q = none → Q (.ref q) (upd H1 q (if t then .tup (rgV i j) else .lst (rgV i j))) := fun {σ H Q} ⟨G, io, s, R, h⟩ => by
    have h : post X.K B G io σ ((fa s).bind fun x s => (fb s).bind fun y s => opt (lrgD t [x, y]) s) Q := by
      dsimp only at h
      cases q : fa s with
      | ok d s1 =>
        rw [q] at h
        simp only [bind_ok] at h ⊢
        cases q2 : fb s1 <;> rw [q2] at h <;> exact h
      | exc => rw [q] at h; exact h
      | stuck => rw [q] at h; exact h
    refine tD.run R h fun d s1 G1 io1 v H1 e1 R1 sg1 p1 dv1 h1 => ?_
    refine tD.run R1 h1 fun d' s2 G2 io2 v' H2 e2 R2 sg2 p2 dv2 h2 => ?_
    cases d <;> first | exact h2.elim | skip
    cases d' <;> first | exact h2.elim | skip
    rename_i n n'
    cases dv1
    cases dv2
    refine ⟨n, n', rfl, rfl, ?_⟩
    simp only [lrgD] at h2
    split at h2
    · rename_i hb
      obtain ⟨b1, b2, b3, b4, b5⟩ := hb
      refine ⟨⟨b1, b2, b3, b4, b5⟩, ?_⟩
      cases t with
      | true => exact rg_doneT R2 h2
      | false => exact rg_done R2 h2
    · exact h2.elim
  have sp : (backTo pos2 (starEach [b] X.env)).any (·.1) = false := by rw [star_ns hst2]; rfl
  subst hnm
  cases t with
  | false => exact PE.imp (pe_listRg hc hg hm (prg_2 hg2 hm2 (ha B) (hb B) (star_ns hst) (star_ns hst2) sp)) fun σ H Q h => go h
  | true => exact PE.imp (pe_tupRg hc hg hm (prg_2 hg2 hm2 (ha B) (hb B) (star_ns hst) (star_ns hst2) sp)) fun σ H Q h => go h
end
end DL
end

section
set_option Elab.async false
set_option linter.all false
set_option autoImplicit false
set_option maxRecDepth 100000
set_option maxHeartbeats 1000000
namespace DL
open PySem PySem.Spec L2

/-! ### targets -/
/-- the slots outside ws stay -/
def Out (ws : List Nat) (σ σ' : L2.St) : Prop := σ'.length = σ.length ∧ ∀ j, j ∉ ws → σ'[j]? = σ[j]?
theorem Out.refl {ws : List Nat} {σ : L2.St} : Out ws σ σ := ⟨rfl, fun _ _ => rfl⟩
theorem Out.tr {ws ws' : List Nat} {σ σ1 σ2 : L2.St} (h : Out ws σ σ1) (h' : Out ws' σ1 σ2) : Out (ws ++ ws') σ σ2 :=
  ⟨h'.1.trans h.1, fun j hj => by
    simp only [List.mem_append, not_or] at hj
    exact (h'.2 j hj.2).trans (h.2 j hj.1)⟩
mutual
def tgW : DTg → List Nat
  | .nm i => [i]
  | .tup ts => tgsW ts
def tgsW : DTgs → List Nat
  | .nil => []
  | .cons t ts => tgW t ++ tgsW ts
end
def tG (K : PySem.W.Frag) (B : Bs) (ws : List Nat) (g : D → S → Option S) : TG := fun v σ H Q => ∃ G io s d, Rep K B G io s σ H ∧ DV K G io v d ∧
  match g d s with
  | some s' => ∀ σ', Rep K B G io s' σ' H → Out ws σ σ' → Q σ' H
  | none => False
def tGs (K : PySem.W.Frag) (B : Bs) (ws : List Nat) (g : List D → S → Option S) : TGs := fun vs σ H Q => ∃ G io s ds, Rep K B G io s σ H ∧ DVs K G io vs ds ∧
  match g ds s with
  | some s' => ∀ σ', Rep K B G io s' σ' H → Out ws σ σ' → Q σ' H
  | none => False
section
variable {X : Cx} {e : Expr} {es : List Expr} {pos : Pos}
theorem PG.imp {t t' : TG} (h : PG X e t) (i : ∀ v σ H Q, t' v σ H Q → t v σ H Q) : PG X e t' := ⟨fun pins s σ H v u Q I r q => h.run pins s σ H v u Q I r (i v σ H Q q)⟩
theorem PGs.imp {t t' : TGs} (h : PGs X es t) (i : ∀ v σ H Q, t' v σ H Q → t v σ H Q) : PGs X es t' := ⟨fun pins s σ H v u Q I r q => h.run pins s σ H v u Q I r (i v σ H Q q)⟩
theorem g_name {i : Nat} {x : Str} (hN : X.N.Nodup) (hi : X.N[i]? = some x) (hx : Loc X.env.scope x) (hf : X.fn x = true ∨ X.env.scope.names.lookup x = some .local) (B : Bs) : PG X (.Name x pos) (tG X.K B [i] (setV i)) := by
  refine PG.imp (pg_name hN hi hx hf) fun v σ H Q ⟨G, io, s, d, R, dv, h⟩ => ?_
  unfold setV at h
  split at h
  · rename_i s' q
    split at q
    · rename_i hl
      cases q
      exact h _ (R.setv dv hl) ⟨by simp, fun j hj => by rw [List.getElem?_set_ne (fun z => hj (by simp [z]))]⟩
    · cases q
  · exact h.elim
theorem assign_ns {env : Env} (h : starred e = false) : assignEach (e :: es) env = (false, assign e env) :: assignEach es env := by
  cases e <;> first | rfl | cases h
theorem assign_len {env : Env} : ∀ {es : List Expr}, es.all (fun e => !starred e) = true → (assignEach es env).length = es.length ∧ List.findIdx? (fun x => x.fst) (assignEach es env) = none
  | [], _ => ⟨rfl, rfl⟩
  | e :: es, h => by
    simp only [List.all_cons, Bool.and_eq_true, Bool.not_eq_true'] at h
    obtain ⟨h1, h2⟩ := assign_len (env := env) h.2
    rw [assign_ns h.1]
    refine ⟨by simp [h1], ?_⟩
    rw [List.findIdx?_cons]
    simp [h2]
theorem g_nil (B : Bs) : PGs X [] (tGs X.K B [] (asgs .nil)) := by
  refine PGs.imp pgs_nil fun vs σ H Q ⟨G, io, s, ds, R, dv, h⟩ => ?_
  cases dv with
  | nil => exact ⟨rfl, h σ R Out.refl⟩
  | cons => exact h.elim
theorem g_cons {t : DTg} {ts : DTgs} (hs : starred e = false) (h1 : ∀ B, PG X e (tG X.K B (tgW t) (asg t))) (h2 : ∀ B, PGs X es (tGs X.K B (tgsW ts) (asgs ts))) (B : Bs) : PGs X (e :: es) (tGs X.K B (tgsW (.cons t ts)) (asgs (.cons t ts))) := by
  refine PGs.imp (pgs_cons (h1 B) (h2 B) (by rw [assign_ns hs]; rfl)) fun vs σ H Q ⟨G, io, s, ds, R, dv, h⟩ => ?_
  cases dv with
  | nil => exact h.elim
  | @cons v d vs ds a t' =>
    refine ⟨_, _, rfl, G, io, s, d, R, a, ?_⟩
    simp only [asgs] at h
    cases q : asg t d s with
    | none => rw [q] at h; exact h.elim
    | some s1 =>
      rw [q] at h
      intro σ1 R1 o1
      refine ⟨G, io, s1, ds, R1, t', ?_⟩
      have h : match asgs ts ds s1 with | some s' => ∀ σ', Rep X.K B G io s' σ' H → Out (tgsW (.cons t ts)) σ σ' → Q σ' H | none => False := h
      cases q2 : asgs ts ds s1 with
      | none => rw [q2] at h; exact h.elim
      | some s2 =>
        rw [q2] at h
        exact fun σ2 R2 o2 => h σ2 R2 (o1.tr o2)
theorem g_tup {k : Nat} {ts : DTgs} (hc : X.calm = true) (hs : es.all (fun e => !starred e) = true) (h2 : ∀ B, PGs X es (tGs X.K B (tgsW ts) (asgs ts))) (hl : ∀ ds s s', asgs ts ds s = some s' → ds.length = es.length) (B : Bs) :
    PG X (.Tuple es k pos) (tG X.K B (tgW (.tup ts)) (asg (.tup ts))) := by
  obtain ⟨e1, e2⟩ := assign_len (env := X.env) hs
  refine PG.imp (pg_tup hc (h2 B) e1 e2) fun v σ H Q ⟨G, io, s, d, R, dv, h⟩ => ?_
  cases dv with
  | @tup a vs ds a1 b1 =>
    have h : match asgs ts ds s with | some s' => ∀ σ', Rep X.K B G io s' σ' H → Out (tgW (.tup ts)) σ σ' → Q σ' H | none => False := h
    cases q : asgs ts ds s with
    | none => rw [q] at h; exact h.elim
    | some s' =>
      rw [q] at h
      exact ⟨a, vs, rfl, SqT.sub R.le a1, by rw [b1.length]; exact hl _ _ _ q, G, io, s, ds, R, b1, by rw [q]; exact h⟩
  | _ => exact h.elim
end

/-! ### what is walked -/
/-- the iterator yields these data -/
def WalksD (K : PySem.W.Frag) (G : Hp) (io : List Addr) (J : It) (ds : List D) : Prop := ∃ Gp Y, Walk J ds.length Gp Y ∧ (∀ H, Sub G H → Gp H) ∧
  ∀ i H1 x H2 G1 io1 B s σ, i < ds.length → Sub G G1 → io <+: io1 → Rep K B G1 io1 s σ H1 → Y i H1 x H2 → ∃ G2 d, ds[i]? = some d ∧ Rep K B G2 io1 s σ H2 ∧ Sub G1 G2 ∧ DV K G2 io1 x d
def postI (K : PySem.W.Frag) (B : Bs) (G : Hp) (io : List Addr) (σ : L2.St) (r : R (List D)) (Q : It → Hp → Prop) : Prop := match r with
  | .ok ds s' => ∀ G' io' H' J, Rep K B G' io' s' σ H' → Sub G G' → io <+: io' → WalksD K G' io' J ds → Q J H'
  | _ => False
def tI (K : PySem.W.Frag) (B : Bs) (f : S → R (List D)) : TI := fun σ H Q => ∃ G io s, Rep K B G io s σ H ∧ postI K B G io σ (f s) Q
section
variable {X : Cx} {e e2 tg : Expr} {pos : Pos} {fa fb : S → R D}
theorem PI.imp {t t' : TI} (h : PI X tg e t) (i : ∀ σ H Q, t' σ H Q → t σ H Q) : PI X tg e t' := ⟨fun pins s σ H Q I q => h.run pins s σ H Q I (i σ H Q q)⟩
theorem PI.or {t u : TI} (h : PI X tg e t) (h' : PI X tg e u) : PI X tg e (fun σ H Q => t σ H Q ∨ u σ H Q) :=
  ⟨fun pins s σ H Q I q => q.elim (h.run pins s σ H Q I) (h'.run pins s σ H Q I)⟩
theorem tD.runI {K : PySem.W.Frag} {B : Bs} {G : Hp} {io : List Addr} {s : S} {σ : L2.St} {H : Hp} {f : S → R D} {d : D} {s1 : S} (R : Rep K B G io s σ H) (e : f s = .ok d s1) {Q1 : VK}
    (k : ∀ G1 io1 v H1, Rep K B G1 io1 s1 σ H1 → Sub G G1 → io <+: io1 → DV K G1 io1 v d → Q1 v H1) : tD K B f σ H Q1 := by
  refine ⟨G, io, s, R, ?_⟩
  rw [e]
  exact fun G1 io1 v H1 R1 sg p dv => k G1 io1 v H1 R1 sg p dv
theorem walks_list {K : PySem.W.Frag} {G : Hp} {io : List Addr} {a : Addr} {vs : List V} {ds : List D} (h : ∀ H, Sub G H → SqL K H a vs) (dv : DVs K G io vs ds) : WalksD K G io (Itl K a) ds := by
  refine ⟨_, _, by rw [← dv.length]; exact walk_list, h, fun i H1 x H2 G1 io1 B s σ hi sg p R y => ?_⟩
  obtain ⟨rfl, e⟩ := y
  obtain ⟨d, e1, dvv⟩ := (dv.up sg p).getV e
  exact ⟨G1, d, e1, R, Sub.rfl', dvv⟩
theorem walks_tup {K : PySem.W.Frag} {G : Hp} {io : List Addr} {a : Addr} {vs : List V} {ds : List D} (h : SqT K G a vs) (dv : DVs K G io vs ds) : WalksD K G io (Itt K a) ds := by
  refine ⟨_, _, by rw [← dv.length]; exact walk_tup, fun H sg => SqT.sub sg h, fun i H1 x H2 G1 io1 B s σ hi sg p R y => ?_⟩
  obtain ⟨rfl, e⟩ := y
  obtain ⟨d, e1, dvv⟩ := (dv.up sg p).getV e
  exact ⟨G1, d, e1, R, Sub.rfl', dvv⟩
theorem walks_str {K : PySem.W.Frag} {G : Hp} {io : List Addr} (z : Str) : WalksD K G io (Its z) (z.cps.toList.map fun c => .str ⟨#[c]⟩) := by
  refine ⟨_, _, by simpa using walk_str (z := z), fun _ _ => trivial, fun i H1 x H2 G1 io1 B s σ hi sg p R y => ?_⟩
  obtain ⟨rfl, c, e1, rfl⟩ := y
  refine ⟨G1, .str ⟨#[c]⟩, ?_, R, Sub.rfl', .str _⟩
  rw [List.getElem?_map]
  have : z.cps.toList[i]? = some c := by simpa using e1
  rw [this]; rfl
theorem walks_range {K : PySem.W.Frag} {G : Hp} {io : List Addr} (lo : Int) (n : Nat) : WalksD K G io (Itr lo n) ((List.range n).map fun (k : Nat) => .int (lo + k)) := by
  refine ⟨_, _, by simpa using walk_range (lo := lo) (n := n), fun _ _ => trivial, fun i H1 x H2 G1 io1 B s σ hi sg p R y => ?_⟩
  obtain ⟨rfl, rfl⟩ := y
  have hi' : i < n := by simpa using hi
  exact ⟨G1, .int (lo + i), by simp [hi'], R, Sub.rfl', .int _⟩
theorem pair_new {K : PySem.W.Frag} {B : Bs} {G : Hp} {io : List Addr} {s : S} {σ : L2.St} {H : Hp} (R : Rep K B G io s σ H) {T : Addr} {x y : V} {d e : D} (hT : H T = none) (h1 : DV K G io x d) (h2 : DV K G io y e) :
    ∃ G2, Rep K B G2 io s σ (upd H T (.tup [x, y])) ∧ Sub G G2 ∧ DV K G2 io (.ref T) (.tup [d, e]) := by
  have sg : Sub G (upd G T (.tup [x, y])) := sub_upd (R.pn hT).1
  exact ⟨_, R.new hT, sg, .tup (SqT.of upd_same) (.cons (h1.up sg (List.prefix_refl _)) (.cons (h2.up sg (List.prefix_refl _)) .nil))⟩
theorem zipD_get : ∀ {xs ys : List D} {i : Nat} {x y : D}, xs[i]? = some x → ys[i]? = some y → (zipD xs ys)[i]? = some (.tup [x, y])
  | [], _, _, _, _, h, _ => by simp at h
  | _ :: _, [], _, _, _, _, h => by simp at h
  | a :: xs, b :: ys, 0, x, y, h1, h2 => by simp at h1 h2; subst h1; subst h2; rfl
  | a :: xs, b :: ys, i + 1, x, y, h1, h2 => by
    show (zipD xs ys)[i]? = _
    exact zipD_get (by simpa using h1) (by simpa using h2)
theorem zipD_len : ∀ {xs ys : List D}, (zipD xs ys).length = min xs.length ys.length
  | [], _ => by simp [zipD]
  | _ :: _, [] => by simp [zipD]
  | a :: xs, b :: ys => by simp [zipD, zipD_len (xs := xs) (ys := ys)]
theorem enumD_get : ∀ {xs : List D} {i : Nat} {x : D} {n : Int}, xs[i]? = some x → (enumD n xs)[i]? = some (.tup [.int (n + i), x])
  | [], _, _, _, h => by simp at h
  | a :: xs, 0, x, n, h => by simp at h; subst h; simp [enumD]
  | a :: xs, i + 1, x, n, h => by
    show (enumD (n + 1) xs)[i]? = _
    rw [enumD_get (x := x) (by simpa using h)]
    congr 4
    omega
theorem enumD_len : ∀ {xs : List D} {n : Int}, (enumD n xs).length = xs.length
  | [], _ => rfl
  | a :: xs, n => by simp [enumD, enumD_len (xs := xs)]
theorem i_seq (ha : ∀ B, PE X e (tD X.K B fa)) (B : Bs) : PI X tg e (tI X.K B fun s => (fa s).bind fun d s => opt (itemsOf d) s) := by
  refine PI.imp (PI.or (pi_list (ha B)) (PI.or (pi_tup (ha B)) (pi_str (ha B)))) fun σ H Q ⟨G, io, s, R, h⟩ => ?_
  cases q : fa s with
  | ok d s1 =>
    simp only [q, bind_ok] at h
    cases d <;> first | exact h.elim | skip
    · rename_i z
      refine .inr (.inr (tD.runI R q fun G1 io1 v H1 R1 sg1 p1 dv1 => ?_))
      cases dv1
      exact ⟨z, rfl, h G1 io1 H1 _ R1 sg1 p1 (walks_str z)⟩
    · rename_i ds
      refine .inr (.inl (tD.runI R q fun G1 io1 v H1 R1 sg1 p1 dv1 => ?_))
      cases dv1 with
      | tup a b => exact ⟨_, rfl, ⟨_, SqT.sub R1.le a⟩, h G1 io1 H1 _ R1 sg1 p1 (walks_tup a b)⟩
    · rename_i ds
      refine .inl (tD.runI R q fun G1 io1 v H1 R1 sg1 p1 dv1 => ?_)
      cases dv1 with
      | lst a b => exact ⟨_, rfl, ⟨_, SqL.of (R1.le _ _ a)⟩, h G1 io1 H1 _ R1 sg1 p1 (walks_list (fun H' sg => SqL.of (sg _ _ a)) b)⟩
    · rename_i ds
      refine .inl (tD.runI R q fun G1 io1 v H1 R1 sg1 p1 dv1 => ?_)
      cases dv1 with
      | klst a b => exact ⟨_, rfl, ⟨_, SqL.sub R1.le a⟩, h G1 io1 H1 _ R1 sg1 p1 (walks_list (fun H' sg => SqL.sub sg a) b)⟩
  | exc => simp only [q, bind_exc] at h; exact h.elim
  | stuck => simp only [q, bind_stuck] at h; exact h.elim
theorem i_rng1 {p : Pos} (hg : Gl X "range") (hm : X.mg "range" = none) (hst : starred e = false) {fs : S → R (List D)} (hs : ∀ B, PA X [e] (tA X.K B fs)) (B : Bs) :
    PI X tg (.Call (.Name "range" p) [e] [] pos) (tI X.K B fun s => (fs s).bind fun ds s => if ds.length = 1 then opt (rngD ds) s else .stuck) := by
  refine PI.imp (pi_range1 hg hm (hs B) (by rw [star_ns hst]; rfl)) fun σ H Q ⟨G, io, s, R, h⟩ => ?_
  cases q : fs s with
  | ok ds s1 =>
    simp only [q, bind_ok] at h
    split at h
    · rename_i hl
      refine ⟨G, io, s, R, ?_⟩
      rw [q]
      intro G1 io1 vs H1 R1 sg1 p1 dv1
      match ds, hl, dv1, h with
      | [d], _, dv1, h =>
        obtain ⟨v, rfl, du⟩ := one_v dv1
        obtain ⟨j, rfl⟩ : ∃ j, d = .int j := by cases d <;> first | exact h.elim | exact ⟨_, rfl⟩
        cases du
        simp only [rngD] at h
        split at h
        · rename_i hz
          refine ⟨j, rfl, hz.1, hz.2, h G1 io1 H1 _ R1 sg1 p1 ?_⟩
          have w := walks_range (K := X.K) (G := G1) (io := io1) 0 j.toNat
          have e : ((List.range j.toNat).map fun (k : Nat) => D.int (0 + k)) = ((List.range j.toNat).map fun (i : Nat) => D.int i) := by
            apply List.map_congr_left
            intro k _
            simp
          rw [e] at w
          exact w
        · exact h.elim
    · exact h.elim
  | exc => simp only [q, bind_exc] at h; exact h.elim
  | stuck => simp only [q, bind_stuck] at h; exact h.elim
theorem i_rng2 {p : Pos} (hg : Gl X "range") (hm : X.mg "range" = none) (hst : starred e = false) (hst2 : starred e2 = false) {fs : S → R (List D)} (hs : ∀ B, PA X [e, e2] (tA X.K B fs)) (B : Bs) :
    PI X tg (.Call (.Name "range" p) [e, e2] [] pos) (tI X.K B fun s => (fs s).bind fun ds s => if ds.length = 2 then opt (rngD ds) s else .stuck) := by
  refine PI.imp (pi_range2 hg hm (hs B) (by rw [star_ns hst, star_ns hst2]; rfl) (by rw [star_ns hst2]; rfl)) fun σ H Q ⟨G, io, s, R, h⟩ => ?_
  cases q : fs s with
  | ok ds s1 =>
    simp only [q, bind_ok] at h
    split at h
    · rename_i hl
      refine ⟨G, io, s, R, ?_⟩
      rw [q]
      intro G1 io1 vs H1 R1 sg1 p1 dv1
      match ds, hl, dv1, h with
      | [d, d2], _, dv1, h =>
        obtain ⟨v, w, rfl, du, dw⟩ := two_v dv1
        obtain ⟨i, rfl⟩ : ∃ j, d = .int j := by cases d <;> first | exact h.elim | exact ⟨_, rfl⟩
        obtain ⟨j, rfl⟩ : ∃ j, d2 = .int j := by cases d2 <;> first | exact h.elim | exact ⟨_, rfl⟩
        cases du
        cases dw
        simp only [rngD] at h
        split at h
        · rename_i hz
          exact ⟨i, j, rfl, hz, h G1 io1 H1 _ R1 sg1 p1 (walks_range i _)⟩
        · exact h.elim
    · exact h.elim
  | exc => simp only [q, bind_exc] at h; exact h.elim
  | stuck => simp only [q, bind_stuck] at h; exact h.elim
theorem i_enum {p tpos : Pos} {elts : List Expr} {kk : Nat} (hg : Gl X "enumerate") (hm : X.mg "enumerate" = none) (hst : starred e = false) (ha : ∀ B, PE X e (tD X.K B fa)) (B : Bs) :
    PI X (.Tuple elts kk tpos) (.Call (.Name "enumerate" p) [e] [] pos) (tI X.K B fun s => (fa s).bind fun x s => opt ((lseqOf x).map (enumD 0)) s) := by
  refine PI.imp (pi_enum hg hm (pa_cons (ha B) pa_nil (star_ns hst)) (by rw [star_ns hst]; rfl)) fun σ H Q ⟨G, io, s, R, h⟩ => ?_
  cases q : fa s with
  | ok d s1 =>
    simp only [q, bind_ok] at h
    refine tD.runI R q fun G1 io1 v H1 R1 sg1 p1 dv1 => ?_
    cases q2 : lseqOf d with
    | none => rw [q2] at h; exact h.elim
    | some ds =>
      rw [q2] at h
      have wk : ∀ {a vs}, (∀ H', Sub G1 H' → SqL X.K H' a vs) → DVs X.K G1 io1 vs ds → WalksD X.K G1 io1 (Ite X.K a) (enumD 0 ds) := fun {a vs} hq hv => by
        refine ⟨_, _, by rw [enumD_len, ← hv.length]; exact walk_enum, hq, fun i H2 x H3 G2 io2 B' s' σ' hi sg p R' y => ?_⟩
        obtain ⟨T, a1, b1, rfl, hT, rfl, ea, eb⟩ := y
        cases ea
        obtain ⟨d', e1, dvv⟩ := (hv.up sg p).getV eb
        obtain ⟨G3, R3, sg3, dv3⟩ := pair_new R' hT (.int (i : Nat)) dvv
        refine ⟨G3, _, enumD_get e1, R3, sg3, ?_⟩
        have : (0 : Int) + (i : Nat) = (i : Nat) := by omega
        rw [this]; exact dv3
      cases dv1 <;> first | cases q2 | skip
      · rename_i a vs b c
        exact ⟨_, _, rfl, SqL.of (R1.le _ _ b), h G1 io1 H1 _ R1 sg1 p1 (wk (fun H' sg => SqL.of (sg _ _ b)) c)⟩
      · rename_i a vs b c
        exact ⟨_, _, rfl, SqL.sub R1.le b, h G1 io1 H1 _ R1 sg1 p1 (wk (fun H' sg => SqL.sub sg b) c)⟩
  | exc => simp only [q, bind_exc] at h; exact h.elim
  | stuck => simp only [q, bind_stuck] at h; exact h.elim
theorem seqk_v {K : PySem.W.Frag} {G : Hp} {io : List Addr} {v : V} {d : D} {ds : List D} (h : DV K G io v d) (e : seqOf d = some ds) : ∃ t a vs, v = .ref a ∧ SqK t K G a vs ∧ DVs K G io vs ds := by
  cases h <;> first | cases e | skip
  · rename_i a b c; exact ⟨true, _, _, rfl, b, c⟩
  · rename_i a b c; exact ⟨false, _, _, rfl, SqL.of b, c⟩
  · rename_i a b c; exact ⟨false, _, _, rfl, b, c⟩
theorem i_zip {p tpos : Pos} {elts : List Expr} {kk : Nat} (hg : Gl X "zip") (hm : X.mg "zip" = none) (hst : starred e = false) (hst2 : starred e2 = false) (ha : ∀ B, PE X e (tD X.K B fa)) (hb : ∀ B, PE X e2 (tD X.K B fb)) (B : Bs) :
    PI X (.Tuple elts kk tpos) (.Call (.Name "zip" p) [e, e2] [] pos) (tI X.K B fun s => (fa s).bind fun x s => (fb s).bind fun y s => opt (zipK x y) s) := by
  refine PI.imp (pi_zipK hg hm (pa_cons (ha B) (pa_cons (hb B) pa_nil (star_ns hst2)) (star_ns hst)) (star_ns hst) (starEach_any (by simp [hst2]))) fun σ H Q ⟨G, io, s, R, h⟩ => ?_
  cases q : fa s with
  | ok x s1 =>
    simp only [q, bind_ok] at h
    refine tD.runI R q fun G1 io1 v H1 R1 sg1 p1 dv1 => ?_
    cases q2 : fb s1 with
    | ok y s2 =>
      simp only [q2, bind_ok] at h
      refine tD.runI R1 q2 fun G2 io2 w H2 R2 sg2 p2 dv2 => ?_
      cases ex : seqOf x with
      | none =>
        have ek : zipK x y = none := by unfold zipK; rw [ex]
        rw [ek] at h; exact h.elim
      | some xs =>
        cases ey : seqOf y with
        | none =>
          have ek : zipK x y = none := by unfold zipK; rw [ex, ey]
          rw [ek] at h; exact h.elim
        | some ys =>
          have ek : zipK x y = some (zipD xs ys) := by unfold zipK; rw [ex, ey]
          rw [ek] at h
          obtain ⟨t, a, vs, rfl, h1, hv⟩ := seqk_v (dv1.up sg2 p2) ex
          obtain ⟨u, b, ws, rfl, h2, hw⟩ := seqk_v dv2 ey
          refine ⟨t, u, a, b, vs, ws, rfl, h1.sub R2.le, h2.sub R2.le, h G2 io2 H2 _ R2 (sg1.tr sg2) (p1.trans p2) ?_⟩
          have wz : Walk (ItK t u X.K a b) (zipD xs ys).length (fun H => SqK t X.K H a vs ∧ SqK u X.K H b ws) (YPair (fun i => vs[i]?) fun i => ws[i]?) := by
            have hn : (zipD xs ys).length = min vs.length ws.length := by rw [zipD_len, hv.length, hw.length]
            rw [hn]
            refine ⟨fun i _ hi q => ?_, fun _ q => ⟨vs, ws, q.1, q.2, by omega⟩, fun i H' v' H'' _ q y => ?_⟩
            · have h1 : i < vs.length := by omega
              have h2 : i < ws.length := by omega
              exact ⟨vs, ws, vs[i], ws[i], q.1, q.2, by simp [h1], by simp [h2]⟩
            · obtain ⟨T, x', y', z1, z2, z3, z4, z5⟩ := y
              exact ⟨T, x', y', z1, z2, z3, z4 vs q.1, z5 ws q.2⟩
          refine ⟨_, _, wz, fun H' sg => ⟨h1.sub sg, h2.sub sg⟩, fun i H3 x H4 G3 io3 B' s' σ' hi sg p R' y => ?_⟩
          obtain ⟨T, a1, b1, rfl, hT, rfl, ea, eb⟩ := y
          obtain ⟨d1, e1, dvv⟩ := (hv.up sg p).getV ea
          obtain ⟨d2, e2, dww⟩ := (hw.up sg p).getV eb
          obtain ⟨G4, R4, sg4, dv4⟩ := pair_new R' hT dvv dww
          exact ⟨G4, _, zipD_get e1 e2, R4, sg4, dv4⟩
    | exc => simp only [q2, bind_exc] at h; exact h.elim
    | stuck => simp only [q2, bind_stuck] at h; exact h.elim
  | exc => simp only [q, bind_exc] at h; exact h.elim
  | stuck => simp only [q, bind_stuck] at h; exact h.elim
end
end DL
end

section
set_option Elab.async false
set_option linter.all false
set_option autoImplicit false
set_option maxRecDepth 100000
set_option maxHeartbeats 1000000
namespace DL
open PySem PySem.Spec L2

/-! ### slots wiped and put back -/
theorem wipe_get {σ : L2.St} {j : Nat} : ∀ {vs : List Nat}, j ∉ vs → (wipe σ vs)[j]? = σ[j]?
  | [], _ => rfl
  | v :: vs, h => by
    simp only [List.mem_cons, not_or] at h
    unfold wipe
    rw [List.getElem?_set_ne (Ne.symm h.1)]
    exact wipe_get h.2
theorem wipe_in {σ : L2.St} {j : Nat} : ∀ {vs : List Nat}, j ∈ vs → j < σ.length → (wipe σ vs)[j]? = some none
  | v :: vs, h, hl => by
    unfold wipe
    by_cases e : v = j
    · subst e; rw [List.getElem?_set_self (by rw [wipe_length]; exact hl)]
    · rw [List.getElem?_set_ne e]
      rcases List.mem_cons.mp h with z | z
      · exact absurd z.symm e
      · exact wipe_in z hl
theorem wipe_out_eq {σ σ' : L2.St} {ws vs : List Nat} (o : Out ws (wipe σ vs) σ') (h : ∀ j, j ∈ ws → j ∈ vs) : wipe σ' vs = wipe σ vs := by
  have hl : σ'.length = σ.length := by rw [o.1, wipe_length]
  apply List.ext_getElem?
  intro j
  by_cases hj : j ∈ vs
  · by_cases hlt : j < σ.length
    · rw [wipe_in hj (by omega), wipe_in hj hlt]
    · rw [List.getElem?_eq_none (by rw [wipe_length]; omega), List.getElem?_eq_none (by rw [wipe_length]; omega)]
  · rw [wipe_get hj, wipe_get hj, o.2 j (fun z => hj (h j z)), wipe_get hj]
theorem wipeS_len {r : List (Option Sl)} : ∀ {vs : List Nat}, (wipeS r vs).length = r.length
  | [] => rfl
  | v :: vs => by unfold wipeS; rw [List.length_set, wipeS_len]
theorem wipeS_some {r : List (Option Sl)} {j : Nat} {x : Sl} : ∀ {vs : List Nat}, (wipeS r vs)[j]? = some (some x) → r[j]? = some (some x) ∧ j ∉ vs
  | [], h => ⟨h, by simp⟩
  | v :: vs, h => by
    unfold wipeS at h
    rcases get_set h with ⟨rfl, e, _⟩ | ⟨n, h⟩
    · cases e
    · obtain ⟨h1, h2⟩ := wipeS_some h
      exact ⟨h1, by simp only [List.mem_cons, not_or]; exact ⟨fun z => n z.symm, h2⟩⟩
theorem backS_len {r0 r : List (Option Sl)} : ∀ {vs : List Nat}, (backS r0 r vs).length = r.length
  | [] => rfl
  | v :: vs => by
    unfold backS
    split
    · rw [List.length_set, backS_len]
    · rw [backS_len]
theorem backS_some {r0 r : List (Option Sl)} {j : Nat} {x : Sl} : ∀ {vs : List Nat}, (backS r0 r vs)[j]? = some (some x) → (j ∈ vs ∧ r0[j]? = some (some x)) ∨ (r[j]? = some (some x) ∧ (j ∈ vs → r0[j]? = none))
  | [], h => .inr ⟨h, fun z => by simp at z⟩
  | v :: vs, h => by
    unfold backS at h
    split at h
    · rename_i y q
      rcases get_set h with ⟨rfl, e, _⟩ | ⟨n, h⟩
      · exact .inl ⟨by simp, by rw [q, e]⟩
      · rcases backS_some h with ⟨h1, h2⟩ | ⟨h1, h2⟩
        · exact .inl ⟨List.mem_cons_of_mem _ h1, h2⟩
        · exact .inr ⟨h1, fun z => (List.mem_cons.mp z).elim (fun w => absurd w.symm n) h2⟩
    · rename_i q
      rcases backS_some h with ⟨h1, h2⟩ | ⟨h1, h2⟩
      · exact .inl ⟨List.mem_cons_of_mem _ h1, h2⟩
      · exact .inr ⟨h1, fun z => (List.mem_cons.mp z).elim (fun w => by rw [w]; exact q) h2⟩
theorem plainAt_no {r : List (Option Sl)} {j : Nat} : ∀ {vs : List Nat}, plainAt r vs = true → j ∈ vs → ∀ xs, r[j]? ≠ some (some (.own xs))
  | v :: vs, h, hj, xs => by
    unfold plainAt at h
    simp only [Bool.and_eq_true] at h
    rcases List.mem_cons.mp hj with rfl | hj
    · intro e; rw [e] at h; cases h.1
    · exact plainAt_no h.2 hj xs
def Bs.guard (B : Bs) (p : Addr) (vs : List V) : Bs := ⟨upd B.P p (.lst vs), B.G0, B.io0⟩
section
variable {K : PySem.W.Frag} {B : Bs} {G : Hp} {io : List Addr} {s : S} {σ : L2.St} {H : Hp}
theorem Rep.wiped (R : Rep K B G io s σ H) (vs : List Nat) : Rep K B G io { s with r := wipeS s.r vs } (wipe σ vs) H := by
  refine R.reslot (by rw [wipeS_len, wipe_length]; exact R.len) (fun j d h => ?_) (fun j xs h => ?_) fun i j xs ys a n h1 h2 h3 => ?_
  · obtain ⟨h1, h2⟩ := wipeS_some h
    rw [wipe_get h2]; exact R.val j d h1
  · obtain ⟨h1, h2⟩ := wipeS_some h
    rw [wipe_get h2]; exact R.own j xs h1
  · obtain ⟨a1, a2⟩ := wipeS_some h1
    obtain ⟨b1, b2⟩ := wipeS_some h2
    rw [wipe_get a2] at h3; rw [wipe_get b2]
    exact R.apart i j xs ys a n a1 b1 h3
/-- a list under way is guarded -/
theorem Rep.guard (R : Rep K B G io s σ H) {p : Addr} {vs : List V} (hp : H p = none) : Rep K (B.guard p vs) G io s σ (upd H p (.lst vs)) := by
  obtain ⟨hG, hP, hi⟩ := R.pn hp
  have R1 := R.grow (o := .lst vs) hp
  refine ⟨R1.le, R1.nd, R1.ml, R1.cell, fun a ha => ⟨(R1.cg a ha).1, ?_⟩, R1.len, R1.val, fun i xs e => ?_, R1.apart, fun a o e => ?_, R1.g0, fun a o e => ?_, R1.i0⟩
  · have q : a ≠ p := fun z => hi (by rw [← z]; exact ha)
    exact (upd_ne q).trans (R1.cg a ha).2
  · obtain ⟨a, ws, e1, e2, e3, e4, e5, e6⟩ := R.own i xs e
    have q : a ≠ p := fun z => by rw [z, hp] at e2; cases e2
    exact ⟨a, ws, e1, (upd_ne q).trans e2, e3, e4, e5, (upd_ne q).trans e6⟩
  · by_cases z : a = p
    · subst z
      have e : upd B.P a (.lst vs) a = some o := e
      rw [upd_same] at e ⊢; exact e
    · have e : upd B.P p (.lst vs) a = some o := e
      rw [upd_ne z] at e ⊢; exact R.fr a o e
  · rcases R.gnew a o e with z | z
    · exact .inl z
    · by_cases q : a = p
      · subst q; rw [hG] at e; cases e
      · exact .inr ((upd_ne q).trans z)
/-- .. grows -/
theorem Rep.reguard {p : Addr} {vs ws : List V} (R : Rep K (B.guard p vs) G io s σ H) (h0 : B.G0 p = none) : Rep K (B.guard p ws) G io s σ (upd H p (.lst ws)) := by
  have hpP : (B.guard p vs).P p = some (.lst vs) := upd_same
  have hG : G p = none := by
    cases q : G p with
    | none => rfl
    | some o =>
      rcases R.gnew p o q with z | z
      · have z : B.G0 p = some o := z
        rw [h0] at z; cases z
      · rw [hpP] at z; cases z
  have hi : p ∉ io := fun z => by have := (R.cg p z).2; rw [hpP] at this; cases this
  have nP : ∀ {a}, a ≠ p → (B.guard p ws).P a = (B.guard p vs).P a := fun {a} n => (upd_ne n).trans (upd_ne n).symm
  refine ⟨fun a o e => ?_, R.nd, R.ml, fun k c e => ?_, fun a ha => ?_, R.len, R.val, fun i xs e => ?_, R.apart, fun a o e => ?_, R.g0, fun a o e => ?_, R.i0⟩
  · have n : a ≠ p := fun z => by rw [z, hG] at e; cases e
    rw [upd_ne n]; exact R.le a o e
  · obtain ⟨a, us, e1, e2, e3⟩ := R.cell k c e
    have n : a ≠ p := fun z => hi (by rw [← z]; exact List.mem_of_getElem? e1)
    exact ⟨a, us, e1, (upd_ne n).trans e2, e3⟩
  · have n : a ≠ p := fun z => hi (by rw [← z]; exact ha)
    exact ⟨(R.cg a ha).1, (nP n).trans (R.cg a ha).2⟩
  · obtain ⟨a, us, e1, e2, e3, e4, e5, e6⟩ := R.own i xs e
    have n : a ≠ p := fun z => by rw [z, hpP] at e6; cases e6
    exact ⟨a, us, e1, (upd_ne n).trans e2, e3, e4, e5, (nP n).trans e6⟩
  · by_cases z : a = p
    · subst z
      have e : upd B.P a (.lst ws) a = some o := e
      rw [upd_same] at e ⊢; exact e
    · rw [nP z] at e; rw [upd_ne z]; exact R.fr a o e
  · rcases R.gnew a o e with z | z
    · exact .inl z
    · have n : a ≠ p := fun q => by rw [q, hpP] at z; cases z
      exact .inr ((nP n).trans z)
end

/-! ### comprehensions -/
section
variable {X : Cx} {tg iter elt : Expr} {ifs : List Expr} {scope : Scope} {own : List (Str × Nat)} {pos : Pos} {fi : S → R (List D)} {t : DTg} {ft : S → R Bool} {fe : S → R D}
theorem loopC_cons {own : List Nat} {g : D → S → Option S} {t : S → R Bool} {e : S → R D} {d : D} {ds : List D} {s sF : S} {zs : List D} (h : loopC own g t e (d :: ds) s = .ok zs sF) :
    ∃ s1, g d s = some s1 ∧ ∃ b s2, t s1 = .ok b s2 ∧ ((b = true ∧ ∃ y s3 ys, e s2 = .ok y s3 ∧ loopC own g t e ds { s3 with r := wipeS s3.r own } = .ok ys sF ∧ zs = y :: ys) ∨ (b = false ∧ loopC own g t e ds { s2 with r := wipeS s2.r own } = .ok zs sF)) := by
  unfold loopC at h
  obtain ⟨s1, s1', h1, h⟩ := bind_eq_ok h
  obtain ⟨q1, rfl⟩ := opt_eq_ok h1
  obtain ⟨b, s2, h2, h⟩ := bind_eq_ok h
  refine ⟨s1, q1, b, s2, h2, ?_⟩
  cases b with
  | true =>
    rw [if_pos rfl] at h
    obtain ⟨y, s3, h3, h⟩ := bind_eq_ok h
    obtain ⟨ys, s4, h4, h⟩ := bind_eq_ok h
    cases h
    exact .inl ⟨rfl, y, s3, ys, h3, h4, rfl⟩
  | false =>
    rw [if_neg Bool.false_ne_true] at h
    exact .inr ⟨rfl, h⟩
noncomputable def lcF (own : List Nat) (t : DTg) (fi : S → R (List D)) (ft : S → R Bool) (fe : S → R D) : S → R D := fun s => (fi s).bind fun ds s => if plainAt s.r own then
      (loopC own (asg t) ft fe ds { s with r := wipeS s.r own }).bind fun ys s' => if ds.length < sizeLine then .ok (.lst ys) { s' with r := backS s.r s'.r own } else .stuck
    else .stuck
theorem tLc_run {K : PySem.W.Frag} {B : Bs} {vs : List Nat} (hw : ∀ j, j ∈ tgW t → j ∈ vs) {wi : TI} {g : TG} {tt : TT} {te : TE} (hwi : ∀ σ H Q, tI K B fi σ H Q → wi σ H Q) (hg : ∀ B v σ H Q, tG K B (tgW t) (asg t) v σ H Q → g v σ H Q)
    (ht : ∀ B σ H Q, tT K B ft σ H Q → tt σ H Q) (he : ∀ B σ H Q, tD K B fe σ H Q → te σ H Q) (σ : L2.St) (H : Hp) (Q : VK) (h : tL K B (lcF vs t fi ft fe) σ H Q) : tLc wi g tt te vs σ H Q := by
  obtain ⟨G, io, s, R, h⟩ := h
  refine hwi σ H _ ⟨G, io, s, R, ?_⟩
  unfold lcF at h
  cases q : fi s with
  | exc => simp only [q, bind_exc] at h; exact h.elim
  | stuck => simp only [q, bind_stuck] at h; exact h.elim
  | ok ds s1 =>
  simp only [q, bind_ok] at h
  intro G1 io1 H1 J R1 sg1 p1 ⟨Gp, Y, W, hGp, hY⟩ p hp
  split at h
  rotate_left
  · exact h.elim
  rename_i hpl
  cases qF : loopC vs (asg t) ft fe ds { s1 with r := wipeS s1.r vs } with
  | exc => simp only [qF, bind_exc] at h; exact h.elim
  | stuck => simp only [qF, bind_stuck] at h; exact h.elim
  | ok ys sF =>
  simp only [qF, bind_ok] at h
  split at h
  rotate_left
  · exact h.elim
  rename_i hsz
  obtain ⟨hGp0, hPp, hip⟩ := R1.pn hp
  have h00 : B.G0 p = none := by
    cases q : B.G0 p with
    | none => rfl
    | some o => have := R1.g0 p o q; rw [hGp0] at this; cases this
  refine lc_it W (fun i H => ∃ G io s acc vacc, Rep K (B.guard p vacc) G io s (wipe σ vs) H ∧ Sub G1 G ∧ io1 <+: io ∧ DVs K G io vacc acc ∧ acc.length ≤ i ∧ ∃ zs, loopC vs (asg t) ft fe (ds.drop i) s = .ok zs sF ∧ acc ++ zs = ys)
    ⟨G1, io1, _, [], [], (R1.guard hp).wiped vs, Sub.rfl', List.prefix_refl _, .nil, Nat.le_refl _, ys, by simpa using qF, rfl⟩ (fun i H _ ⟨G, _, _, _, _, Ri, sg, _⟩ => hGp H (sg.tr Ri.le)) (fun i x H2 H3 hi ⟨G2, io2, s2, acc, vacc, R2, sg2, p2, dva, hla, zs, hz, hcat⟩ y => ?_) (fun H2 ⟨G2, io2, s2, acc, vacc, R2, sg2, p2, dva, hla, zs, hz, hcat⟩ => ?_)
  · obtain ⟨G3, d, hd, R3, sg3, dvx⟩ := hY i H2 x H3 G2 io2 _ _ _ hi sg2 p2 R2 y
    have edrop : ds.drop i = d :: ds.drop (i + 1) := by
      obtain ⟨hlt, he⟩ := List.getElem?_eq_some_iff.mp hd
      rw [List.drop_eq_getElem_cons hlt, he]
    rw [edrop] at hz
    obtain ⟨s3, hg3, b, s4, ht4, hb⟩ := loopC_cons hz
    refine hg _ x _ H3 _ ⟨G3, io2, s2, d, R3, dvx, ?_⟩
    rw [hg3]
    intro σ3 R3' o3
    refine ⟨wipe_out_eq o3 hw, ht _ σ3 H3 _ ⟨G3, io2, s3, R3', ?_⟩⟩
    rw [ht4]
    intro G4 io4 H4 R4 sg4 p4
    have sub4 : Sub G1 G4 := sg2.tr (sg3.tr sg4)
    have pre4 : io1 <+: io4 := p2.trans p4
    rcases hb with ⟨rfl, y, s5, zs', he5, hz', rfl⟩ | ⟨rfl, hz'⟩
    · rw [if_pos rfl]
      refine he _ σ3 H4 _ ⟨G4, io4, s4, R4, ?_⟩
      rw [he5]
      intro G5 io5 v5 H5 R5 sg5 p5 dv5
      refine ⟨vacc, R5.fr p _ upd_same, by rw [dva.length]; omega, G5, io5, _, acc ++ [y], vacc ++ [v5], ?_, sub4.tr sg5, pre4.trans p5, (dva.up (sg3.tr (sg4.tr sg5)) (p4.trans p5)).app (.cons dv5 .nil), by simp; omega, zs', hz', by rw [← hcat]; simp⟩
      have := (R5.reguard (ws := vacc ++ [v5]) h00).wiped vs
      rw [wipe_out_eq o3 hw] at this
      exact this
    · rw [if_neg Bool.false_ne_true]
      refine ⟨G4, io4, _, acc, vacc, ?_, sub4, pre4, dva.up (sg3.tr sg4) p4, by omega, zs, hz', hcat⟩
      have := R4.wiped vs
      rw [wipe_out_eq o3 hw] at this
      exact this
  · rw [List.drop_length] at hz
    have hz : (DL.R.ok [] s2 : DL.R (List D)) = DL.R.ok zs sF := by simpa [loopC] using hz
    cases hz
    rw [List.append_nil] at hcat
    subst hcat
    have pre : ∀ {a}, a ≠ p → (B.guard p vacc).P a = B.P a := fun {a} n => upd_ne n
    have ofP : ∀ {a}, (B.guard p vacc).P a = none → a ≠ p ∧ B.P a = none := fun {a} e => by
      have n : a ≠ p := fun z => by
        have e : upd B.P p (.lst vacc) a = none := e
        rw [z, upd_same] at e; cases e
      exact ⟨n, (pre n).symm.trans e⟩
    have noG : G2 p = none := by
      cases q : G2 p with
      | none => rfl
      | some o =>
        rcases R2.gnew p o q with z | z
        · have z : B.G0 p = some o := z
          rw [h00] at z; cases z
        · exact absurd rfl (ofP z).1
    have noI : p ∉ io2 := fun z => absurd rfl (ofP (R2.cg p z).2).1
    have get1 : ∀ {j : Nat} {x : Sl}, (backS s1.r sF.r vs)[j]? = some (some x) → (j ∈ vs ∧ s1.r[j]? = some (some x)) ∨ (j ∉ vs ∧ sF.r[j]? = some (some x)) := fun {j x} e => by
      rcases backS_some e with z | ⟨z1, z2⟩
      · exact .inl z
      · by_cases hj : j ∈ vs
        · have := z2 hj
          have hl : sF.r.length = s1.r.length := by rw [R2.len, wipe_length, R1.len]
          have h2 : j < sF.r.length := (List.getElem?_eq_some_iff.mp z1).1
          rw [List.getElem?_eq_none_iff] at this
          omega
        · exact .inr ⟨hj, z1⟩
    have Rb : Rep K B G2 io2 { sF with r := backS s1.r sF.r vs } σ H2 := by
      refine ⟨R2.le, R2.nd, R2.ml, R2.cell, fun a ha => ⟨(R2.cg a ha).1, (ofP (R2.cg a ha).2).2⟩, ?_, fun j d e => ?_, fun j xs e => ?_, fun i j xs ys a n e1 e2 e3 => ?_, fun a o e => ?_, R2.g0, fun a o e => ?_, R2.i0⟩
      · show (backS s1.r sF.r vs).length = σ.length
        rw [backS_len, R2.len, wipe_length]
      · rcases get1 e with ⟨hj, e'⟩ | ⟨hj, e'⟩
        · obtain ⟨v, e1, dv⟩ := R1.val j d e'
          exact ⟨v, e1, dv.up sg2 p2⟩
        · obtain ⟨v, e1, dv⟩ := R2.val j d e'
          exact ⟨v, by rw [wipe_get hj] at e1; exact e1, dv⟩
      · rcases get1 e with ⟨hj, e'⟩ | ⟨hj, e'⟩
        · exact absurd e' (plainAt_no hpl hj xs)
        · obtain ⟨a, us, e1, e2, e3, e4, e5, e6⟩ := R2.own j xs e'
          exact ⟨a, us, by rw [wipe_get hj] at e1; exact e1, e2, e3, e4, e5, (ofP e6).2⟩
      · rcases get1 e1 with ⟨hj, e'⟩ | ⟨hj, e'⟩
        · exact absurd e' (plainAt_no hpl hj xs)
        · rcases get1 e2 with ⟨hk, e''⟩ | ⟨hk, e''⟩
          · exact absurd e'' (plainAt_no hpl hk ys)
          · have := R2.apart i j xs ys a n e' e'' (by rw [wipe_get hj]; exact e3)
            rw [wipe_get hk] at this
            exact this
      · by_cases z : a = p
        · subst z; rw [hPp] at e; cases e
        · exact R2.fr a o ((pre z).trans e)
      · rcases R2.gnew a o e with z | z
        · exact .inl z
        · exact .inr (ofP z).2
    refine h G2 io2 p vacc H2 Rb (sg1.tr sg2) (p1.trans p2) ⟨R2.fr p _ upd_same, dva, noG, noI, hPp, fun j xs e z => ?_⟩
    rcases get1 e with ⟨hj, e'⟩ | ⟨hj, e'⟩
    · exact absurd e' (plainAt_no hpl hj xs)
    · obtain ⟨a, us, e1, e2, e3, e4, e5, e6⟩ := R2.own j xs e'
      rw [wipe_get hj, z] at e1
      cases e1
      exact (ofP e6).1 rfl
theorem PTs.imp {X : Cx} {es : List Expr} {u u' : TT} (h : PTs X es u) (i : ∀ σ H Q, u' σ H Q → u σ H Q) : PTs X es u' := ⟨fun pins s σ H Q I q => h.run pins s σ H Q I (i σ H Q q)⟩
theorem s_comp (hc : X.calm = true) (hN : X.N.Nodup) (ok : blkC X.N X.env.scope scope own = true) (hw : ∀ j, j ∈ tgW t → j ∈ own.map (·.2)) (hfs : ∀ es k p, iter ≠ .Set es k p) (hi : ∀ B, PI X tg iter (tI X.K B fi))
    (hg : ∀ (s : Shared) (H : Hp) (C : Addr) (cl : List (Str × Addr)) (fp : List Addr) (B : Bs), PG (X.blk s H scope (compEnvC scope cl C X.env) fp) tg (tG X.K B (tgW t) (asg t)))
    (ht : ∀ (s : Shared) (H : Hp) (C : Addr) (cl : List (Str × Addr)) (fp : List Addr) (B : Bs), PTs (X.blk s H scope (compEnvC scope cl C X.env) fp) ifs (tT X.K B ft))
    (he : ∀ (s : Shared) (H : Hp) (C : Addr) (cl : List (Str × Addr)) (fp : List Addr) (B : Bs), PE (X.blk s H scope (compEnvC scope cl C X.env) fp) elt (tD X.K B fe)) (B : Bs) :
    PE X (.ListComp elt [⟨tg, iter, ifs, 0⟩] scope pos) (tL X.K B (lcF (own.map (·.2)) t fi ft fe)) := by
  have hfold : ∀ x, foldedSetIterable iter X.env x = pure x := fun x => by
    cases iter <;> first | rfl | exact absurd rfl (hfs _ _ _)
  have e := pe_lc (te := fun σ H Q => ∃ B, tD X.K B fe σ H Q) (g := fun v σ H Q => ∃ B, tG X.K B (tgW t) (asg t) v σ H Q) (tt := fun σ H Q => ∃ B, tT X.K B ft σ H Q) (wi := fun σ H Q => ∃ B, tI X.K B fi σ H Q) (pos := pos) hc hN
    ⟨fun pins s σ H Q I ⟨B, q⟩ => (hi B).run pins s σ H Q I q⟩ (blkOk_by ok) (fun s H C cl fp => ⟨fun pins s' σ H' v u Q I r ⟨B, q⟩ => (hg s H C cl fp B).run pins s' σ H' v u Q I r q⟩)
    (fun s H C cl fp => ⟨fun pins s' σ H' Q I ⟨B, q⟩ => (ht s H C cl fp B).run pins s' σ H' Q I q⟩) (fun s H C cl fp => ⟨fun pins s' σ H' Q I ⟨B, q⟩ => (he s H C cl fp B).run pins s' σ H' Q I q⟩) hfold
  exact PE.imp e fun σ H Q h => tLc_run hw (fun σ H Q q => ⟨B, q⟩) (fun B v σ H Q q => ⟨B, q⟩) (fun B σ H Q q => ⟨B, q⟩) (fun B σ H Q q => ⟨B, q⟩) σ H Q h
/-- y = [..] on one line -/
theorem s_setComp {i : Nat} {y : Str} {py spos : Pos} (hc : X.calm = true) (hN : X.N.Nodup) (hy : X.N[i]? = some y) (hyl : X.env.scope.names.lookup y = some .local) (hsw : swapsWith (.ListComp elt [⟨tg, iter, ifs, 0⟩] scope pos) (some (.Name y py)) spos.line X.env = pure true)
    (ok : blkC X.N X.env.scope scope own = true) (hw : ∀ j, j ∈ tgW t → j ∈ own.map (·.2)) (hfs : ∀ es k p, iter ≠ .Set es k p) (hi : ∀ B, PI X tg iter (tI X.K B fi))
    (hg : ∀ (s : Shared) (H : Hp) (C : Addr) (cl : List (Str × Addr)) (fp : List Addr) (B : Bs), PG (X.blk s H scope (compEnvC scope cl C X.env) fp) tg (tG X.K B (tgW t) (asg t)))
    (ht : ∀ (s : Shared) (H : Hp) (C : Addr) (cl : List (Str × Addr)) (fp : List Addr) (B : Bs), PTs (X.blk s H scope (compEnvC scope cl C X.env) fp) ifs (tT X.K B ft))
    (he : ∀ (s : Shared) (H : Hp) (C : Addr) (cl : List (Str × Addr)) (fp : List Addr) (B : Bs), PE (X.blk s H scope (compEnvC scope cl C X.env) fp) elt (tD X.K B fe)) (B : Bs) :
    PS X (.Assign [.Name y py] (.ListComp elt [⟨tg, iter, ifs, 0⟩] scope pos) spos) (tAsg (tL X.K B (lcF (own.map (·.2)) t fi ft fe)) (gName i)) := by
  have hfold : ∀ x, foldedSetIterable iter X.env x = pure x := fun x => by
    cases iter <;> first | rfl | exact absurd rfl (hfs _ _ _)
  have e := ps_setLc (te := fun σ H Q => ∃ B, tD X.K B fe σ H Q) (g := fun v σ H Q => ∃ B, tG X.K B (tgW t) (asg t) v σ H Q) (tt := fun σ H Q => ∃ B, tT X.K B ft σ H Q) (wi := fun σ H Q => ∃ B, tI X.K B fi σ H Q) (pos := pos) (spos := spos) hc hN hy hyl hsw
    ⟨fun pins s σ H Q I ⟨B, q⟩ => (hi B).run pins s σ H Q I q⟩ (blkOk_by ok) (fun s H C cl fp => ⟨fun pins s' σ H' v u Q I r ⟨B, q⟩ => (hg s H C cl fp B).run pins s' σ H' v u Q I r q⟩)
    (fun s H C cl fp => ⟨fun pins s' σ H' Q I ⟨B, q⟩ => (ht s H C cl fp B).run pins s' σ H' Q I q⟩) (fun s H C cl fp => ⟨fun pins s' σ H' Q I ⟨B, q⟩ => (he s H C cl fp B).run pins s' σ H' Q I q⟩) hfold
  exact PS.imp e fun D σ H h => tLc_run hw (fun σ H Q q => ⟨B, q⟩) (fun B v σ H Q q => ⟨B, q⟩) (fun B σ H Q q => ⟨B, q⟩) (fun B σ H Q q => ⟨B, q⟩) σ H _ h
end
end DL
end

section
set_option Elab.async false
set_option linter.all false
set_option autoImplicit false
set_option maxRecDepth 100000
set_option maxHeartbeats 1000000
namespace DL
open PySem PySem.Spec L2

/-! ### statements -/
def postS (K : PySem.W.Frag) (B : Bs) (G : Hp) (io : List Addr) (r : R Fl) (D : Ends) : Prop := match r with
  | .ok .next s => ∀ G' io' σ' H', Rep K B G' io' s σ' H' → Sub G G' → io <+: io' → D.nx σ' H'
  | .ok .brk s => ∀ G' io' σ' H', Rep K B G' io' s σ' H' → Sub G G' → io <+: io' → D.bk σ' H'
  | .ok .cont s => ∀ G' io' σ' H', Rep K B G' io' s σ' H' → Sub G G' → io <+: io' → D.ct σ' H'
  | .ok (.ret d) s => ∀ G' io' σ' H' v, Rep K B G' io' s σ' H' → Sub G G' → io <+: io' → DV K G' io' v d → D.rt v H'
  | _ => False
def tSt (K : PySem.W.Frag) (B : Bs) (f : S → R Fl) : TS := fun D σ H => ∃ G io s, Rep K B G io s σ H ∧ postS K B G io (f s) D
theorem nodup_at {α : Type} : ∀ {l : List α} {i j : Nat} {x : α}, l.Nodup → l[i]? = some x → l[j]? = some x → i = j
  | [], _, _, _, _, h, _ => by simp at h
  | y :: l, 0, 0, _, _, _, _ => rfl
  | y :: l, 0, j + 1, x, n, h1, h2 => by
    simp at h1 h2; subst h1
    exact absurd (List.mem_of_getElem? h2) (List.nodup_cons.mp n).1
  | y :: l, i + 1, 0, x, n, h1, h2 => by
    simp at h1 h2; subst h2
    exact absurd (List.mem_of_getElem? h1) (List.nodup_cons.mp n).1
  | y :: l, i + 1, j + 1, x, n, h1, h2 => by
    exact congrArg (· + 1) (nodup_at (l := l) (x := x) (List.nodup_cons.mp n).2 (by simpa using h1) (by simpa using h2))
section
variable {K : PySem.W.Frag} {B : Bs} {G G1 : Hp} {io io1 : List Addr} {s : S} {σ : L2.St} {H : Hp} {De : Ends}
theorem postS.up {r : R Fl} (h : postS K B G io r De) (sg : Sub G G1) (p : io <+: io1) : postS K B G1 io1 r De := by
  cases r with
  | ok f s => cases f with
    | ret d => exact fun G' io' σ' H' v R s1 p1 dv => h G' io' σ' H' v R (sg.tr s1) (p.trans p1) dv
    | _ => exact fun G' io' σ' H' R s1 p1 => h G' io' σ' H' R (sg.tr s1) (p.trans p1)
  | exc => exact h
  | stuck => exact h
theorem postS.nx {s : S} (h : postS K B G io (.ok .next s) De) (R : Rep K B G io s σ H) : De.nx σ H := h G io σ H R Sub.rfl' (List.prefix_refl _)
theorem tD.runS {f : S → R D} {g : D → S → R Fl} (R : Rep K B G io s σ H) (h : postS K B G io ((f s).bind g) De) {Q1 : VK}
    (k : ∀ d s1 G1 io1 v H1, f s = .ok d s1 → Rep K B G1 io1 s1 σ H1 → Sub G G1 → io <+: io1 → DV K G1 io1 v d → postS K B G1 io1 (g d s1) De → Q1 v H1) : tD K B f σ H Q1 := by
  refine ⟨G, io, s, R, ?_⟩
  cases e : f s with
  | ok d s1 =>
    rw [e] at h
    exact fun G1 io1 v H1 R1 sg p dv => k d s1 G1 io1 v H1 e R1 sg p dv (postS.up h sg p)
  | exc => rw [e] at h; exact h.elim
  | stuck => rw [e] at h; exact h.elim
theorem tT.runS {f : S → DL.R Bool} {g : Bool → S → DL.R Fl} (R : Rep K B G io s σ H) (h : postS K B G io ((f s).bind g) De) {Q1 : Bool → Hp → Prop}
    (k : ∀ d s1 G1 io1 H1, f s = .ok d s1 → Rep K B G1 io1 s1 σ H1 → Sub G G1 → io <+: io1 → postS K B G1 io1 (g d s1) De → Q1 d H1) : tT K B f σ H Q1 := by
  refine ⟨G, io, s, R, ?_⟩
  cases e : f s with
  | ok d s1 =>
    rw [e] at h
    exact fun G1 io1 H1 R1 sg p => k d s1 G1 io1 H1 e R1 sg p (postS.up h sg p)
  | exc => rw [e] at h; exact h.elim
  | stuck => rw [e] at h; exact h.elim
theorem opt_postS {α : Type} {o : Option α} {g : α → S → DL.R Fl} (h : postS K B G io ((opt o s).bind g) De) : ∃ a, o = some a ∧ postS K B G io (g a s) De := by
  cases o with
  | none => exact h.elim
  | some a => exact ⟨a, rfl, h⟩
/-- a list of its own is written -/
theorem Rep.ownw (R : Rep K B G io s σ H) {i : Nat} {a : Addr} {xs ys : List D} {vs : List V} (h : s.r[i]? = some (some (.own xs))) (ha : σ[i]? = some (some (.ref a))) (dv : DVs K G io vs ys) :
    Rep K B G io { s with r := s.r.set i (some (.own ys)) } σ (upd H a (.lst vs)) := by
  obtain ⟨a', us, e1, e2, e3, e4, e5, e6⟩ := R.own i xs h
  rw [ha] at e1; cases e1
  have hi : i < s.r.length := (List.getElem?_eq_some_iff.mp h).1
  have nG : ∀ {b o}, G b = some o → b ≠ a := fun {b o} q z => by rw [z, e4] at q; cases q
  refine ⟨fun b o q => by rw [upd_ne (nG q)]; exact R.le b o q, R.nd, R.ml, fun k c q => ?_, R.cg, by simpa using R.len, fun j d q => ?_, fun j zs q => ?_, fun j k zs ws b n q1 q2 q3 => ?_, fun b o q => ?_, R.g0, R.gnew, R.i0⟩
  · obtain ⟨b, ws, q1, q2, q3⟩ := R.cell k c q
    have n : b ≠ a := fun z => e5 (by rw [← z]; exact List.mem_of_getElem? q1)
    exact ⟨b, ws, q1, (upd_ne n).trans q2, q3⟩
  · rcases get_set q with ⟨rfl, z, _⟩ | ⟨n, q⟩
    · cases z
    · exact R.val j d q
  · rcases get_set q with ⟨rfl, z, _⟩ | ⟨n, q⟩
    · cases z
      exact ⟨a, vs, ha, upd_same, dv, e4, e5, e6⟩
    · obtain ⟨b, ws, q1, q2, q3, q4, q5, q6⟩ := R.own j zs q
      have nb : b ≠ a := fun z => R.apart i j xs zs a n h q ha (by rw [← z]; exact q1)
      exact ⟨b, ws, q1, (upd_ne nb).trans q2, q3, q4, q5, q6⟩
  · have old : ∀ {j : Nat} {zs : List D}, (s.r.set i (some (.own ys)))[j]? = some (some (.own zs)) → ∃ zs', s.r[j]? = some (some (.own zs')) := fun {j zs} q => by
      rcases get_set q with ⟨rfl, z, _⟩ | ⟨n, q⟩
      · exact ⟨xs, h⟩
      · exact ⟨zs, q⟩
    obtain ⟨zs', q1'⟩ := old q1
    obtain ⟨ws', q2'⟩ := old q2
    exact R.apart j k zs' ws' b n q1' q2' q3
  · have n : b ≠ a := fun z => by rw [z, e6] at q; cases q
    rw [upd_ne n]; exact R.fr b o q
/-- a cell is written -/
theorem Rep.cellw (R : Rep K B G io s σ H) {c : Nat} {a : Addr} {xs ys : List D} {vs : List V} (h : s.m[c]? = some xs) (ha : io[c]? = some a) (dv : DVs K G io vs ys) :
    Rep K B G io { s with m := s.m.set c ys } σ (upd H a (.lst vs)) := by
  have hin : a ∈ io := List.mem_of_getElem? ha
  have e4 := (R.cg a hin).1
  have e6 := (R.cg a hin).2
  have hc : c < s.m.length := (List.getElem?_eq_some_iff.mp h).1
  have nG : ∀ {b o}, G b = some o → b ≠ a := fun {b o} q z => by rw [z, e4] at q; cases q
  have ml := R.ml
  refine ⟨fun b o q => by rw [upd_ne (nG q)]; exact R.le b o q, R.nd, by simp [ml], fun k x q => ?_, R.cg, R.len, R.val, fun j zs q => ?_, R.apart, fun b o q => ?_, R.g0, R.gnew, R.i0⟩
  · have q : (s.m.set c ys)[k]? = some x := q
    rcases get_set q with ⟨rfl, z, _⟩ | ⟨n, q⟩
    · cases z; exact ⟨a, vs, ha, upd_same, dv⟩
    · obtain ⟨b, ws, q1, q2, q3⟩ := R.cell k x q
      have nb : b ≠ a := fun z => by
        subst z
        exact n (nodup_at R.nd ha q1)
      exact ⟨b, ws, q1, (upd_ne nb).trans q2, q3⟩
  · obtain ⟨b, ws, q1, q2, q3, q4, q5, q6⟩ := R.own j zs q
    have nb : b ≠ a := fun z => q5 (by rw [z]; exact hin)
    exact ⟨b, ws, q1, (upd_ne nb).trans q2, q3, q4, q5, q6⟩
  · have n : b ≠ a := fun z => by rw [z, e6] at q; cases q
    rw [upd_ne n]; exact R.fr b o q
theorem ownAt_v (R : Rep K B G io s σ H) {i : Nat} {xs : List D} (h : ownAt i s = some xs) : s.r[i]? = some (some (.own xs)) ∧ ∃ a vs, σ[i]? = some (some (.ref a)) ∧ H a = some (.lst vs) ∧ DVs K G io vs xs ∧ G a = none := by
  unfold ownAt at h
  split at h
  · rename_i ys q
    cases h
    obtain ⟨a, vs, e1, e2, e3, e4, _⟩ := R.own i _ q
    exact ⟨q, a, vs, e1, e2, e3, e4⟩
  · cases h
theorem ix_set {vs : List V} {ds : List D} {k : Int} {j : Nat} (dv : DVs K G io vs ds) (h : ixN ds.length k = some j) : ixN vs.length k = some j := by rw [dv.length]; exact h
end

section
variable {X : Cx} {e a b : Expr} {pos : Pos} {fa fb : S → R D}
theorem sw_none {o : Option Expr} {l : Nat} (h : ∀ elt gs sc p, e ≠ .ListComp elt gs sc p) (h2 : ∀ elt gs sc p, e ≠ .SetComp elt gs sc p) (h3 : ∀ k v gs sc p, e ≠ .DictComp k v gs sc p) : swapsWith e o l X.env = pure false := by
  cases e <;> first | rfl | exact absurd rfl (h _ _ _ _) | exact absurd rfl (h2 _ _ _ _) | exact absurd rfl (h3 _ _ _ _ _)
/-- an expression that is no comprehension -/
def noComp : Expr → Bool
  | .ListComp .. => false | .SetComp .. => false | .DictComp .. => false | _ => true
theorem sw_no {o : Option Expr} {l : Nat} (h : noComp e = true) : swapsWith e o l X.env = pure false := by
  cases e <;> first | rfl | cases h
theorem d_set {i : Nat} {x : Str} {py : Pos} (hN : X.N.Nodup) (hi : X.N[i]? = some x) (hx : Loc X.env.scope x) (hf : X.fn x = true ∨ X.env.scope.names.lookup x = some .local) (hs : ∀ B, PS X (.Assign [.Name x py] e pos) (tAsg (tD X.K B fa) (gName i))) (B : Bs) :
    PS X (.Assign [.Name x py] e pos) (tSt X.K B fun s => (fa s).bind fun d s => (opt (setV i d s) s).bind fun s _ => .ok .next s) := by
  refine PS.imp (hs B) fun D σ H ⟨G, io, s, R, h⟩ => ?_
  refine tD.runS R h fun d s1 G1 io1 v H1 e1 R1 sg1 p1 dv1 h1 => ?_
  obtain ⟨s2, e2, h2⟩ := opt_postS h1
  unfold setV at e2
  split at e2
  · rename_i hl
    cases e2
    exact postS.nx h2 (R1.setv dv1 hl)
  · cases e2
theorem d_own {i : Nat} {x : Str} {py : Pos} (hs : ∀ B, PS X (.Assign [.Name x py] e pos) (tAsg (tL X.K B fa) (gName i))) (B : Bs) :
    PS X (.Assign [.Name x py] e pos) (tSt X.K B fun s => (fa s).bind fun d s => (opt (own1 i d s) s).bind fun s _ => .ok .next s) := by
  refine PS.imp (hs B) fun D σ H ⟨G, io, s, R, h⟩ => ?_
  refine ⟨G, io, s, R, ?_⟩
  cases q : fa s with
  | exc => simp only [q, bind_exc] at h; exact h.elim
  | stuck => simp only [q, bind_stuck] at h; exact h.elim
  | ok d s1 =>
    simp only [q, bind_ok] at h
    cases d <;> first | exact h.elim | skip
    rename_i ds
    intro G1 io1 p vs H1 R1 sg1 p1 F
    have h1 := postS.up h sg1 p1
    obtain ⟨s2, e2, h2⟩ := opt_postS h1
    simp only [own1] at e2
    split at e2
    · rename_i hl
      cases e2
      exact postS.nx h2 (R1.seto F hl)
    · cases e2
theorem d_unp {k : Nat} {es : List Expr} {pt : Pos} {t : DTg} (ha : ∀ B, PE X e (tD X.K B fa)) (hg : ∀ B, PG X (.Tuple es k pt) (tG X.K B (tgW t) (asg t))) (hn : ∀ vs k p, e ≠ .Tuple vs k p) (B : Bs) :
    PS X (.Assign [.Tuple es k pt] e pos) (tSt X.K B fun s => (fa s).bind fun d s => (opt (asg t d s) s).bind fun s _ => .ok .next s) := by
  refine PS.imp (ps_asg (ha B) (hg B) (by cases e <;> rfl) (by cases e <;> first | rfl | exact absurd rfl (hn _ _ _))) fun D σ H ⟨G, io, s, R, h⟩ => ?_
  refine tD.runS R h fun d s1 G1 io1 v H1 e1 R1 sg1 p1 dv1 h1 => ?_
  obtain ⟨s2, e2, h2⟩ := opt_postS h1
  refine ⟨G1, io1, s1, d, R1, dv1, ?_⟩
  rw [e2]
  exact fun σ' R' o => postS.nx h2 R'
theorem d_app {i : Nat} {x : Str} {p1 p2 cp : Pos} (hN : X.N[i]? = some x) (hv : Vis X.env.scope x) (hd : (x == ("__debug__" : Str)) = false) (hcd : (x == ("__classdict__" : Str)) = false) (hl : (p2.endLine == cp.line) = true) (ha : ∀ B, PE X a (tD X.K B fa)) (hst : starred a = false) (B : Bs) :
    PS X (.Expr (.Call (.Attribute (.Name x p1) "append" p2) [a] [] cp) pos) (tSt X.K B fun s => if (ownAt i s).isSome then (fa s).bind fun d s => (opt (ownAt i s) s).bind fun xs s =>
      if xs.length < sizeLine then .ok .next { s with r := s.r.set i (some (.own (xs ++ [d]))) } else .stuck else .stuck) := by
  refine PS.imp (ps_expr (pe_bm PySem.F.plainAttrs_list PySem.F.slot_list_append PySem.F.type_list_append mt_append (pe_var hN hv hd hcd) (pa_cons (ha B) pa_nil (star_ns hst)) rfl (by rw [star_ns hst]; rfl) hl (star_ns hst) (starEach_any rfl))) fun D σ H ⟨G, io, s, R, h⟩ => ?_
  dsimp only at h
  split at h
  rotate_left
  · exact h.elim
  rename_i hs
  obtain ⟨xs0, q0⟩ := Option.isSome_iff_exists.mp hs
  obtain ⟨_, a0, vs0, e0, h0, _⟩ := ownAt_v R q0
  refine ⟨_, e0, .inl ⟨rfl, vs0, SqL.of h0⟩, ?_⟩
  refine tD.runS R h fun d s1 G1 io1 v H1 e1 R1 sg1 p1 dv1 h1 => ?_
  obtain ⟨xs, q, h2⟩ := opt_postS h1
  obtain ⟨e2, a1, vs1, e3, h3, dvs, _⟩ := ownAt_v R1 q
  rw [e0] at e3; cases e3
  split at h2
  · rename_i hz
    exact ⟨a0, vs1, v, rfl, rfl, h3, by rw [dvs.length]; exact hz, postS.nx h2 (R1.ownw e2 e0 (dvs.app (.cons dv1 .nil)))⟩
  · exact h2.elim
theorem d_ext {i : Nat} {x : Str} {p1 p2 cp : Pos} (hN : X.N[i]? = some x) (hv : Vis X.env.scope x) (hd : (x == ("__debug__" : Str)) = false) (hcd : (x == ("__classdict__" : Str)) = false) (hl : (p2.endLine == cp.line) = true) (ha : ∀ B, PE X a (tD X.K B fa)) (hst : starred a = false) (B : Bs) :
    PS X (.Expr (.Call (.Attribute (.Name x p1) "extend" p2) [a] [] cp) pos) (tSt X.K B fun s => if (ownAt i s).isSome then (fa s).bind fun d s => (opt (ownAt i s) s).bind fun xs s => (match d with
      | .lst ys => if xs.length + ys.length ≤ sizeLine then .ok .next { s with r := s.r.set i (some (.own (xs ++ ys))) } else .stuck
      | _ => .stuck) else .stuck) := by
  refine PS.imp (ps_expr (pe_bm PySem.F.plainAttrs_list PySem.F.slot_list_extend PySem.F.type_list_extend mt_extend (pe_var hN hv hd hcd) (pa_cons (ha B) pa_nil (star_ns hst)) rfl (by rw [star_ns hst]; rfl) hl (star_ns hst) (starEach_any rfl))) fun D σ H ⟨G, io, s, R, h⟩ => ?_
  dsimp only at h
  split at h
  rotate_left
  · exact h.elim
  rename_i hs
  obtain ⟨xs0, q0⟩ := Option.isSome_iff_exists.mp hs
  obtain ⟨_, a0, vs0, e0, h0, _⟩ := ownAt_v R q0
  refine ⟨_, e0, .inl ⟨rfl, vs0, SqL.of h0⟩, ?_⟩
  refine tD.runS R h fun d s1 G1 io1 v H1 e1 R1 sg1 p1 dv1 h1 => ?_
  obtain ⟨xs, q, h2⟩ := opt_postS h1
  obtain ⟨e2, a1, vs1, e3, h3, dvs, _⟩ := ownAt_v R1 q
  rw [e0] at e3; cases e3
  cases dv1 <;> first | exact h2.elim | skip
  rename_i b ws ds hb hds
  simp only at h2
  split at h2
  · rename_i hz
    exact ⟨a0, b, vs1, ws, rfl, rfl, h3, R1.le _ _ hb, by rw [dvs.length, hds.length]; exact hz, postS.nx h2 (R1.ownw e2 e0 (dvs.app hds))⟩
  · exact h2.elim
theorem d_putv {i : Nat} {x : Str} {p1 p2 : Pos} (hN : X.N[i]? = some x) (hv : Vis X.env.scope x) (hd : (x == ("__debug__" : Str)) = false) (hcd : (x == ("__classdict__" : Str)) = false) (ha : ∀ B, PE X a (tD X.K B fa)) (hb : ∀ B, PE X b (tD X.K B fb)) (hn : noComp a = true) (hsl : isSlice b = false) (hnt : ∀ vs k p, a ≠ .Tuple vs k p) (B : Bs) :
    PS X (.Assign [.Subscript (.Name x p1) b p2] a pos) (tSt X.K B fun s => (fa s).bind fun d s => if (ownAt i s).isSome then (fb s).bind fun kd s => (opt (ownAt i s) s).bind fun xs s => (match kd with
      | .int k => (match ixN xs.length k with
        | some j => .ok .next { s with r := s.r.set i (some (.own (xs.set j d))) }
        | none => .stuck)
      | _ => .stuck) else .stuck) := by
  refine PS.imp (ps_asg (ha B) (pg_sub (pe_var hN hv hd hcd) (hb B) set_list (by intro v; cases b <;> first | rfl | cases hsl)) (by cases a <;> first | rfl | cases hn) (by cases a <;> rfl)) fun D σ H ⟨G, io, s, R, h⟩ => ?_
  refine tD.runS R h fun d s1 G1 io1 v H1 e1 R1 sg1 p1 dv1 h1 => ?_
  split at h1
  rotate_left
  · exact h1.elim
  rename_i hs
  obtain ⟨xs0, q0⟩ := Option.isSome_iff_exists.mp hs
  obtain ⟨_, a0, vs0, e0, h0, _⟩ := ownAt_v R1 q0
  refine ⟨_, e0, ?_⟩
  refine tD.runS R1 h1 fun kd s2 G2 io2 w H2 e2 R2 sg2 p2 dv2 h2 => ?_
  obtain ⟨xs, q, h3⟩ := opt_postS h2
  obtain ⟨e3, a1, vs1, e4, h4, dvs, _⟩ := ownAt_v R2 q
  rw [e0] at e4; cases e4
  cases dv2 <;> first | exact h3.elim | skip
  rename_i k
  simp only at h3
  cases q2 : ixN xs.length k with
  | none => rw [q2] at h3; exact h3.elim
  | some j =>
    rw [q2] at h3
    exact ⟨a0, vs1, k, j, rfl, rfl, h4, ix_set dvs q2, postS.nx h3 (R2.ownw e3 e0 (dvs.set (dv1.up sg2 p2) j))⟩
theorem d_put {c : Expr} {fc : S → R D} {p2 : Pos} (ha : ∀ B, PE X a (tD X.K B fa)) (hc : ∀ B, PE X c (tD X.K B fc)) (hb : ∀ B, PE X b (tD X.K B fb)) (hn : noComp a = true) (hsl : isSlice b = false) (B : Bs) :
    PS X (.Assign [.Subscript c b p2] a pos) (tSt X.K B fun s => (fa s).bind fun d s => (fc s).bind fun ad s => (fb s).bind fun kd s => (match ad, kd with
    | .ref c, .int k => (match s.m[c]? with
      | some xs => (match ixN xs.length k with
        | some j => .ok .next { s with m := s.m.set c (xs.set j d) }
        | none => .stuck)
      | none => .stuck)
    | _, _ => .stuck)) := by
  refine PS.imp (ps_asg (ha B) (pg_sub (hc B) (hb B) set_list (by intro v; cases b <;> first | rfl | cases hsl)) (by cases a <;> first | rfl | cases hn) (by cases a <;> rfl)) fun D σ H ⟨G, io, s, R, h⟩ => ?_
  refine tD.runS R h fun d s1 G1 io1 v H1 e1 R1 sg1 p1 dv1 h1 => ?_
  refine tD.runS R1 h1 fun ad s2 G2 io2 w H2 e2 R2 sg2 p2 dv2 h2 => ?_
  refine tD.runS R2 h2 fun kd s3 G3 io3 u H3 e3 R3 sg3 p3 dv3 h3 => ?_
  cases dv2 <;> first | exact h3.elim | skip
  rename_i a1 cc hcell
  cases dv3 <;> first | exact h3.elim | skip
  rename_i k
  simp only at h3
  cases q : s3.m[cc]? with
  | none => rw [q] at h3; exact h3.elim
  | some xs =>
    rw [q] at h3
    simp only at h3
    cases q2 : ixN xs.length k with
    | none => rw [q2] at h3; exact h3.elim
    | some j =>
      rw [q2] at h3
      obtain ⟨b1, vs, z1, z2, z3⟩ := R3.cell cc xs q
      have hc3 : io3[cc]? = some a1 := by
        obtain ⟨t, rfl⟩ := p3
        rw [List.getElem?_append_left (List.getElem?_eq_some_iff.mp hcell).1]; exact hcell
      rw [hc3] at z1; cases z1
      exact ⟨a1, vs, k, j, rfl, rfl, z2, ix_set z3 q2, postS.nx h3 (R3.cellw q hc3 (z3.set (dv1.up (sg2.tr sg3) (p2.trans p3)) j))⟩
theorem d_drop (ha : ∀ B, PE X a (tD X.K B fa)) (hn : noComp a = true) (B : Bs) : PS X (.Expr a pos) (tSt X.K B fun s => (fa s).bind fun _ s => .ok .next s) := by
  refine PS.imp (ps_expr (ha B) (sw_no hn)) fun D σ H ⟨G, io, s, R, h⟩ => ?_
  exact tD.runS R h fun d s1 G1 io1 v H1 e1 R1 sg1 p1 dv1 h1 => postS.nx h1 R1
theorem d_ret (ha : ∀ B, PE X a (tD X.K B fa)) (B : Bs) : PS X (.Return (some a) pos) (tSt X.K B fun s => (fa s).bind fun d s => .ok (.ret d) s) := by
  refine PS.imp (ps_ret (ha B)) fun D σ H ⟨G, io, s, R, h⟩ => ?_
  exact tD.runS R h fun d s1 G1 io1 v H1 e1 R1 sg1 p1 dv1 h1 => h1 G1 io1 σ H1 v R1 Sub.rfl' (List.prefix_refl _) dv1
theorem d_retn (B : Bs) : PS X (.Return none pos) (tSt X.K B fun s => .ok (.ret .non) s) :=
  PS.imp ps_retN fun D σ H ⟨G, io, s, R, h⟩ => h G io σ H _ R Sub.rfl' (List.prefix_refl _) .non
theorem d_pass (B : Bs) : PS X (.Pass pos) (tSt X.K B fun s => .ok .next s) := PS.imp ps_pass fun D σ H ⟨G, io, s, R, h⟩ => postS.nx h R
theorem d_brk (B : Bs) : PS X (.Break pos) (tSt X.K B fun s => .ok .brk s) := PS.imp ps_break fun D σ H ⟨G, io, s, R, h⟩ => h G io σ H R Sub.rfl' (List.prefix_refl _)
theorem d_cont (B : Bs) : PS X (.Continue pos) (tSt X.K B fun s => .ok .cont s) := PS.imp ps_continue fun D σ H ⟨G, io, s, R, h⟩ => h G io σ H R Sub.rfl' (List.prefix_refl _)
theorem d_nil (B : Bs) : PSs X [] (tSt X.K B fun s => .ok .next s) := PSs.imp pss_nil fun D σ H ⟨G, io, s, R, h⟩ => postS.nx h R
theorem d_cons {st : Stmt} {sts : List Stmt} {f1 f2 : S → R Fl} (h1 : ∀ B, PS X st (tSt X.K B f1)) (h2 : ∀ B, PSs X sts (tSt X.K B f2)) (B : Bs) :
    PSs X (st :: sts) (tSt X.K B fun s => (f1 s).bind fun f s => match f with | .next => f2 s | f => .ok f s) := by
  refine PSs.imp (pss_cons (h1 B) (h2 B)) fun D σ H ⟨G, io, s, R, h⟩ => ?_
  refine ⟨G, io, s, R, ?_⟩
  cases q : f1 s with
  | exc => simp only [q, bind_exc] at h; exact h.elim
  | stuck => simp only [q, bind_stuck] at h; exact h.elim
  | ok f s1 =>
    simp only [q, bind_ok] at h
    cases f with
    | next => exact fun G1 io1 σ1 H1 R1 sg p => ⟨G1, io1, s1, R1, h.up sg p⟩
    | brk => exact h
    | cont => exact h
    | ret d => exact h
theorem d_ite {t : Expr} {as bs : List Stmt} {ft : S → R Bool} {f1 f2 : S → R Fl} (ht : ∀ B, PT X t (tT X.K B ft)) (h1 : ∀ B, PSs X as (tSt X.K B f1)) (h2 : ∀ B, PSs X bs (tSt X.K B f2)) (B : Bs) :
    PS X (.If t as bs pos) (tSt X.K B fun s => (ft s).bind fun k s => if k then f1 s else f2 s) := by
  refine PS.imp (ps_if (ht B) (h1 B) (h2 B)) fun D σ H ⟨G, io, s, R, h⟩ => ?_
  refine tT.runS R h fun d s1 G1 io1 H1 e1 R1 sg1 p1 h1 => ?_
  cases d with
  | true => exact ⟨G1, io1, s1, R1, h1⟩
  | false => exact ⟨G1, io1, s1, R1, h1⟩
theorem d_whl {t : Expr} {as : List Stmt} {ft : S → R Bool} {f1 : S → R Fl} (hp : PassesOwn (model X.prog X.w) X.A X.env X.xe) (ht : ∀ B, PT X t (tT X.K B ft)) (h1 : ∀ B, PSs X as (tSt X.K B f1)) (B : Bs) :
    PS X (.While t as [] pos) (tSt X.K B (whileR ft f1)) := by
  refine PS.imp (ps_while hp (ht B) (h1 B)) fun D σ H ⟨G, io, s, R, h⟩ => ?_
  unfold whileR at h
  split at h
  rotate_left
  · exact h.elim
  rename_i hex
  obtain ⟨f, sF, hn⟩ := hex.choose_spec
  rw [hn] at h
  refine ⟨fun m σ H => ∃ G1 io1 s, Rep X.K B G1 io1 s σ H ∧ Sub G G1 ∧ io <+: io1 ∧ loopW ft f1 m s = .ok f sF, ⟨_, G, io, s, R, Sub.rfl', List.prefix_refl _, hn⟩, ?_⟩
  rintro m σ1 H1 ⟨G1, io1, s1, R1, sg1, p1, hm⟩
  cases m with
  | zero => cases hm
  | succ m =>
    unfold loopW at hm
    obtain ⟨k, s2, e2, hm⟩ := bind_eq_ok hm
    refine ⟨G1, io1, s1, R1, ?_⟩
    rw [e2]
    intro G2 io2 H2 R2 sg2 p2
    cases k with
    | false =>
      rw [if_neg Bool.false_ne_true] at hm ⊢
      cases hm
      exact h G2 io2 σ1 H2 R2 (sg1.tr sg2) (p1.trans p2)
    | true =>
      rw [if_pos rfl] at hm ⊢
      obtain ⟨f2, s3, e3, hm⟩ := bind_eq_ok hm
      refine ⟨fun σ H => ∃ G1 io1 s, Rep X.K B G1 io1 s σ H ∧ Sub G G1 ∧ io <+: io1 ∧ loopW ft f1 m s = .ok f sF, fun σ' H' q => ⟨m, Nat.lt_succ_self _, q⟩, G2, io2, s2, R2, ?_⟩
      rw [e3]
      cases f2 with
      | next => exact fun G3 io3 σ3 H3 R3 sg3 p3 => ⟨G3, io3, s3, R3, sg1.tr (sg2.tr sg3), p1.trans (p2.trans p3), hm⟩
      | cont => exact fun G3 io3 σ3 H3 R3 sg3 p3 => ⟨G3, io3, s3, R3, sg1.tr (sg2.tr sg3), p1.trans (p2.trans p3), hm⟩
      | brk => cases hm; exact fun G3 io3 σ3 H3 R3 sg3 p3 => h G3 io3 σ3 H3 R3 (sg1.tr (sg2.tr sg3)) (p1.trans (p2.trans p3))
      | ret d => cases hm; exact fun G3 io3 σ3 H3 v R3 sg3 p3 dv => h G3 io3 σ3 H3 v R3 (sg1.tr (sg2.tr sg3)) (p1.trans (p2.trans p3)) dv
theorem d_for {tg it : Expr} {as : List Stmt} {t : DTg} {fi : S → R (List D)} {f1 : S → R Fl} (hp : PassesOwn (model X.prog X.w) X.A X.env X.xe) (hc : X.calm = true) (hfs : ∀ es k p, it ≠ .Set es k p)
    (hi : ∀ B, PI X tg it (tI X.K B fi)) (hg : ∀ B, PG X tg (tG X.K B (tgW t) (asg t))) (h1 : ∀ B, PSs X as (tSt X.K B f1)) (B : Bs) :
    PS X (.For tg it as [] pos) (tSt X.K B fun s => (fi s).bind fun ds s => loopF (fun d s => (opt (asg t d s) s).bind fun s _ => f1 s) ds s) := by
  refine PS.imp (ps_for hp hc (hi B) (hg B) (h1 B) (fun x => by cases it <;> first | rfl | exact absurd rfl (hfs _ _ _))) fun D σ H ⟨G, io, s, R, h⟩ => ?_
  refine ⟨G, io, s, R, ?_⟩
  cases q : fi s with
  | exc => simp only [q, bind_exc] at h; exact h.elim
  | stuck => simp only [q, bind_stuck] at h; exact h.elim
  | ok ds s1 =>
    simp only [q, bind_ok] at h
    intro G1 io1 H1 J R1 sg1 p1 ⟨Gp, Y, W, hGp, hY⟩
    cases qF : loopF (fun d s => (opt (asg t d s) s).bind fun s _ => f1 s) ds s1 with
    | exc => rw [qF] at h; exact h.elim
    | stuck => rw [qF] at h; exact h.elim
    | ok f sF =>
      rw [qF] at h
      refine for_it W (fun i σ H => ∃ G2 io2 s, Rep X.K B G2 io2 s σ H ∧ Sub G1 G2 ∧ io1 <+: io2 ∧ loopF (fun d s => (opt (asg t d s) s).bind fun s _ => f1 s) (ds.drop i) s = .ok f sF)
        ⟨G1, io1, s1, R1, Sub.rfl', List.prefix_refl _, by simpa using qF⟩ (fun i σ H _ ⟨G2, io2, s, R2, sg2, _⟩ => hGp H (sg2.tr R2.le)) (fun i x σ2 H2 H3 hi ⟨G2, io2, s2, R2, sg2, p2, hz⟩ y => ?_) (fun σ2 H2 ⟨G2, io2, s2, R2, sg2, p2, hz⟩ => ?_)
      · obtain ⟨G3, d, hd, R3, sg3, dvx⟩ := hY i H2 x H3 G2 io2 _ _ _ hi sg2 p2 R2 y
        have edrop : ds.drop i = d :: ds.drop (i + 1) := by
          obtain ⟨hlt, he⟩ := List.getElem?_eq_some_iff.mp hd
          rw [List.drop_eq_getElem_cons hlt, he]
        rw [edrop] at hz
        unfold loopF at hz
        obtain ⟨f2, s4, e4, hz⟩ := bind_eq_ok hz
        obtain ⟨s3, s3', e3, e4⟩ := bind_eq_ok e4
        obtain ⟨q3, rfl⟩ := opt_eq_ok e3
        refine ⟨G3, io2, _, d, R3, dvx, ?_⟩
        rw [q3]
        intro σ3 R3' o3
        refine ⟨G3, io2, s3, R3', ?_⟩
        rw [e4]
        have sub3 : Sub G1 G3 := sg2.tr sg3
        cases f2 with
        | next => exact fun G4 io4 σ4 H4 R4 sg4 p4 => ⟨G4, io4, s4, R4, sub3.tr sg4, p2.trans p4, hz⟩
        | cont => exact fun G4 io4 σ4 H4 R4 sg4 p4 => ⟨G4, io4, s4, R4, sub3.tr sg4, p2.trans p4, hz⟩
        | brk => cases hz; exact fun G4 io4 σ4 H4 R4 sg4 p4 => h G4 io4 σ4 H4 R4 (sg1.tr (sub3.tr sg4)) (p1.trans (p2.trans p4))
        | ret d => cases hz; exact fun G4 io4 σ4 H4 v R4 sg4 p4 dv => h G4 io4 σ4 H4 v R4 (sg1.tr (sub3.tr sg4)) (p1.trans (p2.trans p4)) dv
      · rw [List.drop_length] at hz
        cases hz
        exact h G2 io2 σ2 H2 R2 (sg1.tr sg2) (p1.trans p2)
end
end DL
end

section
set_option Elab.async false
set_option linter.all false
set_option autoImplicit false
set_option maxRecDepth 100000
set_option maxHeartbeats 1000000
namespace DL
open PySem PySem.Spec L2

/-! ### several names at once -/
inductive DVf (K : PySem.W.Frag) (B : Bs) (G : Hp) (io : List Addr) (s : S) (σ : L2.St) (H : Hp) : List Bool → List V → List D → Prop
  | nil : DVf K B G io s σ H [] [] []
  | val {v : V} {d : D} {fl : List Bool} {vs : List V} {ds : List D} : DV K G io v d → DVf K B G io s σ H fl vs ds → DVf K B G io s σ H (false :: fl) (v :: vs) (d :: ds)
  | own {p : Addr} {ws : List V} {xs : List D} {fl : List Bool} {vs : List V} {ds : List D} : Fresh K B G io s σ H p ws xs → (∀ (i : Nat), fl[i]? = some true → vs[i]? ≠ some (V.ref p)) → DVf K B G io s σ H fl vs ds → DVf K B G io s σ H (true :: fl) (.ref p :: vs) (.lst xs :: ds)
/-- the flagged ones are lists -/
def okF : List Bool → List D → Bool
  | [], [] => true
  | b :: fl, d :: ds => (if b then (match d with | .lst _ => true | _ => false) else true) && okF fl ds
  | _, _ => false
def postF (K : PySem.W.Frag) (B : Bs) (G : Hp) (io : List Addr) (σ : L2.St) (fl : List Bool) (r : R (List D)) (Q : List V → Hp → Prop) : Prop := match r with
  | .ok ds s => okF fl ds = true ∧ ∀ G' io' vs H', Rep K B G' io' s σ H' → Sub G G' → io <+: io' → DVf K B G' io' s σ H' fl vs ds → Q vs H'
  | _ => False
def tF (K : PySem.W.Frag) (B : Bs) (fl : List Bool) (f : S → R (List D)) : TA := fun σ H Q => ∃ G io s, Rep K B G io s σ H ∧ postF K B G io σ fl (f s) Q
theorem postF.up {K : PySem.W.Frag} {B : Bs} {G G1 : Hp} {io io1 : List Addr} {σ : L2.St} {fl : List Bool} {r : R (List D)} {Q : List V → Hp → Prop} (h : postF K B G io σ fl r Q) (sg : Sub G G1) (p : io <+: io1) : postF K B G1 io1 σ fl r Q := by
  cases r with
  | ok d s => exact ⟨h.1, fun G' io' v H' R s1 p1 dv => h.2 G' io' v H' R (sg.tr s1) (p.trans p1) dv⟩
  | exc => exact h
  | stuck => exact h
section
variable {K : PySem.W.Frag} {B : Bs} {G G1 : Hp} {io io1 : List Addr} {s s1 : S} {σ : L2.St} {H : Hp}
theorem Rep.guardF (R : Rep K B G io s σ H) {p : Addr} {vs : List V} {ds : List D} (F : Fresh K B G io s σ H p vs ds) : Rep K (B.guard p vs) G io s σ H := by
  refine ⟨R.le, R.nd, R.ml, R.cell, fun a ha => ⟨(R.cg a ha).1, ?_⟩, R.len, R.val, fun i xs e => ?_, R.apart, fun a o e => ?_, R.g0, fun a o e => ?_, R.i0⟩
  · have q : a ≠ p := fun z => F.io (by rw [← z]; exact ha)
    exact (upd_ne q).trans (R.cg a ha).2
  · obtain ⟨a, ws, e1, e2, e3, e4, e5, e6⟩ := R.own i xs e
    have q : a ≠ p := fun z => F.no i xs e (by rw [← z]; exact e1)
    exact ⟨a, ws, e1, e2, e3, e4, e5, (upd_ne q).trans e6⟩
  · by_cases z : a = p
    · subst z
      have e : upd B.P a (.lst vs) a = some o := e
      rw [upd_same] at e; cases e; exact F.at'
    · have e : upd B.P p (.lst vs) a = some o := e
      rw [upd_ne z] at e; exact R.fr a o e
  · rcases R.gnew a o e with z | z
    · exact .inl z
    · have q : a ≠ p := fun w => by rw [w, F.g] at e; cases e
      exact .inr ((upd_ne q).trans z)
theorem guardP {p a : Addr} {vs : List V} (e : (B.guard p vs).P a = none) : a ≠ p ∧ B.P a = none := by
  have n : a ≠ p := fun z => by
    have e : upd B.P p (.lst vs) a = none := e
    rw [z, upd_same] at e; cases e
  have e' : (B.guard p vs).P a = B.P a := upd_ne n
  exact ⟨n, e'.symm.trans e⟩
theorem Rep.unguard {p : Addr} {vs : List V} (R : Rep K (B.guard p vs) G io s σ H) (hP : B.P p = none) : Rep K B G io s σ H := by
  refine ⟨R.le, R.nd, R.ml, R.cell, fun a ha => ⟨(R.cg a ha).1, (guardP (R.cg a ha).2).2⟩, R.len, R.val, fun i xs e => ?_, R.apart, fun a o e => ?_, R.g0, fun a o e => ?_, R.i0⟩
  · obtain ⟨a, ws, e1, e2, e3, e4, e5, e6⟩ := R.own i xs e
    exact ⟨a, ws, e1, e2, e3, e4, e5, (guardP e6).2⟩
  · have n : a ≠ p := fun z => by rw [z, hP] at e; cases e
    exact R.fr a o ((upd_ne n).trans e)
  · rcases R.gnew a o e with z | z
    · exact .inl z
    · exact .inr (guardP z).2
theorem Rep.still {p : Addr} {vs : List V} {ds : List D} (R : Rep K (B.guard p vs) G1 io1 s1 σ H) (F : Fresh K B G io s σ H p vs ds → True) (hP : B.P p = none) (h0 : B.G0 p = none) (dv : DVs K G1 io1 vs ds) : Fresh K B G1 io1 s1 σ H p vs ds := by
  have hp : (B.guard p vs).P p = some (.lst vs) := upd_same
  refine ⟨R.fr p _ hp, dv, ?_, fun z => ?_, hP, fun i xs e z => ?_⟩
  · cases q : G1 p with
    | none => rfl
    | some o =>
      rcases R.gnew p o q with z | z
      · have z : B.G0 p = some o := z
        rw [h0] at z; cases z
      · rw [hp] at z; cases z
  · have := (R.cg p z).2
    rw [hp] at this; cases this
  · obtain ⟨a, ws, e1, e2, e3, e4, e5, e6⟩ := R.own i xs e
    rw [z] at e1; cases e1
    rw [hp] at e6; cases e6
theorem Fresh.unguard {p q : Addr} {vs us : List V} {ys : List D} (F : Fresh K (B.guard p vs) G io s σ H q us ys) : Fresh K B G io s σ H q us ys ∧ q ≠ p :=
  ⟨⟨F.at', F.dv, F.g, F.io, (guardP F.P).2, F.no⟩, (guardP F.P).1⟩
theorem DVf.unguard {p : Addr} {vs : List V} : ∀ {fl : List Bool} {us : List V} {ds : List D}, DVf K (B.guard p vs) G io s σ H fl us ds → DVf K B G io s σ H fl us ds ∧ ∀ (i : Nat), fl[i]? = some true → us[i]? ≠ some (V.ref p)
  | _, _, _, .nil => ⟨.nil, fun i h => by simp at h⟩
  | _, _, _, .val a t => by
    obtain ⟨h1, h2⟩ := DVf.unguard t
    refine ⟨.val a h1, fun i h => ?_⟩
    cases i with
    | zero => simp at h
    | succ i => simpa using h2 i (by simpa using h)
  | _, _, _, .own F m t => by
    obtain ⟨h1, h2⟩ := DVf.unguard t
    obtain ⟨F1, F2⟩ := F.unguard
    refine ⟨.own F1 m h1, fun i h => ?_⟩
    cases i with
    | zero => intro z; simp at z; exact F2 z
    | succ i => simpa using h2 i (by simpa using h)
/-- the slots after the stores -/
def sets (σ : L2.St) : List Nat → List V → L2.St
  | i :: is, v :: vs => sets (σ.set i (some v)) is vs
  | _, _ => σ
theorem DVf.setv {i : Nat} {v : V} {d : D} : ∀ {fl : List Bool} {us : List V} {ds : List D}, DVf K B G io s σ H fl us ds → DVf K B G io { s with r := s.r.set i (some (.val d)) } (σ.set i (some v)) H fl us ds
  | _, _, _, .nil => .nil
  | _, _, _, .val a t => .val a (DVf.setv t)
  | _, _, _, .own F m t => .own ⟨F.at', F.dv, F.g, F.io, F.P, fun j xs e => by
      rcases get_set e with ⟨rfl, z, _⟩ | ⟨ne, e⟩
      · cases z
      · rw [List.getElem?_set_ne ne]; exact F.no j xs e⟩ m (DVf.setv t)
theorem DVf.seto {i : Nat} {p : Addr} {xs : List D} (hi : i < σ.length) : ∀ {fl : List Bool} {us : List V} {ds : List D}, DVf K B G io s σ H fl us ds → (∀ (j : Nat), fl[j]? = some true → us[j]? ≠ some (V.ref p)) → DVf K B G io { s with r := s.r.set i (some (.own xs)) } (σ.set i (some (.ref p))) H fl us ds
  | _, _, _, .nil, _ => .nil
  | _, _, _, .val a t, h => .val a (DVf.seto hi t fun j hj => by simpa using h (j + 1) (by simpa using hj))
  | _, _, _, .own F m t, h => .own ⟨F.at', F.dv, F.g, F.io, F.P, fun j ys e => by
      rcases get_set e with ⟨rfl, z, _⟩ | ⟨ne, e⟩
      · rw [List.getElem?_set_self hi]
        intro w; cases w
        exact h 0 rfl rfl
      · rw [List.getElem?_set_ne ne]; exact F.no j ys e⟩ m (DVf.seto hi t fun j hj => by simpa using h (j + 1) (by simpa using hj))
theorem put_run : ∀ {is : List Nat} {fl : List Bool} {us : List V} {ds : List D} {s s' : S} {σ : L2.St}, Rep K B G io s σ H → DVf K B G io s σ H fl us ds → is.length = fl.length → put1 (is.zip fl) ds s = some s' → Rep K B G io s' (sets σ is us) H
  | [], [], _, _, s, s', σ, R, .nil, _, h => by cases h; exact R
  | [], _ :: _, _, _, _, _, _, _, _, hl, _ => by simp at hl
  | _ :: _, [], _, _, _, _, _, _, _, hl, _ => by simp at hl
  | i :: is, _ :: fl, _, _, s, s', σ, R, .val (vs := us) a t, hl, h => by
    simp only [List.zip_cons_cons, put1, Bool.false_eq_true, if_false] at h
    obtain ⟨s1, e1, h⟩ := Option.bind_eq_some_iff.mp h
    unfold setV at e1
    split at e1
    · rename_i hlt
      cases e1
      have hl' : is.length = fl.length := by simpa using hl
      exact put_run (is := is) (R.setv a hlt) t.setv hl' h
    · cases e1
  | i :: is, _ :: fl, _, _, s, s', σ, R, .own (vs := us) F m t, hl, h => by
    simp only [List.zip_cons_cons, put1, if_true] at h
    obtain ⟨s1, e1, h⟩ := Option.bind_eq_some_iff.mp h
    simp only [own1] at e1
    split at e1
    · rename_i hlt
      cases e1
      have hl' : is.length = fl.length := by simpa using hl
      exact put_run (is := is) (R.seto F hlt) (t.seto (by rw [← R.len]; exact hlt) m) hl' h
    · cases e1
theorem DVf.len : ∀ {fl : List Bool} {us : List V} {ds : List D}, DVf K B G io s σ H fl us ds → us.length = fl.length ∧ ds.length = fl.length
  | _, _, _, .nil => ⟨rfl, rfl⟩
  | _, _, _, .val a t => by simp [(DVf.len t).1, (DVf.len t).2]
  | _, _, _, .own F m t => by simp [(DVf.len t).1, (DVf.len t).2]
theorem DVf.grow {p : Addr} {o : HO} (hp : H p = none) : ∀ {fl : List Bool} {us : List V} {ds : List D}, DVf K B G io s σ H fl us ds → DVf K B G io s σ (upd H p o) fl us ds
  | _, _, _, .nil => .nil
  | _, _, _, .val a t => .val a (DVf.grow hp t)
  | _, _, _, .own F m t => .own ⟨(by rw [upd_ne (ne_of_none F.at' hp)]; exact F.at'), F.dv, F.g, F.io, F.P, F.no⟩ m (DVf.grow hp t)
end
section
variable {X : Cx} {e : Expr} {es : List Expr} {pos : Pos} {fa : S → R D} {fs : S → R (List D)} {fl : List Bool}
theorem p_nil (B : Bs) : PA X [] (tF X.K B [] fun s => .ok [] s) := PA.imp pa_nil fun σ H Q ⟨G, io, s, R, h⟩ => h.2 G io [] H R Sub.rfl' (List.prefix_refl _) .nil
theorem tF.next {K : PySem.W.Frag} {B : Bs} {G : Hp} {io : List Addr} {s : S} {σ : L2.St} {H : Hp} {fl : List Bool} {Q : List V → Hp → Prop} {f : S → R D} {g : D → S → R (List D)} (R : Rep K B G io s σ H) (h : postF K B G io σ fl ((f s).bind g) Q) {Q1 : VK}
    (k : ∀ d s1 G1 io1 v H1, f s = .ok d s1 → Rep K B G1 io1 s1 σ H1 → Sub G G1 → io <+: io1 → DV K G1 io1 v d → postF K B G1 io1 σ fl (g d s1) Q → Q1 v H1) : tD K B f σ H Q1 := by
  refine ⟨G, io, s, R, ?_⟩
  cases e : f s with
  | ok d s1 =>
    rw [e] at h
    exact fun G1 io1 v H1 R1 sg p dv => k d s1 G1 io1 v H1 e R1 sg p dv (postF.up h sg p)
  | exc => rw [e] at h; exact h.elim
  | stuck => rw [e] at h; exact h.elim
theorem p_val (hn : starred e = false) (ha : ∀ B, PE X e (tD X.K B fa)) (hs : ∀ B, PA X es (tF X.K B fl fs)) (B : Bs) :
    PA X (e :: es) (tF X.K B (false :: fl) fun s => (fa s).bind fun d s => (fs s).bind fun ds s => .ok (d :: ds) s) := by
  refine PA.imp (pa_cons (ha B) (hs B) (star_ns hn)) fun σ H Q ⟨G, io, s, R, h⟩ => ?_
  refine tF.next R h fun d s1 G1 io1 v H1 e1 R1 sg1 p1 dv1 h1 => ?_
  refine ⟨G1, io1, s1, R1, ?_⟩
  cases q : fs s1 with
  | exc => simp only [q, bind_exc] at h1; exact h1.elim
  | stuck => simp only [q, bind_stuck] at h1; exact h1.elim
  | ok ds s2 =>
    simp only [q, bind_ok] at h1
    exact ⟨by simpa [okF] using h1.1, fun G2 io2 vs H2 R2 sg2 p2 dv2 => h1.2 G2 io2 _ H2 R2 sg2 p2 (.val (dv1.up sg2 p2) dv2)⟩
theorem p_own (hn : starred e = false) (ha : ∀ B, PE X e (tL X.K B fa)) (hs : ∀ B, PA X es (tF X.K B fl fs)) (B : Bs) :
    PA X (e :: es) (tF X.K B (true :: fl) fun s => (fa s).bind fun d s => (fs s).bind fun ds s => .ok (d :: ds) s) := by
  have hs' : PA X es (fun σ H Q => ∃ B, tF X.K B fl fs σ H Q) := ⟨fun pos pins s σ H Q I ⟨B, q⟩ => (hs B).run pos pins s σ H Q I q⟩
  refine PA.imp (pa_cons (ha B) hs' (star_ns hn)) fun σ H Q ⟨G, io, s, R, h⟩ => ?_
  refine ⟨G, io, s, R, ?_⟩
  cases q : fa s with
  | exc => simp only [q, bind_exc] at h; exact h.elim
  | stuck => simp only [q, bind_stuck] at h; exact h.elim
  | ok d s1 =>
    simp only [q, bind_ok] at h
    cases d with
    | lst xs =>
      intro G1 io1 p ws H1 R1 sg1 p1 F
      have h00 : B.G0 p = none := by
        cases q : B.G0 p with
        | none => rfl
        | some o => have := R1.g0 p o q; rw [F.g] at this; cases this
      refine ⟨B.guard p ws, G1, io1, s1, R1.guardF F, ?_⟩
      cases q2 : fs s1 with
      | exc => simp only [q2, bind_exc] at h; exact h.elim
      | stuck => simp only [q2, bind_stuck] at h; exact h.elim
      | ok ds s2 =>
        simp only [q2, bind_ok] at h
        refine ⟨by simpa [okF] using h.1, fun G2 io2 vs H2 R2 sg2 p2 dv2 => ?_⟩
        obtain ⟨dv3, nin⟩ := dv2.unguard
        exact h.2 G2 io2 _ H2 (R2.unguard F.P) (sg1.tr sg2) (p1.trans p2) (.own (R2.still (fun _ => trivial) F.P h00 (F.dv.up sg2 p2) (G := G1) (io := io1) (s := s1)) nin dv3)
    | _ => cases q2 : fs s1 <;> simp only [q2, bind_ok, bind_exc, bind_stuck] at h <;> first | exact h.elim | (have h1 := h.1; simp [okF] at h1)

theorem okF_of : ∀ {is : List Nat} {fl : List Bool} {ds : List D} {s s' : S}, is.length = fl.length → put1 (is.zip fl) ds s = some s' → okF fl ds = true
  | [], [], [], _, _, _, _ => rfl
  | [], [], _ :: _, _, _, _, h => by cases h
  | [], _ :: _, _, _, _, hl, _ => by simp at hl
  | _ :: _, [], _, _, _, hl, _ => by simp at hl
  | _ :: _, _ :: _, [], _, _, _, h => by simp [put1] at h
  | i :: is, b :: fl, d :: ds, s, s', hl, h => by
    simp only [List.zip_cons_cons, put1] at h
    obtain ⟨s1, e1, h⟩ := Option.bind_eq_some_iff.mp h
    have hl' : is.length = fl.length := by simpa using hl
    have r := okF_of (is := is) hl' h
    cases b with
    | false => simp [okF, r]
    | true =>
      simp only [if_true, own1] at e1
      cases d <;> first | (cases e1; done) | simp [okF, r]
/-- the tests of the compiler at a = b, c of plain names -/
def parOk (sc : Scope) (ts : List Expr) (vs : List Expr) : Bool :=
  (vs.all fun e => !starred e) && ((match ts with | .Name _ p :: r => r.all (fun | .Name _ q => q.line == p.line | _ => false) | _ => false)) && !vs.all (foldedForSure 8) && !vs.all (constantsAlone 8)
theorem sw_par2 {x y : Str} {px py pt : Pos} {kt k2 : Nat} {pt2 : Pos} {a b : Expr} {sc : Scope} {env : Env} (hb : env.blockKind = .function) (hx : env.scope.names.lookup x = some .local) (hy : env.scope.names.lookup y = some .local) (hn : (y == x) = false)
    (h : parOk sc [.Name x px, .Name y py] [a, b] = true) : swappedStores [.Tuple [.Name x px, .Name y py] kt pt] (.Tuple [a, b] k2 pt2) env = pure (some [x, y]) := by
  simp only [parOk, Bool.and_eq_true, List.all_cons, List.all_nil, Bool.and_true, Bool.not_eq_true', beq_iff_eq] at h
  obtain ⟨⟨⟨⟨s1, s2⟩, l1⟩, f1⟩, c1⟩ := h
  have l1' : py.line = px.line := l1
  have k1 : env.kindOf x = some .local := hx
  have k2 : env.kindOf y = some .local := hy
  unfold swappedStores
  simp only [List.all_cons, List.all_nil, Bool.and_true] at *
  simp [hb, f1, c1, k1, k2, l1', Expr.pos, List.eraseDups_cons, hn]
  intro h; exfalso
  rcases h with h | h
  · cases a <;> first | (cases h; done) | cases s1
  · cases b <;> first | (cases h; done) | cases s2
theorem sw_par3 {x y z : Str} {px py pz pt : Pos} {kt k2 : Nat} {pt2 : Pos} {a b c : Expr} {sc : Scope} {env : Env} (hb : env.blockKind = .function) (hx : env.scope.names.lookup x = some .local) (hy : env.scope.names.lookup y = some .local) (hz : env.scope.names.lookup z = some .local) (hn : (y == x) = false) (hn2 : (z == x) = false) (hn3 : (z == y) = false)
    (h : parOk sc [.Name x px, .Name y py, .Name z pz] [a, b, c] = true) : swappedStores [.Tuple [.Name x px, .Name y py, .Name z pz] kt pt] (.Tuple [a, b, c] k2 pt2) env = pure (some [x, y, z]) := by
  simp only [parOk, Bool.and_eq_true, List.all_cons, List.all_nil, Bool.and_true, Bool.not_eq_true', beq_iff_eq] at h
  obtain ⟨⟨⟨⟨s1, s2, s3⟩, l1, l2⟩, f1⟩, c1⟩ := h
  have l1' : py.line = px.line := l1
  have l2' : pz.line = px.line := l2
  have k1 : env.kindOf x = some .local := hx
  have k2 : env.kindOf y = some .local := hy
  have k3 : env.kindOf z = some .local := hz
  unfold swappedStores
  simp only [List.all_cons, List.all_nil, Bool.and_true] at *
  simp [hb, f1, c1, k1, k2, k3, l1', l2', Expr.pos, List.eraseDups_cons, hn, hn2, hn3]
  intro h; exfalso
  rcases h with h | h | h
  · cases a <;> first | (cases h; done) | cases s1
  · cases b <;> first | (cases h; done) | cases s2
  · cases c <;> first | (cases h; done) | cases s3
theorem tF_par {K : PySem.W.Frag} {B : Bs} {is : List Nat} {fl : List Bool} {f : S → DL.R (List D)} {D : Ends} {σ : L2.St} {H : Hp} (hl : is.length = fl.length)
    (h : tSt K B (fun s => (f s).bind fun ds s => (opt (put1 (is.zip fl) ds s) s).bind fun s _ => .ok .next s) D σ H) :
    tF K B fl f σ H fun vs H1 => vs.length = is.length ∧ D.nx (sets σ is vs) H1 := by
  obtain ⟨G, io, s, R, h⟩ := h
  refine ⟨G, io, s, R, ?_⟩
  cases q : f s with
  | exc => simp only [q, bind_exc] at h; exact h.elim
  | stuck => simp only [q, bind_stuck] at h; exact h.elim
  | ok ds s1 =>
    simp only [q, bind_ok] at h
    obtain ⟨s2, e2, h⟩ := opt_postS h
    refine ⟨okF_of hl e2, fun G1 io1 vs H1 R1 sg p dv => ?_⟩
    exact ⟨(dv.len).1.trans hl.symm, h G1 io1 _ H1 (put_run R1 dv hl e2) sg p⟩
theorem d_par2 {i j : Nat} {x y : Str} {a b : Expr} {px py pt : Pos} {kt k2 : Nat} {pt2 : Pos} {f1 f2 : Bool} {f : S → R (List D)} (hc : X.calm = true) (hN : X.N.Nodup) (hi : X.N[i]? = some x) (hj : X.N[j]? = some y) (hij : i ≠ j)
    (hb : X.env.blockKind = .function) (hx : X.env.scope.names.lookup x = some .local) (hy : X.env.scope.names.lookup y = some .local) (hn : (y == x) = false) (ho : parOk X.env.scope [.Name x px, .Name y py] [a, b] = true)
    (ha : ∀ B, PA X [a, b] (tF X.K B [f1, f2] f)) (B : Bs) :
    PS X (.Assign [.Tuple [.Name x px, .Name y py] kt pt] (.Tuple [a, b] k2 pt2) pos) (tSt X.K B fun s => (f s).bind fun ds s => (opt (put1 [(i, f1), (j, f2)] ds s) s).bind fun s _ => .ok .next s) := by
  refine PS.imp (ps_par hc hN hi hj hij hx hy (ha B) (sw_par2 (sc := X.env.scope) hb hx hy hn ho)) fun D σ H h => ?_
  obtain ⟨G, io, s, R, h⟩ := tF_par (is := [i, j]) (fl := [f1, f2]) rfl h
  refine ⟨G, io, s, R, ?_⟩
  unfold postF at *
  split at h
  · refine ⟨h.1, fun G' io' vs H' R1 sg p dv => ?_⟩
    obtain ⟨h1, h2⟩ := h.2 G' io' vs H' R1 sg p dv
    match vs, h1, h2 with
    | [v, w], _, h2 => exact ⟨v, w, rfl, h2⟩
  · exact h.elim
theorem d_par3 {i j l : Nat} {x y z : Str} {a b c : Expr} {px py pz pt : Pos} {kt k2 : Nat} {pt2 : Pos} {f1 f2 f3 : Bool} {f : S → R (List D)} (hc : X.calm = true) (hN : X.N.Nodup) (hi : X.N[i]? = some x) (hj : X.N[j]? = some y) (hl : X.N[l]? = some z) (hij : i ≠ j) (hil : i ≠ l) (hjl : j ≠ l)
    (hb : X.env.blockKind = .function) (hx : X.env.scope.names.lookup x = some .local) (hy : X.env.scope.names.lookup y = some .local) (hz : X.env.scope.names.lookup z = some .local) (hn : (y == x) = false) (hn2 : (z == x) = false) (hn3 : (z == y) = false) (ho : parOk X.env.scope [.Name x px, .Name y py, .Name z pz] [a, b, c] = true)
    (ha : ∀ B, PA X [a, b, c] (tF X.K B [f1, f2, f3] f)) (B : Bs) :
    PS X (.Assign [.Tuple [.Name x px, .Name y py, .Name z pz] kt pt] (.Tuple [a, b, c] k2 pt2) pos) (tSt X.K B fun s => (f s).bind fun ds s => (opt (put1 [(i, f1), (j, f2), (l, f3)] ds s) s).bind fun s _ => .ok .next s) := by
  refine PS.imp (ps_par3 hc hN hi hj hl hij hil hjl hx hy hz (ha B) (sw_par3 (sc := X.env.scope) hb hx hy hz hn hn2 hn3 ho)) fun D σ H h => ?_
  obtain ⟨G, io, s, R, h⟩ := tF_par (is := [i, j, l]) (fl := [f1, f2, f3]) rfl h
  refine ⟨G, io, s, R, ?_⟩
  unfold postF at *
  split at h
  · refine ⟨h.1, fun G' io' vs H' R1 sg p dv => ?_⟩
    obtain ⟨h1, h2⟩ := h.2 G' io' vs H' R1 sg p dv
    match vs, h1, h2 with
    | [u, v, w], _, h2 => exact ⟨u, v, w, rfl, h2⟩
  · exact h.elim
/-- names from a written tuple that is made indeed -/
theorem d_unpT {k k2 : Nat} {es vs : List Expr} {pt p2 : Pos} {t : DTg} {fa : S → R D} (ha : ∀ B, PE X (.Tuple vs k2 p2) (tD X.K B fa)) (hg : ∀ B, PG X (.Tuple es k pt) (tG X.K B (tgW t) (asg t))) (hn : swappedStores [.Tuple es k pt] (.Tuple vs k2 p2) X.env = pure none) (B : Bs) :
    PS X (.Assign [.Tuple es k pt] (.Tuple vs k2 p2) pos) (tSt X.K B fun s => (fa s).bind fun d s => (opt (asg t d s) s).bind fun s _ => .ok .next s) := by
  refine PS.imp (ps_asg (ha B) (hg B) rfl hn) fun D σ H ⟨G, io, s, R, h⟩ => ?_
  refine tD.runS R h fun d s1 G1 io1 v H1 e1 R1 sg1 p1 dv1 h1 => ?_
  obtain ⟨s2, e2, h2⟩ := opt_postS h1
  exact ⟨G1, io1, s1, d, R1, dv1, by rw [e2]; exact fun σ' R2 _ => h2 G1 io1 σ' H1 R2 Sub.rfl' (List.prefix_refl _)⟩
def locN (sc : Scope) : Expr → Bool
  | .Name x _ => (match sc.names.lookup x with | some .local => true | _ => false)
  | _ => false
/-- no stores are swapped -/
def swNone (sc : Scope) (es vs : List Expr) : Bool := !(es.length == 2 || es.length == 3) || !es.all (locN sc) || vs.all (foldedForSure 8)
theorem fm_lt {α β : Type} {f : α → Option β} : ∀ {l : List α}, (∃ x ∈ l, f x = none) → (l.filterMap f).length < l.length
  | [], ⟨x, h, _⟩ => by simp at h
  | a :: l, ⟨x, h, e⟩ => by
    rw [List.filterMap_cons]
    have hle := List.length_filterMap_le f l
    cases q : f a with
    | none => simp; omega
    | some b =>
      simp only [List.length_cons]
      have : ∃ x ∈ l, f x = none := by
        rcases List.mem_cons.mp h with rfl | h
        · rw [q] at e; cases e
        · exact ⟨x, h, e⟩
      have := fm_lt this
      omega
theorem swNone_v {es vs : List Expr} {k k2 : Nat} {pt p2 : Pos} {env : Env} (h : swNone env.scope es vs = true) : swappedStores [.Tuple es k pt] (.Tuple vs k2 p2) env = pure none := by
  unfold swNone at h
  simp only [Bool.or_eq_true, Bool.not_eq_true'] at h
  unfold swappedStores
  simp only []
  split
  · rfl
  · split
    · rfl
    · rename_i h1 h2
      have h1' : (es.length == 2 || es.length == 3) = true := by
        cases q : (es.length == 2 || es.length == 3) with
        | true => rfl
        | false => rw [q] at h1; simp at h1
      rcases h with (h | h) | h
      · rw [h1'] at h; cases h
      · have q : ∃ x ∈ es, locN env.scope x = false := by
          have := List.all_eq_false.mp h
          obtain ⟨x, hx, e⟩ := this
          exact ⟨x, hx, by simpa using e⟩
        obtain ⟨x, hx, e⟩ := q
        rw [if_pos]
        · have hl : (es.filterMap fun
            | .Name id pos => if (env.kindOf id == some .local && pos.line == (es.head?.map (·.pos.line)).getD 0) = true then some id else none
            | _ => none).length < es.length := fm_lt ⟨x, hx, by
              cases x <;> first | rfl | skip
              rename_i id p
              have e : (match env.scope.names.lookup id with | some .local => true | _ => false) = false := e
              have : (env.kindOf id == some NameKind.local) = false := by
                show (env.scope.names.lookup id == some NameKind.local) = false
                cases q2 : env.scope.names.lookup id with
                | none => rfl
                | some kd => rw [q2] at e; cases kd <;> first | rfl | cases e
              simp [this]⟩
          simp only [bne_iff_ne, Bool.or_eq_true, ne_eq]
          left
          exact Nat.ne_of_lt hl
      · split
        · rfl
        · first | rfl | (rw [if_pos h]; rfl)
end
end DL
end

section
set_option Elab.async false
set_option linter.all false
set_option autoImplicit false
set_option maxRecDepth 100000
set_option maxHeartbeats 1000000
namespace DL
open PySem PySem.Spec L2

theorem bind_ext {α β : Type} {x : R α} {f g : α → S → R β} (h : ∀ a s, f a s = g a s) : x.bind f = x.bind g := by
  have e : f = g := funext fun a => funext fun s => h a s
  rw [e]
theorem bind_assoc {α β γ : Type} (x : R α) (f : α → S → R β) (g : β → S → R γ) : (x.bind f).bind g = x.bind fun a s => (f a s).bind g := by cases x <;> rfl
/-! ### the look at a text: it is what these words say -/
structure TC where
  N : List Str
  sc : Scope
  fn : Str → Bool
  fs : List (Str × List Str)
  cs : List Str
  gcd : Bool
def TC.blk (c : TC) (scope : Scope) : TC := { c with sc := relS scope c.sc, fn := fun x => scope.names.lookup x == some .cell }
def visB (sc : Scope) (x : Str) : Bool := match sc.names.lookup x with
  | some .local => true | some .cell => true | some .free => true | _ => false
def locB (sc : Scope) (x : Str) : Bool := match sc.names.lookup x with
  | some .local => true | some .cell => true | _ => false
def lcB (sc : Scope) (x : Str) : Bool := match sc.names.lookup x with
  | some .local => true | _ => false
def nmB (c : TC) (i : Nat) (x : Str) : Bool := (match c.N[i]? with | some y => decide (y = x) | none => false) && visB c.sc x && !(x == ("__debug__" : Str)) && !(x == ("__classdict__" : Str))
def glB (c : TC) (x : Str) : Bool := (match c.sc.names.lookup x with | some .globalImplicit => true | _ => false) && !(x == ("__debug__" : Str))
def stB (c : TC) (i : Nat) (x : Str) : Bool := (match c.N[i]? with | some y => decide (y = x) | none => false) && locB c.sc x && (c.fn x || lcB c.sc x)
def opB : Op2 → Operator → Bool
  | .add, .Add => true | .sub, .Sub => true | .mul, .Mult => true | .fdiv, .FloorDiv => true | .mod, .Mod => true | .pow, .Pow => true | _, _ => false
def cmB : Cm → CmpOp → Bool
  | .eq, .Eq => true | .ne, .NotEq => true | .lt, .Lt => true | .le, .LtE => true | .gt, .Gt => true | .ge, .GtE => true | .is, .Is => true | .isnot, .IsNot => true | .inn, .In => true | .notin, .NotIn => true | _, _ => false
def ctB : Ct → Const → Bool
  | .non, .none => true
  | .bl b, .bool b' => b == b'
  | .int i, .int j => i == j
  | .str s, .str z => decide (z = Str.ofString s)
  | _, _ => false
def notSet : Expr → Bool
  | .Set .. => false | _ => true
def notTup : Expr → Bool
  | .Tuple .. => false | _ => true
def notCall : Expr → Bool
  | .Call .. => false | _ => true
def isTup : Expr → Bool
  | .Tuple .. => true | _ => false
def biN : Bi → Option (String × Bool)
  | .len => some ("len", true) | .abs => some ("abs", true) | .int => some ("int", false) | .min => some ("min", true) | .max => some ("max", true)
  | .list => some ("list", false) | .tuple => some ("tuple", false) | .all => some ("all", true) | .any => some ("any", true) | .sum => some ("sum", true)
  | .repr => some ("repr", true) | .str => some ("str", false) | .sorted => some ("sorted", true) | _ => none
def DXs.len : DXs → Nat
  | .nil => 0 | .cons _ as => as.len + 1 | .star _ as => as.len + 1
def DTgs.len : DTgs → Nat
  | .nil => 0 | .cons _ as => as.len + 1
def ownN (c : TC) (own : List Nat) : List (Str × Nat) := own.map fun i => ((c.N[i]?).getD (Str.ofString ""), i)
def kwOf (kws : List Keyword) (ps : List Str) : Bool := match kws, ps with
  | [], [] => true
  | k :: kws, p :: ps => (match k.arg with | some a => decide (a = p) | none => false) && kwOf kws ps
  | _, _ => false
mutual
def okG (c : TC) : DTg → Expr → Bool
  | .nm i, e => match e with | .Name x _ => stB c i x | _ => false
  | .tup ts, e => match e with | .Tuple es _ _ => (es.all fun e => !starred e) && okGs c ts es | _ => false
def okGs (c : TC) : DTgs → List Expr → Bool
  | .nil, es => match es with | [] => true | _ => false
  | .cons t ts, es => match es with | e :: es => !starred e && okG c t e && okGs c ts es | _ => false
end
def lenArg (f : Bi) (as : DXs) : Option Nat := match f, as with
  | .len, .cons (.var i) .nil => some i
  | _, _ => none
def isYes : DT → Bool
  | .yes => true | _ => false
mutual
def okE (c : TC) : DX → Expr → Bool
  | .fail, _ => true
  | .var i, e => match e with | .Name x _ => nmB c i x | _ => false
  | .const k, e => match e with | .Constant z _ _ => ctB k z | _ => false
  | .glob i, e => match e with | .Name x _ => (match c.cs[i]? with | some y => decide (y = x) | none => false) && glB c x | _ => false
  | .op o a b, e => match e with | .BinOp l o' r _ => opB o o' && okE c a l && okE c b r | _ => false
  | .neg a, e => match e with | .UnaryOp .USub l _ => okE c a l | _ => false
  | .cmp k a b, e => match e with | .Compare l [o] [r] _ => cmB k o && notSet r && okE c a l && okE c b r | _ => false
  | .chain k k' a b d, e => match e with | .Compare l [o, o'] [r, r'] _ => cmB k o && cmB k' o' && notSet r' && okE c a l && okE c b r && okE c d r' | _ => false
  | .and a b, e => match e with
    | .BoolOp .And [l, r] _ => okE c a l && okE c b r
    | .BoolOp .And (l :: r :: q :: rs) p => okE c a l && okE c b (.BoolOp .And (r :: q :: rs) p)
    | _ => false
  | .or a b, e => match e with
    | .BoolOp .Or [l, r] _ => okE c a l && okE c b r
    | .BoolOp .Or (l :: r :: q :: rs) p => okE c a l && okE c b (.BoolOp .Or (r :: q :: rs) p)
    | _ => false
  | .not a, e => match e with | .UnaryOp .Not l _ => okE c a l | _ => false
  | .ite t a b, e => match e with | .IfExp l x y _ => okT c t l && okE c a x && okE c b y | _ => false
  | .tup as, e => match e with | .Tuple es _ _ => okEs c as es | _ => false
  | .lst as, e => match e with | .List es _ => okEs c as es | _ => false
  | .cell as, e => match e with | .List es _ => okEs c as es | _ => false
  | .emp, e => match e with | .Dict [] [] _ => true | _ => false
  | .idx a b, e => match e with | .Subscript l r _ => !isSlice r && okE c a l && okE c b r | _ => false
  | .sli a lo hi, e => match e with | .Subscript l (.Slice x y none _) _ => okE c a l && okO c lo x && okO c hi y | _ => false
  | .rev a, e => match e with | .Subscript l (.Slice none none (some (.UnaryOp .USub (.Constant (.int i) _ _) _)) _) _ => (i == 1) && okE c a l | _ => false
  | .call f as, e => match e with
    | .Call (.Name x _) es kws _ => (match c.fs[f]? with
      | some (y, ps) => decide (y = x) && glB c x && (as.len == ps.length) &&
          (match es, kws with
          | [], [] => okEs c as []
          | e1 :: es, [] => ((e1 :: es).all fun e => !starred e) && okEs c as (e1 :: es)
          | [], kws => kwOf kws ps && okK c as kws
          | _, _ => false)
      | none => false)
    | _ => false
  | .bi f as, e => match e with
    | .Call (.Name x _) es [] _ => (match f with
      | .isinst t => (t ∈ ["int", "bool", "str", "tuple", "list", "dict"]) && decide (x = ("isinstance" : Str)) && glB c x && (match as, es with
          | .cons a .nil, [e1, .Name tn _] => !starred e1 && okE c a e1 && decide (tn = Str.ofString t) && glB c tn
          | _, _ => false)
      | .gcd => c.gcd && decide (x = ("gcd" : Str)) && glB c x && (match es with | e1 :: es => ((e1 :: es).all fun e => !starred e) && okEs c as (e1 :: es) | [] => false)
      | f => (match biN f with
        | some (n, _) => decide (x = Str.ofString n) && glB c x && (match es with | e1 :: es => ((e1 :: es).all fun e => !starred e) && okEs c as (e1 :: es) | [] => false)
        | none => false))
    | _ => false
  | .meth m a as, e => match e with
    | .Call (.Attribute l nm ap) [] [] cp => (match m, as with
      | .upper, .nil => decide (nm = ("upper" : Str)) && notCall l && (ap.endLine == cp.line) && okE c a l
      | _, _ => false)
    | _ => false
  | .lrg t as, e => match e with
    | .Call (.Name x _) [.Call (.Name y _) es [] _] [] _ => decide (x = if t then ("tuple" : Str) else ("list" : Str)) && glB c x && decide (y = ("range" : Str)) && glB c y && (match as, es with
      | .cons a .nil, [e1] => !starred e1 && okE c a e1
      | .cons a (.cons b .nil), [e1, e2] => !starred e1 && !starred e2 && okE c a e1 && okE c b e2
      | _, _ => false)
    | _ => false
  | .comp own tg it ifs d, e => match e with
    | .ListComp elt [⟨t, iter, is, k⟩] scope _ => (k == 0) && blkC c.N c.sc scope (ownN c own) && ((tgW tg).all fun j => decide (j ∈ own)) && notSet iter && okI c it t iter &&
        okG (c.blk scope) tg t && (match is with | [] => isYes ifs | [e1] => okT (c.blk scope) ifs e1 | _ => false) && okE (c.blk scope) d elt
    | _ => false
def okEs (c : TC) : DXs → List Expr → Bool
  | .nil, es => match es with | [] => true | _ => false
  | .cons a as, es => match es with | e :: es => !starred e && okE c a e && okEs c as es | _ => false
  | .star a as, es => match es with | .Starred e _ :: es => okE c a e && okEs c as es | _ => false
def okK (c : TC) : DXs → List Keyword → Bool
  | .nil, es => match es with | [] => true | _ => false
  | .cons a as, es => match es with | k :: es => okE c a k.value && okK c as es | _ => false
  | .star _ _, _ => false
def okO (c : TC) : DXo → Option Expr → Bool
  | .none, e => match e with | none => true | _ => false
  | .some a, e => match e with | some e => okE c a e | _ => false
def okI (c : TC) : DIt → Expr → Expr → Bool
  | .seq a, _, e => okE c a e
  | .rng as, _, e => match e with
    | .Call (.Name x _) es [] _ => decide (x = ("range" : Str)) && glB c x && (match es with
      | [e1] => !starred e1 && okEs c as [e1]
      | [e1, e2] => !starred e1 && !starred e2 && okEs c as [e1, e2]
      | _ => false)
    | _ => false
  | .zip a b, t, e => match e with
    | .Call (.Name x _) [e1, e2] [] _ => isTup t && decide (x = ("zip" : Str)) && glB c x && !starred e1 && !starred e2 && okE c a e1 && okE c b e2
    | _ => false
  | .enum a, t, e => match e with
    | .Call (.Name x _) [e1] [] _ => isTup t && decide (x = ("enumerate" : Str)) && glB c x && !starred e1 && okE c a e1
    | _ => false
def okT (c : TC) : DT → Expr → Bool
  | .yes, _ => false
  | .and a b, e => match e with | .BoolOp .And [l, r] _ => okT c a l && okT c b r | .BoolOp .And (l :: r :: q :: rs) p => okT c a l && okT c b (.BoolOp .And (r :: q :: rs) p) | _ => false
  | .or a b, e => match e with | .BoolOp .Or [l, r] _ => okT c a l && okT c b r | .BoolOp .Or (l :: r :: q :: rs) p => okT c a l && okT c b (.BoolOp .Or (r :: q :: rs) p) | _ => false
  | .not a, e => match e with | .UnaryOp .Not l _ => okT c a l | _ => false
  | .tv a, e => okE c a e && (plainT e || (match e with | .Compare .. => true | _ => false))
end
def bNames : List Str := ["len", "abs", "int", "min", "max", "list", "tuple", "all", "any", "sum", "repr", "str", "isinstance", "bool", "dict", "range", "zip", "enumerate", "sorted"]
structure Fit (X : Cx) (c : TC) (E : Gv) : Prop where
  N : X.N = c.N
  nd : X.N.Nodup
  sc : X.env.scope = c.sc
  kind : c.sc.kind = .function
  calm : X.calm = true
  gu : X.A.guards = some []
  un : X.A.units + 200 < cLine
  fn : ∀ x, c.fn x = true → X.fn x = true
  bl : ∀ x, x ∈ bNames → X.mg x = none
  gc : c.gcd = true → X.mg "gcd" = some (.builtin "math.gcd")
  fs : ∀ i x ps, c.fs[i]? = some (x, ps) → FnHere X x ps (E.F i)
  cs : ∀ i x d, c.cs[i]? = some x → E.C i = some d → ∃ v u, X.mg x = some u ∧ RelV v u ∧ ∀ G io, DV X.K G io v d
section
variable {X : Cx} {c : TC} {E : Gv}
theorem Fit.block (F : Fit X c E) {scope : Scope} {own : List (Str × Nat)} (h : blkC c.N c.sc scope own = true) (s : Shared) (H : Hp) (C : Addr) (cl : List (Str × Addr)) (fp : List Addr) :
    Fit (X.blk s H scope (compEnvC scope cl C X.env) fp) (c.blk scope) E := by
  have hk : scope.kind = .function := by
    unfold blkC at h
    simp only [Bool.and_eq_true] at h
    have := h.1.1.1
    split at this
    · assumption
    · cases this
  refine ⟨F.N, F.nd, ?_, hk, F.calm, F.gu, F.un, fun x hx => hx, F.bl, F.gc, fun i x ps e => ⟨(F.fs i x ps e).ex⟩, F.cs⟩
  show relS scope X.env.scope = relS scope c.sc
  rw [F.sc]
theorem visB_v {sc : Scope} {x : Str} (h : visB sc x = true) : Vis sc x := by
  unfold visB at h
  split at h <;> first | exact .inl (by assumption) | exact .inr (.inl (by assumption)) | exact .inr (.inr (by assumption)) | cases h
theorem locB_v {sc : Scope} {x : Str} (h : locB sc x = true) : Loc sc x := by
  unfold locB at h
  split at h <;> first | exact .inl (by assumption) | exact .inr (by assumption) | cases h
theorem lcB_v {sc : Scope} {x : Str} (h : lcB sc x = true) : sc.names.lookup x = some .local := by
  unfold lcB at h
  split at h <;> first | assumption | cases h
theorem at_v' {N : List Str} {i : Nat} {x : Str} (h : (match N[i]? with | some y => decide (y = x) | none => false) = true) : N[i]? = some x := by
  split at h
  · rename_i y e; rw [e, of_decide_eq_true h]
  · cases h
theorem nmB_v (F : Fit X c E) {i : Nat} {x : Str} (h : nmB c i x = true) : X.N[i]? = some x ∧ Vis X.env.scope x ∧ (x == ("__debug__" : Str)) = false ∧ (x == ("__classdict__" : Str)) = false := by
  unfold nmB at h
  simp only [Bool.and_eq_true, Bool.not_eq_true'] at h
  obtain ⟨⟨⟨h1, h2⟩, h3⟩, h4⟩ := h
  exact ⟨by rw [F.N]; exact at_v' h1, by rw [F.sc]; exact visB_v h2, h3, h4⟩
theorem glB_v (F : Fit X c E) {x : Str} (h : glB c x = true) : Gl X x ∧ (x == ("__debug__" : Str)) = false := by
  unfold glB at h
  simp only [Bool.and_eq_true, Bool.not_eq_true'] at h
  refine ⟨?_, h.2⟩
  show X.env.scope.names.lookup x = _
  rw [F.sc]
  have := h.1
  split at this <;> first | assumption | cases this
theorem stB_v (F : Fit X c E) {i : Nat} {x : Str} (h : stB c i x = true) : X.N[i]? = some x ∧ Loc X.env.scope x ∧ (X.fn x = true ∨ X.env.scope.names.lookup x = some .local) := by
  unfold stB at h
  simp only [Bool.and_eq_true, Bool.or_eq_true] at h
  obtain ⟨⟨h1, h2⟩, h3⟩ := h
  refine ⟨by rw [F.N]; exact at_v' h1, by rw [F.sc]; exact locB_v h2, ?_⟩
  rcases h3 with h | h
  · exact .inl (F.fn _ h)
  · exact .inr (by rw [F.sc]; exact lcB_v h)
theorem opB_v {o : Op2} {o' : Operator} (h : opB o o' = true) : o' = opA o := by cases o <;> cases o' <;> first | rfl | cases h
theorem cmB_v {o : Cm} {o' : CmpOp} (h : cmB o o' = true) : o' = cmA o := by cases o <;> cases o' <;> first | rfl | cases h
theorem ctB_v {k : Ct} {z : Const} (h : ctB k z = true) {j : Nat} {pos : Pos} (B : Bs) : PE X (.Constant z j pos) (tD X.K B fun s => .ok k.d s) := by
  cases k <;> cases z <;> first | exact s_non B | skip
  all_goals first | (cases h; done) | skip
  · cases (eq_of_beq h : _ = _); exact s_bl B
  · cases (eq_of_beq h : _ = _); exact s_int B
  · cases (of_decide_eq_true h : _ = _); exact s_str B
theorem notSet_v {e : Expr} (h : notSet e = true) : ∀ es k p, e ≠ .Set es k p := by
  rintro es k p rfl; cases h
theorem isVar_v {a : DX} {i : Nat} (h : isVar a = some i) : a = .var i := by
  cases a <;> first | (cases h; rfl) | cases h
theorem PE.nope {e : Expr} {B : Bs} {f : S → R D} (h : ∀ s, f s = .stuck) : PE X e (tD X.K B f) := ⟨fun pins s σ H Q I ⟨G, io, s', R, q⟩ => by rw [h] at q; exact q.elim⟩
theorem PSs.nope {e : List Stmt} {B : Bs} {f : S → R Fl} (h : ∀ s, f s = .stuck) : PSs X e (tSt X.K B f) := ⟨fun pins s σ H D I ⟨G, io, s', R, q⟩ => by rw [h] at q; exact q.elim⟩
theorem PS.nope {e : Stmt} {B : Bs} {f : S → R Fl} (h : ∀ s, f s = .stuck) : PS X e (tSt X.K B f) := ⟨fun pins s σ H D I ⟨G, io, s', R, q⟩ => by rw [h] at q; exact q.elim⟩
theorem evs_len : ∀ {as : DXs} {s s' : S} {ds : List D} {es : List Expr}, okEs c as es = true → (es.all fun e => !starred e) = true → evs E as s = .ok ds s' → ds.length = as.len ∧ es.length = as.len
  | .nil, s, s', ds, es, h, _, e => by
    rw [evs] at e
    cases e
    unfold okEs at h
    split at h
    · exact ⟨rfl, rfl⟩
    · cases h
  | .cons a as, s, s', ds, es, h, hn, e => by
    unfold okEs at h
    split at h
    · rename_i e1 es'
      simp only [Bool.and_eq_true, List.all_cons] at h hn
      rw [evs] at e
      obtain ⟨d, s1, _, e⟩ := bind_eq_ok e
      obtain ⟨ds1, s2, e2, e⟩ := bind_eq_ok e
      cases e
      obtain ⟨q1, q2⟩ := evs_len h.2 hn.2 e2
      exact ⟨by simp [DXs.len, q1], by simp [DXs.len, q2]⟩
    · cases h
  | .star a as, s, s', ds, es, h, hn, e => by
    unfold okEs at h
    split at h
    · simp [starred] at hn
    · cases h
theorem evs_lenK : ∀ {as : DXs} {s s' : S} {ds : List D} {kws : List Keyword}, okK c as kws = true → evs E as s = .ok ds s' → ds.length = as.len
  | .nil, s, s', ds, es, h, e => by
    rw [evs] at e
    cases e
    rfl
  | .cons a as, s, s', ds, es, h, e => by
    unfold okK at h
    split at h
    · rename_i e1 es'
      simp only [Bool.and_eq_true] at h
      rw [evs] at e
      obtain ⟨d, s1, _, e⟩ := bind_eq_ok e
      obtain ⟨ds1, s2, e2, e⟩ := bind_eq_ok e
      cases e
      have q1 := evs_lenK h.2 e2
      simp [DXs.len, q1]
    · cases h
  | .star a as, s, s', ds, es, h, e => by
    unfold okK at h
    cases h
theorem asgs_len : ∀ {ts : DTgs} {ds : List D} {s s' : S}, asgs ts ds s = some s' → ds.length = ts.len
  | .nil, [], _, _, _ => rfl
  | .nil, _ :: _, _, _, h => by simp [asgs] at h
  | .cons t ts, [], _, _, h => by simp [asgs] at h
  | .cons t ts, d :: ds, s, s', h => by
    rw [asgs] at h
    obtain ⟨s1, _, h⟩ := Option.bind_eq_some_iff.mp h
    simp [DTgs.len, asgs_len h]
theorem okGs_len : ∀ {ts : DTgs} {es : List Expr}, okGs c ts es = true → es.length = ts.len
  | .nil, es, h => by
    unfold okGs at h
    split at h
    · rfl
    · cases h
  | .cons t ts, es, h => by
    unfold okGs at h
    split at h
    · simp only [Bool.and_eq_true] at h
      simp [DTgs.len, okGs_len h.2]
    · cases h
end
mutual
theorem okG_s {X : Cx} {E : Gv} : ∀ (t : DTg) (c : TC) (F : Fit X c E) (e : Expr) (h : okG c t e = true) (B : Bs), PG X e (tG X.K B (tgW t) (asg t))
  | .nm i, c, F, e, h, B => by
    unfold okG at h
    split at h
    · obtain ⟨h1, h2, h3⟩ := stB_v F h
      have q : asg (.nm i) = setV i := by funext d s; rw [asg]
      rw [q]
      exact g_name F.nd h1 h2 h3 B
    · cases h
  | .tup ts, c, F, e, h, B => by
    unfold okG at h
    split at h
    · simp only [Bool.and_eq_true] at h
      exact g_tup F.calm h.1 (okGs_s ts c F _ h.2) (fun ds s s' q => (asgs_len q).trans (okGs_len h.2).symm) B
    · cases h
theorem okGs_s {X : Cx} {E : Gv} : ∀ (t : DTgs) (c : TC) (F : Fit X c E) (e : List Expr) (h : okGs c t e = true) (B : Bs), PGs X e (tGs X.K B (tgsW t) (asgs t))
  | .nil, c, F, e, h, B => by
    unfold okGs at h
    split at h
    · exact g_nil B
    · cases h
  | .cons t ts, c, F, e, h, B => by
    unfold okGs at h
    split at h
    · simp only [Bool.and_eq_true, Bool.not_eq_true'] at h
      exact g_cons h.1.1 (okG_s t c F _ h.1.2) (okGs_s ts c F _ h.2) B
    · cases h
end
end DL
end

section
set_option Elab.async false
set_option linter.all false
set_option autoImplicit false
set_option maxRecDepth 100000
set_option maxHeartbeats 4000000
namespace DL
open PySem PySem.Spec L2

theorem kwOf_v : ∀ {kws : List Keyword} {ps : List Str}, kwOf kws ps = true → kwNames kws = ps.map some
  | [], [], _ => rfl
  | [], _ :: _, h => by cases h
  | _ :: _, [], h => by cases h
  | k :: kws, p :: ps, h => by
    unfold kwOf at h
    simp only [Bool.and_eq_true] at h
    obtain ⟨h1, h2⟩ := h
    split at h1
    · rename_i a e
      have := of_decide_eq_true h1
      subst this
      simp only [kwNames, List.map_cons, e]
      exact congrArg _ (kwOf_v h2)
    · cases h1
theorem ownN_2 {c : TC} {own : List Nat} : (ownN c own).map (·.2) = own := by
  unfold ownN
  rw [List.map_map]
  exact List.map_id' own
def cTest : Expr → Bool
  | .Compare .. => true | _ => false
section
variable {X : Cx} {c : TC} {E : Gv}
theorem bi_plain (F : Fit X c E) {f : Bi} {n : String} {b : Bool} (h : biN f = some (n, b)) {x : Str} (hx : x = Str.ofString n) {p pos : Pos} {e : Expr} {es : List Expr} {fs : S → R (List D)} (hg : glB c x = true) (hst : (e :: es).all (fun e => !starred e) = true)
    (hs : ∀ B, PA X (e :: es) (tA X.K B fs)) (B : Bs) : PE X (.Call (.Name x p) (e :: es) [] pos) (tD X.K B fun s => (fs s).bind fun ds s => opt (biD f ds) s) := by
  obtain ⟨g1, g2⟩ := glB_v F hg
  subst hx
  have bl : ∀ x, x ∈ bNames → X.mg x = none := F.bl
  have hu := F.un
  have hgu := F.gu
  have hc := F.calm
  cases f <;> (try (simp only [biN] at h; cases h)) <;> (try (cases h; done))
  · exact s_biB .len (fun B => cb_len) g1 (bl _ (by decide)) (by decide +kernel) (by decide) g2 hst hs B
  · exact s_biB .abs (fun B => cb_abs) g1 (bl _ (by decide)) (by decide +kernel) (by decide) g2 hst hs B
  · exact s_biT .int (fun B => cb_int) g1 (bl _ (by decide)) (by decide +kernel) (by decide) g2 hst hs B
  · exact s_biB .min (fun B => cb_min hc) g1 (bl _ (by decide)) (by decide +kernel) (by decide) g2 hst hs B
  · exact s_biB .max (fun B => cb_max hc) g1 (bl _ (by decide)) (by decide +kernel) (by decide) g2 hst hs B
  · exact s_biT .list (fun B => cb_list) g1 (bl _ (by decide)) (by decide +kernel) (by decide) g2 hst hs B
  · exact s_biT .tuple (fun B => cb_tuple) g1 (bl _ (by decide)) (by decide +kernel) (by decide) g2 hst hs B
  · exact s_biB .all (fun B => cb_all hc) g1 (bl _ (by decide)) (by decide +kernel) (by decide) g2 hst hs B
  · exact s_biB .any (fun B => cb_any hc) g1 (bl _ (by decide)) (by decide +kernel) (by decide) g2 hst hs B
  · exact s_biB .sum (fun B => cb_sum hc) g1 (bl _ (by decide)) (by decide +kernel) (by decide) g2 hst hs B
  · exact s_biB .repr (fun B => cb_repr hgu hu) g1 (bl _ (by decide)) (by decide +kernel) (by decide) g2 hst hs B
  · exact s_biB .sorted (fun B => cb_sorted) g1 (bl _ (by decide)) (by decide +kernel) (by decide) g2 hst hs B
  · exact s_biT .str (fun B => cb_str) g1 (bl _ (by decide)) (by decide +kernel) (by decide) g2 hst hs B
end

theorem lenArg_none {f : Bi} {as : DXs} (h : lenArg f as = none) {E : Gv} : ev E (.bi f as) = fun s => (evs E as s).bind fun ds s => opt (biD f ds) s := by
  funext s
  rw [ev]
  intro i e1 e2
  subst e1 e2
  cases h
theorem lenArg_some {f : Bi} {as : DXs} {i : Nat} (h : lenArg f as = some i) : f = .len ∧ as = .cons (.var i) .nil := by
  unfold lenArg at h
  split at h
  · cases h; exact ⟨rfl, rfl⟩
  · cases h
theorem PT.nope {X : Cx} {e : Expr} {B : Bs} {f : S → R Bool} (h : ∀ s, f s = .stuck) : PT X e (tT X.K B f) := ⟨fun pins s σ H Q I ⟨G, io, s', R, q⟩ => by rw [h] at q; exact q.elim⟩
theorem PI.nope {X : Cx} {t e : Expr} {B : Bs} {f : S → R (List D)} (h : ∀ s, f s = .stuck) : PI X t e (tI X.K B f) := ⟨fun pins s σ H Q I ⟨G, io, s', R, q⟩ => by rw [h] at q; exact q.elim⟩
theorem notCall_v {X : Cx} {l : Expr} {nm : Str} (h : notCall l = true) : attributeBase l nm X.env (eval l X.env) = eval l X.env := by
  cases l <;> first | rfl | cases h

theorem fstB {P Q : Bs → Prop} (h : ∀ B, P B ∧ Q B) : ∀ B, P B := fun B => (h B).1
def isCmpX : DX → Bool
  | .cmp .. => true | .chain .. => true | .fail => true | _ => false
theorem okC_no {P : Prop} {c : TC} {x : DX} {e : Expr} (z : cTest e = true) (h : okE c x e = true) (n : isCmpX x = false) : P := by
  cases e <;> first | (cases z; done) | skip
  cases x <;> first | (cases n; done) | skip
  all_goals (unfold okE at h; cases h)
def isBo : Expr → Bool
  | .BoolOp .. => true | _ => false
theorem okEs_one {c : TC} {i : Nat} {es : List Expr} (h : okEs c (.cons (.var i) .nil) es = true) : ∃ x p, es = [.Name x p] ∧ nmB c i x = true := by
  unfold okEs at h
  split at h
  · simp only [Bool.and_eq_true] at h
    obtain ⟨⟨h1, h2⟩, h3⟩ := h
    unfold okE at h2
    split at h2
    · unfold okEs at h3
      split at h3
      · exact ⟨_, _, rfl, h2⟩
      · cases h3
    · cases h2
  · cases h
mutual
theorem okE_s {E : Gv} : ∀ (x : DX) (X : Cx) (c : TC) (F : Fit X c E) (e : Expr) (h : okE c x e = true) (B : Bs), PE X e (tD X.K B (ev E x)) ∧ (cTest e = true → PT X e (tT X.K B fun s => (ev E x s).bind fun x s => opt (truth x) s))
  | .fail, X, c, F, e, h, B => ⟨PE.nope fun s => by rw [ev], fun _ => PT.nope fun s => by rw [ev]; rfl⟩
  | .var i, X, c, F, e, h, B => by
    refine ⟨?_, fun z => okC_no z h rfl⟩
    unfold okE at h
    split at h
    · obtain ⟨h1, h2, h3, h4⟩ := nmB_v F h
      have q : ev E (.var i) = rdv i := by funext s; rw [ev]
      rw [q]
      exact s_var h1 h2 h3 h4 B
    · cases h
  | .const k, X, c, F, e, h, B => by
    refine ⟨?_, fun z => okC_no z h rfl⟩
    unfold okE at h
    split at h
    · have q : ev E (.const k) = fun s => .ok k.d s := by funext s; rw [ev]
      rw [q]
      exact ctB_v h B
    · cases h
  | .glob i, X, c, F, e, h, B => by
    refine ⟨?_, fun z => okC_no z h rfl⟩
    unfold okE at h
    split at h
    · simp only [Bool.and_eq_true] at h
      obtain ⟨g1, g2⟩ := glB_v F h.2
      cases q : E.C i with
      | none => exact PE.nope fun s => by rw [ev, q]; rfl
      | some d =>
        have q' : ev E (.glob i) = fun s => .ok d s := by funext s; rw [ev, q] <;> rfl
        rw [q']
        have e1 := at_v' h.1
        obtain ⟨v, u, m, r, dv⟩ := F.cs _ _ _ e1 q
        exact s_glob g1 m r dv g2 B
    · cases h
  | .op o a b, X, c, F, e, h, B => by
    refine ⟨?_, fun z => okC_no z h rfl⟩
    unfold okE at h
    split at h
    · simp only [Bool.and_eq_true] at h
      obtain ⟨⟨h0, h1⟩, h2⟩ := h
      cases opB_v h0
      have q : ev E (.op o a b) = fun s => (ev E a s).bind fun x s => (ev E b s).bind fun y s => opt (op2 o x y) s := by funext s; rw [ev]
      rw [q]
      exact s_op o (fun B => (okE_s a X c F _ h1 B).1) (fun B => (okE_s b X c F _ h2 B).1) B
    · cases h
  | .neg a, X, c, F, e, h, B => by
    refine ⟨?_, fun z => okC_no z h rfl⟩
    unfold okE at h
    split at h
    · have q : ev E (.neg a) = fun s => (ev E a s).bind fun x s => (match x with | .int i => .ok (.int (-i)) s | _ => .stuck) := by funext s; rw [ev] <;> rfl
      rw [q]
      exact s_neg (fun B => (okE_s a X c F _ h B).1) B
    · cases h
  | .cmp k a b, X, c, F, e, h, B => by
    unfold okE at h
    split at h
    · simp only [Bool.and_eq_true] at h
      obtain ⟨⟨⟨h0, h3⟩, h1⟩, h2⟩ := h
      cases cmB_v h0
      have hu : X.A.units + 64 < cLine := by have := F.un; omega
      cases v : isVar a with
      | none =>
        have q : ev E (.cmp k a b) = fun s => (ev E a s).bind fun x s => (ev E b s).bind fun y s => opt ((cmD k x y).map .bl) s := by funext s; rw [ev, v]
        rw [q]
        exact ⟨s_cmp hu k (fun B => (okE_s a X c F _ h1 B).1) (fun B => (okE_s b X c F _ h2 B).1) (notSet_v h3) B, fun _ => t_cmp hu k (fstB (okE_s a X c F _ h1)) (fstB (okE_s b X c F _ h2)) (notSet_v h3) B⟩
      | some i =>
        have q : ev E (.cmp k a b) = peekR i (ev E b) fun x y s => opt ((cmD k x y).map .bl) s := by funext s; rw [ev, v]
        rw [q]
        rw [isVar_v v] at h1
        unfold okE at h1
        split at h1
        · obtain ⟨n1, n2, n3, n4⟩ := nmB_v F h1
          exact ⟨s_cmpV hu k n1 n2 n3 n4 (fun B => (okE_s b X c F _ h2 B).1) (notSet_v h3) B, fun _ => t_cmpV hu k n1 n2 n3 n4 (fun B => (okE_s b X c F _ h2 B).1) (notSet_v h3) B⟩
        · cases h1
    · cases h
  | .chain k k' a b d, X, c, F, e, h, B => by
    unfold okE at h
    split at h
    · simp only [Bool.and_eq_true] at h
      obtain ⟨⟨⟨⟨⟨h0, h4⟩, h3⟩, h1⟩, h2⟩, h5⟩ := h
      cases cmB_v h0
      cases cmB_v h4
      have hu : X.A.units + 64 < cLine := by have := F.un; omega
      have q : ev E (.chain k k' a b d) = fun s => (ev E a s).bind fun x s => (ev E b s).bind fun y s => (opt (cmD k x y) s).bind fun j s => if j then (ev E d s).bind fun z s => opt ((cmD k' y z).map .bl) s else .ok (.bl false) s := by funext s; rw [ev]
      rw [q]
      exact ⟨s_chain hu k k' (fun B => (okE_s a X c F _ h1 B).1) (fun B => (okE_s b X c F _ h2 B).1) (fun B => (okE_s d X c F _ h5 B).1) (notSet_v h3) B, fun _ => t_chain hu k k' (fun B => (okE_s a X c F _ h1 B).1) (fun B => (okE_s b X c F _ h2 B).1) (fun B => (okE_s d X c F _ h5 B).1) (notSet_v h3) B⟩
    · cases h
  | .and a b, X, c, F, e, h, B => by
    refine ⟨?_, fun z => okC_no z h rfl⟩
    have q : ev E (.and a b) = fun s => (ev E a s).bind fun x s => (opt (truth x) s).bind fun k s => if k then ev E b s else .ok x s := by funext s; rw [ev]
    rw [q]
    unfold okE at h
    split at h
    · simp only [Bool.and_eq_true] at h
      exact s_and (fun B => (okE_s a X c F _ h.1 B).1) (fun B => pe_one ((okE_s b X c F _ h.2 B).1)) B
    · simp only [Bool.and_eq_true] at h
      exact s_and (fun B => (okE_s a X c F _ h.1 B).1) (fun B => (okE_s b X c F _ h.2 B).1) B
    · cases h
  | .or a b, X, c, F, e, h, B => by
    refine ⟨?_, fun z => okC_no z h rfl⟩
    have q : ev E (.or a b) = fun s => (ev E a s).bind fun x s => (opt (truth x) s).bind fun k s => if k then .ok x s else ev E b s := by funext s; rw [ev]
    rw [q]
    unfold okE at h
    split at h
    · simp only [Bool.and_eq_true] at h
      exact s_or (fun B => (okE_s a X c F _ h.1 B).1) (fun B => pe_one ((okE_s b X c F _ h.2 B).1)) B
    · simp only [Bool.and_eq_true] at h
      exact s_or (fun B => (okE_s a X c F _ h.1 B).1) (fun B => (okE_s b X c F _ h.2 B).1) B
    · cases h
  | .not a, X, c, F, e, h, B => by
    refine ⟨?_, fun z => okC_no z h rfl⟩
    unfold okE at h
    split at h
    · have q : ev E (.not a) = fun s => (ev E a s).bind fun x s => (opt (truth x) s).bind fun k s => .ok (.bl (!k)) s := by funext s; rw [ev]
      rw [q]
      exact s_not (fun B => (okE_s a X c F _ h B).1) B
    · cases h
  | .ite t a b, X, c, F, e, h, B => by
    refine ⟨?_, fun z => okC_no z h rfl⟩
    unfold okE at h
    split at h
    · simp only [Bool.and_eq_true] at h
      have q : ev E (.ite t a b) = fun s => (tst E t s).bind fun k s => if k then ev E a s else ev E b s := by funext s; rw [ev]
      rw [q]
      exact s_ite (fun B => (okT_s t X c F _ h.1.1 B).1) (fun B => (okE_s a X c F _ h.1.2 B).1) (fun B => (okE_s b X c F _ h.2 B).1) B
    · cases h
  | .tup as, X, c, F, e, h, B => by
    refine ⟨?_, fun z => okC_no z h rfl⟩
    unfold okE at h
    split at h
    · have q : ev E (.tup as) = fun s => (evs E as s).bind fun ds s => if ds.length ≤ sizeLine then .ok (.tup ds) s else .stuck := by funext s; rw [ev]
      rw [q]
      exact s_tup (okEs_s as X c F _ h) B
    · cases h
  | .lst as, X, c, F, e, h, B => by
    refine ⟨?_, fun z => okC_no z h rfl⟩
    unfold okE at h
    split at h
    · have q : ev E (.lst as) = fun s => (evs E as s).bind fun ds s => if ds.length ≤ sizeLine then .ok (.lst ds) s else .stuck := by funext s; rw [ev]
      rw [q]
      exact s_lst (okEs_s as X c F _ h) B
    · cases h
  | .cell as, X, c, F, e, h, B => by
    refine ⟨?_, fun z => okC_no z h rfl⟩
    unfold okE at h
    split at h
    · have q : ev E (.cell as) = fun s => (evs E as s).bind fun ds s => if ds.length ≤ sizeLine then .ok (.ref s.m.length) { s with m := s.m ++ [ds] } else .stuck := by funext s; rw [ev]
      rw [q]
      exact s_cell (okEs_s as X c F _ h) B
    · cases h
  | .emp, X, c, F, e, h, B => by
    refine ⟨?_, fun z => okC_no z h rfl⟩
    unfold okE at h
    split at h
    · have q : ev E .emp = fun s => .ok .emp s := by funext s; rw [ev]
      rw [q]
      exact s_emp B
    · cases h
  | .idx a b, X, c, F, e, h, B => by
    refine ⟨?_, fun z => okC_no z h rfl⟩
    unfold okE at h
    split at h
    · simp only [Bool.and_eq_true, Bool.not_eq_true'] at h
      obtain ⟨⟨h0, h1⟩, h2⟩ := h
      cases v : isVar a with
      | none =>
        have q : ev E (.idx a b) = fun s => (ev E a s).bind fun x s => (ev E b s).bind fun y s => (opt (rderef x s) s).bind fun x s => opt (idxD x y) s := by funext s; rw [ev, v]
        rw [q]
        exact s_idx (fun B => (okE_s a X c F _ h1 B).1) (fun B => (okE_s b X c F _ h2 B).1) h0 B
      | some i =>
        have q : ev E (.idx a b) = peekR i (ev E b) fun x y s => (opt (rderef x s) s).bind fun x s => opt (idxD x y) s := by funext s; rw [ev, v]
        rw [q]
        rw [isVar_v v] at h1
        unfold okE at h1
        split at h1
        · obtain ⟨n1, n2, n3, n4⟩ := nmB_v F h1
          exact s_idxV n1 n2 n3 n4 (fun B => (okE_s b X c F _ h2 B).1) h0 B
        · cases h1
    · cases h
  | .sli a lo hi, X, c, F, e, h, B => by
    refine ⟨?_, fun z => okC_no z h rfl⟩
    unfold okE at h
    split at h
    · simp only [Bool.and_eq_true] at h
      have q : ev E (.sli a lo hi) = fun s => (ev E a s).bind fun x s => (evo E lo s).bind fun l s => (evo E hi s).bind fun h s => opt (sliD x l h) s := by funext s; rw [ev]
      rw [q]
      exact s_sli (fun B => (okE_s a X c F _ h.1.1 B).1) (okO_s lo X c F _ h.1.2) (okO_s hi X c F _ h.2) B
    · cases h
  | .rev a, X, c, F, e, h, B => by
    refine ⟨?_, fun z => okC_no z h rfl⟩
    unfold okE at h
    split at h
    · simp only [Bool.and_eq_true, beq_iff_eq] at h
      obtain ⟨h0, h1⟩ := h
      subst h0
      have q : ev E (.rev a) = fun s => (ev E a s).bind fun x s => opt (revD x) s := by funext s; rw [ev]
      rw [q]
      exact s_rev (fun B => (okE_s a X c F _ h1 B).1) B
    · cases h
  | .call f as, X, c, F, e, h, B => by
    refine ⟨?_, fun z => okC_no z h rfl⟩
    have q : ev E (.call f as) = fun s => (evs E as s).bind fun ds s => frR (E.F f ds s.m) s := by funext s; rw [ev]
    rw [q]
    unfold okE at h
    split at h
    · rename_i x p es kws pos
      split at h
      · rename_i y ps e1
        simp only [Bool.and_eq_true, decide_eq_true_eq, beq_iff_eq] at h
        obtain ⟨⟨⟨h0, h1⟩, h2⟩, h3⟩ := h
        subst h0
        obtain ⟨g1, g2⟩ := glB_v F h1
        have FH := F.fs _ _ _ e1
        split at h3
        · have q1 : evs E as = fun s => .ok [] s := by
            cases as with
            | nil => funext s; rw [evs]
            | _ => unfold okEs at h3; cases h3
          have hp : ps = [] := by
            cases as with
            | nil => exact List.eq_nil_of_length_eq_zero h2.symm
            | _ => unfold okEs at h3; cases h3
          subst hp
          simp only [q1, bind_ok]
          exact s_call0 FH F.gu g1 g2 B
        · simp only [Bool.and_eq_true] at h3
          exact s_call FH F.gu g1 g2 h3.1 (okEs_s as X c F _ h3.2) (fun s ds s' q => ((evs_len h3.2 h3.1 q).1).trans h2) B
        · simp only [Bool.and_eq_true] at h3
          exact s_callK0 FH F.gu g1 g2 (kwOf_v h3.1) (okK_s as X c F _ h3.2) (fun s ds s' q => (evs_lenK h3.2 q).trans h2) B
        · cases h3
      · cases h
    · cases h
  | .bi f as, X, c, F, e, h, B => by
    refine ⟨?_, fun z => okC_no z h rfl⟩
    cases hl : lenArg f as with
    | some i =>
      obtain ⟨rfl, rfl⟩ := lenArg_some hl
      unfold okE at h
      split at h
      · simp only [biN, Bool.and_eq_true, decide_eq_true_eq] at h
        obtain ⟨⟨h0, h1⟩, h2⟩ := h
        subst h0
        obtain ⟨g1, g2⟩ := glB_v F h1
        split at h2
        · simp only [Bool.and_eq_true] at h2
          obtain ⟨x, p, e1, h5⟩ := okEs_one h2.2
          rw [e1]
          obtain ⟨n1, n2, n3, n4⟩ := nmB_v F h5
          have q : ev E (.bi .len (.cons (.var i) .nil)) = fun s => match peek i s with | some x => (opt (rderef x s) s).bind fun x s => opt (biD .len [x]) s | none => .stuck := by funext s; rw [ev] <;> rfl
          rw [q]
          exact s_lenV n1 n2 n3 n4 g1 (F.bl _ (by decide)) B
        · cases h2
      · cases h
    | none =>
      rw [lenArg_none hl]
      unfold okE at h
      split at h
      · split at h
        · rename_i t
          simp only [Bool.and_eq_true, decide_eq_true_eq] at h
          obtain ⟨⟨⟨h0, h1⟩, h2⟩, h3⟩ := h
          subst h1
          obtain ⟨g1, g2⟩ := glB_v F h2
          split at h3
          · rename_i a e1 tn tp
            simp only [Bool.and_eq_true, decide_eq_true_eq, Bool.not_eq_true'] at h3
            obtain ⟨⟨⟨k1, k2⟩, k3⟩, k4⟩ := h3
            obtain ⟨g3, g4⟩ := glB_v F k4
            have q : (fun s => (evs E (.cons a .nil) s).bind fun ds s => opt (biD (.isinst t) ds) s) = fun s => ((ev E a s).bind fun d s => R.ok [d] s).bind fun ds s => opt (biD (.isinst t) ds) s := by
              funext s
              rw [evs]
              simp only [evs, bind_ok]
            rw [q]
            have bl : ∀ x, x ∈ bNames → X.mg x = none := F.bl
            subst k3
            simp only [List.mem_cons, List.not_mem_nil, or_false] at h0
            have ht : t ∈ ["int", "bool", "str", "tuple", "list", "dict"] := by simpa using h0
            rcases h0 with rfl | rfl | rfl | rfl | rfl | rfl <;>
              exact s_isi ht (fun B => (okE_s a X c F _ k2 B).1) k1 g1 (bl _ (by decide)) g3 (bl _ (by decide)) (by decide +kernel) (by decide) g4 B
          · cases h3
        · simp only [Bool.and_eq_true, decide_eq_true_eq] at h
          obtain ⟨⟨⟨h0, h1⟩, h2⟩, h3⟩ := h
          subst h1
          obtain ⟨g1, g2⟩ := glB_v F h2
          split at h3
          · simp only [Bool.and_eq_true] at h3
            exact s_biG .gcd (fun B => cb_gcd) g1 (F.gc h0) g2 h3.1 (okEs_s as X c F _ h3.2) B
          · cases h3
        · split at h
          · rename_i n b hb
            simp only [Bool.and_eq_true, decide_eq_true_eq] at h
            obtain ⟨⟨h0, h1⟩, h2⟩ := h
            split at h2
            · simp only [Bool.and_eq_true] at h2
              exact bi_plain F hb h0 h1 h2.1 (okEs_s as X c F _ h2.2) B
            · cases h2
          · cases h
      · cases h
  | .meth m a as, X, c, F, e, h, B => by
    refine ⟨?_, fun z => okC_no z h rfl⟩
    unfold okE at h
    split at h
    · split at h
      · simp only [Bool.and_eq_true, decide_eq_true_eq] at h
        obtain ⟨⟨⟨h0, h1⟩, h2⟩, h3⟩ := h
        subst h0
        have q : ev E (.meth .upper a .nil) = fun s => (ev E a s).bind fun x s => (R.ok [] s).bind fun ys s => opt (mtD .upper x ys) s := by funext s; rw [ev]; simp only [evs]
        rw [q]
        exact s_upper (fun B => (okE_s a X c F _ h3 B).1) (notCall_v h1) h2 B
      · cases h
    · cases h
  | .lrg t as, X, c, F, e, h, B => by
    refine ⟨?_, fun z => okC_no z h rfl⟩
    unfold okE at h
    split at h
    · simp only [Bool.and_eq_true, decide_eq_true_eq] at h
      obtain ⟨⟨⟨⟨h0, h1⟩, h2⟩, h3⟩, h4⟩ := h
      subst h2
      obtain ⟨g1, g2⟩ := glB_v F h1
      obtain ⟨g3, g4⟩ := glB_v F h3
      have hm0 : ∀ z : Str, z = (if t then ("tuple" : Str) else ("list" : Str)) → X.mg z = none := fun z hz => F.bl z (by rw [hz]; cases t <;> decide)
      have hm := hm0 _ h0
      split at h4
      · rename_i a e1
        simp only [Bool.and_eq_true, Bool.not_eq_true'] at h4
        have q : ev E (.lrg t (.cons a .nil)) = fun s => ((ev E a s).bind fun x s => R.ok [x] s).bind fun ds s => opt (lrgD t ds) s := by funext s; rw [ev]; simp only [evs, bind_ok]
        rw [q]
        exact s_lrg1 t h0 F.calm g1 hm g3 (F.bl _ (by decide)) h4.1 (fun B => (okE_s a X c F _ h4.2 B).1) B
      · rename_i a b e1 e2
        simp only [Bool.and_eq_true, Bool.not_eq_true'] at h4
        have q : ev E (.lrg t (.cons a (.cons b .nil))) = fun s => ((ev E a s).bind fun x s => (ev E b s).bind fun y s => R.ok [x, y] s).bind fun ds s => opt (lrgD t ds) s := by funext s; rw [ev]; simp only [evs, bind_ok, bind_assoc]; exact bind_ext fun a s => by simp only [bind_assoc, bind_ok]
        rw [q]
        exact s_lrg2 t h0 F.calm g1 hm g3 (F.bl _ (by decide)) h4.1.1.1 h4.1.1.2 (fun B => (okE_s a X c F _ h4.1.2 B).1) (fun B => (okE_s b X c F _ h4.2 B).1) B
      · cases h4
    · cases h
  | .comp own tg it ifs d, X, c, F, e, h, B => by
    refine ⟨?_, fun z => okC_no z h rfl⟩
    have q : ev E (.comp own tg it ifs d) = lcF own tg (evit E it) (tst E ifs) (ev E d) := by funext s; rw [ev] <;> rfl
    rw [q]
    unfold okE at h
    split at h
    · simp only [Bool.and_eq_true, beq_iff_eq] at h
      obtain ⟨⟨⟨⟨⟨⟨⟨h0, h1⟩, h2⟩, h3⟩, h4⟩, h5⟩, h6⟩, h7⟩ := h
      subst h0
      rename_i _ elt t' iter is scope pos
      have FB := fun s H C cl fp => F.block h1 s H C cl fp
      refine PE.imp (X := X) (t := tL X.K B (lcF own tg (evit E it) (tst E ifs) (ev E d))) ?_ fun σ H Q h => tL.val (fun s d s' e => ?_) h
      · have hw : ∀ j, j ∈ tgW tg → j ∈ (ownN c own).map (·.2) := by
          rw [ownN_2]
          intro j hj
          exact of_decide_eq_true (List.all_eq_true.mp h2 j hj)
        have r := s_comp (X := X) (B := B) (own := ownN c own) (ft := tst E ifs) (pos := pos) (ifs := is) F.calm F.nd (by rw [F.N, F.sc]; exact h1) hw (notSet_v h3) (okI_s it X c F _ _ h4) (fun s H C cl fp B => okG_s tg _ (FB s H C cl fp) _ h5 B) (fun s H C cl fp B => ?_) (fun s H C cl fp B => (okE_s d _ _ (FB s H C cl fp) _ h7 B).1)
        · rw [ownN_2] at r
          exact r
        · split at h6
          · have q : tst E ifs = fun s => .ok true s := by
              cases ifs <;> first | (cases h6; done) | (funext s; rw [tst])
            rw [q]
            exact PTs.imp pts_nil fun σ H Q ⟨G, io, s, R, h⟩ => postT.done h R
          · exact pts_one (okT_s ifs _ _ (FB s H C cl fp) _ h6 B).1
          · cases h6
      · unfold lcF at e
        obtain ⟨ds, s1, _, e⟩ := bind_eq_ok e
        split at e
        · obtain ⟨ys, s2, _, e⟩ := bind_eq_ok e
          split at e
          · cases e; exact ⟨_, rfl⟩
          · cases e
        · cases e
    · cases h
theorem okEs_s {E : Gv} : ∀ (x : DXs) (X : Cx) (c : TC) (F : Fit X c E) (e : List Expr) (h : okEs c x e = true) (B : Bs), PA X e (tA X.K B (evs E x))
  | .nil, X, c, F, e, h, B => by
    unfold okEs at h
    split at h
    · have q : evs E .nil = fun s => .ok [] s := by funext s; rw [evs]
      rw [q]
      exact s_nil B
    · cases h
  | .cons a as, X, c, F, e, h, B => by
    unfold okEs at h
    split at h
    · simp only [Bool.and_eq_true, Bool.not_eq_true'] at h
      have q : evs E (.cons a as) = fun s => (ev E a s).bind fun d s => (evs E as s).bind fun ds s => .ok (d :: ds) s := by funext s; rw [evs]
      rw [q]
      exact s_cons h.1.1 (fun B => (okE_s a X c F _ h.1.2 B).1) (okEs_s as X c F _ h.2) B
    · cases h
  | .star a as, X, c, F, e, h, B => by
    unfold okEs at h
    split at h
    · simp only [Bool.and_eq_true] at h
      have q : evs E (.star a as) = fun s => (ev E a s).bind fun d s => (match seqOf d with | some xs => (evs E as s).bind fun ds s => .ok (xs ++ ds) s | none => .stuck) := by funext s; rw [evs] <;> rfl
      rw [q]
      exact s_star (fun B => (okE_s a X c F _ h.1 B).1) (okEs_s as X c F _ h.2) B
    · cases h
theorem okK_s {E : Gv} : ∀ (x : DXs) (X : Cx) (c : TC) (F : Fit X c E) (e : List Keyword) (h : okK c x e = true) (B : Bs), PK X e (tA X.K B (evs E x))
  | .nil, X, c, F, e, h, B => by
    unfold okK at h
    split at h
    · have q : evs E .nil = fun s => .ok [] s := by funext s; rw [evs]
      rw [q]
      exact s_knil B
    · cases h
  | .cons a as, X, c, F, e, h, B => by
    unfold okK at h
    split at h
    · rename_i k es
      obtain ⟨nm, kv, kp⟩ := k
      simp only [Bool.and_eq_true] at h
      have q : evs E (.cons a as) = fun s => (ev E a s).bind fun d s => (evs E as s).bind fun ds s => .ok (d :: ds) s := by funext s; rw [evs]
      rw [q]
      exact s_kcons (fun B => (okE_s a X c F _ h.1 B).1) (okK_s as X c F _ h.2) B
    · cases h
  | .star a as, X, c, F, e, h, B => by
    unfold okK at h
    cases h
theorem okO_s {E : Gv} : ∀ (x : DXo) (X : Cx) (c : TC) (F : Fit X c E) (e : Option Expr) (h : okO c x e = true) (B : Bs), PO X e (tO X.K B (evo E x))
  | .none, X, c, F, e, h, B => by
    unfold okO at h
    split at h
    · have q : evo E .none = fun s => .ok none s := by funext s; rw [evo]
      rw [q]
      exact s_ono B
    · cases h
  | .some a, X, c, F, e, h, B => by
    unfold okO at h
    split at h
    · have q : evo E (.some a) = fun s => (ev E a s).bind fun d s => (match d with | .int i => .ok (some i) s | _ => .stuck) := by funext s; rw [evo] <;> rfl
      rw [q]
      exact s_oso (fun B => (okE_s a X c F _ h B).1) B
    · cases h
theorem okI_s {E : Gv} : ∀ (x : DIt) (X : Cx) (c : TC) (F : Fit X c E) (t e : Expr) (h : okI c x t e = true) (B : Bs), PI X t e (tI X.K B (evit E x))
  | .seq a, X, c, F, t, e, h, B => by
    unfold okI at h
    have q : evit E (.seq a) = fun s => (ev E a s).bind fun d s => opt (itemsOf d) s := by funext s; rw [evit]
    rw [q]
    exact i_seq (fun B => (okE_s a X c F _ h B).1) B
  | .rng as, X, c, F, t, e, h, B => by
    have q : evit E (.rng as) = fun s => (evs E as s).bind fun ds s => opt (rngD ds) s := by funext s; rw [evit]
    rw [q]
    unfold okI at h
    split at h
    · simp only [Bool.and_eq_true, decide_eq_true_eq] at h
      obtain ⟨⟨h0, h1⟩, h2⟩ := h
      subst h0
      obtain ⟨g1, g2⟩ := glB_v F h1
      split at h2
      · rename_i e1
        simp only [Bool.and_eq_true, Bool.not_eq_true'] at h2
        have hn : ([e1].all fun e => !starred e) = true := by simp [h2.1]
        have q : (fun s => (evs E as s).bind fun ds s => opt (rngD ds) s) = fun s => (evs E as s).bind fun ds s => if ds.length = 1 then opt (rngD ds) s else .stuck := by
          funext s
          cases e : evs E as s with
          | ok ds s' =>
            obtain ⟨l1, l2⟩ := evs_len h2.2 hn e
            simp only [bind_ok]
            rw [if_pos (by rw [l1, ← l2]; rfl)]
          | exc => rfl
          | stuck => rfl
        rw [q]
        exact i_rng1 g1 (F.bl _ (by decide)) h2.1 (okEs_s as X c F _ h2.2) B
      · rename_i e1 e2
        simp only [Bool.and_eq_true, Bool.not_eq_true'] at h2
        have hn : ([e1, e2].all fun e => !starred e) = true := by simp [h2.1]
        have q : (fun s => (evs E as s).bind fun ds s => opt (rngD ds) s) = fun s => (evs E as s).bind fun ds s => if ds.length = 2 then opt (rngD ds) s else .stuck := by
          funext s
          cases e : evs E as s with
          | ok ds s' =>
            obtain ⟨l1, l2⟩ := evs_len h2.2 hn e
            simp only [bind_ok]
            rw [if_pos (by rw [l1, ← l2]; rfl)]
          | exc => rfl
          | stuck => rfl
        rw [q]
        exact i_rng2 g1 (F.bl _ (by decide)) h2.1.1 h2.1.2 (okEs_s as X c F _ h2.2) B
      · cases h2
    · cases h
  | .zip a b, X, c, F, t, e, h, B => by
    have q : evit E (.zip a b) = fun s => (ev E a s).bind fun x s => (ev E b s).bind fun y s => opt (zipK x y) s := by funext s; rw [evit]
    rw [q]
    unfold okI at h
    split at h
    · simp only [Bool.and_eq_true, decide_eq_true_eq, Bool.not_eq_true'] at h
      obtain ⟨⟨⟨⟨⟨⟨h0, h1⟩, h2⟩, h3⟩, h4⟩, h5⟩, h6⟩ := h
      subst h1
      obtain ⟨g1, g2⟩ := glB_v F h2
      cases t <;> first | (cases h0; done) | skip
      exact i_zip g1 (F.bl _ (by decide)) h3 h4 (fun B => (okE_s a X c F _ h5 B).1) (fun B => (okE_s b X c F _ h6 B).1) B
    · cases h
  | .enum a, X, c, F, t, e, h, B => by
    have q : evit E (.enum a) = fun s => (ev E a s).bind fun x s => opt ((lseqOf x).map (enumD 0)) s := by funext s; rw [evit]
    rw [q]
    unfold okI at h
    split at h
    · simp only [Bool.and_eq_true, decide_eq_true_eq, Bool.not_eq_true'] at h
      obtain ⟨⟨⟨⟨h0, h1⟩, h2⟩, h3⟩, h5⟩ := h
      subst h1
      obtain ⟨g1, g2⟩ := glB_v F h2
      cases t <;> first | (cases h0; done) | skip
      exact i_enum g1 (F.bl _ (by decide)) h3 (fun B => (okE_s a X c F _ h5 B).1) B
    · cases h
theorem okT_s {E : Gv} : ∀ (x : DT) (X : Cx) (c : TC) (F : Fit X c E) (e : Expr) (h : okT c x e = true) (B : Bs), PT X e (tT X.K B (tst E x)) ∧ (isBo e = true → PW X e (tT X.K B (tst E x)))
  | .yes, X, c, F, e, h, B => by unfold okT at h; cases h
  | .and a b, X, c, F, e, h, B => by
    have q : tst E (.and a b) = fun s => (tst E a s).bind fun k s => if k then tst E b s else .ok false s := by funext s; rw [tst]
    rw [q]
    unfold okT at h
    split at h
    · simp only [Bool.and_eq_true] at h
      have r := fun B pos => t_and (pos := pos) (fstB (okT_s a X c F _ h.1)) (t_and1 (fstB (okT_s b X c F _ h.2))) B
      exact ⟨(r B _).pt, fun _ => r B _⟩
    · simp only [Bool.and_eq_true] at h
      have r := fun B => t_and (fstB (okT_s a X c F _ h.1)) (fun B => (okT_s b X c F _ h.2 B).2 rfl) B
      exact ⟨(r B).pt, fun _ => r B⟩
    · cases h
  | .or a b, X, c, F, e, h, B => by
    have q : tst E (.or a b) = fun s => (tst E a s).bind fun k s => if k then .ok true s else tst E b s := by funext s; rw [tst]
    rw [q]
    unfold okT at h
    split at h
    · simp only [Bool.and_eq_true] at h
      have r := fun B pos => t_or (pos := pos) (fstB (okT_s a X c F _ h.1)) (t_or1 (fstB (okT_s b X c F _ h.2))) B
      exact ⟨(r B _).pt, fun _ => r B _⟩
    · simp only [Bool.and_eq_true] at h
      have r := fun B => t_or (fstB (okT_s a X c F _ h.1)) (fun B => (okT_s b X c F _ h.2 B).2 rfl) B
      exact ⟨(r B).pt, fun _ => r B⟩
    · cases h
  | .not a, X, c, F, e, h, B => by
    unfold okT at h
    split at h
    · have q : tst E (.not a) = fun s => (tst E a s).bind fun k s => .ok (!k) s := by funext s; rw [tst]
      rw [q]
      exact ⟨t_not (fstB (okT_s a X c F _ h)) B, fun z => by cases z⟩
    · cases h
  | .tv a, X, c, F, e, h, B => by
    unfold okT at h
    simp only [Bool.and_eq_true] at h
    obtain ⟨h1, h2⟩ := h
    refine ⟨?_, fun z => ?_⟩
    · cases v : isVar a with
      | none =>
        have q : tst E (.tv a) = fun s => (ev E a s).bind fun x s => opt (truth x) s := by funext s; rw [tst, v]
        rw [q]
        cases hp : plainT e with
        | true => exact t_val (fstB (okE_s a X c F _ h1)) hp B
        | false =>
          have hc : cTest e = true := by rw [hp] at h2; cases e <;> first | rfl | cases h2
          exact (okE_s a X c F _ h1 B).2 hc
      | some i =>
        have q : tst E (.tv a) = fun s => (match peek i s with | some x => opt (truth x) s | none => .stuck) := by funext s; rw [tst, v] <;> rfl
        rw [q]
        rw [isVar_v v] at h1
        unfold okE at h1
        split at h1
        · obtain ⟨n1, n2, n3, n4⟩ := nmB_v F h1
          exact t_var n1 n2 n3 n4 B
        · cases h1
    · cases e <;> first | (cases z; done) | cases h2
end
end DL
end

section
set_option Elab.async false
set_option linter.all false
set_option autoImplicit false
set_option maxRecDepth 100000
set_option maxHeartbeats 4000000
namespace DL
open PySem PySem.Spec L2

/-- [..] to a name on one line -/
def swB (c : TC) (x : Str) (py : Pos) (e : Expr) (line : Nat) : Bool := match e with
  | .ListComp _ _ scope p => lcB c.sc x && (py.line == p.line) && !(scope.names.any fun (n, k) => n == x && (k == .local || k == .cell))
  | _ => false
def isComp : DX → Bool
  | .comp .. => true | _ => false
def compOk (c : TC) (a : DX) (x : Str) (py : Pos) (e : Expr) (line : Nat) : Bool := noComp e || (isComp a && swB c x py e line)
/-- a fresh list -/
def okL (a : DX) (e : Expr) : Bool := match a with
  | .fail => true
  | .comp .. => true
  | .lst _ => (match e with | .List .. => true | _ => false)
  | _ => false
def parB (c : TC) (is : List (Nat × Bool)) (ts : List Expr) : Bool := match is, ts with
  | [], [] => true
  | (i, _) :: is, t :: ts => (match t with | .Name x _ => (match c.N[i]? with | some y => decide (y = x) | none => false) && lcB c.sc x | _ => false) && parB c is ts
  | _, _ => false
def okF1 (c : TC) : List (Nat × Bool) → DXs → List Expr → Bool
  | [], .nil, [] => true
  | (_, b) :: is, .cons a as, e :: es => !starred e && okE c a e && (!b || (okL a e && noComp e)) && okF1 c is as es
  | _, _, _ => false
def nameB (c : TC) (i : Nat) (e : Expr) : Bool := match e with | .Name x _ => nmB c i x | _ => false
mutual
def okS (c : TC) : DS → Stmt → Bool
  | .fail, _ => true
  | .set i a, st => match st with
    | .Assign [.Name x py] e pos => stB c i x && okE c a e && compOk c a x py e pos.line
    | _ => false
  | .own i a, st => match st with
    | .Assign [.Name x py] e pos => stB c i x && okE c a e && okL a e && compOk c a x py e pos.line
    | _ => false
  | .unp tg a, st => match st with
    | .Assign [.Tuple es k pt] e _ => okG c tg (.Tuple es k pt) && okE c a e && (match e with | .Tuple vs _ _ => swNone c.sc es vs | _ => true)
    | _ => false
  | .par is as, st => match st with
    | .Assign [.Tuple ts _ _] (.Tuple es _ _) _ => parB c is ts && parOk c.sc ts es && okF1 c is as es && decide ((is.map (·.1)).Nodup) && (is.length == 2 || is.length == 3)
    | _ => false
  | .app i a, st => match st with
    | .Expr (.Call (.Attribute (.Name x _) nm p2) [e] [] cp) _ => decide (nm = ("append" : Str)) && nmB c i x && (p2.endLine == cp.line) && !starred e && okE c a e
    | _ => false
  | .ext i a, st => match st with
    | .Expr (.Call (.Attribute (.Name x _) nm p2) [e] [] cp) _ => decide (nm = ("extend" : Str)) && nmB c i x && (p2.endLine == cp.line) && !starred e && okE c a e
    | _ => false
  | .putv i k a, st => match st with
    | .Assign [.Subscript (.Name x _) b _] e _ => nmB c i x && okE c a e && okE c k b && noComp e && !isSlice b && notTup e
    | _ => false
  | .put o k a, st => match st with
    | .Assign [.Subscript l b _] e _ => okE c a e && okE c o l && okE c k b && noComp e && !isSlice b
    | _ => false
  | .drop a, st => match st with
    | .Expr e _ => okE c a e && noComp e
    | _ => false
  | .ret a, st => match st with
    | .Return (some e) _ => okE c a e
    | _ => false
  | .retn, st => match st with | .Return none _ => true | _ => false
  | .pass, st => match st with | .Pass _ => true | _ => false
  | .brk, st => match st with | .Break _ => true | _ => false
  | .cont, st => match st with | .Continue _ => true | _ => false
  | .ite t a b, st => match st with | .If l x y _ => okT c t l && okSs c a x && okSs c b y | _ => false
  | .whl t b, st => match st with | .While l x [] _ => okT c t l && okSs c b x | _ => false
  | .forr tg it b, st => match st with | .For l i x [] _ => okG c tg l && notSet i && okI c it l i && okSs c b x | _ => false
def okSs (c : TC) : DSs → List Stmt → Bool
  | .nil, l => match l with | [] => true | _ => false
  | .cons a as, l => match l with | s :: ss => okS c a s && okSs c as ss | _ => false
end
section
variable {X : Cx} {c : TC} {E : Gv}
theorem l_lst {pos : Pos} {es : List Expr} {fs : S → R (List D)} (hs : ∀ B, PA X es (tA X.K B fs)) (B : Bs) :
    PE X (.List es pos) (tL X.K B fun s => (fs s).bind fun ds s => if ds.length ≤ sizeLine then .ok (.lst ds) s else .stuck) := by
  refine PE.imp (pe_lst (hs B)) fun σ H Q ⟨G, io, s, R, h⟩ => ?_
  refine ⟨G, io, s, R, ?_⟩
  cases q : fs s with
  | exc => simp only [q, bind_exc] at h; exact h.elim
  | stuck => simp only [q, bind_stuck] at h; exact h.elim
  | ok ds s1 =>
    simp only [q, bind_ok] at h
    intro G1 io1 vs H1 R1 sg1 p1 dv1
    split at h
    · rename_i hz
      exact ⟨by rw [dv1.length]; exact hz, fun p hp => postL.lst (postL.up h sg1 p1) R1 dv1 hp⟩
    · exact h.elim
theorem PE.nopeL {e : Expr} {B : Bs} {f : S → R D} (h : ∀ s, f s = .stuck) : PE X e (tL X.K B f) := ⟨fun pins s σ H Q I ⟨G, io, s', R, q⟩ => by rw [h] at q; exact q.elim⟩
theorem okL_s {a : DX} (F : Fit X c E) {e : Expr} (h : okE c a e = true) (hl : okL a e = true) (hn : noComp e = true) (B : Bs) : PE X e (tL X.K B (ev E a)) := by
  cases a <;> first | (cases hl; done) | skip
  · exact PE.nopeL fun s => by rw [ev]
  · rename_i as
    unfold okE at h
    split at h
    · have q : ev E (.lst as) = fun s => (evs E as s).bind fun ds s => if ds.length ≤ sizeLine then .ok (.lst ds) s else .stuck := by funext s; rw [ev]
      rw [q]
      exact l_lst (okEs_s as X c F _ h) B
    · cases h
  · unfold okE at h
    split at h
    · cases hn
    · cases h
theorem sw_comp (F : Fit X c E) {x : Str} {py : Pos} {e : Expr} {line : Nat} (h : swB c x py e line = true) : X.env.scope.names.lookup x = some .local ∧ swapsWith e (some (.Name x py)) line X.env = pure true := by
  unfold swB at h
  split at h
  · rename_i elt gs scope p
    simp only [Bool.and_eq_true, beq_iff_eq] at h
    obtain ⟨⟨h1, h2⟩, h3⟩ := h
    have k := lcB_v h1
    rw [← F.sc] at k
    refine ⟨k, ?_⟩
    have kk : X.env.kindOf x = some .local := k
    have hb : X.env.blockKind = .function := by
      unfold Env.blockKind
      rw [F.sc, F.kind]
      rfl
    unfold swapsWith
    simp only [hb, kk, Expr.pos, h2]
    have e1 : (ScopeKind.function == ScopeKind.function) = true := rfl
    have e2 : (some NameKind.local == some NameKind.local) = true := rfl
    have e3 : (p.line == p.line) = true := by simp
    rw [e1, e2, e3]
    simp only [Bool.true_and]
    exact congrArg pure h3
  · cases h
theorem set_comp {own : List Nat} {tg : DTg} {it : DIt} {ifs : DT} {d : DX} (F : Fit X c E) {i : Nat} {x : Str} {py pos : Pos} {e : Expr} (hi : stB c i x = true) (h : okE c (.comp own tg it ifs d) e = true) (hs : swB c x py e pos.line = true) (B : Bs) :
    PS X (.Assign [.Name x py] e pos) (tAsg (tL X.K B (ev E (.comp own tg it ifs d))) (gName i)) := by
  obtain ⟨k1, k2⟩ := sw_comp F hs
  have q : ev E (.comp own tg it ifs d) = lcF own tg (evit E it) (tst E ifs) (ev E d) := by funext s; rw [ev] <;> rfl
  rw [q]
  unfold okE at h
  split at h
  · simp only [Bool.and_eq_true, beq_iff_eq] at h
    obtain ⟨⟨⟨⟨⟨⟨⟨h0, h1⟩, h2⟩, h3⟩, h4⟩, h5⟩, h6⟩, h7⟩ := h
    subst h0
    rename_i _ elt t' iter is scope pos'
    have FB := fun s H C cl fp => F.block h1 s H C cl fp
    have hw : ∀ j, j ∈ tgW tg → j ∈ (ownN c own).map (·.2) := by
      rw [ownN_2]
      intro j hj
      exact of_decide_eq_true (List.all_eq_true.mp h2 j hj)
    have r := s_setComp (X := X) (B := B) (own := ownN c own) (ft := tst E ifs) (pos := pos') (ifs := is) F.calm F.nd (stB_v F hi).1 k1 k2 (by rw [F.N, F.sc]; exact h1) hw (notSet_v h3) (okI_s it X c F _ _ h4) (fun s H C cl fp B => okG_s tg _ (FB s H C cl fp) _ h5 B) (fun s H C cl fp B => ?_) (fun s H C cl fp B => (okE_s d _ _ (FB s H C cl fp) _ h7 B).1)
    · rw [ownN_2] at r
      exact r
    · split at h6
      · have q : tst E ifs = fun s => .ok true s := by
          cases ifs <;> first | (cases h6; done) | (funext s; rw [tst])
        rw [q]
        exact PTs.imp pts_nil fun σ H Q ⟨G, io, s, R, h⟩ => postT.done h R
      · exact pts_one (okT_s ifs _ _ (FB s H C cl fp) _ h6 B).1
      · cases h6
  · cases h
theorem lcF_lst {own : List Nat} {t : DTg} {fi : S → R (List D)} {ft : S → R Bool} {fe : S → R D} (s : S) (d : D) (s' : S) (e : lcF own t fi ft fe s = .ok d s') : ∃ ds, d = .lst ds := by
  unfold lcF at e
  obtain ⟨ds, s1, _, e⟩ := bind_eq_ok e
  split at e
  · obtain ⟨ys, s2, _, e⟩ := bind_eq_ok e
    split at e
    · cases e; exact ⟨_, rfl⟩
    · cases e
  · cases e
theorem isComp_v {a : DX} (h : isComp a = true) : ∃ own tg it ifs d, a = .comp own tg it ifs d := by
  cases a <;> first | (cases h; done) | exact ⟨_, _, _, _, _, rfl⟩

theorem okF1_s (F : Fit X c E) : ∀ (is : List (Nat × Bool)) (as : DXs) (es : List Expr), okF1 c is as es = true → ∀ B, PA X es (tF X.K B (is.map (·.2)) (evs E as))
  | [], .nil, [], h, B => by
    have q : evs E .nil = fun s => .ok [] s := by funext s; rw [evs]
    rw [q]
    exact p_nil B
  | (i, b) :: is, .cons a as, e :: es, h, B => by
    unfold okF1 at h
    simp only [Bool.and_eq_true, Bool.or_eq_true, Bool.not_eq_true'] at h
    obtain ⟨⟨⟨h1, h2⟩, h3⟩, h4⟩ := h
    have q : evs E (.cons a as) = fun s => (ev E a s).bind fun d s => (evs E as s).bind fun ds s => .ok (d :: ds) s := by funext s; rw [evs]
    rw [q]
    cases b with
    | false => exact p_val h1 (fun B => (okE_s a X c F _ h2 B).1) (okF1_s F is as es h4) B
    | true =>
      rcases h3 with h3 | h3
      · cases h3
      · exact p_own h1 (fun B => okL_s F h2 h3.1 h3.2 B) (okF1_s F is as es h4) B
  | [], .nil, _ :: _, h, _ => by simp [okF1] at h
  | [], .cons .., _, h, _ => by simp [okF1] at h
  | [], .star .., _, h, _ => by simp [okF1] at h
  | _ :: _, .nil, _, h, _ => by simp [okF1] at h
  | _ :: _, .star .., _, h, _ => by simp [okF1] at h
  | _ :: _, .cons .., [], h, _ => by simp [okF1] at h
theorem len2 {α : Type} : ∀ {l : List α}, l.length = 2 → ∃ a b, l = [a, b]
  | [a, b], _ => ⟨a, b, rfl⟩
  | [], h => by simp at h
  | [_], h => by simp at h
  | _ :: _ :: _ :: _, h => by simp at h
theorem len3 {α : Type} : ∀ {l : List α}, l.length = 3 → ∃ a b c, l = [a, b, c]
  | [a, b, c], _ => ⟨a, b, c, rfl⟩
  | [], h => by simp at h
  | [_], h => by simp at h
  | [_, _], h => by simp at h
  | _ :: _ :: _ :: _ :: _, h => by simp at h
theorem okF1_len : ∀ {is : List (Nat × Bool)} {as : DXs} {es : List Expr}, okF1 c is as es = true → es.length = is.length
  | [], .nil, [], _ => rfl
  | (i, b) :: is, .cons a as, e :: es, h => by
    unfold okF1 at h
    simp only [Bool.and_eq_true] at h
    simp [okF1_len h.2]
  | [], .nil, _ :: _, h => by simp [okF1] at h
  | [], .cons .., _, h => by simp [okF1] at h
  | [], .star .., _, h => by simp [okF1] at h
  | _ :: _, .nil, _, h => by simp [okF1] at h
  | _ :: _, .star .., _, h => by simp [okF1] at h
  | _ :: _, .cons .., [], h => by simp [okF1] at h
theorem parB_len : ∀ {is : List (Nat × Bool)} {ts : List Expr}, parB c is ts = true → ts.length = is.length
  | [], [], _ => rfl
  | [], _ :: _, h => by simp [parB] at h
  | _ :: _, [], h => by simp [parB] at h
  | (i, b) :: is, t :: ts, h => by
    unfold parB at h
    simp only [Bool.and_eq_true] at h
    simp [parB_len h.2]
theorem nameE (F : Fit X c E) {i : Nat} {b : Bool} {is : List (Nat × Bool)} {t : Expr} {ts : List Expr} (h : parB c ((i, b) :: is) (t :: ts) = true) : ∃ x p, t = .Name x p ∧ X.N[i]? = some x ∧ X.env.scope.names.lookup x = some .local ∧ parB c is ts = true := by
  unfold parB at h
  simp only [Bool.and_eq_true] at h
  obtain ⟨h1, h2⟩ := h
  split at h1
  · rename_i x p
    simp only [Bool.and_eq_true] at h1
    exact ⟨x, p, rfl, by rw [F.N]; exact at_v' h1.1, by rw [F.sc]; exact lcB_v h1.2, h2⟩
  · cases h1
theorem ne_names {i j : Nat} {x y : Str} (hx : X.N[i]? = some x) (hy : X.N[j]? = some y) (n : X.N.Nodup) (h : i ≠ j) : (y == x) = false := by
  rw [beq_eq_false_iff_ne]
  intro z
  subst z
  exact h (nodup_at n hx hy)
theorem par_s (F : Fit X c E) {is : List (Nat × Bool)} {as : DXs} {ts es : List Expr} {kt k2 : Nat} {pt p2 pos : Pos} (h1 : parB c is ts = true) (h2 : parOk c.sc ts es = true) (h3 : okF1 c is as es = true) (h4 : (is.map (·.1)).Nodup) (h5 : (is.length == 2 || is.length == 3) = true) (B : Bs) :
    PS X (.Assign [.Tuple ts kt pt] (.Tuple es k2 p2) pos) (tSt X.K B (evS E (.par is as))) := by
  have q : evS E (.par is as) = fun s => (evs E as s).bind fun ds s => (opt (put1 is ds s) s).bind fun s _ => .ok .next s := by funext s; rw [evS]
  rw [q]
  have hb : X.env.blockKind = .function := by
    unfold Env.blockKind
    rw [F.sc, F.kind]
    rfl
  rw [← F.sc] at h2
  have ha := okF1_s F is as es h3
  have g1 := parB_len h1
  have g2 := okF1_len h3
  simp only [Bool.or_eq_true, beq_iff_eq] at h5
  rcases h5 with h5 | h5
  · obtain ⟨⟨i, f1⟩, ⟨j, f2⟩, rfl⟩ := len2 h5
    obtain ⟨t1, t2, rfl⟩ := len2 (g1.trans h5)
    obtain ⟨e1, e2, rfl⟩ := len2 (g2.trans h5)
    obtain ⟨x, px, rfl, n1, l1, h1⟩ := nameE F h1
    obtain ⟨y, py, rfl, n2, l2, h1⟩ := nameE F h1
    have hij : i ≠ j := by simp at h4; exact h4
    exact d_par2 F.calm F.nd n1 n2 hij hb l1 l2 (ne_names n1 n2 F.nd hij) h2 ha B
  · obtain ⟨⟨i, f1⟩, ⟨j, f2⟩, ⟨l, f3⟩, rfl⟩ := len3 h5
    obtain ⟨t1, t2, t3, rfl⟩ := len3 (g1.trans h5)
    obtain ⟨e1, e2, e3, rfl⟩ := len3 (g2.trans h5)
    obtain ⟨x, px, rfl, n1, l1, h1⟩ := nameE F h1
    obtain ⟨y, py, rfl, n2, l2, h1⟩ := nameE F h1
    obtain ⟨z, pz, rfl, n3, l3, h1⟩ := nameE F h1
    have hij : (i ≠ j ∧ i ≠ l) ∧ j ≠ l := by simp at h4; exact h4
    exact d_par3 F.calm F.nd n1 n2 n3 hij.1.1 hij.1.2 hij.2 hb l1 l2 l3 (ne_names n1 n2 F.nd hij.1.1) (ne_names n1 n3 F.nd hij.1.2) (ne_names n2 n3 F.nd hij.2) h2 ha B
theorem set_s (F : Fit X c E) {a : DX} {i : Nat} {x : Str} {py pos : Pos} {e : Expr} (h1 : stB c i x = true) (h2 : okE c a e = true) (h3 : compOk c a x py e pos.line = true) (B : Bs) : PS X (.Assign [.Name x py] e pos) (tAsg (tD X.K B (ev E a)) (gName i)) := by
  obtain ⟨k1, k2, k3⟩ := stB_v F h1
  unfold compOk at h3
  simp only [Bool.or_eq_true, Bool.and_eq_true] at h3
  rcases h3 with h3 | ⟨h3, h4⟩
  · exact ps_set F.nd k1 k2 (okE_s a X c F _ h2 B).1 (sw_no h3) k3
  · obtain ⟨own, tg, it, ifs, d, rfl⟩ := isComp_v h3
    refine PS.imp (set_comp F h1 h2 h4 B) fun D σ H h => ?_
    have q : ev E (.comp own tg it ifs d) = lcF own tg (evit E it) (tst E ifs) (ev E d) := by funext s; rw [ev] <;> rfl
    exact tL.val (fun s d s' e => by rw [q] at e; exact lcF_lst s d s' e) h
theorem own_s (F : Fit X c E) {a : DX} {i : Nat} {x : Str} {py pos : Pos} {e : Expr} (h1 : stB c i x = true) (h2 : okE c a e = true) (hl : okL a e = true) (h3 : compOk c a x py e pos.line = true) (B : Bs) : PS X (.Assign [.Name x py] e pos) (tAsg (tL X.K B (ev E a)) (gName i)) := by
  obtain ⟨k1, k2, k3⟩ := stB_v F h1
  unfold compOk at h3
  simp only [Bool.or_eq_true, Bool.and_eq_true] at h3
  rcases h3 with h3 | ⟨h3, h4⟩
  · exact ps_set F.nd k1 k2 (okL_s F h2 hl h3 B) (sw_no h3) k3
  · obtain ⟨own, tg, it, ifs, d, rfl⟩ := isComp_v h3
    exact set_comp F h1 h2 h4 B
end
mutual
theorem okS_s {X : Cx} {c : TC} {E : Gv} (F : Fit X c E) (hp : PassesOwn (model X.prog X.w) X.A X.env X.xe) : ∀ (x : DS) (st : Stmt) (h : okS c x st = true) (B : Bs), PS X st (tSt X.K B (evS E x))
  | .fail, st, h, B => PS.nope fun s => by rw [evS]
  | .set i a, st, h, B => by
    unfold okS at h
    split at h
    · simp only [Bool.and_eq_true] at h
      obtain ⟨⟨h1, h2⟩, h3⟩ := h
      obtain ⟨k1, k2, k3⟩ := stB_v F h1
      have q : evS E (.set i a) = fun s => (ev E a s).bind fun d s => (opt (setV i d s) s).bind fun s _ => .ok .next s := by funext s; rw [evS]
      rw [q]
      exact d_set F.nd k1 k2 k3 (set_s F h1 h2 h3) B
    · cases h
  | .own i a, st, h, B => by
    unfold okS at h
    split at h
    · simp only [Bool.and_eq_true] at h
      obtain ⟨⟨⟨h1, h2⟩, hl⟩, h3⟩ := h
      have q : evS E (.own i a) = fun s => (ev E a s).bind fun d s => (opt (own1 i d s) s).bind fun s _ => .ok .next s := by funext s; rw [evS]
      rw [q]
      exact d_own (own_s F h1 h2 hl h3) B
    · cases h
  | .unp tg a, st, h, B => by
    have q : evS E (.unp tg a) = fun s => (ev E a s).bind fun d s => (opt (asg tg d s) s).bind fun s _ => .ok .next s := by funext s; rw [evS]
    rw [q]
    unfold okS at h
    split at h
    · simp only [Bool.and_eq_true] at h
      obtain ⟨⟨h1, h2⟩, h3⟩ := h
      rename_i es k pt e pos
      cases ht : notTup e with
      | true => exact d_unp (fun B => (okE_s a X c F _ h2 B).1) (okG_s tg c F _ h1) (by rintro vs k p rfl; cases ht) B
      | false =>
        cases e <;> first | (cases ht; done) | skip
        rename_i vs k2 p2
        exact d_unpT (fun B => (okE_s a X c F _ h2 B).1) (okG_s tg c F _ h1) (swNone_v (by rw [F.sc]; exact h3)) B
    · cases h
  | .par is as, st, h, B => by
    unfold okS at h
    split at h
    · simp only [Bool.and_eq_true, decide_eq_true_eq] at h
      obtain ⟨⟨⟨⟨h1, h2⟩, h3⟩, h4⟩, h5⟩ := h
      exact par_s F h1 h2 h3 h4 h5 B
    · cases h
  | .app i a, st, h, B => by
    unfold okS at h
    split at h
    · simp only [Bool.and_eq_true, decide_eq_true_eq, Bool.not_eq_true'] at h
      obtain ⟨⟨⟨⟨h0, h1⟩, h2⟩, h3⟩, h4⟩ := h
      subst h0
      obtain ⟨n1, n2, n3, n4⟩ := nmB_v F h1
      have q : evS E (.app i a) = fun s => if (ownAt i s).isSome then (ev E a s).bind fun d s => (opt (ownAt i s) s).bind fun xs s =>
        if xs.length < sizeLine then .ok .next { s with r := s.r.set i (some (.own (xs ++ [d]))) } else .stuck else .stuck := by funext s; rw [evS]
      rw [q]
      exact d_app n1 n2 n3 n4 h2 (fun B => (okE_s a X c F _ h4 B).1) h3 B
    · cases h
  | .ext i a, st, h, B => by
    unfold okS at h
    split at h
    · simp only [Bool.and_eq_true, decide_eq_true_eq, Bool.not_eq_true'] at h
      obtain ⟨⟨⟨⟨h0, h1⟩, h2⟩, h3⟩, h4⟩ := h
      subst h0
      obtain ⟨n1, n2, n3, n4⟩ := nmB_v F h1
      have q : evS E (.ext i a) = fun s => if (ownAt i s).isSome then (ev E a s).bind fun d s => (opt (ownAt i s) s).bind fun xs s => (match d with
        | .lst ys => if xs.length + ys.length ≤ sizeLine then .ok .next { s with r := s.r.set i (some (.own (xs ++ ys))) } else .stuck
        | _ => .stuck) else .stuck := by funext s; rw [evS] <;> rfl
      rw [q]
      exact d_ext n1 n2 n3 n4 h2 (fun B => (okE_s a X c F _ h4 B).1) h3 B
    · cases h
  | .putv i k a, st, h, B => by
    unfold okS at h
    split at h
    · simp only [Bool.and_eq_true, Bool.not_eq_true'] at h
      obtain ⟨⟨⟨⟨⟨h1, h2⟩, h3⟩, h4⟩, h5⟩, h6⟩ := h
      obtain ⟨n1, n2, n3, n4⟩ := nmB_v F h1
      have q : evS E (.putv i k a) = fun s => (ev E a s).bind fun d s => if (ownAt i s).isSome then (ev E k s).bind fun kd s => (opt (ownAt i s) s).bind fun xs s => (match kd with
        | .int k => (match ixN xs.length k with
          | some j => .ok .next { s with r := s.r.set i (some (.own (xs.set j d))) }
          | none => .stuck)
        | _ => .stuck) else .stuck := by funext s; rw [evS] <;> rfl
      rw [q]
      exact d_putv n1 n2 n3 n4 (fun B => (okE_s a X c F _ h2 B).1) (fun B => (okE_s k X c F _ h3 B).1) h4 h5 (by rintro vs k p rfl; cases h6) B
    · cases h
  | .put o k a, st, h, B => by
    unfold okS at h
    split at h
    · simp only [Bool.and_eq_true, Bool.not_eq_true'] at h
      obtain ⟨⟨⟨⟨h1, h2⟩, h3⟩, h4⟩, h5⟩ := h
      have q : evS E (.put o k a) = fun s => (ev E a s).bind fun d s => (ev E o s).bind fun ad s => (ev E k s).bind fun kd s => (match ad, kd with
        | .ref c, .int k => (match s.m[c]? with
          | some xs => (match ixN xs.length k with
            | some j => .ok .next { s with m := s.m.set c (xs.set j d) }
            | none => .stuck)
          | none => .stuck)
        | _, _ => .stuck) := by funext s; rw [evS] <;> rfl
      rw [q]
      exact d_put (fun B => (okE_s a X c F _ h1 B).1) (fun B => (okE_s o X c F _ h2 B).1) (fun B => (okE_s k X c F _ h3 B).1) h4 h5 B
    · cases h
  | .drop a, st, h, B => by
    unfold okS at h
    split at h
    · simp only [Bool.and_eq_true] at h
      have q : evS E (.drop a) = fun s => (ev E a s).bind fun _ s => .ok .next s := by funext s; rw [evS]
      rw [q]
      exact d_drop (fun B => (okE_s a X c F _ h.1 B).1) h.2 B
    · cases h
  | .ret a, st, h, B => by
    unfold okS at h
    split at h
    · have q : evS E (.ret a) = fun s => (ev E a s).bind fun d s => .ok (.ret d) s := by funext s; rw [evS]
      rw [q]
      exact d_ret (fun B => (okE_s a X c F _ h B).1) B
    · cases h
  | .retn, st, h, B => by
    unfold okS at h
    split at h
    · have q : evS E .retn = fun s => .ok (.ret .non) s := by funext s; rw [evS]
      rw [q]
      exact d_retn B
    · cases h
  | .pass, st, h, B => by
    unfold okS at h
    split at h
    · have q : evS E .pass = fun s => .ok .next s := by funext s; rw [evS]
      rw [q]
      exact d_pass B
    · cases h
  | .brk, st, h, B => by
    unfold okS at h
    split at h
    · have q : evS E .brk = fun s => .ok .brk s := by funext s; rw [evS]
      rw [q]
      exact d_brk B
    · cases h
  | .cont, st, h, B => by
    unfold okS at h
    split at h
    · have q : evS E .cont = fun s => .ok .cont s := by funext s; rw [evS]
      rw [q]
      exact d_cont B
    · cases h
  | .ite t a b, st, h, B => by
    unfold okS at h
    split at h
    · simp only [Bool.and_eq_true] at h
      have q : evS E (.ite t a b) = fun s => (tst E t s).bind fun k s => if k then evSs E a s else evSs E b s := by funext s; rw [evS]
      rw [q]
      exact d_ite (fun B => (okT_s t X c F _ h.1.1 B).1) (okSs_s F hp a _ h.1.2) (okSs_s F hp b _ h.2) B
    · cases h
  | .whl t b, st, h, B => by
    unfold okS at h
    split at h
    · simp only [Bool.and_eq_true] at h
      have q : evS E (.whl t b) = whileR (tst E t) (evSs E b) := by funext s; rw [evS]
      rw [q]
      exact d_whl hp (fun B => (okT_s t X c F _ h.1 B).1) (okSs_s F hp b _ h.2) B
    · cases h
  | .forr tg it b, st, h, B => by
    unfold okS at h
    split at h
    · simp only [Bool.and_eq_true] at h
      obtain ⟨⟨⟨h1, h2⟩, h3⟩, h4⟩ := h
      have q : evS E (.forr tg it b) = fun s => (evit E it s).bind fun ds s => loopF (fun d s => (opt (asg tg d s) s).bind fun s _ => evSs E b s) ds s := by funext s; rw [evS]
      rw [q]
      exact d_for hp F.calm (notSet_v h2) (okI_s it X c F _ _ h3) (okG_s tg c F _ h1) (okSs_s F hp b _ h4) B
    · cases h
theorem okSs_s {X : Cx} {c : TC} {E : Gv} (F : Fit X c E) (hp : PassesOwn (model X.prog X.w) X.A X.env X.xe) : ∀ (x : DSs) (st : List Stmt) (h : okSs c x st = true) (B : Bs), PSs X st (tSt X.K B (evSs E x))
  | .nil, st, h, B => by
    unfold okSs at h
    split at h
    · have q : evSs E .nil = fun s => .ok .next s := by funext s; rw [evSs]
      rw [q]
      exact d_nil B
    · cases h
  | .cons a as, st, h, B => by
    unfold okSs at h
    split at h
    · simp only [Bool.and_eq_true] at h
      have q : evSs E (.cons a as) = fun s => (evS E a s).bind fun f s => match f with | .next => evSs E as s | f => .ok f s := by funext s; rw [evSs] <;> rfl
      rw [q]
      exact d_cons (okS_s F hp a _ h.1) (okSs_s F hp as _ h.2) B
    · cases h
end
end DL
end

section
set_option Elab.async false
set_option linter.all false
set_option autoImplicit false
set_option maxRecDepth 100000
set_option maxHeartbeats 4000000
namespace DL
open PySem PySem.Spec L2
open PyProof.Rows hiding St

/-! ### a call's binding -/
def simpleP (p : Arguments) (ps : List Str) : Bool :=
  p.posonlyargs.isEmpty && p.vararg.isNone && p.kwonlyargs.isEmpty && p.kwarg.isNone && p.defaults.isEmpty && decide (p.args.map (·.arg) = ps) && decide ps.Nodup
theorem kw_loop {ps : List Str} {f : Str × Value → (List (Str × Value)) × (List (Str × Value)) → Sem (ForInStep ((List (Str × Value)) × (List (Str × Value))))}
    (hf : ∀ k v st, k ∈ ps → st.1.lookup k = none → f (k, v) st = pure (.yield ⟨st.1 ++ [(k, v)], st.2⟩)) :
    ∀ {kw : List (Str × Value)} {st : (List (Str × Value)) × (List (Str × Value))}, (∀ x ∈ kw, x.1 ∈ ps) → (st.1.map (·.1) ++ kw.map (·.1)).Nodup → forIn kw st f = pure ⟨st.1 ++ kw, st.2⟩
  | [], st, _, _ => by simp
  | (k, v) :: kw, st, h1, h2 => by
    have hn : st.1.lookup k = none := by
      cases q : st.1.lookup k with
      | none => rfl
      | some u =>
        have := List.mem_map_of_mem (f := (·.1)) (PySem.mem_of_lookup q)
        simp only [List.map_cons] at h2
        rw [List.nodup_append] at h2
        exact absurd rfl (h2.2.2 k this k (by simp))
    rw [List.forIn_cons, hf k v st (h1 (k, v) (by simp)) hn, pure_bind]
    show forIn kw _ f = _
    rw [kw_loop hf (fun x hx => h1 x (List.mem_cons_of_mem _ hx)) (by simpa using h2)]
    simp
theorem look_zip {x : Str} : ∀ {ps : List Str} {us : List Value}, us.length = ps.length → x ∈ ps → ((ps.zip us).lookup x).isSome = true
  | p :: ps, u :: us, hl, hx => by
    simp only [List.zip_cons_cons, List.lookup_cons]
    cases q : x == p with
    | true => rfl
    | false =>
      have : x ≠ p := by simpa using q
      exact look_zip (by simpa using hl) (by simpa [this] using hx)
theorem fm_congr {α β : Type} {f g : α → Option β} : ∀ {l : List α}, (∀ x ∈ l, f x = g x) → l.filterMap f = l.filterMap g
  | [], _ => rfl
  | x :: l, h => by
    rw [List.filterMap_cons, List.filterMap_cons, h x (by simp), fm_congr fun y hy => h y (List.mem_cons_of_mem _ hy)]
theorem look_all : ∀ {ps : List Str} {us : List Value}, us.length = ps.length → ps.Nodup → (ps.filterMap fun n => ((ps.zip us).lookup n).map fun x => (n, x)) = ps.zip us
  | [], _, _, _ => by simp
  | p :: ps, [], hl, _ => by simp at hl
  | p :: ps, u :: us, hl, hn => by
    simp only [List.zip_cons_cons, List.filterMap_cons, List.lookup_cons, beq_self_eq_true, Option.map_some]
    rw [List.nodup_cons] at hn
    congr 1
    refine Eq.trans (fm_congr fun x hx => ?_) (look_all (by simpa using hl) hn.2)
    have : (x == p) = false := by
      rw [beq_eq_false_iff_ne]
      rintro rfl
      exact hn.1 hx
    rw [this]
theorem zip_split : ∀ {ps : List Str} {us ws : List Value}, (us ++ ws).length = ps.length → ps.zip us ++ (ps.drop us.length).zip ws = ps.zip (us ++ ws)
  | [], us, ws, _ => by simp
  | p :: ps, [], ws, _ => by simp
  | p :: ps, u :: us, ws, h => by
    simp only [List.zip_cons_cons, List.cons_append, List.length_cons, List.drop_succ_cons, List.cons_append]
    rw [zip_split (by simpa using h)]
theorem bind_simple (fd : FuncData) (ps : List Str) (us ws : List Value) (hp : simpleP fd.params ps = true) (hd : fd.defaults = .none) (hl : (us ++ ws).length = ps.length) : bindArgs fd ⟨us, (ps.drop us.length).zip ws⟩ = pure (ps.zip (us ++ ws)) := by
  simp only [simpleP, Bool.and_eq_true, List.isEmpty_iff, Option.isNone_iff_eq_none, decide_eq_true_eq] at hp
  obtain ⟨⟨⟨⟨⟨⟨h1, h2⟩, h3⟩, h4⟩, h5⟩, h6⟩, h7⟩ := hp
  have hl' : us.length + ws.length = ps.length := by simpa using hl
  have hz := zip_split hl
  unfold bindArgs
  simp only [h1, h2, h3, h4, h6, hd, List.map_nil, List.nil_append, List.append_nil]
  rw [kw_loop (ps := ps)]
  · rw [hz]
    have s0 : seqItems? Value.none = (pure none : Sem (Option (Array Value))) := rfl
    simp only [s0, pure_bind]
    have g : ¬ (ps.length < us.length) := by omega
    have hf : (List.filter (fun n => (List.lookup n (ps.zip (us ++ ws))).isNone) ps) = [] := by
      rw [List.filter_eq_nil_iff]
      intro x hx
      have := look_zip hl hx
      cases q : List.lookup x (ps.zip (us ++ ws)) <;> simp_all
    simp [g, hf]
    rw [look_all hl h7]
  · intro k v st hk hn
    simp [hk, hn]
  · intro x hx
    exact List.mem_of_mem_drop (List.of_mem_zip (a := x.1) (b := x.2) (by simpa using hx)).1
  · show ((ps.zip us).map (·.1) ++ ((ps.drop us.length).zip ws).map (·.1)).Nodup
    rw [← List.map_append, hz]
    have e : (ps.zip (us ++ ws)).map (·.1) = ps := List.map_fst_zip (by rw [hl]; exact Nat.le_refl _)
    rw [e]
    exact h7

/-! ### a def of the text keeps what its words say -/
section
variable {P : Program} {w : World} {K : PySem.W.Frag} {mg : Str → Option Value} {base : Heap}
theorem g_of {k : Nat} {f : Addr} {x qual : Str} {params : Arguments} {body : List Stmt} {scope : Scope} {fd : FuncData} {N ps : List Str} {sp : Sp}
    (F : FunD K x qual params body scope [] [] f fd) (S : FnScope N ps scope) (len : ∀ vs H Q E, sp vs H Q E → vs.length = ps.length)
    (hb : ∀ (cdv : Value) (A : Around) (outer : List Env) (s : Shared) (H : Hp) (vs : List V) (Q : VK), Room k (A.deeper (envOfC qual scope s.heap.objs.size f cdv)) → A.guards = some [] → sp vs H Q E0 →
      ∃ t, PSs (cxOf CX0 P w K mg base N qual scope f cdv A outer s H E0) body t ∧ t { nx := fun _ H' => Q .non H', rt := Q } (start N vs) H) :
    FnG P w K mg base (k + 1) f fd ps sp := by
  obtain ⟨oc, od, dV, kV, doc, pm, an, cdv, ct, osl, rfl, lk, hcd, _, _⟩ := F.ex
  refine ⟨len, fun A outer s H args us vs Q hr hgu e0 hbn r hsp => ?_⟩
  have hl := len _ _ _ _ hsp
  have inS : K.In s.heap := e0.mod.kin.keeps fun b o e => (e0.bs b o e).1
  have noL : s.heap.NoLimit := e0.mod.nolimit.keeps fun b o e => (e0.bs b o e).1
  refine codeAny_call_function hr.depth (inS _ _ lk) rfl S.co S.gen rfl (PySem.W.codeRec_of inS hcd) (hbn _ _ _ _ ?_)
  refine wpAny_newFunctionEnv_cells S.kind (fun y hy => ?_) fun env he s1 x1 => ?_
  · rcases S.par y.1 (List.of_mem_zip (a := y.1) (b := y.2) hy).1 with q | q
    · exact .inl q
    · exact .inr ⟨q, PySem.W.cellsFrom_some _ _ _ (.inl q)⟩
  · subst he
    refine ⟨noL.keeps x1.toInCall.keep, codeAny_func ?_⟩
    obtain ⟨t, ht, hq⟩ := hb cdv A outer s H vs Q (hr.deeper _) hgu hsp
    have I := inv_start (CX := CX0) (w := w) (E := E0) S hr.hd e0 hl r x1
    refine wpAny_mono (ht.run [] s1 (start N vs) H _ I hq) (fun fl s' hs => ?_) fun e s' hs => hs
    cases fl with
    | ret u =>
      obtain ⟨v, σ', H', J, rv, q⟩ := hs
      exact ⟨v, H', J.os, J.bare, J.base, J.hok, rv, q⟩
    | next =>
      obtain ⟨σ', H', J, q⟩ := hs
      exact ⟨.non, H', J.os, J.bare, J.base, J.hok, rfl, q⟩
    | brk =>
      obtain ⟨_, _, _, q⟩ := hs
      exact q.elim
    | cont =>
      obtain ⟨_, _, _, q⟩ := hs
      exact q.elim
/-- what a def's context is told -/
structure Tel (P : Program) (w : World) (K : PySem.W.Frag) (mg : Str → Option Value) (base : Heap) (k : Nat) (c : TC) (E : Gv) : Prop where
  bl : ∀ x, x ∈ bNames → mg x = none
  gc : c.gcd = true → mg "gcd" = some (.builtin "math.gcd")
  fs : ∀ i x ps, c.fs[i]? = some (x, ps) → ∃ j f fd, j ≤ k ∧ FnG P w K mg base j f fd ps (spD K ps.length (E.F i)) ∧ mg x = some (.ref f) ∧ PySem.W.keepIn K (.ref f) = true ∧
    ∀ (s : Shared) (us ws : List Value), K.In s.heap → (us ++ ws).length = ps.length → BindsTo s fd ⟨us, (ps.drop us.length).zip ws⟩ (ps.zip (us ++ ws))
  cs : ∀ i x d, c.cs[i]? = some x → E.C i = some d → ∃ v u, mg x = some u ∧ RelV v u ∧ ∀ G io, DV K G io v d
def fnScopeB (N ps : List Str) (sc : Scope) : Bool :=
  (match sc.kind with | .function => true | _ => false) && !sc.isCoroutine && !sc.isGenerator && decide N.Nodup && decide (N.take ps.length = ps) && (ps.all fun x => locB sc x) && (sc.names.all fun y => match y.2 with | .free => false | _ => true)
theorem fnScope_by {N ps : List Str} {sc : Scope} (h : fnScopeB N ps sc = true) : FnScope N ps sc := by
  unfold fnScopeB at h
  simp only [Bool.and_eq_true, Bool.not_eq_true', decide_eq_true_eq, List.all_eq_true] at h
  obtain ⟨⟨⟨⟨⟨⟨h1, h2⟩, h3⟩, h4⟩, h5⟩, h6⟩, h7⟩ := h
  refine ⟨?_, h2, h3, h4, h5, fun x hx => locB_v (h6 x hx), fun y hy z => ?_⟩
  · split at h1
    · assumption
    · cases h1
  · have := h7 y hy
    rw [z] at this
    cases this
def tcOf (N : List Str) (scope : Scope) (fs : List (Str × List Str)) (cs : List Str) (g : Bool) : TC := ⟨N, scope, fun _ => true, fs, cs, g⟩
theorem def_g {k : Nat} {f : Addr} {x qual : Str} {params : Arguments} {body : List Stmt} {scope : Scope} {fd : FuncData} {N ps : List Str} {fs : List (Str × List Str)} {cs : List Str} {g : Bool} {E : Gv} {b : DSs}
    (F : FunD K x qual params body scope [] [] f fd) (S : fnScopeB N ps scope = true) (ok : okSs (tcOf N scope fs cs g) b body = true) (T : Tel P w K mg base k (tcOf N scope fs cs g) E) :
    FnG P w K mg base (k + 1) f fd ps (spD K ps.length (runB E N.length b)) := by
  have S' := fnScope_by S
  have hpl : ps.length ≤ N.length := by have := congrArg List.length S'.pre; rw [List.length_take] at this; omega
  refine g_of F S' (fun vs H Q E h => h.1) fun cdv A outer s H vs Q hr hgu h => ?_
  obtain ⟨hlen, G, io, m, ds, C, dv, hq⟩ := h
  have Ft : Fit (cxOf CX0 P w K mg base N qual scope f cdv A outer s H E0) (tcOf N scope fs cs g) E := by
    refine ⟨rfl, S'.nd, rfl, S'.kind, rfl, hgu, by have := hr.un; show (A.deeper (envOfC qual scope s.heap.objs.size f cdv)).units + 200 < cLine; omega, fun _ _ => rfl, T.bl, T.gc, fun i x ps e => ?_, T.cs⟩
    obtain ⟨j, f', fd', hj, h1, h2, h3, h4⟩ := T.fs i x ps e
    exact ⟨j, f', fd', h1, hr.mono hj, h2, h3, h4⟩
  have hl2 := dv.length
  refine ⟨_, okSs_s Ft (passes_of rfl) b body ok (baseOf G io H), G, io, enterS N.length ds m, Rep.enter C dv (by omega), ?_⟩
  have e0 : runB E N.length b ds m = (match evSs E b (enterS N.length ds m) with
    | .ok (.ret d) s => .ok d s.m
    | .ok .next s => .ok .non s.m
    | .exc c d s => .exc c d s.m
    | _ => .stuck) := rfl
  rw [e0] at hq
  cases q : evSs E b (enterS N.length ds m) with
  | exc => rw [q] at hq; exact hq.elim
  | stuck => rw [q] at hq; exact hq.elim
  | ok fl s' =>
    rw [q] at hq
    cases fl with
    | brk => exact hq.elim
    | cont => exact hq.elim
    | next => exact fun G' io' σ' H' R s1 p1 => hq G' io' .non H' R.leave .non
    | ret d => exact fun G' io' σ' H' v R s1 p1 dv' => hq G' io' v H' R.leave dv'
end
/-! ### the law's end -/
def scrH (K : PySem.W.Frag) (a : Addr) (o : Obj) (ws : List V) : Hp := fun b => if b = a ∧ K.lookup a = none then some (.frz o (.lst ws)) else none
theorem ints_dvs {K : PySem.W.Frag} {G : Hp} {io : List Addr} : ∀ {ns : List Int}, DVs K G io (ns.map V.int) (ns.map D.int)
  | [] => .nil
  | n :: ns => .cons (.int n) ints_dvs
theorem law_G {P : Program} {w : World} {K : PySem.W.Frag} {mg mb : Str → Option Value} {k : Nat} {fa a : Addr} {fd : FuncData} {x : Str} {F : List D → List (List D) → FR} {s₁ : Shared} {vs : List Value} {ns : List Int}
    (KX : K.In s₁.heap) (hns : s₁.heap.Ns mainGlobals mg) (hb : s₁.heap.Ns builtinsNs mb) (hbb : ∀ x : Str, x ≠ "__name__" → mb x = bootBuiltins x) (hlim : s₁.heap.NoLimit) (hg : s₁.gens = #[])
    (ha : s₁.heap.get? a = some { cls := .type "list", data := .seq vs.toArray }) (hi : PyProof.Rows.IntsAre vs ns) (hl : ns.length ≤ sizeLine) (hr : Room k callerA)
    (FG : ∀ base : Heap, K.In base → base.Ns mainGlobals mg → FnG P w K mg base k fa fd [x] (spD K 1 F)) (hbind : ∀ (s : Shared) (u : Value), BindsTo s fd ⟨[u], []⟩ [(x, u)])
    (hF : ∃ m, F [.klst (ns.map .int)] [] = .ok (.bl true) m) :
    codeAny (model P w) callerA (.call (.ref fa) ⟨[.ref a], []⟩) (fun r s' => r = .ok (.ret (.bool true)) ∧ OldK s₁.heap s'.heap ∧ s'.os = s₁.os ∧ AllBare s'.gens) s₁ := by
  have rv := vals_ints hi
  have hlen := hi.length
  generalize ho : ({ cls := .type "list", data := .seq vs.toArray } : Obj) = o at ha
  have dat : o.data = .seq vs.toArray := by rw [← ho]
  have only : ∀ {b : Addr} {u : HO}, scrH K a o (ns.map V.int) b = some u → b = a ∧ K.lookup a = none ∧ u = .frz o (.lst (ns.map V.int)) := fun {b u} e => by
    unfold scrH at e
    split at e
    · rename_i q
      cases e
      exact ⟨q.1, q.2, rfl⟩
    · cases e
  have free : ∀ {b : Addr}, b ≠ a → scrH K a o (ns.map V.int) b = none := fun {b} n => by
    cases q : scrH K a o (ns.map V.int) b with
    | none => rfl
    | some u => exact absurd (only q).1 n
  have sq : SqL K (scrH K a o (ns.map V.int)) a (ns.map V.int) := by
    cases q : K.lookup a with
    | none => exact .inl (.inr ⟨o, if_pos ⟨rfl, q⟩⟩)
    | some o' =>
      have e := KX a o' q
      rw [ha] at e
      cases e
      subst ho
      exact .inr ⟨_, vs.toArray, _, q, rfl, rfl, rfl, by rw [List.size_toArray, hlen]; exact hl, by simpa using rv⟩
  have hok : HOk P w (scrH K a o (ns.map V.int)) s₁.heap := fun b u e => by
    obtain ⟨rfl, _, rfl⟩ := only e
    subst ho
    exact ⟨ha, by rw [List.length_map]; exact hl, vs, _, rv, ha⟩
  have stay : ∀ {b : Addr} {ob : Obj}, s₁.heap.get? b = some ob → b ≠ a → (hidT s₁.heap (scrH K a o (ns.map V.int))).get? b = some ob := fun e n => hidT_get e (free n)
  have nsK : ∀ {b : Addr} {m : Str → Option Value}, s₁.heap.Ns b m → (hidT s₁.heap (scrH K a o (ns.map V.int))).Ns b m := fun {b m} ⟨ob, es, ep, e, d, r⟩ => ⟨ob, es, ep, stay e (fun z => by
    rw [z, ha] at e
    cases e
    rw [dat] at d
    cases d), d, r⟩
  have kIn : K.In (hidT s₁.heap (scrH K a o (ns.map V.int))) := fun b ob e => hidT_get (KX b ob e) (by
    cases q : scrH K a o (ns.map V.int) b with
    | none => rfl
    | some u =>
      obtain ⟨rfl, q2, _⟩ := only q
      rw [q2] at e
      cases e)
  have e0 : Env0 P w K mg (hidT s₁.heap (scrH K a o (ns.map V.int))) callerA [] s₁ (scrH K a o (ns.map V.int)) :=
    ⟨rfl, ⟨kIn, nsK hns, ⟨mb, nsK hb, hbb⟩, let ⟨mc, l1, l2⟩ := hlim; ⟨mc, nsK l1, l2⟩⟩, fun b ob e => of_hidT e, Nat.le_of_eq (hidT_size _ _), trivial, fun b z => (List.not_mem_nil z).elim, hok, .of_eq hg⟩
  obtain ⟨m, hF⟩ := hF
  have sp : spD K 1 F [.ref a] (scrH K a o (ns.map V.int)) (fun v _ => v = .bl true) E0 := by
    refine ⟨rfl, scrH K a o (ns.map V.int), [], [], [.klst (ns.map .int)], ⟨Sub.rfl', List.nodup_nil, rfl, fun k c e => by simp at e, fun b z => (List.not_mem_nil z).elim⟩, .cons (.klst sq ints_dvs) .nil, ?_⟩
    rw [hF]
    intro G' io' v H' _ dv
    cases dv
    rfl
  refine codeAny_mono ((FG _ kIn (nsK hns)).run callerA [] s₁ _ ⟨[.ref a], []⟩ [.ref a] [.ref a] _ hr rfl e0 (hbind s₁ (.ref a)) (.cons rfl .nil) sp) fun r s' h => ?_
  match r, h with
  | .ok (.ret u), ⟨v, H', os, bare, un, hok', r', q⟩ =>
    have q : v = .bl true := q
    subst q
    obtain rfl : u = Value.bool true := r'
    refine ⟨rfl, OldK.of_keep fun b ob e => ?_, os, bare⟩
    cases q : scrH K a o (ns.map V.int) b with
    | none => exact un.keep b ob e q (fun z => (List.not_mem_nil z).elim) (by simp)
    | some u =>
      obtain ⟨rfl, _, rfl⟩ := only q
      obtain ⟨e2, _⟩ := hok' _ _ (un.frzs _ _ _ q)
      rw [ha] at e
      cases e
      exact e2
/-- the goal behind the head -/
theorem walk_G {l : PySem.W.OpenLaw} {n k : Nat} {q : Program} {loose : List Str} {XP : (Str → Option Value) → Heap → Prop} {YP : World → Heap → Prop} {d : DefRec} {x : Str} {F : List D → List (List D) → FR}
    (hn : l.most = some n) (hn2 : n ≤ sizeLine) (hdf : d.params.defaults = []) (hr : Room k callerA)
    (H : ∀ (w : World) (mg : Str → Option Value) (fa : Addr) (h : Heap), YP w h → h.Ns mainGlobals mg → mg d.name = some (.ref fa) →
      ∃ (K : PySem.W.Frag) (fd : FuncData), K.In h ∧ (∀ (s : Shared) (u : Value), BindsTo s fd ⟨[u], []⟩ [(x, u)]) ∧
        ∀ base : Heap, K.In base → base.Ns mainGlobals mg → FnG l.prog w K mg base k fa fd [x] (spD K 1 F))
    (hF : ∀ ns : List Int, ns.length ≤ n → (∀ z ∈ ns, Builtin.Int.intBits z ≤ 1048576) → ∃ m, F [.klst (ns.map .int)] [] = .ok (.bl true) m) :
    PySem.W.WalkO q loose XP YP l.row.toRowW d [] (fun f vs => PySem.call f vs) := by
  refine Att.attach_callB hn hdf fun w s₀ s₁ mg mb fa o pm cd doc a vs ns G Y _ _ _ hmg hobj hints hlen hbits hg => ?_
  obtain ⟨K, fd, KX, hb, FG⟩ := H w mg fa _ Y G.T.g hmg
  exact law_G KX G.T.g G.T.b G.T.builtins G.T.nolimit hg hobj hints (Nat.le_trans hlen hn2) hr FG hb (hF ns hlen hbits)
end DL
end

section
set_option Elab.async false
set_option linter.all false
set_option autoImplicit false
set_option maxRecDepth 100000
set_option maxHeartbeats 4000000
namespace DL
open PySem PySem.Spec L2
open PyProof.Rows hiding St

/-! ### constants of the module -/
mutual
def relD (K : PySem.W.Frag) : D → Value → Bool
  | .non, u => match u with | .none => true | _ => false
  | .bl b, u => match u with | .bool c => b == c | _ => false
  | .int i, u => match u with | .int j _ => decide (j = i) | _ => false
  | .str x, u => match u with | .str y _ => decide (y = x) | _ => false
  | .tup ds, u => match u with
    | .ref a => (match K.lookup a with
      | some ⟨.type c, _, .seq its _, _⟩ => decide (c = "tuple") && (decide (its.size ≤ sizeLine) && relDs K ds its.toList)
      | _ => false)
    | _ => false
  | .klst ds, u => match u with
    | .ref a => (match K.lookup a with
      | some ⟨.type c, none, .seq its _, _⟩ => decide (c = "list") && (decide (its.size ≤ sizeLine) && relDs K ds its.toList)
      | _ => false)
    | _ => false
  | _, _ => false
def relDs (K : PySem.W.Frag) : List D → List Value → Bool
  | [], us => us.isEmpty
  | d :: ds, us => match us with
    | u :: us => relD K d u && relDs K ds us
    | [] => false
end
mutual
theorem relD_ok {K : PySem.W.Frag} : ∀ {d : D} {u : Value}, relD K d u = true → ∃ v, RelV v u ∧ ∀ G io, DV K G io v d
  | .non, u, h => by
    unfold relD at h
    split at h
    · exact ⟨.non, rfl, fun _ _ => .non⟩
    · cases h
  | .bl b, u, h => by
    unfold relD at h
    split at h
    · rename_i c
      have e : b = c := eq_of_beq h
      subst e
      exact ⟨.bl b, rfl, fun _ _ => .bl b⟩
    · cases h
  | .int i, u, h => by
    unfold relD at h
    split at h
    · rename_i j t
      have e : j = i := of_decide_eq_true h
      subst e
      exact ⟨.int j, ⟨t, rfl⟩, fun _ _ => .int j⟩
    · cases h
  | .str i, u, h => by
    unfold relD at h
    split at h
    · rename_i j t
      have e : j = i := of_decide_eq_true h
      subst e
      exact ⟨.str j, ⟨t, rfl⟩, fun _ _ => .str j⟩
    · cases h
  | .tup ds, u, h => by
    unfold relD at h
    split at h
    · rename_i a
      split at h
      · rename_i c od its n sl q
        simp only [Bool.and_eq_true, decide_eq_true_eq] at h
        obtain ⟨h1, h2, h3⟩ := h
        obtain ⟨vs, r, dv⟩ := relDs_ok h3
        exact ⟨.ref a, rfl, fun G io => .tup (.inr ⟨_, its, n, q, congrArg Value.type h1, rfl, h2, r⟩) (dv G io)⟩
      · cases h
    · cases h
  | .klst ds, u, h => by
    unfold relD at h
    split at h
    · rename_i a
      split at h
      · rename_i c its n sl q
        simp only [Bool.and_eq_true, decide_eq_true_eq] at h
        obtain ⟨h1, h2, h3⟩ := h
        obtain ⟨vs, r, dv⟩ := relDs_ok h3
        exact ⟨.ref a, rfl, fun G io => .klst (.inr ⟨_, its, n, q, congrArg Value.type h1, rfl, rfl, h2, r⟩) (dv G io)⟩
      · cases h
    · cases h
  | .lst _, u, h => by unfold relD at h; cases h
  | .emp, u, h => by unfold relD at h; cases h
  | .ref _, u, h => by unfold relD at h; cases h
theorem relDs_ok {K : PySem.W.Frag} : ∀ {ds : List D} {us : List Value}, relDs K ds us = true → ∃ vs, Vals vs us ∧ ∀ G io, DVs K G io vs ds
  | [], us, h => by
    unfold relDs at h
    cases us with
    | nil => exact ⟨[], .nil, fun _ _ => .nil⟩
    | cons => cases h
  | d :: ds, us, h => by
    unfold relDs at h
    split at h
    · simp only [Bool.and_eq_true] at h
      obtain ⟨v, r, dv⟩ := relD_ok h.1
      obtain ⟨vs, rs, dvs⟩ := relDs_ok h.2
      exact ⟨v :: vs, .cons r rs, fun G io => .cons (dv G io) (dvs G io)⟩
    · cases h
end
def ckB (K : PySem.W.Frag) (p : Str × D) : Bool := match PySem.W.nsIn K mainGlobals p.1 with
  | some (some u) => relD K p.2 u
  | _ => false
def btB (K : PySem.W.Frag) (p : Str × String) : Bool := match PySem.W.nsIn K mainGlobals p.1 with
  | some (some (.builtin id)) => decide (id = p.2)
  | _ => false
section
variable {K : PySem.W.Frag} {h : Heap} {mg : Str → Option Value}
theorem ckB_ok (X : K.In h) (G : h.Ns mainGlobals mg) {x : Str} {d : D} (c : ckB K (x, d) = true) : ∃ v u, mg x = some u ∧ RelV v u ∧ ∀ G io, DV K G io v d := by
  unfold ckB at c
  split at c
  · rename_i u e
    obtain ⟨v, r, dv⟩ := relD_ok c
    exact ⟨v, u, PySem.W.mg_of X G e, r, dv⟩
  · cases c
theorem btB_ok (X : K.In h) (G : h.Ns mainGlobals mg) {x : Str} {i : String} (c : btB K (x, i) = true) : mg x = some (.builtin i) := by
  unfold btB at c
  split at c
  · rename_i id e
    have : id = i := of_decide_eq_true c
    subst this
    exact PySem.W.mg_of X G e
  · cases c
end
/-! ### the Hook -/
structure Fc where
  free : List Str
  ck : List (Str × D)
  bt : List (Str × String)
  fn : List He.DefD
def Fc.ok (F : Fc) (K : PySem.W.Frag) : Bool := (F.free.all fun x => (He.Fa.free x).ok K) && (F.ck.all fun p => ckB K p) && (F.bt.all fun p => btB K p) && (F.fn.all fun d => (He.Fa.glo d.at_.1).ok K && d.ok K)
def Fc.obs (F : Fc) (K : PySem.W.Frag) : He.AlD := (F.ok K, F.fn.map fun d => He.fnW K d.at_)
def Fc.says (F : Fc) (K : PySem.W.Frag) : Prop := F.obs K = He.valD F.fn
def Fc.obsG (n : Nat) (F : Fc) (g : Addr → Option Obj) : He.AlD := F.obs (He.frG g (He.asD g n))
def Fc.hook (n : Nat) (F : Fc) : PySem.W.Hook where
  α := He.AlD
  obs := fun s => F.obsG n s.heap.get?
  val := fun _ => He.valD F.fn
  says := fun _ h => ∃ K : PySem.W.Frag, K.In h ∧ F.says K
  of := fun _ _ e => ⟨_, He.frG_in, e⟩
  keeps := fun _ _ _ ⟨K, hK, c⟩ k => ⟨K, PySem.W.Frag.In.keeps hK k, c⟩
theorem Fc.obsG_eq {n : Nat} {F : Fc} {g : Addr → Option Obj} {s : Shared} (h : ∀ a, g a = s.heap.get? a) : F.obsG n g = (F.hook n).obs s := by
  have e : g = s.heap.get? := funext h
  rw [e] <;> rfl
section
variable {F : Fc} {K : PySem.W.Frag} {h : Heap} {mg : Str → Option Value}
theorem Fc.says_ok (c : F.says K) : F.ok K = true := congrArg (fun z : He.AlD => z.1) c
theorem Fc.free_v (c : F.says K) (X : K.In h) (G : h.Ns mainGlobals mg) {x : Str} (hx : x ∈ F.free) : mg x = none := by
  have q := Fc.says_ok c
  simp only [Fc.ok, Bool.and_eq_true, List.all_eq_true] at q
  exact He.free_ok X G (q.1.1.1 x hx)
theorem Fc.ck_v (c : F.says K) (X : K.In h) (G : h.Ns mainGlobals mg) {x : Str} {d : D} (hx : (x, d) ∈ F.ck) : ∃ v u, mg x = some u ∧ RelV v u ∧ ∀ G io, DV K G io v d := by
  have q := Fc.says_ok c
  simp only [Fc.ok, Bool.and_eq_true, List.all_eq_true] at q
  exact ckB_ok X G (q.1.1.2 _ hx)
theorem Fc.bt_v (c : F.says K) (X : K.In h) (G : h.Ns mainGlobals mg) {x : Str} {i : String} (hx : (x, i) ∈ F.bt) : mg x = some (.builtin i) := by
  have q := Fc.says_ok c
  simp only [Fc.ok, Bool.and_eq_true, List.all_eq_true] at q
  exact btB_ok X G (q.1.2 _ hx)
theorem Fc.fn_v (c : F.says K) (X : K.In h) (G : h.Ns mainGlobals mg) {i : Nat} {d : He.DefD} (hd : F.fn[i]? = some d) (hat : d.at_.2 = none) : ∃ fd, FunD K d.name d.qual d.params d.body d.scope (d.dvs K) (d.kws K) (He.ga K d.at_.1) fd ∧ mg d.at_.1 = some (.ref (He.ga K d.at_.1)) := by
  have q := Fc.says_ok c
  simp only [Fc.ok, Bool.and_eq_true, List.all_eq_true] at q
  obtain ⟨q1, q2⟩ := q.2 d (List.mem_of_getElem? hd)
  have e : F.fn.map (fun d => He.fnW K d.at_) = F.fn.map He.DefD.val := congrArg (fun z : He.AlD => z.2) c
  have e2 : (F.fn.map fun d => He.fnW K d.at_)[i]? = (F.fn.map He.DefD.val)[i]? := by rw [e]
  rw [List.getElem?_map, List.getElem?_map, hd] at e2
  obtain ⟨fd, r⟩ := He.DefD.funD (Option.some.inj e2) q2
  have ea : He.fAd K d.at_ = He.ga K d.at_.1 := by
    unfold He.fAd
    rw [hat]
  rw [ea] at r
  exact ⟨fd, r, He.glo_ok X G q1⟩
end
end DL
end

section
set_option Elab.async false
set_option linter.all false
set_option autoImplicit false
set_option maxRecDepth 100000
set_option maxHeartbeats 4000000
namespace DL
open PySem PySem.Spec L2
open PyProof.Rows hiding St

/-! ### a program's functions together -/
structure Fn1 where
  x : Str
  ps : List Str
  N : List Str
  b : DSs
noncomputable def gvOf (ck : List (Str × D)) (F : Nat → List D → List (List D) → FR) : Gv := ⟨F, fun i => (ck[i]?).map (·.2)⟩
/-- what the functions give, so many calls deep -/
noncomputable def FF (t : List Fn1) (ck : List (Str × D)) : Nat → Nat → List D → List (List D) → FR
  | 0, _, _, _ => .stuck
  | k + 1, i, ds, m => match t[i]? with
    | some f => runB (gvOf ck (FF t ck k)) f.N.length f.b ds m
    | none => .stuck
def Fn1.ok (fs : List (Str × List Str)) (cs : List Str) (g : Bool) (f : Fn1) (d : He.DefD) : Bool :=
  decide (d.at_ = (f.x, none)) && d.dfl.isEmpty && d.kwd.isEmpty && simpleP d.params f.ps && fnScopeB f.N f.ps d.scope && okSs (tcOf f.N d.scope fs cs g) f.b d.body
def okAll (fs : List (Str × List Str)) (cs : List Str) (g : Bool) : List Fn1 → List He.DefD → Bool
  | [], [] => true
  | f :: t, d :: ds => f.ok fs cs g d && okAll fs cs g t ds
  | _, _ => false
theorem okAll_at {fs : List (Str × List Str)} {cs : List Str} {g : Bool} : ∀ {t : List Fn1} {ds : List He.DefD} {i : Nat} {f : Fn1}, okAll fs cs g t ds = true → t[i]? = some f → ∃ d, ds[i]? = some d ∧ f.ok fs cs g d = true
  | [], _, i, f, _, h => by simp at h
  | _ :: _, [], _, _, h, _ => by simp [okAll] at h
  | f' :: t, d :: ds, 0, f, h, e => by
    simp only [okAll, Bool.and_eq_true] at h
    simp at e
    subst e
    exact ⟨d, rfl, h.1⟩
  | f' :: t, d :: ds, i + 1, f, h, e => by
    simp only [okAll, Bool.and_eq_true] at h
    exact okAll_at (t := t) (ds := ds) h.2 (by simpa using e)
def okTab (F : Fc) (t : List Fn1) (g : Bool) : Bool :=
  okAll (t.map fun f => (f.x, f.ps)) (F.ck.map (·.1)) g t F.fn && (bNames.all fun x => decide (x ∈ F.free)) && (!g || decide ((("gcd" : Str), "math.gcd") ∈ F.bt))
theorem Fn1.ok_v {fs : List (Str × List Str)} {cs : List Str} {g : Bool} {f : Fn1} {d : He.DefD} (h : f.ok fs cs g d = true) :
    d.at_ = (f.x, none) ∧ d.dfl = [] ∧ d.kwd = [] ∧ simpleP d.params f.ps = true ∧ fnScopeB f.N f.ps d.scope = true ∧ okSs (tcOf f.N d.scope fs cs g) f.b d.body = true := by
  simp only [Fn1.ok, Bool.and_eq_true, decide_eq_true_eq, List.isEmpty_iff] at h
  exact ⟨h.1.1.1.1.1, h.1.1.1.1.2, h.1.1.1.2, h.1.1.2, h.1.2, h.2⟩
theorem FunD.bind1 {K : PySem.W.Frag} {x qual : Str} {params : Arguments} {body : List Stmt} {scope : Scope} {f : Addr} {fd : FuncData} (F : FunD K x qual params body scope [] [] f fd) {ps : List Str} (hp : simpleP params ps = true)
    (s : Shared) (us ws : List Value) (hl : (us ++ ws).length = ps.length) : BindsTo s fd ⟨us, (ps.drop us.length).zip ws⟩ (ps.zip (us ++ ws)) := by
  obtain ⟨oc, od, dV, kV, doc, pm, an, cdv, ct, osl, rfl, lk, hcd, hD, hK⟩ := F.ex
  rcases hD with ⟨_, rfl⟩ | ⟨e, _⟩
  · exact .of_eq (bind_simple _ ps us ws hp rfl hl)
  · exact absurd rfl e
section
variable {P : Program} {w : World} {K : PySem.W.Frag} {mg : Str → Option Value} {base : Heap} {F : Fc} {t : List Fn1} {g : Bool}
theorem tab_fn (ok : okTab F t g = true) (c : F.says K) (X : K.In base) (G : base.Ns mainGlobals mg) {i : Nat} {f : Fn1} (hi : t[i]? = some f) :
    ∃ d fd, F.fn[i]? = some d ∧ f.ok (t.map fun f => (f.x, f.ps)) (F.ck.map (·.1)) g d = true ∧ FunD K d.name d.qual d.params d.body d.scope [] [] (He.ga K f.x) fd ∧ mg f.x = some (.ref (He.ga K f.x)) := by
  simp only [okTab, Bool.and_eq_true] at ok
  obtain ⟨d, hd, h⟩ := okAll_at ok.1.1 hi
  obtain ⟨h1, h2, h3, _, _, _⟩ := Fn1.ok_v h
  obtain ⟨fd, FD, e⟩ := Fc.fn_v c X G hd (by rw [h1])
  rw [h1] at FD e
  have q1 : d.dvs K = [] := by unfold He.DefD.dvs; rw [h2]; rfl
  have q2 : d.kws K = [] := by unfold He.DefD.kws; rw [h3]; rfl
  rw [q1, q2] at FD
  exact ⟨d, fd, hd, h, FD, e⟩
theorem tab_all (ok : okTab F t g = true) (c : F.says K) (X : K.In base) (G : base.Ns mainGlobals mg) : ∀ (k i : Nat) (f : Fn1) (d : He.DefD) (fd : FuncData), t[i]? = some f → f.ok (t.map fun f => (f.x, f.ps)) (F.ck.map (·.1)) g d = true → FunD K d.name d.qual d.params d.body d.scope [] [] (He.ga K f.x) fd →
    FnG P w K mg base k (He.ga K f.x) fd f.ps (spD K f.ps.length (FF t F.ck k i))
  | 0, i, f, d, fd, hi, h, FD => by
    refine ⟨fun vs H Q E h => h.1, fun A outer s H args us vs Q _ _ _ _ _ h => ?_⟩
    obtain ⟨_, G, io, m, ds, _, _, q⟩ := h
    exact False.elim q
  | k + 1, i, f, d, fd, hi, h, FD => by
    obtain ⟨h1, h2, h3, h4, h5, h6⟩ := Fn1.ok_v h
    have e : FF t F.ck (k + 1) i = runB (gvOf F.ck (FF t F.ck k)) f.N.length f.b := by
      funext ds m
      show (match t[i]? with | some f => runB (gvOf F.ck (FF t F.ck k)) f.N.length f.b ds m | none => .stuck) = _
      rw [hi]
    rw [e]
    refine def_g FD h5 h6 ⟨fun x hx => ?_, fun hg => ?_, fun j x ps hj => ?_, fun j x dd hj hd => ?_⟩
    · have ok' := ok
      simp only [okTab, Bool.and_eq_true, List.all_eq_true, decide_eq_true_eq] at ok'
      exact Fc.free_v c X G (ok'.1.2 x hx)
    · have ok' := ok
      have hg : g = true := hg
      subst hg
      simp only [okTab, Bool.and_eq_true, decide_eq_true_eq, Bool.not_true, Bool.false_or] at ok'
      exact Fc.bt_v c X G ok'.2
    · have hj : (t.map fun f => (f.x, f.ps))[j]? = some (x, ps) := hj
      rw [List.getElem?_map] at hj
      cases q : t[j]? with
      | none => rw [q] at hj; cases hj
      | some f' =>
        rw [q] at hj
        cases hj
        obtain ⟨d', fd', q1, q2, q3, q4⟩ := tab_fn ok c X G q
        exact ⟨k, _, fd', Nat.le_refl k, tab_all ok c X G k j f' d' fd' q q2 q3, q4, q3.kp, fun s us ws _ hl => FunD.bind1 q3 (Fn1.ok_v q2).2.2.2.1 s us ws hl⟩
    · have hj : (F.ck.map (·.1))[j]? = some x := hj
      have hd : (F.ck[j]?).map (·.2) = some dd := hd
      rw [List.getElem?_map] at hj
      cases q : F.ck[j]? with
      | none => rw [q] at hj; cases hj
      | some p =>
        rw [q] at hj hd
        cases hj
        cases hd
        exact Fc.ck_v c X G (List.mem_of_getElem? q)
end
/-- the whole: from the table to the goal behind the head -/
theorem walk_tab {l : PySem.W.OpenLaw} {n k : Nat} {q : Program} {loose : List Str} {XP : (Str → Option Value) → Heap → Prop} {d : DefRec} {F : Fc} {t : List Fn1} {g : Bool} {nn i : Nat} {f : Fn1}
    (hn : l.most = some n) (hn2 : n ≤ sizeLine) (hdf : d.params.defaults = []) (hr : Room k callerA) (ok : okTab F t g = true) (hi : t[i]? = some f) (hx : f.x = d.name) (hps : f.ps = [("script" : Str)])
    (hF : ∀ ns : List Int, ns.length ≤ n → (∀ z ∈ ns, Builtin.Int.intBits z ≤ 1048576) → ∃ m, FF t F.ck k i [.klst (ns.map .int)] [] = .ok (.bl true) m) :
    PySem.W.WalkO q loose XP (F.hook nn).says l.row.toRowW d [] (fun f vs => PySem.call f vs) := by
  refine walk_G (x := "script") (k := k) (F := FF t F.ck k i) hn hn2 hdf hr (fun w mg fa h Y G hmg => ?_) hF
  obtain ⟨K, KX, c⟩ := Y
  obtain ⟨d', fd, q1, q2, q3, q4⟩ := tab_fn ok c KX G hi
  rw [hx] at q4
  have e := hmg.symm.trans q4
  cases e
  refine ⟨K, fd, KX, fun s u => ?_, fun base B1 B2 => ?_⟩
  · have b := FunD.bind1 q3 (Fn1.ok_v q2).2.2.2.1 s [u] [] (by rw [hps]; rfl)
    rw [hps] at b
    exact b
  · have r := tab_all (P := l.prog) (w := w) ok c B1 B2 k i f d' fd hi q2 q3
    rw [hps, hx] at r
    exact r
end DL
end

section
set_option Elab.async false
set_option linter.all false
set_option autoImplicit false
set_option maxRecDepth 100000
set_option maxHeartbeats 1000000
namespace DL
open PySem PySem.Spec L2

/-! ### reckoning with the words -/
/-! ### small things about the words -/
@[simp] theorem ite_ok {α : Type} {c : Prop} [Decidable c] (a b : α) (s : S) : (if c then DL.R.ok a s else DL.R.ok b s) = DL.R.ok (if c then a else b) s := by split <;> rfl
/-- few figures -/
def Bt (x : Int) (n : Nat) : Prop := x.natAbs.log2 < n
theorem mul_ok {x y : Int} (hx : Bt x 100000) (hy : Bt y 100000) : op2 .mul (.int x) (.int y) = some (.int (x * y)) := by
  unfold Bt at *
  simp only [op2]
  rw [if_pos (by omega)]
theorem fdiv_ok {x y : Int} (h0 : 0 < y) (hy : Bt y 9000) : op2 .fdiv (.int x) (.int y) = some (.int (x / y)) := by
  unfold Bt at *
  simp only [op2]
  rw [if_pos ⟨h0, hy⟩]
theorem mod_ok {x y : Int} (h0 : 0 < y) : op2 .mod (.int x) (.int y) = some (.int (x % y)) := by
  simp only [op2]
  rw [if_pos h0]
@[simp] theorem add_i (x y : Int) : op2 .add (.int x) (.int y) = some (.int (x + y)) := rfl
@[simp] theorem sub_i (x y : Int) : op2 .sub (.int x) (.int y) = some (.int (x - y)) := rfl
theorem bt_of {x : Int} {n : Nat} (h : x.natAbs < 2 ^ n) (hn : 0 < n) : Bt x n := by
  unfold Bt
  by_cases z : x.natAbs = 0
  · rw [z]; simpa using hn
  · exact (Nat.log2_lt z).mpr h
theorem bt_lt {x : Int} {n : Nat} (h : Bt x n) : x.natAbs < 2 ^ n := by
  unfold Bt at h
  by_cases z : x.natAbs = 0
  · rw [z]; exact Nat.two_pow_pos _
  · exact (Nat.log2_lt z).mp h
theorem bt_mono {x : Int} {n m : Nat} (h : Bt x n) (hm : n ≤ m) : Bt x m := Nat.lt_of_lt_of_le h hm
theorem bt_le {x y : Int} {n : Nat} (h : Bt y n) (hn : 0 < n) (h0 : 0 ≤ x) (hx : x ≤ y) : Bt x n := bt_of (Nat.lt_of_le_of_lt (by omega) (bt_lt h)) hn
theorem bt_mul {x y : Int} {n m : Nat} (hx : Bt x n) (hy : Bt y m) (hn : 0 < n) : Bt (x * y) (n + m) := by
  refine bt_of ?_ (by omega)
  rw [Int.natAbs_mul, Nat.pow_add]
  exact Nat.mul_lt_mul'' (bt_lt hx) (bt_lt hy)
theorem bt_sub {x y : Int} {n : Nat} (hx : Bt x n) (hy : Bt y n) : Bt (x - y) (n + 1) := by
  have h1 := bt_lt hx
  have h2 := bt_lt hy
  refine bt_of ?_ (by omega)
  rw [Nat.pow_succ]
  omega
theorem bt_add {x y : Int} {n : Nat} (hx : Bt x n) (hy : Bt y n) : Bt (x + y) (n + 1) := by
  have h1 := bt_lt hx
  have h2 := bt_lt hy
  refine bt_of ?_ (by omega)
  rw [Nat.pow_succ]
  omega
@[simp] theorem eq_ii (x y : Int) : eqD (.int x) (.int y) = some (decide (x = y)) := rfl
theorem eq_tt (a b c d : Int) : eqD (.tup [.int a, .int b]) (.tup [.int c, .int d]) = some (decide (a = c) && decide (b = d)) := by
  simp [eqD, toP, toPs, SeqAt.shaped, PyData.canLay0, PyData.canLayAll0, PyData.depth, PyData.depthAll, PyData.eqv, PyData.eqvAll]
  by_cases h1 : a = c <;> by_cases h2 : b = d <;> simp [h1, h2]
/-- all(..) of a test of each -/
theorem blsOf_map {α : Type} (p : α → Bool) : ∀ l : List α, blsOf (l.map fun x => D.bl (p x)) = some (l.map p)
  | [] => rfl
  | x :: l => by simp [blsOf, blsOf_map p l]
theorem lc1 {E : Gv} {i : Nat} {e : DX} {g : D → D} {s : S} (hi : i < s.r.length) (hs : s.r[i]? = some none) : ∀ (ds : List D), (∀ d ∈ ds, ev E e { s with r := s.r.set i (some (.val d)) } = .ok (g d) { s with r := s.r.set i (some (.val d)) }) →
    loopC [i] (asg (.nm i)) (tst E .yes) (ev E e) ds s = .ok (ds.map g) s
  | [], _ => by simp [loopC]
  | d :: ds, h => by
    have hn : (s.r.set i (some (Sl.val d))).set i none = s.r := by
      rw [List.set_set]
      exact List.ext_getElem? fun j => by
        by_cases e : i = j
        · subst e; rw [List.getElem?_set_self hi, hs]
        · rw [List.getElem?_set_ne e]
    have q : asg (.nm i) d s = some { s with r := s.r.set i (some (.val d)) } := by simp [asg, setV, hi]
    have qt : ∀ s, tst E .yes s = .ok true s := fun s => by rw [tst]
    simp only [loopC, q, opt_some, bind_ok, qt, if_true, h d (by simp), wipeS, hn]
    rw [lc1 hi hs ds fun d' h' => h d' (by simp [h'])]
    simp
theorem comp1 {E : Gv} {i : Nat} {it : DIt} {e : DX} {ds : List D} {g : D → D} {s : S} (hit : evit E it s = .ok ds s) (hi : i < s.r.length) (hp : plainAt s.r [i] = true) (hl : ds.length < sizeLine)
    (h : ∀ d ∈ ds, ev E e { s with r := s.r.set i (some (.val d)) } = .ok (g d) { s with r := s.r.set i (some (.val d)) }) : ev E (.comp [i] (.nm i) it .yes e) s = .ok (.lst (ds.map g)) s := by
  rw [ev, hit]
  simp only [bind_ok, hp, if_true, wipeS]
  rw [lc1 (s := { s with r := s.r.set i none }) (g := g) (by simpa using hi) (by rw [List.getElem?_set_self hi]) ds fun d hd => by simpa using h d hd]
  simp only [bind_ok, hl, if_true, backS]
  obtain ⟨x, hx⟩ : ∃ x, s.r[i]? = some x := ⟨s.r[i], List.getElem?_eq_getElem hi⟩
  rw [hx]
  simp only [List.set_set]
  have : s.r.set i x = s.r := List.ext_getElem? fun j => by
    by_cases e : i = j
    · subst e; rw [List.getElem?_set_self hi, hx]
    · rw [List.getElem?_set_ne e]
  rw [this]
theorem all1 {E : Gv} {i : Nat} {it : DIt} {e : DX} {ds : List D} {p : D → Bool} {s : S} (hit : evit E it s = .ok ds s) (hi : i < s.r.length) (hp : plainAt s.r [i] = true) (hl : ds.length < sizeLine)
    (h : ∀ d ∈ ds, ev E e { s with r := s.r.set i (some (.val d)) } = .ok (.bl (p d)) { s with r := s.r.set i (some (.val d)) }) :
    ev E (.bi .all (.cons (.comp [i] (.nm i) it .yes e) .nil)) s = .ok (.bl (ds.all p)) s := by
  rw [lenArg_none rfl]
  simp only [evs, comp1 (g := fun d => .bl (p d)) hit hi hp hl h, bind_ok, biD, lseqOf, Option.bind_some, blsOf_map, Option.map_some, opt_some]
  rw [List.all_map]
  rfl

theorem ev_call {E : Gv} {f : Nat} {as : DXs} {s s' : S} {ds : List D} {r : D} {m : List (List D)} (h : evs E as s = .ok ds s') (hf : E.F f ds s'.m = .ok r m) : ev E (.call f as) s = .ok r { s' with m := m } := by
  rw [ev, h]
  simp [hf]
theorem seq_next {E : Gv} {a : DS} {as : DSs} {s s' : S} (h : evS E a s = .ok .next s') : evSs E (.cons a as) s = evSs E as s' := by
  rw [evSs, h]
  rfl
theorem seq_ret {E : Gv} {a : DS} {as : DSs} {s s' : S} {d : D} (h : evS E a s = .ok (.ret d) s') : evSs E (.cons a as) s = .ok (.ret d) s' := by
  rw [evSs, h]
  rfl
theorem loop_next {body : D → S → R Fl} {d : D} {ds : List D} {s s' : S} (h : body d s = .ok .next s') : loopF body (d :: ds) s = loopF body ds s' := by rw [loopF, h]; rfl
theorem loop_cont {body : D → S → R Fl} {d : D} {ds : List D} {s s' : S} (h : body d s = .ok .cont s') : loopF body (d :: ds) s = loopF body ds s' := by rw [loopF, h]; rfl
theorem loop_brk {body : D → S → R Fl} {d : D} {ds : List D} {s s' : S} (h : body d s = .ok .brk s') : loopF body (d :: ds) s = .ok .next s' := by rw [loopF, h]; rfl
theorem loop_ret {body : D → S → R Fl} {d : D} {ds : List D} {s s' : S} {r : D} (h : body d s = .ok (.ret r) s') : loopF body (d :: ds) s = .ok (.ret r) s' := by rw [loopF, h]; rfl
theorem runB_ret {E : Gv} {n : Nat} {b : DSs} {ds : List D} {m : List (List D)} {d : D} {s s0 : S} (h0 : enterS n ds m = s0) (h : evSs E b s0 = .ok (.ret d) s) : runB E n b ds m = .ok d s.m := by
  subst h0
  unfold enterS at h
  unfold runB
  rw [h]
@[simp] theorem non_d : Ct.non.d = .non := rfl
@[simp] theorem bl_d (b : Bool) : (Ct.bl b).d = .bl b := rfl
@[simp] theorem int_d (b : Int) : (Ct.int b).d = .int b := rfl
@[simp] theorem str_d (b : String) : (Ct.str b).d = .str (Str.ofString b) := rfl
end DL
end

section
set_option Elab.async false
set_option linter.all false
set_option autoImplicit false
set_option maxRecDepth 100000
set_option maxHeartbeats 1000000
namespace DL
open PySem PySem.Spec
/-- items to values, one by one -/
inductive All2 {α β : Type} (R : α → β → Prop) : List α → List β → Prop
  | nil : All2 R [] []
  | cons {a : α} {b : β} {as : List α} {bs : List β} : R a b → All2 R as bs → All2 R (a :: as) (b :: bs)
theorem All2.map {α β : Type} {R : α → β → Prop} {f : α → β} : ∀ {l : List α}, (∀ x ∈ l, R x (f x)) → All2 R l (l.map f)
  | [], _ => .nil
  | x :: l, h => .cons (h x (by simp)) (All2.map fun y hy => h y (by simp [hy]))
theorem All2.len {α β : Type} {R : α → β → Prop} : ∀ {l : List α} {m : List β}, All2 R l m → l.length = m.length
  | _, _, .nil => rfl
  | _, _, .cons _ t => by simp [All2.len t]
theorem loopG {E : Gv} {own : List Nat} {tg : DTg} {e : DX} {s : S} : ∀ {ds ys : List D},
    All2 (fun d y => ∃ s1 s2, asg tg d s = some s1 ∧ ev E e s1 = .ok y s2 ∧ wipeS s2.r own = s.r ∧ s2.m = s.m) ds ys → loopC own (asg tg) (tst E .yes) (ev E e) ds s = .ok ys s
  | _, _, .nil => by simp [loopC]
  | _, _, .cons (as := ds) (bs := ys) ⟨s1, s2, h1, h2, h3, h4⟩ t => by
    have q : ({ s2 with r := wipeS s2.r own } : S) = s := by
      cases s; cases s2
      simp only at h3 h4 ⊢
      rw [h3, h4]
    have qt : tst E .yes s1 = .ok true s1 := by rw [tst]
    rw [loopC]
    simp only [h1, opt_some, bind_ok, qt, if_true, h2]
    rw [q, loopG t]
    simp
/-- a block: its items by any target -/
theorem compG {E : Gv} {own : List Nat} {tg : DTg} {it : DIt} {e : DX} {ds ys : List D} {s : S} (hit : evit E it s = .ok ds s) (hp : plainAt s.r own = true) (hl : ds.length < sizeLine)
    (h : All2 (fun d y => ∃ s1 s2, asg tg d { s with r := wipeS s.r own } = some s1 ∧ ev E e s1 = .ok y s2 ∧ wipeS s2.r own = wipeS s.r own ∧ s2.m = s.m) ds ys)
    (hb : backS s.r (wipeS s.r own) own = s.r) : ev E (.comp own tg it .yes e) s = .ok (.lst ys) s := by
  rw [ev, hit]
  simp only [bind_ok, hp, if_true]
  rw [loopG (s := { s with r := wipeS s.r own }) h]
  simp only [bind_ok, hl, if_true, hb]
/-- .. by one slot -/
theorem comp2 {E : Gv} {i : Nat} {it : DIt} {e : DX} {ds ys : List D} {s : S} (hit : evit E it s = .ok ds s) (hi : i < s.r.length) (hp : plainAt s.r [i] = true) (hl : ds.length < sizeLine)
    (h : All2 (fun d y => ev E e { s with r := s.r.set i (some (.val d)) } = .ok y { s with r := s.r.set i (some (.val d)) }) ds ys) : ev E (.comp [i] (.nm i) it .yes e) s = .ok (.lst ys) s := by
  refine compG hit hp hl ?_ ?_
  · have go2 : ∀ {ds ys : List D}, All2 (fun d y => ev E e { s with r := s.r.set i (some (.val d)) } = .ok y { s with r := s.r.set i (some (.val d)) }) ds ys →
        All2 (fun d y => ∃ s1 s2, asg (.nm i) d { s with r := wipeS s.r [i] } = some s1 ∧ ev E e s1 = .ok y s2 ∧ wipeS s2.r [i] = wipeS s.r [i] ∧ s2.m = s.m) ds ys := fun {ds ys} h => by
      induction h with
      | nil => exact .nil
      | cons a _ ih =>
        refine .cons ⟨_, _, ?_, a, ?_, rfl⟩ ih
        · simp [asg, setV, wipeS, hi]
        · simp [wipeS]
    exact go2 h
  · simp only [wipeS, backS]
    obtain ⟨x, hx⟩ : ∃ x, s.r[i]? = some x := ⟨s.r[i], List.getElem?_eq_getElem hi⟩
    rw [hx]
    simp only [List.set_set]
    exact List.ext_getElem? fun j => by
      by_cases e : i = j
      · subst e; rw [List.getElem?_set_self hi, hx]
      · rw [List.getElem?_set_ne e]
end DL
end

section
set_option Elab.async false
set_option linter.all false
set_option autoImplicit false
set_option maxRecDepth 100000
set_option maxHeartbeats 4000000
namespace K84
open PySem PySem.Spec L2 DL
open PyProof.Rows hiding St
/-- is_integer(value); slots 0=value -/
def b0 : DSs := (.cons (.ret (.and (.bi (.isinst "int") (.cons (.var 0) .nil)) (.not (.bi (.isinst "bool") (.cons (.var 0) .nil))))) .nil)
/-- common(one, other); slots 0=one 1=other -/
def b1 : DSs := (.cons (.ret (.bi .gcd (.cons (.var 0) (.cons (.var 1) .nil)))) .nil)
/-- reduced(top, low); slots 0=top 1=low 2=by -/
def b2 : DSs := (.cons (.set 2 (.ite (.tv (.cmp .gt (.var 1) (.const (.int 0)))) (.call 1 (.cons (.var 0) (.cons (.var 1) .nil))) (.op .sub (.const (.int 0)) (.call 1 (.cons (.var 0) (.cons (.var 1) .nil)))))) (.cons (.ret (.tup (.cons (.op .fdiv (.var 0) (.var 2)) (.cons (.op .fdiv (.var 1) (.var 2)) .nil)))) .nil))
/-- is_fraction(value); slots 0=value 1=part -/
def c3_0 : DX := .comp [1] (.nm 1) (.seq (.var 0)) .yes (.call 0 (.cons (.var 1) .nil))
def b3 : DSs := (.cons (.ite (.or (.not (.tv (.bi (.isinst "tuple") (.cons (.var 0) .nil)))) (.or (.tv (.cmp .ne (.bi .len (.cons (.var 0) .nil)) (.const (.int 2)))) (.not (.tv (.bi .all (.cons c3_0 .nil)))))) (.cons (.ret (.const (.bl false))) .nil) .nil) (.cons (.ret (.and (.cmp .ge (.idx (.var 0) (.const (.int 1))) (.const (.int 1))) (.cmp .eq (.call 1 (.cons (.idx (.var 0) (.const (.int 0))) (.cons (.idx (.var 0) (.const (.int 1))) .nil))) (.const (.int 1))))) .nil))
/-- is_told_fraction(value); slots 0=value -/
def b4 : DSs := (.cons (.ret (.and (.call 3 (.cons (.var 0) .nil)) (.and (.cmp .lt (.bi .abs (.cons (.idx (.var 0) (.const (.int 0))) .nil)) (.glob 0)) (.cmp .lt (.idx (.var 0) (.const (.int 1))) (.glob 0))))) .nil)
/-- difference(one, other); slots 0=one 1=other -/
def b5 : DSs := (.cons (.ret (.call 2 (.cons (.op .sub (.op .mul (.idx (.var 0) (.const (.int 0))) (.idx (.var 1) (.const (.int 1)))) (.op .mul (.idx (.var 1) (.const (.int 0))) (.idx (.var 0) (.const (.int 1))))) (.cons (.op .mul (.idx (.var 0) (.const (.int 1))) (.idx (.var 1) (.const (.int 1)))) .nil)))) .nil)
/-- quotient(one, other); slots 0=one 1=other -/
def b6 : DSs := (.cons (.ret (.call 2 (.cons (.op .mul (.idx (.var 0) (.const (.int 0))) (.idx (.var 1) (.const (.int 1)))) (.cons (.op .mul (.idx (.var 0) (.const (.int 1))) (.idx (.var 1) (.const (.int 0)))) .nil)))) .nil)
/-- is_less(one, other); slots 0=one 1=other -/
def b7 : DSs := (.cons (.ret (.cmp .lt (.op .mul (.idx (.var 0) (.const (.int 0))) (.idx (.var 1) (.const (.int 1)))) (.op .mul (.idx (.var 1) (.const (.int 0))) (.idx (.var 0) (.const (.int 1)))))) .nil)
/-- floor_of(one); slots 0=one -/
def b8 : DSs := (.cons (.ret (.op .fdiv (.idx (.var 0) (.const (.int 0))) (.idx (.var 0) (.const (.int 1))))) .nil)
/-- is_stretch(value); slots 0=value 1=at -/
def c9_0 : DX := .comp [1] (.nm 1) (.seq (.tup (.cons (.const (.int 1)) (.cons (.const (.int 3)) .nil)))) .yes (.bi (.isinst "bool") (.cons (.idx (.var 0) (.var 1)) .nil))
def b9 : DSs := (.cons (.ite (.or (.not (.tv (.bi (.isinst "tuple") (.cons (.var 0) .nil)))) (.or (.tv (.cmp .ne (.bi .len (.cons (.var 0) .nil)) (.const (.int 4)))) (.not (.tv (.bi .all (.cons c9_0 .nil)))))) (.cons (.ret (.const (.bl false))) .nil) .nil) (.cons (.ite (.or (.not (.tv (.call 4 (.cons (.idx (.var 0) (.const (.int 0))) .nil)))) (.or (.not (.tv (.call 4 (.cons (.idx (.var 0) (.const (.int 2))) .nil)))) (.tv (.cmp .lt (.idx (.idx (.var 0) (.const (.int 0))) (.const (.int 0))) (.const (.int 0)))))) (.cons (.ret (.const (.bl false))) .nil) .nil) (.cons (.ret (.or (.call 7 (.cons (.idx (.var 0) (.const (.int 0))) (.cons (.idx (.var 0) (.const (.int 2))) .nil))) (.and (.cmp .eq (.idx (.var 0) (.const (.int 0))) (.idx (.var 0) (.const (.int 2)))) (.and (.idx (.var 0) (.const (.int 1))) (.idx (.var 0) (.const (.int 3))))))) .nil)))
/-- check_stretch(stretch); slots 0=stretch -/
def b10 : DSs := (.cons (.ite (.not (.tv (.call 9 (.cons (.var 0) .nil)))) (.cons .fail .nil) .nil) .nil)
/-- is_inside(stretch, one); slots 0=stretch 1=one 2=low 3=is_low 4=high 5=is_high -/
def b11 : DSs := (.cons (.unp (.tup (.cons (.nm 2) (.cons (.nm 3) (.cons (.nm 4) (.cons (.nm 5) .nil))))) (.var 0)) (.cons (.ite (.or (.tv (.call 7 (.cons (.var 1) (.cons (.var 2) .nil)))) (.and (.tv (.cmp .eq (.var 1) (.var 2))) (.not (.tv (.var 3))))) (.cons (.ret (.const (.bl false))) .nil) .nil) (.cons (.ret (.or (.cmp .is (.var 4) (.const .non)) (.or (.call 7 (.cons (.var 1) (.cons (.var 4) .nil))) (.and (.cmp .eq (.var 1) (.var 4)) (.var 5))))) .nil)))
/-- simplest_of(stretch); slots 0=stretch 1=lap 2=found 3=whole 4=wholes 5=first 6=left 7=rest 8=far 9=low 10=is_low 11=high 12=is_high -/
def l12_0 : DSs := (.cons (.set 2 (.tup (.cons (.op .add (.op .mul (.var 3) (.idx (.var 2) (.const (.int 0)))) (.idx (.var 2) (.const (.int 1)))) (.cons (.idx (.var 2) (.const (.int 0))) .nil)))) .nil)
def l12_1 : DSs := (.cons (.unp (.tup (.cons (.nm 9) (.cons (.nm 10) (.cons (.nm 11) (.cons (.nm 12) .nil))))) (.var 6)) (.cons (.set 3 (.call 8 (.cons (.var 9) .nil))) (.cons (.set 5 (.ite (.and (.tv (.var 10)) (.tv (.cmp .eq (.idx (.var 9) (.const (.int 1))) (.const (.int 1))))) (.var 3) (.op .add (.var 3) (.const (.int 1))))) (.cons (.ite (.tv (.call 11 (.cons (.var 6) (.cons (.tup (.cons (.var 5) (.cons (.const (.int 1)) .nil))) .nil)))) (.cons .brk .nil) .nil) (.cons (.app 4 (.var 3)) (.cons (.set 7 (.call 5 (.cons (.var 9) (.cons (.tup (.cons (.var 3) (.cons (.const (.int 1)) .nil))) .nil)))) (.cons (.set 8 (.call 6 (.cons (.glob 2) (.cons (.call 5 (.cons (.var 11) (.cons (.tup (.cons (.var 3) (.cons (.const (.int 1)) .nil))) .nil))) .nil)))) (.cons (.set 6 (.tup (.cons (.var 8) (.cons (.var 12) (.cons (.ite (.tv (.cmp .eq (.var 7) (.glob 1))) (.const .non) (.call 6 (.cons (.glob 2) (.cons (.var 7) .nil)))) (.cons (.var 10) .nil)))))) .nil))))))))
def b12 : DSs := (.cons (.par [(4, true), (5, false), (6, false)] (.cons (.lst .nil) (.cons (.const (.int 0)) (.cons (.var 0) .nil)))) (.cons (.forr (.nm 1) (.rng (.cons (.glob 3) .nil)) l12_1) (.cons (.set 2 (.tup (.cons (.var 5) (.cons (.const (.int 1)) .nil)))) (.cons (.forr (.nm 3) (.seq (.rev (.var 4))) l12_0) (.cons (.ret (.var 2)) .nil)))))
/-- parents_of(one); slots 0=one 1=left 2=right 3=rest 4=is_right 5=times 6=whole 7=top -/
def l13_0 : DSs := (.cons (.par [(6, false), (7, false)] (.cons (.op .fdiv (.idx (.var 3) (.const (.int 0))) (.idx (.var 3) (.const (.int 1)))) (.cons (.op .mod (.idx (.var 3) (.const (.int 0))) (.idx (.var 3) (.const (.int 1)))) .nil))) (.cons (.set 5 (.ite (.tv (.cmp .ne (.var 7) (.const (.int 0)))) (.var 6) (.op .sub (.var 6) (.const (.int 1))))) (.cons (.ite (.tv (.var 4)) (.cons (.set 1 (.tup (.cons (.op .add (.idx (.var 1) (.const (.int 0))) (.op .mul (.var 5) (.idx (.var 2) (.const (.int 0))))) (.cons (.op .add (.idx (.var 1) (.const (.int 1))) (.op .mul (.var 5) (.idx (.var 2) (.const (.int 1))))) .nil)))) .nil) (.cons (.set 2 (.tup (.cons (.op .add (.idx (.var 2) (.const (.int 0))) (.op .mul (.var 5) (.idx (.var 1) (.const (.int 0))))) (.cons (.op .add (.idx (.var 2) (.const (.int 1))) (.op .mul (.var 5) (.idx (.var 1) (.const (.int 1))))) .nil)))) .nil)) (.cons (.par [(3, false), (4, false)] (.cons (.tup (.cons (.idx (.var 3) (.const (.int 1))) (.cons (.var 7) .nil))) (.cons (.not (.var 4)) .nil))) .nil))))
def b13 : DSs := (.cons (.ite (.tv (.cmp .eq (.idx (.var 0) (.const (.int 1))) (.const (.int 1)))) (.cons (.ret (.tup .nil)) .nil) .nil) (.cons (.unp (.tup (.cons (.nm 1) (.cons (.nm 2) (.cons (.nm 3) (.cons (.nm 4) .nil))))) (.tup (.cons (.tup (.cons (.const (.int 0)) (.cons (.const (.int 1)) .nil))) (.cons (.tup (.cons (.const (.int 1)) (.cons (.const (.int 0)) .nil))) (.cons (.var 0) (.cons (.const (.bl true)) .nil)))))) (.cons (.whl (.tv (.cmp .ne (.idx (.var 3) (.const (.int 1))) (.const (.int 0)))) l13_0) (.cons (.ret (.tup (.cons (.var 1) (.cons (.var 2) .nil)))) .nil))))
/-- with_parents(one); slots 0=one -/
def b14 : DSs := (.cons (.ret (.tup (.cons (.var 0) (.cons (.call 13 (.cons (.var 0) .nil)) .nil)))) .nil)
/-- are_parents(value); slots 0=value 1=one 2=part -/
def c18_0 : DX := .comp [2] (.nm 2) (.seq (.var 1)) .yes (.and (.call 0 (.cons (.var 2) .nil)) (.cmp .ge (.var 2) (.const (.int 0))))
def l18_0 : DSs := (.cons (.ite (.or (.not (.tv (.bi (.isinst "tuple") (.cons (.var 1) .nil)))) (.or (.tv (.cmp .ne (.bi .len (.cons (.var 1) .nil)) (.const (.int 2)))) (.not (.tv (.bi .all (.cons c18_0 .nil)))))) (.cons (.ret (.const (.bl false))) .nil) .nil) .nil)
def b18 : DSs := (.cons (.ite (.or (.not (.tv (.bi (.isinst "tuple") (.cons (.var 0) .nil)))) (.tv (.cmp .ne (.bi .len (.cons (.var 0) .nil)) (.const (.int 2))))) (.cons (.ret (.const (.bl false))) .nil) .nil) (.cons (.forr (.nm 1) (.seq (.var 0)) l18_0) (.cons (.ret (.cmp .gt (.idx (.idx (.var 0) (.const (.int 0))) (.const (.int 1))) (.const (.int 0)))) .nil)))
/-- is_simplest(stretch, value); slots 0=stretch 1=value 2=paper 3=top 4=low 5=one 6=by 7=other 8=its -/
def b19 : DSs := (.cons (.ite (.or (.not (.tv (.bi (.isinst "tuple") (.cons (.var 1) .nil)))) (.or (.tv (.cmp .ne (.bi .len (.cons (.var 1) .nil)) (.const (.int 2)))) (.or (.not (.tv (.call 3 (.cons (.idx (.var 1) (.const (.int 0))) .nil)))) (.not (.tv (.call 11 (.cons (.var 0) (.cons (.idx (.var 1) (.const (.int 0))) .nil)))))))) (.cons (.ret (.const (.bl false))) .nil) .nil) (.cons (.unp (.tup (.cons (.tup (.cons (.nm 3) (.cons (.nm 4) .nil))) (.cons (.nm 2) .nil))) (.var 1)) (.cons (.ite (.tv (.cmp .eq (.var 4) (.const (.int 1)))) (.cons (.ret (.and (.cmp .eq (.var 2) (.tup .nil)) (.and (.bi (.isinst "tuple") (.cons (.var 2) .nil)) (.not (.call 11 (.cons (.var 0) (.cons (.tup (.cons (.op .sub (.var 3) (.const (.int 1))) (.cons (.const (.int 1)) .nil))) .nil))))))) .nil) .nil) (.cons (.ite (.not (.tv (.call 18 (.cons (.var 2) .nil)))) (.cons (.ret (.const (.bl false))) .nil) .nil) (.cons (.unp (.tup (.cons (.tup (.cons (.nm 5) (.cons (.nm 6) .nil))) (.cons (.tup (.cons (.nm 7) (.cons (.nm 8) .nil))) .nil))) (.var 2)) (.cons (.ite (.or (.tv (.cmp .ne (.tup (.cons (.op .add (.var 5) (.var 7)) (.cons (.op .add (.var 6) (.var 8)) .nil))) (.tup (.cons (.var 3) (.cons (.var 4) .nil))))) (.tv (.cmp .ne (.op .sub (.op .mul (.var 7) (.var 6)) (.op .mul (.var 5) (.var 8))) (.const (.int 1))))) (.cons (.ret (.const (.bl false))) .nil) .nil) (.cons (.ret (.and (.not (.call 11 (.cons (.var 0) (.cons (.tup (.cons (.var 5) (.cons (.var 6) .nil))) .nil)))) (.or (.cmp .eq (.var 8) (.const (.int 0))) (.not (.call 11 (.cons (.var 0) (.cons (.tup (.cons (.var 7) (.cons (.var 8) .nil))) .nil))))))) .nil)))))))
/-- _law_pot(script, place); slots 0=script 1=place 2=cell 3=own 4=small -/
def b22 : DSs := (.cons (.set 2 (.ite (.tv (.cmp .lt (.var 1) (.bi .len (.cons (.var 0) .nil)))) (.idx (.var 0) (.var 1)) (.op .add (.op .mul (.const (.int 1117)) (.var 1)) (.const (.int 911))))) (.cons (.set 3 (.op .mul (.op .mod (.bi .int (.cons (.bi .abs (.cons (.var 2) .nil)) .nil)) (.op .pow (.op .pow (.const (.int 10)) (.const (.int 60))) (.const (.int 5)))) (.bi .int (.cons (.cmp .ge (.bi .abs (.cons (.var 2) .nil)) (.op .pow (.const (.int 10)) (.const (.int 18)))) .nil)))) (.cons (.set 4 (.op .mod (.bi .int (.cons (.var 2) .nil)) (.const (.int 2305843009213693951)))) (.cons (.ret (.cell (.cons (.var 3) (.cons (.op .mod (.bi .int (.cons (.op .add (.op .add (.op .mul (.var 4) (.const (.int 75011))) (.op .mul (.op .mul (.const (.int 10111)) (.var 1)) (.var 1))) (.const (.int 1523))) .nil)) (.const (.int 2305843009213693921))) (.cons (.const (.int 0)) .nil))))) .nil))))
/-- _law_take(pot, upto); slots 0=pot 1=upto 2=prime 3=mixed 4=digit -/
def b23 : DSs := (.cons (.ite (.tv (.cmp .gt (.idx (.var 0) (.const (.int 0))) (.const (.int 0)))) (.cons (.set 4 (.op .mod (.bi .int (.cons (.idx (.var 0) (.const (.int 0))) .nil)) (.var 1))) (.cons (.put (.var 0) (.const (.int 0)) (.op .fdiv (.idx (.var 0) (.const (.int 0))) (.var 1))) (.cons (.ret (.var 4)) .nil))) .nil) (.cons (.put (.var 0) (.const (.int 2)) (.op .add (.idx (.var 0) (.const (.int 2))) (.const (.int 1)))) (.cons (.set 2 (.idx (.lst (.cons (.const (.int 2147483647)) (.cons (.const (.int 2147483629)) (.cons (.const (.int 2147483587)) (.cons (.const (.int 2147483579)) (.cons (.const (.int 2147483563)) .nil)))))) (.op .mod (.bi .int (.cons (.idx (.var 0) (.const (.int 2))) .nil)) (.const (.int 5))))) (.cons (.set 3 (.op .mod (.bi .int (.cons (.op .pow (.bi .int (.cons (.op .add (.op .add (.idx (.var 0) (.const (.int 1))) (.op .mul (.op .mul (.const (.int 95009)) (.idx (.var 0) (.const (.int 2)))) (.idx (.var 0) (.const (.int 2))))) (.const (.int 557))) .nil)) (.const (.int 3))) .nil)) (.var 2))) (.cons (.set 3 (.op .mod (.bi .int (.cons (.op .mul (.var 3) (.op .add (.op .mod (.bi .int (.cons (.var 3) .nil)) (.const (.int 13009))) (.op .mul (.const (.int 719)) (.idx (.var 0) (.const (.int 2)))))) .nil)) (.const (.int 2305843009213693907)))) (.cons (.ret (.op .mod (.bi .int (.cons (.op .fdiv (.var 3) (.const (.int 521))) .nil)) (.var 1))) .nil))))))
/-- _law_of(pot, some); slots 0=pot 1=some -/
def b24 : DSs := (.cons (.ret (.idx (.var 1) (.call 23 (.cons (.var 0) (.cons (.bi .len (.cons (.var 1) .nil)) .nil))))) .nil)
/-- _law_cells(script, limit); slots 0=script 1=limit -/
def b25 : DSs := (.cons (.ret (.lrg false (.cons (.bi .max (.cons (.const (.int 1)) (.cons (.bi .min (.cons (.var 1) (.cons (.bi .len (.cons (.var 0) .nil)) .nil))) .nil))) .nil))) .nil)
/-- _law_odd(pot); slots 0=pot 1=some -/
def b26 : DSs := (.cons (.own 1 (.lst (.cons (.const .non) (.cons (.const (.bl true)) (.cons (.const (.bl false)) (.cons (.const (.int 0)) (.cons (.const (.int 1)) (.cons (.neg (.const (.int 1))) (.cons (.const (.int 2)) (.cons (.const (.int 9999)) (.cons (.const (.int 10000)) (.cons (.const (.str "")) (.cons (.const (.str "a")) (.cons (.const (.str "A")) (.cons (.const (.str "bars")) (.cons (.const (.str "row in")) (.cons (.tup .nil) (.cons (.lst .nil) (.cons .emp (.cons (.tup (.cons (.const (.int 0)) .nil)) (.cons (.tup (.cons (.tup .nil) .nil)) (.cons (.lst (.cons (.const (.int 0)) .nil)) .nil)))))))))))))))))))))) (.cons (.ext 1 (.lst (.cons (.tup (.cons (.const (.str "a")) .nil)) (.cons (.tup (.cons (.const (.str "a")) (.cons (.const (.str "b")) .nil))) (.cons (.tup (.cons (.const (.int 1)) (.cons (.const (.int 2)) .nil))) (.cons (.tup (.cons (.const .non) .nil)) (.cons (.tup (.cons (.const (.str "a")) (.cons (.const (.str "b")) (.cons (.const (.int 1)) .nil)))) (.cons (.op .pow (.const (.int 10)) (.const (.int 11))) .nil)))))))) (.cons (.ret (.call 24 (.cons (.var 0) (.cons (.var 1) .nil)))) .nil)))
/-- _law_bent(pot, value); slots 0=pot 1=value 2=at 3=some -/
def b27 : DSs := (.cons (.ite (.and (.tv (.bi (.isinst "tuple") (.cons (.var 1) .nil))) (.and (.tv (.cmp .ne (.var 1) (.tup .nil))) (.tv (.cmp .gt (.call 23 (.cons (.var 0) (.cons (.const (.int 6)) .nil))) (.const (.int 0)))))) (.cons (.set 2 (.call 23 (.cons (.var 0) (.cons (.bi .len (.cons (.var 1) .nil)) .nil)))) (.cons (.ret (.op .add (.op .add (.sli (.var 1) .none (.some (.var 2))) (.tup (.cons (.call 27 (.cons (.var 0) (.cons (.idx (.var 1) (.var 2)) .nil))) .nil))) (.sli (.var 1) (.some (.op .add (.var 2) (.const (.int 1)))) .none))) .nil)) .nil) (.cons (.ite (.tv (.bi (.isinst "tuple") (.cons (.var 1) .nil))) (.cons (.set 3 (.lst (.cons (.bi .list (.cons (.var 1) .nil)) (.cons (.sli (.var 1) (.some (.const (.int 1))) .none) (.cons (.sli (.var 1) .none (.some (.neg (.const (.int 1))))) (.cons (.op .add (.var 1) (.sli (.var 1) (.some (.neg (.const (.int 1)))) .none)) (.cons (.rev (.var 1)) (.cons (.tup .nil) (.cons (.const .non) (.cons (.op .add (.var 1) (.tup (.cons (.const (.int 0)) .nil))) .nil)))))))))) (.cons (.ret (.call 24 (.cons (.var 0) (.cons (.var 3) .nil)))) .nil)) .nil) (.cons (.ite (.and (.tv (.bi (.isinst "int") (.cons (.var 1) .nil))) (.not (.tv (.bi (.isinst "bool") (.cons (.var 1) .nil))))) (.cons (.ret (.call 24 (.cons (.var 0) (.cons (.lst (.cons (.op .add (.var 1) (.const (.int 1))) (.cons (.op .sub (.var 1) (.const (.int 1))) (.cons (.cmp .eq (.var 1) (.const (.int 1))) (.cons (.bi .str (.cons (.var 1) .nil)) (.cons (.const .non) (.cons (.const (.int 0)) (.cons (.neg (.var 1)) (.cons (.op .add (.var 1) (.const (.int 3))) .nil))))))))) .nil)))) .nil) .nil) (.cons (.ite (.tv (.bi (.isinst "str") (.cons (.var 1) .nil))) (.cons (.ret (.call 24 (.cons (.var 0) (.cons (.lst (.cons (.op .add (.var 1) (.const (.str "x"))) (.cons (.sli (.var 1) .none (.some (.neg (.const (.int 1))))) (.cons (.meth .upper (.var 1) .nil) (.cons (.const .non) (.cons (.const (.str "city")) (.cons (.const (.str "told")) (.cons (.const (.str "7")) (.cons (.lst (.cons (.var 1) .nil)) (.cons (.const (.int 0)) .nil)))))))))) .nil)))) .nil) .nil) (.cons (.ret (.call 26 (.cons (.var 0) .nil))) .nil)))))
/-- _law_cut(top, low); slots 0=top 1=low 2=one 3=other -/
def l28_0 : DSs := (.cons (.par [(2, false), (3, false)] (.cons (.var 3) (.cons (.op .mod (.var 2) (.var 3)) .nil))) .nil)
def b28 : DSs := (.cons (.par [(2, false), (3, false)] (.cons (.bi .abs (.cons (.bi .int (.cons (.var 0) .nil)) .nil)) (.cons (.bi .int (.cons (.var 1) .nil)) .nil))) (.cons (.whl (.tv (.cmp .ne (.var 3) (.const (.int 0)))) l28_0) (.cons (.ret (.tup (.cons (.op .fdiv (.bi .int (.cons (.var 0) .nil)) (.var 2)) (.cons (.op .fdiv (.bi .int (.cons (.var 1) .nil)) (.var 2)) .nil)))) .nil)))
/-- _law_is_in(stretch, top, low); slots 0=stretch 1=top 2=low 3=here 4=is_low 5=there 6=is_high 7=left 8=right -/
def b29 : DSs := (.cons (.unp (.tup (.cons (.nm 3) (.cons (.nm 4) (.cons (.nm 5) (.cons (.nm 6) .nil))))) (.var 0)) (.cons (.par [(7, false), (8, false)] (.cons (.op .sub (.op .mul (.var 1) (.idx (.var 3) (.const (.int 1)))) (.op .mul (.idx (.var 3) (.const (.int 0))) (.var 2))) (.cons (.op .sub (.op .mul (.idx (.var 5) (.const (.int 0))) (.var 2)) (.op .mul (.var 1) (.idx (.var 5) (.const (.int 1))))) .nil))) (.cons (.ret (.and (.or (.cmp .gt (.var 7) (.const (.int 0))) (.and (.cmp .eq (.var 7) (.const (.int 0))) (.var 4))) (.or (.cmp .gt (.var 8) (.const (.int 0))) (.and (.cmp .eq (.var 8) (.const (.int 0))) (.var 6))))) .nil)))
/-- _law_stretch(pot, most); slots 0=pot 1=most 2=low 3=top 4=wide 5=here 6=there -/
def b30 : DSs := (.cons (.set 2 (.bi .int (.cons (.op .add (.const (.int 1)) (.call 23 (.cons (.var 0) (.cons (.var 1) .nil)))) .nil))) (.cons (.set 3 (.bi .int (.cons (.call 23 (.cons (.var 0) (.cons (.op .add (.op .mul (.const (.int 2)) (.var 2)) (.const (.int 1))) .nil))) .nil))) (.cons (.set 4 (.tup (.cons (.op .add (.const (.int 1)) (.bi .int (.cons (.call 23 (.cons (.var 0) (.cons (.const (.int 3)) .nil))) .nil))) (.cons (.op .add (.const (.int 1)) (.bi .int (.cons (.call 23 (.cons (.var 0) (.cons (.call 24 (.cons (.var 0) (.cons (.lst (.cons (.const (.int 3)) (.cons (.const (.int 12)) (.cons (.const (.int 60)) .nil)))) .nil))) .nil))) .nil))) .nil)))) (.cons (.par [(5, false), (6, false)] (.cons (.call 28 (.cons (.var 3) (.cons (.var 2) .nil))) (.cons (.call 28 (.cons (.op .add (.op .mul (.var 3) (.idx (.var 4) (.const (.int 1)))) (.op .mul (.idx (.var 4) (.const (.int 0))) (.var 2))) (.cons (.op .mul (.var 2) (.idx (.var 4) (.const (.int 1)))) .nil))) .nil))) (.cons (.ite (.tv (.cmp .eq (.call 23 (.cons (.var 0) (.cons (.const (.int 6)) .nil))) (.const (.int 0)))) (.cons (.ret (.tup (.cons (.var 5) (.cons (.const (.bl true)) (.cons (.var 5) (.cons (.const (.bl true)) .nil)))))) .nil) .nil) (.cons (.ret (.tup (.cons (.var 5) (.cons (.cmp .eq (.call 23 (.cons (.var 0) (.cons (.const (.int 2)) .nil))) (.const (.int 0))) (.cons (.var 6) (.cons (.cmp .eq (.call 23 (.cons (.var 0) (.cons (.const (.int 2)) .nil))) (.const (.int 0))) .nil)))))) .nil))))))
/-- _law_is_whole(value); slots 0=value -/
def b32 : DSs := (.cons (.ret (.and (.bi (.isinst "int") (.cons (.var 0) .nil)) (.not (.bi (.isinst "bool") (.cons (.var 0) .nil))))) .nil)
/-- _law_is_paper(stretch, fraction, paper); slots 0=stretch 1=fraction 2=paper 3=one 4=top 5=low 6=by 7=other 8=its 9=part -/
def c33_0 : DX := .comp [9] (.nm 9) (.seq (.var 3)) .yes (.and (.call 32 (.cons (.var 9) .nil)) (.cmp .ge (.var 9) (.const (.int 0))))
def l33_0 : DSs := (.cons (.ite (.or (.not (.tv (.bi (.isinst "tuple") (.cons (.var 3) .nil)))) (.or (.tv (.cmp .ne (.bi .len (.cons (.var 3) .nil)) (.const (.int 2)))) (.not (.tv (.bi .all (.cons c33_0 .nil)))))) (.cons (.ret (.const (.bl false))) .nil) .nil) .nil)
def c33_1 : DX := .comp [9] (.nm 9) (.seq (.var 1)) .yes (.call 32 (.cons (.var 9) .nil))
def b33 : DSs := (.cons (.ite (.or (.not (.tv (.bi (.isinst "tuple") (.cons (.var 1) .nil)))) (.or (.tv (.cmp .ne (.bi .len (.cons (.var 1) .nil)) (.const (.int 2)))) (.not (.tv (.bi .all (.cons c33_1 .nil)))))) (.cons (.ret (.const (.bl false))) .nil) .nil) (.cons (.unp (.tup (.cons (.nm 4) (.cons (.nm 5) .nil))) (.var 1)) (.cons (.ite (.or (.tv (.cmp .lt (.var 5) (.const (.int 1)))) (.or (.tv (.cmp .ne (.call 28 (.cons (.var 4) (.cons (.var 5) .nil))) (.var 1))) (.not (.tv (.call 29 (.cons (.var 0) (.cons (.var 4) (.cons (.var 5) .nil)))))))) (.cons (.ret (.const (.bl false))) .nil) .nil) (.cons (.ite (.tv (.cmp .eq (.var 5) (.const (.int 1)))) (.cons (.ret (.and (.cmp .eq (.var 2) (.tup .nil)) (.and (.bi (.isinst "tuple") (.cons (.var 2) .nil)) (.not (.call 29 (.cons (.var 0) (.cons (.op .sub (.var 4) (.const (.int 1))) (.cons (.const (.int 1)) .nil)))))))) .nil) .nil) (.cons (.ite (.or (.not (.tv (.bi (.isinst "tuple") (.cons (.var 2) .nil)))) (.tv (.cmp .ne (.bi .len (.cons (.var 2) .nil)) (.const (.int 2))))) (.cons (.ret (.const (.bl false))) .nil) .nil) (.cons (.forr (.nm 3) (.seq (.var 2)) l33_0) (.cons (.unp (.tup (.cons (.tup (.cons (.nm 3) (.cons (.nm 6) .nil))) (.cons (.tup (.cons (.nm 7) (.cons (.nm 8) .nil))) .nil))) (.var 2)) (.cons (.ite (.or (.tv (.cmp .lt (.var 6) (.const (.int 1)))) (.or (.tv (.cmp .ne (.tup (.cons (.op .add (.var 3) (.var 7)) (.cons (.op .add (.var 6) (.var 8)) .nil))) (.var 1))) (.tv (.cmp .ne (.op .sub (.op .mul (.var 7) (.var 6)) (.op .mul (.var 3) (.var 8))) (.const (.int 1)))))) (.cons (.ret (.const (.bl false))) .nil) .nil) (.cons (.ret (.and (.not (.call 29 (.cons (.var 0) (.cons (.var 3) (.cons (.var 6) .nil))))) (.or (.cmp .eq (.var 8) (.const (.int 0))) (.not (.call 29 (.cons (.var 0) (.cons (.var 7) (.cons (.var 8) .nil)))))))) .nil)))))))))
/-- product_of(one, other); slots 0=one 1=other -/
def b34 : DSs := (.cons (.ret (.call 2 (.cons (.op .mul (.idx (.var 0) (.const (.int 0))) (.idx (.var 1) (.const (.int 0)))) (.cons (.op .mul (.idx (.var 0) (.const (.int 1))) (.idx (.var 1) (.const (.int 1)))) .nil)))) .nil)
/-- halves_of(stretch, cut); slots 0=stretch 1=cut 2=found 3=low 4=is_low 5=high 6=is_high -/
def b35 : DSs := (.cons (.unp (.tup (.cons (.nm 3) (.cons (.nm 4) (.cons (.nm 5) (.cons (.nm 6) .nil))))) (.var 0)) (.cons (.set 2 (.ite (.tv (.call 7 (.cons (.var 3) (.cons (.var 1) .nil)))) (.lst (.cons (.tup (.cons (.var 3) (.cons (.var 4) (.cons (.var 1) (.cons (.const (.bl false)) .nil))))) .nil)) (.lst .nil))) (.cons (.ret (.op .add (.var 2) (.ite (.tv (.call 7 (.cons (.var 1) (.cons (.var 5) .nil)))) (.lst (.cons (.tup (.cons (.var 1) (.cons (.const (.bl false)) (.cons (.var 5) (.cons (.var 6) .nil))))) .nil)) (.lst .nil)))) .nil)))
/-- twice(stretch); slots 0=stretch 1=low 2=is_low 3=high 4=is_high -/
def b36 : DSs := (.cons (.unp (.tup (.cons (.nm 1) (.cons (.nm 2) (.cons (.nm 3) (.cons (.nm 4) .nil))))) (.var 0)) (.cons (.ret (.tup (.cons (.call 34 (.cons (.glob 4) (.cons (.var 1) .nil))) (.cons (.var 2) (.cons (.call 34 (.cons (.glob 4) (.cons (.var 3) .nil))) (.cons (.var 4) .nil)))))) .nil))
/-- middle_told(stretch); slots 0=stretch 1=wide 2=found 3=some 4=size 5=top 6=part 7=one -/
def c37_0 : DX := .comp [7] (.nm 7) (.seq (.lst (.cons (.var 2) (.star (.var 3) .nil)))) .yes (.call 14 (.cons (.var 7) .nil))
def c37_1 : DX := .comp [7] (.nm 7) (.seq (.var 3)) .yes (.tup (.cons (.idx (.var 7) (.const (.int 1))) (.cons (.idx (.var 7) (.const (.int 0))) .nil)))
def c37_2 : DX := .comp [6] (.nm 6) (.seq (.call 35 (.cons (.var 1) (.cons (.var 2) .nil)))) .yes (.call 12 (.cons (.var 6) .nil))
def b37 : DSs := (.cons (.set 1 (.call 36 (.cons (.var 0) .nil))) (.cons (.set 2 (.call 12 (.cons (.var 1) .nil))) (.cons (.ite (.tv (.cmp .eq (.op .mod (.idx (.var 2) (.const (.int 0))) (.const (.int 2))) (.const (.int 1)))) (.cons (.ret (.tup (.cons (.idx (.var 2) (.const (.int 1))) (.cons (.op .fdiv (.idx (.var 2) (.const (.int 0))) (.const (.int 2))) (.cons (.tup (.cons (.call 14 (.cons (.var 2) .nil)) .nil)) .nil))))) .nil) .nil) (.cons (.set 3 c37_2) (.cons (.ite (.tv (.cmp .eq (.var 3) (.lst .nil))) (.cons (.ret (.const .non)) .nil) .nil) (.cons (.unp (.tup (.cons (.nm 4) (.cons (.nm 5) .nil))) (.idx (.bi .sorted (.cons c37_1 .nil)) (.const (.int 0)))) (.cons (.ret (.tup (.cons (.var 4) (.cons (.op .fdiv (.var 5) (.const (.int 2))) (.cons (.bi .tuple (.cons c37_0 .nil)) .nil))))) .nil)))))))
/-- middle_size(stretch); slots 0=stretch -/
def b38 : DSs := (.cons (.drop (.call 10 (.cons (.var 0) .nil))) (.cons (.ret (.call 37 (.cons (.var 0) .nil))) .nil))
/-- are_beside(stretch, value); slots 0=stretch 1=value 2=parts 3=part 4=one -/
def c39_0 : DX := .comp [3, 4] (.tup (.cons (.nm 3) (.cons (.nm 4) .nil))) (.zip (.var 2) (.sli (.var 1) (.some (.const (.int 1))) .none)) .yes (.call 19 (.cons (.var 3) (.cons (.var 4) .nil)))
def b39 : DSs := (.cons (.ite (.or (.not (.tv (.call 19 (.cons (.var 0) (.cons (.idx (.var 1) (.const (.int 0))) .nil))))) (.tv (.cmp .eq (.op .mod (.idx (.idx (.idx (.var 1) (.const (.int 0))) (.const (.int 0))) (.const (.int 0))) (.const (.int 2))) (.const (.int 1))))) (.cons (.ret (.const (.bl false))) .nil) .nil) (.cons (.set 2 (.call 35 (.cons (.var 0) (.cons (.idx (.idx (.var 1) (.const (.int 0))) (.const (.int 0))) .nil)))) (.cons (.ite (.or (.tv (.cmp .ne (.bi .len (.cons (.var 1) .nil)) (.op .add (.const (.int 1)) (.bi .len (.cons (.var 2) .nil))))) (.tv (.cmp .eq (.var 2) (.lst .nil)))) (.cons (.ret (.const (.bl false))) .nil) .nil) (.cons (.ret (.bi .all (.cons c39_0 .nil))) .nil))))
/-- is_middle_told(stretch, value); slots 0=stretch 1=value 2=wide 3=papers 4=tops 5=size 6=top 7=one -/
def c40_0 : DX := .comp [7] (.nm 7) (.seq (.var 4)) .yes (.tup (.cons (.idx (.var 7) (.const (.int 1))) (.cons (.idx (.var 7) (.const (.int 0))) .nil)))
def c40_1 : DX := .comp [7] (.nm 7) (.seq (.sli (.var 3) (.some (.const (.int 1))) .none)) .yes (.idx (.var 7) (.const (.int 0)))
def b40 : DSs := (.cons (.set 2 (.call 36 (.cons (.var 0) .nil))) (.cons (.ite (.tv (.cmp .is (.var 1) (.const .non))) (.cons (.ret (.and (.cmp .eq (.idx (.var 2) (.const (.int 0))) (.idx (.var 2) (.const (.int 2)))) (.cmp .eq (.op .mod (.idx (.idx (.var 2) (.const (.int 0))) (.const (.int 0))) (.const (.int 2))) (.const (.int 0))))) .nil) .nil) (.cons (.ite (.or (.not (.tv (.bi (.isinst "tuple") (.cons (.var 1) .nil)))) (.or (.tv (.cmp .ne (.bi .len (.cons (.var 1) .nil)) (.const (.int 3)))) (.or (.not (.tv (.call 0 (.cons (.idx (.var 1) (.const (.int 0))) .nil)))) (.not (.tv (.call 0 (.cons (.idx (.var 1) (.const (.int 1))) .nil))))))) (.cons (.ret (.const (.bl false))) .nil) .nil) (.cons (.set 3 (.idx (.var 1) (.const (.int 2)))) (.cons (.ite (.or (.not (.tv (.bi (.isinst "tuple") (.cons (.var 3) .nil)))) (.tv (.cmp .eq (.var 3) (.tup .nil)))) (.cons (.ret (.const (.bl false))) .nil) .nil) (.cons (.ite (.tv (.cmp .eq (.bi .len (.cons (.var 3) .nil)) (.const (.int 1)))) (.cons (.ite (.not (.tv (.call 19 (.cons (.var 2) (.cons (.idx (.var 3) (.const (.int 0))) .nil))))) (.cons (.ret (.const (.bl false))) .nil) .nil) (.cons (.set 4 (.lst (.cons (.idx (.idx (.var 3) (.const (.int 0))) (.const (.int 0))) .nil))) .nil)) (.cons (.ite (.not (.tv (.call 39 (.cons (.var 2) (.cons (.var 3) .nil))))) (.cons (.ret (.const (.bl false))) .nil) (.cons (.set 4 c40_1) .nil)) .nil)) (.cons (.unp (.tup (.cons (.nm 5) (.cons (.nm 6) .nil))) (.idx (.bi .sorted (.cons c40_0 .nil)) (.const (.int 0)))) (.cons (.ret (.and (.cmp .eq (.op .mod (.var 6) (.const (.int 2))) (.const (.int 1))) (.cmp .eq (.tup (.cons (.var 5) (.cons (.op .fdiv (.var 6) (.const (.int 2))) .nil))) (.tup (.cons (.idx (.var 1) (.const (.int 0))) (.cons (.idx (.var 1) (.const (.int 1))) .nil)))))) .nil))))))))
/-- shows_middle_size(stretch, value); slots 0=stretch 1=value -/
def b41 : DSs := (.cons (.drop (.call 10 (.cons (.var 0) .nil))) (.cons (.ret (.call 40 (.cons (.var 0) (.cons (.var 1) .nil)))) .nil))
/-- _law_twice(stretch); slots 0=stretch 1=low 2=is_low 3=high 4=is_high -/
def b42 : DSs := (.cons (.unp (.tup (.cons (.nm 1) (.cons (.nm 2) (.cons (.nm 3) (.cons (.nm 4) .nil))))) (.var 0)) (.cons (.ret (.tup (.cons (.call 28 (.cons (.op .mul (.const (.int 2)) (.idx (.var 1) (.const (.int 0)))) (.cons (.idx (.var 1) (.const (.int 1))) .nil))) (.cons (.var 2) (.cons (.call 28 (.cons (.op .mul (.const (.int 2)) (.idx (.var 3) (.const (.int 0)))) (.cons (.idx (.var 3) (.const (.int 1))) .nil))) (.cons (.var 4) .nil)))))) .nil))
/-- _law_middle(stretch); slots 0=stretch 1=size 2=low 3=is_low 4=high 5=is_high 6=first 7=number -/
def l43_0 : DSs := (.cons (.ite (.and (.tv (.cmp .ge (.var 7) (.const (.int 0)))) (.tv (.call 29 (.cons (.var 0) (.cons (.op .add (.op .mul (.const (.int 2)) (.var 7)) (.const (.int 1))) (.cons (.op .mul (.const (.int 2)) (.var 1)) .nil)))))) (.cons (.ret (.tup (.cons (.bi .int (.cons (.var 1) .nil)) (.cons (.bi .int (.cons (.var 7) .nil)) .nil)))) .nil) .nil) .nil)
def l43_1 : DSs := (.cons (.set 6 (.op .fdiv (.op .sub (.op .mul (.op .mul (.const (.int 2)) (.idx (.var 2) (.const (.int 0)))) (.var 1)) (.idx (.var 2) (.const (.int 1)))) (.op .mul (.const (.int 2)) (.idx (.var 2) (.const (.int 1)))))) (.cons (.forr (.nm 7) (.seq (.tup (.cons (.var 6) (.cons (.op .add (.var 6) (.const (.int 1))) .nil)))) l43_0) .nil))
def b43 : DSs := (.cons (.unp (.tup (.cons (.nm 2) (.cons (.nm 3) (.cons (.nm 4) (.cons (.nm 5) .nil))))) (.var 0)) (.cons (.forr (.nm 1) (.rng (.cons (.const (.int 1)) (.cons (.ite (.tv (.cmp .ne (.var 2) (.var 4))) (.const (.int 2000)) (.op .add (.const (.int 1)) (.idx (.var 2) (.const (.int 1))))) .nil))) l43_1) (.cons (.ret (.const .non)) .nil)))
/-- _law_halves(stretch, cut); slots 0=stretch 1=cut 2=found 3=low 4=is_low 5=high 6=is_high -/
def b44 : DSs := (.cons (.unp (.tup (.cons (.nm 3) (.cons (.nm 4) (.cons (.nm 5) (.cons (.nm 6) .nil))))) (.var 0)) (.cons (.set 2 (.ite (.tv (.cmp .lt (.op .mul (.idx (.var 3) (.const (.int 0))) (.idx (.var 1) (.const (.int 1)))) (.op .mul (.idx (.var 1) (.const (.int 0))) (.idx (.var 3) (.const (.int 1)))))) (.lst (.cons (.tup (.cons (.var 3) (.cons (.var 4) (.cons (.var 1) (.cons (.const (.bl false)) .nil))))) .nil)) (.lst .nil))) (.cons (.ret (.op .add (.var 2) (.ite (.tv (.cmp .lt (.op .mul (.idx (.var 1) (.const (.int 0))) (.idx (.var 5) (.const (.int 1)))) (.op .mul (.idx (.var 5) (.const (.int 0))) (.idx (.var 1) (.const (.int 1)))))) (.lst (.cons (.tup (.cons (.var 1) (.cons (.const (.bl false)) (.cons (.var 5) (.cons (.var 6) .nil))))) .nil)) (.lst .nil)))) .nil)))
/-- _law_is_shown(stretch, value); slots 0=stretch 1=value 2=wide 3=parts 4=first 5=tops 6=size 7=top 8=one 9=part 10=up 11=low -/
def c45_0 : DX := .comp [10, 11] (.tup (.cons (.nm 10) (.cons (.nm 11) .nil))) (.seq (.var 5)) .yes (.tup (.cons (.var 11) (.cons (.var 10) .nil)))
def c45_1 : DX := .comp [9, 8] (.tup (.cons (.nm 9) (.cons (.nm 8) .nil))) (.zip (.var 3) (.sli (.idx (.var 1) (.const (.int 2))) (.some (.const (.int 1))) .none)) .yes (.call 33 (.cons (.var 9) (.cons (.idx (.var 8) (.const (.int 0))) (.cons (.idx (.var 8) (.const (.int 1))) .nil))))
def c45_2 : DX := .comp [8] (.nm 8) (.seq (.sli (.idx (.var 1) (.const (.int 2))) (.some (.const (.int 1))) .none)) .yes (.idx (.var 8) (.const (.int 0)))
def c45_3 : DX := .comp [8] (.nm 8) (.seq (.idx (.var 1) (.const (.int 2)))) .yes (.and (.bi (.isinst "tuple") (.cons (.var 8) .nil)) (.cmp .eq (.bi .len (.cons (.var 8) .nil)) (.const (.int 2))))
def c45_4 : DX := .comp [9] (.nm 9) (.seq (.sli (.var 1) .none (.some (.const (.int 2))))) .yes (.call 32 (.cons (.var 9) .nil))
def b45 : DSs := (.cons (.set 2 (.call 42 (.cons (.var 0) .nil))) (.cons (.ite (.tv (.cmp .is (.var 1) (.const .non))) (.cons (.ret (.and (.cmp .eq (.idx (.var 2) (.const (.int 0))) (.idx (.var 2) (.const (.int 2)))) (.cmp .eq (.op .mod (.idx (.idx (.var 2) (.const (.int 0))) (.const (.int 0))) (.const (.int 2))) (.const (.int 0))))) .nil) .nil) (.cons (.ite (.or (.not (.tv (.bi (.isinst "tuple") (.cons (.var 1) .nil)))) (.or (.tv (.cmp .ne (.bi .len (.cons (.var 1) .nil)) (.const (.int 3)))) (.not (.tv (.bi .all (.cons c45_4 .nil)))))) (.cons (.ret (.const (.bl false))) .nil) .nil) (.cons (.ite (.or (.not (.tv (.bi (.isinst "tuple") (.cons (.idx (.var 1) (.const (.int 2))) .nil)))) (.tv (.cmp .eq (.idx (.var 1) (.const (.int 2))) (.tup .nil)))) (.cons (.ret (.const (.bl false))) .nil) .nil) (.cons (.ite (.not (.tv (.bi .all (.cons c45_3 .nil)))) (.cons (.ret (.const (.bl false))) .nil) .nil) (.cons (.ite (.not (.tv (.call 33 (.cons (.var 2) (.cons (.idx (.idx (.idx (.var 1) (.const (.int 2))) (.const (.int 0))) (.const (.int 0))) (.cons (.idx (.idx (.idx (.var 1) (.const (.int 2))) (.const (.int 0))) (.const (.int 1))) .nil)))))) (.cons (.ret (.const (.bl false))) .nil) .nil) (.cons (.par [(4, false), (5, false)] (.cons (.idx (.idx (.idx (.var 1) (.const (.int 2))) (.const (.int 0))) (.const (.int 0))) (.cons c45_2 .nil))) (.cons (.ite (.tv (.cmp .eq (.bi .len (.cons (.idx (.var 1) (.const (.int 2))) .nil)) (.const (.int 1)))) (.cons (.ret (.and (.cmp .eq (.op .mod (.idx (.var 4) (.const (.int 0))) (.const (.int 2))) (.const (.int 1))) (.cmp .eq (.tup (.cons (.idx (.var 4) (.const (.int 1))) (.cons (.op .fdiv (.idx (.var 4) (.const (.int 0))) (.const (.int 2))) .nil))) (.sli (.var 1) .none (.some (.const (.int 2))))))) .nil) .nil) (.cons (.set 3 (.call 44 (.cons (.var 2) (.cons (.var 4) .nil)))) (.cons (.ite (.or (.tv (.cmp .eq (.op .mod (.idx (.var 4) (.const (.int 0))) (.const (.int 2))) (.const (.int 1)))) (.tv (.cmp .ne (.bi .len (.cons (.var 3) .nil)) (.bi .len (.cons (.var 5) .nil))))) (.cons (.ret (.const (.bl false))) .nil) .nil) (.cons (.ite (.not (.tv (.bi .all (.cons c45_1 .nil)))) (.cons (.ret (.const (.bl false))) .nil) .nil) (.cons (.unp (.tup (.cons (.nm 6) (.cons (.nm 7) .nil))) (.idx (.bi .sorted (.cons c45_0 .nil)) (.const (.int 0)))) (.cons (.ret (.and (.cmp .eq (.op .mod (.var 7) (.const (.int 2))) (.const (.int 1))) (.cmp .eq (.tup (.cons (.var 6) (.cons (.op .fdiv (.var 7) (.const (.int 2))) .nil))) (.sli (.var 1) .none (.some (.const (.int 2))))))) .nil)))))))))))))
/-- _law_right(pot); slots 0=pot 1=stretch 2=values 3=value 4=due 5=told 6=lap -/
def l46_0 : DSs := (.cons (.ite (.tv (.cmp .ne (.bi .repr (.cons (.call 41 (.cons (.var 1) (.cons (.var 3) .nil))) .nil)) (.bi .repr (.cons (.call 45 (.cons (.var 1) (.cons (.var 3) .nil))) .nil)))) (.cons (.ret (.const (.bl false))) .nil) .nil) .nil)
def c46_0 : DX := .comp [6] (.nm 6) (.rng (.cons (.const (.int 6)) .nil)) .yes (.call 27 (.cons (.var 0) (.cons (.var 5) .nil)))
def b46 : DSs := (.cons (.set 1 (.call 30 (.cons (.var 0) (.cons (.const (.int 30)) .nil)))) (.cons (.unp (.tup (.cons (.nm 4) (.cons (.nm 5) .nil))) (.tup (.cons (.call 43 (.cons (.var 1) .nil)) (.cons (.call 38 (.cons (.var 1) .nil)) .nil)))) (.cons (.ite (.or (.tv (.cmp .ne (.bi .repr (.cons (.ite (.tv (.cmp .is (.var 5) (.const .non))) (.var 5) (.sli (.var 5) .none (.some (.const (.int 2))))) .nil)) (.bi .repr (.cons (.var 4) .nil)))) (.not (.tv (.call 45 (.cons (.var 1) (.cons (.var 5) .nil)))))) (.cons (.ret (.const (.bl false))) .nil) .nil) (.cons (.own 2 (.lst (.cons (.var 5) (.cons (.const .non) (.cons (.tup .nil) (.cons (.call 26 (.cons (.var 0) .nil)) (.cons (.tup (.cons (.const (.int 1)) (.cons (.const (.int 0)) (.cons (.tup .nil) .nil)))) (.cons (.tup (.cons (.const (.int 1)) (.cons (.const (.int 0)) (.cons (.tup (.cons (.tup (.cons (.tup (.cons (.const (.int 1)) (.cons (.const (.int 1)) .nil))) (.cons (.tup .nil) .nil))) .nil)) .nil)))) (.cons (.call 38 (.cons (.call 30 (.cons (.var 0) (.cons (.const (.int 9)) .nil))) .nil)) .nil))))))))) (.cons (.ite (.tv (.cmp .isnot (.var 5) (.const .non))) (.cons (.ext 2 (.lst (.cons (.rev (.var 5)) (.cons (.bi .list (.cons (.var 5) .nil)) (.cons (.sli (.var 5) .none (.some (.const (.int 2)))) .nil))))) (.cons (.ext 2 (.lst (.cons (.op .add (.tup (.cons (.op .add (.idx (.var 5) (.const (.int 0))) (.const (.int 1))) .nil)) (.sli (.var 5) (.some (.const (.int 1))) .none)) (.cons (.op .add (.op .add (.sli (.var 5) .none (.some (.const (.int 1)))) (.tup (.cons (.op .add (.idx (.var 5) (.const (.int 1))) (.const (.int 1))) .nil))) (.sli (.var 5) (.some (.const (.int 2))) .none)) .nil)))) (.cons (.ext 2 (.lst (.cons (.op .add (.sli (.var 5) .none (.some (.const (.int 2)))) (.tup (.cons (.sli (.idx (.var 5) (.const (.int 2))) .none (.some (.const (.int 1)))) .nil))) (.cons (.op .add (.sli (.var 5) .none (.some (.const (.int 2)))) (.tup (.cons (.op .add (.idx (.var 5) (.const (.int 2))) (.sli (.idx (.var 5) (.const (.int 2))) (.some (.neg (.const (.int 1)))) .none)) .nil))) (.cons (.op .add (.sli (.var 5) .none (.some (.const (.int 2)))) (.tup (.cons (.rev (.idx (.var 5) (.const (.int 2)))) .nil))) .nil))))) (.cons (.ext 2 c46_0) .nil)))) .nil) (.cons (.forr (.nm 3) (.seq (.var 2)) l46_0) (.cons (.ret (.const (.bl true))) .nil)))))))
/-- law(script); slots 0=script 1=place 2=pot 3=lap -/
def c47_0 : DX := .comp [3] (.nm 3) (.rng (.cons (.const (.int 6)) .nil)) .yes (.call 46 (.cons (.var 2) .nil))
def l47_0 : DSs := (.cons (.set 2 (.call 22 (.cons (.var 0) (.cons (.var 1) .nil)))) (.cons (.ite (.not (.tv (.bi .all (.cons c47_0 .nil)))) (.cons (.ret (.const (.bl false))) .nil) .nil) .nil))
def b47 : DSs := (.cons (.forr (.nm 1) (.seq (.call 25 (.cons (.var 0) (.cons (.const (.int 3)) .nil)))) l47_0) (.cons (.ret (.const (.bl true))) .nil))
def f0 : Fn1 := ⟨"is_integer", [("value" : Str)], [("value" : Str)], b0⟩
def f1 : Fn1 := ⟨"common", [("one" : Str), ("other" : Str)], [("one" : Str), ("other" : Str)], b1⟩
def f2 : Fn1 := ⟨"reduced", [("top" : Str), ("low" : Str)], [("top" : Str), ("low" : Str), ("by" : Str)], b2⟩
def f3 : Fn1 := ⟨"is_fraction", [("value" : Str)], [("value" : Str), ("part" : Str)], b3⟩
def f4 : Fn1 := ⟨"is_told_fraction", [("value" : Str)], [("value" : Str)], b4⟩
def f5 : Fn1 := ⟨"difference", [("one" : Str), ("other" : Str)], [("one" : Str), ("other" : Str)], b5⟩
def f6 : Fn1 := ⟨"quotient", [("one" : Str), ("other" : Str)], [("one" : Str), ("other" : Str)], b6⟩
def f7 : Fn1 := ⟨"is_less", [("one" : Str), ("other" : Str)], [("one" : Str), ("other" : Str)], b7⟩
def f8 : Fn1 := ⟨"floor_of", [("one" : Str)], [("one" : Str)], b8⟩
def f9 : Fn1 := ⟨"is_stretch", [("value" : Str)], [("value" : Str), ("at" : Str)], b9⟩
def f10 : Fn1 := ⟨"check_stretch", [("stretch" : Str)], [("stretch" : Str)], b10⟩
def f11 : Fn1 := ⟨"is_inside", [("stretch" : Str), ("one" : Str)], [("stretch" : Str), ("one" : Str), ("low" : Str), ("is_low" : Str), ("high" : Str), ("is_high" : Str)], b11⟩
def f12 : Fn1 := ⟨"simplest_of", [("stretch" : Str)], [("stretch" : Str), ("lap" : Str), ("found" : Str), ("whole" : Str), ("wholes" : Str), ("first" : Str), ("left" : Str), ("rest" : Str), ("far" : Str), ("low" : Str), ("is_low" : Str), ("high" : Str), ("is_high" : Str)], b12⟩
def f13 : Fn1 := ⟨"parents_of", [("one" : Str)], [("one" : Str), ("left" : Str), ("right" : Str), ("rest" : Str), ("is_right" : Str), ("times" : Str), ("whole" : Str), ("top" : Str)], b13⟩
def f14 : Fn1 := ⟨"with_parents", [("one" : Str)], [("one" : Str)], b14⟩
def f18 : Fn1 := ⟨"are_parents", [("value" : Str)], [("value" : Str), ("one" : Str), ("part" : Str)], b18⟩
def f19 : Fn1 := ⟨"is_simplest", [("stretch" : Str), ("value" : Str)], [("stretch" : Str), ("value" : Str), ("paper" : Str), ("top" : Str), ("low" : Str), ("one" : Str), ("by" : Str), ("other" : Str), ("its" : Str)], b19⟩
def f22 : Fn1 := ⟨"_law_pot", [("script" : Str), ("place" : Str)], [("script" : Str), ("place" : Str), ("cell" : Str), ("own" : Str), ("small" : Str)], b22⟩
def f23 : Fn1 := ⟨"_law_take", [("pot" : Str), ("upto" : Str)], [("pot" : Str), ("upto" : Str), ("prime" : Str), ("mixed" : Str), ("digit" : Str)], b23⟩
def f24 : Fn1 := ⟨"_law_of", [("pot" : Str), ("some" : Str)], [("pot" : Str), ("some" : Str)], b24⟩
def f25 : Fn1 := ⟨"_law_cells", [("script" : Str), ("limit" : Str)], [("script" : Str), ("limit" : Str)], b25⟩
def f26 : Fn1 := ⟨"_law_odd", [("pot" : Str)], [("pot" : Str), ("some" : Str)], b26⟩
def f27 : Fn1 := ⟨"_law_bent", [("pot" : Str), ("value" : Str)], [("pot" : Str), ("value" : Str), ("at" : Str), ("some" : Str)], b27⟩
def f28 : Fn1 := ⟨"_law_cut", [("top" : Str), ("low" : Str)], [("top" : Str), ("low" : Str), ("one" : Str), ("other" : Str)], b28⟩
def f29 : Fn1 := ⟨"_law_is_in", [("stretch" : Str), ("top" : Str), ("low" : Str)], [("stretch" : Str), ("top" : Str), ("low" : Str), ("here" : Str), ("is_low" : Str), ("there" : Str), ("is_high" : Str), ("left" : Str), ("right" : Str)], b29⟩
def f30 : Fn1 := ⟨"_law_stretch", [("pot" : Str), ("most" : Str)], [("pot" : Str), ("most" : Str), ("low" : Str), ("top" : Str), ("wide" : Str), ("here" : Str), ("there" : Str)], b30⟩
def f32 : Fn1 := ⟨"_law_is_whole", [("value" : Str)], [("value" : Str)], b32⟩
def f33 : Fn1 := ⟨"_law_is_paper", [("stretch" : Str), ("fraction" : Str), ("paper" : Str)], [("stretch" : Str), ("fraction" : Str), ("paper" : Str), ("one" : Str), ("top" : Str), ("low" : Str), ("by" : Str), ("other" : Str), ("its" : Str), ("part" : Str)], b33⟩
def f34 : Fn1 := ⟨"product_of", [("one" : Str), ("other" : Str)], [("one" : Str), ("other" : Str)], b34⟩
def f35 : Fn1 := ⟨"halves_of", [("stretch" : Str), ("cut" : Str)], [("stretch" : Str), ("cut" : Str), ("found" : Str), ("low" : Str), ("is_low" : Str), ("high" : Str), ("is_high" : Str)], b35⟩
def f36 : Fn1 := ⟨"twice", [("stretch" : Str)], [("stretch" : Str), ("low" : Str), ("is_low" : Str), ("high" : Str), ("is_high" : Str)], b36⟩
def f37 : Fn1 := ⟨"middle_told", [("stretch" : Str)], [("stretch" : Str), ("wide" : Str), ("found" : Str), ("some" : Str), ("size" : Str), ("top" : Str), ("part" : Str), ("one" : Str)], b37⟩
def f38 : Fn1 := ⟨"middle_size", [("stretch" : Str)], [("stretch" : Str)], b38⟩
def f39 : Fn1 := ⟨"are_beside", [("stretch" : Str), ("value" : Str)], [("stretch" : Str), ("value" : Str), ("parts" : Str), ("part" : Str), ("one" : Str)], b39⟩
def f40 : Fn1 := ⟨"is_middle_told", [("stretch" : Str), ("value" : Str)], [("stretch" : Str), ("value" : Str), ("wide" : Str), ("papers" : Str), ("tops" : Str), ("size" : Str), ("top" : Str), ("one" : Str)], b40⟩
def f41 : Fn1 := ⟨"shows_middle_size", [("stretch" : Str), ("value" : Str)], [("stretch" : Str), ("value" : Str)], b41⟩
def f42 : Fn1 := ⟨"_law_twice", [("stretch" : Str)], [("stretch" : Str), ("low" : Str), ("is_low" : Str), ("high" : Str), ("is_high" : Str)], b42⟩
def f43 : Fn1 := ⟨"_law_middle", [("stretch" : Str)], [("stretch" : Str), ("size" : Str), ("low" : Str), ("is_low" : Str), ("high" : Str), ("is_high" : Str), ("first" : Str), ("number" : Str)], b43⟩
def f44 : Fn1 := ⟨"_law_halves", [("stretch" : Str), ("cut" : Str)], [("stretch" : Str), ("cut" : Str), ("found" : Str), ("low" : Str), ("is_low" : Str), ("high" : Str), ("is_high" : Str)], b44⟩
def f45 : Fn1 := ⟨"_law_is_shown", [("stretch" : Str), ("value" : Str)], [("stretch" : Str), ("value" : Str), ("wide" : Str), ("parts" : Str), ("first" : Str), ("tops" : Str), ("size" : Str), ("top" : Str), ("one" : Str), ("part" : Str), ("up" : Str), ("low" : Str)], b45⟩
def f46 : Fn1 := ⟨"_law_right", [("pot" : Str)], [("pot" : Str), ("stretch" : Str), ("values" : Str), ("value" : Str), ("due" : Str), ("told" : Str), ("lap" : Str)], b46⟩
def f47 : Fn1 := ⟨"law", [("script" : Str)], [("script" : Str), ("place" : Str), ("pot" : Str), ("lap" : Str)], b47⟩
def tab : List Fn1 := [f0, f1, f2, f3, f4, f5, f6, f7, f8, f9, f10, f11, f12, f13, f14, f0, f0, f0, f18, f19, f0, f0, f22, f23, f24, f25, f26, f27, f28, f29, f30, f0, f32, f33, f34, f35, f36, f37, f38, f39, f40, f41, f42, f43, f44, f45, f46, f47]
def ck : List (Str × D) := [("BEYOND", (.int 1000000000000000000000000000000000000000000000000000000000000000000000000000000000000000000000000000000000000000000000000000000000000000000000000000000000000000000000000000000000000000000000000000000000000000000000000000000000000000000000000000000000000000000000000000000000000000000000000000000000000)), ("NOTHING", (.tup [(.int 0), (.int 1)])), ("ONE", (.tup [(.int 1), (.int 1)])), ("MOST_PARTS", (.int 1000000)), ("TWO", (.tup [(.int 2), (.int 1)]))]
abbrev row : PySem.W.OpenLaw := PySem.Challenge.rw_whatthepicturesays_k84_whole_middles_of
def top (i : Nat) : Stmt := row.prog.main.body.getD i (.Pass ⟨0, 0, 0, 0⟩)
def dd (x : Str) (i : Nat) : He.DefD := ⟨(x, none), x, x, defArgs (top i), defBody (top i), defScope (top i), [], []⟩
def fc : Fc := ⟨["len", "abs", "int", "min", "max", "list", "tuple", "all", "any", "sum", "repr", "str", "isinstance", "bool", "dict", "range", "zip", "enumerate", "sorted"], ck, [("gcd", "math.gcd")], [dd "is_integer" 8, dd "common" 9, dd "reduced" 10, dd "is_fraction" 11, dd "is_told_fraction" 12, dd "difference" 13, dd "quotient" 15, dd "is_less" 16, dd "floor_of" 17, dd "is_stretch" 21, dd "check_stretch" 22, dd "is_inside" 23, dd "simplest_of" 24, dd "parents_of" 25, dd "with_parents" 26, dd "is_integer" 8, dd "is_integer" 8, dd "is_integer" 8, dd "are_parents" 31, dd "is_simplest" 32, dd "is_integer" 8, dd "is_integer" 8, dd "_law_pot" 37, dd "_law_take" 38, dd "_law_of" 39, dd "_law_cells" 40, dd "_law_odd" 41, dd "_law_bent" 42, dd "_law_cut" 43, dd "_law_is_in" 44, dd "_law_stretch" 45, dd "is_integer" 8, dd "_law_is_whole" 46, dd "_law_is_paper" 47, dd "product_of" 14, dd "halves_of" 27, dd "twice" 28, dd "middle_told" 29, dd "middle_size" 30, dd "are_beside" 33, dd "is_middle_told" 34, dd "shows_middle_size" 35, dd "_law_twice" 48, dd "_law_middle" 49, dd "_law_halves" 50, dd "_law_is_shown" 51, dd "_law_right" 52, dd "law" 53]⟩
-- law at 53, function 47
-- functions 0=is_integer 1=common 2=reduced 3=is_fraction 4=is_told_fraction 5=difference 6=quotient 7=is_less 8=floor_of 9=is_stretch 10=check_stretch 11=is_inside 12=simplest_of 13=parents_of 14=with_parents 18=are_parents 19=is_simplest 22=_law_pot 23=_law_take 24=_law_of 25=_law_cells 26=_law_odd 27=_law_bent 28=_law_cut 29=_law_is_in 30=_law_stretch 32=_law_is_whole 33=_law_is_paper 34=product_of 35=halves_of 36=twice 37=middle_told 38=middle_size 39=are_beside 40=is_middle_told 41=shows_middle_size 42=_law_twice 43=_law_middle 44=_law_halves 45=_law_is_shown 46=_law_right 47=law
-- imports at [0]
-- names ['__name__', 'PictureError', 'BadStretch', 'BEYOND', 'NOTHING', 'ONE', 'is_integer', 'common', 'reduced', 'is_fraction', 'is_told_fraction', 'difference', 'product_of', 'quotient', 'is_less', 'floor_of', 'TWO', 'MOST_PARTS', 'is_stretch', 'check_stretch', 'is_inside', 'simplest_of', 'parents_of', 'with_parents', 'halves_of', 'twice', 'middle_told', 'middle_size', 'are_parents', 'is_simplest', 'are_beside', 'is_middle_told', 'shows_middle_size', '_law_pot', '_law_take', '_law_of', '_law_cells', '_law_odd', '_law_bent', '_law_cut', '_law_is_in', '_law_stretch', '_law_is_whole', '_law_is_paper', '_law_twice', '_law_middle', '_law_halves', '_law_is_shown', '_law_right', 'law']
-- check_stretch: ['raise BadStretch(stretch)']

noncomputable abbrev F (k i : Nat) := FF tab fc.ck k i
noncomputable abbrev E (k : Nat) : Gv := gvOf fc.ck (FF tab fc.ck k)
theorem ff0 (k : Nat) (ds : List D) (m : List (List D)) : F (k + 1) 0 ds m = runB (E k) 1 b0 ds m := rfl
theorem ff1 (k : Nat) (ds : List D) (m : List (List D)) : F (k + 1) 1 ds m = runB (E k) 2 b1 ds m := rfl
theorem ff2 (k : Nat) (ds : List D) (m : List (List D)) : F (k + 1) 2 ds m = runB (E k) 3 b2 ds m := rfl
theorem ff3 (k : Nat) (ds : List D) (m : List (List D)) : F (k + 1) 3 ds m = runB (E k) 2 b3 ds m := rfl
theorem ff4 (k : Nat) (ds : List D) (m : List (List D)) : F (k + 1) 4 ds m = runB (E k) 1 b4 ds m := rfl
theorem ff5 (k : Nat) (ds : List D) (m : List (List D)) : F (k + 1) 5 ds m = runB (E k) 2 b5 ds m := rfl
theorem ff6 (k : Nat) (ds : List D) (m : List (List D)) : F (k + 1) 6 ds m = runB (E k) 2 b6 ds m := rfl
theorem ff7 (k : Nat) (ds : List D) (m : List (List D)) : F (k + 1) 7 ds m = runB (E k) 2 b7 ds m := rfl
theorem ff8 (k : Nat) (ds : List D) (m : List (List D)) : F (k + 1) 8 ds m = runB (E k) 1 b8 ds m := rfl
theorem ff9 (k : Nat) (ds : List D) (m : List (List D)) : F (k + 1) 9 ds m = runB (E k) 2 b9 ds m := rfl
theorem ff10 (k : Nat) (ds : List D) (m : List (List D)) : F (k + 1) 10 ds m = runB (E k) 1 b10 ds m := rfl
theorem ff11 (k : Nat) (ds : List D) (m : List (List D)) : F (k + 1) 11 ds m = runB (E k) 6 b11 ds m := rfl
theorem ff12 (k : Nat) (ds : List D) (m : List (List D)) : F (k + 1) 12 ds m = runB (E k) 13 b12 ds m := rfl
theorem ff13 (k : Nat) (ds : List D) (m : List (List D)) : F (k + 1) 13 ds m = runB (E k) 8 b13 ds m := rfl
theorem ff14 (k : Nat) (ds : List D) (m : List (List D)) : F (k + 1) 14 ds m = runB (E k) 1 b14 ds m := rfl
theorem ff18 (k : Nat) (ds : List D) (m : List (List D)) : F (k + 1) 18 ds m = runB (E k) 3 b18 ds m := rfl
theorem ff19 (k : Nat) (ds : List D) (m : List (List D)) : F (k + 1) 19 ds m = runB (E k) 9 b19 ds m := rfl
theorem ff22 (k : Nat) (ds : List D) (m : List (List D)) : F (k + 1) 22 ds m = runB (E k) 5 b22 ds m := rfl
theorem ff23 (k : Nat) (ds : List D) (m : List (List D)) : F (k + 1) 23 ds m = runB (E k) 5 b23 ds m := rfl
theorem ff24 (k : Nat) (ds : List D) (m : List (List D)) : F (k + 1) 24 ds m = runB (E k) 2 b24 ds m := rfl
theorem ff25 (k : Nat) (ds : List D) (m : List (List D)) : F (k + 1) 25 ds m = runB (E k) 2 b25 ds m := rfl
theorem ff26 (k : Nat) (ds : List D) (m : List (List D)) : F (k + 1) 26 ds m = runB (E k) 2 b26 ds m := rfl
theorem ff27 (k : Nat) (ds : List D) (m : List (List D)) : F (k + 1) 27 ds m = runB (E k) 4 b27 ds m := rfl
theorem ff28 (k : Nat) (ds : List D) (m : List (List D)) : F (k + 1) 28 ds m = runB (E k) 4 b28 ds m := rfl
theorem ff29 (k : Nat) (ds : List D) (m : List (List D)) : F (k + 1) 29 ds m = runB (E k) 9 b29 ds m := rfl
theorem ff30 (k : Nat) (ds : List D) (m : List (List D)) : F (k + 1) 30 ds m = runB (E k) 7 b30 ds m := rfl
theorem ff32 (k : Nat) (ds : List D) (m : List (List D)) : F (k + 1) 32 ds m = runB (E k) 1 b32 ds m := rfl
theorem ff33 (k : Nat) (ds : List D) (m : List (List D)) : F (k + 1) 33 ds m = runB (E k) 10 b33 ds m := rfl
theorem ff34 (k : Nat) (ds : List D) (m : List (List D)) : F (k + 1) 34 ds m = runB (E k) 2 b34 ds m := rfl
theorem ff35 (k : Nat) (ds : List D) (m : List (List D)) : F (k + 1) 35 ds m = runB (E k) 7 b35 ds m := rfl
theorem ff36 (k : Nat) (ds : List D) (m : List (List D)) : F (k + 1) 36 ds m = runB (E k) 5 b36 ds m := rfl
theorem ff37 (k : Nat) (ds : List D) (m : List (List D)) : F (k + 1) 37 ds m = runB (E k) 8 b37 ds m := rfl
theorem ff38 (k : Nat) (ds : List D) (m : List (List D)) : F (k + 1) 38 ds m = runB (E k) 1 b38 ds m := rfl
theorem ff39 (k : Nat) (ds : List D) (m : List (List D)) : F (k + 1) 39 ds m = runB (E k) 5 b39 ds m := rfl
theorem ff40 (k : Nat) (ds : List D) (m : List (List D)) : F (k + 1) 40 ds m = runB (E k) 8 b40 ds m := rfl
theorem ff41 (k : Nat) (ds : List D) (m : List (List D)) : F (k + 1) 41 ds m = runB (E k) 2 b41 ds m := rfl
theorem ff42 (k : Nat) (ds : List D) (m : List (List D)) : F (k + 1) 42 ds m = runB (E k) 5 b42 ds m := rfl
theorem ff43 (k : Nat) (ds : List D) (m : List (List D)) : F (k + 1) 43 ds m = runB (E k) 8 b43 ds m := rfl
theorem ff44 (k : Nat) (ds : List D) (m : List (List D)) : F (k + 1) 44 ds m = runB (E k) 7 b44 ds m := rfl
theorem ff45 (k : Nat) (ds : List D) (m : List (List D)) : F (k + 1) 45 ds m = runB (E k) 12 b45 ds m := rfl
theorem ff46 (k : Nat) (ds : List D) (m : List (List D)) : F (k + 1) 46 ds m = runB (E k) 7 b46 ds m := rfl
theorem ff47 (k : Nat) (ds : List D) (m : List (List D)) : F (k + 1) 47 ds m = runB (E k) 4 b47 ds m := rfl
end K84
end

section
set_option Elab.async false
set_option linter.all false
set_option autoImplicit false
set_option maxRecDepth 100000
set_option maxHeartbeats 4000000
namespace K84
open PySem PySem.Spec L2 DL
theorem okt : okTab fc tab true = true := by kernel_rfl
end K84
end

section
set_option Elab.async false
set_option linter.all false
set_option autoImplicit false
set_option maxRecDepth 100000
set_option maxHeartbeats 1000000
namespace K84
open PySem PySem.Spec L2 DL
/-! ### each function's body -/
theorem EF (k i : Nat) : (E k).F i = F k i := rfl
theorem EC0 (k : Nat) : (E k).C 0 = some (.int (10 ^ 300)) := by rw [show (10 : Int) ^ 300 = ((10 ^ 60) ^ 5 : Int) by rw [← Int.pow_mul]]; rfl
theorem EC1 (k : Nat) : (E k).C 1 = some (.tup [.int 0, .int 1]) := rfl
theorem EC2 (k : Nat) : (E k).C 2 = some (.tup [.int 1, .int 1]) := rfl
theorem EC3 (k : Nat) : (E k).C 3 = some (.int 1000000) := rfl
/-! ### the functions, one behind another -/
def isI : D → Bool
  | .int _ => true | _ => false
theorem v0 (k : Nat) (v : D) (m : List (List D)) : F (k + 1) 0 [v] m = .ok (.bl (isI v)) m := by
  rw [ff0]
  unfold b0
  cases v <;> simp [runB, evSs, evS, ev, evs, evo, evit, tst, rdv, peek, peekR, rderef, biD, isTy, truth, cmD, isVar, seqOf, itemsOf, idxD, atI, ixN, sizeLine_eq, setV, asg, asgs, DL.isNon, lseqOf, blsOf, isI]
theorem v1 (k : Nat) (a b : Int) (m : List (List D)) : F (k + 1) 1 [.int a, .int b] m = .ok (.int ((Nat.gcd a.natAbs b.natAbs : Nat) : Int)) m := by
  rw [ff1]
  unfold b1
  simp [runB, evSs, evS, ev, evs, evo, evit, tst, rdv, peek, peekR, rderef, biD, isTy, truth, cmD, isVar, seqOf, itemsOf, idxD, atI, ixN, sizeLine_eq, setV, asg, asgs, DL.isNon, lseqOf, blsOf]
theorem v2 (k : Nat) (a b : Int) (m : List (List D)) (h : 0 < b) (hb : Bt b 9000) : F (k + 2) 2 [.int a, .int b] m = .ok (.tup [.int (a / (Nat.gcd a.natAbs b.natAbs : Nat)), .int (b / (Nat.gcd a.natAbs b.natAbs : Nat))]) m := by
  rw [ff2]
  have g0 : (0 : Int) < (Nat.gcd a.natAbs b.natAbs : Nat) := by
    have : 0 < Nat.gcd a.natAbs b.natAbs := Nat.gcd_pos_of_pos_right _ (by omega)
    omega
  have g1 : ((Nat.gcd a.natAbs b.natAbs : Nat) : Int) ≤ b := by
    have := Nat.gcd_le_right a.natAbs (show 0 < b.natAbs by omega)
    omega
  have gb : Bt (Nat.gcd a.natAbs b.natAbs : Nat) 9000 := bt_le hb (by omega) (by omega) g1
  unfold b2
  simp [runB, evSs, evS, ev, evs, evo, evit, tst, rdv, peek, peekR, rderef, biD, isTy, truth, cmD, isVar, seqOf, itemsOf, idxD, atI, ixN, sizeLine_eq, setV, asg, asgs, DL.isNon, lseqOf, blsOf, EF, v1, h, fdiv_ok g0 gb]
def isFr : D → Bool
  | .tup [.int a, .int b] => decide (1 ≤ b) && decide (Nat.gcd a.natAbs b.natAbs = 1)
  | _ => false
theorem call0 (k f : Nat) (i : Nat) (s : S) (d : D) (r : D) (hs : s.r[i]? = some (some (.val d))) (h : F k f [d] s.m = .ok r s.m) : ev (E k) (.call f (.cons (.var i) .nil)) s = .ok r s := by
  have e : rdv i s = .ok d s := by unfold rdv; rw [hs]
  simp [ev, evs, e, EF, h]
theorem v3 (k : Nat) (v : D) (m : List (List D)) : F (k + 2) 3 [v] m = .ok (.bl (isFr v)) m := by
  rw [ff3]
  have hall : ∀ x y : D, ev (E (k + 1)) c3_0 ⟨[some (.val (.tup [x, y])), none], m⟩ = .ok (.lst [.bl (isI x), .bl (isI y)]) ⟨[some (.val (.tup [x, y])), none], m⟩ := fun x y => by
    unfold c3_0
    rw [comp1 (ds := [x, y]) (g := fun d => .bl (isI d))]
    · simp
    · simp [evit, ev, rdv, itemsOf]
    · simp
    · simp [plainAt]
    · simp [sizeLine_eq]
    · intro d hd
      exact call0 _ _ _ _ _ _ (by simp) (v0 k d m)
  unfold b3
  cases v with
  | tup ds =>
    match ds with
    | [x, y] =>
      simp [runB, evSs, evS, ev, evs, evo, evit, tst, rdv, peek, peekR, rderef, biD, isTy, truth, cmD, isVar, seqOf, itemsOf, idxD, atI, ixN, sizeLine_eq, setV, asg, asgs, DL.isNon, lseqOf, blsOf, hall, lseqOf, blsOf]
      cases x <;> cases y <;> simp [isI, isFr]
      rename_i a b
      by_cases h : 1 ≤ b
      · simp [runB, evSs, evS, ev, evs, evo, evit, tst, rdv, peek, peekR, rderef, biD, isTy, truth, cmD, isVar, seqOf, itemsOf, idxD, atI, ixN, sizeLine_eq, setV, asg, asgs, DL.isNon, lseqOf, blsOf, EF, v1, h]
        omega
      · simp [runB, evSs, evS, ev, evs, evo, evit, tst, rdv, peek, peekR, rderef, biD, isTy, truth, cmD, isVar, seqOf, itemsOf, idxD, atI, ixN, sizeLine_eq, setV, asg, asgs, DL.isNon, lseqOf, blsOf, EF, v1, h]
    | [] => simp [runB, evSs, evS, ev, evs, evo, evit, tst, rdv, peek, peekR, rderef, biD, isTy, truth, cmD, isVar, seqOf, itemsOf, idxD, atI, ixN, sizeLine_eq, setV, asg, asgs, DL.isNon, lseqOf, blsOf, isFr]
    | [x] => simp [runB, evSs, evS, ev, evs, evo, evit, tst, rdv, peek, peekR, rderef, biD, isTy, truth, cmD, isVar, seqOf, itemsOf, idxD, atI, ixN, sizeLine_eq, setV, asg, asgs, DL.isNon, lseqOf, blsOf, isFr]
    | x :: y :: z :: r =>
      have : ((r.length : Int) + 1 + 1 + 1 = 2) = False := by simp; omega
      simp [runB, evSs, evS, ev, evs, evo, evit, tst, rdv, peek, peekR, rderef, biD, isTy, truth, cmD, isVar, seqOf, itemsOf, idxD, atI, ixN, sizeLine_eq, setV, asg, asgs, DL.isNon, lseqOf, blsOf, isFr, this]
  | _ => simp [runB, evSs, evS, ev, evs, evo, evit, tst, rdv, peek, peekR, rderef, biD, isTy, truth, cmD, isVar, seqOf, itemsOf, idxD, atI, ixN, sizeLine_eq, setV, asg, asgs, DL.isNon, lseqOf, blsOf, isFr]
theorem v7 (k : Nat) (a b c d : Int) (m : List (List D)) (h1 : Bt a 90000) (h2 : Bt b 90000) (h3 : Bt c 90000) (h4 : Bt d 90000) : F (k + 1) 7 [.tup [.int a, .int b], .tup [.int c, .int d]] m = .ok (.bl (decide (a * d < c * b))) m := by
  rw [ff7]
  unfold b7
  simp [runB, evSs, evS, ev, evs, evo, evit, tst, rdv, peek, peekR, rderef, biD, isTy, truth, cmD, isVar, seqOf, itemsOf, idxD, atI, ixN, sizeLine_eq, setV, asg, asgs, DL.isNon, lseqOf, blsOf, mul_ok (bt_mono h1 (by omega)) (bt_mono h4 (by omega)), mul_ok (bt_mono h3 (by omega)) (bt_mono h2 (by omega))]
theorem v8 (k : Nat) (a b : Int) (m : List (List D)) (h : 0 < b) (hb : Bt b 9000) : F (k + 1) 8 [.tup [.int a, .int b]] m = .ok (.int (a / b)) m := by
  rw [ff8]
  unfold b8
  simp [runB, evSs, evS, ev, evs, evo, evit, tst, rdv, peek, peekR, rderef, biD, isTy, truth, cmD, isVar, seqOf, itemsOf, idxD, atI, ixN, sizeLine_eq, setV, asg, asgs, DL.isNon, lseqOf, blsOf, fdiv_ok h hb]
/-- a stretch -/
structure Stt where
  a : Int
  b : Int
  il : Bool
  hi : Option (Int × Int)
  ih : Bool
def hiD : Option (Int × Int) → D
  | none => .non
  | some (c, d) => .tup [.int c, .int d]
def Stt.d (s : Stt) : D := .tup [.tup [.int s.a, .int s.b], .bl s.il, hiD s.hi, .bl s.ih]
def Stt.isIn (s : Stt) (p q : Int) : Bool := !(decide (p * s.b < s.a * q) || ((decide (p = s.a) && decide (q = s.b)) && !s.il)) && (match s.hi with
  | none => true
  | some (c, d) => decide (p * d < c * q) || (decide (p = c) && decide (q = d) && s.ih))
structure Stt.Few (s : Stt) : Prop where
  a : Bt s.a 8000
  b : Bt s.b 8000
  c : ∀ c d, s.hi = some (c, d) → Bt c 8000 ∧ Bt d 8000
theorem v11 (k : Nat) (s : Stt) (p q : Int) (m : List (List D)) (hs : s.Few) (hp : Bt p 8000) (hq : Bt q 8000) : F (k + 2) 11 [s.d, .tup [.int p, .int q]] m = .ok (.bl (s.isIn p q)) m := by
  rw [ff11]
  obtain ⟨a, b, il, hi, ih⟩ := s
  have ha := bt_mono hs.a (show 8000 ≤ 90000 by omega)
  have hb := bt_mono hs.b (show 8000 ≤ 90000 by omega)
  have hp := bt_mono hp (show 8000 ≤ 90000 by omega)
  have hq := bt_mono hq (show 8000 ≤ 90000 by omega)
  have hc := hs.c
  simp only at ha hb hc
  have e7 := v7 k p q a b m hp hq ha hb
  have et := eq_tt p q a b
  have en : isNon (hiD none) = true := rfl
  unfold Stt.isIn Stt.d
  simp only
  generalize hA : decide (p * b < a * q) = A at *
  generalize hB : (decide (p = a) && decide (q = b)) = B at *
  unfold b11
  cases hi with
  | none => cases A <;> cases B <;> cases il <;> simp [runB, evSs, evS, ev, evs, evo, evit, tst, rdv, peek, peekR, rderef, biD, isTy, truth, cmD, isVar, seqOf, itemsOf, idxD, atI, ixN, sizeLine_eq, setV, asg, asgs, DL.isNon, lseqOf, blsOf, EF, e7, et, hiD]
  | some cd =>
    obtain ⟨c, d⟩ := cd
    obtain ⟨hc, hd⟩ := hc c d rfl
    have e8 := v7 k p q c d m hp hq (bt_mono hc (by omega)) (bt_mono hd (by omega))
    have eu := eq_tt p q c d
    simp only
    generalize hC : decide (p * d < c * q) = C at *
    generalize hD : (decide (p = c) && decide (q = d)) = Dd at *
    cases A <;> cases B <;> cases il <;> cases C <;> cases Dd <;> simp [runB, evSs, evS, ev, evs, evo, evit, tst, rdv, peek, peekR, rderef, biD, isTy, truth, cmD, isVar, seqOf, itemsOf, idxD, atI, ixN, sizeLine_eq, setV, asg, asgs, DL.isNon, lseqOf, blsOf, EF, e7, et, e8, eu, hiD]
end K84
end

section
set_option Elab.async false
set_option linter.all false
set_option autoImplicit false
set_option maxRecDepth 100000
set_option maxHeartbeats 1000000
namespace K84
open PySem PySem.Spec L2 DL
def gI (a b : Int) : Int := (Nat.gcd a.natAbs b.natAbs : Nat)
def frD (p : Int × Int) : D := .tup [.int p.1, .int p.2]
def red (x y : Int) : Int × Int := (x / gI x y, y / gI x y)
theorem bt_one (n : Nat) (h : 1 < n) : Bt 1 n := bt_of (by
  have : 2 ^ 1 ≤ 2 ^ n := Nat.pow_le_pow_right (by omega) (by omega)
  have e : (1 : Int).natAbs = 1 := rfl
  rw [e]
  omega) (by omega)
theorem v5 (k : Nat) (a b w : Int) (m : List (List D)) (hb : 0 < b) (h1 : Bt a 4000) (h2 : Bt b 4000) (h3 : Bt w 4000) : F (k + 3) 5 [.tup [.int a, .int b], .tup [.int w, .int 1]] m = .ok (frD (red (a - w * b) b)) m := by
  rw [ff5]
  have e2 := v2 k (a * 1 - w * b) (b * 1) m (by omega) (by rw [Int.mul_one]; exact bt_mono h2 (by omega))
  rw [Int.mul_one, Int.mul_one] at e2
  have o1 := bt_one 4000 (by omega)
  have m1 := mul_ok (x := a) (y := 1) (bt_mono h1 (by omega)) (bt_mono o1 (by omega))
  have m2 := mul_ok (x := w) (y := b) (bt_mono h3 (by omega)) (bt_mono h2 (by omega))
  have m3 := mul_ok (x := b) (y := 1) (bt_mono h2 (by omega)) (bt_mono o1 (by omega))
  rw [Int.mul_one] at m1 m3
  unfold b5
  simp [runB, evSs, evS, ev, evs, evo, evit, tst, rdv, peek, peekR, rderef, biD, isTy, truth, cmD, isVar, seqOf, itemsOf, idxD, atI, ixN, sizeLine_eq, setV, asg, asgs, DL.isNon, lseqOf, blsOf, EF, m1, m2, m3, e2, frD, red, gI]
theorem v6 (k : Nat) (x y : Int) (m : List (List D)) (hx : 0 < x) (h1 : Bt x 4000) (h2 : Bt y 4000) : F (k + 3) 6 [.tup [.int 1, .int 1], .tup [.int x, .int y]] m = .ok (frD (red y x)) m := by
  rw [ff6]
  have e2 := v2 k y x m hx (bt_mono h1 (by omega))
  have o1 := bt_one 4000 (by omega)
  have m1 := mul_ok (x := 1) (y := y) (bt_mono o1 (by omega)) (bt_mono h2 (by omega))
  have m2 := mul_ok (x := 1) (y := x) (bt_mono o1 (by omega)) (bt_mono h1 (by omega))
  rw [Int.one_mul] at m1 m2
  unfold b6
  simp [runB, evSs, evS, ev, evs, evo, evit, tst, rdv, peek, peekR, rderef, biD, isTy, truth, cmD, isVar, seqOf, itemsOf, idxD, atI, ixN, sizeLine_eq, setV, asg, asgs, DL.isNon, lseqOf, blsOf, EF, m1, m2, e2, frD, red, gI]
/-- the next stretch -/
def Stt.w (s : Stt) : Int := s.a / s.b
def Stt.f (s : Stt) : Int := if s.il && decide (s.b = 1) then s.w else s.w + 1
def Stt.rest (s : Stt) : Int × Int := red (s.a - s.w * s.b) s.b
def far (s : Stt) (c d : Int) : Int × Int := red (red (c - s.w * d) d).2 (red (c - s.w * d) d).1
def Stt.nx (s : Stt) (c d : Int) : Stt := ⟨(far s c d).1, (far s c d).2, s.ih, if s.rest = (0, 1) then none else some (red s.rest.2 s.rest.1), s.il⟩
theorem frD_eq (p : Int × Int) : frD p = .tup [.int p.1, .int p.2] := rfl
theorem hiD_none : hiD none = .non := rfl
theorem hiD_red (x y : Int) : hiD (some (red x y)) = frD (red x y) := rfl
theorem hiD_ite (c : Prop) [Decidable c] (p : Int × Int) : hiD (if c then none else some p) = if c then .non else frD p := by split <;> rfl
theorem eq_fr (p : Int × Int) (c d : Int) : eqD (frD p) (.tup [.int c, .int d]) = some (decide (p = (c, d))) := by
  obtain ⟨a, b⟩ := p
  rw [frD_eq, eq_tt]
  simp [Prod.ext_iff]
theorem step12b (k : Nat) (s : Stt) (m : List (List D)) (st lap x2 x3 x5 x7 x8 x9 x10 x11 x12 : Option Sl) (ws : List D) (hb : 0 < s.b) (hf : s.Few) (h3 : Bt s.f 8000) (hbb : Bt s.b 8000) (hin : s.isIn s.f 1 = true) :
    evSs (E (k + 5)) l12_1 ⟨[st, lap, x2, x3, some (.own ws), x5, some (.val s.d), x7, x8, x9, x10, x11, x12], m⟩ =
      .ok .brk ⟨[st, lap, x2, some (.val (.int s.w)), some (.own ws), some (.val (.int s.f)), some (.val s.d), x7, x8, some (.val (.tup [.int s.a, .int s.b])), some (.val (.bl s.il)), some (.val (hiD s.hi)), some (.val (.bl s.ih))], m⟩ := by
  have e8 := v8 (k + 4) s.a s.b m hb (bt_mono hbb (by omega))
  have e11 := v11 (k + 3) s s.f 1 m hf h3 (bt_one _ (by omega))
  rw [hin] at e11
  obtain ⟨a, b, il, hi, ih⟩ := s
  simp only [Stt.d, Stt.w, Stt.f] at *
  unfold l12_1
  cases il <;> by_cases hb1 : b = 1 <;> simp [hb1] at e11 ⊢ <;> (try simp [hb1] at e8) <;> simp [runB, evSs, evS, ev, evs, evo, evit, tst, rdv, peek, peekR, rderef, biD, isTy, truth, cmD, isVar, seqOf, itemsOf, idxD, atI, ixN, sizeLine_eq, setV, asg, asgs, DL.isNon, lseqOf, blsOf, EF, e8, e11, hb1]

theorem step12c (k : Nat) (s : Stt) (c d : Int) (m : List (List D)) (st lap x2 x3 x5 x7 x8 x9 x10 x11 x12 : Option Sl) (ws : List D) (hb : 0 < s.b) (hd : 0 < d) (hhi : s.hi = some (c, d)) (hpos : 0 < c - s.w * d) (hr0 : 0 ≤ s.a - s.w * s.b)
    (ha4 : Bt s.a 3000) (hb4 : Bt s.b 3000) (hw4 : Bt s.w 3000) (hc4 : Bt c 3000) (hd4 : Bt d 3000) (hcw : Bt (c - s.w * d) 4000) (haw : Bt (s.a - s.w * s.b) 4000) (hf : s.Few) (h3 : Bt s.f 8000) (hl : ws.length < 16777216) (hin : s.isIn s.f 1 = false) :
    ∃ x7' x8' x9' x10' x11' x12', evSs (E (k + 5)) l12_1 ⟨[st, lap, x2, x3, some (.own ws), x5, some (.val s.d), x7, x8, x9, x10, x11, x12], m⟩ =
      .ok .next ⟨[st, lap, x2, some (.val (.int s.w)), some (.own (ws ++ [.int s.w])), some (.val (.int s.f)), some (.val (s.nx c d).d), x7', x8', x9', x10', x11', x12'], m⟩ := by
  have e8 := v8 (k + 4) s.a s.b m hb (bt_mono hb4 (by omega))
  have e11 := v11 (k + 3) s s.f 1 m hf h3 (bt_one _ (by omega))
  rw [hin] at e11
  have e5 := v5 (k + 2) s.a s.b s.w m hb (bt_mono ha4 (by omega)) (bt_mono hb4 (by omega)) (bt_mono hw4 (by omega))
  have e5' : F (k + 5) 5 [hiD (some (c, d)), .tup [.int s.w, .int 1]] m = .ok (frD (red (c - s.w * d) d)) m := v5 (k + 2) c d s.w m hd (bt_mono hc4 (by omega)) (bt_mono hd4 (by omega)) (bt_mono hw4 (by omega))
  -- the far end
  have g1 : 0 < (red (c - s.w * d) d).1 := by
    unfold red gI
    have h0 : 0 < Nat.gcd (c - s.w * d).natAbs d.natAbs := Nat.gcd_pos_of_pos_right _ (by omega)
    have h1 : Nat.gcd (c - s.w * d).natAbs d.natAbs ≤ (c - s.w * d).natAbs := Nat.gcd_le_left _ (by omega)
    have : 1 ≤ (c - s.w * d) / (Nat.gcd (c - s.w * d).natAbs d.natAbs : Nat) := by
      rw [Int.le_ediv_iff_mul_le (by omega)]
      omega
    exact this
  have small : ∀ {x y : Int}, 0 ≤ x → Bt x 4000 → Bt (x / gI x y) 4000 := fun {x y} h0 hx => bt_le hx (by omega) (Int.ediv_nonneg h0 (by unfold gI; omega)) (Int.ediv_le_self _ h0)
  have small2 : ∀ {x y : Int}, 0 ≤ y → Bt y 4000 → Bt (y / gI x y) 4000 := fun {x y} h0 hx => bt_le hx (by omega) (Int.ediv_nonneg h0 (by unfold gI; omega)) (Int.ediv_le_self _ h0)
  have e6 : F (k + 5) 6 [.tup [.int 1, .int 1], frD (red (c - s.w * d) d)] m = .ok (frD (red (red (c - s.w * d) d).2 (red (c - s.w * d) d).1)) m := v6 (k + 2) (red (c - s.w * d) d).1 (red (c - s.w * d) d).2 m g1 (small (by omega) hcw) (small2 (by omega) (bt_mono hd4 (by omega)))
  have hrest : s.rest ≠ (0, 1) → 0 < s.rest.1 := fun hn => by
    unfold Stt.rest red at *
    by_cases z : s.a - s.w * s.b = 0
    · exfalso
      apply hn
      rw [z]
      have : gI 0 s.b = s.b := by
        unfold gI
        have : (0 : Int).natAbs = 0 := rfl
        rw [this, Nat.gcd_zero_left]
        omega
      rw [this, Int.zero_ediv, Int.ediv_self (by omega)]
    · unfold gI
      have h0 : 0 < Nat.gcd (s.a - s.w * s.b).natAbs s.b.natAbs := Nat.gcd_pos_of_pos_right _ (by omega)
      have h1 : Nat.gcd (s.a - s.w * s.b).natAbs s.b.natAbs ≤ (s.a - s.w * s.b).natAbs := Nat.gcd_le_left _ (by omega)
      have : 1 ≤ (s.a - s.w * s.b) / (Nat.gcd (s.a - s.w * s.b).natAbs s.b.natAbs : Nat) := by
        rw [Int.le_ediv_iff_mul_le (by omega)]
        omega
      exact this
  have e6' : s.rest ≠ (0, 1) → F (k + 5) 6 [.tup [.int 1, .int 1], frD s.rest] m = .ok (frD (red s.rest.2 s.rest.1)) m := fun hn =>
    v6 (k + 2) s.rest.1 s.rest.2 m (hrest hn) (small hr0 haw) (small2 (by omega) (bt_mono hb4 (by omega)))
  have eN := eq_fr s.rest 0 1
  have er : s.rest = red (s.a - s.w * s.b) s.b := rfl
  rw [← er] at e5
  unfold Stt.nx far
  obtain ⟨a, b, il, hi, ih⟩ := s
  subst hhi
  simp only [Stt.d, Stt.w, Stt.f] at *
  generalize Stt.rest _ = rs at *
  generalize red (c - a / b * d) d = rh at *
  unfold l12_1
  by_cases hN : rs = (0, 1)
  · simp only [hN, decide_true] at eN
    refine ⟨some (.val (frD rs)), some (.val (frD (red rh.2 rh.1))), some (.val (.tup [.int a, .int b])), some (.val (.bl il)), some (.val (hiD (some (c, d)))), some (.val (.bl ih)), ?_⟩
    cases il <;> by_cases hb1 : b = 1 <;> simp [hb1] at e11 ⊢ <;> (try simp [hb1] at e8 e5 e5') <;> (simp [runB, evSs, evS, ev, evs, evo, evit, tst, rdv, peek, peekR, rderef, biD, isTy, truth, cmD, isVar, seqOf, itemsOf, idxD, atI, ixN, sizeLine_eq, setV, asg, asgs, DL.isNon, lseqOf, blsOf, EF, e8, e11, hb1, hl, e5, e5', e6, EC1, EC2, eN, ownAt, hiD_none, hiD_red, hN]; try rfl)
  · have e7 := e6' hN
    simp only [hN, decide_false] at eN
    refine ⟨some (.val (frD rs)), some (.val (frD (red rh.2 rh.1))), some (.val (.tup [.int a, .int b])), some (.val (.bl il)), some (.val (hiD (some (c, d)))), some (.val (.bl ih)), ?_⟩
    cases il <;> by_cases hb1 : b = 1 <;> simp [hb1] at e11 ⊢ <;> (try simp [hb1] at e8 e5 e5') <;> (simp [runB, evSs, evS, ev, evs, evo, evit, tst, rdv, peek, peekR, rderef, biD, isTy, truth, cmD, isVar, seqOf, itemsOf, idxD, atI, ixN, sizeLine_eq, setV, asg, asgs, DL.isNon, lseqOf, blsOf, EF, e8, e11, hb1, hl, e5, e5', e6, EC1, EC2, eN, e7, ownAt, hiD_none, hiD_red, hN]; try rfl)
end K84
end

section
set_option Elab.async false
set_option linter.all false
set_option autoImplicit false
set_option maxRecDepth 100000
set_option maxHeartbeats 1000000
namespace K84
open PySem PySem.Spec L2 DL
/-! ### plain numbers -/
def InR (s : Stt) (p q : Int) : Prop := (s.a * q < p * s.b ∨ (s.a * q = p * s.b ∧ s.il = true)) ∧ ∀ c d, s.hi = some (c, d) → (p * d < c * q ∨ (p * d = c * q ∧ s.ih = true))
structure Stt.Ok (s : Stt) : Prop where
  a0 : 0 ≤ s.a
  b0 : 0 < s.b
  co : gI s.a s.b = 1
  hi : ∀ c d, s.hi = some (c, d) → 0 < d ∧ 0 ≤ c ∧ gI c d = 1 ∧ (s.a * d < c * s.b ∨ (s.a * d = c * s.b ∧ s.il = true ∧ s.ih = true))
theorem gI_comm (a b : Int) : gI a b = gI b a := by unfold gI; rw [Nat.gcd_comm]
theorem gI_int (a b : Int) : gI a b = (Int.gcd a b : Nat) := rfl
theorem gI_sub (a b w : Int) : gI (a - w * b) b = gI a b := by
  rw [gI_int, gI_int]
  have := Int.gcd_sub_mul_right_left (m := a) (n := b) (k := w)
  first | exact congrArg _ (by simpa [Int.mul_comm] using this) | omega
theorem gI_one_iff {a b : Int} : gI a b = 1 ↔ Nat.gcd a.natAbs b.natAbs = 1 := by unfold gI; omega
theorem red_co {x y : Int} (h : gI x y = 1) : red x y = (x, y) := by
  unfold red
  rw [h, Int.ediv_one, Int.ediv_one]
theorem dvd_of_co {a b q : Int} (hab : gI a b = 1) (h : b ∣ a * q) : b ∣ q := by
  have h1 : Nat.Coprime b.natAbs a.natAbs := by
    rw [Nat.coprime_comm]
    exact gI_one_iff.mp hab
  have h2 : b.natAbs ∣ a.natAbs * q.natAbs := by
    have := Int.natAbs_dvd_natAbs.mpr h
    rwa [Int.natAbs_mul] at this
  exact Int.natAbs_dvd_natAbs.mp (h1.dvd_of_dvd_mul_left h2)
/-- equal fractions in least terms are the same -/
theorem frac_eq {a b p q : Int} (hb : 0 < b) (hq : 0 < q) (hab : gI a b = 1) (hpq : gI p q = 1) (h : a * q = p * b) : p = a ∧ q = b := by
  have h1 : b ∣ q := dvd_of_co hab ⟨p, by grind⟩
  have h2 : q ∣ b := dvd_of_co hpq ⟨a, by grind⟩
  have e : q = b := Int.dvd_antisymm (by omega) (by omega) h2 h1
  subst e
  exact ⟨(Int.eq_of_mul_eq_mul_right (by omega) h).symm, rfl⟩
theorem side1 (x y : Int) (il : Bool) : (!(decide (y < x) || (decide (x = y) && !il))) = decide (x < y ∨ (x = y ∧ il = true)) := by
  rcases Int.lt_trichotomy x y with h | h | h
  · have h1 : ¬ y < x := by omega
    have h2 : ¬ x = y := by omega
    simp [h, h1, h2]
  · subst h
    cases il <;> simp
  · have h1 : ¬ x < y := by omega
    have h2 : ¬ x = y := by omega
    simp [h, h1, h2]
theorem side2 (x y : Int) (ih : Bool) : (decide (x < y) || (decide (x = y) && ih)) = decide (x < y ∨ (x = y ∧ ih = true)) := by
  by_cases h : x < y <;> by_cases h2 : x = y <;> cases ih <;> simp_all
theorem isIn_iff {s : Stt} (hs : s.Ok) {p q : Int} (hq : 0 < q) (hpq : gI p q = 1) : s.isIn p q = true ↔ InR s p q := by
  have h1 : (decide (p = s.a) && decide (q = s.b)) = decide (s.a * q = p * s.b) := by
    by_cases h : s.a * q = p * s.b
    · obtain ⟨e1, e2⟩ := frac_eq hs.b0 hq hs.co hpq h
      simp [e1, e2, h]
    · have : ¬ (p = s.a ∧ q = s.b) := by
        rintro ⟨rfl, rfl⟩
        exact h (by grind)
      simp only [h, decide_false]
      by_cases e1 : p = s.a <;> by_cases e2 : q = s.b <;> simp_all
  unfold Stt.isIn InR
  rw [h1, side1]
  cases hh : s.hi with
  | none => simp
  | some cd =>
    obtain ⟨c, d⟩ := cd
    obtain ⟨d0, c0, gcd, _⟩ := hs.hi c d hh
    have h2 : (decide (p = c) && decide (q = d)) = decide (p * d = c * q) := by
      by_cases h : p * d = c * q
      · obtain ⟨e1, e2⟩ := frac_eq d0 hq gcd hpq h.symm
        simp [e1, e2, h]
      · have : ¬ (p = c ∧ q = d) := by
          rintro ⟨rfl, rfl⟩
          exact h (by grind)
        simp only [h, decide_false]
        by_cases e1 : p = c <;> by_cases e2 : q = d <;> simp_all
    simp only [h2, side2]
    simp only [Bool.and_eq_true, decide_eq_true_eq, Option.some.injEq, Prod.mk.injEq]
    exact ⟨fun ⟨x, y⟩ => ⟨x, fun c' d' ⟨e1, e2⟩ => by subst e1 e2; exact y⟩, fun ⟨x, y⟩ => ⟨x, y c d ⟨rfl, rfl⟩⟩⟩
/-! ### one step -/
theorem w_div {s : Stt} (hs : s.Ok) : 0 ≤ s.w ∧ 0 ≤ s.a - s.w * s.b ∧ s.a - s.w * s.b < s.b := by
  have h1 := Int.emod_nonneg s.a (b := s.b) (by have := hs.b0; omega)
  have h2 := Int.emod_lt_of_pos s.a hs.b0
  have h3 := Int.mul_ediv_add_emod s.a s.b
  have h4 := Int.ediv_nonneg hs.a0 (by have := hs.b0; omega : 0 ≤ s.b)
  have h5 : s.w * s.b = s.b * (s.a / s.b) := Int.mul_comm _ _
  unfold Stt.w at *
  exact ⟨h4, by omega, by omega⟩
theorem f_left {s : Stt} (hs : s.Ok) : s.a * 1 < s.f * s.b ∨ (s.a * 1 = s.f * s.b ∧ s.il = true) := by
  obtain ⟨h1, h2, h3⟩ := w_div hs
  unfold Stt.f
  split
  · rename_i h
    simp only [Bool.and_eq_true, decide_eq_true_eq] at h
    right
    refine ⟨?_, h.1⟩
    rw [h.2] at h2 h3 ⊢
    omega
  · left
    have : (s.w + 1) * s.b = s.w * s.b + s.b := by grind
    omega
theorem gI_1 (x : Int) : gI x 1 = 1 := by unfold gI; simp
/-- all is left of the next whole number -/
theorem step_hi {s : Stt} (hs : s.Ok) (h : s.isIn s.f 1 = false) : ∃ c d, s.hi = some (c, d) ∧ s.f = s.w + 1 ∧ ¬ (s.il = true ∧ s.b = 1) ∧ 0 < c - s.w * d ∧ c - s.w * d ≤ d ∧ (c - s.w * d = d → s.ih = false) := by
  have hn : ¬ InR s s.f 1 := fun z => by
    rw [(isIn_iff hs (by omega) (gI_1 _)).mpr z] at h
    cases h
  have hl := f_left hs
  obtain ⟨w0, r0, rb⟩ := w_div hs
  cases hh : s.hi with
  | none => exact absurd ⟨hl, fun c d e => by rw [hh] at e; cases e⟩ hn
  | some cd =>
    obtain ⟨c, d⟩ := cd
    obtain ⟨d0, c0, gcd, ho⟩ := hs.hi c d hh
    have hr : ¬ (s.f * d < c * 1 ∨ (s.f * d = c * 1 ∧ s.ih = true)) := fun z => hn ⟨hl, fun c' d' e => by rw [hh] at e; cases e; exact z⟩
    have hb := hs.b0
    have hcase : ¬ (s.il = true ∧ s.b = 1) := by
      rintro ⟨e1, e2⟩
      have ef : s.f = s.w := by unfold Stt.f; rw [if_pos (by simp [e1, e2])]
      rw [e2] at ho r0 rb
      have ea : s.a = s.w := by omega
      apply hr
      rw [ef, ← ea]
      rcases ho with ho | ⟨ho, _, h3⟩
      · left; omega
      · right; exact ⟨by omega, h3⟩
    have ef : s.f = s.w + 1 := by
      unfold Stt.f
      rw [if_neg]
      simp only [Bool.and_eq_true, decide_eq_true_eq]
      exact hcase
    have e1 : (s.w + 1) * d = s.w * d + d := by grind
    rw [ef, e1] at hr
    refine ⟨c, d, rfl, ef, hcase, ?_, by omega, fun e => ?_⟩
    · -- c ≤ w d would make the low end whole, and taken
      refine Classical.byContradiction fun hle => ?_
      have l1 : c ≤ s.w * d := by omega
      have l2 : c * s.b ≤ s.w * d * s.b := Int.mul_le_mul_of_nonneg_right l1 (by omega)
      have l3 : s.w * s.b * d ≤ s.a * d := Int.mul_le_mul_of_nonneg_right (by omega) (by omega)
      have l4 : s.w * d * s.b = s.w * s.b * d := by grind
      rcases ho with ho | ⟨ho, h2, _⟩
      · omega
      · have l5 : s.w * s.b * d = s.a * d := by omega
        have l6 : s.w * s.b = s.a := Int.eq_of_mul_eq_mul_right (by omega) l5
        have l7 : s.b ∣ 1 := dvd_of_co (a := s.a) hs.co ⟨s.w, by grind⟩
        have l8 : s.b = 1 := by
          have := Int.le_of_dvd (by omega) l7
          omega
        exact hcase ⟨h2, l8⟩
    · cases hih : s.ih with
      | false => rfl
      | true => exact absurd (Or.inr ⟨by omega, hih⟩) hr
theorem nx_eq {s : Stt} (hs : s.Ok) {c d : Int} (hh : s.hi = some (c, d)) : s.nx c d = ⟨d, c - s.w * d, s.ih, if s.a - s.w * s.b = 0 then none else some (s.b, s.a - s.w * s.b), s.il⟩ := by
  obtain ⟨d0, c0, gcd, ho⟩ := hs.hi c d hh
  have g1 : gI (c - s.w * d) d = 1 := by rw [gI_sub, gcd]
  have g2 : gI (s.a - s.w * s.b) s.b = 1 := by rw [gI_sub, hs.co]
  have e1 : far s c d = (d, c - s.w * d) := by
    unfold far
    rw [red_co g1]
    exact red_co (by rw [gI_comm]; exact g1)
  have e2 : s.rest = (s.a - s.w * s.b, s.b) := red_co g2
  have e3 : red s.b (s.a - s.w * s.b) = (s.b, s.a - s.w * s.b) := red_co (by rw [gI_comm]; exact g2)
  unfold Stt.nx
  rw [e1, e2]
  simp only [e3]
  by_cases hz : s.a - s.w * s.b = 0
  · have hb1 : s.b = 1 := by
      rw [hz] at g2
      unfold gI at g2
      have e0 : (0 : Int).natAbs = 0 := rfl
      rw [e0, Nat.gcd_zero_left] at g2
      have := hs.b0
      omega
    rw [hz, hb1]
    simp
  · rw [if_neg hz, if_neg]
    intro e
    exact hz (Prod.mk.inj e).1

theorem nx_ok {s : Stt} (hs : s.Ok) {c d : Int} (hh : s.hi = some (c, d)) (hp : 0 < c - s.w * d) : (s.nx c d).Ok := by
  obtain ⟨d0, c0, gcd, ho⟩ := hs.hi c d hh
  obtain ⟨w0, r0, rb⟩ := w_div hs
  rw [nx_eq hs hh]
  refine ⟨Int.le_of_lt d0, hp, by rw [gI_comm, gI_sub, gcd], fun c' d' e => ?_⟩
  simp only at e
  split at e
  · cases e
  · rename_i hz
    cases e
    refine ⟨by omega, Int.le_of_lt hs.b0, by rw [gI_comm, gI_sub, hs.co], ?_⟩
    simp only
    rcases ho with ho | ⟨ho, h1, h2⟩
    · left; grind
    · right; exact ⟨by grind, h2, h1⟩
theorem InR_to {s : Stt} (hs : s.Ok) {c d : Int} (hh : s.hi = some (c, d)) (hc : ¬ (s.il = true ∧ s.b = 1)) {p q : Int} (hq : 0 < q) (h : InR s p q) : 0 < p - s.w * q ∧ InR (s.nx c d) q (p - s.w * q) := by
  obtain ⟨d0, c0, gcd, ho⟩ := hs.hi c d hh
  obtain ⟨w0, r0, rb⟩ := w_div hs
  obtain ⟨h1, h2⟩ := h
  have h2 := h2 c d hh
  have hb := hs.b0
  have l1 : s.w * s.b * q ≤ s.a * q := Int.mul_le_mul_of_nonneg_right (by omega) (by omega)
  have pos : 0 < p - s.w * q := by
    refine Classical.byContradiction fun hle => ?_
    have m1 : p ≤ s.w * q := by omega
    have m2 : p * s.b ≤ s.w * q * s.b := Int.mul_le_mul_of_nonneg_right m1 (by omega)
    have m3 : s.w * q * s.b = s.w * s.b * q := by grind
    rcases h1 with h1 | ⟨h1, h1'⟩
    · omega
    · have l5 : s.w * s.b * q = s.a * q := by omega
      have l6 : s.w * s.b = s.a := Int.eq_of_mul_eq_mul_right (by omega) l5
      have l7 : s.b ∣ 1 := dvd_of_co (a := s.a) hs.co ⟨s.w, by grind⟩
      have l8 : s.b = 1 := by
        have := Int.le_of_dvd (by omega) l7
        omega
      exact hc ⟨h1', l8⟩
  refine ⟨pos, ?_⟩
  rw [nx_eq hs hh]
  refine ⟨?_, fun c' d' e => ?_⟩
  · simp only
    rcases h2 with h2 | ⟨h2, h3⟩
    · left; grind
    · right; exact ⟨by grind, h3⟩
  · simp only at e
    split at e
    · cases e
    · cases e
      simp only
      rcases h1 with h1 | ⟨h1, h3⟩
      · left; grind
      · right; exact ⟨by grind, h3⟩
theorem InR_from {s : Stt} (hs : s.Ok) {c d : Int} (hh : s.hi = some (c, d)) {p q : Int} (hq : 0 < q) (h : InR (s.nx c d) p q) (hp : 0 < p) : InR s (s.w * p + q) p := by
  obtain ⟨d0, c0, gcd, ho⟩ := hs.hi c d hh
  obtain ⟨w0, r0, rb⟩ := w_div hs
  rw [nx_eq hs hh] at h
  obtain ⟨h1, h2⟩ := h
  simp only at h1 h2
  refine ⟨?_, fun c' d' e => ?_⟩
  · by_cases hz : s.a - s.w * s.b = 0
    · left
      have e1 : s.a * p = s.w * s.b * p := by rw [show s.a = s.w * s.b by omega]
      have e2 : (s.w * p + q) * s.b = s.w * s.b * p + q * s.b := by grind
      have := Int.mul_pos hq hs.b0
      omega
    · have h2 := h2 s.b (s.a - s.w * s.b) (if_neg hz)
      rcases h2 with h2 | ⟨h2, h3⟩
      · left; grind
      · right; exact ⟨by grind, h3⟩
  · rw [hh] at e
    cases e
    rcases h1 with h1 | ⟨h1, h3⟩
    · left; grind
    · right; exact ⟨by grind, h3⟩
/-! ### the way down and back -/
inductive CF : Stt → List Int → Int → Prop
  | stop {s : Stt} : s.isIn s.f 1 = true → CF s [] s.f
  | step {s : Stt} {c d : Int} {ws : List Int} {f : Int} : s.isIn s.f 1 = false → s.hi = some (c, d) → CF (s.nx c d) ws f → CF s (s.w :: ws) f
def back : List Int → Int → Int × Int
  | [], f => (f, 1)
  | w :: ws, f => (w * (back ws f).1 + (back ws f).2, (back ws f).1)
/-- the simplest -/
structure Best (s : Stt) (p q : Int) : Prop where
  p0 : 0 ≤ p
  q0 : 0 < q
  co : gI p q = 1
  inn : InR s p q
  least : ∀ p' q', 0 < q' → InR s p' q' → p ≤ p' ∧ q ≤ q'
theorem f_best {s : Stt} (hs : s.Ok) (h : s.isIn s.f 1 = true) : Best s s.f 1 := by
  obtain ⟨w0, r0, rb⟩ := w_div hs
  have hb := hs.b0
  have f0 : 0 ≤ s.f := by unfold Stt.f; split <;> omega
  refine ⟨f0, by omega, gI_1 _, (isIn_iff hs (by omega) (gI_1 _)).mp h, fun p' q' hq h' => ⟨?_, by omega⟩⟩
  have h1 := h'.1
  have l1 : s.w * s.b * q' ≤ s.a * q' := Int.mul_le_mul_of_nonneg_right (by omega) (by omega)
  have m3 : s.w * q' * s.b = s.w * s.b * q' := by grind
  have hw : s.w * q' ≤ p' := by
    refine Int.le_of_mul_le_mul_right (a := s.b) ?_ hb
    rcases h1 with h1 | ⟨h1, _⟩ <;> omega
  have ww : s.w ≤ s.w * q' := by
    have := Int.mul_le_mul_of_nonneg_left (show 1 ≤ q' by omega) w0
    omega
  unfold Stt.f
  split
  · omega
  · rename_i hf
    simp only [Bool.and_eq_true, decide_eq_true_eq] at hf
    refine Classical.byContradiction fun hle => ?_
    have e1 : p' = s.w * q' := by omega
    have e2 : p' * s.b = s.w * s.b * q' := by rw [e1]; exact m3
    rcases h1 with h1 | ⟨h1, h1'⟩
    · omega
    · have l5 : s.w * s.b * q' = s.a * q' := by omega
      have l6 : s.w * s.b = s.a := Int.eq_of_mul_eq_mul_right (by omega) l5
      have l7 : s.b ∣ 1 := dvd_of_co (a := s.a) hs.co ⟨s.w, by grind⟩
      have l8 : s.b = 1 := by
        have := Int.le_of_dvd (by omega) l7
        omega
      exact hf ⟨h1', l8⟩
/-- bounds on a stretch -/
structure Bnd (s : Stt) (B : Int) : Prop where
  a : s.a ≤ B
  b : s.b ≤ B
  c : ∀ c d, s.hi = some (c, d) → c ≤ B ∧ d ≤ B
def meas (s : Stt) : Nat := s.b.toNat + (match s.hi with | none => 0 | some (_, d) => d.toNat)
/-- all that comes on the way back is small -/
def Low (M : Int) : List Int → Int → Prop
  | [], f => 0 ≤ f ∧ f ≤ M
  | w :: ws, f => 0 ≤ w ∧ w ≤ M ∧ (0 ≤ (back ws f).1 ∧ (back ws f).1 ≤ M ∧ 0 ≤ (back ws f).2 ∧ (back ws f).2 ≤ M) ∧ Low M ws f
theorem nx_bnd {s : Stt} (hs : s.Ok) {c d : Int} (hh : s.hi = some (c, d)) {B : Int} (b : Bnd s B) (hp : 0 < c - s.w * d) (hle : c - s.w * d ≤ d) : Bnd (s.nx c d) B ∧ meas (s.nx c d) < meas s := by
  obtain ⟨w0, r0, rb⟩ := w_div hs
  obtain ⟨d0, _⟩ := hs.hi c d hh
  obtain ⟨b1, b2⟩ := b.c c d hh
  have hb := hs.b0
  have bb := b.b
  rw [nx_eq hs hh]
  refine ⟨⟨b2, by simp only; omega, fun c' d' e => ?_⟩, ?_⟩
  · simp only at e
    split at e
    · cases e
    · cases e
      exact ⟨bb, by omega⟩
  · unfold meas
    simp only [hh]
    split
    · rename_i e
      omega
    · rename_i e
      split at e
      · cases e
      · cases e
        omega
theorem cf_all : ∀ (n : Nat) (s : Stt) (B M : Int), meas s ≤ n → s.Ok → Bnd s B → (∃ p q, 0 < q ∧ InR s p q ∧ p ≤ M ∧ q ≤ M) → B ≤ M → ∃ ws f, CF s ws f ∧ ws.length ≤ n ∧ Best s (back ws f).1 (back ws f).2 ∧ Low M ws f
  | n, s, B, M, hm, hs, hB, ⟨p, q, q0, hi, hpM, hqM⟩, hBM => by
    cases h : s.isIn s.f 1 with
    | true =>
      have b := f_best hs h
      exact ⟨[], s.f, .stop h, by simp, b, b.p0, by have := (b.least p q q0 hi).1; omega⟩
    | false =>
      obtain ⟨c, d, hh, ef, hc, hp, hle, hih⟩ := step_hi hs h
      obtain ⟨hB', hlt⟩ := nx_bnd hs hh hB hp hle
      cases n with
      | zero => omega
      | succ n =>
        obtain ⟨w0, r0, rb⟩ := w_div hs
        obtain ⟨pos, hi'⟩ := InR_to hs hh hc q0 hi
        have hqw : 0 ≤ s.w * q := Int.mul_nonneg w0 (by omega)
        obtain ⟨ws, f, hcf, hl, hbest, hlow⟩ := cf_all n (s.nx c d) B M (by omega) (nx_ok hs hh hp) hB' ⟨q, p - s.w * q, pos, hi', hqM, by omega⟩ hBM
        have pP : 0 < (back ws f).1 := by
          -- 0 is not in the next stretch
          have hn := hbest.inn.1
          rw [nx_eq hs hh] at hn
          simp only at hn
          obtain ⟨d0, _⟩ := hs.hi c d hh
          have q1 := hbest.q0
          have p1 := hbest.p0
          have := Int.mul_pos d0 q1
          refine Classical.byContradiction fun z => ?_
          have z0 : (back ws f).1 = 0 := by omega
          rw [z0, Int.zero_mul] at hn
          omega
        have inn := InR_from hs hh hbest.q0 hbest.inn pP
        have wM : s.w ≤ M := by
          have h1 : s.w ≤ s.w * s.b := by
            have := Int.mul_le_mul_of_nonneg_left (show 1 ≤ s.b by have := hs.b0; omega) w0
            omega
          have := hB.a
          omega
        have l1 := hbest.least q (p - s.w * q) pos hi'
        refine ⟨s.w :: ws, f, .step h hh hcf, by simp; omega, ⟨?_, pP, ?_, inn, fun p' q' hq' hin' => ?_⟩, w0, wM, ⟨hbest.p0, by omega, by have := hbest.q0; omega, by omega⟩, hlow⟩
        · show 0 ≤ s.w * (back ws f).1 + (back ws f).2
          have := Int.mul_nonneg w0 hbest.p0
          have := hbest.q0
          omega
        · show gI (s.w * (back ws f).1 + (back ws f).2) (back ws f).1 = 1
          have e : s.w * (back ws f).1 + (back ws f).2 = (back ws f).2 - (-s.w) * (back ws f).1 := by grind
          rw [e, gI_sub, gI_comm]
          exact hbest.co
        · obtain ⟨pos', hin2⟩ := InR_to hs hh hc hq' hin'
          obtain ⟨a1, a2⟩ := hbest.least q' (p' - s.w * q') pos' hin2
          refine ⟨?_, a1⟩
          show s.w * (back ws f).1 + (back ws f).2 ≤ p'
          have := Int.mul_le_mul_of_nonneg_left a1 w0
          omega
/-- a fraction between the ends -/
theorem med_in {s : Stt} (hs : s.Ok) {c d : Int} (hh : s.hi = some (c, d)) : InR s (s.a + c) (s.b + d) := by
  obtain ⟨d0, c0, gcd, ho⟩ := hs.hi c d hh
  refine ⟨?_, fun c' d' e => ?_⟩
  · rcases ho with ho | ⟨ho, h1, h2⟩
    · left; grind
    · right; exact ⟨by grind, h1⟩
  · rw [hh] at e
    cases e
    rcases ho with ho | ⟨ho, h1, h2⟩
    · left; grind
    · right; exact ⟨by grind, h2⟩
end K84
end

section
set_option Elab.async false
set_option linter.all false
set_option autoImplicit false
set_option maxRecDepth 100000
set_option maxHeartbeats 1000000
namespace K84
open PySem PySem.Spec L2 DL
theorem sizes {s : Stt} {B : Int} (hs : s.Ok) (hB : Bnd s B) (hb : Bt B 2900) : s.Few ∧ Bt s.a 3000 ∧ Bt s.b 3000 ∧ Bt s.w 3000 ∧ Bt s.f 3000 ∧ (∀ c d, s.hi = some (c, d) → Bt c 3000 ∧ Bt d 3000) := by
  obtain ⟨w0, r0, rb⟩ := w_div hs
  have b0 := hs.b0
  have a0 := hs.a0
  have ba := hB.a
  have bb := hB.b
  have hw : s.w ≤ s.a := by
    have := Int.mul_le_mul_of_nonneg_left (show 1 ≤ s.b by omega) w0
    omega
  have hb2 : Bt (B + B) 2901 := bt_add hb hb
  have ha : Bt s.a 2901 := bt_le hb2 (by omega) a0 (by omega)
  have hbb : Bt s.b 2901 := bt_le hb2 (by omega) (by omega) (by omega)
  have hhw : Bt s.w 2901 := bt_le hb2 (by omega) w0 (by omega)
  have hf : Bt s.f 2901 := bt_le hb2 (by omega) (by unfold Stt.f; split <;> omega) (by unfold Stt.f; split <;> omega)
  have hc : ∀ c d, s.hi = some (c, d) → Bt c 2901 ∧ Bt d 2901 := fun c d e => by
    obtain ⟨d0, c0, _⟩ := hs.hi c d e
    obtain ⟨e1, e2⟩ := hB.c c d e
    exact ⟨bt_le hb2 (by omega) c0 (by omega), bt_le hb2 (by omega) (by omega) (by omega)⟩
  exact ⟨⟨bt_mono ha (by omega), bt_mono hbb (by omega), fun c d e => ⟨bt_mono (hc c d e).1 (by omega), bt_mono (hc c d e).2 (by omega)⟩⟩, bt_mono ha (by omega), bt_mono hbb (by omega), bt_mono hhw (by omega), bt_mono hf (by omega), fun c d e => ⟨bt_mono (hc c d e).1 (by omega), bt_mono (hc c d e).2 (by omega)⟩⟩
theorem loop12 (k : Nat) (m : List (List D)) (B : Int) (hBt : Bt B 2900) : ∀ {s : Stt} {ws : List Int} {f : Int}, CF s ws f → s.Ok → Bnd s B → ∀ (ds ws0 : List D) (st lap x2 x3 x5 x7 x8 x9 x10 x11 x12 : Option Sl), ws.length < ds.length → ws0.length + ws.length < 16777216 →
    ∃ lap' x3' x6' x7' x8' x9' x10' x11' x12', loopF (fun d s => (opt (asg (.nm 1) d s) s).bind fun s _ => evSs (E (k + 5)) l12_1 s) ds ⟨[st, lap, x2, x3, some (.own ws0), x5, some (.val s.d), x7, x8, x9, x10, x11, x12], m⟩ =
      .ok .next ⟨[st, lap', x2, x3', some (.own (ws0 ++ ws.map .int)), some (.val (.int f)), x6', x7', x8', x9', x10', x11', x12'], m⟩
  | s, _, _, .stop h, hs, hB, ds, ws0, st, lap, x2, x3, x5, x7, x8, x9, x10, x11, x12, hl, hz => by
    obtain ⟨few, ha, hb, hw, hf, hc⟩ := sizes hs hB hBt
    cases ds with
    | nil => simp at hl
    | cons d ds =>
      have e := step12b k s m st (some (.val d)) x2 x3 x5 x7 x8 x9 x10 x11 x12 ws0 hs.b0 few (bt_mono hf (by omega)) (bt_mono hb (by omega)) h
      refine ⟨some (.val d), some (.val (.int s.w)), some (.val s.d), x7, x8, some (.val (.tup [.int s.a, .int s.b])), some (.val (.bl s.il)), some (.val (hiD s.hi)), some (.val (.bl s.ih)), ?_⟩
      rw [loop_brk (s' := _)]
      rotate_left
      · show (opt (asg (.nm 1) d _) _).bind _ = _
        simp only [asg, setV, List.length_cons, List.length_nil, Nat.zero_add, Nat.reduceAdd, Nat.reduceLT, if_true, opt_some, bind_ok, List.set_cons_succ, List.set_cons_zero]
        refine e.trans ?_
        simp
  | s, _, _, .step (c := c) (d := d) (ws := ws) (f := f) h hh hcf, hs, hB, ds, ws0, st, lap, x2, x3, x5, x7, x8, x9, x10, x11, x12, hl, hz => by
    obtain ⟨few, ha, hb, hw, hf, hc⟩ := sizes hs hB hBt
    obtain ⟨c', d', hh', ef, hcc, hp, hle, hih⟩ := step_hi hs h
    rw [hh] at hh'
    cases hh'
    obtain ⟨w0, r0, rb⟩ := w_div hs
    obtain ⟨hB', _⟩ := nx_bnd hs hh hB hp hle
    obtain ⟨hc1, hd1⟩ := hc c d hh
    obtain ⟨d0, _⟩ := hs.hi c d hh
    cases ds with
    | nil => simp at hl
    | cons dd ds =>
      simp only [List.length_cons] at hl hz
      obtain ⟨y7, y8, y9, y10, y11, y12, e⟩ := step12c k s c d m st (some (.val dd)) x2 x3 x5 x7 x8 x9 x10 x11 x12 ws0 hs.b0 d0 hh hp r0 ha hb hw hc1 hd1 (bt_mono (bt_le hd1 (by omega) (by omega) hle) (by omega)) (bt_mono (bt_le hb (by omega) r0 (by omega)) (by omega)) few (bt_mono hf (by omega)) (by omega) h
      obtain ⟨z1, z3, z6, z7, z8, z9, z10, z11, z12, e2⟩ := loop12 k m B hBt hcf (nx_ok hs hh hp) hB' ds (ws0 ++ [.int s.w]) st (some (.val dd)) x2 (some (.val (.int s.w))) (some (.val (.int s.f))) y7 y8 y9 y10 y11 y12 (by omega) (by simp; omega)
      refine ⟨z1, z3, z6, z7, z8, z9, z10, z11, z12, ?_⟩
      rw [loop_next (s' := _)]
      rotate_left
      · show (opt (asg (.nm 1) dd _) _).bind _ = _
        simp only [asg, setV, List.length_cons, List.length_nil, Nat.zero_add, Nat.reduceAdd, Nat.reduceLT, if_true, opt_some, bind_ok, List.set_cons_succ, List.set_cons_zero]
        exact e
      · rw [e2]
        simp
def gst (pq : Int × Int) (w : Int) : Int × Int := (w * pq.1 + pq.2, pq.1)
def Run (M : Int) : List Int → Int × Int → Prop
  | [], _ => True
  | w :: l, pq => (0 ≤ w ∧ w ≤ M) ∧ (0 ≤ pq.1 ∧ pq.1 ≤ M ∧ 0 ≤ pq.2 ∧ pq.2 ≤ M) ∧ Run M l (gst pq w)
theorem run_app {M : Int} : ∀ {l1 l2 : List Int} {pq : Int × Int}, Run M l1 pq → Run M l2 (l1.foldl gst pq) → Run M (l1 ++ l2) pq
  | [], _, _, _, h => h
  | w :: l1, l2, pq, ⟨a, b, c⟩, h => ⟨a, b, run_app c h⟩
theorem low_run {M : Int} : ∀ {ws : List Int} {f : Int}, Low M ws f → Run M ws.reverse (f, 1) ∧ ws.reverse.foldl gst (f, 1) = back ws f
  | [], f, _ => ⟨trivial, rfl⟩
  | w :: ws, f, ⟨a, b, c, d⟩ => by
    obtain ⟨h1, h2⟩ := low_run d
    rw [List.reverse_cons]
    refine ⟨run_app h1 ?_, ?_⟩
    · rw [h2]
      exact ⟨⟨a, b⟩, ⟨c.1, c.2.1, c.2.2.1, c.2.2.2⟩, trivial⟩
    · rw [List.foldl_append, h2]
      rfl
theorem loop12r (k : Nat) (m : List (List D)) (M : Int) (hM : Bt M 4000) : ∀ (l : List Int) (pq : Int × Int) (st x1 x3 x4 x5 x6 x7 x8 x9 x10 x11 x12 : Option Sl), Run M l pq →
    ∃ x3', loopF (fun d s => (opt (asg (.nm 3) d s) s).bind fun s _ => evSs (E (k + 5)) l12_0 s) (l.map .int) ⟨[st, x1, some (.val (frD pq)), x3, x4, x5, x6, x7, x8, x9, x10, x11, x12], m⟩ =
      .ok .next ⟨[st, x1, some (.val (frD (l.foldl gst pq))), x3', x4, x5, x6, x7, x8, x9, x10, x11, x12], m⟩
  | [], pq, st, x1, x3, x4, x5, x6, x7, x8, x9, x10, x11, x12, _ => ⟨x3, by simp [loopF]⟩
  | w :: l, pq, st, x1, x3, x4, x5, x6, x7, x8, x9, x10, x11, x12, ⟨⟨a1, a2⟩, ⟨b1, b2, b3, b4⟩, c⟩ => by
    have hw : Bt w 4000 := bt_le hM (by omega) a1 a2
    have hp : Bt pq.1 4000 := bt_le hM (by omega) b1 b2
    obtain ⟨x3', e⟩ := loop12r k m M hM l (gst pq w) st x1 (some (.val (.int w))) x4 x5 x6 x7 x8 x9 x10 x11 x12 c
    refine ⟨x3', ?_⟩
    have mm := mul_ok (bt_mono hw (show 4000 ≤ 100000 by omega)) (bt_mono hp (show 4000 ≤ 100000 by omega))
    have s1 : evSs (E (k + 5)) l12_0 ⟨[st, x1, some (.val (frD pq)), some (.val (.int w)), x4, x5, x6, x7, x8, x9, x10, x11, x12], m⟩ = .ok .next ⟨[st, x1, some (.val (frD (gst pq w))), some (.val (.int w)), x4, x5, x6, x7, x8, x9, x10, x11, x12], m⟩ := by
      unfold l12_0 frD gst
      simp [runB, evSs, evS, ev, evs, evo, evit, tst, rdv, peek, peekR, rderef, biD, isTy, truth, cmD, isVar, seqOf, itemsOf, idxD, atI, ixN, sizeLine_eq, setV, asg, asgs, DL.isNon, lseqOf, blsOf, mm]
    simp only [List.map_cons, List.foldl_cons]
    rw [loop_next (s' := _)]
    rotate_left
    · show (opt (asg (.nm 3) (.int w) _) _).bind _ = _
      simp only [asg, setV, List.length_cons, List.length_nil, Nat.zero_add, Nat.reduceAdd, Nat.reduceLT, if_true, opt_some, bind_ok, List.set_cons_succ, List.set_cons_zero]
      exact s1
    · exact e
/-- simplest_of -/
theorem v12 (k : Nat) (s : Stt) (m : List (List D)) (B M : Int) (ws : List Int) (f : Int) (hs : s.Ok) (hB : Bnd s B) (hBt : Bt B 2900) (hM : Bt M 4000) (hcf : CF s ws f) (hl : ws.length < 1000000) (hlow : Low M ws f) : F (k + 6) 12 [s.d] m = .ok (frD (back ws f)) m := by
  rw [ff12]
  obtain ⟨L, hL, hr⟩ : ∃ L : List D, L.length = 1000000 ∧ evit (E (k + 5)) (.rng (.cons (.glob 3) .nil)) ⟨[some (.val s.d), none, none, none, some (.own []), some (.val (.int 0)), some (.val s.d), none, none, none, none, none, none], m⟩ = .ok L ⟨[some (.val s.d), none, none, none, some (.own []), some (.val (.int 0)), some (.val s.d), none, none, none, none, none, none], m⟩ := by
    refine ⟨(List.range (1000000 : Int).toNat).map fun (i : Nat) => .int i, by rw [List.length_map, List.length_range]; rfl, ?_⟩
    simp only [evit, evs, ev, EC3, opt_some, bind_ok, rngD]
    rw [if_pos (by decide)]
    simp only [opt_some]
  obtain ⟨lap', x3', x6', x7', x8', x9', x10', x11', x12', e1⟩ := loop12 k m B hBt hcf hs hB L [] (some (.val s.d)) none none none (some (.val (.int 0))) none none none none none none (by omega) (by simp; omega)
  obtain ⟨h1, h2⟩ := low_run hlow
  obtain ⟨y3, e2⟩ := loop12r k m M hM ws.reverse (f, 1) (some (.val s.d)) lap' x3' (some (.val (.lst (ws.map .int)))) (some (.val (.int f))) x6' x7' x8' x9' x10' x11' x12' h1
  rw [h2] at e2
  have s1 : evS (E (k + 5)) (.par [(4, true), (5, false), (6, false)] (.cons (.lst .nil) (.cons (.const (.int 0)) (.cons (.var 0) .nil)))) ⟨[some (.val s.d), none, none, none, none, none, none, none, none, none, none, none, none], m⟩ =
      .ok .next ⟨[some (.val s.d), none, none, none, some (.own []), some (.val (.int 0)), some (.val s.d), none, none, none, none, none, none], m⟩ := by
    simp [runB, evSs, evS, ev, evs, evo, evit, tst, rdv, peek, peekR, rderef, biD, isTy, truth, cmD, isVar, seqOf, itemsOf, idxD, atI, ixN, sizeLine_eq, setV, asg, asgs, DL.isNon, lseqOf, blsOf, put1, own1]
  have s2 : evS (E (k + 5)) (.forr (.nm 1) (.rng (.cons (.glob 3) .nil)) l12_1) ⟨[some (.val s.d), none, none, none, some (.own []), some (.val (.int 0)), some (.val s.d), none, none, none, none, none, none], m⟩ =
      .ok .next ⟨[some (.val s.d), lap', none, x3', some (.own ([] ++ ws.map .int)), some (.val (.int f)), x6', x7', x8', x9', x10', x11', x12'], m⟩ := by
    rw [evS, hr]
    simp only [bind_ok]
    exact e1
  have s3 : evS (E (k + 5)) (.set 2 (.tup (.cons (.var 5) (.cons (.const (.int 1)) .nil)))) ⟨[some (.val s.d), lap', none, x3', some (.own ([] ++ ws.map .int)), some (.val (.int f)), x6', x7', x8', x9', x10', x11', x12'], m⟩ =
      .ok .next ⟨[some (.val s.d), lap', some (.val (frD (f, 1))), x3', some (.own (ws.map .int)), some (.val (.int f)), x6', x7', x8', x9', x10', x11', x12'], m⟩ := by
    simp [runB, evSs, evS, ev, evs, evo, evit, tst, rdv, peek, peekR, rderef, biD, isTy, truth, cmD, isVar, seqOf, itemsOf, idxD, atI, ixN, sizeLine_eq, setV, asg, asgs, DL.isNon, lseqOf, blsOf, frD]
  have s4 : evS (E (k + 5)) (.forr (.nm 3) (.seq (.rev (.var 4))) l12_0) ⟨[some (.val s.d), lap', some (.val (frD (f, 1))), x3', some (.own (ws.map .int)), some (.val (.int f)), x6', x7', x8', x9', x10', x11', x12'], m⟩ =
      .ok .next ⟨[some (.val s.d), lap', some (.val (frD (back ws f))), y3, some (.val (.lst (ws.map .int))), some (.val (.int f)), x6', x7', x8', x9', x10', x11', x12'], m⟩ := by
    have q : evit (E (k + 5)) (.seq (.rev (.var 4))) ⟨[some (.val s.d), lap', some (.val (frD (f, 1))), x3', some (.own (ws.map .int)), some (.val (.int f)), x6', x7', x8', x9', x10', x11', x12'], m⟩ = .ok (ws.reverse.map .int) ⟨[some (.val s.d), lap', some (.val (frD (f, 1))), x3', some (.val (.lst (ws.map .int))), some (.val (.int f)), x6', x7', x8', x9', x10', x11', x12'], m⟩ := by
      simp [runB, evSs, evS, ev, evs, evo, evit, tst, rdv, peek, peekR, rderef, biD, isTy, truth, cmD, isVar, seqOf, itemsOf, idxD, atI, ixN, sizeLine_eq, setV, asg, asgs, DL.isNon, lseqOf, blsOf, revD]
    rw [evS, q]
    simp only [bind_ok]
    exact e2
  have s5 : evS (E (k + 5)) (.ret (.var 2)) ⟨[some (.val s.d), lap', some (.val (frD (back ws f))), y3, some (.val (.lst (ws.map .int))), some (.val (.int f)), x6', x7', x8', x9', x10', x11', x12'], m⟩ =
      .ok (.ret (frD (back ws f))) ⟨[some (.val s.d), lap', some (.val (frD (back ws f))), y3, some (.val (.lst (ws.map .int))), some (.val (.int f)), x6', x7', x8', x9', x10', x11', x12'], m⟩ := by
    simp [runB, evSs, evS, ev, evs, evo, evit, tst, rdv, peek, peekR, rderef, biD, isTy, truth, cmD, isVar, seqOf, itemsOf, idxD, atI, ixN, sizeLine_eq, setV, asg, asgs, DL.isNon, lseqOf, blsOf]
  have all : evSs (E (k + 5)) b12 ⟨[some (.val s.d), none, none, none, none, none, none, none, none, none, none, none, none], m⟩ = .ok (.ret (frD (back ws f))) ⟨[some (.val s.d), lap', some (.val (frD (back ws f))), y3, some (.val (.lst (ws.map .int))), some (.val (.int f)), x6', x7', x8', x9', x10', x11', x12'], m⟩ := by
    unfold b12
    rw [seq_next s1, seq_next s2, seq_next s3, seq_next s4, seq_ret s5]
  exact runB_ret (s0 := ⟨[some (.val s.d), none, none, none, none, none, none, none, none, none, none, none, none], m⟩) rfl all
end K84
end

section
set_option Elab.async false
set_option linter.all false
set_option autoImplicit false
set_option maxRecDepth 100000
set_option maxHeartbeats 1000000
namespace K84
open PySem PySem.Spec L2 DL
theorem loopW_more {t : S → R Bool} {body : S → R Fl} {f : Fl} {s' : S} : ∀ (n j : Nat) (s : S), loopW t body n s = .ok f s' → loopW t body (n + j) s = .ok f s'
  | 0, _, s, h => by cases h
  | n + 1, j, s, h => by
    rw [show n + 1 + j = (n + j) + 1 by omega]
    rw [loopW] at h ⊢
    obtain ⟨b, s1, e1, h⟩ := bind_eq_ok h
    rw [e1]
    simp only [bind_ok]
    cases b with
    | false => exact h
    | true =>
      simp only [if_true] at h ⊢
      obtain ⟨fl, s2, e2, h⟩ := bind_eq_ok h
      rw [e2]
      simp only [bind_ok]
      cases fl with
      | next => exact loopW_more n j s2 h
      | cont => exact loopW_more n j s2 h
      | brk => exact h
      | ret d => exact h
theorem whileR_ok {t : S → R Bool} {body : S → R Fl} {s : S} {n : Nat} {f : Fl} {s' : S} (h : loopW t body n s = .ok f s') : whileR t body s = .ok f s' := by
  have hx : ∃ n f s', loopW t body n s = .ok f s' := ⟨n, f, s', h⟩
  unfold whileR
  rw [dif_pos hx]
  obtain ⟨f2, s2, h2⟩ := hx.choose_spec
  have e1 := loopW_more _ n s h2
  have e2 := loopW_more _ hx.choose s h
  rw [Nat.add_comm] at e1
  rw [h2]
  rw [e1] at e2
  exact e2
theorem loopW_step {t : S → R Bool} {body : S → R Fl} {n : Nat} {s s1 s2 : S} {r : R Fl} (ht : t s = .ok true s1) (hb : body s1 = .ok .next s2) (h : loopW t body n s2 = r) : loopW t body (n + 1) s = r := by
  rw [loopW, ht]
  simp only [bind_ok, if_true, hb]
  exact h
theorem loopW_end {t : S → R Bool} {body : S → R Fl} {n : Nat} {s s1 : S} (ht : t s = .ok false s1) : loopW t body (n + 1) s = .ok .next s1 := by
  rw [loopW, ht]
  simp
/-! ### parents -/
def add2 (t : Int) (x y : Int × Int) : Int × Int := (x.1 + t * y.1, x.2 + t * y.2)
def tms (r : Int × Int) : Int := if r.1 % r.2 ≠ 0 then r.1 / r.2 else r.1 / r.2 - 1
abbrev t13 : DT := .tv (.cmp .ne (.idx (.var 3) (.const (.int 1))) (.const (.int 0)))
theorem tst13 (k : Nat) (m : List (List D)) (x0 x1 x2 x4 x5 x6 x7 : Option Sl) (r : Int × Int) : tst (E k) t13 ⟨[x0, x1, x2, some (.val (frD r)), x4, x5, x6, x7], m⟩ = .ok (!decide (r.2 = 0)) ⟨[x0, x1, x2, some (.val (frD r)), x4, x5, x6, x7], m⟩ := by
  unfold t13 frD
  simp [runB, evSs, evS, ev, evs, evo, evit, tst, rdv, peek, peekR, rderef, biD, isTy, truth, cmD, isVar, seqOf, itemsOf, idxD, atI, ixN, sizeLine_eq, setV, asg, asgs, DL.isNon, lseqOf, blsOf]
theorem step13 (k : Nat) (m : List (List D)) (x0 x5 x6 x7 : Option Sl) (l r rs : Int × Int) (b : Bool) (h : 0 < rs.2) (b1 : Bt rs.2 4000) (b2 : Bt (tms rs) 4000) (c1 : Bt l.1 4000) (c2 : Bt l.2 4000) (c3 : Bt r.1 4000) (c4 : Bt r.2 4000) :
    ∃ y5 y6 y7, evSs (E k) l13_0 ⟨[x0, some (.val (frD l)), some (.val (frD r)), some (.val (frD rs)), some (.val (.bl b)), x5, x6, x7], m⟩ =
      .ok .next ⟨[x0, some (.val (frD (if b then add2 (tms rs) l r else l))), some (.val (frD (if b then r else add2 (tms rs) r l))), some (.val (frD (rs.2, rs.1 % rs.2))), some (.val (.bl (!b))), y5, y6, y7], m⟩ := by
  have f1 := fdiv_ok (x := rs.1) h (bt_mono b1 (show 4000 ≤ 9000 by omega))
  have f2 := mod_ok (x := rs.1) h
  have up : ∀ {x : Int}, Bt x 4000 → Bt x 100000 := fun h => bt_mono h (by omega)
  have g1 := mul_ok (up b2) (up c1)
  have g2 := mul_ok (up b2) (up c2)
  have g3 := mul_ok (up b2) (up c3)
  have g4 := mul_ok (up b2) (up c4)
  refine ⟨some (.val (.int (tms rs))), some (.val (.int (rs.1 / rs.2))), some (.val (.int (rs.1 % rs.2))), ?_⟩
  unfold l13_0 frD
  by_cases z : rs.1 % rs.2 = 0
  · have e : tms rs = rs.1 / rs.2 - 1 := by unfold tms; rw [if_neg (by simpa using z)]
    rw [e] at g1 g2 g3 g4 ⊢
    cases b <;> simp [runB, evSs, evS, ev, evs, evo, evit, tst, rdv, peek, peekR, rderef, biD, isTy, truth, cmD, isVar, seqOf, itemsOf, idxD, atI, ixN, sizeLine_eq, setV, asg, asgs, DL.isNon, lseqOf, blsOf, f1, f2, z, put1, g1, g2, g3, g4, add2]
  · have e : tms rs = rs.1 / rs.2 := by unfold tms; rw [if_pos z]
    rw [e] at g1 g2 g3 g4 ⊢
    cases b <;> simp [runB, evSs, evS, ev, evs, evo, evit, tst, rdv, peek, peekR, rderef, biD, isTy, truth, cmD, isVar, seqOf, itemsOf, idxD, atI, ixN, sizeLine_eq, setV, asg, asgs, DL.isNon, lseqOf, blsOf, f1, f2, z, put1, g1, g2, g3, g4, add2]
structure PI13 (M p q : Int) (l r rs : Int × Int) (b : Bool) : Prop where
  l1 : 0 ≤ l.1
  l2 : 1 ≤ l.2
  r1 : 0 ≤ r.1
  r2 : 0 ≤ r.2
  det : r.1 * l.2 - l.1 * r.2 = 1
  rs1 : 0 < rs.1
  rs2 : 0 < rs.2
  co : gI rs.1 rs.2 = 1
  e1 : (if b then rs.1 * r.1 + rs.2 * l.1 else rs.1 * l.1 + rs.2 * r.1) = p
  e2 : (if b then rs.1 * r.2 + rs.2 * l.2 else rs.1 * l.2 + rs.2 * r.2) = q
  m1 : rs.1 ≤ M
  m2 : rs.2 ≤ M
  m3 : l.1 ≤ M ∧ l.2 ≤ M ∧ r.1 ≤ M ∧ r.2 ≤ M
structure Par (p q : Int) (l r : Int × Int) : Prop where
  l1 : 0 ≤ l.1
  l2 : 1 ≤ l.2
  r1 : 0 ≤ r.1
  r2 : 0 ≤ r.2
  det : r.1 * l.2 - l.1 * r.2 = 1
  s1 : l.1 + r.1 = p
  s2 : l.2 + r.2 = q
theorem le_of_mul {a b c : Int} (h1 : 1 ≤ a) (h2 : 0 ≤ b) (h : a * b ≤ c) : b ≤ c := by
  have := Int.mul_le_mul_of_nonneg_right h1 h2
  omega
theorem pi_step {M p q : Int} {l r rs : Int × Int} {b : Bool} (h : PI13 M p q l r rs b) (hp : p ≤ M) (hq : q ≤ M) :
    (rs.1 % rs.2 ≠ 0 → PI13 M p q (if b then add2 (tms rs) l r else l) (if b then r else add2 (tms rs) r l) (rs.2, rs.1 % rs.2) (!b)) ∧
    (rs.1 % rs.2 = 0 → Par p q (if b then add2 (tms rs) l r else l) (if b then r else add2 (tms rs) r l)) ∧ 0 ≤ tms rs ∧ tms rs ≤ M := by
  obtain ⟨l1, l2, r1, r2, det, rs1, rs2, co, e1, e2, m1, m2, m3⟩ := h
  have d0 := Int.ediv_nonneg (show 0 ≤ rs.1 by omega) (show 0 ≤ rs.2 by omega)
  have d1 := Int.mul_ediv_add_emod rs.1 rs.2
  have d2 := Int.emod_nonneg rs.1 (b := rs.2) (by omega)
  have d3 := Int.emod_lt_of_pos rs.1 rs2
  have d4 := Int.ediv_le_self rs.2 (show 0 ≤ rs.1 by omega)
  generalize hw : rs.1 / rs.2 = w at *
  generalize ht : rs.1 % rs.2 = t at *
  have et : tms rs = if t ≠ 0 then w else w - 1 := by unfold tms; rw [ht, hw]
  obtain ⟨r0, rr⟩ := rs
  simp only at *
  refine ⟨fun hz => ?_, fun hz => ?_, ?_⟩
  · rw [et, if_pos hz]
    have hco : gI rr t = 1 := by
      have : t = r0 - w * rr := by grind
      rw [gI_comm, this, gI_sub]
      exact co
    have wr1 := Int.mul_nonneg d0 r1
    have wr2 := Int.mul_nonneg d0 r2
    have wl1 := Int.mul_nonneg d0 l1
    have wl2 := Int.mul_nonneg d0 (show 0 ≤ l.2 by omega)
    have tr1 := Int.mul_nonneg d2 r1
    have tr2 := Int.mul_nonneg d2 r2
    have tl1 := Int.mul_nonneg d2 l1
    have tl2 := Int.mul_nonneg d2 (show 0 ≤ l.2 by omega)
    cases b with
    | true =>
      simp only [if_true, Bool.not_true, add2] at *
      have f1 : rr * (l.1 + w * r.1) + t * r.1 = p := by grind
      have f2 : rr * (l.2 + w * r.2) + t * r.2 = q := by grind
      have g1 := le_of_mul (a := rr) (b := l.1 + w * r.1) (c := M) (by omega) (by omega) (by omega)
      have g2 := le_of_mul (a := rr) (b := l.2 + w * r.2) (c := M) (by omega) (by omega) (by omega)
      exact ⟨by simp only; omega, by simp only; omega, r1, r2, by simp only; grind, by simp only; omega, by simp only; omega, hco, by simpa using f1, by simpa using f2, m2, by simp only; omega, ⟨g1, g2, m3.2.2⟩⟩
    | false =>
      simp only [Bool.false_eq_true, if_false, Bool.not_false, add2] at *
      have f1 : rr * (r.1 + w * l.1) + t * l.1 = p := by grind
      have f2 : rr * (r.2 + w * l.2) + t * l.2 = q := by grind
      have g1 := le_of_mul (a := rr) (b := r.1 + w * l.1) (c := M) (by omega) (by omega) (by omega)
      have g2 := le_of_mul (a := rr) (b := r.2 + w * l.2) (c := M) (by omega) (by omega) (by omega)
      exact ⟨l1, l2, by simp only; omega, by simp only; omega, by simp only; grind, by simp only; omega, by simp only; omega, hco, by simpa using f1, by simpa using f2, m2, by simp only; omega, ⟨m3.1, m3.2.1, g1, g2⟩⟩
  · have et2 : tms (r0, rr) = w - 1 := by rw [et, if_neg (by simpa using hz)]
    rw [et2]
    have hrr : rr = 1 := by
      have : rr ∣ 1 := dvd_of_co (a := r0) co ⟨w, by grind⟩
      have := Int.le_of_dvd (by omega) this
      omega
    subst hrr
    have hw0 : w = r0 := by omega
    have x0 : 0 ≤ w - 1 := by omega
    have wr1 := Int.mul_nonneg x0 r1
    have wr2 := Int.mul_nonneg x0 r2
    have wl1 := Int.mul_nonneg x0 l1
    have wl2 := Int.mul_nonneg x0 (show 0 ≤ l.2 by omega)
    subst hw0
    cases b with
    | true =>
      simp only [if_true, add2] at *
      exact ⟨by simp only; omega, by simp only; omega, r1, r2, by simp only; grind, by simp only; grind, by simp only; grind⟩
    | false =>
      simp only [Bool.false_eq_true, if_false, add2] at *
      exact ⟨l1, l2, by simp only; omega, by simp only; omega, by simp only; grind, by simp only; grind, by simp only; grind⟩
  · rw [et]
    by_cases hz : t = 0
    · rw [if_neg (by simpa using hz)]
      have : 1 ≤ w := by
        refine Classical.byContradiction fun hh => ?_
        have w0 : w = 0 := by omega
        rw [w0] at d1
        simp at d1
        omega
      omega
    · rw [if_pos hz]
      omega
theorem loop13 (k : Nat) (m : List (List D)) (M p q : Int) (hM : Bt M 3900) (hp : p ≤ M) (hq : q ≤ M) : ∀ (n : Nat) (x0 x5 x6 x7 : Option Sl) (l r rs : Int × Int) (b : Bool), rs.2.toNat ≤ n → PI13 M p q l r rs b →
    ∃ j l' r' y3 y4 y5 y6 y7, loopW (tst (E k) t13) (evSs (E k) l13_0) j ⟨[x0, some (.val (frD l)), some (.val (frD r)), some (.val (frD rs)), some (.val (.bl b)), x5, x6, x7], m⟩ = .ok .next ⟨[x0, some (.val (frD l')), some (.val (frD r')), y3, y4, y5, y6, y7], m⟩ ∧ Par p q l' r'
  | 0, x0, x5, x6, x7, l, r, rs, b, hn, h => by have := h.rs2; omega
  | n + 1, x0, x5, x6, x7, l, r, rs, b, hn, h => by
    obtain ⟨h1, h2, h3, h4⟩ := pi_step h hp hq
    have up : ∀ {x : Int}, 0 ≤ x → x ≤ M → Bt x 4000 := fun h0 hx => bt_mono (bt_le hM (by omega) h0 hx) (by omega)
    obtain ⟨y5, y6, y7, e⟩ := step13 k m x0 x5 x6 x7 l r rs b h.rs2 (up (by have := h.rs2; omega) h.m2) (up h3 h4) (up h.l1 h.m3.1) (up (by have := h.l2; omega) h.m3.2.1) (up h.r1 h.m3.2.2.1) (up h.r2 h.m3.2.2.2)
    have t1 := tst13 k m x0 (some (.val (frD l))) (some (.val (frD r))) (some (.val (.bl b))) x5 x6 x7 rs
    have hz : (!decide (rs.2 = 0)) = true := by have := h.rs2; simp; omega
    rw [hz] at t1
    by_cases z : rs.1 % rs.2 = 0
    · refine ⟨2, _, _, some (.val (frD (rs.2, rs.1 % rs.2))), some (.val (.bl (!b))), y5, y6, y7, loopW_step t1 e ?_, h2 z⟩
      have t2 := tst13 k m x0 (some (.val (frD (if b then add2 (tms rs) l r else l)))) (some (.val (frD (if b then r else add2 (tms rs) r l)))) (some (.val (.bl (!b)))) y5 y6 y7 (rs.2, rs.1 % rs.2)
      have hz2 : (!decide ((rs.2, rs.1 % rs.2).2 = 0)) = false := by simp [z]
      rw [hz2] at t2
      exact loopW_end t2
    · have hlt := Int.emod_lt_of_pos rs.1 h.rs2
      have hge := Int.emod_nonneg rs.1 (b := rs.2) (by have := h.rs2; omega)
      obtain ⟨j, l', r', y3', y4', y5', y6', y7', e2, hP⟩ := loop13 k m M p q hM hp hq n x0 y5 y6 y7 _ _ (rs.2, rs.1 % rs.2) (!b) (by simp only; omega) (h1 z)
      exact ⟨j + 1, l', r', y3', y4', y5', y6', y7', loopW_step t1 e e2, hP⟩
def parD (q : Int) (l r : Int × Int) : D := if q = 1 then .tup [] else .tup [frD l, frD r]
/-- parents_of -/
theorem v13 (k : Nat) (p q : Int) (m : List (List D)) (M : Int) (hM : Bt M 3900) (hp : p ≤ M) (hq : q ≤ M) (p0 : 0 ≤ p) (q0 : 0 < q) (co : gI p q = 1) : ∃ l r, F (k + 1) 13 [frD (p, q)] m = .ok (parD q l r) m ∧ (q ≠ 1 → Par p q l r) := by
  rw [ff13]
  by_cases h1 : q = 1
  · refine ⟨(0, 0), (0, 0), ?_, fun h => absurd h1 h⟩
    subst h1
    unfold b13 parD frD
    simp [runB, evSs, evS, ev, evs, evo, evit, tst, rdv, peek, peekR, rderef, biD, isTy, truth, cmD, isVar, seqOf, itemsOf, idxD, atI, ixN, sizeLine_eq, setV, asg, asgs, DL.isNon, lseqOf, blsOf]
  · have hpp : 0 < p := by
      refine Classical.byContradiction fun hh => ?_
      have z : p = 0 := by omega
      rw [z] at co
      unfold gI at co
      have e0 : (0 : Int).natAbs = 0 := rfl
      rw [e0, Nat.gcd_zero_left] at co
      omega
    obtain ⟨j, l, r, y3, y4, y5, y6, y7, e, hP⟩ := loop13 k m M p q hM hp hq q.toNat (some (.val (frD (p, q)))) none none none (0, 1) (1, 0) (p, q) true (Nat.le_refl _)
      ⟨by simp, by simp, by simp, by simp, by simp, hpp, q0, co, by simp, by simp, hp, hq, by simp; omega⟩
    refine ⟨l, r, ?_, fun _ => hP⟩
    have s1 : evS (E k) (.ite (.tv (.cmp .eq (.idx (.var 0) (.const (.int 1))) (.const (.int 1)))) (.cons (.ret (.tup .nil)) .nil) .nil) ⟨[some (.val (frD (p, q))), none, none, none, none, none, none, none], m⟩ = .ok .next ⟨[some (.val (frD (p, q))), none, none, none, none, none, none, none], m⟩ := by
      unfold frD
      simp [runB, evSs, evS, ev, evs, evo, evit, tst, rdv, peek, peekR, rderef, biD, isTy, truth, cmD, isVar, seqOf, itemsOf, idxD, atI, ixN, sizeLine_eq, setV, asg, asgs, DL.isNon, lseqOf, blsOf, h1]
    have s2 : evS (E k) (.unp (.tup (.cons (.nm 1) (.cons (.nm 2) (.cons (.nm 3) (.cons (.nm 4) .nil))))) (.tup (.cons (.tup (.cons (.const (.int 0)) (.cons (.const (.int 1)) .nil))) (.cons (.tup (.cons (.const (.int 1)) (.cons (.const (.int 0)) .nil))) (.cons (.var 0) (.cons (.const (.bl true)) .nil)))))) ⟨[some (.val (frD (p, q))), none, none, none, none, none, none, none], m⟩ =
        .ok .next ⟨[some (.val (frD (p, q))), some (.val (frD (0, 1))), some (.val (frD (1, 0))), some (.val (frD (p, q))), some (.val (.bl true)), none, none, none], m⟩ := by
      unfold frD
      simp [runB, evSs, evS, ev, evs, evo, evit, tst, rdv, peek, peekR, rderef, biD, isTy, truth, cmD, isVar, seqOf, itemsOf, idxD, atI, ixN, sizeLine_eq, setV, asg, asgs, DL.isNon, lseqOf, blsOf]
    have s3 : evS (E k) (.whl t13 l13_0) ⟨[some (.val (frD (p, q))), some (.val (frD (0, 1))), some (.val (frD (1, 0))), some (.val (frD (p, q))), some (.val (.bl true)), none, none, none], m⟩ = .ok .next ⟨[some (.val (frD (p, q))), some (.val (frD l)), some (.val (frD r)), y3, y4, y5, y6, y7], m⟩ := by
      rw [evS]
      exact whileR_ok e
    have s4 : evS (E k) (.ret (.tup (.cons (.var 1) (.cons (.var 2) .nil)))) ⟨[some (.val (frD (p, q))), some (.val (frD l)), some (.val (frD r)), y3, y4, y5, y6, y7], m⟩ = .ok (.ret (parD q l r)) ⟨[some (.val (frD (p, q))), some (.val (frD l)), some (.val (frD r)), y3, y4, y5, y6, y7], m⟩ := by
      unfold parD
      rw [if_neg h1]
      simp [runB, evSs, evS, ev, evs, evo, evit, tst, rdv, peek, peekR, rderef, biD, isTy, truth, cmD, isVar, seqOf, itemsOf, idxD, atI, ixN, sizeLine_eq, setV, asg, asgs, DL.isNon, lseqOf, blsOf]
    refine runB_ret (s0 := ⟨[some (.val (frD (p, q))), none, none, none, none, none, none, none], m⟩) rfl (s := ⟨[some (.val (frD (p, q))), some (.val (frD l)), some (.val (frD r)), y3, y4, y5, y6, y7], m⟩) ?_
    unfold b13
    rw [seq_next s1, seq_next s2, seq_next s3, seq_ret s4]
end K84
end

section
set_option Elab.async false
set_option linter.all false
set_option autoImplicit false
set_option maxRecDepth 100000
set_option maxHeartbeats 1000000
namespace K84
open PySem PySem.Spec L2 DL
def BY : Int := 10 ^ 300
theorem EC0' (k : Nat) : (E k).C 0 = some (.int BY) := EC0 k
theorem by_lt {x : Int} (h : Bt x 900) : x < BY := by
  have h1 := bt_lt h
  have h2 : (2 : Nat) ^ 900 < 10 ^ 300 := by decide +kernel
  have h3 : BY = ((10 ^ 300 : Nat) : Int) := by unfold BY; rw [Int.natCast_pow]; rfl
  rw [h3]
  generalize (10 : Nat) ^ 300 = Y at *
  generalize (2 : Nat) ^ 900 = Z at *
  omega
theorem v4 (k : Nat) (p q : Int) (m : List (List D)) (q0 : 0 < q) (co : gI p q = 1) (hp : 0 ≤ p) (hp2 : p < BY) (hq2 : q < BY) : F (k + 3) 4 [frD (p, q)] m = .ok (.bl true) m := by
  rw [ff4]
  have e3 := v3 k (frD (p, q)) m
  have f : isFr (frD (p, q)) = true := by
    unfold frD isFr
    rw [gI_one_iff] at co
    simp [co]
    omega
  rw [f] at e3
  have a1 : ¬ p < 0 := by omega
  unfold b4 frD at *
  simp [runB, evSs, evS, ev, evs, evo, evit, tst, rdv, peek, peekR, rderef, biD, isTy, truth, cmD, isVar, seqOf, itemsOf, idxD, atI, ixN, sizeLine_eq, setV, asg, asgs, DL.isNon, lseqOf, blsOf, EF, e3, EC0', a1, hp2, hq2]
/-- a stretch that may be given -/
structure Stt.Good (s : Stt) (B : Int) : Prop where
  ok : s.Ok
  bnd : Bnd s B
  bt : Bt B 800
  end' : ∃ c d, s.hi = some (c, d)
theorem v9 (k : Nat) (s : Stt) (B : Int) (m : List (List D)) (h : s.Good B) : F (k + 4) 9 [s.d] m = .ok (.bl true) m := by
  rw [ff9]
  obtain ⟨hs, hB, hBt, c, d, hh⟩ := h
  obtain ⟨d0, c0, gcd, ho⟩ := hs.hi c d hh
  obtain ⟨b1, b2⟩ := hB.c c d hh
  have a0 := hs.a0
  have b0 := hs.b0
  have ba := hB.a
  have bb := hB.b
  have up : ∀ {x : Int}, 0 ≤ x → x ≤ B → Bt x 800 := fun h0 hx => bt_le hBt (by omega) h0 hx
  have e4 := v4 k s.a s.b m b0 hs.co a0 (by_lt (bt_mono (up a0 ba) (by omega))) (by_lt (bt_mono (up (by omega) bb) (by omega)))
  have e4' := v4 k c d m d0 gcd c0 (by_lt (bt_mono (up c0 b1) (by omega))) (by_lt (bt_mono (up (by omega) b2) (by omega)))
  have e7 := v7 (k + 2) s.a s.b c d m (bt_mono (up a0 ba) (by omega)) (bt_mono (up (by omega) bb) (by omega)) (bt_mono (up c0 b1) (by omega)) (bt_mono (up (by omega) b2) (by omega))
  have et := eq_tt s.a s.b c d
  obtain ⟨a, b, il, hi, ih⟩ := s
  simp only at *
  subst hh
  have hc : ∀ v : List D, ev (E (k + 3)) c9_0 ⟨[some (.val (.tup [.tup [.int a, .int b], .bl il, .tup [.int c, .int d], .bl ih])), none], m⟩ = .ok (.lst [.bl true, .bl true]) ⟨[some (.val (.tup [.tup [.int a, .int b], .bl il, .tup [.int c, .int d], .bl ih])), none], m⟩ := fun _ => by
    unfold c9_0
    rw [comp1 (ds := [.int 1, .int 3]) (g := fun _ => .bl true)]
    · simp
    · simp [runB, evSs, evS, ev, evs, evo, evit, tst, rdv, peek, peekR, rderef, biD, isTy, truth, cmD, isVar, seqOf, itemsOf, idxD, atI, ixN, sizeLine_eq, setV, asg, asgs, DL.isNon, lseqOf, blsOf]
    · simp
    · simp [plainAt]
    · simp [sizeLine_eq]
    · intro x hx
      simp at hx
      rcases hx with rfl | rfl <;> simp [runB, evSs, evS, ev, evs, evo, evit, tst, rdv, peek, peekR, rderef, biD, isTy, truth, cmD, isVar, seqOf, itemsOf, idxD, atI, ixN, sizeLine_eq, setV, asg, asgs, DL.isNon, lseqOf, blsOf]
  have hc := hc []
  have a1 : ¬ a < 0 := by omega
  unfold b9 Stt.d hiD frD at *
  by_cases hlt : a * d < c * b
  · simp [runB, evSs, evS, ev, evs, evo, evit, tst, rdv, peek, peekR, rderef, biD, isTy, truth, cmD, isVar, seqOf, itemsOf, idxD, atI, ixN, sizeLine_eq, setV, asg, asgs, DL.isNon, lseqOf, blsOf, hc, EF, e4, e4', e7, a1, hlt]
  · rcases ho with ho | ⟨ho, hl, hr⟩
    · exact absurd ho hlt
    · obtain ⟨q1, q2⟩ := frac_eq d0 b0 gcd hs.co ho.symm
      have q3 : a = c := q1
      have q4 : b = d := q2
      clear q1 q2 hs hB up
      subst hl hr
      subst q3 q4
      simp only [decide_true, Bool.and_true] at et
      simp [runB, evSs, evS, ev, evs, evo, evit, tst, rdv, peek, peekR, rderef, biD, isTy, truth, cmD, isVar, seqOf, itemsOf, idxD, atI, ixN, sizeLine_eq, setV, asg, asgs, DL.isNon, lseqOf, blsOf, hc, EF, e4, e4', e7, a1, et]
theorem v10 (k : Nat) (s : Stt) (B : Int) (m : List (List D)) (h : s.Good B) : F (k + 5) 10 [s.d] m = .ok .non m := by
  rw [ff10]
  have e9 := v9 k s B m h
  unfold b10
  simp [runB, evSs, evS, ev, evs, evo, evit, tst, rdv, peek, peekR, rderef, biD, isTy, truth, cmD, isVar, seqOf, itemsOf, idxD, atI, ixN, sizeLine_eq, setV, asg, asgs, DL.isNon, lseqOf, blsOf, EF, e9]
/-- what simplest_of gives -/
theorem so (s : Stt) (B : Int) (h : s.Good B) : ∃ p q, Best s p q ∧ p ≤ B + B ∧ q ≤ B + B ∧ ∀ (k : Nat) (m : List (List D)), B < 400000 → F (k + 6) 12 [s.d] m = .ok (frD (p, q)) m := by
  obtain ⟨hs, hB, hBt, c, d, hh⟩ := h
  obtain ⟨d0, c0, gcd, ho⟩ := hs.hi c d hh
  obtain ⟨b1, b2⟩ := hB.c c d hh
  have hB0 : 0 < B := by have := hs.b0; have := hB.b; omega
  have ha := hB.a
  have hb := hB.b
  obtain ⟨ws, f, hcf, hl, hbest, hlow⟩ := cf_all (meas s) s B (B + B) (Nat.le_refl _) hs hB ⟨s.a + c, s.b + d, by have := hs.b0; omega, med_in hs hh, by omega, by omega⟩ (by omega)
  have l1 := hbest.least _ _ (by have := hs.b0; omega) (med_in hs hh)
  refine ⟨(back ws f).1, (back ws f).2, hbest, by omega, by omega, fun k m hsm => ?_⟩
  have hm : meas s < 1000000 := by
    unfold meas
    rw [hh]
    simp only
    omega
  exact v12 k s m B (B + B) ws f hs hB (bt_mono hBt (by omega)) (bt_mono (bt_add hBt hBt) (by omega)) hcf (by omega) hlow
structure Told (s : Stt) (B p q : Int) (l r : Int × Int) : Prop where
  best : Best s p q
  par : q ≠ 1 → Par p q l r
end K84
end

section
set_option Elab.async false
set_option linter.all false
set_option autoImplicit false
set_option maxRecDepth 100000
set_option maxHeartbeats 1000000
namespace K84
open PySem PySem.Spec L2 DL
theorem v32 (k : Nat) (v : D) (m : List (List D)) : F (k + 1) 32 [v] m = .ok (.bl (isI v)) m := by
  rw [ff32]
  unfold b32
  cases v <;> simp [runB, evSs, evS, ev, evs, evo, evit, tst, rdv, peek, peekR, rderef, biD, isTy, truth, cmD, isVar, seqOf, itemsOf, idxD, atI, ixN, sizeLine_eq, setV, asg, asgs, DL.isNon, lseqOf, blsOf, isI]
abbrev t28 : DT := .tv (.cmp .ne (.var 3) (.const (.int 0)))
theorem loop28 (k : Nat) (m : List (List D)) : ∀ (n : Nat) (x0 x1 : Option Sl) (a b : Nat), b ≤ n →
    ∃ j, loopW (tst (E k) t28) (evSs (E k) l28_0) j ⟨[x0, x1, some (.val (.int a)), some (.val (.int b))], m⟩ = .ok .next ⟨[x0, x1, some (.val (.int (Nat.gcd a b : Nat))), some (.val (.int 0))], m⟩
  | n, x0, x1, a, 0, _ => by
    refine ⟨1, loopW_end ?_⟩
    unfold t28
    simp [runB, evSs, evS, ev, evs, evo, evit, tst, rdv, peek, peekR, rderef, biD, isTy, truth, cmD, isVar, seqOf, itemsOf, idxD, atI, ixN, sizeLine_eq, setV, asg, asgs, DL.isNon, lseqOf, blsOf]
  | 0, x0, x1, a, b + 1, h => by omega
  | n + 1, x0, x1, a, b + 1, h => by
    have hlt := Nat.mod_lt a (show 0 < b + 1 by omega)
    obtain ⟨j, e⟩ := loop28 k m n x0 x1 (b + 1) (a % (b + 1)) (by omega)
    have md : op2 .mod (.int (a : Int)) (.int ((b + 1 : Nat) : Int)) = some (.int ((a % (b + 1) : Nat) : Int)) := by
      rw [mod_ok (by omega)]
      rfl
    have hg : Nat.gcd (b + 1) (a % (b + 1)) = Nat.gcd a (b + 1) := by rw [Nat.gcd_comm a, Nat.gcd_rec (b + 1) a, Nat.gcd_comm]
    rw [hg] at e
    refine ⟨j + 1, loopW_step (s1 := ⟨[x0, x1, some (.val (.int a)), some (.val (.int ((b + 1 : Nat) : Int)))], m⟩) ?_ ?_ e⟩
    · have hne : ¬ (((b + 1 : Nat) : Int) = 0) := by omega
      unfold t28
      generalize ((b + 1 : Nat) : Int) = bb at *
      simp [runB, evSs, evS, ev, evs, evo, evit, tst, rdv, peek, peekR, rderef, biD, isTy, truth, cmD, isVar, seqOf, itemsOf, idxD, atI, ixN, sizeLine_eq, setV, asg, asgs, DL.isNon, lseqOf, blsOf, hne]
    · unfold l28_0
      generalize ((b + 1 : Nat) : Int) = bb at *
      simp [runB, evSs, evS, ev, evs, evo, evit, tst, rdv, peek, peekR, rderef, biD, isTy, truth, cmD, isVar, seqOf, itemsOf, idxD, atI, ixN, sizeLine_eq, setV, asg, asgs, DL.isNon, lseqOf, blsOf, put1, md]
theorem v28 (k : Nat) (p q : Int) (m : List (List D)) (h : 0 < q) (hb : Bt q 9000) : F (k + 1) 28 [.int p, .int q] m = .ok (frD (red p q)) m := by
  rw [ff28]
  have h0 : (0 : Int) < (Nat.gcd p.natAbs q.natAbs : Nat) := by
    have : 0 < Nat.gcd p.natAbs q.natAbs := Nat.gcd_pos_of_pos_right _ (by omega)
    omega
  have h1 : ((Nat.gcd p.natAbs q.natAbs : Nat) : Int) ≤ q := by
    have := Nat.gcd_le_right p.natAbs (show 0 < q.natAbs by omega)
    omega
  have gb : Bt (Nat.gcd p.natAbs q.natAbs : Nat) 9000 := bt_le hb (by omega) (by omega) h1
  obtain ⟨j, e⟩ := loop28 k m q.natAbs (some (.val (.int p))) (some (.val (.int q))) p.natAbs q.natAbs (Nat.le_refl _)
  have f1 := fdiv_ok (x := p) h0 gb
  have f2 := fdiv_ok (x := q) h0 gb
  have e1 : (if p < 0 then -p else p) = (p.natAbs : Int) := by split <;> omega
  have e2 : q = (q.natAbs : Int) := by omega
  have s1 : evS (E k) (.par [(2, false), (3, false)] (.cons (.bi .abs (.cons (.bi .int (.cons (.var 0) .nil)) .nil)) (.cons (.bi .int (.cons (.var 1) .nil)) .nil))) ⟨[some (.val (.int p)), some (.val (.int q)), none, none], m⟩ = .ok .next ⟨[some (.val (.int p)), some (.val (.int q)), some (.val (.int p.natAbs)), some (.val (.int q.natAbs))], m⟩ := by
    rw [← e2]
    simp [runB, evSs, evS, ev, evs, evo, evit, tst, rdv, peek, peekR, rderef, biD, isTy, truth, cmD, isVar, seqOf, itemsOf, idxD, atI, ixN, sizeLine_eq, setV, asg, asgs, DL.isNon, lseqOf, blsOf, put1, e1]
  have s2 : evS (E k) (.whl t28 l28_0) ⟨[some (.val (.int p)), some (.val (.int q)), some (.val (.int p.natAbs)), some (.val (.int q.natAbs))], m⟩ = .ok .next ⟨[some (.val (.int p)), some (.val (.int q)), some (.val (.int (Nat.gcd p.natAbs q.natAbs : Nat))), some (.val (.int 0))], m⟩ := by
    rw [evS]
    exact whileR_ok e
  have s3 : evS (E k) (.ret (.tup (.cons (.op .fdiv (.bi .int (.cons (.var 0) .nil)) (.var 2)) (.cons (.op .fdiv (.bi .int (.cons (.var 1) .nil)) (.var 2)) .nil)))) ⟨[some (.val (.int p)), some (.val (.int q)), some (.val (.int (Nat.gcd p.natAbs q.natAbs : Nat))), some (.val (.int 0))], m⟩ =
      .ok (.ret (frD (red p q))) ⟨[some (.val (.int p)), some (.val (.int q)), some (.val (.int (Nat.gcd p.natAbs q.natAbs : Nat))), some (.val (.int 0))], m⟩ := by
    unfold frD red gI
    simp [runB, evSs, evS, ev, evs, evo, evit, tst, rdv, peek, peekR, rderef, biD, isTy, truth, cmD, isVar, seqOf, itemsOf, idxD, atI, ixN, sizeLine_eq, setV, asg, asgs, DL.isNon, lseqOf, blsOf, f1, f2]
  refine runB_ret (s0 := ⟨[some (.val (.int p)), some (.val (.int q)), none, none], m⟩) rfl (s := ⟨[some (.val (.int p)), some (.val (.int q)), some (.val (.int (Nat.gcd p.natAbs q.natAbs : Nat))), some (.val (.int 0))], m⟩) ?_
  unfold b28
  rw [seq_next s1, seq_next s2, seq_ret s3]
/-- as the law says it -/
def isL (a b : Int) (il : Bool) (c d : Int) (ih : Bool) (p q : Int) : Bool := (decide (0 < p * b - a * q) || (decide (p * b - a * q = 0) && il)) && (decide (0 < c * q - p * d) || (decide (c * q - p * d = 0) && ih))
theorem isL_iff {s : Stt} {c d p q : Int} (hh : s.hi = some (c, d)) : isL s.a s.b s.il c d s.ih p q = true ↔ InR s p q := by
  unfold isL InR
  rw [hh]
  simp only [Bool.and_eq_true, Bool.or_eq_true, decide_eq_true_eq, Option.some.injEq, Prod.mk.injEq]
  constructor
  · rintro ⟨h1, h2⟩
    refine ⟨?_, fun c' d' ⟨e1, e2⟩ => ?_⟩
    · rcases h1 with h1 | ⟨h1, h3⟩
      · left; omega
      · right; exact ⟨by omega, h3⟩
    · subst e1 e2
      rcases h2 with h1 | ⟨h1, h3⟩
      · left; omega
      · right; exact ⟨by omega, h3⟩
  · rintro ⟨h1, h2⟩
    have h2 := h2 c d ⟨rfl, rfl⟩
    refine ⟨?_, ?_⟩
    · rcases h1 with h1 | ⟨h1, h3⟩
      · left; omega
      · right; exact ⟨by omega, h3⟩
    · rcases h2 with h1 | ⟨h1, h3⟩
      · left; omega
      · right; exact ⟨by omega, h3⟩
theorem v29 (k : Nat) (a b : Int) (il : Bool) (c d : Int) (ih : Bool) (p q : Int) (m : List (List D)) (ha : Bt a 4000) (hb : Bt b 4000) (hc : Bt c 4000) (hd : Bt d 4000) (hp : Bt p 4000) (hq : Bt q 4000) :
    F (k + 1) 29 [(Stt.mk a b il (some (c, d)) ih).d, .int p, .int q] m = .ok (.bl (isL a b il c d ih p q)) m := by
  rw [ff29]
  have up : ∀ {x : Int}, Bt x 4000 → Bt x 100000 := fun h => bt_mono h (by omega)
  have m1 := mul_ok (up hp) (up hb)
  have m2 := mul_ok (up ha) (up hq)
  have m3 := mul_ok (up hc) (up hq)
  have m4 := mul_ok (up hp) (up hd)
  unfold isL Stt.d hiD
  generalize p * b = X1 at *
  generalize a * q = X2 at *
  generalize c * q = X3 at *
  generalize p * d = X4 at *
  simp only
  have g1 : ∀ x : Int, cmD .gt (.int x) (.int 0) = some (decide (0 < x)) := fun _ => rfl
  generalize hY1 : X1 - X2 = Y1
  generalize hY2 : X3 - X4 = Y2
  unfold b29
  simp [runB, evSs, evS, ev, evs, rdv, peek, peekR, rderef, isVar, seqOf, idxD, atI, ixN, setV, asg, asgs, put1, m1, m2, m3, m4, hY1, hY2, cmD, truth]
  by_cases h1 : 0 < Y1
  · by_cases h2 : 0 < Y2
    · simp [h1, h2]
    · by_cases h3 : Y2 = 0
      · simp [h1, h3]
      · simp [h1, h2, h3]
  · by_cases h4 : Y1 = 0
    · cases il with
      | false => simp [h4]
      | true =>
        by_cases h2 : 0 < Y2
        · simp [h4, h2]
        · by_cases h3 : Y2 = 0
          · simp [h4, h3]
          · simp [h4, h2, h3]
    · simp [h1, h4]

/-! ### going low by low -/
theorem bd_few {x : Int} (h0 : -1 ≤ x) (h : x ≤ 1000000000000) : Bt x 4000 := bt_mono (n := 60) (bt_of (by
  have e : (2 : Nat) ^ 60 = 1152921504606846976 := by decide
  rw [e]
  omega) (by omega)) (by omega)
end K84
end

section
set_option Elab.async false
set_option linter.all false
set_option autoImplicit false
set_option maxRecDepth 100000
set_option maxHeartbeats 1000000
namespace K84
open PySem PySem.Spec L2 DL
def nnI : D → Bool
  | .int i => decide (0 ≤ i) | _ => false
def pairNN : D → Bool
  | .tup [x, y] => nnI x && nnI y | _ => false
def isEmp : D → Bool
  | .tup [] => true | _ => false
def posLow : D → Bool
  | .tup [_, .int b] => decide (0 < b) | _ => false
def arePar : D → Bool
  | .tup [u, v] => pairNN u && pairNN v && posLow u | _ => false
theorem nn_ev (k f j : Nat) (s : S) (x : D) (hs : s.r[j]? = some (some (.val x))) (h : ∀ (v : D) (m : List (List D)), F k f [v] m = .ok (.bl (isI v)) m) : ev (E k) (.and (.call f (.cons (.var j) .nil)) (.cmp .ge (.var j) (.const (.int 0)))) s = .ok (.bl (nnI x)) s := by
  have e := call0 k f j s x _ hs (h x s.m)
  rw [ev, e]
  cases x <;> simp [isI, nnI, truth, ev, isVar, peekR, peek, hs, cmD]
theorem c18 (k : Nat) (m : List (List D)) (x0 : Option Sl) (x y : D) : ev (E (k + 1)) c18_0 ⟨[x0, some (.val (.tup [x, y])), none], m⟩ = .ok (.lst [.bl (nnI x), .bl (nnI y)]) ⟨[x0, some (.val (.tup [x, y])), none], m⟩ := by
  unfold c18_0
  rw [comp1 (ds := [x, y]) (g := fun d => .bl (nnI d))]
  · simp
  · simp [runB, evSs, evS, ev, evs, evo, evit, tst, rdv, peek, peekR, rderef, biD, isTy, truth, cmD, isVar, seqOf, itemsOf, idxD, atI, ixN, sizeLine_eq, setV, asg, asgs, DL.isNon, lseqOf, blsOf]
  · simp
  · simp [plainAt]
  · simp [sizeLine_eq]
  · intro d hd
    exact nn_ev (k + 1) 0 2 _ d (by simp) (fun v m => v0 k v m)
theorem one18 (k : Nat) (m : List (List D)) (x0 : Option Sl) (d : D) : evSs (E (k + 1)) l18_0 ⟨[x0, some (.val d), none], m⟩ = .ok (if pairNN d then .next else .ret (.bl false)) ⟨[x0, some (.val d), none], m⟩ := by
  unfold l18_0
  cases d with
  | tup ds =>
    match ds with
    | [x, y] =>
      have := c18 k m x0 x y
      have e : pairNN (.tup [x, y]) = (nnI x && nnI y) := rfl
      rw [e]
      generalize nnI x = A at *
      generalize nnI y = B at *
      cases A <;> cases B <;> simp [runB, evSs, evS, ev, evs, evo, evit, tst, rdv, peek, peekR, rderef, biD, isTy, truth, cmD, isVar, seqOf, itemsOf, idxD, atI, ixN, sizeLine_eq, setV, asg, asgs, DL.isNon, lseqOf, blsOf, this]
    | [] => simp [runB, evSs, evS, ev, evs, evo, evit, tst, rdv, peek, peekR, rderef, biD, isTy, truth, cmD, isVar, seqOf, itemsOf, idxD, atI, ixN, sizeLine_eq, setV, asg, asgs, DL.isNon, lseqOf, blsOf, pairNN]
    | [x] => simp [runB, evSs, evS, ev, evs, evo, evit, tst, rdv, peek, peekR, rderef, biD, isTy, truth, cmD, isVar, seqOf, itemsOf, idxD, atI, ixN, sizeLine_eq, setV, asg, asgs, DL.isNon, lseqOf, blsOf, pairNN]
    | x :: y :: z :: r =>
      have : ((r.length : Int) + 1 + 1 + 1 = 2) = False := by simp; omega
      simp [runB, evSs, evS, ev, evs, evo, evit, tst, rdv, peek, peekR, rderef, biD, isTy, truth, cmD, isVar, seqOf, itemsOf, idxD, atI, ixN, sizeLine_eq, setV, asg, asgs, DL.isNon, lseqOf, blsOf, pairNN, this]
  | _ => simp [runB, evSs, evS, ev, evs, evo, evit, tst, rdv, peek, peekR, rderef, biD, isTy, truth, cmD, isVar, seqOf, itemsOf, idxD, atI, ixN, sizeLine_eq, setV, asg, asgs, DL.isNon, lseqOf, blsOf, pairNN]
theorem v18 (k : Nat) (d : D) (m : List (List D)) : F (k + 2) 18 [d] m = .ok (.bl (arePar d)) m := by
  rw [ff18]
  unfold b18
  cases d with
  | tup ds =>
    match ds with
    | [u, v] =>
      have o1 := one18 k m (some (.val (.tup [u, v]))) u
      have o2 := one18 k m (some (.val (.tup [u, v]))) v
      have ea : arePar (.tup [u, v]) = (pairNN u && pairNN v && posLow u) := rfl
      rw [ea]
      cases hu : pairNN u with
      | false =>
        rw [hu] at o1
        simp [runB, evSs, evS, ev, evs, evo, evit, tst, rdv, peek, peekR, rderef, biD, isTy, truth, cmD, isVar, seqOf, itemsOf, idxD, atI, ixN, sizeLine_eq, setV, asg, asgs, DL.isNon, lseqOf, blsOf, loopF, o1]
      | true =>
        rw [hu] at o1
        cases hv : pairNN v with
        | false =>
          rw [hv] at o2
          simp [runB, evSs, evS, ev, evs, evo, evit, tst, rdv, peek, peekR, rderef, biD, isTy, truth, cmD, isVar, seqOf, itemsOf, idxD, atI, ixN, sizeLine_eq, setV, asg, asgs, DL.isNon, lseqOf, blsOf, loopF, o1, o2]
        | true =>
          rw [hv] at o2
          unfold pairNN at hu
          split at hu
          · rename_i x y
            cases y <;> simp [nnI] at hu
            simp [runB, evSs, evS, ev, evs, evo, evit, tst, rdv, peek, peekR, rderef, biD, isTy, truth, cmD, isVar, seqOf, itemsOf, idxD, atI, ixN, sizeLine_eq, setV, asg, asgs, DL.isNon, lseqOf, blsOf, loopF, o1, o2, posLow]
          · cases hu
    | [] => simp [runB, evSs, evS, ev, evs, evo, evit, tst, rdv, peek, peekR, rderef, biD, isTy, truth, cmD, isVar, seqOf, itemsOf, idxD, atI, ixN, sizeLine_eq, setV, asg, asgs, DL.isNon, lseqOf, blsOf, arePar]
    | [x] => simp [runB, evSs, evS, ev, evs, evo, evit, tst, rdv, peek, peekR, rderef, biD, isTy, truth, cmD, isVar, seqOf, itemsOf, idxD, atI, ixN, sizeLine_eq, setV, asg, asgs, DL.isNon, lseqOf, blsOf, arePar]
    | x :: y :: z :: r =>
      have : ((r.length : Int) + 1 + 1 + 1 = 2) = False := by simp; omega
      simp [runB, evSs, evS, ev, evs, evo, evit, tst, rdv, peek, peekR, rderef, biD, isTy, truth, cmD, isVar, seqOf, itemsOf, idxD, atI, ixN, sizeLine_eq, setV, asg, asgs, DL.isNon, lseqOf, blsOf, arePar, this]
  | _ => simp [runB, evSs, evS, ev, evs, evo, evit, tst, rdv, peek, peekR, rderef, biD, isTy, truth, cmD, isVar, seqOf, itemsOf, idxD, atI, ixN, sizeLine_eq, setV, asg, asgs, DL.isNon, lseqOf, blsOf, arePar]
/-- the paper beside p/q -/
def jp (s : Stt) (p q : Int) (paper : D) : Bool := if q = 1 then isEmp paper && !s.isIn (p - 1) 1 else arePar paper && (match paper with
  | .tup [.tup [.int a, .int b], .tup [.int c, .int d]] => (decide (a + c = p) && decide (b + d = q)) && decide (c * b - a * d = 1) && (!s.isIn a b && (decide (d = 0) || !s.isIn c d))
  | _ => false)
def judge (s : Stt) (f paper : D) : Bool := isFr f && (match f with
  | .tup [.int p, .int q] => s.isIn p q && jp s p q paper
  | _ => false)
structure PapOk (paper : D) : Prop where
  eq : eqD paper (.tup []) = some (isEmp paper)
  few : ∀ a b c d, paper = .tup [.tup [.int a, .int b], .tup [.int c, .int d]] → Bt a 3000 ∧ Bt b 3000 ∧ Bt c 3000 ∧ Bt d 3000
theorem isFr_v {f : D} (h : isFr f = true) : ∃ p q, f = .tup [.int p, .int q] ∧ 1 ≤ q ∧ gI p q = 1 := by
  unfold isFr at h
  split at h
  · rename_i a b
    simp only [Bool.and_eq_true, decide_eq_true_eq] at h
    exact ⟨a, b, rfl, h.1, gI_one_iff.mpr h.2⟩
  · cases h
theorem arePar_v {d : D} (h : arePar d = true) : ∃ a b c e, d = .tup [.tup [.int a, .int b], .tup [.int c, .int e]] ∧ 0 ≤ a ∧ 0 < b ∧ 0 ≤ c ∧ 0 ≤ e := by
  unfold arePar at h
  split at h
  · rename_i u v
    simp only [Bool.and_eq_true] at h
    obtain ⟨⟨h1, h2⟩, h3⟩ := h
    unfold pairNN at h1 h2
    split at h1
    · split at h2
      · rename_i x y _ x' y'
        simp only [Bool.and_eq_true] at h1 h2
        obtain ⟨x1, x2⟩ := h1
        obtain ⟨x3, x4⟩ := h2
        cases x <;> simp [nnI] at x1
        cases y <;> simp [nnI] at x2
        cases x' <;> simp [nnI] at x3
        cases y' <;> simp [nnI] at x4
        simp [posLow] at h3
        exact ⟨_, _, _, _, rfl, x1, h3, x3, x4⟩
      · cases h2
    · cases h1
  · cases h
theorem isEmp_v {d : D} (h : isEmp d = true) : d = .tup [] := by
  unfold isEmp at h
  split at h
  · rfl
  · cases h
theorem good_few {s : Stt} {B : Int} (h : s.Good B) : s.Few := (sizes h.ok h.bnd (bt_mono h.bt (by omega))).1
theorem v19 (k : Nat) (s : Stt) (B : Int) (m : List (List D)) (h : s.Good B) (f paper : D) (hf : ∀ p q, f = .tup [.int p, .int q] → Bt p 3000 ∧ Bt q 3000) (hp : PapOk paper) : F (k + 3) 19 [s.d, .tup [f, paper]] m = .ok (.bl (judge s f paper)) m := by
  have few := good_few h
  have e3 := v3 k f m
  rw [ff19]
  unfold judge
  cases hfr : isFr f with
  | false =>
    rw [hfr] at e3
    unfold b19
    simp [runB, evSs, evS, ev, evs, evo, evit, tst, rdv, peek, peekR, rderef, biD, isTy, truth, cmD, isVar, seqOf, itemsOf, idxD, atI, ixN, sizeLine_eq, setV, asg, asgs, DL.isNon, lseqOf, blsOf, EF, e3]
  | true =>
    rw [hfr] at e3
    obtain ⟨p, q, rfl, q1, co⟩ := isFr_v hfr
    obtain ⟨bp, bq⟩ := hf p q rfl
    have e11 := v11 k s p q m few (bt_mono bp (by omega)) (bt_mono bq (by omega))
    have o1 := bt_one 3000 (by omega)
    have e11' := v11 k s (p - 1) 1 m few (bt_mono (bt_sub bp o1) (by omega)) (bt_one _ (by omega))
    have e18 := v18 k paper m
    dsimp only
    generalize hX : s.d = X at *
    cases hin : s.isIn p q with
    | false =>
      rw [hin] at e11
      unfold b19
      simp [runB, evSs, evS, ev, evs, evo, evit, tst, rdv, peek, peekR, rderef, biD, isTy, truth, cmD, isVar, seqOf, itemsOf, idxD, atI, ixN, sizeLine_eq, setV, asg, asgs, DL.isNon, lseqOf, blsOf, EF, e3, e11]
    | true =>
      rw [hin] at e11
      unfold jp
      by_cases hq1 : q = 1
      · subst hq1
        cases hE : isEmp paper with
        | false =>
          have eq := hp.eq
          rw [hE] at eq
          unfold b19
          simp [runB, evSs, evS, ev, evs, evo, evit, tst, rdv, peek, peekR, rderef, biD, isTy, truth, cmD, isVar, seqOf, itemsOf, idxD, atI, ixN, sizeLine_eq, setV, asg, asgs, DL.isNon, lseqOf, blsOf, EF, e3, e11, eq]
        | true =>
          have := isEmp_v hE
          subst this
          have eq := hp.eq
          rw [hE] at eq
          have eI : isEmp (.tup []) = true := rfl
          simp only [eI, Bool.true_and, if_true]
          generalize s.isIn (p - 1) 1 = A at *
          unfold b19
          cases A <;> simp [runB, evSs, evS, ev, evs, evo, evit, tst, rdv, peek, peekR, rderef, biD, isTy, truth, cmD, isVar, seqOf, itemsOf, idxD, atI, ixN, sizeLine_eq, setV, asg, asgs, DL.isNon, lseqOf, blsOf, EF, e3, e11, eq, e11']
      · rw [if_neg hq1]
        cases hA : arePar paper with
        | false =>
          rw [hA] at e18
          unfold b19
          simp [runB, evSs, evS, ev, evs, evo, evit, tst, rdv, peek, peekR, rderef, biD, isTy, truth, cmD, isVar, seqOf, itemsOf, idxD, atI, ixN, sizeLine_eq, setV, asg, asgs, DL.isNon, lseqOf, blsOf, EF, e3, e11, hq1, e18]
        | true =>
          rw [hA] at e18
          obtain ⟨a, b, c, d, rfl, a0, b0, c0, d0⟩ := arePar_v hA
          obtain ⟨ba, bb, bc, bd⟩ := hp.few a b c d rfl
          have m1 := mul_ok (bt_mono bc (show 3000 ≤ 100000 by omega)) (bt_mono bb (show 3000 ≤ 100000 by omega))
          have m2 := mul_ok (bt_mono ba (show 3000 ≤ 100000 by omega)) (bt_mono bd (show 3000 ≤ 100000 by omega))
          have et := eq_tt (a + c) (b + d) p q
          have i1 := v11 k s a b m few (bt_mono ba (by omega)) (bt_mono bb (by omega))
          have i2 := v11 k s c d m few (bt_mono bc (by omega)) (bt_mono bd (by omega))
          rw [hX] at i1 i2
          dsimp only
          generalize c * b = M1 at *
          generalize a * d = M2 at *
          generalize s.isIn a b = A at *
          generalize s.isIn c d = C at *
          generalize (decide (a + c = p) && decide (b + d = q)) = T at *
          by_cases hdet : M1 - M2 = 1
          · by_cases hd0 : d = 0
            · subst hd0
              rw [Int.add_zero] at et
              unfold b19
              cases T <;> cases A <;> simp [runB, evSs, evS, ev, evs, evo, evit, tst, rdv, peek, peekR, rderef, biD, isTy, truth, cmD, isVar, seqOf, itemsOf, idxD, atI, ixN, sizeLine_eq, setV, asg, asgs, DL.isNon, lseqOf, blsOf, EF, e3, e11, hq1, e18, m1, m2, et, i1, hdet]
            · unfold b19
              cases T <;> cases A <;> cases C <;> simp [runB, evSs, evS, ev, evs, evo, evit, tst, rdv, peek, peekR, rderef, biD, isTy, truth, cmD, isVar, seqOf, itemsOf, idxD, atI, ixN, sizeLine_eq, setV, asg, asgs, DL.isNon, lseqOf, blsOf, EF, e3, e11, hq1, e18, m1, m2, et, i1, i2, hdet, hd0]
          · unfold b19
            cases T <;> simp [runB, evSs, evS, ev, evs, evo, evit, tst, rdv, peek, peekR, rderef, biD, isTy, truth, cmD, isVar, seqOf, itemsOf, idxD, atI, ixN, sizeLine_eq, setV, asg, asgs, DL.isNon, lseqOf, blsOf, EF, e3, e11, hq1, e18, m1, m2, et, hdet]

/-- a value that is no pair -/
def noPair : D → Bool
  | .tup [_, _] => false | _ => true
def noTrip : D → Bool
  | .tup [_, _, _] => false | _ => true
theorem noPair_len {d : D} (h : noPair d = true) : ∀ ds, d = .tup ds → ((ds.length : Int) = 2) = False := by
  rintro ds rfl
  match ds, h with
  | [], _ => simp
  | [_], _ => simp
  | _ :: _ :: _ :: r, _ =>
    simp
    omega
theorem noTrip_len {d : D} (h : noTrip d = true) : ∀ ds, d = .tup ds → ((ds.length : Int) = 3) = False := by
  rintro ds rfl
  match ds, h with
  | [], _ => simp
  | [_], _ => simp
  | [_, _], _ => simp
  | _ :: _ :: _ :: _ :: r, _ =>
    simp
    omega
theorem v19n (k : Nat) (x v : D) (m : List (List D)) (h : noPair v = true) : F (k + 1) 19 [x, v] m = .ok (.bl false) m := by
  have hl := noPair_len h
  rw [ff19]
  unfold b19
  cases v with
  | tup ds =>
    have hl := hl ds rfl
    simp [runB, evSs, evS, ev, evs, evo, evit, tst, rdv, peek, peekR, rderef, biD, isTy, truth, cmD, isVar, seqOf, itemsOf, idxD, atI, ixN, sizeLine_eq, setV, asg, asgs, DL.isNon, lseqOf, blsOf, hl]
  | _ => simp [runB, evSs, evS, ev, evs, evo, evit, tst, rdv, peek, peekR, rderef, biD, isTy, truth, cmD, isVar, seqOf, itemsOf, idxD, atI, ixN, sizeLine_eq, setV, asg, asgs, DL.isNon, lseqOf, blsOf]
/-! ### the law's judge -/
theorem c33 (k : Nat) (m : List (List D)) (x0 x1 x2 x4 x5 x6 x7 x8 : Option Sl) (x y : D) : ev (E (k + 1)) c33_0 ⟨[x0, x1, x2, some (.val (.tup [x, y])), x4, x5, x6, x7, x8, none], m⟩ = .ok (.lst [.bl (nnI x), .bl (nnI y)]) ⟨[x0, x1, x2, some (.val (.tup [x, y])), x4, x5, x6, x7, x8, none], m⟩ := by
  unfold c33_0
  rw [comp1 (ds := [x, y]) (g := fun d => .bl (nnI d))]
  · simp
  · simp [runB, evSs, evS, ev, evs, evo, evit, tst, rdv, peek, peekR, rderef, biD, isTy, truth, cmD, isVar, seqOf, itemsOf, idxD, atI, ixN, sizeLine_eq, setV, asg, asgs, DL.isNon, lseqOf, blsOf]
  · simp
  · simp [plainAt]
  · simp [sizeLine_eq]
  · intro d hd
    exact nn_ev (k + 1) 32 9 _ d (by simp) (fun v m => v32 k v m)
theorem c33' (k : Nat) (m : List (List D)) (x0 x2 x3 x4 x5 x6 x7 x8 : Option Sl) (x y : D) : ev (E (k + 1)) c33_1 ⟨[x0, some (.val (.tup [x, y])), x2, x3, x4, x5, x6, x7, x8, none], m⟩ = .ok (.lst [.bl (isI x), .bl (isI y)]) ⟨[x0, some (.val (.tup [x, y])), x2, x3, x4, x5, x6, x7, x8, none], m⟩ := by
  unfold c33_1
  rw [comp1 (ds := [x, y]) (g := fun d => .bl (isI d))]
  · simp
  · simp [runB, evSs, evS, ev, evs, evo, evit, tst, rdv, peek, peekR, rderef, biD, isTy, truth, cmD, isVar, seqOf, itemsOf, idxD, atI, ixN, sizeLine_eq, setV, asg, asgs, DL.isNon, lseqOf, blsOf]
  · simp
  · simp [plainAt]
  · simp [sizeLine_eq]
  · intro d hd
    exact call0 _ _ _ _ _ _ (by simp) (v32 k d m)
theorem one33 (k : Nat) (m : List (List D)) (x0 x1 x2 x4 x5 x6 x7 x8 : Option Sl) (d : D) : evSs (E (k + 1)) l33_0 ⟨[x0, x1, x2, some (.val d), x4, x5, x6, x7, x8, none], m⟩ = .ok (if pairNN d then .next else .ret (.bl false)) ⟨[x0, x1, x2, some (.val d), x4, x5, x6, x7, x8, none], m⟩ := by
  unfold l33_0
  cases d with
  | tup ds =>
    match ds with
    | [x, y] =>
      have := c33 k m x0 x1 x2 x4 x5 x6 x7 x8 x y
      have e : pairNN (.tup [x, y]) = (nnI x && nnI y) := rfl
      rw [e]
      generalize nnI x = A at *
      generalize nnI y = B at *
      cases A <;> cases B <;> simp [runB, evSs, evS, ev, evs, evo, evit, tst, rdv, peek, peekR, rderef, biD, isTy, truth, cmD, isVar, seqOf, itemsOf, idxD, atI, ixN, sizeLine_eq, setV, asg, asgs, DL.isNon, lseqOf, blsOf, this]
    | [] => simp [runB, evSs, evS, ev, evs, evo, evit, tst, rdv, peek, peekR, rderef, biD, isTy, truth, cmD, isVar, seqOf, itemsOf, idxD, atI, ixN, sizeLine_eq, setV, asg, asgs, DL.isNon, lseqOf, blsOf, pairNN]
    | [x] => simp [runB, evSs, evS, ev, evs, evo, evit, tst, rdv, peek, peekR, rderef, biD, isTy, truth, cmD, isVar, seqOf, itemsOf, idxD, atI, ixN, sizeLine_eq, setV, asg, asgs, DL.isNon, lseqOf, blsOf, pairNN]
    | x :: y :: z :: r =>
      have : ((r.length : Int) + 1 + 1 + 1 = 2) = False := by simp; omega
      simp [runB, evSs, evS, ev, evs, evo, evit, tst, rdv, peek, peekR, rderef, biD, isTy, truth, cmD, isVar, seqOf, itemsOf, idxD, atI, ixN, sizeLine_eq, setV, asg, asgs, DL.isNon, lseqOf, blsOf, pairNN, this]
  | _ => simp [runB, evSs, evS, ev, evs, evo, evit, tst, rdv, peek, peekR, rderef, biD, isTy, truth, cmD, isVar, seqOf, itemsOf, idxD, atI, ixN, sizeLine_eq, setV, asg, asgs, DL.isNon, lseqOf, blsOf, pairNN]
theorem red_eq {p q : Int} (hq : 0 < q) : (decide ((red p q).1 = p) && decide ((red p q).2 = q)) = decide (gI p q = 1) := by
  by_cases h : gI p q = 1
  · rw [red_co h]
    simp [h]
  · have : ¬ (red p q).2 = q := fun e => by
      apply h
      unfold red at e
      simp only at e
      have g0 : 0 < gI p q := by
        unfold gI
        have : 0 < Nat.gcd p.natAbs q.natAbs := Nat.gcd_pos_of_pos_right _ (by omega)
        omega
      have hd : gI p q ∣ q := by
        unfold gI
        have := Nat.gcd_dvd_right p.natAbs q.natAbs
        exact Int.ofNat_dvd_left.mpr this
      have e2 := Int.ediv_mul_cancel hd
      rw [e] at e2
      have e3 : q * gI p q = q * 1 := by rw [e2, Int.mul_one]
      exact Int.eq_of_mul_eq_mul_left (by omega) e3
    simp [h, this]
theorem isL_isIn {s : Stt} (hs : s.Ok) {c d : Int} (hh : s.hi = some (c, d)) {p q : Int} (hq : 0 < q) (hpq : gI p q = 1) : isL s.a s.b s.il c d s.ih p q = s.isIn p q := by
  have h1 := isL_iff (s := s) (p := p) (q := q) hh
  have h2 := isIn_iff hs hq hpq
  cases e1 : isL s.a s.b s.il c d s.ih p q <;> cases e2 : s.isIn p q <;> simp_all
theorem isI_v {x : D} (h : isI x = true) : ∃ i, x = .int i := by
  cases x <;> first | exact ⟨_, rfl⟩ | cases h
theorem co_of_det {a b c d : Int} (h : c * b - a * d = 1) : gI a b = 1 ∧ gI c d = 1 := by
  have key : ∀ x y : Int, (∃ u v, u * x + v * y = 1) → gI x y = 1 := fun x y ⟨u, v, e⟩ => by
    have h1 : gI x y ∣ x := by
      unfold gI
      exact Int.ofNat_dvd_left.mpr (Nat.gcd_dvd_left x.natAbs y.natAbs)
    have h2 : gI x y ∣ y := by
      unfold gI
      exact Int.ofNat_dvd_left.mpr (Nat.gcd_dvd_right x.natAbs y.natAbs)
    have h3 : gI x y ∣ 1 := by
      rw [← e]
      exact Int.dvd_add (Int.dvd_mul_of_dvd_right h1) (Int.dvd_mul_of_dvd_right h2)
    have h4 := Int.le_of_dvd (by omega) h3
    have h5 : 0 ≤ gI x y := by unfold gI; omega
    have h6 : gI x y ≠ 0 := fun z => by
      rw [z] at h3
      have := Int.zero_dvd.mp h3
      omega
    omega
  exact ⟨key a b ⟨-d, c, by grind⟩, key c d ⟨b, -a, by grind⟩⟩
end K84
end

section
set_option Elab.async false
set_option linter.all false
set_option autoImplicit false
set_option maxRecDepth 100000
set_option maxHeartbeats 1000000
namespace K84
open PySem PySem.Spec L2 DL
theorem pairNN_v {d : D} (h : pairNN d = true) : ∃ a b, d = .tup [.int a, .int b] ∧ 0 ≤ a ∧ 0 ≤ b := by
  unfold pairNN at h
  split at h
  · rename_i x y
    simp only [Bool.and_eq_true] at h
    obtain ⟨h1, h2⟩ := h
    cases x <;> simp [nnI] at h1
    cases y <;> simp [nnI] at h2
    exact ⟨_, _, rfl, h1, h2⟩
  · cases h
theorem v33 (k : Nat) (s : Stt) (B : Int) (m : List (List D)) (h : s.Good B) (f paper : D) (hf : ∀ p q, f = .tup [.int p, .int q] → Bt p 3000 ∧ Bt q 3000) (hp : PapOk paper) : F (k + 2) 33 [s.d, f, paper] m = .ok (.bl (judge s f paper)) m := by
  obtain ⟨c, d, hh⟩ := h.end'
  obtain ⟨fewa, ha, hb, hw, hfb, hcd⟩ := sizes h.ok h.bnd (bt_mono h.bt (by omega))
  obtain ⟨hc, hd⟩ := hcd c d hh
  have es : Stt.mk s.a s.b s.il (some (c, d)) s.ih = s := by rw [← hh]
  have e29 : ∀ p q : Int, Bt p 3001 → Bt q 3001 → F (k + 1) 29 [s.d, .int p, .int q] m = .ok (.bl (isL s.a s.b s.il c d s.ih p q)) m := fun p q h1 h2 => by
    have e := v29 k s.a s.b s.il c d s.ih p q m (bt_mono ha (by omega)) (bt_mono hb (by omega)) (bt_mono hc (by omega)) (bt_mono hd (by omega)) (bt_mono h1 (by omega)) (bt_mono h2 (by omega))
    rw [es] at e
    exact e
  have eIn : ∀ p q : Int, 0 < q → gI p q = 1 → isL s.a s.b s.il c d s.ih p q = s.isIn p q := fun p q h1 h2 => isL_isIn h.ok hh h1 h2
  generalize hX : s.d = X at *
  rw [ff33]
  -- no pair of whole numbers
  by_cases hsh : ∃ p q, f = .tup [.int p, .int q]
  · obtain ⟨p, q, rfl⟩ := hsh
    obtain ⟨bp, bq⟩ := hf p q rfl
    have cc := c33' k m (some (.val X)) (some (.val paper)) none none none none none none (.int p) (.int q)
    simp only [isI] at cc
    by_cases q1 : q < 1
    · have hj : judge s (.tup [.int p, .int q]) paper = false := by
        have : isFr (.tup [.int p, .int q]) = false := by
          unfold isFr
          have : ¬ (1 ≤ q) := by omega
          simp [this]
        unfold judge
        rw [this]
        rfl
      rw [hj]
      unfold b33
      simp [runB, evSs, evS, ev, evs, evo, evit, tst, rdv, peek, peekR, rderef, biD, isTy, truth, cmD, isVar, seqOf, itemsOf, idxD, atI, ixN, sizeLine_eq, setV, asg, asgs, DL.isNon, lseqOf, blsOf, EF, cc, q1]
    · have e28 := v28 k p q m (by omega) (bt_mono bq (by omega))
      have er := eq_tt (red p q).1 (red p q).2 p q
      rw [red_eq (by omega)] at er
      have e28' : F (k + 1) 28 [.int p, .int q] m = .ok (.tup [.int (red p q).1, .int (red p q).2]) m := e28
      by_cases hco : gI p q = 1
      · rw [decide_eq_true hco] at er
        have e1 := e29 p q (bt_mono bp (by omega)) (bt_mono bq (by omega))
        rw [eIn p q (by omega) hco] at e1
        have hFr : isFr (.tup [.int p, .int q]) = true := by
          unfold isFr
          have : 1 ≤ q := by omega
          simp [this, gI_one_iff.mp hco]
        have hj : judge s (.tup [.int p, .int q]) paper = (s.isIn p q && jp s p q paper) := by
          unfold judge
          rw [hFr]
          rfl
        rw [hj]
        cases hin : s.isIn p q with
        | false =>
          rw [hin] at e1
          unfold b33
          simp [runB, evSs, evS, ev, evs, evo, evit, tst, rdv, peek, peekR, rderef, biD, isTy, truth, cmD, isVar, seqOf, itemsOf, idxD, atI, ixN, sizeLine_eq, setV, asg, asgs, DL.isNon, lseqOf, blsOf, EF, cc, q1, e28', er, e1]
        | true =>
          rw [hin] at e1
          unfold jp
          by_cases hq1 : q = 1
          · subst hq1
            cases hE : isEmp paper with
            | false =>
              have eq := hp.eq
              rw [hE] at eq
              unfold b33
              simp [runB, evSs, evS, ev, evs, evo, evit, tst, rdv, peek, peekR, rderef, biD, isTy, truth, cmD, isVar, seqOf, itemsOf, idxD, atI, ixN, sizeLine_eq, setV, asg, asgs, DL.isNon, lseqOf, blsOf, EF, cc, e28', er, e1, eq]
            | true =>
              have := isEmp_v hE
              subst this
              have eq := hp.eq
              rw [hE] at eq
              have e2 := e29 (p - 1) 1 (bt_sub bp (bt_one 3000 (by omega))) (bt_one _ (by omega))
              rw [eIn (p - 1) 1 (by omega) (gI_1 _)] at e2
              simp only [if_true, Bool.true_and]
              generalize s.isIn (p - 1) 1 = A at *
              unfold b33
              cases A <;> simp [runB, evSs, evS, ev, evs, evo, evit, tst, rdv, peek, peekR, rderef, biD, isTy, truth, cmD, isVar, seqOf, itemsOf, idxD, atI, ixN, sizeLine_eq, setV, asg, asgs, DL.isNon, lseqOf, blsOf, EF, cc, e28', er, e1, eq, e2]
          · rw [if_neg hq1]
            -- the paper's shape
            cases hA : arePar paper with
            | false =>
              rw [Bool.false_and]
              cases paper with
              | tup ds =>
                match ds, hA with
                | [u, v], hA =>
                  have o1 := fun x4 x5 x6 x7 x8 => one33 k m (some (.val X)) (some (.val (.tup [.int p, .int q]))) (some (.val (.tup [u, v]))) x4 x5 x6 x7 x8 u
                  have o2 := fun x4 x5 x6 x7 x8 => one33 k m (some (.val X)) (some (.val (.tup [.int p, .int q]))) (some (.val (.tup [u, v]))) x4 x5 x6 x7 x8 v
                  cases hu : pairNN u with
                  | false =>
                    simp only [hu, Bool.false_eq_true, if_false] at o1
                    unfold b33
                    simp [runB, evSs, evS, ev, evs, evo, evit, tst, rdv, peek, peekR, rderef, biD, isTy, truth, cmD, isVar, seqOf, itemsOf, idxD, atI, ixN, sizeLine_eq, setV, asg, asgs, DL.isNon, lseqOf, blsOf, EF, cc, q1, e28', er, e1, hq1, loopF, o1]
                  | true =>
                    simp only [hu, if_true] at o1
                    cases hv : pairNN v with
                    | false =>
                      simp only [hv, Bool.false_eq_true, if_false] at o2
                      unfold b33
                      simp [runB, evSs, evS, ev, evs, evo, evit, tst, rdv, peek, peekR, rderef, biD, isTy, truth, cmD, isVar, seqOf, itemsOf, idxD, atI, ixN, sizeLine_eq, setV, asg, asgs, DL.isNon, lseqOf, blsOf, EF, cc, q1, e28', er, e1, hq1, loopF, o1, o2]
                    | true =>
                      simp only [hv, if_true] at o2
                      have hA2 : (pairNN u && pairNN v && posLow u) = false := hA
                      rw [hu, hv] at hA2
                      simp only [Bool.true_and] at hA2
                      clear hA
                      obtain ⟨a, b, rfl, a0, b0⟩ := pairNN_v hu
                      obtain ⟨c', d', rfl, c0, d0⟩ := pairNN_v hv
                      have hA3 : decide (0 < b) = false := hA2
                      have hb : b < 1 := by
                        have := of_decide_eq_false hA3
                        omega
                      unfold b33
                      simp [runB, evSs, evS, ev, evs, evo, evit, tst, rdv, peek, peekR, rderef, biD, isTy, truth, cmD, isVar, seqOf, itemsOf, idxD, atI, ixN, sizeLine_eq, setV, asg, asgs, DL.isNon, lseqOf, blsOf, EF, cc, q1, e28', er, e1, hq1, loopF, o1, o2, hb]
                | [], _ => unfold b33; simp [runB, evSs, evS, ev, evs, evo, evit, tst, rdv, peek, peekR, rderef, biD, isTy, truth, cmD, isVar, seqOf, itemsOf, idxD, atI, ixN, sizeLine_eq, setV, asg, asgs, DL.isNon, lseqOf, blsOf, EF, cc, q1, e28', er, e1, hq1]
                | [x], _ => unfold b33; simp [runB, evSs, evS, ev, evs, evo, evit, tst, rdv, peek, peekR, rderef, biD, isTy, truth, cmD, isVar, seqOf, itemsOf, idxD, atI, ixN, sizeLine_eq, setV, asg, asgs, DL.isNon, lseqOf, blsOf, EF, cc, q1, e28', er, e1, hq1]
                | x :: y :: z :: r, _ =>
                  have : ((r.length : Int) + 1 + 1 + 1 = 2) = False := by simp; omega
                  unfold b33
                  simp [runB, evSs, evS, ev, evs, evo, evit, tst, rdv, peek, peekR, rderef, biD, isTy, truth, cmD, isVar, seqOf, itemsOf, idxD, atI, ixN, sizeLine_eq, setV, asg, asgs, DL.isNon, lseqOf, blsOf, EF, cc, q1, e28', er, e1, hq1, this]
              | _ => unfold b33; simp [runB, evSs, evS, ev, evs, evo, evit, tst, rdv, peek, peekR, rderef, biD, isTy, truth, cmD, isVar, seqOf, itemsOf, idxD, atI, ixN, sizeLine_eq, setV, asg, asgs, DL.isNon, lseqOf, blsOf, EF, cc, q1, e28', er, e1, hq1]
            | true =>
              obtain ⟨a, b, c', d', rfl, a0, b0, c0, d0⟩ := arePar_v hA
              obtain ⟨ba, bb, bc, bd⟩ := hp.few a b c' d' rfl
              have m1 := mul_ok (bt_mono bc (show 3000 ≤ 100000 by omega)) (bt_mono bb (show 3000 ≤ 100000 by omega))
              have m2 := mul_ok (bt_mono ba (show 3000 ≤ 100000 by omega)) (bt_mono bd (show 3000 ≤ 100000 by omega))
              have et := eq_tt (a + c') (b + d') p q
              have i1 := e29 a b (bt_mono ba (by omega)) (bt_mono bb (by omega))
              have i2 := e29 c' d' (bt_mono bc (by omega)) (bt_mono bd (by omega))
              have pn1 : pairNN (.tup [.int a, .int b]) = true := by
                have : 0 ≤ b := by omega
                simp [pairNN, nnI, a0, this]
              have pn2 : pairNN (.tup [.int c', .int d']) = true := by simp [pairNN, nnI, c0, d0]
              have o1 := fun x4 x5 x6 x7 x8 => one33 k m (some (.val X)) (some (.val (.tup [.int p, .int q]))) (some (.val (.tup [.tup [.int a, .int b], .tup [.int c', .int d']]))) x4 x5 x6 x7 x8 (.tup [.int a, .int b])
              have o2 := fun x4 x5 x6 x7 x8 => one33 k m (some (.val X)) (some (.val (.tup [.int p, .int q]))) (some (.val (.tup [.tup [.int a, .int b], .tup [.int c', .int d']]))) x4 x5 x6 x7 x8 (.tup [.int c', .int d'])
              simp only [pn1, pn2, if_true] at o1 o2
              have b1 : ¬ b < 1 := by omega
              have hdc := fun hd => co_of_det (a := a) (b := b) (c := c') (d := d') hd
              have j1 := fun hd => eIn a b b0 (hdc hd).1
              have j2 := fun hd (hz : ¬ d' = 0) => eIn c' d' (by omega) (hdc hd).2
              dsimp only
              generalize c' * b = M1 at *
              generalize a * d' = M2 at *
              generalize (decide (a + c' = p) && decide (b + d' = q)) = T at *
              by_cases hdet : M1 - M2 = 1
              · have j1 := j1 hdet
                have j2 := j2 hdet
                rw [j1] at i1
                generalize s.isIn a b = A at *
                by_cases hd0 : d' = 0
                · subst hd0
                  rw [Int.add_zero] at et
                  unfold b33
                  cases T <;> cases A <;> simp [runB, evSs, evS, ev, evs, evo, evit, tst, rdv, peek, peekR, rderef, biD, isTy, truth, cmD, isVar, seqOf, itemsOf, idxD, atI, ixN, sizeLine_eq, setV, asg, asgs, DL.isNon, lseqOf, blsOf, EF, cc, q1, e28', er, e1, hq1, loopF, o1, o2, m1, m2, et, i1, hdet, b1]
                · rw [j2 hd0] at i2
                  generalize s.isIn c' d' = C at *
                  unfold b33
                  cases T <;> cases A <;> cases C <;> simp [runB, evSs, evS, ev, evs, evo, evit, tst, rdv, peek, peekR, rderef, biD, isTy, truth, cmD, isVar, seqOf, itemsOf, idxD, atI, ixN, sizeLine_eq, setV, asg, asgs, DL.isNon, lseqOf, blsOf, EF, cc, q1, e28', er, e1, hq1, loopF, o1, o2, m1, m2, et, i1, i2, hdet, hd0, b1]
              · unfold b33
                cases T <;> simp [runB, evSs, evS, ev, evs, evo, evit, tst, rdv, peek, peekR, rderef, biD, isTy, truth, cmD, isVar, seqOf, itemsOf, idxD, atI, ixN, sizeLine_eq, setV, asg, asgs, DL.isNon, lseqOf, blsOf, EF, cc, q1, e28', er, e1, hq1, loopF, o1, o2, m1, m2, et, hdet, b1]
      · rw [decide_eq_false hco] at er
        have hj : judge s (.tup [.int p, .int q]) paper = false := by
          have : isFr (.tup [.int p, .int q]) = false := by
            unfold isFr
            rw [gI_one_iff] at hco
            simp [hco]
          unfold judge
          rw [this]
          rfl
        rw [hj]
        unfold b33
        simp [runB, evSs, evS, ev, evs, evo, evit, tst, rdv, peek, peekR, rderef, biD, isTy, truth, cmD, isVar, seqOf, itemsOf, idxD, atI, ixN, sizeLine_eq, setV, asg, asgs, DL.isNon, lseqOf, blsOf, EF, cc, q1, e28', er]
  · have hj : judge s f paper = false := by
      unfold judge
      cases hfr : isFr f with
      | false => rfl
      | true =>
        obtain ⟨p, q, e, _⟩ := isFr_v hfr
        exact absurd ⟨p, q, e⟩ hsh
    rw [hj]
    cases f with
    | tup ds =>
      match ds with
      | [x, y] =>
        have cc := c33' k m (some (.val X)) (some (.val paper)) none none none none none none x y
        have hxy : (isI x && isI y) = false := by
          cases hx : isI x with
          | false => rfl
          | true =>
            cases hy : isI y with
            | false => rfl
            | true =>
              obtain ⟨i, rfl⟩ := isI_v hx
              obtain ⟨j, rfl⟩ := isI_v hy
              exact absurd ⟨i, j, rfl⟩ hsh
        generalize isI x = A at *
        generalize isI y = C at *
        unfold b33
        cases A <;> cases C <;> first | (cases hxy; done) | simp [runB, evSs, evS, ev, evs, evo, evit, tst, rdv, peek, peekR, rderef, biD, isTy, truth, cmD, isVar, seqOf, itemsOf, idxD, atI, ixN, sizeLine_eq, setV, asg, asgs, DL.isNon, lseqOf, blsOf, cc]
      | [] => unfold b33; simp [runB, evSs, evS, ev, evs, evo, evit, tst, rdv, peek, peekR, rderef, biD, isTy, truth, cmD, isVar, seqOf, itemsOf, idxD, atI, ixN, sizeLine_eq, setV, asg, asgs, DL.isNon, lseqOf, blsOf]
      | [x] => unfold b33; simp [runB, evSs, evS, ev, evs, evo, evit, tst, rdv, peek, peekR, rderef, biD, isTy, truth, cmD, isVar, seqOf, itemsOf, idxD, atI, ixN, sizeLine_eq, setV, asg, asgs, DL.isNon, lseqOf, blsOf]
      | x :: y :: z :: r =>
        have : ((r.length : Int) + 1 + 1 + 1 = 2) = False := by simp; omega
        unfold b33
        simp [runB, evSs, evS, ev, evs, evo, evit, tst, rdv, peek, peekR, rderef, biD, isTy, truth, cmD, isVar, seqOf, itemsOf, idxD, atI, ixN, sizeLine_eq, setV, asg, asgs, DL.isNon, lseqOf, blsOf, this]
    | _ => unfold b33; simp [runB, evSs, evS, ev, evs, evo, evit, tst, rdv, peek, peekR, rderef, biD, isTy, truth, cmD, isVar, seqOf, itemsOf, idxD, atI, ixN, sizeLine_eq, setV, asg, asgs, DL.isNon, lseqOf, blsOf]

end K84
end

section
set_option Elab.async false
set_option linter.all false
set_option autoImplicit false
set_option maxRecDepth 100000
set_option maxHeartbeats 1000000
namespace K84
open PySem PySem.Spec L2 DL
structure Pot (m : List (List D)) (j : Nat) (n : Int) : Prop where
  ex : ∃ o q c : Int, m[j]? = some [.int o, .int q, .int c] ∧ 0 ≤ q ∧ q < 2305843009213693921 ∧ 0 ≤ c ∧ c ≤ n
theorem Pot.mono {m : List (List D)} {j : Nat} {n n' : Int} (h : Pot m j n) (hn : n ≤ n') : Pot m j n' := by
  obtain ⟨o, q, c, h1, h2, h3, h4, h5⟩ := h.ex
  exact ⟨o, q, c, h1, h2, h3, h4, by omega⟩
theorem small_bt {x : Int} {n : Nat} (h0 : 0 ≤ x) (h : x < 2 ^ n) (hn : 0 < n) : Bt x n := bt_of (by
  have e : ((2 ^ n : Nat) : Int) = 2 ^ n := by rw [Int.natCast_pow]; rfl
  generalize (2 : Int) ^ n = Z at *
  omega) hn
theorem pow3_ok {x : Int} (h : Bt x 1000) : op2 .pow (.int x) (.int 3) = some (.int (x ^ 3)) := by
  simp only [op2]
  rw [if_pos]
  · rfl
  · refine ⟨by omega, ?_⟩
    unfold Bt at h
    have : Builtin.Int.intBits x ≤ x.natAbs.log2 + 1 := by
      unfold Builtin.Int.intBits
      split <;> omega
    omega

abbrev primes : D := .lst [.int 2147483647, .int 2147483629, .int 2147483587, .int 2147483579, .int 2147483563]
theorem prime_at (x : Int) (h0 : 0 ≤ x) (h5 : x < 5) : ∃ pr : Int, idxD primes (.int x) = some (.int pr) ∧ 0 < pr ∧ pr ≤ 2147483647 := by
  have : x = 0 ∨ x = 1 ∨ x = 2 ∨ x = 3 ∨ x = 4 := by omega
  rcases this with rfl | rfl | rfl | rfl | rfl
  · exact ⟨_, rfl, by decide, by decide⟩
  · exact ⟨_, rfl, by decide, by decide⟩
  · exact ⟨_, rfl, by decide, by decide⟩
  · exact ⟨_, rfl, by decide, by decide⟩
  · exact ⟨_, rfl, by decide, by decide⟩
theorem v23 (k : Nat) (m : List (List D)) (j : Nat) (n u : Int) (hP : Pot m j n) (hn : n < 1000000) (hu : 0 < u) (hu2 : u ≤ 1000000) : ∃ d m', F (k + 1) 23 [.ref j, .int u] m = .ok (.int d) m' ∧ 0 ≤ d ∧ d < u ∧ Pot m' j (n + 1) := by
  obtain ⟨o, q, c, hm, q0, q1, c0, c1⟩ := hP.ex
  have hj : j < m.length := (List.getElem?_eq_some_iff.mp hm).1
  have bu : Bt u 9000 := bt_mono (small_bt (n := 20) (by omega) (by omega) (by omega)) (by omega)
  by_cases ho : 0 < o
  · have f1 := mod_ok (x := o) hu
    have f2 := fdiv_ok (x := o) hu bu
    refine ⟨o % u, m.set j [.int (o / u), .int q, .int c], ?_, Int.emod_nonneg _ (by omega), Int.emod_lt_of_pos _ hu, ⟨o / u, q, c, by rw [List.getElem?_set_self hj], q0, q1, c0, by omega⟩⟩
    rw [ff23]
    unfold b23
    have hs1 : ∀ x : List D, (m.set j x)[j]? = some x := fun x => by rw [List.getElem?_set_self hj]
    clear hj
    simp [runB, evSs, evS, ev, evs, evo, evit, tst, rdv, peek, peekR, rderef, biD, isTy, truth, cmD, isVar, seqOf, itemsOf, idxD, atI, ixN, sizeLine_eq, setV, asg, asgs, DL.isNon, lseqOf, blsOf, hm, ho, f1, f2, hs1]
  · generalize hc' : c + 1 = c' at *
    have c'0 : 0 ≤ c' := by omega
    have c'1 : c' ≤ 1000000 := by omega
    have cc : 0 ≤ c' * c' := Int.mul_nonneg c'0 c'0
    have cc2 : c' * c' ≤ 1000000 * 1000000 := Int.le_trans (Int.mul_le_mul_of_nonneg_left c'1 c'0) (Int.mul_le_mul_of_nonneg_right c'1 (by omega))
    have l100 : ∀ {x : Int}, 0 ≤ x → x < 1267650600228229401496703205376 → Bt x 1000 := fun h0 h1 => bt_mono (small_bt (n := 100) h0 (by omega) (by omega)) (by omega)
    have up : ∀ {x : Int}, Bt x 1000 → Bt x 100000 := fun h => bt_mono h (by omega)
    have e1 : 95009 * c' * c' = 95009 * (c' * c') := Int.mul_assoc _ _ _
    have m1 : op2 .mul (.int 95009) (.int c') = some (.int (95009 * c')) := mul_ok (up (l100 (by omega) (by omega))) (up (l100 (by omega) (by omega)))
    have m2 : op2 .mul (.int (95009 * c')) (.int c') = some (.int (95009 * (c' * c'))) := by rw [← e1]; exact mul_ok (up (l100 (by omega) (by omega))) (up (l100 (by omega) (by omega)))
    generalize hX : q + 95009 * (c' * c') + 557 = X at *
    have X0 : 0 ≤ X := by omega
    have X1 : X < 1000000000000000000000 := by omega
    have p3 : op2 .pow (.int X) (.int 3) = some (.int (X ^ 3)) := pow3_ok (l100 X0 (by omega))
    have c5 := mod_ok (x := c') (y := 5) (by omega)
    obtain ⟨pr, hpr, pr0, pr1⟩ := prime_at (c' % 5) (Int.emod_nonneg _ (by omega)) (Int.emod_lt_of_pos _ (by omega))
    have x3 := mod_ok (x := X ^ 3) pr0
    generalize hY : X ^ 3 % pr = Y at *
    have Y0 : 0 ≤ Y := by rw [← hY]; exact Int.emod_nonneg _ (by omega)
    have Y1 : Y < pr := by rw [← hY]; exact Int.emod_lt_of_pos _ pr0
    have y1 := mod_ok (x := Y) (y := 13009) (by omega)
    have m3 : op2 .mul (.int 719) (.int c') = some (.int (719 * c')) := mul_ok (up (l100 (by omega) (by omega))) (up (l100 (by omega) (by omega)))
    have r0 := Int.emod_nonneg Y (show (13009 : Int) ≠ 0 by omega)
    have r1 := Int.emod_lt_of_pos Y (show (0 : Int) < 13009 by omega)
    generalize Y % 13009 = Y2 at *
    have m4 : op2 .mul (.int Y) (.int (Y2 + 719 * c')) = some (.int (Y * (Y2 + 719 * c'))) := mul_ok (up (l100 (by omega) (by omega))) (up (l100 (by omega) (by omega)))
    have y3 := mod_ok (x := Y * (Y2 + 719 * c')) (y := 2305843009213693907) (by omega)
    generalize Y * (Y2 + 719 * c') = Z at *
    generalize Z % 2305843009213693907 = Z2 at *
    have y4 := fdiv_ok (x := Z2) (y := 521) (by omega) (bt_mono (small_bt (n := 20) (by omega) (by omega) (by omega)) (by omega))
    have y5 := mod_ok (x := Z2 / 521) hu
    refine ⟨Z2 / 521 % u, m.set j [.int o, .int q, .int c'], ?_, Int.emod_nonneg _ (by omega), Int.emod_lt_of_pos _ hu, ⟨o, q, c', by rw [List.getElem?_set_self hj], q0, q1, c'0, by omega⟩⟩
    have hs1 : ∀ x : List D, (m.set j x)[j]? = some x := fun x => by rw [List.getElem?_set_self hj]
    clear hj
    rw [ff23]
    have s1 : evS (E k) (.ite (.tv (.cmp .gt (.idx (.var 0) (.const (.int 0))) (.const (.int 0)))) (.cons (.set 4 (.op .mod (.bi .int (.cons (.idx (.var 0) (.const (.int 0))) .nil)) (.var 1))) (.cons (.put (.var 0) (.const (.int 0)) (.op .fdiv (.idx (.var 0) (.const (.int 0))) (.var 1))) (.cons (.ret (.var 4)) .nil))) .nil) ⟨[some (.val (.ref j)), some (.val (.int u)), none, none, none], m⟩ = .ok .next ⟨[some (.val (.ref j)), some (.val (.int u)), none, none, none], m⟩ := by
      simp [runB, evSs, evS, ev, evs, evo, evit, tst, rdv, peek, peekR, rderef, biD, isTy, truth, cmD, isVar, seqOf, itemsOf, idxD, atI, ixN, sizeLine_eq, setV, asg, asgs, DL.isNon, lseqOf, blsOf, hm, ho]
    have s2 : evS (E k) (.put (.var 0) (.const (.int 2)) (.op .add (.idx (.var 0) (.const (.int 2))) (.const (.int 1)))) ⟨[some (.val (.ref j)), some (.val (.int u)), none, none, none], m⟩ = .ok .next ⟨[some (.val (.ref j)), some (.val (.int u)), none, none, none], m.set j [.int o, .int q, .int c']⟩ := by
      simp [runB, evSs, evS, ev, evs, evo, evit, tst, rdv, peek, peekR, rderef, biD, isTy, truth, cmD, isVar, seqOf, itemsOf, idxD, atI, ixN, sizeLine_eq, setV, asg, asgs, DL.isNon, lseqOf, blsOf, hm, hc']
    generalize hM : m.set j [.int o, .int q, .int c'] = M at *
    have hMj : M[j]? = some [.int o, .int q, .int c'] := by rw [← hM, hs1]
    have s3 : evS (E k) (.set 2 (.idx (.lst (.cons (.const (.int 2147483647)) (.cons (.const (.int 2147483629)) (.cons (.const (.int 2147483587)) (.cons (.const (.int 2147483579)) (.cons (.const (.int 2147483563)) .nil)))))) (.op .mod (.bi .int (.cons (.idx (.var 0) (.const (.int 2))) .nil)) (.const (.int 5))))) ⟨[some (.val (.ref j)), some (.val (.int u)), none, none, none], M⟩ = .ok .next ⟨[some (.val (.ref j)), some (.val (.int u)), some (.val (.int pr)), none, none], M⟩ := by
      have a1 : ev (E k) (.lst (.cons (.const (.int 2147483647)) (.cons (.const (.int 2147483629)) (.cons (.const (.int 2147483587)) (.cons (.const (.int 2147483579)) (.cons (.const (.int 2147483563)) .nil)))))) ⟨[some (.val (.ref j)), some (.val (.int u)), none, none, none], M⟩ = .ok primes ⟨[some (.val (.ref j)), some (.val (.int u)), none, none, none], M⟩ := by simp [runB, evSs, evS, ev, evs, evo, evit, tst, rdv, peek, peekR, rderef, biD, isTy, truth, cmD, isVar, seqOf, itemsOf, idxD, atI, ixN, sizeLine_eq, setV, asg, asgs, DL.isNon, lseqOf, blsOf]
      have a2 : ev (E k) (.op .mod (.bi .int (.cons (.idx (.var 0) (.const (.int 2))) .nil)) (.const (.int 5))) ⟨[some (.val (.ref j)), some (.val (.int u)), none, none, none], M⟩ = .ok (.int (c' % 5)) ⟨[some (.val (.ref j)), some (.val (.int u)), none, none, none], M⟩ := by simp [runB, evSs, evS, ev, evs, evo, evit, tst, rdv, peek, peekR, rderef, biD, isTy, truth, cmD, isVar, seqOf, itemsOf, idxD, atI, ixN, sizeLine_eq, setV, asg, asgs, DL.isNon, lseqOf, blsOf, hMj, c5]
      rw [evS, ev]
      simp only [isVar]
      rw [a1]
      simp only [bind_ok]
      rw [a2]
      simp only [bind_ok, rderef, opt_some]
      rw [hpr]
      simp [setV]
    have s4 : evS (E k) (.set 3 (.op .mod (.bi .int (.cons (.op .pow (.bi .int (.cons (.op .add (.op .add (.idx (.var 0) (.const (.int 1))) (.op .mul (.op .mul (.const (.int 95009)) (.idx (.var 0) (.const (.int 2)))) (.idx (.var 0) (.const (.int 2))))) (.const (.int 557))) .nil)) (.const (.int 3))) .nil)) (.var 2))) ⟨[some (.val (.ref j)), some (.val (.int u)), some (.val (.int pr)), none, none], M⟩ = .ok .next ⟨[some (.val (.ref j)), some (.val (.int u)), some (.val (.int pr)), some (.val (.int Y)), none], M⟩ := by
      simp [runB, evSs, evS, ev, evs, evo, evit, tst, rdv, peek, peekR, rderef, biD, isTy, truth, cmD, isVar, seqOf, itemsOf, idxD, atI, ixN, sizeLine_eq, setV, asg, asgs, DL.isNon, lseqOf, blsOf, hMj, m1, m2, hX, p3, x3]
    have s5 : evS (E k) (.set 3 (.op .mod (.bi .int (.cons (.op .mul (.var 3) (.op .add (.op .mod (.bi .int (.cons (.var 3) .nil)) (.const (.int 13009))) (.op .mul (.const (.int 719)) (.idx (.var 0) (.const (.int 2)))))) .nil)) (.const (.int 2305843009213693907)))) ⟨[some (.val (.ref j)), some (.val (.int u)), some (.val (.int pr)), some (.val (.int Y)), none], M⟩ = .ok .next ⟨[some (.val (.ref j)), some (.val (.int u)), some (.val (.int pr)), some (.val (.int Z2)), none], M⟩ := by
      simp [runB, evSs, evS, ev, evs, evo, evit, tst, rdv, peek, peekR, rderef, biD, isTy, truth, cmD, isVar, seqOf, itemsOf, idxD, atI, ixN, sizeLine_eq, setV, asg, asgs, DL.isNon, lseqOf, blsOf, hMj, y1, m3, m4, y3]
    have s6 : evS (E k) (.ret (.op .mod (.bi .int (.cons (.op .fdiv (.var 3) (.const (.int 521))) .nil)) (.var 1))) ⟨[some (.val (.ref j)), some (.val (.int u)), some (.val (.int pr)), some (.val (.int Z2)), none], M⟩ = .ok (.ret (.int (Z2 / 521 % u))) ⟨[some (.val (.ref j)), some (.val (.int u)), some (.val (.int pr)), some (.val (.int Z2)), none], M⟩ := by
      simp [runB, evSs, evS, ev, evs, evo, evit, tst, rdv, peek, peekR, rderef, biD, isTy, truth, cmD, isVar, seqOf, itemsOf, idxD, atI, ixN, sizeLine_eq, setV, asg, asgs, DL.isNon, lseqOf, blsOf, y4, y5]
    refine runB_ret (s0 := ⟨[some (.val (.ref j)), some (.val (.int u)), none, none, none], m⟩) rfl (s := ⟨[some (.val (.ref j)), some (.val (.int u)), some (.val (.int pr)), some (.val (.int Z2)), none], M⟩) ?_
    unfold b23
    rw [seq_next s1, seq_next s2, seq_next s3, seq_next s4, seq_next s5, seq_ret s6]
end K84
end

section
set_option Elab.async false
set_option linter.all false
set_option autoImplicit false
set_option maxRecDepth 100000
set_option maxHeartbeats 1000000
namespace K84
open PySem PySem.Spec L2 DL
/-- one of some -/
theorem v24 (k : Nat) (m : List (List D)) (j : Nat) (n : Int) (hP : Pot m j n) (hn : n < 1000000) (ds : List D) (h0 : 0 < ds.length) (h1 : ds.length ≤ 1000000) : ∃ d m', F (k + 2) 24 [.ref j, .lst ds] m = .ok d m' ∧ d ∈ ds ∧ Pot m' j (n + 1) := by
  obtain ⟨i, m', e, i0, i1, hP'⟩ := v23 k m j n (ds.length : Nat) hP hn (by omega) (by omega)
  obtain ⟨i', rfl⟩ : ∃ i' : Nat, i = i' := ⟨i.toNat, by omega⟩
  have hi : i' < ds.length := by omega
  have hx : ds[i']? = some ds[i'] := List.getElem?_eq_getElem hi
  have ha : atI ds (i' : Int) = some ds[i'] := by
    unfold atI ixN
    rw [if_pos (by omega), if_pos (by omega)]
    simp
  refine ⟨ds[i'], m', ?_, List.getElem_mem hi, hP'⟩
  have a1 : ev (E (k + 1)) (.call 23 (.cons (.var 0) (.cons (.bi .len (.cons (.var 1) .nil)) .nil))) ⟨[some (.val (.ref j)), some (.val (.lst ds))], m⟩ = .ok (.int i') ⟨[some (.val (.ref j)), some (.val (.lst ds))], m'⟩ := by
    simp [runB, evSs, evS, ev, evs, evo, evit, tst, rdv, peek, peekR, rderef, biD, isTy, truth, cmD, isVar, seqOf, itemsOf, idxD, atI, ixN, sizeLine_eq, setV, asg, asgs, DL.isNon, lseqOf, blsOf, EF, e]
  rw [ff24]
  refine runB_ret (s0 := ⟨[some (.val (.ref j)), some (.val (.lst ds))], m⟩) rfl (s := ⟨[some (.val (.ref j)), some (.val (.lst ds))], m'⟩) ?_
  unfold b24
  refine seq_ret ?_
  rw [evS, ev]
  simp only [isVar, peekR, peek]
  simp only [List.getElem?_cons_succ, List.getElem?_cons_zero]
  rw [a1]
  simp [rderef, idxD, ha]
/-- the cells -/
theorem lr1 : lrgD false [.int 1] = some (.lst [.int 0]) := by
  simp only [lrgD]
  rw [if_pos (by decide)]
  rfl
theorem lr2 : lrgD false [.int 2] = some (.lst [.int 0, .int 1]) := by
  simp only [lrgD]
  rw [if_pos (by decide)]
  rfl
theorem lr3 : lrgD false [.int 3] = some (.lst [.int 0, .int 1, .int 2]) := by
  simp only [lrgD]
  rw [if_pos (by decide)]
  rfl
theorem v25 (k : Nat) (m : List (List D)) (ns : List D) : ∃ l : List Nat, (∀ i ∈ l, i < 3) ∧ l.length ≤ 3 ∧ F (k + 1) 25 [.klst ns, .int 3] m = .ok (.lst (l.map fun (i : Nat) => .int i)) m := by
  rw [ff25]
  have hm : ∀ (l : Int), ((ns.length : Nat) : Int) = l → evSs (E k) b25 ⟨[some (.val (.klst ns)), some (.val (.int 3))], m⟩ = (opt (lrgD false [.int (if (if l < 3 then l else 3) > 1 then (if l < 3 then l else 3) else 1)]) ⟨[some (.val (.klst ns)), some (.val (.int 3))], m⟩).bind fun d s => .ok (.ret d) s := fun l hl => by
    unfold b25
    simp [evSs, evS, ev, evs, rdv, peek, rderef, biD, seqOf, hl]
    generalize lrgD false _ = o
    cases o <;> simp [opt, DL.R.bind]
  by_cases h3 : ((ns.length : Nat) : Int) < 3
  · by_cases h1 : (1 : Int) < ((ns.length : Nat) : Int)
    · have e := hm 2 (by omega)
      have e2 : (if (if (2 : Int) < 3 then (2 : Int) else 3) > 1 then (if (2 : Int) < 3 then (2 : Int) else 3) else 1) = 2 := by decide
      rw [e2, lr2] at e
      exact ⟨[0, 1], by simp, by simp, runB_ret (s0 := ⟨[some (.val (.klst ns)), some (.val (.int 3))], m⟩) rfl e⟩
    · have e := hm _ rfl
      have e2 : (if (if ((ns.length : Nat) : Int) < 3 then ((ns.length : Nat) : Int) else 3) > 1 then (if ((ns.length : Nat) : Int) < 3 then ((ns.length : Nat) : Int) else 3) else 1) = 1 := by
        rw [if_pos h3, if_neg (by omega)]
      rw [e2, lr1] at e
      exact ⟨[0], by simp, by simp, runB_ret (s0 := ⟨[some (.val (.klst ns)), some (.val (.int 3))], m⟩) rfl e⟩
  · have e := hm _ rfl
    have e2 : (if (if ((ns.length : Nat) : Int) < 3 then ((ns.length : Nat) : Int) else 3) > 1 then (if ((ns.length : Nat) : Int) < 3 then ((ns.length : Nat) : Int) else 3) else 1) = 3 := by
      rw [if_neg h3, if_pos (by omega)]
    rw [e2, lr3] at e
    exact ⟨[0, 1, 2], by simp, by simp, runB_ret (s0 := ⟨[some (.val (.klst ns)), some (.val (.int 3))], m⟩) rfl e⟩

theorem pw1 : ∃ T60 : Int, op2 .pow (.int 10) (.int 60) = some (.int T60) ∧ ∃ T : Int, 0 < T ∧ Bt T 1100 ∧ op2 .pow (.int T60) (.int 5) = some (.int T) := by
  refine ⟨10 ^ (60 : Int).toNat, ?_, (10 ^ (60 : Int).toNat) ^ (5 : Int).toNat, by decide +kernel, by unfold Bt; decide +kernel, ?_⟩
  · simp only [op2]
    rw [if_pos (by decide +kernel)]
  · simp only [op2]
    rw [if_pos (by decide +kernel)]
theorem pw2 : ∃ T : Int, op2 .pow (.int 10) (.int 18) = some (.int T) := by
  refine ⟨10 ^ (18 : Int).toNat, ?_⟩
  simp only [op2]
  rw [if_pos (by decide +kernel)]
theorem pw3 : op2 .pow (.int 10) (.int 11) = some (.int 100000000000) := by
  simp only [op2]
  rw [if_pos (by decide +kernel)]
  rfl
/-- a new pot -/
theorem v22 (k : Nat) (m : List (List D)) (ns : List Int) (place : Nat) (hp : place < 3) : ∃ j m', F (k + 1) 22 [.klst (ns.map .int), .int place] m = .ok (.ref j) m' ∧ Pot m' j 0 := by
  rw [ff22]
  obtain ⟨T60, w1, T, hT, bT, w2⟩ := pw1
  obtain ⟨T18, w3⟩ := pw2
  have sm : ∀ {x : Int}, 0 ≤ x → x < 1267650600228229401496703205376 → Bt x 100000 := fun h0 h1 => bt_mono (small_bt (n := 100) h0 (by omega) (by omega)) (by omega)
  obtain ⟨cell, hcell⟩ : ∃ cell : Int, evS (E k) (.set 2 (.ite (.tv (.cmp .lt (.var 1) (.bi .len (.cons (.var 0) .nil)))) (.idx (.var 0) (.var 1)) (.op .add (.op .mul (.const (.int 1117)) (.var 1)) (.const (.int 911))))) ⟨[some (.val (.klst (ns.map .int))), some (.val (.int place)), none, none, none], m⟩ = .ok .next ⟨[some (.val (.klst (ns.map .int))), some (.val (.int place)), some (.val (.int cell)), none, none], m⟩ := by
    by_cases hl : place < ns.length
    · refine ⟨ns[place], ?_⟩
      have ha : atI (ns.map D.int) (place : Int) = some (.int ns[place]) := by
        unfold atI ixN
        rw [if_pos (by omega), if_pos (by simp; omega)]
        simp [hl]
      simp [evS, ev, evs, tst, rdv, peek, peekR, rderef, biD, isVar, seqOf, cmD, truth, hl, idxD, ha, setV]
    · have mm : op2 .mul (.int 1117) (.int place) = some (.int (1117 * place)) := mul_ok (sm (by omega) (by omega)) (sm (by omega) (by omega))
      refine ⟨1117 * place + 911, ?_⟩
      simp [evS, ev, evs, tst, rdv, peek, peekR, rderef, biD, isVar, seqOf, cmD, truth, hl, setV, mm]
  have c0 := Int.emod_nonneg (if cell < 0 then -cell else cell) (b := T) (by omega)
  have c1 := Int.emod_lt_of_pos (if cell < 0 then -cell else cell) hT
  have e1 := mod_ok (x := if cell < 0 then -cell else cell) hT
  have bO : Bt ((if cell < 0 then -cell else cell) % T) 100000 := bt_mono (bt_le bT (by omega) c0 (by omega)) (by omega)
  generalize (if cell < 0 then -cell else cell) % T = O at *
  have e2 : ∀ b : Bool, op2 .mul (.int O) (.int (if b then 1 else 0)) = some (.int (O * (if b then 1 else 0))) := fun b => mul_ok bO (by cases b <;> exact sm (by decide) (by decide))
  have e3 := mod_ok (x := cell) (y := 2305843009213693951) (by omega)
  have s0 := Int.emod_nonneg cell (b := 2305843009213693951) (by omega)
  have s1 := Int.emod_lt_of_pos cell (b := 2305843009213693951) (by omega)
  generalize cell % 2305843009213693951 = S at *
  have e4 : op2 .mul (.int S) (.int 75011) = some (.int (S * 75011)) := mul_ok (sm (by omega) (by omega)) (sm (by omega) (by omega))
  have e5 : op2 .mul (.int 10111) (.int place) = some (.int (10111 * place)) := mul_ok (sm (by omega) (by omega)) (sm (by omega) (by omega))
  have e6 : op2 .mul (.int (10111 * place)) (.int place) = some (.int (10111 * place * place)) := mul_ok (sm (by omega) (by omega)) (sm (by omega) (by omega))
  have e7 := mod_ok (x := S * 75011 + 10111 * place * place + 1523) (y := 2305843009213693921) (by omega)
  have q0 := Int.emod_nonneg (S * 75011 + 10111 * place * place + 1523) (b := 2305843009213693921) (by omega)
  have q1 := Int.emod_lt_of_pos (S * 75011 + 10111 * place * place + 1523) (b := 2305843009213693921) (by omega)
  generalize hQ : (S * 75011 + 10111 * place * place + 1523) % 2305843009213693921 = Q at *
  obtain ⟨own, h3⟩ : ∃ own : Int, evS (E k) (.set 3 (.op .mul (.op .mod (.bi .int (.cons (.bi .abs (.cons (.var 2) .nil)) .nil)) (.op .pow (.op .pow (.const (.int 10)) (.const (.int 60))) (.const (.int 5)))) (.bi .int (.cons (.cmp .ge (.bi .abs (.cons (.var 2) .nil)) (.op .pow (.const (.int 10)) (.const (.int 18)))) .nil)))) ⟨[some (.val (.klst (ns.map .int))), some (.val (.int place)), some (.val (.int cell)), none, none], m⟩ =
      .ok .next ⟨[some (.val (.klst (ns.map .int))), some (.val (.int place)), some (.val (.int cell)), some (.val (.int own)), none], m⟩ := by
    refine ⟨O * (if decide (T18 ≤ (if cell < 0 then -cell else cell)) then 1 else 0), ?_⟩
    simp only [evS, ev, evs, rdv, biD, isVar, opt_some, bind_ok, List.getElem?_cons_succ, List.getElem?_cons_zero, int_d, w1, w2, w3, e1, e2, cmD, Option.map_some]
    simp [setV]
  have h4 : evS (E k) (.set 4 (.op .mod (.bi .int (.cons (.var 2) .nil)) (.const (.int 2305843009213693951)))) ⟨[some (.val (.klst (ns.map .int))), some (.val (.int place)), some (.val (.int cell)), some (.val (.int own)), none], m⟩ = .ok .next ⟨[some (.val (.klst (ns.map .int))), some (.val (.int place)), some (.val (.int cell)), some (.val (.int own)), some (.val (.int S))], m⟩ := by
    simp [runB, evSs, evS, ev, evs, evo, evit, tst, rdv, peek, peekR, rderef, biD, isTy, truth, cmD, isVar, seqOf, itemsOf, idxD, atI, ixN, sizeLine_eq, setV, asg, asgs, DL.isNon, lseqOf, blsOf, e3]
  have h5 : evS (E k) (.ret (.cell (.cons (.var 3) (.cons (.op .mod (.bi .int (.cons (.op .add (.op .add (.op .mul (.var 4) (.const (.int 75011))) (.op .mul (.op .mul (.const (.int 10111)) (.var 1)) (.var 1))) (.const (.int 1523))) .nil)) (.const (.int 2305843009213693921))) (.cons (.const (.int 0)) .nil))))) ⟨[some (.val (.klst (ns.map .int))), some (.val (.int place)), some (.val (.int cell)), some (.val (.int own)), some (.val (.int S))], m⟩ =
      .ok (.ret (.ref m.length)) ⟨[some (.val (.klst (ns.map .int))), some (.val (.int place)), some (.val (.int cell)), some (.val (.int own)), some (.val (.int S))], m ++ [[.int own, .int Q, .int 0]]⟩ := by
    simp [runB, evSs, evS, ev, evs, evo, evit, tst, rdv, peek, peekR, rderef, biD, isTy, truth, cmD, isVar, seqOf, itemsOf, idxD, atI, ixN, sizeLine_eq, setV, asg, asgs, DL.isNon, lseqOf, blsOf, e4, e5, e6, e7]
  refine ⟨m.length, m ++ [[.int own, .int Q, .int 0]], ?_, ⟨own, Q, 0, by simp, q0, q1, by omega, by omega⟩⟩
  refine runB_ret (n := 5) (ds := [.klst (ns.map .int), .int place]) (m := m) (b := b22) (E := E k) (d := .ref m.length) (s0 := ⟨[some (.val (.klst (ns.map .int))), some (.val (.int place)), none, none, none], m⟩) rfl (s := ⟨[some (.val (.klst (ns.map .int))), some (.val (.int place)), some (.val (.int cell)), some (.val (.int own)), some (.val (.int S))], m ++ [[.int own, .int Q, .int 0]]⟩) ?_
  unfold b22
  rw [seq_next hcell, seq_next h3, seq_next h4, seq_ret h5]
end K84
end

section
set_option Elab.async false
set_option linter.all false
set_option autoImplicit false
set_option maxRecDepth 100000
set_option maxHeartbeats 1000000
namespace K84
open PySem PySem.Spec L2 DL
def odds1 : List D := [.non, .bl true, .bl false, .int 0, .int 1, .int (-1), .int 2, .int 9999, .int 10000, .str (Str.ofString ""), .str (Str.ofString "a"), .str (Str.ofString "A"), .str (Str.ofString "bars"), .str (Str.ofString "row in"), .tup [], .lst [], .emp, .tup [.int 0], .tup [.tup []], .lst [.int 0]]
def odds2 : List D := [.tup [.str (Str.ofString "a")], .tup [.str (Str.ofString "a"), .str (Str.ofString "b")], .tup [.int 1, .int 2], .tup [.non], .tup [.str (Str.ofString "a"), .str (Str.ofString "b"), .int 1], .int 100000000000]
theorem v26 (k : Nat) (m : List (List D)) (j : Nat) (n : Int) (hP : Pot m j n) (hn : n < 1000000) : ∃ d m', F (k + 3) 26 [.ref j] m = .ok d m' ∧ d ∈ odds1 ++ odds2 ∧ Pot m' j (n + 1) := by
  obtain ⟨d, m', e, hd, hP'⟩ := v24 k m j n hP hn (odds1 ++ odds2) (by decide) (by decide)
  refine ⟨d, m', ?_, hd, hP'⟩
  rw [ff26]
  have w3 := pw3
  have e' := e
  unfold odds1 odds2 at e'
  simp only [List.cons_append, List.nil_append] at e'
  unfold b26
  simp [runB, evSs, evS, ev, evs, evo, evit, tst, rdv, peek, peekR, rderef, biD, isTy, truth, cmD, isVar, seqOf, itemsOf, idxD, atI, ixN, sizeLine_eq, setV, asg, asgs, DL.isNon, lseqOf, blsOf, own1, ownAt, w3, EF, e']
end K84
end

section
set_option Elab.async false
set_option linter.all false
set_option autoImplicit false
set_option maxRecDepth 100000
set_option maxHeartbeats 1000000
namespace K84
open PySem PySem.Spec L2 DL
def Nice : Nat → D → Prop
  | _, .int i => -1000000000000 ≤ i ∧ i ≤ 1000000000000
  | _, .non => True
  | _, .bl _ => True
  | _, .str s => PyData.strOk s = true
  | n + 1, .tup xs => ∀ x ∈ xs, Nice n x
  | n + 1, .lst xs => ∀ x ∈ xs, Nice n x
  | _, _ => False
/-- tuples of tuples, whole numbers -/
def TI : Nat → D → Prop
  | _, .int i => -1000000 ≤ i ∧ i ≤ 1000000
  | n + 1, .tup xs => xs.length ≤ 10 ∧ ∀ x ∈ xs, TI n x
  | _, _ => False
theorem str_ok (s : String) : PyData.strOk (Str.ofString s) = true := by
  unfold PyData.strOk
  rw [Str.ofString_eq_toList]
  simp only [List.all_toArray, List.all_eq_true, List.mem_map, decide_eq_true_eq]
  rintro x ⟨c, hc, rfl⟩
  have h := c.valid
  have e : c.toNat = c.val.toNat := rfl
  unfold UInt32.isValidChar Nat.isValidChar at h
  omega
mutual
theorem nice_data : ∀ (n : Nat) (d : D), Nice n d → ∃ x, toP d = some x ∧ x.canLay0 = true ∧ x.depth ≤ n ∧ PyData.eqv x (.tuple []) = isEmp d
  | n, .int i, _ => ⟨.int i, rfl, rfl, by simp [PyData.depth], by simp [PyData.eqv, isEmp]⟩
  | n, .non, _ => ⟨.none, rfl, rfl, by simp [PyData.depth], by simp [PyData.eqv, isEmp]⟩
  | n, .bl b, _ => ⟨.bool b, rfl, rfl, by simp [PyData.depth], by simp [PyData.eqv, isEmp]⟩
  | n, .str s, h => ⟨.str s, rfl, by cases n <;> exact h, by simp [PyData.depth], by simp [PyData.eqv, isEmp]⟩
  | n + 1, .tup xs, h => by
    obtain ⟨ys, e, c, dp, hl⟩ := nice_all n xs h
    refine ⟨.tuple ys, by simp [toP, e], by simpa [PyData.canLay0] using c, by simp [PyData.depth]; omega, ?_⟩
    cases xs with
    | nil =>
      have : ys = [] := List.length_eq_zero_iff.mp hl
      subst this
      simp [PyData.eqv, PyData.eqvAll, isEmp]
    | cons a as =>
      cases ys with
      | nil => simp at hl
      | cons b bs => simp [PyData.eqv, PyData.eqvAll, isEmp]
  | n + 1, .lst xs, h => by
    obtain ⟨ys, e, c, dp, hl⟩ := nice_all n xs h
    exact ⟨.list ys, by simp [toP, e], by simpa [PyData.canLay0] using c, by simp [PyData.depth]; omega, by simp [PyData.eqv, isEmp]⟩
  | 0, .tup _, h => h.elim
  | 0, .lst _, h => h.elim
  | 0, .klst _, h => h.elim
  | _ + 1, .klst _, h => h.elim
  | 0, .emp, h => h.elim
  | _ + 1, .emp, h => h.elim
  | 0, .ref _, h => h.elim
  | _ + 1, .ref _, h => h.elim
theorem nice_all : ∀ (n : Nat) (ds : List D), (∀ x ∈ ds, Nice n x) → ∃ ys, toPs ds = some ys ∧ PyData.canLayAll0 ys = true ∧ PyData.depthAll ys ≤ n ∧ ys.length = ds.length
  | n, [], _ => ⟨[], rfl, rfl, by simp [PyData.depthAll], rfl⟩
  | n, d :: ds, h => by
    obtain ⟨x, e1, c1, d1, _⟩ := nice_data n d (h d (by simp))
    obtain ⟨ys, e2, c2, d2, l2⟩ := nice_all n ds fun y hy => h y (by simp [hy])
    exact ⟨x :: ys, by simp [toPs, e1, e2], by simp [PyData.canLayAll0, c1, c2], by simp [PyData.depthAll]; omega, by simp [l2]⟩
end
theorem nice_eq {n : Nat} {d : D} (h : Nice n d) (hn : n ≤ 60) : eqD d (.tup []) = some (isEmp d) := by
  obtain ⟨x, e, c, dp, q⟩ := nice_data n d h
  have sh : SeqAt.shaped x = true := by
    unfold SeqAt.shaped
    simp [c]
    omega
  have st : SeqAt.shaped (.tuple []) = true := by decide
  have te : toP (.tup []) = some (.tuple []) := rfl
  cases d <;> simp_all [eqD]
theorem bt_nice {i : Int} (h0 : -1000000000000 ≤ i) (h1 : i ≤ 1000000000000) : Bt i 3000 := bt_mono (n := 60) (bt_of (by
  have e : (2 : Nat) ^ 60 = 1152921504606846976 := by decide
  rw [e]
  omega) (by omega)) (by omega)
theorem nice_pap {n : Nat} {d : D} (h : Nice n d) (hn : n ≤ 60) : PapOk d := by
  refine ⟨nice_eq h hn, fun a b c e hd => ?_⟩
  subst hd
  match n, h with
  | n + 1, h =>
    have h1 : Nice n (.tup [.int a, .int b]) := h _ (by simp)
    have h2 : Nice n (.tup [.int c, .int e]) := h _ (by simp)
    match n, h1, h2 with
    | n + 1, h1, h2 =>
      have ha := h1 (.int a) (by simp)
      have hb := h1 (.int b) (by simp)
      have hc := h2 (.int c) (by simp)
      have he := h2 (.int e) (by simp)
      cases n <;> exact ⟨bt_nice ha.1 ha.2, bt_nice hb.1 hb.2, bt_nice hc.1 hc.2, bt_nice he.1 he.2⟩
end K84
end

section
set_option Elab.async false
set_option linter.all false
set_option autoImplicit false
set_option maxRecDepth 100000
set_option maxHeartbeats 1000000
namespace K84
open PySem PySem.Spec L2 DL
theorem ti_nice : ∀ {n : Nat} {v : D}, TI n v → Nice n v
  | 0, .int i, h => ⟨by have := h.1; omega, by have := h.2; omega⟩
  | n + 1, .int i, h => ⟨by have := h.1; omega, by have := h.2; omega⟩
  | n + 1, .tup xs, h => fun x hx => ti_nice (h.2 x hx)
  | 0, .tup _, h => h.elim
  | 0, .non, h => h.elim
  | _ + 1, .non, h => h.elim
  | 0, .bl _, h => h.elim
  | _ + 1, .bl _, h => h.elim
  | 0, .str _, h => h.elim
  | _ + 1, .str _, h => h.elim
  | 0, .lst _, h => h.elim
  | _ + 1, .lst _, h => h.elim
  | 0, .klst _, h => h.elim
  | _ + 1, .klst _, h => h.elim
  | 0, .emp, h => h.elim
  | _ + 1, .emp, h => h.elim
  | 0, .ref _, h => h.elim
  | _ + 1, .ref _, h => h.elim
theorem cut_mem {ds : List D} {lo hi : Option Int} {x : D} (h : x ∈ cutD ds lo hi) : x ∈ ds := List.mem_of_mem_drop (List.mem_of_mem_take h)
theorem cut_len (ds : List D) (lo hi : Option Int) : (cutD ds lo hi).length ≤ ds.length := by
  unfold cutD
  rw [List.length_take, List.length_drop]
  omega
theorem addt {a b : List D} (h : a.length + b.length ≤ 1000) : op2 .add (.tup a) (.tup b) = some (.tup (a ++ b)) := by
  simp only [op2]
  rw [if_pos (by rw [sizeLine_eq]; omega)]
def intL (i : Int) : List D := [.int (i + 1), .int (i - 1), .bl (decide (i = 1)), .str (Str.ofString (toString i)), .non, .int 0, .int (-i), .int (i + 3)]
def tupL (ds : List D) : List D := [.lst ds, .tup (cutD ds (some 1) none), .tup (cutD ds none (some (-1))), .tup (ds ++ cutD ds (some (-1)) none), .tup ds.reverse, .tup [], .non, .tup (ds ++ [.int 0])]
theorem tupL_nice {n : Nat} {ds : List D} (h : ∀ x ∈ ds, Nice n x) {d : D} (hd : d ∈ tupL ds) : Nice (n + 1) d := by
  have z : Nice n (.int 0) := by cases n <;> exact ⟨by decide, by decide⟩
  simp only [tupL, List.mem_cons, List.not_mem_nil, or_false] at hd
  rcases hd with rfl | rfl | rfl | rfl | rfl | rfl | rfl | rfl
  · exact h
  · exact fun x hx => h x (cut_mem hx)
  · exact fun x hx => h x (cut_mem hx)
  · intro x hx
    rcases List.mem_append.mp hx with hx | hx
    · exact h x hx
    · exact h x (cut_mem hx)
  · exact fun x hx => h x (List.mem_reverse.mp hx)
  · intro x hx
    simp at hx
  · exact trivial
  · intro x hx
    rcases List.mem_append.mp hx with hx | hx
    · exact h x hx
    · simp at hx
      subst hx
      exact z
theorem intL_nice {n : Nat} {i : Int} (h0 : -1000000 ≤ i) (h1 : i ≤ 1000000) {d : D} (hd : d ∈ intL i) : Nice n d := by
  simp only [intL, List.mem_cons, List.not_mem_nil, or_false] at hd
  rcases hd with rfl | rfl | rfl | rfl | rfl | rfl | rfl | rfl
  all_goals first | (cases n <;> exact ⟨by omega, by omega⟩) | (cases n <;> exact trivial) | (cases n <;> exact str_ok _)
/-- a tuple's second branch -/
theorem bent_tup (k : Nat) (m : List (List D)) (j : Nat) (c : Int) (ds : List D) (hl : ds.length ≤ 10) (hP : Pot m j c) (hc : c < 1000000) (x2 : Option Sl) : ∃ d m', evS (E (k + 2)) (.ite (.tv (.bi (.isinst "tuple") (.cons (.var 1) .nil))) (.cons (.set 3 (.lst (.cons (.bi .list (.cons (.var 1) .nil)) (.cons (.sli (.var 1) (.some (.const (.int 1))) .none) (.cons (.sli (.var 1) .none (.some (.neg (.const (.int 1))))) (.cons (.op .add (.var 1) (.sli (.var 1) (.some (.neg (.const (.int 1)))) .none)) (.cons (.rev (.var 1)) (.cons (.tup .nil) (.cons (.const .non) (.cons (.op .add (.var 1) (.tup (.cons (.const (.int 0)) .nil))) .nil)))))))))) (.cons (.ret (.call 24 (.cons (.var 0) (.cons (.var 3) .nil)))) .nil)) .nil) ⟨[some (.val (.ref j)), some (.val (.tup ds)), x2, none], m⟩ =
    .ok (.ret d) ⟨[some (.val (.ref j)), some (.val (.tup ds)), x2, some (.val (.lst (tupL ds)))], m'⟩ ∧ d ∈ tupL ds ∧ Pot m' j (c + 1) := by
  obtain ⟨d, m', e, hd, hP'⟩ := v24 k m j c hP hc (tupL ds) (by simp [tupL]) (by simp [tupL])
  have a1 := addt (a := ds) (b := cutD ds (some (-1)) none) (by have := cut_len ds (some (-1)) none; omega)
  have a2 := addt (a := ds) (b := [.int 0]) (by simp; omega)
  refine ⟨d, m', ?_, hd, hP'⟩
  unfold tupL at *
  simp [runB, evSs, evS, ev, evs, evo, evit, tst, rdv, peek, peekR, rderef, biD, isTy, truth, cmD, isVar, seqOf, itemsOf, idxD, atI, ixN, sizeLine_eq, setV, asg, asgs, DL.isNon, lseqOf, blsOf, sliD, revD, a1, a2, EF, e]
theorem bent_int (k : Nat) (m : List (List D)) (j : Nat) (c i : Int) (h0 : -1000000 ≤ i) (h1 : i ≤ 1000000) (hP : Pot m j c) (hc : c < 1000000) : ∃ d m', F (k + 3) 27 [.ref j, .int i] m = .ok d m' ∧ d ∈ intL i ∧ Pot m' j (c + 1) := by
  obtain ⟨d, m', e, hd, hP'⟩ := v24 k m j c hP hc (intL i) (by simp [intL]) (by simp [intL])
  refine ⟨d, m', ?_, hd, hP'⟩
  have hl : i.natAbs.log2 < 1920 := bt_mono (n := 20) (m := 1920) (bt_of (by
    have e : (2 : Nat) ^ 20 = 1048576 := by decide
    rw [e]
    omega) (by omega)) (by omega)
  unfold intL at e
  have tr : toString i = i.repr := rfl
  rw [tr] at e
  rw [ff27]
  unfold b27
  simp [runB, evSs, evS, ev, evs, evo, evit, tst, rdv, peek, peekR, rderef, biD, isTy, truth, cmD, isVar, seqOf, itemsOf, idxD, atI, ixN, sizeLine_eq, setV, asg, asgs, DL.isNon, lseqOf, blsOf, hl, EF, e]

abbrev bent1 : DS := .ite (.and (.tv (.bi (.isinst "tuple") (.cons (.var 1) .nil))) (.and (.tv (.cmp .ne (.var 1) (.tup .nil))) (.tv (.cmp .gt (.call 23 (.cons (.var 0) (.cons (.const (.int 6)) .nil))) (.const (.int 0)))))) (.cons (.set 2 (.call 23 (.cons (.var 0) (.cons (.bi .len (.cons (.var 1) .nil)) .nil)))) (.cons (.ret (.op .add (.op .add (.sli (.var 1) .none (.some (.var 2))) (.tup (.cons (.call 27 (.cons (.var 0) (.cons (.idx (.var 1) (.var 2)) .nil))) .nil))) (.sli (.var 1) (.some (.op .add (.var 2) (.const (.int 1)))) .none))) .nil)) .nil
theorem cut_len2 (ds : List D) (a : Int) : (cutD ds none (some a)).length + (cutD ds (some (a + 1)) none).length ≤ 2 * ds.length := by
  have := cut_len ds none (some a)
  have := cut_len ds (some (a + 1)) none
  omega
/-- tuples of few items, of tuples of few items -/
def Sho (d : D) : Prop := ∀ es, d = .tup es → es.length ≤ 30 ∧ ∀ fs, D.tup fs ∈ es → fs.length ≤ 30
theorem intL_sho {i : Int} {d : D} (hd : d ∈ intL i) : Sho d := fun es e => by
  subst e
  simp [intL] at hd
theorem tupL_sho {ds : List D} (hl : ds.length ≤ 10) (hc : ∀ fs, D.tup fs ∈ ds → fs.length ≤ 30) {d : D} (hd : d ∈ tupL ds) : Sho d := fun es e => by
  subst e
  have l1 := cut_len ds (some 1) none
  have l2 := cut_len ds none (some (-1))
  have l3 := cut_len ds (some (-1)) none
  simp only [tupL, List.mem_cons, List.not_mem_nil, or_false, D.tup.injEq, reduceCtorEq, false_or] at hd
  rcases hd with rfl | rfl | rfl | rfl | rfl | rfl
  · exact ⟨by omega, fun fs hf => hc fs (cut_mem hf)⟩
  · exact ⟨by omega, fun fs hf => hc fs (cut_mem hf)⟩
  · refine ⟨by simp; omega, fun fs hf => ?_⟩
    rcases List.mem_append.mp hf with hf | hf
    · exact hc fs hf
    · exact hc fs (cut_mem hf)
  · exact ⟨by simp; omega, fun fs hf => hc fs (List.mem_reverse.mp hf)⟩
  · exact ⟨by simp, fun fs hf => by simp at hf⟩
  · refine ⟨by simp; omega, fun fs hf => ?_⟩
    rcases List.mem_append.mp hf with hf | hf
    · exact hc fs hf
    · simp at hf
/-- _law_bent -/
theorem v27 : ∀ (n : Nat) (v : D), TI n v → ∀ (k : Nat) (m : List (List D)) (j : Nat) (c : Int), Pot m j c → c + 3 * n < 900000 → n ≤ 50 → ∃ d m', F (k + 3 + n) 27 [.ref j, v] m = .ok d m' ∧ Nice n d ∧ Sho d ∧ Pot m' j (c + 3 + 3 * n)
  | n, .int i, h, k, m, j, c, hP, hc, hn => by
    have hb : -1000000 ≤ i ∧ i ≤ 1000000 := by cases n <;> exact h
    obtain ⟨d, m', e, hd, hP'⟩ := bent_int (k + n) m j c i hb.1 hb.2 hP (by omega)
    refine ⟨d, m', ?_, intL_nice hb.1 hb.2 hd, intL_sho hd, hP'.mono (by omega)⟩
    rw [show k + 3 + n = k + n + 3 by omega]
    exact e
  | n + 1, .tup ds, h, k, m, j, c, hP, hc, hn => by
    obtain ⟨hl, hx⟩ := h
    have hnice : ∀ x ∈ ds, Nice n x := fun x h => ti_nice (hx x h)
    have hchild : ∀ fs, D.tup fs ∈ ds → fs.length ≤ 30 := fun fs hf => by
      have := hx _ hf
      match n, this with
      | n + 1, this => exact Nat.le_trans this.1 (by omega)
    rw [show k + 3 + (n + 1) = (k + n + 1 + 2) + 1 by omega, ff27]
    -- where the second branch is taken
    have second : ∀ (M : List (List D)) (c' : Int), Pot M j c' → c' < 1000000 → evS (E (k + n + 1 + 2)) bent1 ⟨[some (.val (.ref j)), some (.val (.tup ds)), none, none], m⟩ = .ok .next ⟨[some (.val (.ref j)), some (.val (.tup ds)), none, none], M⟩ →
        ∃ d m', runB (E (k + n + 1 + 2)) 4 b27 [.ref j, .tup ds] m = .ok d m' ∧ Nice (n + 1) d ∧ Sho d ∧ Pot m' j (c' + 1) := fun M c' hP' hc' e1 => by
      obtain ⟨d, m', e2, hd, hP2⟩ := bent_tup (k + n + 1) M j c' ds hl hP' hc' none
      refine ⟨d, m', ?_, tupL_nice hnice hd, tupL_sho hl hchild hd, hP2⟩
      refine runB_ret (s0 := ⟨[some (.val (.ref j)), some (.val (.tup ds)), none, none], m⟩) rfl (s := ⟨[some (.val (.ref j)), some (.val (.tup ds)), none, some (.val (.lst (tupL ds)))], m'⟩) ?_
      unfold b27
      rw [seq_next e1, seq_ret e2]
    cases hds : ds with
    | nil =>
      subst hds
      have eq : eqD (.tup []) (.tup []) = some true := by rfl
      obtain ⟨d, m', e, hd, hS, hP2⟩ := second m c hP (by omega) (by simp [runB, evSs, evS, ev, evs, evo, evit, tst, rdv, peek, peekR, rderef, biD, isTy, truth, cmD, isVar, seqOf, itemsOf, idxD, atI, ixN, sizeLine_eq, setV, asg, asgs, DL.isNon, lseqOf, blsOf, eq])
      exact ⟨d, m', e, hd, hS, hP2.mono (by omega)⟩
    | cons x xs =>
      rw [← hds]
      have eq : eqD (.tup ds) (.tup []) = some false := by
        have := nice_eq (n := n + 1) (d := .tup ds) hnice (by omega)
        rw [this, hds]
        rfl
      obtain ⟨t, m1, e6, t0, t1, hP1⟩ := v23 (k + n + 2) m j c 6 hP (by omega) (by omega) (by omega)
      by_cases ht : 0 < t
      · obtain ⟨a, m2, e7, a0, a1, hP2⟩ := v23 (k + n + 2) m1 j (c + 1) (ds.length : Nat) hP1 (by omega) (by rw [hds]; simp) (by omega)
        obtain ⟨a', rfl⟩ : ∃ a' : Nat, a = a' := ⟨a.toNat, by omega⟩
        have ha' : a' < ds.length := by omega
        obtain ⟨d, m3, e8, hd, hSd, hP3⟩ := v27 n ds[a'] (hx _ (List.getElem_mem ha')) k m2 j (c + 1 + 1) hP2 (by omega) (by omega)
        rw [show k + 3 + n = k + n + 1 + 2 by omega] at e8
        have hat : atI ds (a' : Int) = some ds[a'] := by
          unfold atI ixN
          rw [if_pos (by omega), if_pos (by omega)]
          simp
        have l1 := cut_len ds none (some (a' : Int))
        have l2 := cut_len ds (some ((a' : Int) + 1)) none
        have p1 := addt (a := cutD ds none (some (a' : Int))) (b := [d]) (by simp; omega)
        have p2 := addt (a := cutD ds none (some (a' : Int)) ++ [d]) (b := cutD ds (some ((a' : Int) + 1)) none) (by simp; omega)
        refine ⟨.tup (cutD ds none (some (a' : Int)) ++ [d] ++ cutD ds (some ((a' : Int) + 1)) none), m3, ?_, ?_, ?_, hP3.mono (by omega)⟩
        · refine runB_ret (s0 := ⟨[some (.val (.ref j)), some (.val (.tup ds)), none, none], m⟩) rfl (s := ⟨[some (.val (.ref j)), some (.val (.tup ds)), some (.val (.int a')), none], m3⟩) ?_
          unfold b27
          refine seq_ret ?_
          have a3 : ev (E (k + n + 1 + 2)) (.idx (.var 1) (.var 2)) ⟨[some (.val (.ref j)), some (.val (.tup ds)), some (.val (.int a')), none], m2⟩ = .ok ds[a'] ⟨[some (.val (.ref j)), some (.val (.tup ds)), some (.val (.int a')), none], m2⟩ := by
            simp [ev, isVar, peekR, peek, rdv, rderef, idxD, hat]
          have a4 : ev (E (k + n + 1 + 2)) (.call 27 (.cons (.var 0) (.cons (.idx (.var 1) (.var 2)) .nil))) ⟨[some (.val (.ref j)), some (.val (.tup ds)), some (.val (.int a')), none], m2⟩ = .ok d ⟨[some (.val (.ref j)), some (.val (.tup ds)), some (.val (.int a')), none], m3⟩ := by
            generalize DX.idx (.var 1) (.var 2) = II at *
            simp [runB, evSs, evS, ev, evs, evo, evit, tst, rdv, peek, peekR, rderef, biD, isTy, truth, cmD, isVar, seqOf, itemsOf, idxD, atI, ixN, sizeLine_eq, setV, asg, asgs, DL.isNon, lseqOf, blsOf, EF, e8, a3]
          generalize hC : DX.call 27 (.cons (.var 0) (.cons (.idx (.var 1) (.var 2)) .nil)) = CC at *
          simp [runB, evSs, evS, ev, evs, evo, evit, tst, rdv, peek, peekR, rderef, biD, isTy, truth, cmD, isVar, seqOf, itemsOf, idxD, atI, ixN, sizeLine_eq, setV, asg, asgs, DL.isNon, lseqOf, blsOf, eq, EF, e6, e7, ht, sliD, a4, p1, p2]
        · intro y hy
          rcases List.mem_append.mp hy with hy | hy
          · rcases List.mem_append.mp hy with hy | hy
            · exact hnice y (cut_mem hy)
            · simp at hy
              subst hy
              exact hd
          · exact hnice y (cut_mem hy)
        · intro es he
          cases he
          refine ⟨by simp; omega, fun fs hf => ?_⟩
          rcases List.mem_append.mp hf with hf | hf
          · rcases List.mem_append.mp hf with hf | hf
            · exact hchild fs (cut_mem hf)
            · simp at hf
              exact (hSd fs hf.symm).1
          · exact hchild fs (cut_mem hf)
      · obtain ⟨d, m', e, hd, hS, hP2⟩ := second m1 (c + 1) hP1 (by omega) (by simp [runB, evSs, evS, ev, evs, evo, evit, tst, rdv, peek, peekR, rderef, biD, isTy, truth, cmD, isVar, seqOf, itemsOf, idxD, atI, ixN, sizeLine_eq, setV, asg, asgs, DL.isNon, lseqOf, blsOf, eq, EF, e6, ht])
        exact ⟨d, m', e, hd, hS, hP2.mono (by omega)⟩
  | 0, .tup _, h, _, _, _, _, _, _, _ => h.elim
  | 0, .non, h, _, _, _, _, _, _, _ => h.elim
  | _ + 1, .non, h, _, _, _, _, _, _, _ => h.elim
  | 0, .bl _, h, _, _, _, _, _, _, _ => h.elim
  | _ + 1, .bl _, h, _, _, _, _, _, _, _ => h.elim
  | 0, .str _, h, _, _, _, _, _, _, _ => h.elim
  | _ + 1, .str _, h, _, _, _, _, _, _, _ => h.elim
  | 0, .lst _, h, _, _, _, _, _, _, _ => h.elim
  | _ + 1, .lst _, h, _, _, _, _, _, _, _ => h.elim
  | 0, .klst _, h, _, _, _, _, _, _, _ => h.elim
  | _ + 1, .klst _, h, _, _, _, _, _, _, _ => h.elim
  | 0, .emp, h, _, _, _, _, _, _, _ => h.elim
  | _ + 1, .emp, h, _, _, _, _, _, _, _ => h.elim
  | 0, .ref _, h, _, _, _, _, _, _, _ => h.elim
  | _ + 1, .ref _, h, _, _, _, _, _, _, _ => h.elim
end K84
end

section
set_option Elab.async false
set_option linter.all false
set_option autoImplicit false
set_option maxRecDepth 100000
set_option maxHeartbeats 1000000
namespace K84
open PySem PySem.Spec L2 DL
theorem red_facts {x y : Int} (h0 : 0 ≤ x) (h1 : 0 < y) : 0 ≤ (red x y).1 ∧ (red x y).1 ≤ x ∧ 0 < (red x y).2 ∧ (red x y).2 ≤ y ∧ gI (red x y).1 (red x y).2 = 1 ∧ (red x y).1 * y = x * (red x y).2 := by
  have g0 : 0 < gI x y := by
    unfold gI
    have : 0 < Nat.gcd x.natAbs y.natAbs := Nat.gcd_pos_of_pos_right _ (by omega)
    omega
  have d1 : gI x y ∣ x := by
    unfold gI
    exact Int.ofNat_dvd_left.mpr (Nat.gcd_dvd_left x.natAbs y.natAbs)
  have d2 : gI x y ∣ y := by
    unfold gI
    exact Int.ofNat_dvd_left.mpr (Nat.gcd_dvd_right x.natAbs y.natAbs)
  have e1 := Int.ediv_mul_cancel d1
  have e2 := Int.ediv_mul_cancel d2
  have hg : Nat.gcd x.natAbs y.natAbs ≠ 0 := by unfold gI at g0; omega
  unfold red
  simp only
  have p2 : 0 < y / gI x y := by
    refine Classical.byContradiction fun hh => ?_
    have := Int.ediv_nonneg (show 0 ≤ y by omega) (show 0 ≤ gI x y by omega)
    have z : y / gI x y = 0 := by omega
    rw [z] at e2
    omega
  refine ⟨Int.ediv_nonneg h0 (by omega), Int.ediv_le_self _ h0, p2, Int.ediv_le_self _ (by omega), ?_, by grind⟩
  rw [gI_one_iff]
  have a1 : (x / gI x y).natAbs = x.natAbs / Nat.gcd x.natAbs y.natAbs := by
    unfold gI
    rw [Int.natAbs_ediv_of_dvd (by unfold gI at d1; exact d1)]
    rfl
  have a2 : (y / gI x y).natAbs = y.natAbs / Nat.gcd x.natAbs y.natAbs := by
    unfold gI
    rw [Int.natAbs_ediv_of_dvd (by unfold gI at d2; exact d2)]
    rfl
  rw [a1, a2]
  exact Nat.coprime_div_gcd_div_gcd (by omega)
theorem some_pair {p : Int × Int} {c d : Int} (e : some p = some (c, d)) : c = p.1 ∧ d = p.2 := by
  have := Option.some.inj e
  subst this
  exact ⟨rfl, rfl⟩
structure Fine (s : Stt) : Prop where
  good : s.Good 5000
  b : s.b ≤ 40
  d : ∀ c d, s.hi = some (c, d) → d ≤ 2400
  wide : ∀ c d, s.hi = some (c, d) → (s.a = c ∧ s.b = d) ∨ s.b * d ≤ 60 * (c * s.b - s.a * d)
theorem bt5000 : Bt 5000 800 := bt_mono (small_bt (n := 20) (by omega) (by omega) (by omega)) (by omega)
theorem fine_one {x y : Int} (h0 : 0 ≤ x) (h1 : x ≤ 80) (h2 : 0 < y) (h3 : y ≤ 40) : Fine ⟨(red x y).1, (red x y).2, true, some (red x y), true⟩ := by
  obtain ⟨a0, a1, b0, b1, co, _⟩ := red_facts h0 h2
  refine ⟨⟨⟨a0, b0, co, fun c d e => ?_⟩, ⟨by simp only; omega, by simp only; omega, fun c d e => ?_⟩, bt5000, ⟨_, _, rfl⟩⟩, by simp only; omega, fun c d e => ?_, fun c d e => ?_⟩
  · obtain ⟨rfl, rfl⟩ := some_pair e
    clear e
    exact ⟨b0, a0, co, .inr ⟨rfl, rfl, rfl⟩⟩
  · obtain ⟨rfl, rfl⟩ := some_pair e
    clear e
    exact ⟨by omega, by omega⟩
  · obtain ⟨rfl, rfl⟩ := some_pair e
    clear e
    omega
  · obtain ⟨rfl, rfl⟩ := some_pair e
    clear e
    exact .inl ⟨rfl, rfl⟩
theorem fine_two {x y u w : Int} (il ih : Bool) (h0 : 0 ≤ x) (h1 : x ≤ 80) (h2 : 0 < y) (h3 : y ≤ 40) (hu : 1 ≤ u) (hu2 : u ≤ 3) (hw : 1 ≤ w) (hw2 : w ≤ 60) : Fine ⟨(red x y).1, (red x y).2, il, some (red (x * w + u * y) (y * w)), ih⟩ := by
  have xw := Int.mul_nonneg h0 (show 0 ≤ w by omega)
  have xw2 : x * w ≤ 80 * 60 := by
    have q1 : x * w ≤ 80 * w := Int.mul_le_mul_of_nonneg_right h1 (by omega)
    omega
  have uy : 0 < u * y := Int.mul_pos (by omega) h2
  have uy2 : u * y ≤ 3 * 40 := by
    have q1 : u * y ≤ 3 * y := Int.mul_le_mul_of_nonneg_right hu2 (by omega)
    omega
  have yw : 0 < y * w := Int.mul_pos h2 (by omega)
  have yw2 : y * w ≤ 40 * 60 := by
    have q1 : y * w ≤ 40 * w := Int.mul_le_mul_of_nonneg_right h3 (by omega)
    omega
  obtain ⟨a0, a1, b0, b1, co, ea⟩ := red_facts h0 h2
  obtain ⟨c0, c1, d0, d1, co2, ec⟩ := red_facts (x := x * w + u * y) (y := y * w) (by omega) yw
  refine ⟨⟨⟨a0, b0, co, fun c d e => ?_⟩, ⟨by simp only; omega, by simp only; omega, fun c d e => ?_⟩, bt5000, ⟨_, _, rfl⟩⟩, by simp only; omega, fun c d e => ?_, fun c d e => ?_⟩
  · obtain ⟨rfl, rfl⟩ := some_pair e
    clear e
    refine ⟨d0, c0, co2, .inl ?_⟩
    simp only
    -- x/y < (x w + u y)/(y w)
    generalize (red x y).1 = a at *
    generalize (red x y).2 = b at *
    generalize (red (x * w + u * y) (y * w)).1 = c at *
    generalize (red (x * w + u * y) (y * w)).2 = d at *
    have k1 : 0 < b * d := Int.mul_pos b0 d0
    have k2 : (a * d) * (y * (y * w)) = (x * (y * w)) * (b * d) := by grind
    have k3 : (c * b) * (y * (y * w)) = ((x * w + u * y) * y) * (b * d) := by grind
    have k4 : x * (y * w) < (x * w + u * y) * y := by
      have : (x * w + u * y) * y = x * (y * w) + u * y * y := by grind
      have : 0 < u * y * y := Int.mul_pos uy h2
      omega
    have k5 : (x * (y * w)) * (b * d) < ((x * w + u * y) * y) * (b * d) := Int.mul_lt_mul_of_pos_right k4 k1
    rw [← k2, ← k3] at k5
    exact Int.lt_of_mul_lt_mul_right k5 (Int.le_of_lt (Int.mul_pos h2 yw))
  · obtain ⟨rfl, rfl⟩ := some_pair e
    clear e
    exact ⟨by omega, by omega⟩
  · obtain ⟨rfl, rfl⟩ := some_pair e
    clear e
    omega
  · obtain ⟨rfl, rfl⟩ := some_pair e
    clear e
    right
    simp only
    generalize (red x y).1 = a at *
    generalize (red x y).2 = b at *
    generalize (red (x * w + u * y) (y * w)).1 = c at *
    generalize (red (x * w + u * y) (y * w)).2 = d at *
    refine Int.le_of_mul_le_mul_right (a := y * (y * w)) ?_ (Int.mul_pos h2 yw)
    have k1 : b * d * (y * (y * w)) = w * (b * d * (y * y)) := by grind
    have k2 : (c * b) * (y * (y * w)) = ((x * w + u * y) * y) * (b * d) := by grind
    have k3 : (a * d) * (y * (y * w)) = (x * (y * w)) * (b * d) := by grind
    have k4 : 60 * (c * b - a * d) * (y * (y * w)) = 60 * ((c * b) * (y * (y * w)) - (a * d) * (y * (y * w))) := by grind
    have k5 : ((x * w + u * y) * y) * (b * d) - (x * (y * w)) * (b * d) = u * (b * d * (y * y)) := by grind
    have k6 : 60 * (u * (b * d * (y * y))) = (60 * u) * (b * d * (y * y)) := by grind
    rw [k1, k4, k2, k3, k5, k6]
    have k7 : 0 ≤ b * d * (y * y) := Int.mul_nonneg (Int.le_of_lt (Int.mul_pos b0 d0)) (Int.mul_nonneg (by omega) (by omega))
    exact Int.mul_le_mul_of_nonneg_right (by omega) k7

theorem v30 (k : Nat) (m : List (List D)) (j : Nat) (n most : Int) (hP : Pot m j n) (hn : n < 900000) (h0 : 0 < most) (h1 : most ≤ 40) : ∃ s m', Fine s ∧ F (k + 3) 30 [.ref j, .int most] m = .ok s.d m' ∧ Pot m' j (n + 8) := by
  have sm : ∀ {x : Int}, 0 ≤ x → x < 1267650600228229401496703205376 → Bt x 9000 := fun h0 h1 => bt_mono (small_bt (n := 100) h0 (by omega) (by omega)) (by omega)
  have up : ∀ {x : Int}, Bt x 9000 → Bt x 100000 := fun h => bt_mono h (by omega)
  obtain ⟨l0, m1, e1, l00, l01, P1⟩ := v23 (k + 1) m j n most hP (by omega) h0 (by omega)
  generalize hlow : 1 + l0 = low at *
  have q1 : op2 .mul (.int 2) (.int low) = some (.int (2 * low)) := mul_ok (up (sm (by omega) (by omega))) (up (sm (by omega) (by omega)))
  obtain ⟨top, m2, e2, t0, t1, P2⟩ := v23 (k + 1) m1 j (n + 1) (2 * low + 1) P1 (by omega) (by omega) (by omega)
  obtain ⟨u0, m3, e3, u00, u01, P3⟩ := v23 (k + 1) m2 j (n + 1 + 1) 3 P2 (by omega) (by omega) (by omega)
  obtain ⟨y, m4, e4, hy, P4⟩ := v24 k m3 j (n + 1 + 1 + 1) P3 (by omega) [.int 3, .int 12, .int 60] (by simp) (by simp)
  obtain ⟨yi, rfl, y0, y1⟩ : ∃ yi : Int, y = .int yi ∧ 0 < yi ∧ yi ≤ 60 := by
    simp at hy
    rcases hy with rfl | rfl | rfl
    · exact ⟨3, rfl, by omega, by omega⟩
    · exact ⟨12, rfl, by omega, by omega⟩
    · exact ⟨60, rfl, by omega, by omega⟩
  obtain ⟨w0, m5, e5, w00, w01, P5⟩ := v23 (k + 1) m4 j (n + 1 + 1 + 1 + 1) yi P4 (by omega) y0 (by omega)
  generalize hu : 1 + u0 = u at *
  generalize hw : 1 + w0 = w at *
  have xw : 0 ≤ top * w := Int.mul_nonneg t0 (by omega)
  have xw2 : top * w ≤ 80 * 60 := by
    have q1 : top * w ≤ 80 * w := Int.mul_le_mul_of_nonneg_right (by omega) (by omega)
    omega
  have uy : 0 < u * low := Int.mul_pos (by omega) (by omega)
  have uy2 : u * low ≤ 3 * 40 := by
    have q1 : u * low ≤ 3 * low := Int.mul_le_mul_of_nonneg_right (by omega) (by omega)
    omega
  have yw : 0 < low * w := Int.mul_pos (by omega) (by omega)
  have yw2 : low * w ≤ 40 * 60 := by
    have q1 : low * w ≤ 40 * w := Int.mul_le_mul_of_nonneg_right (by omega) (by omega)
    omega
  have q2 : op2 .mul (.int top) (.int w) = some (.int (top * w)) := mul_ok (up (sm (by omega) (by omega))) (up (sm (by omega) (by omega)))
  have q3 : op2 .mul (.int u) (.int low) = some (.int (u * low)) := mul_ok (up (sm (by omega) (by omega))) (up (sm (by omega) (by omega)))
  have q4 : op2 .mul (.int low) (.int w) = some (.int (low * w)) := mul_ok (up (sm (by omega) (by omega))) (up (sm (by omega) (by omega)))
  have e6 := v28 (k + 1) top low m5 (by omega) (sm (by omega) (by omega))
  have e7 := v28 (k + 1) (top * w + u * low) (low * w) m5 yw (sm (by omega) (by omega))
  obtain ⟨z, m6, e8, z0, z1, P6⟩ := v23 (k + 1) m5 j (n + 1 + 1 + 1 + 1 + 1) 6 P5 (by omega) (by omega) (by omega)
  obtain ⟨z2, m7, e9, z20, z21, P7⟩ := v23 (k + 1) m6 j (n + 1 + 1 + 1 + 1 + 1 + 1) 2 P6 (by omega) (by omega) (by omega)
  obtain ⟨z3, m8, e10, z30, z31, P8⟩ := v23 (k + 1) m7 j (n + 1 + 1 + 1 + 1 + 1 + 1 + 1) 2 P7 (by omega) (by omega) (by omega)
  generalize hh : red top low = he at *
  generalize ht : red (top * w + u * low) (low * w) = te at *
  have s1 : evS (E (k + 2)) (.set 2 (.bi .int (.cons (.op .add (.const (.int 1)) (.call 23 (.cons (.var 0) (.cons (.var 1) .nil)))) .nil))) ⟨[some (.val (.ref j)), some (.val (.int most)), none, none, none, none, none], m⟩ = .ok .next ⟨[some (.val (.ref j)), some (.val (.int most)), some (.val (.int low)), none, none, none, none], m1⟩ := by
    simp [runB, evSs, evS, ev, evs, evo, evit, tst, rdv, peek, peekR, rderef, biD, isTy, truth, cmD, isVar, seqOf, itemsOf, idxD, atI, ixN, sizeLine_eq, setV, asg, asgs, DL.isNon, lseqOf, blsOf, EF, e1, hlow]
  have s2 : evS (E (k + 2)) (.set 3 (.bi .int (.cons (.call 23 (.cons (.var 0) (.cons (.op .add (.op .mul (.const (.int 2)) (.var 2)) (.const (.int 1))) .nil))) .nil))) ⟨[some (.val (.ref j)), some (.val (.int most)), some (.val (.int low)), none, none, none, none], m1⟩ = .ok .next ⟨[some (.val (.ref j)), some (.val (.int most)), some (.val (.int low)), some (.val (.int top)), none, none, none], m2⟩ := by
    simp [runB, evSs, evS, ev, evs, evo, evit, tst, rdv, peek, peekR, rderef, biD, isTy, truth, cmD, isVar, seqOf, itemsOf, idxD, atI, ixN, sizeLine_eq, setV, asg, asgs, DL.isNon, lseqOf, blsOf, EF, e2, q1]
  have s3 : evS (E (k + 2)) (.set 4 (.tup (.cons (.op .add (.const (.int 1)) (.bi .int (.cons (.call 23 (.cons (.var 0) (.cons (.const (.int 3)) .nil))) .nil))) (.cons (.op .add (.const (.int 1)) (.bi .int (.cons (.call 23 (.cons (.var 0) (.cons (.call 24 (.cons (.var 0) (.cons (.lst (.cons (.const (.int 3)) (.cons (.const (.int 12)) (.cons (.const (.int 60)) .nil)))) .nil))) .nil))) .nil))) .nil)))) ⟨[some (.val (.ref j)), some (.val (.int most)), some (.val (.int low)), some (.val (.int top)), none, none, none], m2⟩ =
      .ok .next ⟨[some (.val (.ref j)), some (.val (.int most)), some (.val (.int low)), some (.val (.int top)), some (.val (.tup [.int u, .int w])), none, none], m5⟩ := by
    simp [runB, evSs, evS, ev, evs, evo, evit, tst, rdv, peek, peekR, rderef, biD, isTy, truth, cmD, isVar, seqOf, itemsOf, idxD, atI, ixN, sizeLine_eq, setV, asg, asgs, DL.isNon, lseqOf, blsOf, EF, e3, e4, e5, hu, hw]
  have s4 : evS (E (k + 2)) (.par [(5, false), (6, false)] (.cons (.call 28 (.cons (.var 3) (.cons (.var 2) .nil))) (.cons (.call 28 (.cons (.op .add (.op .mul (.var 3) (.idx (.var 4) (.const (.int 1)))) (.op .mul (.idx (.var 4) (.const (.int 0))) (.var 2))) (.cons (.op .mul (.var 2) (.idx (.var 4) (.const (.int 1)))) .nil))) .nil))) ⟨[some (.val (.ref j)), some (.val (.int most)), some (.val (.int low)), some (.val (.int top)), some (.val (.tup [.int u, .int w])), none, none], m5⟩ =
      .ok .next ⟨[some (.val (.ref j)), some (.val (.int most)), some (.val (.int low)), some (.val (.int top)), some (.val (.tup [.int u, .int w])), some (.val (frD he)), some (.val (frD te))], m5⟩ := by
    simp [runB, evSs, evS, ev, evs, evo, evit, tst, rdv, peek, peekR, rderef, biD, isTy, truth, cmD, isVar, seqOf, itemsOf, idxD, atI, ixN, sizeLine_eq, setV, asg, asgs, DL.isNon, lseqOf, blsOf, EF, e6, e7, q2, q3, q4, put1]
  by_cases hz : z = 0
  · subst hz
    refine ⟨⟨he.1, he.2, true, some he, true⟩, m6, ?_, ?_, P6.mono (by omega)⟩
    · rw [← hh]
      exact fine_one t0 (by omega) (by omega) (by omega)
    · have s5 : evS (E (k + 2)) (.ite (.tv (.cmp .eq (.call 23 (.cons (.var 0) (.cons (.const (.int 6)) .nil))) (.const (.int 0)))) (.cons (.ret (.tup (.cons (.var 5) (.cons (.const (.bl true)) (.cons (.var 5) (.cons (.const (.bl true)) .nil)))))) .nil) .nil) ⟨[some (.val (.ref j)), some (.val (.int most)), some (.val (.int low)), some (.val (.int top)), some (.val (.tup [.int u, .int w])), some (.val (frD he)), some (.val (frD te))], m5⟩ =
          .ok (.ret (Stt.mk he.1 he.2 true (some he) true).d) ⟨[some (.val (.ref j)), some (.val (.int most)), some (.val (.int low)), some (.val (.int top)), some (.val (.tup [.int u, .int w])), some (.val (frD he)), some (.val (frD te))], m6⟩ := by
        simp [runB, evSs, evS, ev, evs, evo, evit, tst, rdv, peek, peekR, rderef, biD, isTy, truth, cmD, isVar, seqOf, itemsOf, idxD, atI, ixN, sizeLine_eq, setV, asg, asgs, DL.isNon, lseqOf, blsOf, EF, e8]
        rfl
      rw [ff30]
      refine runB_ret (s0 := ⟨[some (.val (.ref j)), some (.val (.int most)), none, none, none, none, none], m⟩) rfl (s := ⟨[some (.val (.ref j)), some (.val (.int most)), some (.val (.int low)), some (.val (.int top)), some (.val (.tup [.int u, .int w])), some (.val (frD he)), some (.val (frD te))], m6⟩) ?_
      unfold b30
      rw [seq_next s1, seq_next s2, seq_next s3, seq_next s4, seq_ret s5]
  · refine ⟨⟨he.1, he.2, decide (z2 = 0), some te, decide (z3 = 0)⟩, m8, ?_, ?_, P8.mono (by omega)⟩
    · rw [← hh, ← ht]
      exact fine_two _ _ t0 (by omega) (by omega) (by omega) (by omega) (by omega) (by omega) (by omega)
    · have s5 : evS (E (k + 2)) (.ite (.tv (.cmp .eq (.call 23 (.cons (.var 0) (.cons (.const (.int 6)) .nil))) (.const (.int 0)))) (.cons (.ret (.tup (.cons (.var 5) (.cons (.const (.bl true)) (.cons (.var 5) (.cons (.const (.bl true)) .nil)))))) .nil) .nil) ⟨[some (.val (.ref j)), some (.val (.int most)), some (.val (.int low)), some (.val (.int top)), some (.val (.tup [.int u, .int w])), some (.val (frD he)), some (.val (frD te))], m5⟩ =
          .ok .next ⟨[some (.val (.ref j)), some (.val (.int most)), some (.val (.int low)), some (.val (.int top)), some (.val (.tup [.int u, .int w])), some (.val (frD he)), some (.val (frD te))], m6⟩ := by
        simp [runB, evSs, evS, ev, evs, evo, evit, tst, rdv, peek, peekR, rderef, biD, isTy, truth, cmD, isVar, seqOf, itemsOf, idxD, atI, ixN, sizeLine_eq, setV, asg, asgs, DL.isNon, lseqOf, blsOf, EF, e8, hz]
      have s6 : evS (E (k + 2)) (.ret (.tup (.cons (.var 5) (.cons (.cmp .eq (.call 23 (.cons (.var 0) (.cons (.const (.int 2)) .nil))) (.const (.int 0))) (.cons (.var 6) (.cons (.cmp .eq (.call 23 (.cons (.var 0) (.cons (.const (.int 2)) .nil))) (.const (.int 0))) .nil)))))) ⟨[some (.val (.ref j)), some (.val (.int most)), some (.val (.int low)), some (.val (.int top)), some (.val (.tup [.int u, .int w])), some (.val (frD he)), some (.val (frD te))], m6⟩ =
          .ok (.ret (Stt.mk he.1 he.2 (decide (z2 = 0)) (some te) (decide (z3 = 0))).d) ⟨[some (.val (.ref j)), some (.val (.int most)), some (.val (.int low)), some (.val (.int top)), some (.val (.tup [.int u, .int w])), some (.val (frD he)), some (.val (frD te))], m8⟩ := by
        simp [runB, evSs, evS, ev, evs, evo, evit, tst, rdv, peek, peekR, rderef, biD, isTy, truth, cmD, isVar, seqOf, itemsOf, idxD, atI, ixN, sizeLine_eq, setV, asg, asgs, DL.isNon, lseqOf, blsOf, EF, e9, e10]
        rfl
      rw [ff30]
      refine runB_ret (s0 := ⟨[some (.val (.ref j)), some (.val (.int most)), none, none, none, none, none], m⟩) rfl (s := ⟨[some (.val (.ref j)), some (.val (.int most)), some (.val (.int low)), some (.val (.int top)), some (.val (.tup [.int u, .int w])), some (.val (frD he)), some (.val (frD te))], m8⟩) ?_
      unfold b30
      rw [seq_next s1, seq_next s2, seq_next s3, seq_next s4, seq_next s5, seq_ret s6]
end K84
end

section
set_option Elab.async false
set_option linter.all false
set_option autoImplicit false
set_option maxRecDepth 100000
set_option maxHeartbeats 1000000
namespace K84
open PySem PySem.Spec L2 DL
open PyProof.Rows hiding St
def Wt : Nat → Nat
  | 0 => 60
  | n + 1 => 10 * (Wt n + 1) + 60
theorem wt_ge (n : Nat) : 60 ≤ Wt n := by cases n <;> simp [Wt] <;> omega
theorem int_data {i : Int} (h0 : -1000000 ≤ i) (h1 : i ≤ 1000000) : (PyData.int i).weight ≤ 60 ∧ (PyData.int i).intsShort 13 = true ∧ (PyData.int i).showable = true := by
  have hl : i.natAbs.log2 < 20 := bt_of (n := 20) (by
    have e : (2 : Nat) ^ 20 = 1048576 := by decide
    rw [e]
    omega) (by omega)
  refine ⟨?_, ?_, ?_⟩
  · unfold PyData.weight
    split <;> omega
  · refine intsShort_of_noneOrIn (lo := -999999999999) (hi := 999999999999) (by decide) (by decide) (.int i) ?_
    simp [noneOrIn]
    omega
  · unfold PyData.showable
    simp
    omega
mutual
theorem ti_data : ∀ (n : Nat) (d : D), TI n d → ∃ x, toP d = some x ∧ x.canLay0 = true ∧ x.depth ≤ n ∧ x.weight ≤ Wt n ∧ x.intsShort 13 = true ∧ x.showable = true
  | n, .int i, h => by
    have hb : -1000000 ≤ i ∧ i ≤ 1000000 := by cases n <;> exact h
    obtain ⟨a, b, c⟩ := int_data hb.1 hb.2
    exact ⟨.int i, rfl, rfl, by simp [PyData.depth], Nat.le_trans a (wt_ge n), b, c⟩
  | n + 1, .tup xs, h => by
    obtain ⟨ys, e, c, dp, w, i, s⟩ := ti_all n xs h.2
    refine ⟨.tuple ys, by simp [toP, e], by simpa [PyData.canLay0] using c, by simp [PyData.depth]; omega, ?_, by simpa [PyData.intsShort] using i, by simpa [PyData.showable] using s⟩
    have hl := h.1
    have : xs.length * (Wt n + 1) ≤ 10 * (Wt n + 1) := Nat.mul_le_mul_right _ hl
    simp only [PyData.weight, Wt]
    omega
  | 0, .tup _, h => h.elim
  | 0, .non, h => h.elim
  | _ + 1, .non, h => h.elim
  | 0, .bl _, h => h.elim
  | _ + 1, .bl _, h => h.elim
  | 0, .str _, h => h.elim
  | _ + 1, .str _, h => h.elim
  | 0, .lst _, h => h.elim
  | _ + 1, .lst _, h => h.elim
  | 0, .klst _, h => h.elim
  | _ + 1, .klst _, h => h.elim
  | 0, .emp, h => h.elim
  | _ + 1, .emp, h => h.elim
  | 0, .ref _, h => h.elim
  | _ + 1, .ref _, h => h.elim
theorem ti_all : ∀ (n : Nat) (ds : List D), (∀ x ∈ ds, TI n x) → ∃ ys, toPs ds = some ys ∧ PyData.canLayAll0 ys = true ∧ PyData.depthAll ys ≤ n ∧ PyData.weightAll ys ≤ ds.length * (Wt n + 1) ∧ PyData.intsShortAll 13 ys = true ∧ PyData.showableAll ys = true
  | n, [], _ => ⟨[], rfl, rfl, by simp [PyData.depthAll], by simp [PyData.weightAll], rfl, rfl⟩
  | n, d :: ds, h => by
    obtain ⟨x, e1, c1, d1, w1, i1, s1⟩ := ti_data n d (h d (by simp))
    obtain ⟨ys, e2, c2, d2, w2, i2, s2⟩ := ti_all n ds fun y hy => h y (by simp [hy])
    refine ⟨x :: ys, by simp [toPs, e1, e2], by simp [PyData.canLayAll0, c1, c2], by simp [PyData.depthAll]; omega, ?_, by simp [PyData.intsShortAll, i1, i2], by simp [PyData.showableAll, s1, s2]⟩
    simp only [PyData.weightAll, List.length_cons, Nat.add_mul, Nat.one_mul]
    omega
end
theorem repr_tup {n : Nat} {ds : List D} (h : TI n (.tup ds)) (hn : n ≤ 3) : ∃ z, reprD (.tup ds) = some z := by
  obtain ⟨x, e, c, dp, w, i, s⟩ := ti_data n (.tup ds) h
  have hw : Wt n ≤ 2 ^ 20 := by
    have : n = 0 ∨ n = 1 ∨ n = 2 ∨ n = 3 := by omega
    rcases this with rfl | rfl | rfl | rfl <;> decide
  have hl : x.layable0 = true := by
    unfold PyData.layable0
    simp only [Bool.and_eq_true, decide_eq_true_eq]
    exact ⟨⟨c, by omega⟩, by omega⟩
  have hs := shown_le13 hl i
  have hs2 : x.shown.length ≤ sizeLine := by rw [sizeLine_eq]; omega
  obtain ⟨ys, rfl⟩ : ∃ ys, x = .tuple ys := by
    simp only [toP] at e
    cases q : toPs ds with
    | none => rw [q] at e; cases e
    | some ys => rw [q] at e; cases e; exact ⟨ys, rfl⟩
  refine ⟨(PyData.tuple ys).shown, ?_⟩
  simp only [reprD, e]
  rw [if_pos]
  simp only [Bool.and_eq_true, decide_eq_true_eq]
  exact ⟨⟨s, by omega⟩, hs2⟩
end K84
end

section
set_option Elab.async false
set_option linter.all false
set_option autoImplicit false
set_option maxRecDepth 100000
set_option maxHeartbeats 1000000
namespace K84
open PySem PySem.Spec L2 DL
theorem best_one {s : Stt} {p q p' q' : Int} (h : Best s p q) (h' : Best s p' q') : p = p' ∧ q = q' := by
  have h1 := h.least p' q' h'.q0 h'.inn
  have h2 := h'.least p q h.q0 h.inn
  omega
theorem nice_par {n : Nat} {p q : Int} {l r : Int × Int} (hq : q ≠ 1 → Par p q l r) (hp : p ≤ 1000000) (hq2 : q ≤ 1000000) : TI (n + 2) (parD q l r) := by
  unfold parD
  split
  · exact ⟨by simp, by simp⟩
  · rename_i hne
    have h := hq hne
    have a1 := h.l1
    have a2 := h.l2
    have a3 := h.r1
    have a4 := h.r2
    have a5 := h.s1
    have a6 := h.s2
    have i1 : ∀ x : Int, 0 ≤ x → x ≤ 1000000 → TI n (.int x) := fun x h0 h1 => by cases n <;> exact ⟨by omega, h1⟩
    refine ⟨by simp, fun x hx => ?_⟩
    simp at hx
    rcases hx with rfl | rfl
    · refine ⟨by simp, fun x hx => ?_⟩
      simp at hx
      rcases hx with rfl | rfl <;> exact i1 _ (by omega) (by omega)
    · refine ⟨by simp, fun x hx => ?_⟩
      simp at hx
      rcases hx with rfl | rfl <;> exact i1 _ (by omega) (by omega)
/-- what is told is shown -/
theorem told_judge {s : Stt} {B p q : Int} {l r : Int × Int} (hs : s.Ok) (h : Told s B p q l r) : judge s (frD (p, q)) (parD q l r) = true := by
  obtain ⟨best, par⟩ := h
  have q0 := best.q0
  have co := best.co
  have iff1 := isIn_iff hs q0 co
  have hin : s.isIn p q = true := iff1.mpr best.inn
  have hfr : isFr (frD (p, q)) = true := by
    unfold frD isFr
    have : 1 ≤ q := by omega
    simp [this, gI_one_iff.mp co]
  have hj : judge s (frD (p, q)) (parD q l r) = (s.isIn p q && jp s p q (parD q l r)) := by
    unfold judge
    rw [hfr]
    rfl
  rw [hj, hin, Bool.true_and]
  unfold jp parD
  by_cases h1 : q = 1
  · rw [if_pos h1, if_pos h1]
    have : s.isIn (p - 1) 1 = false := by
      cases z : s.isIn (p - 1) 1 with
      | false => rfl
      | true =>
        have := (best.least (p - 1) 1 (by omega) ((isIn_iff hs (by omega) (gI_1 _)).mp z)).1
        omega
    rw [this]
    rfl
  · rw [if_neg h1, if_neg h1]
    have P := par h1
    obtain ⟨l1, l2⟩ := l
    obtain ⟨r1, r2⟩ := r
    have a1 := P.l1
    have a2 := P.l2
    have a3 := P.r1
    have a4 := P.r2
    have a5 := P.s1
    have a6 := P.s2
    have det := P.det
    simp only at a1 a2 a3 a4 a5 a6 det
    have co1 := co_of_det (a := l1) (b := l2) (c := r1) (d := r2) det
    have n1 : s.isIn l1 l2 = false := by
      cases z : s.isIn l1 l2 with
      | false => rfl
      | true =>
        have := best.least l1 l2 (by omega) ((isIn_iff hs (by omega) co1.1).mp z)
        have r20 : r2 = 0 := by omega
        have r10 : r1 = 0 := by omega
        rw [r20, r10] at det
        simp at det
    have n2 : (decide (r2 = 0) || !s.isIn r1 r2) = true := by
      by_cases z0 : r2 = 0
      · simp [z0]
      · cases z : s.isIn r1 r2 with
        | false => simp
        | true =>
          have := best.least r1 r2 (by omega) ((isIn_iff hs (by omega) co1.2).mp z)
          omega
    have pr : arePar (.tup [frD (l1, l2), frD (r1, r2)]) = true := by
      have : 0 < l2 := by omega
      have : 0 ≤ l2 := by omega
      simp [arePar, pairNN, nnI, posLow, frD, a1, a3, a4, *]
    rw [pr, Bool.true_and]
    simp only [frD]
    rw [n1, n2]
    simp [a5, a6, det]
/-- values that the judges may be asked of -/
def VOk (v : D) : Prop := Nice 6 v ∨ v = .emp
theorem repr_bl (b : Bool) : reprD (.bl b) = some (Str.ofString (if b then "True" else "False")) := rfl
theorem eq_str (x y : Str) : eqD (.str x) (.str y) = some (decide (x = y)) := rfl
/-! ### a block whose items draw -/
theorem loopM {E : Gv} {i : Nat} {e : DX} {Inv : Int → List (List D) → Prop} {P : D → Prop} {r : List (Option Sl)} (st : Int) (hi : i < r.length) (hs : r[i]? = some none) : ∀ (ds : List D) (c : Int) (m : List (List D)), Inv c m → (∀ d ∈ ds, ∀ (c' : Int) (m : List (List D)), c ≤ c' → c' < c + st * ds.length → Inv c' m → ∃ y m', ev E e ⟨r.set i (some (.val d)), m⟩ = .ok y ⟨r.set i (some (.val d)), m'⟩ ∧ P y ∧ Inv (c' + st) m') → 0 < st →
    ∃ ys m', loopC [i] (asg (.nm i)) (tst E .yes) (ev E e) ds ⟨r, m⟩ = .ok ys ⟨r, m'⟩ ∧ (∀ y ∈ ys, P y) ∧ ys.length = ds.length ∧ Inv (c + st * ds.length) m'
  | [], c, m, hI, _, _ => ⟨[], m, by simp [loopC], by simp, rfl, by simpa using hI⟩
  | d :: ds, c, m, hI, h, h0 => by
    have hn : (r.set i (some (Sl.val d))).set i none = r := by
      rw [List.set_set]
      exact List.ext_getElem? fun j => by
        by_cases e : i = j
        · subst e; rw [List.getElem?_set_self hi, hs]
        · rw [List.getElem?_set_ne e]
    have q : asg (.nm i) d ⟨r, m⟩ = some ⟨r.set i (some (.val d)), m⟩ := by simp [asg, setV, hi]
    have hlen : st * ((d :: ds).length : Int) = st + st * (ds.length : Int) := by
      simp only [List.length_cons, Int.natCast_add]
      grind
    have hpos : 0 ≤ st * (ds.length : Int) := Int.mul_nonneg (by omega) (by omega)
    rw [hlen] at h
    obtain ⟨y, m1, e1, hP, hI1⟩ := h d (by simp) c m (Int.le_refl _) (by omega) hI
    obtain ⟨ys, m2, e2, hPs, hl, hI2⟩ := loopM st hi hs ds (c + st) m1 hI1 (fun d' hd c' m hc hc2 hI => h d' (by simp [hd]) c' m (by omega) (by omega) hI) h0
    refine ⟨y :: ys, m2, ?_, ?_, by simp [hl], ?_⟩
    · have qt : ∀ s, tst E .yes s = .ok true s := fun s => by rw [tst]
      simp only [loopC, q, opt_some, bind_ok, qt, if_true, e1, wipeS, hn, e2]
    · intro z hz
      rcases List.mem_cons.mp hz with rfl | hz
      · exact hP
      · exact hPs z hz
    · rw [hlen]
      rw [show c + (st + st * (ds.length : Int)) = c + st + st * (ds.length : Int) by omega]
      exact hI2
theorem compM {E : Gv} {i : Nat} {it : DIt} {e : DX} {Inv : Int → List (List D) → Prop} {P : D → Prop} {r : List (Option Sl)} {ds : List D} {m : List (List D)} {c : Int} (st : Int) (hit : evit E it ⟨r, m⟩ = .ok ds ⟨r, m⟩) (hi : i < r.length) (hp : plainAt r [i] = true) (hl : ds.length < sizeLine) (hI : Inv c m)
    (h : ∀ d ∈ ds, ∀ (c' : Int) (m : List (List D)), c ≤ c' → c' < c + st * ds.length → Inv c' m → ∃ y m', ev E e ⟨r.set i (some (.val d)), m⟩ = .ok y ⟨r.set i (some (.val d)), m'⟩ ∧ P y ∧ Inv (c' + st) m') (h0 : 0 < st) :
    ∃ ys m', ev E (.comp [i] (.nm i) it .yes e) ⟨r, m⟩ = .ok (.lst ys) ⟨r, m'⟩ ∧ (∀ y ∈ ys, P y) ∧ ys.length = ds.length ∧ Inv (c + st * ds.length) m' := by
  obtain ⟨ys, m', e1, hP, hlen, hI'⟩ := loopM (E := E) (e := e) (P := P) (r := r.set i none) st (by simpa using hi) (by rw [List.getElem?_set_self hi]) ds c m hI (fun d hd c' m hc hc2 hI => by simpa using h d hd c' m hc hc2 hI) h0
  refine ⟨ys, m', ?_, hP, hlen, hI'⟩
  rw [ev, hit]
  simp only [bind_ok, hp, if_true, wipeS]
  rw [e1]
  simp only [bind_ok, hl, if_true, backS]
  obtain ⟨x, hx⟩ : ∃ x, r[i]? = some x := ⟨r[i], List.getElem?_eq_getElem hi⟩
  rw [hx]
  simp only [List.set_set]
  have : r.set i x = r := List.ext_getElem? fun j => by
    by_cases e : i = j
    · subst e; rw [List.getElem?_set_self hi, hx]
    · rw [List.getElem?_set_ne e]
  rw [this]
end K84
end

section
set_option Elab.async false
set_option linter.all false
set_option autoImplicit false
set_option maxRecDepth 100000
set_option maxHeartbeats 2000000
namespace K84
open PySem PySem.Spec L2 DL
theorem nice_up : ∀ {n : Nat} {d : D}, Nice n d → Nice (n + 1) d
  | 0, .int _, h => h
  | _ + 1, .int _, h => h
  | 0, .non, h => h
  | _ + 1, .non, h => h
  | 0, .bl _, h => h
  | _ + 1, .bl _, h => h
  | 0, .str _, h => h
  | _ + 1, .str _, h => h
  | n + 1, .tup xs, h => fun x hx => nice_up (h x hx)
  | n + 1, .lst xs, h => fun x hx => nice_up (h x hx)
  | 0, .tup _, h => h.elim
  | 0, .lst _, h => h.elim
  | 0, .klst _, h => h.elim
  | _ + 1, .klst _, h => h.elim
  | 0, .emp, h => h.elim
  | _ + 1, .emp, h => h.elim
  | 0, .ref _, h => h.elim
  | _ + 1, .ref _, h => h.elim
theorem nice_le {n m : Nat} {d : D} (h : Nice n d) (hm : n ≤ m) : Nice m d := by
  induction hm with
  | refl => exact h
  | step _ ih => exact nice_up ih
theorem odds_ok {d : D} (h : d ∈ odds1 ++ odds2) : VOk d := by
  have i : ∀ (n : Nat) (x : Int), -1000000000000 ≤ x → x ≤ 1000000000000 → Nice n (.int x) := fun n x h0 h1 => by cases n <;> exact ⟨h0, h1⟩
  have st : ∀ (n : Nat) (x : String), Nice n (.str (Str.ofString x)) := fun n x => by cases n <;> exact str_ok x
  have no : ∀ n : Nat, Nice n .non := fun n => by cases n <;> trivial
  have tu : ∀ (n : Nat) (xs : List D), (∀ x ∈ xs, Nice n x) → Nice (n + 1) (.tup xs) := fun n xs h => h
  have li : ∀ (n : Nat) (xs : List D), (∀ x ∈ xs, Nice n x) → Nice (n + 1) (.lst xs) := fun n xs h => h
  simp only [odds1, odds2, List.cons_append, List.nil_append, List.mem_cons, List.not_mem_nil, or_false] at h
  rcases h with rfl | rfl | rfl | rfl | rfl | rfl | rfl | rfl | rfl | rfl | rfl | rfl | rfl | rfl | rfl | rfl | rfl | rfl | rfl | rfl | rfl | rfl | rfl | rfl | rfl | rfl
  all_goals first
    | exact .inr rfl
    | exact .inl trivial
    | exact .inl (i 6 _ (by decide) (by decide))
    | exact .inl (st 6 _)
    | (refine .inl (tu 5 _ fun x hx => ?_)
       simp at hx
       first
         | (subst hx; first | exact i 5 _ (by decide) (by decide) | exact st 5 _ | exact no 5 | exact tu 4 _ (by simp))
         | (rcases hx with rfl | rfl <;> first | exact i 5 _ (by decide) (by decide) | exact st 5 _)
         | (rcases hx with rfl | rfl | rfl <;> first | exact i 5 _ (by decide) (by decide) | exact st 5 _))
    | (refine .inl (li 5 _ fun x hx => ?_)
       simp at hx
       try (subst hx; exact i 5 _ (by decide) (by decide)))
structure Said (s : Stt) (p q : Int) (ps : List D) : Prop where
  judge : judge s (.tup [.int p, .int q]) (.tup ps) = true
  p0 : 0 ≤ p
  p1 : p ≤ 10000
  q0 : 0 < q
  q1 : q ≤ 10000
  ti : TI 2 (.tup ps)
theorem said_of {s : Stt} {p q : Int} {l r : Int × Int} (hs : s.Ok) (h : Told s 5000 p q l r) (hp : p ≤ 5000 + 5000) (hq : q ≤ 5000 + 5000) : ∃ ps, parD q l r = .tup ps ∧ Said s p q ps := by
  have ht := nice_par (n := 0) h.par (by omega) (by omega)
  have hj := told_judge hs h
  obtain ⟨ps, e⟩ : ∃ ps, parD q l r = .tup ps := by
    unfold parD
    split <;> exact ⟨_, rfl⟩
  rw [e] at ht hj
  exact ⟨ps, e, hj, h.best.p0, by omega, h.best.q0, by omega, ht⟩
end K84
end

section
set_option Elab.async false
set_option linter.all false
set_option autoImplicit false
set_option maxRecDepth 100000
set_option maxHeartbeats 1000000
namespace K84
open PySem PySem.Spec L2 DL
/-! ### a fraction between two whose cross is one -/
theorem between {a b c d x y : Int} (det : c * b - a * d = 1) (h1 : a * y < x * b) (h2 : x * d < c * y) (hb : 0 ≤ b) (hd : 0 ≤ d) (ha : 0 ≤ a) (hc : 0 ≤ c) : b + d ≤ y ∧ a + c ≤ x := by
  have u : 1 ≤ x * b - a * y := by omega
  have v : 1 ≤ c * y - x * d := by omega
  have e1 : y = b * (c * y - x * d) + d * (x * b - a * y) := by
    have : b * (c * y - x * d) + d * (x * b - a * y) = (c * b - a * d) * y := by grind
    rw [this, det, Int.one_mul]
  have e2 : x = a * (c * y - x * d) + c * (x * b - a * y) := by
    have : a * (c * y - x * d) + c * (x * b - a * y) = (c * b - a * d) * x := by grind
    rw [this, det, Int.one_mul]
  have q1 : b * 1 ≤ b * (c * y - x * d) := Int.mul_le_mul_of_nonneg_left v hb
  have q2 : d * 1 ≤ d * (x * b - a * y) := Int.mul_le_mul_of_nonneg_left u hd
  have q3 : a * 1 ≤ a * (c * y - x * d) := Int.mul_le_mul_of_nonneg_left v ha
  have q4 : c * 1 ≤ c * (x * b - a * y) := Int.mul_le_mul_of_nonneg_left u hc
  omega
def lHalf (s : Stt) (p q : Int) : Stt := ⟨s.a, s.b, s.il, some (p, q), false⟩
def rHalf (s : Stt) (p q : Int) : Stt := ⟨p, q, false, s.hi, s.ih⟩
theorem lHalf_in {s : Stt} {p q x y : Int} : InR (lHalf s p q) x y ↔ (s.a * y < x * s.b ∨ (s.a * y = x * s.b ∧ s.il = true)) ∧ x * q < p * y := by
  unfold InR lHalf
  constructor
  · rintro ⟨h1, h2⟩
    refine ⟨h1, ?_⟩
    rcases h2 p q rfl with h | ⟨_, h⟩
    · exact h
    · cases h
  · rintro ⟨h1, h2⟩
    refine ⟨h1, fun c d e => ?_⟩
    cases e
    exact .inl h2
theorem rHalf_in {s : Stt} {p q x y : Int} : InR (rHalf s p q) x y ↔ p * y < x * q ∧ ∀ c d, s.hi = some (c, d) → (x * d < c * y ∨ (x * d = c * y ∧ s.ih = true)) := by
  unfold InR rHalf
  constructor
  · rintro ⟨h1, h2⟩
    refine ⟨?_, h2⟩
    rcases h1 with h | ⟨_, h⟩
    · exact h
    · cases h
  · rintro ⟨h1, h2⟩
    exact ⟨.inl h1, h2⟩
theorem cross_lt {a b c d e f : Int} (hb : 0 < b) (hd : 0 < d) (hf : 0 < f) (h1 : a * d < c * b) (h2 : c * f ≤ e * d) : a * f < e * b := by
  refine Int.lt_of_mul_lt_mul_right (a := d) ?_ (by omega)
  have k1 : a * d * f < c * b * f := Int.mul_lt_mul_of_pos_right h1 hf
  have k2 : c * f * b ≤ e * d * b := Int.mul_le_mul_of_nonneg_right h2 (by omega)
  have : a * f * d = a * d * f := by grind
  have : e * b * d = e * d * b := by grind
  have : c * b * f = c * f * b := by grind
  omega
theorem cross_lt' {a b c d e f : Int} (hb : 0 < b) (hd : 0 < d) (hf : 0 < f) (h1 : a * d ≤ c * b) (h2 : c * f < e * d) : a * f < e * b := by
  refine Int.lt_of_mul_lt_mul_right (a := d) ?_ (by omega)
  have k1 : a * d * f ≤ c * b * f := Int.mul_le_mul_of_nonneg_right h1 (by omega)
  have k2 : c * f * b < e * d * b := Int.mul_lt_mul_of_pos_right h2 hb
  have : a * f * d = a * d * f := by grind
  have : e * b * d = e * d * b := by grind
  have : c * b * f = c * f * b := by grind
  omega
/-- what lies in a half lies in the whole -/
theorem l_sub {s : Stt} {p q x y : Int} (hq : 0 < q) (hy : 0 < y) (hs : s.Ok) (h : InR s p q) (hh : InR (lHalf s p q) x y) : InR s x y := by
  obtain ⟨h1, h2⟩ := lHalf_in.mp hh
  refine ⟨h1, fun c d e => .inl ?_⟩
  obtain ⟨d0, _⟩ := hs.hi c d e
  rcases h.2 c d e with g | ⟨g, _⟩
  · exact cross_lt hy hq d0 h2 (by omega)
  · exact cross_lt hy hq d0 h2 (by omega)
theorem r_sub {s : Stt} {p q x y : Int} (hq : 0 < q) (hy : 0 < y) (hs : s.Ok) (h : InR s p q) (hh : InR (rHalf s p q) x y) : InR s x y := by
  obtain ⟨h1, h2⟩ := rHalf_in.mp hh
  refine ⟨.inl ?_, h2⟩
  have b0 := hs.b0
  rcases h.1 with g | ⟨g, _⟩
  · exact cross_lt' b0 hq hy (by omega) h1
  · exact cross_lt' b0 hq hy (by omega) h1
/-- what lies in the whole is the cut, or lies in a half -/
theorem split_in {s : Stt} {p q x y : Int} (h : InR s x y) : x * q = p * y ∨ InR (lHalf s p q) x y ∨ InR (rHalf s p q) x y := by
  rcases Int.lt_trichotomy (x * q) (p * y) with g | g | g
  · exact .inr (.inl (lHalf_in.mpr ⟨h.1, g⟩))
  · exact .inl g
  · exact .inr (.inr (rHalf_in.mpr ⟨g, h.2⟩))
theorem odd_mul {x y z : Int} (h : x * y - z = 1) (hz : z % 2 = 0) : x % 2 = 1 ∧ y % 2 = 1 := by
  have h2 : (x * y) % 2 = 1 := by omega
  rw [Int.mul_emod] at h2
  have a1 : x % 2 = 0 ∨ x % 2 = 1 := by omega
  have a2 : y % 2 = 0 ∨ y % 2 = 1 := by omega
  rcases a1 with e1 | e1 <;> rcases a2 with e2 | e2 <;> rw [e1, e2] at h2 <;> simp_all
theorem even_mul {x y : Int} (h : x % 2 = 0) : (x * y) % 2 = 0 := by rw [Int.mul_emod, h]; simp
theorem even_mul' {x y : Int} (h : y % 2 = 0) : (x * y) % 2 = 0 := by rw [Int.mul_emod, h]; simp
/-- the simplest beside an even one is odd -/
theorem odd_r {s : Stt} {p q x y B : Int} {l r : Int × Int} (hs : s.Ok) (b : Best s p q) (h : Told (rHalf s p q) B x y l r) (hp : p % 2 = 0) : x % 2 = 1 := by
  obtain ⟨bb, par⟩ := h
  have hin := rHalf_in.mp bb.inn
  have q0 := b.q0
  have y0 := bb.q0
  have bl := b.least x y y0 (r_sub q0 y0 hs b.inn bb.inn)
  by_cases hy : y = 1
  · subst hy
    have q1 : q = 1 := by omega
    subst q1
    have : ¬ (p < x - 1) := fun hlt => by
      have := (bb.least (x - 1) 1 (by omega) (rHalf_in.mpr ⟨by omega, fun c d e => .inl (by
        obtain ⟨d0, _⟩ := hs.hi c d e
        have e2 : (x - 1) * d = x * d - d := by grind
        rcases hin.2 c d e with g | ⟨g, _⟩ <;> omega)⟩)).1
      omega
    omega
  · obtain ⟨l1, l2⟩ := l
    obtain ⟨r1, r2⟩ := r
    have P := par hy
    have p1 := P.l1
    have p2 := P.l2
    have p3 := P.r1
    have p4 := P.r2
    have p5 := P.det
    have p6 := P.s1
    have p7 := P.s2
    simp only at p1 p2 p3 p4 p5 p6 p7
    have det2 : x * l2 - l1 * y = 1 := by
      have : x * l2 - l1 * y = r1 * l2 - l1 * r2 := by rw [← p6, ← p7]; grind
      omega
    -- the left parent is the cut
    have le1 : l1 * q ≤ p * l2 := by
      refine Classical.byContradiction fun hn => ?_
      have : InR (rHalf s p q) l1 l2 := rHalf_in.mpr ⟨by omega, fun c d e => .inl (by
        obtain ⟨d0, _⟩ := hs.hi c d e
        rcases hin.2 c d e with g | ⟨g, _⟩
        · exact cross_lt (a := l1) (d := y) (c := x) (b := l2) (f := d) (e := c) (by omega) y0 d0 (by omega) (by omega)
        · exact cross_lt (a := l1) (d := y) (c := x) (b := l2) (f := d) (e := c) (by omega) y0 d0 (by omega) (by omega))⟩
      have := bb.least l1 l2 (by omega) this
      have : r1 = 0 := by omega
      have : r2 = 0 := by omega
      subst r1 r2
      simp at p5
    have le2 : ¬ (l1 * q < p * l2) := fun hlt => by
      have := (between det2 (by omega) (by have := hin.1; grind) (by omega) (by omega) p1 (by omega)).1
      omega
    have co := (co_of_det (a := l1) (b := l2) (c := x) (d := y) det2).1
    obtain ⟨e1, e2⟩ := frac_eq (a := p) (b := q) (p := l1) (q := l2) q0 (by omega) b.co co (by omega)
    subst e1 e2
    have := odd_mul p5 (even_mul hp)
    omega
theorem odd_l {s : Stt} {p q x y B : Int} {l r : Int × Int} (hs : s.Ok) (b : Best s p q) (h : Told (lHalf s p q) B x y l r) (hp : p % 2 = 0) : x % 2 = 1 := by
  obtain ⟨bb, par⟩ := h
  have hin := lHalf_in.mp bb.inn
  have q0 := b.q0
  have y0 := bb.q0
  have x0 := bb.p0
  have bl := b.least x y y0 (l_sub q0 y0 hs b.inn bb.inn)
  by_cases hy : y = 1
  · exfalso
    subst hy
    have : x * 1 ≤ x * q := Int.mul_le_mul_of_nonneg_left (by omega) x0
    omega
  · obtain ⟨l1, l2⟩ := l
    obtain ⟨r1, r2⟩ := r
    have P := par hy
    have p1 := P.l1
    have p2 := P.l2
    have p3 := P.r1
    have p4 := P.r2
    have p5 := P.det
    have p6 := P.s1
    have p7 := P.s2
    simp only at p1 p2 p3 p4 p5 p6 p7
    have det2 : r1 * y - x * r2 = 1 := by
      have : r1 * y - x * r2 = r1 * l2 - l1 * r2 := by rw [← p6, ← p7]; grind
      omega
    have r10 : 1 ≤ r1 := by
      refine Classical.byContradiction fun hn => ?_
      have : r1 = 0 := by omega
      subst this
      have := Int.mul_nonneg p1 p4
      omega
    have le1 : p * r2 ≤ r1 * q := by
      refine Classical.byContradiction fun hn => ?_
      have r20 : 0 < r2 := by
        refine Classical.byContradiction fun hz => ?_
        have : r2 = 0 := by omega
        subst this
        have := Int.mul_nonneg p3 (show 0 ≤ q by omega)
        omega
      have : InR (lHalf s p q) r1 r2 := lHalf_in.mpr ⟨.inl (by
        have b0 := hs.b0
        rcases hin.1 with g | ⟨g, _⟩
        · exact cross_lt' (a := s.a) (d := y) (c := x) (b := s.b) (f := r2) (e := r1) b0 y0 r20 (by omega) (by omega)
        · exact cross_lt' (a := s.a) (d := y) (c := x) (b := s.b) (f := r2) (e := r1) b0 y0 r20 (by omega) (by omega)), by omega⟩
      have := (bb.least r1 r2 r20 this).2
      omega
    have le2 : ¬ (p * r2 < r1 * q) := fun hlt => by
      have := (between det2 (by have := hin.2; grind) hlt (by omega) p4 x0 (by omega)).2
      omega
    have r20 : 0 < r2 := by
      refine Classical.byContradiction fun hz => ?_
      have : r2 = 0 := by omega
      subst this
      have := Int.mul_pos (show 0 < r1 by omega) q0
      omega
    have co := (co_of_det (a := x) (b := y) (c := r1) (d := r2) det2).2
    obtain ⟨e1, e2⟩ := frac_eq (a := p) (b := q) (p := r1) (q := r2) q0 r20 b.co co (by omega)
    subst e1 e2
    have h5 : l1 * r2 % 2 = 1 := by
      have := even_mul (x := r1) (y := l2) hp
      omega
    have h6 : l1 % 2 = 1 := by
      have a1 : l1 % 2 = 0 ∨ l1 % 2 = 1 := by omega
      rcases a1 with e | e
      · have := even_mul (x := l1) (y := r2) e
        omega
      · exact e
    omega
/-- an odd one in the whole lies in a half of an even cut -/
theorem odd_in {s : Stt} {p q x y : Int} (b : Best s p q) (hp : p % 2 = 0) (hx : x % 2 = 1) (hy : 0 < y) (h : InR s x y) : InR (lHalf s p q) x y ∨ InR (rHalf s p q) x y := by
  rcases split_in (p := p) (q := q) h with g | g
  · exfalso
    -- x q is even, so q is even too
    have e1 : (x * q) % 2 = 0 := by rw [g]; exact even_mul hp
    have e2 : q % 2 = 0 := by
      rw [Int.mul_emod, hx] at e1
      omega
    have co := b.co
    have : (2 : Int) ∣ gI p q := by
      unfold gI
      have h1 : (2 : Nat) ∣ p.natAbs := by omega
      have h2 : (2 : Nat) ∣ q.natAbs := by omega
      exact_mod_cast Nat.dvd_gcd h1 h2
    rw [co] at this
    omega
  · exact g
end K84
end

section
set_option Elab.async false
set_option linter.all false
set_option autoImplicit false
set_option maxRecDepth 100000
set_option maxHeartbeats 1000000
namespace K84
open PySem PySem.Spec L2 DL
theorem EC4 (k : Nat) : (E k).C 4 = some (.tup [.int 2, .int 1]) := rfl
/-- product_of(TWO, one) -/
theorem v34 (k : Nat) (a b : Int) (m : List (List D)) (hb : 0 < b) (h1 : Bt a 4000) (h2 : Bt b 4000) : F (k + 3) 34 [.tup [.int 2, .int 1], .tup [.int a, .int b]] m = .ok (frD (red (2 * a) b)) m := by
  rw [ff34]
  have o1 := bt_one 4000 (by omega)
  have o2 : Bt 2 4000 := small_bt (by omega) (by
    have e : (2 : Int) ^ 4000 = 2 ^ 2 * 2 ^ 3998 := by rw [← Int.pow_add]
    have : (0 : Int) < 2 ^ 3998 := Int.pow_pos (by omega)
    omega) (by omega)
  have m1 := mul_ok (x := 2) (y := a) (bt_mono o2 (by omega)) (bt_mono h1 (by omega))
  have m2 := mul_ok (x := 1) (y := b) (bt_mono o1 (by omega)) (bt_mono h2 (by omega))
  rw [Int.one_mul] at m2
  have e2 := v2 k (2 * a) b m hb (bt_mono h2 (by omega))
  generalize 2 * a = A at *
  unfold b34
  simp [runB, evSs, evS, ev, evs, evo, evit, tst, rdv, peek, peekR, rderef, biD, isTy, truth, cmD, isVar, seqOf, itemsOf, idxD, atI, ixN, sizeLine_eq, setV, asg, asgs, DL.isNon, lseqOf, blsOf, EF, m1, m2, e2, frD, red, gI]
/-- twice a stretch -/
def tw (s : Stt) : Stt := ⟨(red (2 * s.a) s.b).1, (red (2 * s.a) s.b).2, s.il, s.hi.map fun (c, d) => red (2 * c) d, s.ih⟩
theorem tw_hi {s : Stt} {c d : Int} (h : s.hi = some (c, d)) : (tw s).hi = some (red (2 * c) d) := by unfold tw; rw [h]; rfl
theorem sc_lt {x y A b p q : Int} (hb : 0 < b) (hy : 0 < y) (e : x * b = A * y) : x * q < p * y ↔ A * q < p * b := by
  have e1 : x * q * b = A * q * y := by rw [Int.mul_right_comm, e, Int.mul_right_comm]
  have e2 : p * y * b = p * b * y := Int.mul_right_comm ..
  constructor
  · intro h
    have h1 := Int.mul_lt_mul_of_pos_right h hb
    rw [e1, e2] at h1
    exact Int.lt_of_mul_lt_mul_right h1 (by omega)
  · intro h
    have h1 := Int.mul_lt_mul_of_pos_right h hy
    rw [← e1, ← e2] at h1
    exact Int.lt_of_mul_lt_mul_right h1 (by omega)
theorem sc_lt' {x y A b p q : Int} (hb : 0 < b) (hy : 0 < y) (e : x * b = A * y) : p * y < x * q ↔ p * b < A * q := by
  have e1 : x * q * b = A * q * y := by rw [Int.mul_right_comm, e, Int.mul_right_comm]
  have e2 : p * y * b = p * b * y := Int.mul_right_comm ..
  constructor
  · intro h
    have h1 := Int.mul_lt_mul_of_pos_right h hb
    rw [e1, e2] at h1
    exact Int.lt_of_mul_lt_mul_right h1 (by omega)
  · intro h
    have h1 := Int.mul_lt_mul_of_pos_right h hy
    rw [← e1, ← e2] at h1
    exact Int.lt_of_mul_lt_mul_right h1 (by omega)
theorem sc_eq {x y A b p q : Int} (hb : 0 < b) (hy : 0 < y) (e : x * b = A * y) : x * q = p * y ↔ A * q = p * b := by
  have e1 : x * q * b = A * q * y := by rw [Int.mul_right_comm, e, Int.mul_right_comm]
  have e2 : p * y * b = p * b * y := Int.mul_right_comm ..
  constructor
  · intro h
    refine Int.eq_of_mul_eq_mul_right (a := y) (by omega) ?_
    rw [← e1, ← e2, h]
  · intro h
    refine Int.eq_of_mul_eq_mul_right (a := b) (by omega) ?_
    rw [e1, e2, h]
theorem tw_in {s : Stt} (hs : s.Ok) {c d : Int} (hh : s.hi = some (c, d)) {p q : Int} : InR (tw s) p q ↔ InR s p (2 * q) := by
  obtain ⟨d0, c0, _⟩ := hs.hi c d hh
  have a0 := hs.a0
  have b0 := hs.b0
  obtain ⟨x0, _, y0, _, _, e1⟩ := red_facts (x := 2 * s.a) (y := s.b) (by omega) b0
  obtain ⟨z0, _, w0, _, _, e2⟩ := red_facts (x := 2 * c) (y := d) (by omega) d0
  have r1 : s.a * (2 * q) = 2 * s.a * q := by grind
  have r2 : c * (2 * q) = 2 * c * q := by grind
  have q1 : (red (2 * s.a) s.b).1 * q < p * (red (2 * s.a) s.b).2 ↔ s.a * (2 * q) < p * s.b := by rw [r1]; exact sc_lt b0 y0 e1
  have q2 : (red (2 * s.a) s.b).1 * q = p * (red (2 * s.a) s.b).2 ↔ s.a * (2 * q) = p * s.b := by rw [r1]; exact sc_eq b0 y0 e1
  have q3 : p * (red (2 * c) d).2 < (red (2 * c) d).1 * q ↔ p * d < c * (2 * q) := by rw [r2]; exact sc_lt' d0 w0 e2
  have q4 : p * (red (2 * c) d).2 = (red (2 * c) d).1 * q ↔ p * d = c * (2 * q) := by
    rw [r2]
    have := sc_eq (p := p) (q := q) d0 w0 e2
    exact ⟨fun h => (this.mp h.symm).symm, fun h => (this.mpr h.symm).symm⟩
  unfold InR
  rw [tw_hi hh, hh]
  constructor
  · rintro ⟨h1, h2⟩
    refine ⟨?_, fun c' d' e => ?_⟩
    · rcases h1 with h | ⟨h, hl⟩
      · exact .inl (q1.mp h)
      · exact .inr ⟨q2.mp h, hl⟩
    · cases e
      rcases h2 _ _ rfl with h | ⟨h, hl⟩
      · exact .inl (q3.mp h)
      · exact .inr ⟨q4.mp h, hl⟩
  · rintro ⟨h1, h2⟩
    refine ⟨?_, fun c' d' e => ?_⟩
    · rcases h1 with h | ⟨h, hl⟩
      · exact .inl (q1.mpr h)
      · exact .inr ⟨q2.mpr h, hl⟩
    · obtain ⟨rfl, rfl⟩ := some_pair e
      clear e
      rcases h2 _ _ rfl with h | ⟨h, hl⟩
      · exact .inl (q3.mpr h)
      · exact .inr ⟨q4.mpr h, hl⟩
theorem tw_good {s : Stt} {B : Int} (h : s.Good B) (hB : Bt (2 * B) 800) : (tw s).Good (2 * B) := by
  obtain ⟨hs, hb, hBt, c, d, hh⟩ := h
  obtain ⟨d0, c0, gcd, ho⟩ := hs.hi c d hh
  obtain ⟨b1, b2⟩ := hb.c c d hh
  have a0 := hs.a0
  have b0 := hs.b0
  have ba := hb.a
  have bb := hb.b
  obtain ⟨x0, x1, y0, y1, co1, e1⟩ := red_facts (x := 2 * s.a) (y := s.b) (by omega) b0
  obtain ⟨z0, z1, w0, w1, co2, e2⟩ := red_facts (x := 2 * c) (y := d) (by omega) d0
  have el : (tw s).il = s.il := rfl
  have er : (tw s).ih = s.ih := rfl
  have ea : (tw s).a = (red (2 * s.a) s.b).1 := rfl
  have eb : (tw s).b = (red (2 * s.a) s.b).2 := rfl
  refine ⟨⟨?_, ?_, ?_, fun c' d' e => ?_⟩, ⟨by rw [ea]; omega, by rw [eb]; omega, fun c' d' e => ?_⟩, hB, ⟨_, _, tw_hi hh⟩⟩
  · rw [ea]; exact x0
  · rw [eb]; exact y0
  · rw [ea, eb]; exact co1
  · rw [tw_hi hh] at e
    obtain ⟨rfl, rfl⟩ := some_pair e
    clear e
    refine ⟨w0, z0, co2, ?_⟩
    rw [ea, eb, el, er]
    generalize (red (2 * s.a) s.b).1 = x at *
    generalize (red (2 * s.a) s.b).2 = y at *
    generalize (red (2 * c) d).1 = z at *
    generalize (red (2 * c) d).2 = w at *
    have k1 : x * w * (s.b * d) = 2 * (s.a * d) * (y * w) := by grind
    have k2 : z * y * (s.b * d) = 2 * (c * s.b) * (y * w) := by grind
    have p1 : 0 < s.b * d := Int.mul_pos b0 d0
    have p2 : 0 < y * w := Int.mul_pos y0 w0
    rcases ho with ho | ⟨ho, h1, h2⟩
    · left
      refine Int.lt_of_mul_lt_mul_right (a := s.b * d) ?_ (by omega)
      rw [k1, k2]
      exact Int.mul_lt_mul_of_pos_right (by omega) p2
    · right
      refine ⟨?_, h1, h2⟩
      refine Int.eq_of_mul_eq_mul_right (a := s.b * d) (by omega) ?_
      rw [k1, k2, ho]
  · rw [tw_hi hh] at e
    obtain ⟨rfl, rfl⟩ := some_pair e
    clear e
    omega
theorem v36 (k : Nat) (s : Stt) (B : Int) (m : List (List D)) (h : s.Good B) : F (k + 4) 36 [s.d] m = .ok (tw s).d m := by
  obtain ⟨c, d, hh⟩ := h.end'
  obtain ⟨d0, c0, _⟩ := h.ok.hi c d hh
  obtain ⟨_, ha, hb, _, _, hcd⟩ := sizes h.ok h.bnd (bt_mono h.bt (by omega))
  obtain ⟨hc, hd⟩ := hcd c d hh
  have b0 := h.ok.b0
  have e1 := v34 k s.a s.b m b0 (bt_mono ha (by omega)) (bt_mono hb (by omega))
  have e2 := v34 k c d m d0 (bt_mono hc (by omega)) (bt_mono hd (by omega))
  have et : (tw s).d = .tup [frD (red (2 * s.a) s.b), .bl s.il, frD (red (2 * c) d), .bl s.ih] := by
    unfold Stt.d tw
    rw [hh]
    rfl
  rw [et, ff36]
  unfold Stt.d
  rw [hh]
  unfold hiD
  dsimp only
  unfold b36
  simp [runB, evSs, evS, ev, evs, evo, evit, tst, rdv, peek, peekR, rderef, biD, isTy, truth, cmD, isVar, seqOf, itemsOf, idxD, atI, ixN, sizeLine_eq, setV, asg, asgs, DL.isNon, lseqOf, blsOf, EF, e1, e2, EC4]
theorem v42 (k : Nat) (s : Stt) (B : Int) (m : List (List D)) (h : s.Good B) : F (k + 2) 42 [s.d] m = .ok (tw s).d m := by
  obtain ⟨c, d, hh⟩ := h.end'
  obtain ⟨d0, c0, _⟩ := h.ok.hi c d hh
  obtain ⟨_, ha, hb, _, _, hcd⟩ := sizes h.ok h.bnd (bt_mono h.bt (by omega))
  obtain ⟨hc, hd⟩ := hcd c d hh
  have b0 := h.ok.b0
  have o2 : Bt 2 100000 := bt_mono (small_bt (n := 2) (by omega) (by omega) (by omega)) (by omega)
  have m1 := mul_ok (x := 2) (y := s.a) o2 (bt_mono ha (by omega))
  have m2 := mul_ok (x := 2) (y := c) o2 (bt_mono hc (by omega))
  have e1 := v28 k (2 * s.a) s.b m b0 (bt_mono hb (by omega))
  have e2 := v28 k (2 * c) d m d0 (bt_mono hd (by omega))
  have et : (tw s).d = .tup [frD (red (2 * s.a) s.b), .bl s.il, frD (red (2 * c) d), .bl s.ih] := by
    unfold Stt.d tw
    rw [hh]
    rfl
  rw [et, ff42]
  unfold Stt.d
  rw [hh]
  unfold hiD
  dsimp only
  unfold b42
  simp [runB, evSs, evS, ev, evs, evo, evit, tst, rdv, peek, peekR, rderef, biD, isTy, truth, cmD, isVar, seqOf, itemsOf, idxD, atI, ixN, sizeLine_eq, setV, asg, asgs, DL.isNon, lseqOf, blsOf, EF, e1, e2, m1, m2]
/-! ### the halves -/
def halves (s : Stt) (p q : Int) : List Stt := (if s.a * q < p * s.b then [lHalf s p q] else []) ++ (match s.hi with
  | some (c, d) => if p * d < c * q then [rHalf s p q] else []
  | none => [])
theorem halves_good {s : Stt} {B p q : Int} (h : s.Good B) (p0 : 0 ≤ p) (q0 : 0 < q) (co : gI p q = 1) (hp : p ≤ B) (hq : q ≤ B) : ∀ x ∈ halves s p q, x.Good B := by
  obtain ⟨hs, hb, hBt, c, d, hh⟩ := h
  obtain ⟨d0, c0, gcd, ho⟩ := hs.hi c d hh
  intro x hx
  unfold halves at hx
  rw [hh] at hx
  simp only [List.mem_append] at hx
  rcases hx with hx | hx
  · split at hx
    · rename_i hlt
      simp only [List.mem_cons, List.not_mem_nil, or_false] at hx
      subst hx
      refine ⟨⟨hs.a0, hs.b0, hs.co, fun c' d' e => ?_⟩, ⟨hb.a, hb.b, fun c' d' e => ?_⟩, hBt, ⟨_, _, rfl⟩⟩
      · cases e; exact ⟨q0, p0, co, .inl hlt⟩
      · cases e; exact ⟨hp, hq⟩
    · simp at hx
  · split at hx
    · rename_i hlt
      simp only [List.mem_cons, List.not_mem_nil, or_false] at hx
      subst hx
      refine ⟨⟨p0, q0, co, fun c' d' e => ?_⟩, ⟨hp, hq, fun c' d' e => hb.c c' d' e⟩, hBt, ⟨_, _, hh⟩⟩
      have e : s.hi = some (c', d') := e
      rw [hh] at e
      cases e
      exact ⟨d0, c0, gcd, .inl hlt⟩
    · simp at hx
theorem halves_d {s : Stt} {c d p q : Int} (hh : s.hi = some (c, d)) : .lst ((halves s p q).map Stt.d) = (D.lst ((if s.a * q < p * s.b then [.tup [.tup [.int s.a, .int s.b], .bl s.il, .tup [.int p, .int q], .bl false]] else []) ++ (if p * d < c * q then [.tup [.tup [.int p, .int q], .bl false, .tup [.int c, .int d], .bl s.ih]] else []))) := by
  unfold halves
  rw [hh]
  by_cases h1 : s.a * q < p * s.b <;> by_cases h2 : p * d < c * q <;> simp [h1, h2, Stt.d, lHalf, rHalf, hiD, hh]
theorem addl {a b : List D} (h : a.length + b.length ≤ 1000) : op2 .add (.lst a) (.lst b) = some (.lst (a ++ b)) := by
  simp only [op2]
  rw [if_pos (by rw [sizeLine_eq]; omega)]
theorem v35 (k : Nat) (s : Stt) (B : Int) (m : List (List D)) (h : s.Good B) (p q : Int) (hp : Bt p 3000) (hq : Bt q 3000) : F (k + 2) 35 [s.d, .tup [.int p, .int q]] m = .ok (.lst ((halves s p q).map Stt.d)) m := by
  obtain ⟨c, d, hh⟩ := h.end'
  obtain ⟨_, ha, hb, _, _, hcd⟩ := sizes h.ok h.bnd (bt_mono h.bt (by omega))
  obtain ⟨hc, hd⟩ := hcd c d hh
  have e1 := v7 k s.a s.b p q m (bt_mono ha (by omega)) (bt_mono hb (by omega)) (bt_mono hp (by omega)) (bt_mono hq (by omega))
  have e2 := v7 k p q c d m (bt_mono hp (by omega)) (bt_mono hq (by omega)) (bt_mono hc (by omega)) (bt_mono hd (by omega))
  rw [ff35, halves_d hh]
  unfold Stt.d
  rw [hh]
  unfold hiD
  dsimp only
  unfold b35
  by_cases h1 : s.a * q < p * s.b <;> by_cases h2 : p * d < c * q <;> simp only [h1, h2, decide_true, decide_false] at e1 e2 <;> simp [runB, evSs, evS, ev, evs, evo, evit, tst, rdv, peek, peekR, rderef, biD, isTy, truth, cmD, isVar, seqOf, itemsOf, idxD, atI, ixN, sizeLine_eq, setV, asg, asgs, DL.isNon, lseqOf, blsOf, EF, e1, e2, addl, h1, h2]
theorem v44 (k : Nat) (s : Stt) (B : Int) (m : List (List D)) (h : s.Good B) (p q : Int) (hp : Bt p 3000) (hq : Bt q 3000) : F (k + 1) 44 [s.d, .tup [.int p, .int q]] m = .ok (.lst ((halves s p q).map Stt.d)) m := by
  obtain ⟨c, d, hh⟩ := h.end'
  obtain ⟨_, ha, hb, _, _, hcd⟩ := sizes h.ok h.bnd (bt_mono h.bt (by omega))
  obtain ⟨hc, hd⟩ := hcd c d hh
  have m1 := mul_ok (x := s.a) (y := q) (bt_mono ha (by omega)) (bt_mono hq (by omega))
  have m2 := mul_ok (x := p) (y := s.b) (bt_mono hp (by omega)) (bt_mono hb (by omega))
  have m3 := mul_ok (x := p) (y := d) (bt_mono hp (by omega)) (bt_mono hd (by omega))
  have m4 := mul_ok (x := c) (y := q) (bt_mono hc (by omega)) (bt_mono hq (by omega))
  rw [ff44, halves_d hh]
  unfold Stt.d
  rw [hh]
  unfold hiD
  dsimp only
  generalize s.a * q = X1 at *
  generalize p * s.b = X2 at *
  generalize p * d = X3 at *
  generalize c * q = X4 at *
  unfold b44
  by_cases h1 : X1 < X2 <;> by_cases h2 : X3 < X4 <;> simp [runB, evSs, evS, ev, evs, evo, evit, tst, rdv, peek, peekR, rderef, biD, isTy, truth, cmD, isVar, seqOf, itemsOf, idxD, atI, ixN, sizeLine_eq, setV, asg, asgs, DL.isNon, lseqOf, blsOf, EF, m1, m2, m3, m4, addl, h1, h2]
end K84
end

section
set_option Elab.async false
set_option linter.all false
set_option autoImplicit false
set_option maxRecDepth 100000
set_option maxHeartbeats 2000000
namespace K84
open PySem PySem.Spec L2 DL
theorem v14 (k : Nat) (p q : Int) (m : List (List D)) (M : Int) (hM : Bt M 3900) (hp : p ≤ M) (hq : q ≤ M) (p0 : 0 ≤ p) (q0 : 0 < q) (co : gI p q = 1) : ∃ l r, F (k + 2) 14 [frD (p, q)] m = .ok (.tup [frD (p, q), parD q l r]) m ∧ (q ≠ 1 → Par p q l r) := by
  obtain ⟨l, r, e13, hp⟩ := v13 k p q m M hM hp hq p0 q0 co
  refine ⟨l, r, ?_, hp⟩
  rw [ff14]
  unfold b14
  simp [runB, evSs, evS, ev, evs, evo, evit, tst, rdv, peek, peekR, rderef, biD, isTy, truth, cmD, isVar, seqOf, itemsOf, idxD, atI, ixN, sizeLine_eq, setV, asg, asgs, DL.isNon, lseqOf, blsOf, EF, e13]
theorem two_ok : (0 : Int) < 2 := by omega
theorem md2 (x : Int) : op2 .mod (.int x) (.int 2) = some (.int (x % 2)) := mod_ok (by omega)
theorem dv2 (x : Int) : op2 .fdiv (.int x) (.int 2) = some (.int (x / 2)) := fdiv_ok (by omega) (small_bt (n := 9000) (by omega) (by
  have e : (2 : Int) ^ 9000 = 2 ^ 2 * 2 ^ 8998 := by rw [← Int.pow_add]
  have : (0 : Int) < 2 ^ 8998 := Int.pow_pos (by omega)
  omega) (by omega))
/-- the state in middle_told -/
abbrev st37 (X W fo so : Option Sl) (a b : Option Sl) (m : List (List D)) : S := ⟨[X, W, fo, so, a, b, none, none], m⟩
theorem c37a (k : Nat) (m : List (List D)) (X : Option Sl) (W : D) (p q : Int) (ds ys : List D) (e35 : F k 35 [W, frD (p, q)] m = .ok (.lst ds) m) (hl : ds.length < 1000) (h : All2 (fun d y => F k 12 [d] m = .ok y m) ds ys) :
    ev (E k) c37_2 (st37 X (some (.val W)) (some (.val (frD (p, q)))) none none none m) = .ok (.lst ys) (st37 X (some (.val W)) (some (.val (frD (p, q)))) none none none m) := by
  unfold c37_2
  refine comp2 (ds := ds) ?_ (by simp) (by simp [plainAt]) (by rw [sizeLine_eq]; omega) ?_
  · simp [runB, evSs, evS, ev, evs, evo, evit, tst, rdv, peek, peekR, rderef, biD, isTy, truth, cmD, isVar, seqOf, itemsOf, idxD, atI, ixN, sizeLine_eq, setV, asg, asgs, DL.isNon, lseqOf, blsOf, EF, e35]
  · clear e35 hl
    induction h with
    | nil => exact .nil
    | cons a _ ih => exact .cons (by simp [runB, evSs, evS, ev, evs, evo, evit, tst, rdv, peek, peekR, rderef, biD, isTy, truth, cmD, isVar, seqOf, itemsOf, idxD, atI, ixN, sizeLine_eq, setV, asg, asgs, DL.isNon, lseqOf, blsOf, EF, a]) ih
theorem c37b (k : Nat) (m : List (List D)) (X W fo : Option Sl) (xs : List (Int × Int)) (hl : xs.length < 1000) :
    ev (E k) c37_1 (st37 X W fo (some (.val (.lst (xs.map frD)))) none none m) = .ok (.lst (xs.map fun x => pairD (x.2, x.1))) (st37 X W fo (some (.val (.lst (xs.map frD)))) none none m) := by
  unfold c37_1
  refine comp2 (ds := xs.map frD) ?_ (by simp) (by simp [plainAt]) (by rw [sizeLine_eq, List.length_map]; omega) ?_
  · simp [runB, evSs, evS, ev, evs, evo, evit, tst, rdv, peek, peekR, rderef, biD, isTy, truth, cmD, isVar, seqOf, itemsOf, idxD, atI, ixN, sizeLine_eq, setV, asg, asgs, DL.isNon, lseqOf, blsOf]
  · have key : ∀ (so : D) (l : List (Int × Int)), All2 (fun d y => ev (E k) (.tup (.cons (.idx (.var 7) (.const (.int 1))) (.cons (.idx (.var 7) (.const (.int 0))) .nil))) ⟨[X, W, fo, some (.val so), none, none, none, some (.val d)], m⟩ = .ok y ⟨[X, W, fo, some (.val so), none, none, none, some (.val d)], m⟩) (l.map frD) (l.map fun x => pairD (x.2, x.1)) := fun so l => by
      induction l with
      | nil => exact .nil
      | cons a l ih => exact .cons (by unfold frD pairD; simp [runB, evSs, evS, ev, evs, evo, evit, tst, rdv, peek, peekR, rderef, biD, isTy, truth, cmD, isVar, seqOf, itemsOf, idxD, atI, ixN, sizeLine_eq, setV, asg, asgs, DL.isNon, lseqOf, blsOf]) ih
    exact key _ xs
theorem c37c (k : Nat) (m : List (List D)) (X W a b : Option Sl) (f : D) (ds ys : List D) (hl : ds.length < 1000) (h : All2 (fun d y => F k 14 [d] m = .ok y m) (f :: ds) ys) :
    ev (E k) c37_0 (st37 X W (some (.val f)) (some (.val (.lst ds))) a b m) = .ok (.lst ys) (st37 X W (some (.val f)) (some (.val (.lst ds))) a b m) := by
  unfold c37_0
  refine comp2 (ds := f :: ds) ?_ (by simp) (by simp [plainAt]) (by rw [sizeLine_eq]; simp; omega) ?_
  · have : ds.length ≤ 16777215 := by omega
    simp [runB, evSs, evS, ev, evs, evo, evit, tst, rdv, peek, peekR, rderef, biD, isTy, truth, cmD, isVar, seqOf, itemsOf, idxD, atI, ixN, sizeLine_eq, setV, asg, asgs, DL.isNon, lseqOf, blsOf, this]
  · generalize f :: ds = L at *
    clear hl
    induction h with
    | nil => exact .nil
    | cons a _ ih => exact .cons (by simp [runB, evSs, evS, ev, evs, evo, evit, tst, rdv, peek, peekR, rderef, biD, isTy, truth, cmD, isVar, seqOf, itemsOf, idxD, atI, ixN, sizeLine_eq, setV, asg, asgs, DL.isNon, lseqOf, blsOf, EF, a]) ih
theorem pairs_map : ∀ l : List (Int × Int), pairsOf (l.map fun x => pairD (x.2, x.1)) = some (l.map fun x => (x.2, x.1))
  | [] => rfl
  | x :: l => by
    show (pairsOf (l.map fun x => pairD (x.2, x.1))).map ((x.2, x.1) :: ·) = _
    rw [pairs_map l]
    rfl
/-- the least by low, then by top -/
theorem sort_first : ∀ l : List (Int × Int), l ≠ [] → ∃ y r, sortP l = y :: r ∧ y ∈ l ∧ ∀ z ∈ l, leP y z := fun l h => by
  have pm := sortP_perm l
  have od := sortP_ord l
  cases e : sortP l with
  | nil => rw [e] at pm; exact absurd (List.Perm.eq_nil pm.symm) h
  | cons y r =>
    rw [e] at pm od
    refine ⟨y, r, rfl, pm.mem_iff.mp (by simp), fun z hz => ?_⟩
    rcases List.mem_cons.mp (pm.mem_iff.mpr hz) with rfl | hz
    · unfold leP; omega
    · exact (List.pairwise_cons.mp od).1 z hz
theorem first_idx {l : List (Int × Int)} {y : Int × Int} {r : List (Int × Int)} (h : sortP l = y :: r) : biD .sorted [.lst (l.map pairD)] = some (.lst ((y :: r).map pairD)) := by
  have e : pairsOf (l.map pairD) = some l := by
    have key : ∀ l : List (Int × Int), pairsOf (l.map pairD) = some l := fun l => by
      induction l with
      | nil => rfl
      | cons a l ih => simp [pairsOf, pairD] at ih ⊢; exact ih
    exact key l
  simp only [biD, lseqOf, Option.bind_some, e, Option.map_some, h]
  rfl
theorem lst_nil (l : List (Int × Int)) (hl : l.length ≤ 2) : eqD (.lst (l.map frD)) (.lst []) = some (decide (l = [])) := by
  match l, hl with
  | [], _ => rfl
  | [a], _ => simp [frD, eqD, toP, toPs, SeqAt.shaped, PyData.canLay0, PyData.canLayAll0, PyData.depth, PyData.depthAll, PyData.eqv, PyData.eqvAll]
  | [a, b], _ => simp [frD, eqD, toP, toPs, SeqAt.shaped, PyData.canLay0, PyData.canLayAll0, PyData.depth, PyData.depthAll, PyData.eqv, PyData.eqvAll]
/-- middle_told, odd -/
theorem mid_odd (k : Nat) (m : List (List D)) (X W P : D) (p q : Int) (e36 : F k 36 [X] m = .ok W m) (e12 : F k 12 [W] m = .ok (frD (p, q)) m) (e14 : F k 14 [frD (p, q)] m = .ok P m) (hp : p % 2 = 1) :
    F (k + 1) 37 [X] m = .ok (.tup [.int q, .int (p / 2), .tup [P]]) m := by
  rw [ff37]
  unfold b37 frD at *
  simp [runB, evSs, evS, ev, evs, evo, evit, tst, rdv, peek, peekR, rderef, biD, isTy, truth, cmD, isVar, seqOf, itemsOf, idxD, atI, ixN, sizeLine_eq, setV, asg, asgs, DL.isNon, lseqOf, blsOf, EF, e36, e12, e14, md2, dv2, hp]
theorem mid_non (k : Nat) (m : List (List D)) (X W : D) (p q : Int) (e36 : F k 36 [X] m = .ok W m) (e12 : F k 12 [W] m = .ok (frD (p, q)) m) (e35 : F k 35 [W, frD (p, q)] m = .ok (.lst []) m) (hp : p % 2 = 0) :
    F (k + 1) 37 [X] m = .ok .non m := by
  have c1 := c37a k m (some (.val X)) W p q [] [] e35 (by simp) .nil
  have q1 := lst_nil [] (by simp)
  rw [ff37]
  have hp1 : ¬ p % 2 = 1 := by omega
  unfold b37 frD at *
  simp only [List.map_nil, decide_true] at q1
  simp [runB, evSs, evS, ev, evs, evo, evit, tst, rdv, peek, peekR, rderef, biD, isTy, truth, cmD, isVar, seqOf, itemsOf, idxD, atI, ixN, sizeLine_eq, setV, asg, asgs, DL.isNon, lseqOf, blsOf, EF, e36, e12, md2, hp, c1, q1]
theorem mid_some (k : Nat) (m : List (List D)) (X W P : D) (p q : Int) (hs Ps : List D) (xs : List (Int × Int)) (y : Int × Int) (r : List (Int × Int)) (e36 : F k 36 [X] m = .ok W m) (e12 : F k 12 [W] m = .ok (frD (p, q)) m) (e14 : F k 14 [frD (p, q)] m = .ok P m)
    (e35 : F k 35 [W, frD (p, q)] m = .ok (.lst hs) m) (hp : p % 2 = 0) (hl : hs.length ≤ 2) (h12 : All2 (fun d y => F k 12 [d] m = .ok y m) hs (xs.map frD)) (h14 : All2 (fun d y => F k 14 [d] m = .ok y m) (xs.map frD) Ps) (hn : xs ≠ [])
    (hf : sortP (xs.map fun x => (x.2, x.1)) = y :: r) :
    F (k + 1) 37 [X] m = .ok (.tup [.int y.1, .int (y.2 / 2), .tup (P :: Ps)]) m := by
  have hx : xs.length ≤ 2 := by have := h12.len; rw [List.length_map] at this; omega
  have c1 := c37a k m (some (.val X)) W p q hs _ e35 (by omega) h12
  have c2 := c37b k m (some (.val X)) (some (.val W)) (some (.val (frD (p, q)))) xs (by omega)
  have c3 := c37c k m (some (.val X)) (some (.val W)) (some (.val (.int y.1))) (some (.val (.int y.2))) (frD (p, q)) (xs.map frD) (P :: Ps) (by rw [List.length_map]; omega) (.cons e14 h14)
  have q1 := lst_nil xs hx
  have q2 := first_idx hf
  rw [List.map_map] at q2
  have q3 : (pairD ∘ fun x : Int × Int => (x.2, x.1)) = fun x => pairD (x.2, x.1) := rfl
  rw [q3] at q2
  simp only [hn, decide_false] at q1
  rw [ff37]
  have hp1 : ¬ p % 2 = 1 := by omega
  generalize xs.map frD = so at *
  generalize (xs.map fun x => pairD (x.2, x.1)) = ks at *
  have q4 : seqOf (.lst (P :: Ps)) = some (P :: Ps) := rfl
  have e0 : evSs (E k) b37 (st37 (some (.val X)) none none none none none m) = .ok (.ret (.tup [.int y.1, .int (y.2 / 2), .tup (P :: Ps)])) (st37 (some (.val X)) (some (.val W)) (some (.val (frD (p, q)))) (some (.val (.lst so))) (some (.val (.int y.1))) (some (.val (.int y.2))) m) := by
    unfold b37
    refine (seq_next (s' := st37 (some (.val X)) (some (.val W)) none none none none m) (by simp [runB, evSs, evS, ev, evs, evo, evit, tst, rdv, peek, peekR, rderef, biD, isTy, truth, cmD, isVar, seqOf, itemsOf, idxD, atI, ixN, sizeLine_eq, setV, asg, asgs, DL.isNon, lseqOf, blsOf, EF, e36])).trans ?_
    refine (seq_next (s' := st37 (some (.val X)) (some (.val W)) (some (.val (frD (p, q)))) none none none m) (by simp [runB, evSs, evS, ev, evs, evo, evit, tst, rdv, peek, peekR, rderef, biD, isTy, truth, cmD, isVar, seqOf, itemsOf, idxD, atI, ixN, sizeLine_eq, setV, asg, asgs, DL.isNon, lseqOf, blsOf, EF, e12])).trans ?_
    refine (seq_next (s' := st37 (some (.val X)) (some (.val W)) (some (.val (frD (p, q)))) none none none m) (by unfold frD; simp [runB, evSs, evS, ev, evs, evo, evit, tst, rdv, peek, peekR, rderef, biD, isTy, truth, cmD, isVar, seqOf, itemsOf, idxD, atI, ixN, sizeLine_eq, setV, asg, asgs, DL.isNon, lseqOf, blsOf, md2, hp])).trans ?_
    refine (seq_next (s' := st37 (some (.val X)) (some (.val W)) (some (.val (frD (p, q)))) (some (.val (.lst so))) none none m) (by simp [runB, evSs, evS, ev, evs, evo, evit, tst, rdv, peek, peekR, rderef, biD, isTy, truth, cmD, isVar, seqOf, itemsOf, idxD, atI, ixN, sizeLine_eq, setV, asg, asgs, DL.isNon, lseqOf, blsOf, c1])).trans ?_
    refine (seq_next (s' := st37 (some (.val X)) (some (.val W)) (some (.val (frD (p, q)))) (some (.val (.lst so))) none none m) (by simp [runB, evSs, evS, ev, evs, evo, evit, tst, rdv, peek, peekR, rderef, biD, isTy, truth, cmD, isVar, seqOf, itemsOf, idxD, atI, ixN, sizeLine_eq, setV, asg, asgs, DL.isNon, lseqOf, blsOf, q1])).trans ?_
    refine (seq_next (s' := st37 (some (.val X)) (some (.val W)) (some (.val (frD (p, q)))) (some (.val (.lst so))) (some (.val (.int y.1))) (some (.val (.int y.2))) m) ?_).trans ?_
    · have a1 : ev (E k) (.bi .sorted (.cons c37_1 .nil)) (st37 (some (.val X)) (some (.val W)) (some (.val (frD (p, q)))) (some (.val (.lst so))) none none m) = .ok (.lst ((y :: r).map pairD)) (st37 (some (.val X)) (some (.val W)) (some (.val (frD (p, q)))) (some (.val (.lst so))) none none m) := by
        rw [lenArg_none rfl]
        simp only [evs, c2, bind_ok, q2, opt_some]
      have hv : isVar (DX.bi .sorted (.cons c37_1 .nil)) = none := rfl
      generalize DX.bi .sorted (.cons c37_1 .nil) = SS at *
      rw [evS, ev, hv]
      simp only [a1, bind_ok, ev, int_d, rderef, opt_some, idxD, List.map_cons]
      simp [runB, evSs, evS, ev, evs, evo, evit, tst, rdv, peek, peekR, rderef, biD, isTy, truth, cmD, isVar, seqOf, itemsOf, idxD, atI, ixN, sizeLine_eq, setV, asg, asgs, DL.isNon, lseqOf, blsOf, pairD]
    refine seq_ret ?_
    have a2 : ev (E k) (.bi .tuple (.cons c37_0 .nil)) (st37 (some (.val X)) (some (.val W)) (some (.val (frD (p, q)))) (some (.val (.lst so))) (some (.val (.int y.1))) (some (.val (.int y.2))) m) = .ok (.tup (P :: Ps)) (st37 (some (.val X)) (some (.val W)) (some (.val (frD (p, q)))) (some (.val (.lst so))) (some (.val (.int y.1))) (some (.val (.int y.2))) m) := by
      rw [lenArg_none rfl]
      simp only [evs, c3, bind_ok, biD, q4, Option.map_some, opt_some]
    generalize DX.bi .tuple (.cons c37_0 .nil) = TT at *
    simp [runB, evSs, evS, ev, evs, evo, evit, tst, rdv, peek, peekR, rderef, biD, isTy, truth, cmD, isVar, seqOf, itemsOf, idxD, atI, ixN, sizeLine_eq, setV, asg, asgs, DL.isNon, lseqOf, blsOf, dv2, a2]
  exact runB_ret (s0 := st37 (some (.val X)) none none none none none m) rfl e0
end K84
end

section
set_option Elab.async false
set_option linter.all false
set_option autoImplicit false
set_option maxRecDepth 100000
set_option maxHeartbeats 2000000
namespace K84
open PySem PySem.Spec L2 DL
def jd (s : Stt) (v : D) : Bool := match v with
  | .tup [f, pp] => judge s f pp | _ => false
def fpq (v : D) : Option (Int × Int) := match v with
  | .tup [.tup [.int p, .int q], _] => some (p, q) | _ => none
theorem jd_np {s : Stt} {v : D} (h : noPair v = true) : jd s v = false := by
  unfold jd
  split
  · simp [noPair] at h
  · rfl
theorem np_v {v : D} (h : noPair v = false) : ∃ f pp, v = .tup [f, pp] := by
  unfold noPair at h
  split at h
  · exact ⟨_, _, rfl⟩
  · cases h
theorem judge_v {s : Stt} {f pp : D} (h : judge s f pp = true) : ∃ p q, f = .tup [.int p, .int q] ∧ 1 ≤ q ∧ gI p q = 1 ∧ s.isIn p q = true := by
  unfold judge at h
  simp only [Bool.and_eq_true] at h
  obtain ⟨p, q, rfl, h1, h2⟩ := isFr_v h.1
  simp only [Bool.and_eq_true] at h
  exact ⟨p, q, rfl, h1, h2, h.2.1⟩
theorem jd_v {s : Stt} {v : D} (h : jd s v = true) : ∃ p q pp, v = .tup [.tup [.int p, .int q], pp] ∧ 1 ≤ q ∧ gI p q = 1 ∧ s.isIn p q = true := by
  unfold jd at h
  split at h
  · obtain ⟨p, q, rfl, h1, h2, h3⟩ := judge_v h
    exact ⟨p, q, _, rfl, h1, h2, h3⟩
  · cases h
theorem nice_in {n : Nat} {xs : List D} (h : Nice (n + 1) (.tup xs)) {x : D} (hx : x ∈ xs) : Nice n x := h x hx
theorem nice_pq {n : Nat} {f : D} (h : Nice n f) : ∀ p q, f = .tup [.int p, .int q] → Bt p 3000 ∧ Bt q 3000 := fun p q e => by
  subst e
  match n, h with
  | n + 1, h =>
    have h1 : Nice n (.int p) := h _ (by simp)
    have h2 : Nice n (.int q) := h _ (by simp)
    cases n <;> exact ⟨bt_nice h1.1 h1.2, bt_nice h2.1 h2.2⟩
theorem nice_le12 {n : Nat} {p q : Int} {pp : D} (h : Nice (n + 2) (.tup [.tup [.int p, .int q], pp])) : p ≤ 1000000000000 ∧ q ≤ 1000000000000 := by
  have h0 : Nice (n + 1) (.tup [.int p, .int q]) := h _ (by simp)
  have h1 : Nice n (.int p) := h0 _ (by simp)
  have h2 : Nice n (.int q) := h0 _ (by simp)
  cases n <;> exact ⟨h1.2, h2.2⟩
theorem jd19 (k : Nat) (s : Stt) (B : Int) (m : List (List D)) (h : s.Good B) (n : Nat) (hn : n ≤ 50) (v : D) (hv : Nice (n + 1) v) : F (k + 3) 19 [s.d, v] m = .ok (.bl (jd s v)) m := by
  cases hp : noPair v with
  | true =>
    rw [jd_np hp]
    exact v19n (k + 2) s.d v m hp
  | false =>
    obtain ⟨f, pp, rfl⟩ := np_v hp
    exact v19 k s B m h f pp (nice_pq (nice_in hv (by simp))) (nice_pap (nice_in hv (x := pp) (by simp)) (by omega))
theorem jd33 (k : Nat) (s : Stt) (B : Int) (m : List (List D)) (h : s.Good B) (n : Nat) (hn : n ≤ 50) (f pp : D) (hv : Nice (n + 1) (.tup [f, pp])) : F (k + 2) 33 [s.d, f, pp] m = .ok (.bl (jd s (.tup [f, pp]))) m :=
  v33 k s B m h f pp (nice_pq (nice_in hv (by simp))) (nice_pap (nice_in hv (x := pp) (by simp)) (by omega))
theorem good_mono {s : Stt} {B B' : Int} (h : s.Good B) (hb : B ≤ B') (ht : Bt B' 800) : s.Good B' := by
  obtain ⟨h1, h2, h3, h4⟩ := h
  exact ⟨h1, ⟨Int.le_trans h2.a hb, Int.le_trans h2.b hb, fun c d e => ⟨Int.le_trans (h2.c c d e).1 hb, Int.le_trans (h2.c c d e).2 hb⟩⟩, ht, h4⟩
abbrev BIG : Int := 1000000000000
theorem bt_big : Bt BIG 800 := bt_mono (small_bt (n := 60) (by decide) (by decide) (by omega)) (by omega)
/-- the halves of a cut that is told -/
theorem cut_good {W : Stt} {B p q : Int} (h : W.Good B) (hB : B ≤ BIG) (h1 : 1 ≤ q) (h2 : gI p q = 1) (h3 : W.isIn p q = true) (hp : p ≤ BIG) (hq : q ≤ BIG) : ∀ x ∈ halves W p q, x.Good BIG := by
  have hin := (isIn_iff h.ok (by omega) h2).mp h3
  have p0 : 0 ≤ p := by
    have a0 := h.ok.a0
    have b0 := h.ok.b0
    refine Classical.byContradiction fun hn => ?_
    have k1 : 0 ≤ W.a * q := Int.mul_nonneg a0 (by omega)
    have k2 : p * W.b < 0 := Int.mul_neg_of_neg_of_pos (by omega) b0
    rcases hin.1 with g | ⟨g, _⟩ <;> omega
  exact halves_good (good_mono h hB bt_big) p0 (by omega) h2 hp hq
theorem halves_nil {W : Stt} {B p q : Int} (h : W.Good B) : eqD (.lst ((halves W p q).map Stt.d)) (.lst []) = some (halves W p q).isEmpty := by
  obtain ⟨c, d, hh⟩ := h.end'
  rw [halves_d hh]
  unfold halves
  rw [hh]
  by_cases h1 : W.a * q < p * W.b <;> by_cases h2 : p * d < c * q <;>
    simp [h1, h2, eqD, toP, toPs, SeqAt.shaped, PyData.canLay0, PyData.canLayAll0, PyData.depth, PyData.depthAll, PyData.eqv, PyData.eqvAll]
theorem halves_len (W : Stt) (p q : Int) : (halves W p q).length ≤ 2 := by
  unfold halves
  cases W.hi with
  | none => split <;> simp
  | some cd =>
    obtain ⟨c, d⟩ := cd
    simp only
    split <;> split <;> simp
def jds (hs : List Stt) (vs : List D) : List Bool := match hs, vs with
  | h :: hs, v :: vs => jd h v :: jds hs vs
  | _, _ => []
def beside (W : Stt) (v : D) (vs : List D) : Bool := jd W v && (match fpq v with
  | some (p, q) => !decide (p % 2 = 1) && (decide (vs.length = (halves W p q).length) && !(halves W p q).isEmpty) && (jds (halves W p q) vs).all id
  | none => false)
theorem jds_bls (hs : List Stt) (vs : List D) : blsOf ((jds hs vs).map D.bl) = some (jds hs vs) := by
  have := blsOf_map (fun b : Bool => b) (jds hs vs)
  simpa using this
theorem c39 (k : Nat) (m : List (List D)) (X : Option Sl) (v : D) (vs : List D) (n : Nat) (hn : n ≤ 50) (hs : List Stt) (hl : vs.length < 1000) (hg : ∀ h ∈ hs, h.Good BIG) (hv : ∀ x ∈ vs, Nice (n + 1) x) :
    ev (E (k + 3)) c39_0 ⟨[X, some (.val (.tup (v :: vs))), some (.val (.lst (hs.map Stt.d))), none, none], m⟩ = .ok (.lst ((jds hs vs).map D.bl)) ⟨[X, some (.val (.tup (v :: vs))), some (.val (.lst (hs.map Stt.d))), none, none], m⟩ := by
  unfold c39_0
  have hlz : ∀ (xs ys : List D), (zipD xs ys).length ≤ ys.length := fun xs => by
    induction xs with
    | nil => intro ys; simp [zipD]
    | cons x xs ih => intro ys; cases ys with
      | nil => simp [zipD]
      | cons y ys => simp [zipD, ih ys]
  refine compG (ds := zipD (hs.map Stt.d) vs) ?_ (by simp [plainAt]) (by have := hlz (hs.map Stt.d) vs; rw [sizeLine_eq]; omega) ?_ (by simp [wipeS, backS])
  · have hc : cutD (v :: vs) (some 1) none = vs := by simp [cutD, HT.sIx]
    have hz : zipK (.lst (hs.map Stt.d)) (.tup vs) = some (zipD (hs.map Stt.d) vs) := rfl
    simp [runB, evSs, evS, ev, evs, evo, evit, tst, rdv, peek, peekR, rderef, biD, isTy, truth, cmD, isVar, seqOf, itemsOf, idxD, atI, ixN, sizeLine_eq, setV, asg, asgs, DL.isNon, lseqOf, blsOf, sliD, hc, hz]
  · generalize D.lst (hs.map Stt.d) = P at *
    generalize D.tup (v :: vs) = T at *
    simp only [wipeS, List.set_cons_succ, List.set_cons_zero]
    clear hl hlz
    induction hs generalizing vs with
    | nil => simp [zipD, jds]; exact .nil
    | cons h hs ih =>
      cases vs with
      | nil => simp [zipD, jds]; exact .nil
      | cons u us =>
        refine .cons ⟨⟨[X, some (.val T), some (.val P), some (.val h.d), some (.val u)], m⟩, ⟨[X, some (.val T), some (.val P), some (.val h.d), some (.val u)], m⟩, ?_, ?_, ?_, rfl⟩ (ih us (fun x hx => hg x (by simp [hx])) fun x hx => hv x (by simp [hx]))
        · simp [asg, asgs, setV]
        · have e := jd19 k h BIG m (hg h (by simp)) n hn u (hv u (by simp))
          simp [runB, evSs, evS, ev, evs, evo, evit, tst, rdv, peek, peekR, rderef, biD, isTy, truth, cmD, isVar, seqOf, itemsOf, idxD, atI, ixN, sizeLine_eq, setV, asg, asgs, DL.isNon, lseqOf, blsOf, EF, e]
        · simp
theorem v39 (k : Nat) (W : Stt) (B : Int) (m : List (List D)) (h : W.Good B) (hB : B ≤ BIG) (n : Nat) (hn : n ≤ 40) (v : D) (vs : List D) (hl : vs.length < 1000) (hv : ∀ x ∈ v :: vs, Nice (n + 2) x) : F (k + 4) 39 [W.d, .tup (v :: vs)] m = .ok (.bl (beside W v vs)) m := by
  have e19 := jd19 k W B m h (n + 1) (by omega) v (hv v (by simp))
  rw [ff39]
  unfold beside
  cases hj : jd W v with
  | false =>
    rw [hj] at e19
    have lz : ¬ ((vs.length : Int) + 1 ≤ 0) := by omega
    unfold b39
    simp [runB, evSs, evS, ev, evs, evo, evit, tst, rdv, peek, peekR, rderef, biD, isTy, truth, cmD, isVar, seqOf, itemsOf, idxD, atI, ixN, sizeLine_eq, setV, asg, asgs, DL.isNon, lseqOf, blsOf, EF, e19, lz]
  | true =>
    rw [hj] at e19
    obtain ⟨p, q, pp, rfl, q1, co, hin⟩ := jd_v hj
    have hm : Nice (n + 2) (.tup [.tup [.int p, .int q], pp]) := hv _ (by simp)
    obtain ⟨lp, lq⟩ := nice_le12 hm
    have hg := cut_good h hB q1 co hin lp lq
    obtain ⟨bp, bq⟩ := nice_pq (n := n + 1) (nice_in hm (x := .tup [.int p, .int q]) (by simp)) p q rfl
    have e35 := v35 (k + 1) W B m h p q bp bq
    have cc := c39 k m (some (.val W.d)) (.tup [.tup [.int p, .int q], pp]) vs (n + 1) (by omega) (halves W p q) hl hg fun x hx => hv x (by simp [hx])
    have en := halves_nil (p := p) (q := q) h
    have bb := jds_bls (halves W p q) vs
    have hlen : (((halves W p q).map Stt.d).length : Int) = ((halves W p q).length : Nat) := by rw [List.length_map]
    have hli : decide (vs.length = (halves W p q).length) = decide (((vs.length : Nat) : Int) = (((halves W p q).map Stt.d).length : Nat)) := by rw [List.length_map]; simp [Int.natCast_inj]
    simp only [fpq, Bool.true_and]
    rw [hli]
    generalize jds (halves W p q) vs = J at *
    generalize (halves W p q).isEmpty = Em at *
    generalize (halves W p q).map Stt.d = L at *
    have a1 : ev (E (k + 3)) (.bi .all (.cons c39_0 .nil)) ⟨[some (.val W.d), some (.val (.tup (.tup [.tup [.int p, .int q], pp] :: vs))), some (.val (.lst L)), none, none], m⟩ = .ok (.bl (J.all id)) ⟨[some (.val W.d), some (.val (.tup (.tup [.tup [.int p, .int q], pp] :: vs))), some (.val (.lst L)), none, none], m⟩ := by
      rw [lenArg_none rfl]
      simp only [evs, cc, bind_ok, biD, lseqOf, Option.bind_some, bb, Option.map_some, opt_some]
    unfold b39
    generalize DX.bi .all (.cons c39_0 .nil) = AA at *
    have hL : ((vs.length : Int) + 1 = 1 + (L.length : Int)) = ((vs.length : Int) = (L.length : Int)) := by
      apply propext; omega
    have hL2 : ((L.length : Int) + 1 = 1 + (L.length : Int)) = True := by
      apply eq_true; omega
    by_cases hp : p % 2 = 1
    · simp [runB, evSs, evS, ev, evs, evo, evit, tst, rdv, peek, peekR, rderef, biD, isTy, truth, cmD, isVar, seqOf, itemsOf, idxD, atI, ixN, sizeLine_eq, setV, asg, asgs, DL.isNon, lseqOf, blsOf, EF, e19, md2, hp]
    · by_cases hlL : (vs.length : Int) = (L.length : Int)
      · cases Em <;> simp [runB, evSs, evS, ev, evs, evo, evit, tst, rdv, peek, peekR, rderef, biD, isTy, truth, cmD, isVar, seqOf, itemsOf, idxD, atI, ixN, sizeLine_eq, setV, asg, asgs, DL.isNon, lseqOf, blsOf, EF, e19, md2, hp, e35, en, a1, hL, hlL, hL2]
      · simp [runB, evSs, evS, ev, evs, evo, evit, tst, rdv, peek, peekR, rderef, biD, isTy, truth, cmD, isVar, seqOf, itemsOf, idxD, atI, ixN, sizeLine_eq, setV, asg, asgs, DL.isNon, lseqOf, blsOf, EF, e19, md2, hp, e35, hL, hlL]
end K84
end

section
set_option Elab.async false
set_option linter.all false
set_option autoImplicit false
set_option maxRecDepth 100000
set_option maxHeartbeats 2000000
namespace K84
open PySem PySem.Spec L2 DL
def keys (vs : List D) : List (Int × Int) := vs.filterMap fun v => (fpq v).map fun x => (x.2, x.1)
def lastJ (ks : List (Int × Int)) (i j : Int) : Bool := match sortP ks with
  | y :: _ => decide (y.2 % 2 = 1) && (decide (y.1 = i) && decide (y.2 / 2 = j)) | [] => false
def midJ (W : Stt) (i j : Int) (ds : List D) : Bool := match ds with
  | [] => false
  | [v] => jd W v && lastJ (keys [v]) i j
  | v :: vs => beside W v vs && lastJ (keys vs) i j
def pt (W : Stt) : Bool := match W.hi with
  | some (c, d) => (decide (W.a = c) && decide (W.b = d)) && decide (W.a % 2 = 0) | none => false
def shownM (W : Stt) (v : D) : Bool := match v with
  | .non => pt W
  | .tup [.int i, .int j, .tup ds] => midJ W i j ds
  | _ => false
theorem jds_fr : ∀ (hs : List Stt) (vs : List D), vs.length = hs.length → (jds hs vs).all id = true → ∃ l : List (Int × Int), All2 (fun u x => ∃ pp, u = .tup [frD x, pp]) vs l ∧ keys vs = l.map fun x => (x.2, x.1)
  | [], [], _, _ => ⟨[], .nil, rfl⟩
  | h :: hs, v :: vs, hl, ha => by
    simp only [jds, List.all_cons, Bool.and_eq_true, id] at ha
    obtain ⟨p, q, pp, rfl, _⟩ := jd_v ha.1
    obtain ⟨l, h1, h2⟩ := jds_fr hs vs (by simpa using hl) ha.2
    refine ⟨(p, q) :: l, .cons ⟨pp, rfl⟩ h1, ?_⟩
    have e0 : keys (.tup [.tup [.int p, .int q], pp] :: vs) = (q, p) :: keys vs := rfl
    rw [e0, h2]
    rfl
  | [], _ :: _, h, _ => by simp at h
  | _ :: _, [], h, _ => by simp at h
theorem beside_v {W : Stt} {v : D} {vs : List D} (h : beside W v vs = true) : ∃ l : List (Int × Int), l ≠ [] ∧ vs.length = l.length ∧ vs.length ≤ 2 ∧ All2 (fun u x => ∃ pp, u = .tup [frD x, pp]) vs l ∧ keys vs = l.map fun x => (x.2, x.1) := by
  unfold beside at h
  simp only [Bool.and_eq_true] at h
  obtain ⟨hj, h⟩ := h
  obtain ⟨p, q, pp, rfl, _⟩ := jd_v hj
  simp only [fpq, Bool.and_eq_true, decide_eq_true_eq] at h
  obtain ⟨⟨_, h1, h2⟩, h3⟩ := h
  obtain ⟨l, h4, h5⟩ := jds_fr _ _ h1 h3
  have hl := h4.len
  have := halves_len W p q
  refine ⟨l, fun e => ?_, hl, by omega, h4, h5⟩
  subst e
  simp at hl
  subst hl
  simp at h1
  have : halves W p q = [] := List.length_eq_zero_iff.mp h1.symm
  rw [this] at h2
  simp at h2
abbrev st40 (X V W P T a b : Option Sl) (m : List (List D)) : S := ⟨[X, V, W, P, T, a, b, none], m⟩
theorem c40a (k : Nat) (m : List (List D)) (X V W a b : Option Sl) (v : D) (vs : List D) (l : List (Int × Int)) (hl : vs.length < 1000) (h : All2 (fun u x => ∃ pp, u = .tup [frD x, pp]) vs l) :
    ev (E k) c40_1 (st40 X V W (some (.val (.tup (v :: vs)))) none a b m) = .ok (.lst (l.map frD)) (st40 X V W (some (.val (.tup (v :: vs)))) none a b m) := by
  unfold c40_1
  refine comp2 (ds := vs) ?_ (by simp) (by simp [plainAt]) (by rw [sizeLine_eq]; omega) ?_
  · have hc : cutD (v :: vs) (some 1) none = vs := by simp [cutD, HT.sIx]
    simp [runB, evSs, evS, ev, evs, evo, evit, tst, rdv, peek, peekR, rderef, biD, isTy, truth, cmD, isVar, seqOf, itemsOf, idxD, atI, ixN, sizeLine_eq, setV, asg, asgs, DL.isNon, lseqOf, blsOf, sliD, hc]
  · generalize D.tup (v :: vs) = T at *
    clear hl
    induction h with
    | nil => exact .nil
    | cons a _ ih =>
      obtain ⟨pp, rfl⟩ := a
      exact .cons (by simp [runB, evSs, evS, ev, evs, evo, evit, tst, rdv, peek, peekR, rderef, biD, isTy, truth, cmD, isVar, seqOf, itemsOf, idxD, atI, ixN, sizeLine_eq, setV, asg, asgs, DL.isNon, lseqOf, blsOf]) ih
theorem c40b (k : Nat) (m : List (List D)) (X V W P a b : Option Sl) (xs : List (Int × Int)) (hl : xs.length < 1000) :
    ev (E k) c40_0 (st40 X V W P (some (.val (.lst (xs.map frD)))) a b m) = .ok (.lst (xs.map fun x => pairD (x.2, x.1))) (st40 X V W P (some (.val (.lst (xs.map frD)))) a b m) := by
  unfold c40_0
  refine comp2 (ds := xs.map frD) ?_ (by simp) (by simp [plainAt]) (by rw [sizeLine_eq, List.length_map]; omega) ?_
  · simp [runB, evSs, evS, ev, evs, evo, evit, tst, rdv, peek, peekR, rderef, biD, isTy, truth, cmD, isVar, seqOf, itemsOf, idxD, atI, ixN, sizeLine_eq, setV, asg, asgs, DL.isNon, lseqOf, blsOf]
  · have key : ∀ (so : D) (l : List (Int × Int)), All2 (fun d y => ev (E k) (.tup (.cons (.idx (.var 7) (.const (.int 1))) (.cons (.idx (.var 7) (.const (.int 0))) .nil))) ⟨[X, V, W, P, some (.val so), a, b, some (.val d)], m⟩ = .ok y ⟨[X, V, W, P, some (.val so), a, b, some (.val d)], m⟩) (l.map frD) (l.map fun x => pairD (x.2, x.1)) := fun so l => by
      induction l with
      | nil => exact .nil
      | cons a l ih => exact .cons (by unfold frD pairD; simp [runB, evSs, evS, ev, evs, evo, evit, tst, rdv, peek, peekR, rderef, biD, isTy, truth, cmD, isVar, seqOf, itemsOf, idxD, atI, ixN, sizeLine_eq, setV, asg, asgs, DL.isNon, lseqOf, blsOf]) ih
    exact key _ xs
/-- the end of both judges, of the program's here -/
theorem end40 (k : Nat) (m : List (List D)) (X W P T : Option Sl) (i j : Int) (pap : D) (l : List (Int × Int)) (hl : l.length < 1000) (hn : l ≠ []) :
    ∃ r', evSs (E k) (.cons (.unp (.tup (.cons (.nm 5) (.cons (.nm 6) .nil))) (.idx (.bi .sorted (.cons c40_0 .nil)) (.const (.int 0)))) (.cons (.ret (.and (.cmp .eq (.op .mod (.var 6) (.const (.int 2))) (.const (.int 1))) (.cmp .eq (.tup (.cons (.var 5) (.cons (.op .fdiv (.var 6) (.const (.int 2))) .nil))) (.tup (.cons (.idx (.var 1) (.const (.int 0))) (.cons (.idx (.var 1) (.const (.int 1))) .nil)))))) .nil))
      (st40 X (some (.val (.tup [.int i, .int j, pap]))) W P (some (.val (.lst (l.map frD)))) none none m) = .ok (.ret (.bl (lastJ (l.map fun x => (x.2, x.1)) i j))) ⟨r', m⟩ := by
  obtain ⟨y, r, hf, _⟩ := sort_first (l.map fun x => (x.2, x.1)) (by simp [hn])
  have c2 := c40b k m X (some (.val (.tup [.int i, .int j, pap]))) W P none none l hl
  have q2 := first_idx hf
  rw [List.map_map] at q2
  have q3 : (pairD ∘ fun x : Int × Int => (x.2, x.1)) = fun x => pairD (x.2, x.1) := rfl
  rw [q3] at q2
  refine ⟨[X, some (.val (.tup [.int i, .int j, pap])), W, P, some (.val (.lst (l.map frD))), some (.val (.int y.1)), some (.val (.int y.2)), none], ?_⟩
  unfold lastJ
  rw [hf]
  generalize D.lst (l.map frD) = so at *
  have a1 : ev (E k) (.bi .sorted (.cons c40_0 .nil)) (st40 X (some (.val (.tup [.int i, .int j, pap]))) W P (some (.val so)) none none m) = .ok (.lst ((y :: r).map pairD)) (st40 X (some (.val (.tup [.int i, .int j, pap]))) W P (some (.val so)) none none m) := by
    rw [lenArg_none rfl]
    simp only [evs, c2, bind_ok, q2, opt_some]
  have hv : isVar (DX.bi .sorted (.cons c40_0 .nil)) = none := rfl
  generalize DX.bi .sorted (.cons c40_0 .nil) = SS at *
  refine (seq_next (s' := st40 X (some (.val (.tup [.int i, .int j, pap]))) W P (some (.val so)) (some (.val (.int y.1))) (some (.val (.int y.2))) m) ?_).trans ?_
  · rw [evS, ev, hv]
    simp only [a1, bind_ok, ev, int_d, rderef, opt_some, idxD, List.map_cons]
    simp [runB, evSs, evS, ev, evs, evo, evit, tst, rdv, peek, peekR, rderef, biD, isTy, truth, cmD, isVar, seqOf, itemsOf, idxD, atI, ixN, sizeLine_eq, setV, asg, asgs, DL.isNon, lseqOf, blsOf, pairD]
  · have et := eq_tt y.1 (y.2 / 2) i j
    refine seq_ret ?_
    by_cases hy : y.2 % 2 = 1 <;> simp [runB, evSs, evS, ev, evs, evo, evit, tst, rdv, peek, peekR, rderef, biD, isTy, truth, cmD, isVar, seqOf, itemsOf, idxD, atI, ixN, sizeLine_eq, setV, asg, asgs, DL.isNon, lseqOf, blsOf, md2, dv2, et, hy]
theorem v40 (k : Nat) (s : Stt) (m : List (List D)) (h : s.Good 5000) (v : D) (hv : VOk v) (hl : ∀ i j ds, v = .tup [.int i, .int j, .tup ds] → ds.length < 1000) : F (k + 6) 40 [s.d, v] m = .ok (.bl (shownM (tw s) v)) m := by
  have e36 := v36 (k + 1) s 5000 m h
  have hW := tw_good h (B := 5000) (bt_mono (small_bt (n := 20) (by omega) (by omega) (by omega)) (by omega))
  generalize hWe : tw s = W at *
  rw [ff40]
  have e0 : ∀ x, F (k + 5) 0 [x] m = .ok (.bl (isI x)) m := fun x => v0 (k + 4) x m
  by_cases hsh : noTrip v = true
  · have hnt := noTrip_len hsh
    cases v with
    | non =>
      obtain ⟨c, d, hh⟩ := hW.end'
      have et := eq_tt W.a W.b c d
      have ep : shownM W .non = ((decide (W.a = c) && decide (W.b = d)) && decide (W.a % 2 = 0)) := by
        unfold shownM pt
        rw [hh]
      rw [ep]
      generalize s.d = X at *
      unfold Stt.d at e36
      rw [hh] at e36
      unfold hiD at e36
      dsimp only at e36
      generalize (decide (W.a = c) && decide (W.b = d)) = A at *
      unfold b40
      cases A <;> simp [runB, evSs, evS, ev, evs, evo, evit, tst, rdv, peek, peekR, rderef, biD, isTy, truth, cmD, isVar, seqOf, itemsOf, idxD, atI, ixN, sizeLine_eq, setV, asg, asgs, DL.isNon, lseqOf, blsOf, EF, e36, et, md2]
    | tup ds =>
      have hnt := hnt ds rfl
      have ep : shownM W (.tup ds) = false := by
        unfold shownM
        split
        · rename_i e; cases e
        · rename_i e; cases e; simp [noTrip] at hsh
        · rfl
      rw [ep]
      unfold b40
      simp [runB, evSs, evS, ev, evs, evo, evit, tst, rdv, peek, peekR, rderef, biD, isTy, truth, cmD, isVar, seqOf, itemsOf, idxD, atI, ixN, sizeLine_eq, setV, asg, asgs, DL.isNon, lseqOf, blsOf, EF, e36, hnt]
    | _ => unfold b40; simp [runB, evSs, evS, ev, evs, evo, evit, tst, rdv, peek, peekR, rderef, biD, isTy, truth, cmD, isVar, seqOf, itemsOf, idxD, atI, ixN, sizeLine_eq, setV, asg, asgs, DL.isNon, lseqOf, blsOf, EF, e36, shownM]
  · obtain ⟨x, y, P, rfl⟩ : ∃ x y P, v = .tup [x, y, P] := by
      unfold noTrip at hsh
      split at hsh
      · exact ⟨_, _, _, rfl⟩
      · simp at hsh
    have hN : Nice 6 (.tup [x, y, P]) := by
      rcases hv with hv | hv
      · exact hv
      · cases hv
    cases hx : isI x && isI y with
    | false =>
      have ep : shownM W (.tup [x, y, P]) = false := by
        unfold shownM
        split
        · rename_i e; cases e
        · rename_i e; cases e; simp [isI] at hx
        · rfl
      rw [ep]
      have e1 := e0 x
      have e2 := e0 y
      generalize isI x = A at *
      generalize isI y = C at *
      unfold b40
      cases A <;> cases C <;> first | (cases hx; done) | simp [runB, evSs, evS, ev, evs, evo, evit, tst, rdv, peek, peekR, rderef, biD, isTy, truth, cmD, isVar, seqOf, itemsOf, idxD, atI, ixN, sizeLine_eq, setV, asg, asgs, DL.isNon, lseqOf, blsOf, EF, e36, e1, e2]
    | true =>
      simp only [Bool.and_eq_true] at hx
      obtain ⟨i, rfl⟩ := isI_v hx.1
      obtain ⟨j, rfl⟩ := isI_v hx.2
      have e1 := e0 (.int i)
      have e2 := e0 (.int j)
      simp only [isI] at e1 e2
      have hP : Nice 5 P := hN P (by simp)
      have eqP := nice_eq hP (by omega)
      cases hT : isTy "tuple" P with
      | none => cases P <;> simp [isTy] at hT
      | some bt =>
        cases P with
        | tup ds =>
          have hlen := hl i j ds rfl
          match ds, hlen, hP, eqP with
          | [], _, _, eqP =>
            have ep : shownM W (.tup [.int i, .int j, .tup []]) = false := rfl
            rw [ep]
            have eqP : eqD (.tup []) (.tup []) = some true := eqP
            unfold b40
            simp [runB, evSs, evS, ev, evs, evo, evit, tst, rdv, peek, peekR, rderef, biD, isTy, truth, cmD, isVar, seqOf, itemsOf, idxD, atI, ixN, sizeLine_eq, setV, asg, asgs, DL.isNon, lseqOf, blsOf, EF, e36, e1, e2, eqP]
          | [u], _, hP, eqP =>
            have eqP : eqD (.tup [u]) (.tup []) = some false := eqP
            have e19 := jd19 (k + 2) W 10000 m hW 3 (by omega) u (hP u (by simp))
            have ep : shownM W (.tup [.int i, .int j, .tup [u]]) = (jd W u && lastJ (keys [u]) i j) := rfl
            rw [ep]
            cases hj : jd W u with
            | false =>
              rw [hj] at e19
              unfold b40
              simp [runB, evSs, evS, ev, evs, evo, evit, tst, rdv, peek, peekR, rderef, biD, isTy, truth, cmD, isVar, seqOf, itemsOf, idxD, atI, ixN, sizeLine_eq, setV, asg, asgs, DL.isNon, lseqOf, blsOf, EF, e36, e1, e2, eqP, e19]
            | true =>
              rw [hj] at e19
              obtain ⟨p, q, pp, rfl, _⟩ := jd_v hj
              obtain ⟨r', en⟩ := end40 (k + 5) m (some (.val s.d)) (some (.val W.d)) (some (.val (.tup [.tup [.tup [.int p, .int q], pp]]))) none i j (.tup [.tup [.tup [.int p, .int q], pp]]) [(p, q)] (by simp) (by simp)
              have ek : keys [.tup [.tup [.int p, .int q], pp]] = [(p, q)].map fun x => (x.2, x.1) := rfl
              rw [ek, Bool.true_and]
              generalize lastJ ([(p, q)].map fun x => (x.2, x.1)) i j = J at *
              refine runB_ret (s0 := st40 (some (.val s.d)) (some (.val (.tup [.int i, .int j, .tup [.tup [.tup [.int p, .int q], pp]]]))) none none none none none m) rfl (s := ⟨r', m⟩) ?_
              unfold b40
              refine (seq_next (s' := st40 (some (.val s.d)) (some (.val (.tup [.int i, .int j, .tup [.tup [.tup [.int p, .int q], pp]]]))) (some (.val W.d)) none none none none m) (by simp [runB, evSs, evS, ev, evs, evo, evit, tst, rdv, peek, peekR, rderef, biD, isTy, truth, cmD, isVar, seqOf, itemsOf, idxD, atI, ixN, sizeLine_eq, setV, asg, asgs, DL.isNon, lseqOf, blsOf, EF, e36])).trans ?_
              refine (seq_next (s' := st40 (some (.val s.d)) (some (.val (.tup [.int i, .int j, .tup [.tup [.tup [.int p, .int q], pp]]]))) (some (.val W.d)) none none none none m) (by simp [runB, evSs, evS, ev, evs, evo, evit, tst, rdv, peek, peekR, rderef, biD, isTy, truth, cmD, isVar, seqOf, itemsOf, idxD, atI, ixN, sizeLine_eq, setV, asg, asgs, DL.isNon, lseqOf, blsOf])).trans ?_
              refine (seq_next (s' := st40 (some (.val s.d)) (some (.val (.tup [.int i, .int j, .tup [.tup [.tup [.int p, .int q], pp]]]))) (some (.val W.d)) none none none none m) (by simp [runB, evSs, evS, ev, evs, evo, evit, tst, rdv, peek, peekR, rderef, biD, isTy, truth, cmD, isVar, seqOf, itemsOf, idxD, atI, ixN, sizeLine_eq, setV, asg, asgs, DL.isNon, lseqOf, blsOf, EF, e1, e2])).trans ?_
              refine (seq_next (s' := st40 (some (.val s.d)) (some (.val (.tup [.int i, .int j, .tup [.tup [.tup [.int p, .int q], pp]]]))) (some (.val W.d)) (some (.val (.tup [.tup [.tup [.int p, .int q], pp]]))) none none none m) (by simp [runB, evSs, evS, ev, evs, evo, evit, tst, rdv, peek, peekR, rderef, biD, isTy, truth, cmD, isVar, seqOf, itemsOf, idxD, atI, ixN, sizeLine_eq, setV, asg, asgs, DL.isNon, lseqOf, blsOf])).trans ?_
              refine (seq_next (s' := st40 (some (.val s.d)) (some (.val (.tup [.int i, .int j, .tup [.tup [.tup [.int p, .int q], pp]]]))) (some (.val W.d)) (some (.val (.tup [.tup [.tup [.int p, .int q], pp]]))) none none none m) (by simp [runB, evSs, evS, ev, evs, evo, evit, tst, rdv, peek, peekR, rderef, biD, isTy, truth, cmD, isVar, seqOf, itemsOf, idxD, atI, ixN, sizeLine_eq, setV, asg, asgs, DL.isNon, lseqOf, blsOf, eqP])).trans ?_
              refine (seq_next (s' := st40 (some (.val s.d)) (some (.val (.tup [.int i, .int j, .tup [.tup [.tup [.int p, .int q], pp]]]))) (some (.val W.d)) (some (.val (.tup [.tup [.tup [.int p, .int q], pp]]))) (some (.val (.lst ([(p, q)].map frD)))) none none m) (by simp [runB, evSs, evS, ev, evs, evo, evit, tst, rdv, peek, peekR, rderef, biD, isTy, truth, cmD, isVar, seqOf, itemsOf, idxD, atI, ixN, sizeLine_eq, setV, asg, asgs, DL.isNon, lseqOf, blsOf, EF, e19, frD])).trans ?_
              exact en
          | u :: u2 :: us, hlen, hP, eqP =>
            have eqP : eqD (.tup (u :: u2 :: us)) (.tup []) = some false := eqP
            have hlu : (u2 :: us).length < 1000 := by simp at hlen ⊢; omega
            have e39 := v39 (k + 1) W 10000 m hW (by decide) 2 (by omega) u (u2 :: us) hlu fun x hx => hP x hx
            have ep : shownM W (.tup [.int i, .int j, .tup (u :: u2 :: us)]) = (beside W u (u2 :: us) && lastJ (keys (u2 :: us)) i j) := rfl
            rw [ep]
            have ln : ¬ ((us.length : Int) + 1 + 1 = 1) := by omega
            cases hb : beside W u (u2 :: us) with
            | false =>
              rw [hb] at e39
              unfold b40
              simp [runB, evSs, evS, ev, evs, evo, evit, tst, rdv, peek, peekR, rderef, biD, isTy, truth, cmD, isVar, seqOf, itemsOf, idxD, atI, ixN, sizeLine_eq, setV, asg, asgs, DL.isNon, lseqOf, blsOf, EF, e36, e1, e2, eqP, e39, ln]
            | true =>
              rw [hb] at e39
              obtain ⟨l, l1, l2, l3, l4, l5⟩ := beside_v hb
              have cc := c40a (k + 5) m (some (.val s.d)) (some (.val (.tup [.int i, .int j, .tup (u :: u2 :: us)]))) (some (.val W.d)) none none u (u2 :: us) l hlu l4
              obtain ⟨r', en⟩ := end40 (k + 5) m (some (.val s.d)) (some (.val W.d)) (some (.val (.tup (u :: u2 :: us)))) none i j (.tup (u :: u2 :: us)) l (by omega) l1
              rw [l5, Bool.true_and]
              generalize lastJ (l.map fun x => (x.2, x.1)) i j = J at *
              generalize D.lst (l.map frD) = LL at *
              refine runB_ret (s0 := st40 (some (.val s.d)) (some (.val (.tup [.int i, .int j, .tup (u :: u2 :: us)]))) none none none none none m) rfl (s := ⟨r', m⟩) ?_
              unfold b40
              refine (seq_next (s' := st40 (some (.val s.d)) (some (.val (.tup [.int i, .int j, .tup (u :: u2 :: us)]))) (some (.val W.d)) none none none none m) (by simp [runB, evSs, evS, ev, evs, evo, evit, tst, rdv, peek, peekR, rderef, biD, isTy, truth, cmD, isVar, seqOf, itemsOf, idxD, atI, ixN, sizeLine_eq, setV, asg, asgs, DL.isNon, lseqOf, blsOf, EF, e36])).trans ?_
              refine (seq_next (s' := st40 (some (.val s.d)) (some (.val (.tup [.int i, .int j, .tup (u :: u2 :: us)]))) (some (.val W.d)) none none none none m) (by simp [runB, evSs, evS, ev, evs, evo, evit, tst, rdv, peek, peekR, rderef, biD, isTy, truth, cmD, isVar, seqOf, itemsOf, idxD, atI, ixN, sizeLine_eq, setV, asg, asgs, DL.isNon, lseqOf, blsOf])).trans ?_
              refine (seq_next (s' := st40 (some (.val s.d)) (some (.val (.tup [.int i, .int j, .tup (u :: u2 :: us)]))) (some (.val W.d)) none none none none m) (by simp [runB, evSs, evS, ev, evs, evo, evit, tst, rdv, peek, peekR, rderef, biD, isTy, truth, cmD, isVar, seqOf, itemsOf, idxD, atI, ixN, sizeLine_eq, setV, asg, asgs, DL.isNon, lseqOf, blsOf, EF, e1, e2])).trans ?_
              refine (seq_next (s' := st40 (some (.val s.d)) (some (.val (.tup [.int i, .int j, .tup (u :: u2 :: us)]))) (some (.val W.d)) (some (.val (.tup (u :: u2 :: us)))) none none none m) (by simp [runB, evSs, evS, ev, evs, evo, evit, tst, rdv, peek, peekR, rderef, biD, isTy, truth, cmD, isVar, seqOf, itemsOf, idxD, atI, ixN, sizeLine_eq, setV, asg, asgs, DL.isNon, lseqOf, blsOf])).trans ?_
              refine (seq_next (s' := st40 (some (.val s.d)) (some (.val (.tup [.int i, .int j, .tup (u :: u2 :: us)]))) (some (.val W.d)) (some (.val (.tup (u :: u2 :: us)))) none none none m) (by simp [runB, evSs, evS, ev, evs, evo, evit, tst, rdv, peek, peekR, rderef, biD, isTy, truth, cmD, isVar, seqOf, itemsOf, idxD, atI, ixN, sizeLine_eq, setV, asg, asgs, DL.isNon, lseqOf, blsOf, eqP])).trans ?_
              refine (seq_next (s' := st40 (some (.val s.d)) (some (.val (.tup [.int i, .int j, .tup (u :: u2 :: us)]))) (some (.val W.d)) (some (.val (.tup (u :: u2 :: us)))) (some (.val LL)) none none m) (by simp [runB, evSs, evS, ev, evs, evo, evit, tst, rdv, peek, peekR, rderef, biD, isTy, truth, cmD, isVar, seqOf, itemsOf, idxD, atI, ixN, sizeLine_eq, setV, asg, asgs, DL.isNon, lseqOf, blsOf, EF, e39, ln, cc])).trans ?_
              exact en
        | _ => unfold b40; simp [runB, evSs, evS, ev, evs, evo, evit, tst, rdv, peek, peekR, rderef, biD, isTy, truth, cmD, isVar, seqOf, itemsOf, idxD, atI, ixN, sizeLine_eq, setV, asg, asgs, DL.isNon, lseqOf, blsOf, EF, e36, e1, e2, shownM]
end K84
end

section
set_option Elab.async false
set_option linter.all false
set_option autoImplicit false
set_option maxRecDepth 100000
set_option maxHeartbeats 2000000
namespace K84
open PySem PySem.Spec L2 DL
theorem v41 (k : Nat) (s : Stt) (m : List (List D)) (h : s.Good 5000) (v : D) (hv : VOk v) (hl : ∀ i j ds, v = .tup [.int i, .int j, .tup ds] → ds.length < 1000) : F (k + 7) 41 [s.d, v] m = .ok (.bl (shownM (tw s) v)) m := by
  have e10 := v10 (k + 1) s 5000 m h
  have e40 := v40 k s m h v hv hl
  rw [ff41]
  unfold b41
  simp [runB, evSs, evS, ev, evs, evo, evit, tst, rdv, peek, peekR, rderef, biD, isTy, truth, cmD, isVar, seqOf, itemsOf, idxD, atI, ixN, sizeLine_eq, setV, asg, asgs, DL.isNon, lseqOf, blsOf, EF, e10, e40]
abbrev st45 (X V W Pa Fi To : Option Sl) (m : List (List D)) : S := ⟨[X, V, W, Pa, Fi, To, none, none, none, none, none, none], m⟩
theorem c45i (k : Nat) (m : List (List D)) (X W : Option Sl) (x y P : D) : ev (E (k + 1)) c45_4 (st45 X (some (.val (.tup [x, y, P]))) W none none none m) = .ok (.lst [.bl (isI x), .bl (isI y)]) (st45 X (some (.val (.tup [x, y, P]))) W none none none m) := by
  unfold c45_4
  refine comp2 (ds := [x, y]) ?_ (by simp) (by simp [plainAt]) (by simp [sizeLine_eq]) ?_
  · have : cutD [x, y, P] none (some 2) = [x, y] := by simp [cutD, HT.sIx]
    simp [runB, evSs, evS, ev, evs, evo, evit, tst, rdv, peek, peekR, rderef, biD, isTy, truth, cmD, isVar, seqOf, itemsOf, idxD, atI, ixN, sizeLine_eq, setV, asg, asgs, DL.isNon, lseqOf, blsOf, sliD, this]
  · exact .cons (call0 _ _ _ _ _ _ (by simp) (v32 k x m)) (.cons (call0 _ _ _ _ _ _ (by simp) (v32 k y m)) .nil)
def isPr (d : D) : Bool := !noPair d
theorem c45p (k : Nat) (m : List (List D)) (X W : Option Sl) (x y : D) (ds : List D) (hl : ds.length < 1000) : ev (E k) c45_3 (st45 X (some (.val (.tup [x, y, .tup ds]))) W none none none m) = .ok (.lst (ds.map fun d => .bl (isPr d))) (st45 X (some (.val (.tup [x, y, .tup ds]))) W none none none m) := by
  unfold c45_3
  refine comp2 (ds := ds) ?_ (by simp) (by simp [plainAt]) (by rw [sizeLine_eq]; omega) ?_
  · simp [runB, evSs, evS, ev, evs, evo, evit, tst, rdv, peek, peekR, rderef, biD, isTy, truth, cmD, isVar, seqOf, itemsOf, idxD, atI, ixN, sizeLine_eq, setV, asg, asgs, DL.isNon, lseqOf, blsOf]
  · refine All2.map fun d _ => ?_
    cases d with
    | tup es =>
      match es with
      | [] => simp [runB, evSs, evS, ev, evs, evo, evit, tst, rdv, peek, peekR, rderef, biD, isTy, truth, cmD, isVar, seqOf, itemsOf, idxD, atI, ixN, sizeLine_eq, setV, asg, asgs, DL.isNon, lseqOf, blsOf, isPr, noPair]
      | [a] => simp [runB, evSs, evS, ev, evs, evo, evit, tst, rdv, peek, peekR, rderef, biD, isTy, truth, cmD, isVar, seqOf, itemsOf, idxD, atI, ixN, sizeLine_eq, setV, asg, asgs, DL.isNon, lseqOf, blsOf, isPr, noPair]
      | [a, b] => simp [runB, evSs, evS, ev, evs, evo, evit, tst, rdv, peek, peekR, rderef, biD, isTy, truth, cmD, isVar, seqOf, itemsOf, idxD, atI, ixN, sizeLine_eq, setV, asg, asgs, DL.isNon, lseqOf, blsOf, isPr, noPair]
      | a :: b :: c :: r =>
        have : ((r.length : Int) + 1 + 1 + 1 = 2) = False := by simp; omega
        simp [runB, evSs, evS, ev, evs, evo, evit, tst, rdv, peek, peekR, rderef, biD, isTy, truth, cmD, isVar, seqOf, itemsOf, idxD, atI, ixN, sizeLine_eq, setV, asg, asgs, DL.isNon, lseqOf, blsOf, isPr, noPair, this]
    | _ => simp [runB, evSs, evS, ev, evs, evo, evit, tst, rdv, peek, peekR, rderef, biD, isTy, truth, cmD, isVar, seqOf, itemsOf, idxD, atI, ixN, sizeLine_eq, setV, asg, asgs, DL.isNon, lseqOf, blsOf, isPr, noPair]
/-- pairs' first parts -/
def fst1 (d : D) : D := match d with
  | .tup (f :: _) => f | _ => .non
theorem c45t (k : Nat) (m : List (List D)) (X W Fi : Option Sl) (x y u : D) (us : List D) (hl : us.length < 1000) (hp : ∀ d ∈ us, isPr d = true) :
    ev (E k) c45_2 ⟨[X, some (.val (.tup [x, y, .tup (u :: us)])), W, none, Fi, none, none, none, none, none, none, none], m⟩ = .ok (.lst (us.map fst1)) ⟨[X, some (.val (.tup [x, y, .tup (u :: us)])), W, none, Fi, none, none, none, none, none, none, none], m⟩ := by
  unfold c45_2
  refine comp2 (ds := us) ?_ (by simp) (by simp [plainAt]) (by rw [sizeLine_eq]; omega) ?_
  · have hc : cutD (u :: us) (some 1) none = us := by simp [cutD, HT.sIx]
    simp [runB, evSs, evS, ev, evs, evo, evit, tst, rdv, peek, peekR, rderef, biD, isTy, truth, cmD, isVar, seqOf, itemsOf, idxD, atI, ixN, sizeLine_eq, setV, asg, asgs, DL.isNon, lseqOf, blsOf, sliD, hc]
  · refine All2.map fun d hd => ?_
    obtain ⟨f, pp, rfl⟩ := np_v (v := d) (by have := hp d hd; unfold isPr at this; simpa using this)
    simp [runB, evSs, evS, ev, evs, evo, evit, tst, rdv, peek, peekR, rderef, biD, isTy, truth, cmD, isVar, seqOf, itemsOf, idxD, atI, ixN, sizeLine_eq, setV, asg, asgs, DL.isNon, lseqOf, blsOf, fst1]
theorem c45j (k : Nat) (m : List (List D)) (X W Fi To : Option Sl) (x y u : D) (us : List D) (n : Nat) (hn : n ≤ 50) (hs : List Stt) (hl : us.length < 1000) (hg : ∀ h ∈ hs, h.Good BIG) (hv : ∀ x ∈ us, Nice (n + 1) x) (hp : ∀ d ∈ us, isPr d = true) :
    ev (E (k + 2)) c45_1 (st45 X (some (.val (.tup [x, y, .tup (u :: us)]))) W (some (.val (.lst (hs.map Stt.d)))) Fi To m) = .ok (.lst ((jds hs us).map D.bl)) (st45 X (some (.val (.tup [x, y, .tup (u :: us)]))) W (some (.val (.lst (hs.map Stt.d)))) Fi To m) := by
  unfold c45_1
  have hlz : ∀ (xs ys : List D), (zipD xs ys).length ≤ ys.length := fun xs => by
    induction xs with
    | nil => intro ys; simp [zipD]
    | cons x xs ih => intro ys; cases ys with
      | nil => simp [zipD]
      | cons y ys => simp [zipD, ih ys]
  refine compG (ds := zipD (hs.map Stt.d) us) ?_ (by simp [plainAt]) (by have := hlz (hs.map Stt.d) us; rw [sizeLine_eq]; omega) ?_ (by simp [wipeS, backS])
  · have hc : cutD (u :: us) (some 1) none = us := by simp [cutD, HT.sIx]
    have hz : zipK (.lst (hs.map Stt.d)) (.tup us) = some (zipD (hs.map Stt.d) us) := rfl
    simp [runB, evSs, evS, ev, evs, evo, evit, tst, rdv, peek, peekR, rderef, biD, isTy, truth, cmD, isVar, seqOf, itemsOf, idxD, atI, ixN, sizeLine_eq, setV, asg, asgs, DL.isNon, lseqOf, blsOf, sliD, hc, hz]
  · generalize D.lst (hs.map Stt.d) = P at *
    generalize D.tup [x, y, .tup (u :: us)] = T at *
    simp only [wipeS, List.set_cons_succ, List.set_cons_zero]
    clear hl hlz
    induction hs generalizing us with
    | nil => simp [zipD, jds]; exact .nil
    | cons h hs ih =>
      cases us with
      | nil => simp [zipD, jds]; exact .nil
      | cons w us =>
        obtain ⟨f, pp, rfl⟩ := np_v (v := w) (by have := hp w (by simp); unfold isPr at this; simpa using this)
        refine .cons ⟨⟨[X, some (.val T), W, some (.val P), Fi, To, none, none, some (.val (.tup [f, pp])), some (.val h.d), none, none], m⟩, ⟨[X, some (.val T), W, some (.val P), Fi, To, none, none, some (.val (.tup [f, pp])), some (.val h.d), none, none], m⟩, ?_, ?_, ?_, rfl⟩
          (ih us (fun x hx => hg x (by simp [hx])) (fun x hx => hv x (by simp [hx])) fun x hx => hp x (by simp [hx]))
        · simp [asg, asgs, setV]
        · have e := jd33 k h BIG m (hg h (by simp)) n hn f pp (hv _ (by simp))
          simp [runB, evSs, evS, ev, evs, evo, evit, tst, rdv, peek, peekR, rderef, biD, isTy, truth, cmD, isVar, seqOf, itemsOf, idxD, atI, ixN, sizeLine_eq, setV, asg, asgs, DL.isNon, lseqOf, blsOf, EF, e]
        · simp
theorem c45s (k : Nat) (m : List (List D)) (X V W Pa Fi : Option Sl) (xs : List (Int × Int)) (hl : xs.length < 1000) :
    ev (E k) c45_0 (st45 X V W Pa Fi (some (.val (.lst (xs.map frD)))) m) = .ok (.lst (xs.map fun x => pairD (x.2, x.1))) (st45 X V W Pa Fi (some (.val (.lst (xs.map frD)))) m) := by
  unfold c45_0
  refine compG (ds := xs.map frD) ?_ (by simp [plainAt]) (by rw [sizeLine_eq, List.length_map]; omega) ?_ (by simp [wipeS, backS])
  · simp [runB, evSs, evS, ev, evs, evo, evit, tst, rdv, peek, peekR, rderef, biD, isTy, truth, cmD, isVar, seqOf, itemsOf, idxD, atI, ixN, sizeLine_eq, setV, asg, asgs, DL.isNon, lseqOf, blsOf]
  · simp only [wipeS, List.set_cons_succ, List.set_cons_zero]
    generalize D.lst (xs.map frD) = P at *
    clear hl
    induction xs with
    | nil => exact .nil
    | cons a l ih =>
      refine .cons ⟨⟨[X, V, W, Pa, Fi, some (.val P), none, none, none, none, some (.val (.int a.1)), some (.val (.int a.2))], m⟩, ⟨[X, V, W, Pa, Fi, some (.val P), none, none, none, none, some (.val (.int a.1)), some (.val (.int a.2))], m⟩, ?_, ?_, ?_, rfl⟩ ih
      · simp [asg, asgs, setV, frD]
      · unfold pairD; simp [runB, evSs, evS, ev, evs, evo, evit, tst, rdv, peek, peekR, rderef, biD, isTy, truth, cmD, isVar, seqOf, itemsOf, idxD, atI, ixN, sizeLine_eq, setV, asg, asgs, DL.isNon, lseqOf, blsOf]
      · simp
theorem end45 (k : Nat) (m : List (List D)) (X W Pa Fi : Option Sl) (i j : Int) (pap : D) (l : List (Int × Int)) (hl : l.length < 1000) (hn : l ≠ []) :
    ∃ r', evSs (E k) (.cons (.unp (.tup (.cons (.nm 6) (.cons (.nm 7) .nil))) (.idx (.bi .sorted (.cons c45_0 .nil)) (.const (.int 0)))) (.cons (.ret (.and (.cmp .eq (.op .mod (.var 7) (.const (.int 2))) (.const (.int 1))) (.cmp .eq (.tup (.cons (.var 6) (.cons (.op .fdiv (.var 7) (.const (.int 2))) .nil))) (.sli (.var 1) .none (.some (.const (.int 2))))))) .nil))
      (st45 X (some (.val (.tup [.int i, .int j, pap]))) W Pa Fi (some (.val (.lst (l.map frD)))) m) = .ok (.ret (.bl (lastJ (l.map fun x => (x.2, x.1)) i j))) ⟨r', m⟩ := by
  obtain ⟨y, r, hf, _⟩ := sort_first (l.map fun x => (x.2, x.1)) (by simp [hn])
  have c2 := c45s k m X (some (.val (.tup [.int i, .int j, pap]))) W Pa Fi l hl
  have q2 := first_idx hf
  rw [List.map_map] at q2
  have q3 : (pairD ∘ fun x : Int × Int => (x.2, x.1)) = fun x => pairD (x.2, x.1) := rfl
  rw [q3] at q2
  refine ⟨[X, some (.val (.tup [.int i, .int j, pap])), W, Pa, Fi, some (.val (.lst (l.map frD))), some (.val (.int y.1)), some (.val (.int y.2)), none, none, none, none], ?_⟩
  unfold lastJ
  rw [hf]
  generalize D.lst (l.map frD) = so at *
  have a1 : ev (E k) (.bi .sorted (.cons c45_0 .nil)) (st45 X (some (.val (.tup [.int i, .int j, pap]))) W Pa Fi (some (.val so)) m) = .ok (.lst ((y :: r).map pairD)) (st45 X (some (.val (.tup [.int i, .int j, pap]))) W Pa Fi (some (.val so)) m) := by
    rw [lenArg_none rfl]
    simp only [evs, c2, bind_ok, q2, opt_some]
  have hv : isVar (DX.bi .sorted (.cons c45_0 .nil)) = none := rfl
  generalize DX.bi .sorted (.cons c45_0 .nil) = SS at *
  refine (seq_next (s' := ⟨[X, some (.val (.tup [.int i, .int j, pap])), W, Pa, Fi, some (.val so), some (.val (.int y.1)), some (.val (.int y.2)), none, none, none, none], m⟩) ?_).trans ?_
  · rw [evS, ev, hv]
    simp only [a1, bind_ok, ev, int_d, rderef, opt_some, idxD, List.map_cons]
    simp [runB, evSs, evS, ev, evs, evo, evit, tst, rdv, peek, peekR, rderef, biD, isTy, truth, cmD, isVar, seqOf, itemsOf, idxD, atI, ixN, sizeLine_eq, setV, asg, asgs, DL.isNon, lseqOf, blsOf, pairD]
  · have et := eq_tt y.1 (y.2 / 2) i j
    have hc : cutD [.int i, .int j, pap] none (some 2) = [.int i, .int j] := by simp [cutD, HT.sIx]
    refine seq_ret ?_
    by_cases hy : y.2 % 2 = 1 <;> simp [runB, evSs, evS, ev, evs, evo, evit, tst, rdv, peek, peekR, rderef, biD, isTy, truth, cmD, isVar, seqOf, itemsOf, idxD, atI, ixN, sizeLine_eq, setV, asg, asgs, DL.isNon, lseqOf, blsOf, md2, dv2, et, hy, sliD, hc]
theorem jds_pr : ∀ (hs : List Stt) (vs : List D), vs.length = hs.length → (jds hs vs).all id = true → ∀ v ∈ vs, isPr v = true
  | [], [], _, _, v, hv => by simp at hv
  | h :: hs, u :: us, hl, ha, v, hv => by
    simp only [jds, List.all_cons, Bool.and_eq_true, id] at ha
    rcases List.mem_cons.mp hv with rfl | hv
    · obtain ⟨p, q, pp, rfl, _⟩ := jd_v ha.1
      rfl
    · exact jds_pr hs us (by simpa using hl) ha.2 v hv
  | [], _ :: _, h, _, _, _ => by simp at h
  | _ :: _, [], h, _, _, _ => by simp at h
/-- where not all are pairs, nothing is shown -/
theorem mid_pr {W : Stt} {i j : Int} {ds : List D} (h : midJ W i j ds = true) : ∀ v ∈ ds, isPr v = true := by
  match ds, h with
  | [u], h =>
    intro v hv
    simp only [midJ, Bool.and_eq_true] at h
    obtain ⟨p, q, pp, rfl, _⟩ := jd_v h.1
    simp at hv
    subst hv
    rfl
  | u :: u2 :: us, h =>
    intro v hv
    simp only [midJ, Bool.and_eq_true] at h
    have h := h.1
    unfold beside at h
    simp only [Bool.and_eq_true] at h
    obtain ⟨hj, h⟩ := h
    obtain ⟨p, q, pp, rfl, _⟩ := jd_v hj
    simp only [fpq, Bool.and_eq_true, decide_eq_true_eq] at h
    obtain ⟨⟨_, h1, h2⟩, h3⟩ := h
    rcases List.mem_cons.mp hv with rfl | hv
    · rfl
    · exact jds_pr _ _ h1 h3 v hv
theorem map_fst1 : ∀ {us : List D} {l : List (Int × Int)}, All2 (fun u x => ∃ pp, u = D.tup [frD x, pp]) us l → us.map fst1 = l.map frD
  | _, _, .nil => rfl
  | _, _, .cons ⟨pp, e⟩ t => by subst e; simp [fst1, map_fst1 t]
end K84
end

section
set_option Elab.async false
set_option linter.all false
set_option autoImplicit false
set_option maxRecDepth 100000
set_option maxHeartbeats 4000000
namespace K84
open PySem PySem.Spec L2 DL
theorem all_bls {α : Type} (p : α → Bool) (l : List α) : biD .all [.lst (l.map fun d => D.bl (p d))] = some (.bl (l.all p)) := by
  simp only [biD, lseqOf, Option.bind_some, blsOf_map, Option.map_some, List.all_map]
  rfl
theorem all_ev {E : Gv} {c : DX} {s : S} {α : Type} {p : α → Bool} {l : List α} (h : ev E c s = .ok (.lst (l.map fun d => D.bl (p d))) s) : ev E (.bi .all (.cons c .nil)) s = .ok (.bl (l.all p)) s := by
  rw [lenArg_none rfl]
  simp only [evs, h, bind_ok, all_bls, opt_some]
/-- a block of truths, and whether all hold -/
structure AllB (E : Gv) (c : DX) (s : S) (b : Bool) : Prop where
  ex : ∃ L M, ev E c s = .ok (.lst L) s ∧ blsOf L = some M ∧ M.all id = b
theorem allb {E : Gv} {c : DX} {s : S} {α : Type} {p : α → Bool} {l : List α} (h : ev E c s = .ok (.lst (l.map fun d => D.bl (p d))) s) : AllB E c s (l.all p) :=
  ⟨_, _, h, blsOf_map p l, by rw [List.all_map]; rfl⟩
def t45_9 : DSs := (.cons (.ite (.or (.tv (.cmp .eq (.op .mod (.idx (.var 4) (.const (.int 0))) (.const (.int 2))) (.const (.int 1)))) (.tv (.cmp .ne (.bi .len (.cons (.var 3) .nil)) (.bi .len (.cons (.var 5) .nil))))) (.cons (.ret (.const (.bl false))) .nil) .nil) (.cons (.ite (.not (.tv (.bi .all (.cons c45_1 .nil)))) (.cons (.ret (.const (.bl false))) .nil) .nil) (.cons (.unp (.tup (.cons (.nm 6) (.cons (.nm 7) .nil))) (.idx (.bi .sorted (.cons c45_0 .nil)) (.const (.int 0)))) (.cons (.ret (.and (.cmp .eq (.op .mod (.var 7) (.const (.int 2))) (.const (.int 1))) (.cmp .eq (.tup (.cons (.var 6) (.cons (.op .fdiv (.var 7) (.const (.int 2))) .nil))) (.sli (.var 1) .none (.some (.const (.int 2))))))) .nil))))
def t45_6 : DSs := (.cons (.par [(4, false), (5, false)] (.cons (.idx (.idx (.idx (.var 1) (.const (.int 2))) (.const (.int 0))) (.const (.int 0))) (.cons c45_2 .nil))) (.cons (.ite (.tv (.cmp .eq (.bi .len (.cons (.idx (.var 1) (.const (.int 2))) .nil)) (.const (.int 1)))) (.cons (.ret (.and (.cmp .eq (.op .mod (.idx (.var 4) (.const (.int 0))) (.const (.int 2))) (.const (.int 1))) (.cmp .eq (.tup (.cons (.idx (.var 4) (.const (.int 1))) (.cons (.op .fdiv (.idx (.var 4) (.const (.int 0))) (.const (.int 2))) .nil))) (.sli (.var 1) .none (.some (.const (.int 2))))))) .nil) .nil) (.cons (.set 3 (.call 44 (.cons (.var 2) (.cons (.var 4) .nil)))) t45_9)))
def t45_5 : DSs := (.cons (.ite (.not (.tv (.call 33 (.cons (.var 2) (.cons (.idx (.idx (.idx (.var 1) (.const (.int 2))) (.const (.int 0))) (.const (.int 0))) (.cons (.idx (.idx (.idx (.var 1) (.const (.int 2))) (.const (.int 0))) (.const (.int 1))) .nil)))))) (.cons (.ret (.const (.bl false))) .nil) .nil) t45_6)
def t45_4 : DSs := (.cons (.ite (.not (.tv (.bi .all (.cons c45_3 .nil)))) (.cons (.ret (.const (.bl false))) .nil) .nil) t45_5)
def t45_3 : DSs := (.cons (.ite (.or (.not (.tv (.bi (.isinst "tuple") (.cons (.idx (.var 1) (.const (.int 2))) .nil)))) (.tv (.cmp .eq (.idx (.var 1) (.const (.int 2))) (.tup .nil)))) (.cons (.ret (.const (.bl false))) .nil) .nil) t45_4)
def t45_2 : DSs := (.cons (.ite (.or (.not (.tv (.bi (.isinst "tuple") (.cons (.var 1) .nil)))) (.or (.tv (.cmp .ne (.bi .len (.cons (.var 1) .nil)) (.const (.int 3)))) (.not (.tv (.bi .all (.cons c45_4 .nil)))))) (.cons (.ret (.const (.bl false))) .nil) .nil) t45_3)
theorem b45_eq : b45 = (.cons (.set 2 (.call 42 (.cons (.var 0) .nil))) (.cons (.ite (.tv (.cmp .is (.var 1) (.const .non))) (.cons (.ret (.and (.cmp .eq (.idx (.var 2) (.const (.int 0))) (.idx (.var 2) (.const (.int 2)))) (.cmp .eq (.op .mod (.idx (.idx (.var 2) (.const (.int 0))) (.const (.int 0))) (.const (.int 2))) (.const (.int 0))))) .nil) .nil) t45_2)) := rfl
abbrev s45 (X V W : Option Sl) (m : List (List D)) : S := ⟨[X, V, W, none, none, none, none, none, none, none, none, none], m⟩
/-- to behind the look for None -/
theorem pre2 (k : Nat) (X W v : D) (m : List (List D)) (e42 : F (k + 4) 42 [X] m = .ok W m) (hv : isNon v = false) : evSs (E (k + 4)) b45 (s45 (some (.val X)) (some (.val v)) none m) = evSs (E (k + 4)) t45_2 (s45 (some (.val X)) (some (.val v)) (some (.val W)) m) := by
  rw [b45_eq]
  refine (seq_next (s' := s45 (some (.val X)) (some (.val v)) (some (.val W)) m) (by simp [runB, evSs, evS, ev, evs, evo, evit, tst, rdv, peek, peekR, rderef, biD, isTy, truth, cmD, isVar, seqOf, itemsOf, idxD, atI, ixN, sizeLine_eq, setV, asg, asgs, DL.isNon, lseqOf, blsOf, EF, e42])).trans ?_
  exact seq_next (by cases v <;> first | (cases hv; done) | simp [runB, evSs, evS, ev, evs, evo, evit, tst, rdv, peek, peekR, rderef, biD, isTy, truth, cmD, isVar, seqOf, itemsOf, idxD, atI, ixN, sizeLine_eq, setV, asg, asgs, DL.isNon, lseqOf, blsOf])
theorem bad2 (k : Nat) (X W v : D) (m : List (List D)) (hv : noTrip v = true) : evSs (E (k + 4)) t45_2 (s45 (some (.val X)) (some (.val v)) (some (.val W)) m) = .ok (.ret (.bl false)) (s45 (some (.val X)) (some (.val v)) (some (.val W)) m) := by
  have hnt := noTrip_len hv
  unfold t45_2
  refine seq_ret ?_
  cases v with
  | tup ds =>
    have hnt := hnt ds rfl
    simp [runB, evSs, evS, ev, evs, evo, evit, tst, rdv, peek, peekR, rderef, biD, isTy, truth, cmD, isVar, seqOf, itemsOf, idxD, atI, ixN, sizeLine_eq, setV, asg, asgs, DL.isNon, lseqOf, blsOf, hnt]
  | _ => simp [runB, evSs, evS, ev, evs, evo, evit, tst, rdv, peek, peekR, rderef, biD, isTy, truth, cmD, isVar, seqOf, itemsOf, idxD, atI, ixN, sizeLine_eq, setV, asg, asgs, DL.isNon, lseqOf, blsOf]
theorem pre3 (k : Nat) (X W x y P : D) (m : List (List D)) (b : Bool) (hb : (isI x && isI y) = b) : evSs (E (k + 4)) t45_2 (s45 (some (.val X)) (some (.val (.tup [x, y, P]))) (some (.val W)) m) =
    if b then evSs (E (k + 4)) t45_3 (s45 (some (.val X)) (some (.val (.tup [x, y, P]))) (some (.val W)) m) else .ok (.ret (.bl false)) (s45 (some (.val X)) (some (.val (.tup [x, y, P]))) (some (.val W)) m) := by
  have ci := c45i (k + 3) m (some (.val X)) (some (.val W)) x y P
  unfold t45_2
  subst hb
  generalize isI x = A at *
  generalize isI y = C at *
  cases A <;> cases C
  · exact seq_ret (by simp [runB, evSs, evS, ev, evs, evo, evit, tst, rdv, peek, peekR, rderef, biD, isTy, truth, cmD, isVar, seqOf, itemsOf, idxD, atI, ixN, sizeLine_eq, setV, asg, asgs, DL.isNon, lseqOf, blsOf, ci])
  · exact seq_ret (by simp [runB, evSs, evS, ev, evs, evo, evit, tst, rdv, peek, peekR, rderef, biD, isTy, truth, cmD, isVar, seqOf, itemsOf, idxD, atI, ixN, sizeLine_eq, setV, asg, asgs, DL.isNon, lseqOf, blsOf, ci])
  · exact seq_ret (by simp [runB, evSs, evS, ev, evs, evo, evit, tst, rdv, peek, peekR, rderef, biD, isTy, truth, cmD, isVar, seqOf, itemsOf, idxD, atI, ixN, sizeLine_eq, setV, asg, asgs, DL.isNon, lseqOf, blsOf, ci])
  · exact seq_next (by simp [runB, evSs, evS, ev, evs, evo, evit, tst, rdv, peek, peekR, rderef, biD, isTy, truth, cmD, isVar, seqOf, itemsOf, idxD, atI, ixN, sizeLine_eq, setV, asg, asgs, DL.isNon, lseqOf, blsOf, ci])
def neTup : D → Bool
  | .tup (_ :: _) => true | _ => false
theorem pre4 (k : Nat) (X W x y P : D) (m : List (List D)) (b : Bool) (hb : neTup P = b) (he : eqD P (.tup []) = some (isEmp P)) : evSs (E (k + 4)) t45_3 (s45 (some (.val X)) (some (.val (.tup [x, y, P]))) (some (.val W)) m) =
    if b then evSs (E (k + 4)) t45_4 (s45 (some (.val X)) (some (.val (.tup [x, y, P]))) (some (.val W)) m) else .ok (.ret (.bl false)) (s45 (some (.val X)) (some (.val (.tup [x, y, P]))) (some (.val W)) m) := by
  unfold t45_3
  subst hb
  cases P with
  | tup ds =>
    cases ds with
    | nil =>
      have he : eqD (.tup []) (.tup []) = some true := he
      exact seq_ret (by simp [runB, evSs, evS, ev, evs, evo, evit, tst, rdv, peek, peekR, rderef, biD, isTy, truth, cmD, isVar, seqOf, itemsOf, idxD, atI, ixN, sizeLine_eq, setV, asg, asgs, DL.isNon, lseqOf, blsOf, he])
    | cons u us =>
      have he : eqD (.tup (u :: us)) (.tup []) = some false := he
      exact seq_next (by simp [runB, evSs, evS, ev, evs, evo, evit, tst, rdv, peek, peekR, rderef, biD, isTy, truth, cmD, isVar, seqOf, itemsOf, idxD, atI, ixN, sizeLine_eq, setV, asg, asgs, DL.isNon, lseqOf, blsOf, he])
  | _ => exact seq_ret (by simp [runB, evSs, evS, ev, evs, evo, evit, tst, rdv, peek, peekR, rderef, biD, isTy, truth, cmD, isVar, seqOf, itemsOf, idxD, atI, ixN, sizeLine_eq, setV, asg, asgs, DL.isNon, lseqOf, blsOf])
theorem pre5 (k : Nat) (X W x y : D) (ds : List D) (m : List (List D)) (hl : ds.length < 1000) (b : Bool) (hb : ds.all isPr = b) : evSs (E (k + 4)) t45_4 (s45 (some (.val X)) (some (.val (.tup [x, y, .tup ds]))) (some (.val W)) m) =
    if b then evSs (E (k + 4)) t45_5 (s45 (some (.val X)) (some (.val (.tup [x, y, .tup ds]))) (some (.val W)) m) else .ok (.ret (.bl false)) (s45 (some (.val X)) (some (.val (.tup [x, y, .tup ds]))) (some (.val W)) m) := by
  have cp := allb (c45p (k + 4) m (some (.val X)) (some (.val W)) x y ds hl)
  rw [hb] at cp
  obtain ⟨L2, M2, cp, cp2, cp3⟩ := cp
  unfold t45_4
  cases b
  · exact seq_ret (by simp [runB, evSs, evS, ev, evs, evo, evit, tst, rdv, peek, peekR, rderef, biD, isTy, truth, cmD, isVar, seqOf, itemsOf, idxD, atI, ixN, sizeLine_eq, setV, asg, asgs, DL.isNon, lseqOf, blsOf, cp, cp2, cp3])
  · exact seq_next (by simp [runB, evSs, evS, ev, evs, evo, evit, tst, rdv, peek, peekR, rderef, biD, isTy, truth, cmD, isVar, seqOf, itemsOf, idxD, atI, ixN, sizeLine_eq, setV, asg, asgs, DL.isNon, lseqOf, blsOf, cp, cp2, cp3])
theorem pre6 (k : Nat) (X W x y f pp : D) (us : List D) (m : List (List D)) (b : Bool) (hb : F (k + 4) 33 [W, f, pp] m = .ok (.bl b) m) : evSs (E (k + 4)) t45_5 (s45 (some (.val X)) (some (.val (.tup [x, y, .tup (.tup [f, pp] :: us)]))) (some (.val W)) m) =
    if b then evSs (E (k + 4)) t45_6 (s45 (some (.val X)) (some (.val (.tup [x, y, .tup (.tup [f, pp] :: us)]))) (some (.val W)) m) else .ok (.ret (.bl false)) (s45 (some (.val X)) (some (.val (.tup [x, y, .tup (.tup [f, pp] :: us)]))) (some (.val W)) m) := by
  have l0 : ¬ ((us.length : Int) + 1 ≤ 0) := by omega
  unfold t45_5
  cases b
  · exact seq_ret (by simp [runB, evSs, evS, ev, evs, evo, evit, tst, rdv, peek, peekR, rderef, biD, isTy, truth, cmD, isVar, seqOf, itemsOf, idxD, atI, ixN, sizeLine_eq, setV, asg, asgs, DL.isNon, lseqOf, blsOf, EF, hb, l0])
  · exact seq_next (by simp [runB, evSs, evS, ev, evs, evo, evit, tst, rdv, peek, peekR, rderef, biD, isTy, truth, cmD, isVar, seqOf, itemsOf, idxD, atI, ixN, sizeLine_eq, setV, asg, asgs, DL.isNon, lseqOf, blsOf, EF, hb, l0])
theorem v45 (k : Nat) (s : Stt) (m : List (List D)) (h : s.Good 5000) (v : D) (hv : VOk v) (hl : ∀ i j ds, v = .tup [.int i, .int j, .tup ds] → ds.length < 1000) : F (k + 5) 45 [s.d, v] m = .ok (.bl (shownM (tw s) v)) m := by
  have e42 := v42 (k + 2) s 5000 m h
  have hW := tw_good h (B := 5000) (bt_mono (small_bt (n := 20) (by omega) (by omega) (by omega)) (by omega))
  generalize hWe : tw s = W at *
  rw [ff45]
  have out : ∀ (b : Bool) (r : List (Option Sl)), evSs (E (k + 4)) b45 (s45 (some (.val s.d)) (some (.val v)) none m) = .ok (.ret (.bl b)) ⟨r, m⟩ → runB (E (k + 4)) 12 b45 [s.d, v] m = .ok (.bl b) m := fun b r e => runB_ret (s0 := s45 (some (.val s.d)) (some (.val v)) none m) rfl (s := ⟨r, m⟩) e
  by_cases hsh : noTrip v = true
  · cases hnn : isNon v with
    | true =>
      have : v = .non := by cases v <;> first | rfl | cases hnn
      subst this
      obtain ⟨c, d, hh⟩ := hW.end'
      have et := eq_tt W.a W.b c d
      have ep : shownM W .non = ((decide (W.a = c) && decide (W.b = d)) && decide (W.a % 2 = 0)) := by
        unfold shownM pt
        rw [hh]
      rw [ep]
      have ed : W.d = .tup [.tup [.int W.a, .int W.b], .bl W.il, .tup [.int c, .int d], .bl W.ih] := by
        unfold Stt.d
        rw [hh]
        rfl
      refine out _ (s45 (some (.val s.d)) (some (.val .non)) (some (.val W.d)) m).r ?_
      rw [b45_eq]
      refine (seq_next (s' := s45 (some (.val s.d)) (some (.val .non)) (some (.val W.d)) m) (by simp [runB, evSs, evS, ev, evs, evo, evit, tst, rdv, peek, peekR, rderef, biD, isTy, truth, cmD, isVar, seqOf, itemsOf, idxD, atI, ixN, sizeLine_eq, setV, asg, asgs, DL.isNon, lseqOf, blsOf, EF, e42])).trans (seq_ret ?_)
      rw [ed]
      generalize s.d = X at *
      generalize (decide (W.a = c) && decide (W.b = d)) = A at *
      cases A <;> simp [runB, evSs, evS, ev, evs, evo, evit, tst, rdv, peek, peekR, rderef, biD, isTy, truth, cmD, isVar, seqOf, itemsOf, idxD, atI, ixN, sizeLine_eq, setV, asg, asgs, DL.isNon, lseqOf, blsOf, et, md2]
    | false =>
      have ep : shownM W v = false := by
        unfold shownM
        split
        · cases hnn
        · simp [noTrip] at hsh
        · rfl
      rw [ep]
      exact out _ _ ((pre2 k s.d W.d v m e42 hnn).trans (bad2 k s.d W.d v m hsh))
  · obtain ⟨x, y, P, rfl⟩ : ∃ x y P, v = .tup [x, y, P] := by
      unfold noTrip at hsh
      split at hsh
      · exact ⟨_, _, _, rfl⟩
      · simp at hsh
    have hN : Nice 6 (.tup [x, y, P]) := by
      rcases hv with hv | hv
      · exact hv
      · cases hv
    have hnn : isNon (.tup [x, y, P]) = false := rfl
    have st1 := pre2 k s.d W.d (.tup [x, y, P]) m e42 hnn
    have st2 := pre3 k s.d W.d x y P m _ rfl
    cases hx : isI x && isI y with
    | false =>
      have ep : shownM W (.tup [x, y, P]) = false := by
        unfold shownM
        split
        · rename_i e; cases e
        · rename_i e; cases e; simp [isI] at hx
        · rfl
      rw [ep]
      rw [hx] at st2
      simp only [Bool.false_eq_true, if_false] at st2
      exact out _ _ (st1.trans st2)
    | true =>
      rw [hx] at st2
      simp only [if_true] at st2
      simp only [Bool.and_eq_true] at hx
      obtain ⟨i, rfl⟩ := isI_v hx.1
      obtain ⟨j, rfl⟩ := isI_v hx.2
      have hP : Nice 5 P := hN P (by simp)
      have eqP := nice_eq hP (by omega)
      have st3 := pre4 k s.d W.d (.int i) (.int j) P m _ rfl eqP
      by_cases hPs : ∃ u us, P = .tup (u :: us)
      · obtain ⟨u, us, rfl⟩ := hPs
        have hlen := hl i j _ rfl
        have hbt : neTup (.tup (u :: us)) = true := rfl
        rw [hbt] at st3
        simp only [if_true] at st3
        have st4 := fun b hb => pre5 k s.d W.d (.int i) (.int j) (u :: us) m hlen b hb
        have hlu : us.length < 1000 := by simp at hlen; omega
        have ep : shownM W (.tup [.int i, .int j, .tup (u :: us)]) = midJ W i j (u :: us) := rfl
        rw [ep]
        cases hpr : (u :: us).all isPr with
        | false =>
          have em : midJ W i j (u :: us) = false := by
            cases z : midJ W i j (u :: us) with
            | false => rfl
            | true =>
              have := mid_pr z
              have : (u :: us).all isPr = true := List.all_eq_true.mpr this
              rw [hpr] at this
              cases this
          rw [em]
          have st4 := st4 false hpr
          simp only [Bool.false_eq_true, if_false] at st4
          exact out _ _ (st1.trans (st2.trans (st3.trans st4)))
        | true =>
            have st4 := st4 true hpr
            simp only [if_true] at st4
            have hpr' := List.all_eq_true.mp hpr
            obtain ⟨f, pp, rfl⟩ := np_v (v := u) (by have := hpr' u (by simp); unfold isPr at this; simpa using this)
            have e33 := jd33 (k + 2) W 10000 m hW 3 (by omega) f pp (hP _ (by simp))
            have pre : ∀ (J : Bool), F (k + 4) 33 [W.d, f, pp] m = .ok (.bl J) m → evSs (E (k + 4)) b45 ⟨[some (.val s.d), some (.val (.tup [.int i, .int j, .tup (.tup [f, pp] :: us)])), none, none, none, none, none, none, none, none, none, none], m⟩ =
                if J then evSs (E (k + 4)) t45_6 (st45 (some (.val s.d)) (some (.val (.tup [.int i, .int j, .tup (.tup [f, pp] :: us)]))) (some (.val W.d)) none none none m) else .ok (.ret (.bl false)) (st45 (some (.val s.d)) (some (.val (.tup [.int i, .int j, .tup (.tup [f, pp] :: us)]))) (some (.val W.d)) none none none m) := fun J eJ =>
              st1.trans (st2.trans (st3.trans (st4.trans (pre6 k s.d W.d (.int i) (.int j) f pp us m J eJ))))
            cases hj : jd W (.tup [f, pp]) with
            | false =>
              rw [hj] at e33
              have em : midJ W i j (.tup [f, pp] :: us) = false := by
                cases us with
                | nil => simp [midJ, hj]
                | cons u2 us => simp [midJ, beside, hj]
              rw [em]
              exact runB_ret (s0 := ⟨[some (.val s.d), some (.val (.tup [.int i, .int j, .tup (.tup [f, pp] :: us)])), none, none, none, none, none, none, none, none, none, none], m⟩) rfl (pre false e33)
            | true =>
              rw [hj] at e33
              have pre := pre true e33
              simp only [if_true] at pre
              obtain ⟨p, q, pp', e0, q1, co, hin⟩ := jd_v hj
              cases e0
              have hm : Nice 4 (.tup [.tup [.int p, .int q], pp]) := hP _ (by simp)
              obtain ⟨lp, lq⟩ := nice_le12 hm
              have hg := cut_good hW (by decide) q1 co hin lp lq
              obtain ⟨bp, bq⟩ := nice_pq (n := 3) (nice_in hm (x := .tup [.int p, .int q]) (by simp)) p q rfl
              have ct := c45t (k + 4) m (some (.val s.d)) (some (.val W.d)) none (.int i) (.int j) (.tup [.tup [.int p, .int q], pp]) us hlu fun d hd => hpr' d (by simp [hd])
              have l0 : ¬ ((us.length : Int) + 1 ≤ 0) := by omega
              have p7 : evS (E (k + 4)) (.par [(4, false), (5, false)] (.cons (.idx (.idx (.idx (.var 1) (.const (.int 2))) (.const (.int 0))) (.const (.int 0))) (.cons c45_2 .nil))) (st45 (some (.val s.d)) (some (.val (.tup [.int i, .int j, .tup (.tup [.tup [.int p, .int q], pp] :: us)]))) (some (.val W.d)) none none none m) =
                  .ok .next (st45 (some (.val s.d)) (some (.val (.tup [.int i, .int j, .tup (.tup [.tup [.int p, .int q], pp] :: us)]))) (some (.val W.d)) none (some (.val (.tup [.int p, .int q]))) (some (.val (.lst (us.map fst1)))) m) := by
                simp [runB, evSs, evS, ev, evs, evo, evit, tst, rdv, peek, peekR, rderef, biD, isTy, truth, cmD, isVar, seqOf, itemsOf, idxD, atI, ixN, sizeLine_eq, setV, asg, asgs, DL.isNon, lseqOf, blsOf, ct, put1, l0]
              cases us with
              | nil =>
                have em : midJ W i j [.tup [.tup [.int p, .int q], pp]] = (decide (p % 2 = 1) && (decide (q = i) && decide (p / 2 = j))) := by
                  simp only [midJ, hj, Bool.true_and]
                  rfl
                rw [em]
                have et := eq_tt q (p / 2) i j
                have hc : cutD [.int i, .int j, .tup [.tup [.tup [.int p, .int q], pp]]] none (some 2) = [.int i, .int j] := by simp [cutD, HT.sIx]
                refine runB_ret (s0 := ⟨[some (.val s.d), some (.val (.tup [.int i, .int j, .tup [.tup [.tup [.int p, .int q], pp]]])), none, none, none, none, none, none, none, none, none, none], m⟩) rfl (s := st45 (some (.val s.d)) (some (.val (.tup [.int i, .int j, .tup [.tup [.tup [.int p, .int q], pp]]]))) (some (.val W.d)) none (some (.val (.tup [.int p, .int q]))) (some (.val (.lst []))) m) (pre.trans ?_)
                unfold t45_6 t45_9
                refine (seq_next p7).trans (seq_ret ?_)
                by_cases hp : p % 2 = 1 <;> simp [runB, evSs, evS, ev, evs, evo, evit, tst, rdv, peek, peekR, rderef, biD, isTy, truth, cmD, isVar, seqOf, itemsOf, idxD, atI, ixN, sizeLine_eq, setV, asg, asgs, DL.isNon, lseqOf, blsOf, md2, dv2, et, hp, sliD, hc]
              | cons u2 us =>
                have em : midJ W i j (.tup [.tup [.int p, .int q], pp] :: u2 :: us) = (beside W (.tup [.tup [.int p, .int q], pp]) (u2 :: us) && lastJ (keys (u2 :: us)) i j) := rfl
                rw [em]
                have eb : beside W (.tup [.tup [.int p, .int q], pp]) (u2 :: us) = (!decide (p % 2 = 1) && (decide ((u2 :: us).length = (halves W p q).length) && !(halves W p q).isEmpty) && (jds (halves W p q) (u2 :: us)).all id) := by
                  unfold beside
                  rw [hj]
                  rfl
                have e44 := v44 (k + 3) W 10000 m hW p q bp bq
                have cj := allb (p := fun b : Bool => b) (c45j (k + 2) m (some (.val s.d)) (some (.val W.d)) (some (.val (.tup [.int p, .int q]))) (some (.val (.lst ((u2 :: us).map fst1)))) (.int i) (.int j) (.tup [.tup [.int p, .int q], pp]) (u2 :: us) 3 (by omega) (halves W p q) hlu hg (fun x hx => hP x (List.mem_cons_of_mem _ hx)) fun d hd => hpr' d (List.mem_cons_of_mem _ hd))
                have hli : decide ((u2 :: us).length = (halves W p q).length) = decide ((((halves W p q).map Stt.d).length : Int) = (((u2 :: us).map fst1).length : Nat)) := by
                  rw [List.length_map, List.length_map]
                  by_cases z : (u2 :: us).length = (halves W p q).length
                  · simp [z]
                  · have : ¬ (((halves W p q).length : Int) = ((u2 :: us).length : Nat)) := by omega
                    simp only [z, this]
                have l1 : ¬ ((us.length : Int) + 1 + 1 = 1) := by omega
                have p9 : evS (E (k + 4)) (.set 3 (.call 44 (.cons (.var 2) (.cons (.var 4) .nil)))) (st45 (some (.val s.d)) (some (.val (.tup [.int i, .int j, .tup (.tup [.tup [.int p, .int q], pp] :: u2 :: us)]))) (some (.val W.d)) none (some (.val (.tup [.int p, .int q]))) (some (.val (.lst ((u2 :: us).map fst1)))) m) =
                    .ok .next (st45 (some (.val s.d)) (some (.val (.tup [.int i, .int j, .tup (.tup [.tup [.int p, .int q], pp] :: u2 :: us)]))) (some (.val W.d)) (some (.val (.lst ((halves W p q).map Stt.d)))) (some (.val (.tup [.int p, .int q]))) (some (.val (.lst ((u2 :: us).map fst1)))) m) := by
                  generalize (u2 :: us).map fst1 = Z at *
                  generalize (halves W p q).map Stt.d = Z2 at *
                  simp [runB, evSs, evS, ev, evs, evo, evit, tst, rdv, peek, peekR, rderef, biD, isTy, truth, cmD, isVar, seqOf, itemsOf, idxD, atI, ixN, sizeLine_eq, setV, asg, asgs, DL.isNon, lseqOf, blsOf, EF, e44]
                have fin : ∀ b : Bool, (∃ r', evSs (E (k + 4)) t45_9 (st45 (some (.val s.d)) (some (.val (.tup [.int i, .int j, .tup (.tup [.tup [.int p, .int q], pp] :: u2 :: us)]))) (some (.val W.d)) (some (.val (.lst ((halves W p q).map Stt.d)))) (some (.val (.tup [.int p, .int q]))) (some (.val (.lst ((u2 :: us).map fst1)))) m) = .ok (.ret (.bl b)) ⟨r', m⟩) →
                    runB (E (k + 4)) 12 b45 [s.d, .tup [.int i, .int j, .tup (.tup [.tup [.int p, .int q], pp] :: u2 :: us)]] m = .ok (.bl b) m := fun b ⟨r', er⟩ => by
                  refine runB_ret (s0 := ⟨[some (.val s.d), some (.val (.tup [.int i, .int j, .tup (.tup [.tup [.int p, .int q], pp] :: u2 :: us)])), none, none, none, none, none, none, none, none, none, none], m⟩) rfl (s := ⟨r', m⟩) (pre.trans ?_)
                  unfold t45_6
                  refine (seq_next p7).trans ((seq_next ?_).trans ((seq_next p9).trans er))
                  generalize (u2 :: us).map fst1 = Z at *
                  simp [runB, evSs, evS, ev, evs, evo, evit, tst, rdv, peek, peekR, rderef, biD, isTy, truth, cmD, isVar, seqOf, itemsOf, idxD, atI, ixN, sizeLine_eq, setV, asg, asgs, DL.isNon, lseqOf, blsOf, l1]
                refine fin _ ?_
                unfold t45_9
                by_cases hp : p % 2 = 1
                · rw [eb]
                  simp only [hp, decide_true, Bool.not_true, Bool.false_and]
                  generalize (u2 :: us).map fst1 = Z at *
                  generalize (halves W p q).map Stt.d = Z2 at *
                  exact ⟨(st45 (some (.val s.d)) (some (.val (.tup [.int i, .int j, .tup (.tup [.tup [.int p, .int q], pp] :: u2 :: us)]))) (some (.val W.d)) (some (.val (.lst Z2))) (some (.val (.tup [.int p, .int q]))) (some (.val (.lst Z))) m).r, seq_ret (s' := (st45 (some (.val s.d)) (some (.val (.tup [.int i, .int j, .tup (.tup [.tup [.int p, .int q], pp] :: u2 :: us)]))) (some (.val W.d)) (some (.val (.lst Z2))) (some (.val (.tup [.int p, .int q]))) (some (.val (.lst Z))) m)) (by simp [runB, evSs, evS, ev, evs, evo, evit, tst, rdv, peek, peekR, rderef, biD, isTy, truth, cmD, isVar, seqOf, itemsOf, idxD, atI, ixN, sizeLine_eq, setV, asg, asgs, DL.isNon, lseqOf, blsOf, md2, hp])⟩
                · by_cases hlL : (u2 :: us).length = (halves W p q).length
                  · have hne : (halves W p q).isEmpty = false := by
                      cases z : halves W p q with
                      | nil => rw [z] at hlL; simp at hlL
                      | cons => rfl
                    have eb2 : beside W (.tup [.tup [.int p, .int q], pp]) (u2 :: us) = (jds (halves W p q) (u2 :: us)).all fun b => b := by
                      rw [eb, hne]
                      simp only [hp, decide_false, hlL, decide_true]
                      rfl
                    have hlL2 : (((halves W p q).map Stt.d).length : Int) = (((u2 :: us).map fst1).length : Nat) := by
                      rw [List.length_map, List.length_map]; omega
                    cases hb : (jds (halves W p q) (u2 :: us)).all fun b => b with
                    | false =>
                      rw [eb2, hb, Bool.false_and]
                      rw [hb] at cj
                      obtain ⟨L3, M3, cj, cj2, cj3⟩ := cj
                      generalize (u2 :: us).map fst1 = Z at *
                      generalize (halves W p q).map Stt.d = Z2 at *
                      exact ⟨(st45 (some (.val s.d)) (some (.val (.tup [.int i, .int j, .tup (.tup [.tup [.int p, .int q], pp] :: u2 :: us)]))) (some (.val W.d)) (some (.val (.lst Z2))) (some (.val (.tup [.int p, .int q]))) (some (.val (.lst Z))) m).r, (seq_next (s' := (st45 (some (.val s.d)) (some (.val (.tup [.int i, .int j, .tup (.tup [.tup [.int p, .int q], pp] :: u2 :: us)]))) (some (.val W.d)) (some (.val (.lst Z2))) (some (.val (.tup [.int p, .int q]))) (some (.val (.lst Z))) m)) (by simp [runB, evSs, evS, ev, evs, evo, evit, tst, rdv, peek, peekR, rderef, biD, isTy, truth, cmD, isVar, seqOf, itemsOf, idxD, atI, ixN, sizeLine_eq, setV, asg, asgs, DL.isNon, lseqOf, blsOf, md2, hp, hlL2])).trans (seq_ret (s' := (st45 (some (.val s.d)) (some (.val (.tup [.int i, .int j, .tup (.tup [.tup [.int p, .int q], pp] :: u2 :: us)]))) (some (.val W.d)) (some (.val (.lst Z2))) (some (.val (.tup [.int p, .int q]))) (some (.val (.lst Z))) m)) (by simp [runB, evSs, evS, ev, evs, evo, evit, tst, rdv, peek, peekR, rderef, biD, isTy, truth, cmD, isVar, seqOf, itemsOf, idxD, atI, ixN, sizeLine_eq, setV, asg, asgs, DL.isNon, lseqOf, blsOf, cj, cj2, cj3]))⟩
                    | true =>
                      rw [hb] at cj
                      have hbt := eb2.trans hb
                      obtain ⟨l, m1, m2, m3, m4, m5⟩ := beside_v hbt
                      rw [hbt, m5, Bool.true_and]
                      rw [map_fst1 m4] at cj hlL2 ⊢
                      obtain ⟨r', en⟩ := end45 (k + 4) m (some (.val s.d)) (some (.val W.d)) (some (.val (.lst ((halves W p q).map Stt.d)))) (some (.val (.tup [.int p, .int q]))) i j (.tup (.tup [.tup [.int p, .int q], pp] :: u2 :: us)) l (by omega) m1
                      obtain ⟨L3, M3, cj, cj2, cj3⟩ := cj
                      generalize hZ : l.map frD = Z at *
                      generalize (halves W p q).map Stt.d = Z2 at *
                      exact ⟨r', (seq_next (s' := (st45 (some (.val s.d)) (some (.val (.tup [.int i, .int j, .tup (.tup [.tup [.int p, .int q], pp] :: u2 :: us)]))) (some (.val W.d)) (some (.val (.lst Z2))) (some (.val (.tup [.int p, .int q]))) (some (.val (.lst Z))) m)) (by simp [runB, evSs, evS, ev, evs, evo, evit, tst, rdv, peek, peekR, rderef, biD, isTy, truth, cmD, isVar, seqOf, itemsOf, idxD, atI, ixN, sizeLine_eq, setV, asg, asgs, DL.isNon, lseqOf, blsOf, md2, hp, hlL2])).trans ((seq_next (s' := (st45 (some (.val s.d)) (some (.val (.tup [.int i, .int j, .tup (.tup [.tup [.int p, .int q], pp] :: u2 :: us)]))) (some (.val W.d)) (some (.val (.lst Z2))) (some (.val (.tup [.int p, .int q]))) (some (.val (.lst Z))) m)) (by simp [runB, evSs, evS, ev, evs, evo, evit, tst, rdv, peek, peekR, rderef, biD, isTy, truth, cmD, isVar, seqOf, itemsOf, idxD, atI, ixN, sizeLine_eq, setV, asg, asgs, DL.isNon, lseqOf, blsOf, cj, cj2, cj3])).trans en)⟩
                  · have eb2 : beside W (.tup [.tup [.int p, .int q], pp]) (u2 :: us) = false := by
                      rw [eb]
                      simp only [hlL, decide_false]
                      simp
                    rw [eb2, Bool.false_and]
                    have hlL2 : ¬ ((((halves W p q).map Stt.d).length : Int) = (((u2 :: us).map fst1).length : Nat)) := by
                      rw [List.length_map, List.length_map]; omega
                    generalize (u2 :: us).map fst1 = Z at *
                    generalize (halves W p q).map Stt.d = Z2 at *
                    exact ⟨(st45 (some (.val s.d)) (some (.val (.tup [.int i, .int j, .tup (.tup [.tup [.int p, .int q], pp] :: u2 :: us)]))) (some (.val W.d)) (some (.val (.lst Z2))) (some (.val (.tup [.int p, .int q]))) (some (.val (.lst Z))) m).r, seq_ret (s' := (st45 (some (.val s.d)) (some (.val (.tup [.int i, .int j, .tup (.tup [.tup [.int p, .int q], pp] :: u2 :: us)]))) (some (.val W.d)) (some (.val (.lst Z2))) (some (.val (.tup [.int p, .int q]))) (some (.val (.lst Z))) m)) (by simp [runB, evSs, evS, ev, evs, evo, evit, tst, rdv, peek, peekR, rderef, biD, isTy, truth, cmD, isVar, seqOf, itemsOf, idxD, atI, ixN, sizeLine_eq, setV, asg, asgs, DL.isNon, lseqOf, blsOf, md2, hp, hlL2])⟩
      · have hb : neTup P = false := by
          cases P with
          | tup ds =>
            cases ds with
            | nil => rfl
            | cons u us => exact absurd ⟨u, us, rfl⟩ hPs
          | _ => rfl
        have ep : shownM W (.tup [.int i, .int j, P]) = false := by
          cases P with
          | tup ds =>
            cases ds with
            | nil => rfl
            | cons u us => exact absurd ⟨u, us, rfl⟩ hPs
          | _ => rfl
        rw [ep]
        rw [hb] at st3
        simp only [Bool.false_eq_true, if_false] at st3
        exact out _ _ (st1.trans (st2.trans st3))
end K84
end

section
set_option Elab.async false
set_option linter.all false
set_option autoImplicit false
set_option maxRecDepth 100000
set_option maxHeartbeats 2000000
namespace K84
open PySem PySem.Spec L2 DL
/-! ### the law's way: size by size -/
/-- a middle at this size -/
def MidAt (s : Stt) (n z : Int) : Prop := 0 ≤ n ∧ InR s (2 * n + 1) (2 * z)
def firstN (s : Stt) (z : Int) : Int := (2 * s.a * z - s.b) / (2 * s.b)
theorem first_facts {s : Stt} (hs : s.Ok) {z : Int} (hz : 0 < z) : -1 ≤ firstN s z ∧ firstN s z * (2 * s.b) ≤ 2 * s.a * z - s.b ∧ 2 * s.a * z - s.b < (firstN s z + 1) * (2 * s.b) := by
  have b0 := hs.b0
  have a0 := hs.a0
  have h1 := Int.emod_nonneg (2 * s.a * z - s.b) (b := 2 * s.b) (by omega)
  have h2 := Int.emod_lt_of_pos (2 * s.a * z - s.b) (b := 2 * s.b) (by omega)
  have h3 := Int.mul_ediv_add_emod (2 * s.a * z - s.b) (2 * s.b)
  have h4 : firstN s z * (2 * s.b) = 2 * s.b * ((2 * s.a * z - s.b) / (2 * s.b)) := Int.mul_comm _ _
  have h5 : (firstN s z + 1) * (2 * s.b) = firstN s z * (2 * s.b) + 2 * s.b := by grind
  have az : 0 ≤ 2 * s.a * z := Int.mul_nonneg (by omega) (by omega)
  refine ⟨?_, by omega, by omega⟩
  refine Classical.byContradiction fun hn => ?_
  have : firstN s z + 1 ≤ -1 := by omega
  have := Int.mul_le_mul_of_nonneg_right this (show 0 ≤ 2 * s.b by omega)
  omega
theorem up_ok {s : Stt} {c d : Int} (hs : s.Ok) (hh : s.hi = some (c, d)) {x y z : Int} (hz : 0 < z) (hxy : x ≤ y) (h : InR s y z) (hl : s.a * z < x * s.b) : InR s x z := by
  obtain ⟨d0, _⟩ := hs.hi c d hh
  refine ⟨.inl hl, fun c' d' e => ?_⟩
  rw [hh] at e
  cases e
  have k : x * d ≤ y * d := Int.mul_le_mul_of_nonneg_right hxy (by omega)
  rcases h.2 c d hh with g | ⟨g, g2⟩
  · left; omega
  · by_cases e : x * d = c * z
    · exact .inr ⟨e, g2⟩
    · left; omega
/-- the least middle of a size is one of two -/
theorem least_two {s : Stt} {c d : Int} (hs : s.Ok) (hh : s.hi = some (c, d)) {z n : Int} (hz : 0 < z) (h : MidAt s n z) (hl : ∀ n', MidAt s n' z → n ≤ n') : n = firstN s z ∨ (n = firstN s z + 1 ∧ ¬ (0 ≤ firstN s z ∧ InR s (2 * firstN s z + 1) (2 * z))) := by
  obtain ⟨f1, f2, f3⟩ := first_facts hs hz
  obtain ⟨n0, hin⟩ := h
  have b0 := hs.b0
  have lo : 2 * s.a * z - s.b ≤ n * (2 * s.b) := by
    have e1 : (2 * n + 1) * s.b = n * (2 * s.b) + s.b := by grind
    have e2 : s.a * (2 * z) = 2 * s.a * z := by grind
    rcases hin.1 with g | ⟨g, _⟩ <;> omega
  have ge : firstN s z ≤ n := by
    refine Int.le_of_mul_le_mul_right (a := 2 * s.b) ?_ (by omega)
    omega
  by_cases e : n = firstN s z
  · exact .inl e
  · right
    refine ⟨?_, fun ⟨g1, g2⟩ => ?_⟩
    · refine Classical.byContradiction fun hn => ?_
      have : MidAt s (n - 1) z := by
        refine ⟨by omega, up_ok hs hh (by omega) (y := 2 * n + 1) (by omega) hin ?_⟩
        have k1 : (firstN s z + 1) * (2 * s.b) ≤ (n - 1) * (2 * s.b) := Int.mul_le_mul_of_nonneg_right (by omega) (by omega)
        have e1 : (2 * (n - 1) + 1) * s.b = (n - 1) * (2 * s.b) + s.b := by grind
        have e2 : s.a * (2 * z) = 2 * s.a * z := by grind
        omega
      have := hl (n - 1) this
      omega
    · have := hl _ ⟨g1, g2⟩
      omega
theorem none_two {s : Stt} {z : Int} (h : ∀ n, ¬ MidAt s n z) : ¬ (0 ≤ firstN s z ∧ InR s (2 * firstN s z + 1) (2 * z)) ∧ ¬ (0 ≤ firstN s z + 1 ∧ InR s (2 * (firstN s z + 1) + 1) (2 * z)) := ⟨h _, h _⟩
/-- one number looked at -/
theorem look43 (k : Nat) (s : Stt) (c d B : Int) (hh : s.hi = some (c, d)) (hs : s.Ok) (hB : Bnd s B) (hsm : B < 400000) (z x : Int) (m : List (List D)) (hz : 0 < z) (hz2 : z ≤ 1000000) (hx : -1 ≤ x) (hx2 : x < 4000000000000) (x2 x3 x4 x5 x6 : Option Sl) :
    (¬ (0 ≤ x ∧ InR s (2 * x + 1) (2 * z)) → evSs (E (k + 1)) l43_0 ⟨[some (.val s.d), some (.val (.int z)), x2, x3, x4, x5, x6, some (.val (.int x))], m⟩ = .ok .next ⟨[some (.val s.d), some (.val (.int z)), x2, x3, x4, x5, x6, some (.val (.int x))], m⟩) ∧
    ((0 ≤ x ∧ InR s (2 * x + 1) (2 * z)) → evSs (E (k + 1)) l43_0 ⟨[some (.val s.d), some (.val (.int z)), x2, x3, x4, x5, x6, some (.val (.int x))], m⟩ = .ok (.ret (.tup [.int z, .int x])) ⟨[some (.val s.d), some (.val (.int z)), x2, x3, x4, x5, x6, some (.val (.int x))], m⟩) := by
  obtain ⟨d0, c0, _⟩ := hs.hi c d hh
  obtain ⟨b1, b2⟩ := hB.c c d hh
  have a0 := hs.a0
  have b0 := hs.b0
  have ba := hB.a
  have bb := hB.b
  have few : ∀ {y : Int}, 0 ≤ y → y < 9000000000000 → Bt y 4000 := fun h0 h1 => bt_mono (small_bt (n := 60) h0 (by omega) (by omega)) (by omega)
  have es : Stt.mk s.a s.b s.il (some (c, d)) s.ih = s := by rw [← hh]
  by_cases hx0 : 0 ≤ x
  · have e := v29 k s.a s.b s.il c d s.ih (2 * x + 1) (2 * z) m (few a0 (by omega)) (few (by omega) (by omega)) (few c0 (by omega)) (few (by omega) (by omega)) (few (by omega) (by omega)) (few (by omega) (by omega))
    rw [es] at e
    have iff := isL_iff (s := s) (p := 2 * x + 1) (q := 2 * z) hh
    have m1 := mul_ok (x := 2) (y := x) (bt_mono (few (by omega) (by omega)) (by omega)) (bt_mono (few hx0 (by omega)) (by omega))
    have m2 := mul_ok (x := 2) (y := z) (bt_mono (few (by omega) (by omega)) (by omega)) (bt_mono (few (by omega) (by omega)) (by omega))
    generalize s.d = X at *
    refine ⟨fun h => ?_, fun h => ?_⟩
    · have q : isL s.a s.b s.il c d s.ih (2 * x + 1) (2 * z) = false := by
        cases w : isL s.a s.b s.il c d s.ih (2 * x + 1) (2 * z) with
        | false => rfl
        | true => exact absurd ⟨hx0, iff.mp w⟩ h
      rw [q] at e
      unfold l43_0
      simp [runB, evSs, evS, ev, evs, evo, evit, tst, rdv, peek, peekR, rderef, biD, isTy, truth, cmD, isVar, seqOf, itemsOf, idxD, atI, ixN, sizeLine_eq, setV, asg, asgs, DL.isNon, lseqOf, blsOf, EF, e, m1, m2, hx0]
    · rw [iff.mpr h.2] at e
      unfold l43_0
      simp [runB, evSs, evS, ev, evs, evo, evit, tst, rdv, peek, peekR, rderef, biD, isTy, truth, cmD, isVar, seqOf, itemsOf, idxD, atI, ixN, sizeLine_eq, setV, asg, asgs, DL.isNon, lseqOf, blsOf, EF, e, m1, m2, hx0]
  · refine ⟨fun h => ?_, fun h => absurd h.1 hx0⟩
    unfold l43_0
    simp [runB, evSs, evS, ev, evs, evo, evit, tst, rdv, peek, peekR, rderef, biD, isTy, truth, cmD, isVar, seqOf, itemsOf, idxD, atI, ixN, sizeLine_eq, setV, asg, asgs, DL.isNon, lseqOf, blsOf, hx0]
/-- one size -/
theorem size43 (k : Nat) (s : Stt) (c d B : Int) (hh : s.hi = some (c, d)) (hs : s.Ok) (hB : Bnd s B) (hsm : B < 400000) (z : Int) (m : List (List D)) (hz : 0 < z) (hz2 : z ≤ 1000000) (x6 x7 : Option Sl) :
    ((∀ n, ¬ MidAt s n z) → ∃ x6' x7', evSs (E (k + 1)) l43_1 ⟨[some (.val s.d), some (.val (.int z)), some (.val (.tup [.int s.a, .int s.b])), some (.val (.bl s.il)), some (.val (.tup [.int c, .int d])), some (.val (.bl s.ih)), x6, x7], m⟩ =
      .ok .next ⟨[some (.val s.d), some (.val (.int z)), some (.val (.tup [.int s.a, .int s.b])), some (.val (.bl s.il)), some (.val (.tup [.int c, .int d])), some (.val (.bl s.ih)), x6', x7'], m⟩) ∧
    (∀ n, MidAt s n z → (∀ n', MidAt s n' z → n ≤ n') → ∃ x6' x7', evSs (E (k + 1)) l43_1 ⟨[some (.val s.d), some (.val (.int z)), some (.val (.tup [.int s.a, .int s.b])), some (.val (.bl s.il)), some (.val (.tup [.int c, .int d])), some (.val (.bl s.ih)), x6, x7], m⟩ =
      .ok (.ret (.tup [.int z, .int n])) ⟨[some (.val s.d), some (.val (.int z)), some (.val (.tup [.int s.a, .int s.b])), some (.val (.bl s.il)), some (.val (.tup [.int c, .int d])), some (.val (.bl s.ih)), x6', x7'], m⟩) := by
  obtain ⟨f1, f2, f3⟩ := first_facts hs hz
  have a0 := hs.a0
  have b0 := hs.b0
  have ba := hB.a
  have bb := hB.b
  have few : ∀ {y : Int}, 0 ≤ y → y < 9000000000000 → Bt y 4000 := fun h0 h1 => bt_mono (small_bt (n := 60) h0 (by omega) (by omega)) (by omega)
  have az : 0 ≤ 2 * s.a * z := Int.mul_nonneg (by omega) (by omega)
  have az2 : 2 * s.a * z ≤ 2 * 400000 * 1000000 := by
    have e1 : 2 * s.a * z ≤ 2 * s.a * 1000000 := Int.mul_le_mul_of_nonneg_left hz2 (by omega)
    omega
  have ub : firstN s z ≤ 2 * s.a * z := by
    refine Classical.byContradiction fun hn => ?_
    have : (2 * s.a * z + 1) * (2 * s.b) ≤ firstN s z * (2 * s.b) := Int.mul_le_mul_of_nonneg_right (by omega) (by omega)
    have : (2 * s.a * z + 1) * 1 ≤ (2 * s.a * z + 1) * (2 * s.b) := Int.mul_le_mul_of_nonneg_left (by omega) (by omega)
    omega
  have m1 := mul_ok (x := 2) (y := s.a) (bt_mono (few (by omega) (by omega)) (by omega)) (bt_mono (few a0 (by omega)) (by omega))
  have m2 := mul_ok (x := 2 * s.a) (y := z) (bt_mono (few (by omega) (by omega)) (by omega)) (bt_mono (few (by omega) (by omega)) (by omega))
  have m3 := mul_ok (x := 2) (y := s.b) (bt_mono (few (by omega) (by omega)) (by omega)) (bt_mono (few (by omega) (by omega)) (by omega))
  have m4 : op2 .fdiv (.int (2 * s.a * z - s.b)) (.int (2 * s.b)) = some (.int (firstN s z)) := fdiv_ok (by omega) (bt_mono (few (by omega) (by omega)) (by omega))
  have two := least_two (n := 0) hs hh hz
  obtain ⟨l1, l2⟩ := look43 k s c d B hh hs hB hsm z (firstN s z) m hz hz2 f1 (by omega) (some (.val (.tup [.int s.a, .int s.b]))) (some (.val (.bl s.il))) (some (.val (.tup [.int c, .int d]))) (some (.val (.bl s.ih))) (some (.val (.int (firstN s z))))
  obtain ⟨l3, l4⟩ := look43 k s c d B hh hs hB hsm z (firstN s z + 1) m hz hz2 (by omega) (by omega) (some (.val (.tup [.int s.a, .int s.b]))) (some (.val (.bl s.il))) (some (.val (.tup [.int c, .int d]))) (some (.val (.bl s.ih))) (some (.val (.int (firstN s z))))
  refine ⟨fun hn => ?_, fun n hm hl => ?_⟩
  · obtain ⟨n1, n2⟩ := none_two hn
    have l1 := l1 n1
    have l3 := l3 n2
    clear l2 l4 two n1 n2
    refine ⟨some (.val (.int (firstN s z))), some (.val (.int (firstN s z + 1))), ?_⟩
    generalize firstN s z = f at *
    generalize s.d = X at *
    unfold l43_1
    simp [runB, evSs, evS, ev, evs, evo, evit, tst, rdv, peek, peekR, rderef, biD, isTy, truth, cmD, isVar, seqOf, itemsOf, idxD, atI, ixN, sizeLine_eq, setV, asg, asgs, DL.isNon, lseqOf, blsOf, m1, m2, m3, m4, loopF, l1, l3]
  · rcases least_two hs hh hz hm hl with e | ⟨e, hno⟩
    · subst e
      have l2 := l2 hm
      clear l1 l3 l4 two hm hl
      refine ⟨some (.val (.int (firstN s z))), some (.val (.int (firstN s z))), ?_⟩
      generalize firstN s z = f at *
      generalize s.d = X at *
      unfold l43_1
      simp [runB, evSs, evS, ev, evs, evo, evit, tst, rdv, peek, peekR, rderef, biD, isTy, truth, cmD, isVar, seqOf, itemsOf, idxD, atI, ixN, sizeLine_eq, setV, asg, asgs, DL.isNon, lseqOf, blsOf, m1, m2, m3, m4, loopF, l2]
    · subst e
      have l1 := l1 hno
      have l4 := l4 hm
      clear l2 l3 two hm hl hno
      refine ⟨some (.val (.int (firstN s z))), some (.val (.int (firstN s z + 1))), ?_⟩
      generalize firstN s z = f at *
      generalize s.d = X at *
      unfold l43_1
      simp [runB, evSs, evS, ev, evs, evo, evit, tst, rdv, peek, peekR, rderef, biD, isTy, truth, cmD, isVar, seqOf, itemsOf, idxD, atI, ixN, sizeLine_eq, setV, asg, asgs, DL.isNon, lseqOf, blsOf, m1, m2, m3, m4, loopF, l1, l4]
end K84
end

section
set_option Elab.async false
set_option linter.all false
set_option autoImplicit false
set_option maxRecDepth 100000
set_option maxHeartbeats 2000000
namespace K84
open PySem PySem.Spec L2 DL
def sizesL (z : Int) (n : Nat) : List D := (List.range n).map fun (k : Nat) => D.int (z + k)
theorem sizesL_succ (z : Int) (n : Nat) : sizesL z (n + 1) = .int z :: sizesL (z + 1) n := by
  unfold sizesL
  rw [List.range_succ_eq_map, List.map_cons, List.map_map]
  have e0 : z + ((0 : Nat) : Int) = z := by omega
  rw [e0]
  congr 1
  apply List.map_congr_left
  intro k _
  simp only [Function.comp_apply]
  congr 1
  omega
abbrev st43 (s : Stt) (c d : Int) (x1 x6 x7 : Option Sl) (m : List (List D)) : S := ⟨[some (.val s.d), x1, some (.val (.tup [.int s.a, .int s.b])), some (.val (.bl s.il)), some (.val (.tup [.int c, .int d])), some (.val (.bl s.ih)), x6, x7], m⟩
theorem loop43 (k : Nat) (s : Stt) (c d B : Int) (hh : s.hi = some (c, d)) (hs : s.Ok) (hB : Bnd s B) (hsm : B < 400000) (m : List (List D)) : ∀ (n : Nat) (z : Int) (x1 x6 x7 : Option Sl), 0 < z → z + n ≤ 1000000 →
    ((∀ t, z ≤ t → t < z + n → ∀ i, ¬ MidAt s i t) → ∃ x1' x6' x7', loopF (fun d s => (opt (asg (.nm 1) d s) s).bind fun s _ => evSs (E (k + 1)) l43_1 s) (sizesL z n) (st43 s c d x1 x6 x7 m) = .ok .next (st43 s c d x1' x6' x7' m)) ∧
    (∀ t i, z ≤ t → t < z + n → (∀ t', z ≤ t' → t' < t → ∀ i, ¬ MidAt s i t') → MidAt s i t → (∀ i', MidAt s i' t → i ≤ i') → ∃ x1' x6' x7', loopF (fun d s => (opt (asg (.nm 1) d s) s).bind fun s _ => evSs (E (k + 1)) l43_1 s) (sizesL z n) (st43 s c d x1 x6 x7 m) = .ok (.ret (.tup [.int t, .int i])) (st43 s c d x1' x6' x7' m))
  | 0, z, x1, x6, x7, _, _ => ⟨fun _ => ⟨x1, x6, x7, rfl⟩, fun t i h1 h2 => by omega⟩
  | n + 1, z, x1, x6, x7, hz, hz2 => by
    rw [sizesL_succ]
    obtain ⟨o1, o2⟩ := size43 k s c d B hh hs hB hsm z m hz (by omega) x6 x7
    refine ⟨fun hn => ?_, fun t i h1 h2 h3 h4 h5 => ?_⟩
    · obtain ⟨x6', x7', e1⟩ := o1 (hn z (by omega) (by omega))
      obtain ⟨y1, y6, y7, e2⟩ := (loop43 k s c d B hh hs hB hsm m n (z + 1) (some (.val (.int z))) x6' x7' (by omega) (by omega)).1 fun t a b => hn t (by omega) (by omega)
      refine ⟨y1, y6, y7, ?_⟩
      rw [loop_next (s' := st43 s c d (some (.val (.int z))) x6' x7' m)]
      · exact e2
      · simp only [asg, setV, List.length_cons, List.length_nil, Nat.zero_add, Nat.reduceAdd, Nat.reduceLT, if_true, opt_some, bind_ok, List.set_cons_succ, List.set_cons_zero]
        exact e1
    · by_cases e : t = z
      · subst e
        obtain ⟨x6', x7', e1⟩ := o2 i h4 h5
        refine ⟨some (.val (.int t)), x6', x7', ?_⟩
        refine loop_ret ?_
        simp only [asg, setV, List.length_cons, List.length_nil, Nat.zero_add, Nat.reduceAdd, Nat.reduceLT, if_true, opt_some, bind_ok, List.set_cons_succ, List.set_cons_zero]
        exact e1
      · obtain ⟨x6', x7', e1⟩ := o1 (h3 z (by omega) (by omega))
        obtain ⟨y1, y6, y7, e2⟩ := (loop43 k s c d B hh hs hB hsm m n (z + 1) (some (.val (.int z))) x6' x7' (by omega) (by omega)).2 t i (by omega) (by omega) (fun t' a b => h3 t' (by omega) b) h4 h5
        refine ⟨y1, y6, y7, ?_⟩
        rw [loop_next (s' := st43 s c d (some (.val (.int z))) x6' x7' m)]
        · exact e2
        · simp only [asg, setV, List.length_cons, List.length_nil, Nat.zero_add, Nat.reduceAdd, Nat.reduceLT, if_true, opt_some, bind_ok, List.set_cons_succ, List.set_cons_zero]
          exact e1
def lim43 (s : Stt) (c d : Int) : Int := if s.a = c ∧ s.b = d then 1 + s.b else 2000
theorem rng43 (l : Int) (h0 : 1 ≤ l) (h1 : l < 2000000) : rngD [.int 1, .int l] = some (sizesL 1 (l - 1).toNat) := by
  simp only [rngD]
  rw [if_pos]
  · rfl
  · refine ⟨by decide, by decide, ?_, ?_⟩
    · have : -(2 ^ 62 : Int) ≤ 0 := by decide
      omega
    · have : (2000000 : Int) < 2 ^ 62 := by decide
      omega
theorem v43 (k : Nat) (s : Stt) (c d B : Int) (hh : s.hi = some (c, d)) (hs : s.Ok) (hB : Bnd s B) (hsm : B < 400000) (m : List (List D)) :
    ((∀ t, 1 ≤ t → t < lim43 s c d → ∀ i, ¬ MidAt s i t) → F (k + 2) 43 [s.d] m = .ok .non m) ∧
    (∀ t i, 1 ≤ t → t < lim43 s c d → (∀ t', 1 ≤ t' → t' < t → ∀ i, ¬ MidAt s i t') → MidAt s i t → (∀ i', MidAt s i' t → i ≤ i') → F (k + 2) 43 [s.d] m = .ok (.tup [.int t, .int i]) m) := by
  have b0 := hs.b0
  have bb := hB.b
  have l0 : 1 ≤ lim43 s c d := by unfold lim43; split <;> omega
  have l1 : lim43 s c d < 1000000 := by unfold lim43; split <;> omega
  obtain ⟨p1, p2⟩ := loop43 k s c d B hh hs hB hsm m (lim43 s c d - 1).toNat 1 none none none (by omega) (by omega)
  have hr := rng43 (lim43 s c d) l0 (by omega)
  have et := eq_tt s.a s.b c d
  have s1 : evS (E (k + 1)) (.unp (.tup (.cons (.nm 2) (.cons (.nm 3) (.cons (.nm 4) (.cons (.nm 5) .nil))))) (.var 0)) ⟨[some (.val s.d), none, none, none, none, none, none, none], m⟩ = .ok .next (st43 s c d none none none m) := by
    have ed : s.d = .tup [.tup [.int s.a, .int s.b], .bl s.il, .tup [.int c, .int d], .bl s.ih] := by
      unfold Stt.d
      rw [hh]
      rfl
    show _ = DL.R.ok Fl.next ⟨[some (.val s.d), none, some (.val (.tup [.int s.a, .int s.b])), some (.val (.bl s.il)), some (.val (.tup [.int c, .int d])), some (.val (.bl s.ih)), none, none], m⟩
    rw [ed]
    simp [runB, evSs, evS, ev, evs, evo, evit, tst, rdv, peek, peekR, rderef, biD, isTy, truth, cmD, isVar, seqOf, itemsOf, idxD, atI, ixN, sizeLine_eq, setV, asg, asgs, DL.isNon, lseqOf, blsOf]
  have q : evit (E (k + 1)) (.rng (.cons (.const (.int 1)) (.cons (.ite (.tv (.cmp .ne (.var 2) (.var 4))) (.const (.int 2000)) (.op .add (.const (.int 1)) (.idx (.var 2) (.const (.int 1))))) .nil))) (st43 s c d none none none m) = .ok (sizesL 1 (lim43 s c d - 1).toNat) (st43 s c d none none none m) := by
    have hl : lim43 s c d = if (decide (s.a = c) && decide (s.b = d)) then 1 + s.b else 2000 := by
      unfold lim43
      by_cases h1 : s.a = c <;> by_cases h2 : s.b = d <;> simp [h1, h2]
    rw [hl] at hr ⊢
    generalize (decide (s.a = c) && decide (s.b = d)) = A at *
    generalize s.d = X at *
    cases A
    · simp only [Bool.false_eq_true, if_false] at hr ⊢
      simp [runB, evSs, evS, ev, evs, evo, evit, tst, rdv, peek, peekR, rderef, biD, isTy, truth, cmD, isVar, seqOf, itemsOf, idxD, atI, ixN, sizeLine_eq, setV, asg, asgs, DL.isNon, lseqOf, blsOf, et, hr]
    · simp only [if_true] at hr ⊢
      simp [runB, evSs, evS, ev, evs, evo, evit, tst, rdv, peek, peekR, rderef, biD, isTy, truth, cmD, isVar, seqOf, itemsOf, idxD, atI, ixN, sizeLine_eq, setV, asg, asgs, DL.isNon, lseqOf, blsOf, et, hr]
  refine ⟨fun hn => ?_, fun t i h1 h2 h3 h4 h5 => ?_⟩
  · obtain ⟨y1, y6, y7, e⟩ := p1 fun t a b => hn t a (by omega)
    rw [ff43]
    refine runB_ret (s0 := ⟨[some (.val s.d), none, none, none, none, none, none, none], m⟩) rfl (s := st43 s c d y1 y6 y7 m) ?_
    unfold b43
    refine (seq_next s1).trans ((seq_next (s' := st43 s c d y1 y6 y7 m) ?_).trans (seq_ret (by simp [runB, evSs, evS, ev, evs, evo, evit, tst, rdv, peek, peekR, rderef, biD, isTy, truth, cmD, isVar, seqOf, itemsOf, idxD, atI, ixN, sizeLine_eq, setV, asg, asgs, DL.isNon, lseqOf, blsOf])))
    rw [evS, q]
    simp only [bind_ok]
    exact e
  · obtain ⟨y1, y6, y7, e⟩ := p2 t i h1 (by omega) h3 h4 h5
    rw [ff43]
    refine runB_ret (s0 := ⟨[some (.val s.d), none, none, none, none, none, none, none], m⟩) rfl (s := st43 s c d y1 y6 y7 m) ?_
    unfold b43
    refine (seq_next s1).trans (seq_ret ?_)
    rw [evS, q]
    simp only [bind_ok]
    exact e
end K84
end

section
set_option Elab.async false
set_option linter.all false
set_option autoImplicit false
set_option maxRecDepth 100000
set_option maxHeartbeats 2000000
namespace K84
open PySem PySem.Spec L2 DL
/-- a drawn stretch, and its width -/
structure Fine2 (s : Stt) : Prop where
  good : s.Good 5000
  wide : ∀ c d, s.hi = some (c, d) → (s.a = c ∧ s.b = d) ∨ s.b * d ≤ 60 * (c * s.b - s.a * d)
theorem mid_iff {s : Stt} (hs : s.Ok) {c d : Int} (hh : s.hi = some (c, d)) {n t : Int} : MidAt s n t ↔ 0 ≤ n ∧ InR (tw s) (2 * n + 1) t := by
  unfold MidAt
  rw [tw_in hs hh]
/-- there is a middle at 61 -/
theorem mid61 {s : Stt} (hs : s.Ok) {c d : Int} (hh : s.hi = some (c, d)) (hw : s.b * d ≤ 60 * (c * s.b - s.a * d)) : ∃ n, MidAt s n 61 := by
  obtain ⟨f1, f2, f3⟩ := first_facts hs (z := 61) (by omega)
  obtain ⟨d0, _⟩ := hs.hi c d hh
  have b0 := hs.b0
  refine ⟨firstN s 61 + 1, by omega, .inl ?_, fun c' d' e => ?_⟩
  · have e1 : (2 * (firstN s 61 + 1) + 1) * s.b = (firstN s 61 + 1) * (2 * s.b) + s.b := by grind
    have e2 : s.a * (2 * 61) = 2 * s.a * 61 := by grind
    omega
  · rw [hh] at e
    cases e
    left
    refine Int.lt_of_mul_lt_mul_right (a := s.b) ?_ (by omega)
    have bd : 0 < s.b * d := Int.mul_pos b0 d0
    have e1 : (2 * (firstN s 61 + 1) + 1) * d * s.b = (firstN s 61 * (2 * s.b)) * d + 3 * (s.b * d) := by grind
    have k1 : (firstN s 61 * (2 * s.b)) * d ≤ (2 * s.a * 61 - s.b) * d := Int.mul_le_mul_of_nonneg_right f2 (by omega)
    have e2 : (2 * s.a * 61 - s.b) * d = 122 * (s.a * d) - s.b * d := by grind
    have e3 : c * (2 * 61) * s.b = 122 * (c * s.b) := by grind
    omega
inductive Al3 (B : Int) : List Stt → List (Int × Int) → List D → Prop
  | nil : Al3 B [] [] []
  | cons {h : Stt} {x : Int × Int} {P : D} {hs : List Stt} {xs : List (Int × Int)} {Ps : List D} : (∃ l r, P = .tup [frD x, parD x.2 l r] ∧ Told h B x.1 x.2 l r ∧ x.1 ≤ B + B ∧ x.2 ≤ B + B) → Al3 B hs xs Ps → Al3 B (h :: hs) (x :: xs) (P :: Ps)
theorem halves_told (k : Nat) (m : List (List D)) (B : Int) (hB : B < 400000) (hBt : Bt (B + B) 3900) : ∀ hs : List Stt, (∀ h ∈ hs, h.Good B) → ∃ xs Ps, All2 (fun d y => F (k + 6) 12 [d] m = .ok y m) (hs.map Stt.d) (xs.map frD) ∧ All2 (fun d y => F (k + 6) 14 [d] m = .ok y m) (xs.map frD) Ps ∧ Al3 B hs xs Ps
  | [], _ => ⟨[], [], .nil, .nil, .nil⟩
  | h :: hs, hg => by
    obtain ⟨xs, Ps, a1, a2, a3⟩ := halves_told k m B hB hBt hs fun x hx => hg x (by simp [hx])
    obtain ⟨p, q, best, p1, q1, e⟩ := so h B (hg h (by simp))
    obtain ⟨l, r, e14, hp⟩ := v14 (k + 4) p q m (B + B) hBt p1 q1 best.p0 best.q0 best.co
    exact ⟨(p, q) :: xs, _ :: Ps, .cons (e k m hB) a1, .cons e14 a2, .cons ⟨l, r, rfl, ⟨best, hp⟩, p1, q1⟩ a3⟩
theorem al3_j {B : Int} : ∀ {hs : List Stt} {xs : List (Int × Int)} {Ps : List D}, Al3 B hs xs Ps → (∀ h ∈ hs, h.Ok) → (jds hs Ps).all id = true ∧ Ps.length = hs.length ∧ xs.length = hs.length ∧ keys Ps = xs.map fun x => (x.2, x.1)
  | _, _, _, .nil, _ => ⟨rfl, rfl, rfl, rfl⟩
  | h :: hs, x :: xs, P :: Ps, .cons ⟨l, r, e, ht, _, _⟩ t, hok => by
    obtain ⟨h1, h2, h3, h4⟩ := al3_j t fun y hy => hok y (by simp [hy])
    subst e
    have hj : jd h (.tup [frD x, parD x.2 l r]) = true := told_judge (hok h (by simp)) ht
    refine ⟨by simp only [jds, List.all_cons, hj, h1]; rfl, by simp [h2], by simp [h3], ?_⟩
    have e0 : keys (.tup [frD x, parD x.2 l r] :: Ps) = (x.2, x.1) :: keys Ps := rfl
    rw [e0, h4]
    rfl
theorem al3_h {B : Int} : ∀ {hs : List Stt} {xs : List (Int × Int)} {Ps : List D}, Al3 B hs xs Ps → ∀ h ∈ hs, ∃ x ∈ xs, ∃ l r, Told h B x.1 x.2 l r
  | _, _, _, .cons ⟨l, r, _, ht, _, _⟩ t, h, hh => by
    rcases List.mem_cons.mp hh with rfl | hh
    · exact ⟨_, by simp, l, r, ht⟩
    · obtain ⟨x, hx, r⟩ := al3_h t h hh
      exact ⟨x, by simp [hx], r⟩
theorem al3_x {B : Int} : ∀ {hs : List Stt} {xs : List (Int × Int)} {Ps : List D}, Al3 B hs xs Ps → ∀ x ∈ xs, ∃ h ∈ hs, (∃ l r, Told h B x.1 x.2 l r) ∧ x.1 ≤ B + B ∧ x.2 ≤ B + B
  | _, _, _, .cons ⟨l, r, _, ht, b1, b2⟩ t, x, hx => by
    rcases List.mem_cons.mp hx with rfl | hx
    · exact ⟨_, by simp, ⟨l, r, ht⟩, b1, b2⟩
    · obtain ⟨h, hh, r⟩ := al3_x t x hx
      exact ⟨h, by simp [hh], r⟩
theorem al3_ti {B : Int} (hB : B + B ≤ 1000000) : ∀ {hs : List Stt} {xs : List (Int × Int)} {Ps : List D}, Al3 B hs xs Ps → ∀ P ∈ Ps, TI 3 P
  | _, _, _, .cons ⟨l, r, e, ht, b1, b2⟩ t, P, hP => by
    rcases List.mem_cons.mp hP with rfl | hP
    · subst e
      have := ht.best.p0
      have := ht.best.q0
      have tp := nice_par (n := 0) ht.par (by omega) (by omega)
      refine ⟨by simp, fun x hx => ?_⟩
      simp at hx
      rcases hx with rfl | rfl
      · refine ⟨by simp, fun y hy => ?_⟩
        simp at hy
        rcases hy with rfl | rfl <;> exact ⟨by omega, by omega⟩
      · exact tp
    · exact al3_ti hB t P hP
theorem halves_mem {W : Stt} {p q : Int} {h : Stt} (hm : h ∈ halves W p q) : h = lHalf W p q ∨ h = rHalf W p q := by
  unfold halves at hm
  rcases List.mem_append.mp hm with hm | hm
  · split at hm
    · left; simpa using hm
    · simp at hm
  · split at hm
    · split at hm
      · right; simpa using hm
      · simp at hm
    · simp at hm
theorem in_halves {W : Stt} {p q x y : Int} (hs : W.Ok) {c d : Int} (hh : W.hi = some (c, d)) (hq : 0 < q) (hy : 0 < y) (h : InR (lHalf W p q) x y ∨ InR (rHalf W p q) x y) : ∃ g ∈ halves W p q, InR g x y := by
  have b0 := hs.b0
  obtain ⟨d0, _⟩ := hs.hi c d hh
  rcases h with h | h
  · obtain ⟨h1, h2⟩ := lHalf_in.mp h
    have : W.a * q < p * W.b := by
      rcases h1 with g | ⟨g, _⟩
      · exact cross_lt' (a := W.a) (d := y) (c := x) (b := W.b) (f := q) (e := p) b0 hy hq (by omega) h2
      · exact cross_lt' (a := W.a) (d := y) (c := x) (b := W.b) (f := q) (e := p) b0 hy hq (by omega) h2
    exact ⟨lHalf W p q, by unfold halves; simp [this], h⟩
  · obtain ⟨h1, h2⟩ := rHalf_in.mp h
    have : p * d < c * q := by
      rcases h2 c d hh with g | ⟨g, _⟩
      · exact cross_lt (a := p) (d := y) (c := x) (b := q) (f := d) (e := c) hq hy d0 h1 (by omega)
      · exact cross_lt (a := p) (d := y) (c := x) (b := q) (f := d) (e := c) hq hy d0 h1 (by omega)
    exact ⟨rHalf W p q, by unfold halves; rw [hh]; simp [this], h⟩
theorem half_sub {W : Stt} {p q x y : Int} (hs : W.Ok) (hq : 0 < q) (hy : 0 < y) (h : InR W p q) {g : Stt} (hg : g ∈ halves W p q) (hh : InR g x y) : InR W x y := by
  rcases halves_mem hg with rfl | rfl
  · exact l_sub hq hy hs h hh
  · exact r_sub hq hy hs h hh
/-- no halves: one point alone -/
theorem halves_pt {W : Stt} {p q : Int} (hs : W.Ok) {c d : Int} (hh : W.hi = some (c, d)) (b : Best W p q) (h : halves W p q = []) : W.a = p ∧ W.b = q ∧ c = p ∧ d = q := by
  obtain ⟨d0, c0, co, _⟩ := hs.hi c d hh
  have b0 := hs.b0
  unfold halves at h
  rw [hh] at h
  have h1 : ¬ (W.a * q < p * W.b) := fun z => by simp [z] at h
  have h2 : ¬ (p * d < c * q) := fun z => by simp [z] at h
  have e1 : W.a * q = p * W.b := by rcases b.inn.1 with g | ⟨g, _⟩ <;> omega
  have e2 : p * d = c * q := by rcases b.inn.2 c d hh with g | ⟨g, _⟩ <;> omega
  obtain ⟨r1, r2⟩ := frac_eq (a := p) (b := q) (p := W.a) (q := W.b) b.q0 b0 b.co hs.co e1.symm
  obtain ⟨r3, r4⟩ := frac_eq (a := p) (b := q) (p := c) (q := d) b.q0 d0 b.co co e2
  exact ⟨r1, r2, r3, r4⟩
end K84
end

section
set_option Elab.async false
set_option linter.all false
set_option autoImplicit false
set_option maxRecDepth 100000
set_option maxHeartbeats 2000000
namespace K84
open PySem PySem.Spec L2 DL
/-- what is told of a middle -/
structure Mid (s : Stt) (v due : D) : Prop where
  shown : shownM (tw s) v = true
  how : (v = .non ∧ due = .non) ∨ ∃ i j ds, v = .tup [.int i, .int j, .tup ds] ∧ due = .tup [.int i, .int j] ∧ TI 5 v ∧ 0 < ds.length ∧ ds.length ≤ 3 ∧ 0 ≤ i ∧ i ≤ 100000 ∧ 0 ≤ j ∧ j ≤ 100000 ∧ TI 4 (.tup ds)
theorem lastJ_of {ks : List (Int × Int)} {y : Int × Int} {r : List (Int × Int)} (h : sortP ks = y :: r) (ho : y.2 % 2 = 1) : lastJ ks y.1 (y.2 / 2) = true := by
  unfold lastJ
  rw [h]
  simp [ho]
theorem lim_wide {s : Stt} {c d t : Int} (hb : 0 < s.b) (hd : 0 < d) (hw : s.b * d ≤ 60 * (c * s.b - s.a * d)) (h2 : t ≤ 61) : t < lim43 s c d := by
  unfold lim43
  split
  · rename_i e
    exfalso
    have := Int.mul_pos hb hd
    rw [← e.1, ← e.2] at hw
    rw [← e.2] at this
    omega
  · omega
theorem pt_in {W : Stt} (hs : W.Ok) (hh : W.hi = some (W.a, W.b)) : InR W W.a W.b := by
  obtain ⟨d0, c0, co, ho⟩ := hs.hi _ _ hh
  rcases ho with ho | ⟨_, h1, h2⟩
  · omega
  · refine ⟨.inr ⟨rfl, h1⟩, fun c d e => ?_⟩
    rw [hh] at e
    cases e
    exact .inr ⟨rfl, h2⟩
theorem pt_halves {W : Stt} {p q : Int} (hh : W.hi = some (W.a, W.b)) (hin : InR W p q) : halves W p q = [] := by
  have h2 := hin.2 _ _ hh
  unfold halves
  rw [hh]
  have n1 : ¬ (W.a * q < p * W.b) := by rcases h2 with g | ⟨g, _⟩ <;> omega
  have n2 : ¬ (p * W.b < W.a * q) := by rcases hin.1 with g | ⟨g, _⟩ <;> omega
  simp [n1, n2]
theorem mid (s : Stt) (h : Fine2 s) : ∀ (k : Nat) (m : List (List D)), ∃ v due, F (k + 8) 38 [s.d] m = .ok v m ∧ F (k + 8) 43 [s.d] m = .ok due m ∧ Mid s v due := by
  intro k m
  obtain ⟨hg, hw⟩ := h
  obtain ⟨c, d, hh⟩ := hg.end'
  have hs := hg.ok
  have hw := hw c d hh
  have bt4 : Bt (20000 + 20000) 3900 := bt_mono (small_bt (n := 20) (by omega) (by omega) (by omega)) (by omega)
  have bt2 : Bt (10000 + 10000) 3900 := bt_mono (small_bt (n := 20) (by omega) (by omega) (by omega)) (by omega)
  have hW := tw_good hg (B := 5000) (bt_mono (small_bt (n := 20) (by omega) (by omega) (by omega)) (by omega))
  have hW : (tw s).Good 10000 := hW
  have hWh := tw_hi hh
  obtain ⟨p, q, best, p1, q1, e12⟩ := so (tw s) 10000 hW
  have e12 := e12 k m (by omega)
  obtain ⟨l, r, e14, par⟩ := v14 (k + 4) p q m (10000 + 10000) bt2 p1 q1 best.p0 best.q0 best.co
  have told : Told (tw s) 10000 p q l r := ⟨best, par⟩
  have p0 := best.p0
  have q0 := best.q0
  have e36 := v36 (k + 2) s 5000 m hg
  have e10 := v10 (k + 2) s 5000 m hg
  have hj0 : jd (tw s) (.tup [frD (p, q), parD q l r]) = true := told_judge hW.ok told
  have t0 : TI 3 (.tup [frD (p, q), parD q l r]) := by
    have tp := nice_par (n := 0) par (by omega) (by omega)
    refine ⟨by simp, fun x hx => ?_⟩
    simp at hx
    rcases hx with rfl | rfl
    · refine ⟨by simp, fun y hy => ?_⟩
      simp at hy
      rcases hy with rfl | rfl <;> exact ⟨by omega, by omega⟩
    · exact tp
  obtain ⟨v43a, v43b⟩ := v43 (k + 6) s c d 5000 hh hs hg.bnd (by omega) m
  have up38 : ∀ {v : D}, F (k + 7) 37 [s.d] m = .ok v m → F (k + 8) 38 [s.d] m = .ok v m := fun {v} e => by
    rw [ff38]
    unfold b38
    simp [runB, evSs, evS, ev, evs, evo, evit, tst, rdv, peek, peekR, rderef, biD, isTy, truth, cmD, isVar, seqOf, itemsOf, idxD, atI, ixN, sizeLine_eq, setV, asg, asgs, DL.isNon, lseqOf, blsOf, EF, e10, e]
  have tiP : ∀ (i j : Int) (ds : List D), -1000000 ≤ i → i ≤ 1000000 → -1000000 ≤ j → j ≤ 1000000 → ds.length ≤ 10 → (∀ P ∈ ds, TI 3 P) → TI 5 (.tup [.int i, .int j, .tup ds]) := fun i j ds a b c d hl hds => by
    refine ⟨by simp, fun x hx => ?_⟩
    simp at hx
    rcases hx with rfl | rfl | rfl
    · exact ⟨a, b⟩
    · exact ⟨c, d⟩
    · exact ⟨hl, hds⟩
  by_cases hp : p % 2 = 1
  · -- odd
    have hpe : 2 * (p / 2) + 1 = p := by omega
    have at0 : MidAt s (p / 2) q := (mid_iff hs hh).mpr ⟨by omega, by rw [hpe]; exact best.inn⟩
    have lst : ∀ i t, 0 < t → MidAt s i t → q ≤ t ∧ p ≤ 2 * i + 1 := fun i t ht hm => by
      have := best.least _ _ ht ((mid_iff hs hh).mp hm).2
      omega
    have hlim : q < lim43 s c d := by
      rcases hw with ⟨ea, eb⟩ | hw
      · have hWp : (tw s).hi = some ((tw s).a, (tw s).b) := by rw [hWh, ← ea, ← eb]; rfl
        have h1 := (best.least _ _ hW.ok.b0 (pt_in hW.ok hWp)).2
        obtain ⟨_, _, _, y1, _, _⟩ := red_facts (x := 2 * s.a) (y := s.b) (by have := hs.a0; omega) hs.b0
        have h2 : (tw s).b ≤ s.b := y1
        unfold lim43
        rw [if_pos ⟨ea, eb⟩]
        omega
      · obtain ⟨n, hn⟩ := mid61 hs hh hw
        exact lim_wide hs.b0 (hs.hi c d hh).1 hw (lst n 61 (by omega) hn).1
    refine ⟨_, _, up38 (mid_odd (k + 6) m s.d (tw s).d _ p q e36 e12 e14 hp), v43b q (p / 2) (by omega) hlim (fun t' h1 h2 i hm => by have := (lst i t' (by omega) hm).1; omega) at0 (fun i' hm => by have := (lst i' q (by omega) hm).2; omega), ?_, .inr ⟨q, p / 2, _, rfl, rfl, tiP _ _ _ (by omega) (by omega) (by omega) (by omega) (by simp) (fun P hP => by simp at hP; subst hP; exact t0), by simp, by simp, by omega, by omega, by omega, by omega, by simp, fun P hP => by simp at hP; subst hP; exact t0⟩⟩
    show (jd (tw s) _ && lastJ _ _ _) = true
    rw [hj0]
    have hk : keys [.tup [frD (p, q), parD q l r]] = [(q, p)] := rfl
    rw [hk, Bool.true_and]
    exact lastJ_of (y := (q, p)) (r := []) rfl hp
  · have hp : p % 2 = 0 := by omega
    have hin := best.inn
    have bp : Bt p 3000 := bt_mono (small_bt (n := 20) (by omega) (by omega) (by omega)) (by omega)
    have bq : Bt q 3000 := bt_mono (small_bt (n := 20) (by omega) (by omega) (by omega)) (by omega)
    have e35 := v35 (k + 4) (tw s) 10000 m hW p q bp bq
    have hgs := halves_good (good_mono hW (by omega) (B' := 20000) (bt_mono (small_bt (n := 20) (by omega) (by omega) (by omega)) (by omega))) best.p0 best.q0 best.co p1 q1
    have some_half : ∀ i t, 0 < t → MidAt s i t → ∃ g ∈ halves (tw s) p q, InR g (2 * i + 1) t := fun i t ht hm => by
      have h1 := ((mid_iff hs hh).mp hm).2
      exact in_halves hW.ok hWh q0 ht (odd_in best hp (by omega) ht h1)
    by_cases hE : halves (tw s) p q = []
    · rw [hE] at e35
      refine ⟨_, _, up38 (mid_non (k + 6) m s.d (tw s).d p q e36 e12 e35 hp), v43a fun t h1 h2 i hm => by
        obtain ⟨g, hg, _⟩ := some_half i t (by omega) hm
        rw [hE] at hg
        simp at hg, ?_, .inl ⟨rfl, rfl⟩⟩
      obtain ⟨a1, a2, a3, a4⟩ := halves_pt hW.ok hWh best hE
      show pt (tw s) = true
      unfold pt
      rw [hWh]
      have b3 : (red (2 * c) d).1 = p := a3
      have b4 : (red (2 * c) d).2 = q := a4
      simp [a1, a2, b3, b4, hp]
    · obtain ⟨xs, Ps, h12, h14, a3⟩ := halves_told k m 20000 (by omega) bt4 (halves (tw s) p q) hgs
      obtain ⟨j1, j2, j3, j4⟩ := al3_j a3 fun g hg => (hgs g hg).ok
      have hn : xs ≠ [] := fun e => by subst e; simp at j3; exact hE (List.length_eq_zero_iff.mp j3.symm)
      have hlen := halves_len (tw s) p q
      obtain ⟨y, r', hf, hy, hleast⟩ := sort_first (xs.map fun x => (x.2, x.1)) (by simp [hn])
      obtain ⟨x, hx, rfl⟩ := List.mem_map.mp hy
      obtain ⟨g, hgm, ⟨l2, r2, hto⟩, b1, b2⟩ := al3_x a3 x hx
      have x0 := hto.best.p0
      have y0 := hto.best.q0
      have odd : x.1 % 2 = 1 := by
        rcases halves_mem hgm with rfl | rfl
        · exact odd_l hW.ok best hto hp
        · exact odd_r hW.ok best hto hp
      have hxe : 2 * (x.1 / 2) + 1 = x.1 := by omega
      have at0 : MidAt s (x.1 / 2) x.2 := (mid_iff hs hh).mpr ⟨by omega, by rw [hxe]; exact half_sub hW.ok q0 y0 hin hgm hto.best.inn⟩
      have lst : ∀ i t, 0 < t → MidAt s i t → x.2 ≤ t ∧ (t = x.2 → x.1 ≤ 2 * i + 1) := fun i t ht hm => by
        obtain ⟨g2, hg2, hi2⟩ := some_half i t ht hm
        obtain ⟨z, hz, l3, r3, hto3⟩ := al3_h a3 g2 hg2
        have := hto3.best.least _ _ ht hi2
        have := hleast (z.2, z.1) (List.mem_map.mpr ⟨z, hz, rfl⟩)
        unfold leP at this
        simp only at this
        omega
      have hlim : x.2 < lim43 s c d := by
        rcases hw with ⟨ea, eb⟩ | hw
        · exfalso
          have hWp : (tw s).hi = some ((tw s).a, (tw s).b) := by rw [hWh, ← ea, ← eb]; rfl
          exact hE (pt_halves hWp hin)
        · obtain ⟨n, hn⟩ := mid61 hs hh hw
          exact lim_wide hs.b0 (hs.hi c d hh).1 hw (lst n 61 (by omega) hn).1
      refine ⟨_, _, up38 (mid_some (k + 6) m s.d (tw s).d _ p q _ Ps xs _ r' e36 e12 e14 e35 hp (by rw [List.length_map]; exact hlen) h12 h14 hn hf), v43b x.2 (x.1 / 2) (by omega) hlim (fun t' h1 h2 i hm => by have := (lst i t' (by omega) hm).1; omega) at0 (fun i' hm => by have := (lst i' x.2 (by omega) hm).2 rfl; omega), ?_, .inr ⟨x.2, x.1 / 2, _, rfl, rfl, tiP _ _ _ (by omega) (by omega) (by omega) (by omega) (by simp; omega) (fun P hP => ?_), by simp, by simp; omega, by omega, by omega, by omega, by omega, by simp; omega, fun P hP => ?_⟩⟩
      · have hPn : Ps ≠ [] := fun e => by subst e; simp at j2; exact hE (List.length_eq_zero_iff.mp j2.symm)
        have hb : beside (tw s) (.tup [frD (p, q), parD q l r]) Ps = true := by
          unfold beside
          rw [hj0]
          have : fpq (.tup [frD (p, q), parD q l r]) = some (p, q) := rfl
          rw [this]
          have : (halves (tw s) p q).isEmpty = false := by
            cases z : halves (tw s) p q with
            | nil => exact absurd z hE
            | cons => rfl
          simp [hp, j1, j2, this]
        have hm : midJ (tw s) x.2 (x.1 / 2) (.tup [frD (p, q), parD q l r] :: Ps) = (beside (tw s) (.tup [frD (p, q), parD q l r]) Ps && lastJ (keys Ps) x.2 (x.1 / 2)) := by
          cases Ps with
          | nil => exact absurd rfl hPn
          | cons => rfl
        show midJ (tw s) x.2 (x.1 / 2) (.tup [frD (p, q), parD q l r] :: Ps) = true
        rw [hm, hb, j4, Bool.true_and]
        exact lastJ_of hf odd
      · rcases List.mem_cons.mp hP with rfl | hP
        · exact t0
        · exact al3_ti (by omega) a3 P hP
      · rcases List.mem_cons.mp hP with rfl | hP
        · exact t0
        · exact al3_ti (by omega) a3 P hP
end K84
end

section
set_option Elab.async false
set_option linter.all false
set_option autoImplicit false
set_option maxRecDepth 100000
set_option maxHeartbeats 4000000
namespace K84
open PySem PySem.Spec L2 DL
theorem ti_int {n : Nat} {i : Int} (h0 : -1000000 ≤ i) (h1 : i ≤ 1000000) : TI n (.int i) := by cases n <;> exact ⟨h0, h1⟩
theorem ti_sho {n : Nat} {d : D} (h : TI n d) : Sho d := fun es e => by
  subst e
  match n, h with
  | n + 1, h =>
    refine ⟨Nat.le_trans h.1 (by omega), fun fs hf => ?_⟩
    have := h.2 _ hf
    match n, this with
    | n + 1, this => exact Nat.le_trans this.1 (by omega)
theorem vok {n : Nat} {d : D} (h : Nice n d) (hn : n ≤ 6) : VOk d := .inl (nice_le h hn)
def Val (d : D) : Prop := VOk d ∧ Sho d
theorem ti_val {n : Nat} {d : D} (h : TI n d) (hn : n ≤ 6) : Val d := ⟨vok (ti_nice h) hn, ti_sho h⟩
theorem val_hl {v : D} (h : Val v) : ∀ i j ds, v = .tup [.int i, .int j, .tup ds] → ds.length < 1000 := fun i j ds e => by
  have := (h.2 _ e).2 ds (by simp)
  omega
theorem odds_val {d : D} (h : d ∈ odds1 ++ odds2) : Val d := by
  refine ⟨odds_ok h, fun es e => ?_⟩
  subst e
  simp only [odds1, odds2, List.cons_append, List.nil_append, List.mem_cons, List.not_mem_nil, or_false, D.tup.injEq, reduceCtorEq, false_or] at h
  rcases h with rfl | rfl | rfl | rfl | rfl | rfl | rfl | rfl <;> simp
theorem loop46 (k : Nat) (m : List (List D)) (s : Stt) (h : s.Good 5000) : ∀ (ds : List D) (x0 x2 x3 x4 x5 x6 : Option Sl), (∀ v ∈ ds, Val v) →
    ∃ x3', loopF (fun d s => (opt (asg (.nm 3) d s) s).bind fun s _ => evSs (E (k + 7)) l46_0 s) ds ⟨[x0, some (.val s.d), x2, x3, x4, x5, x6], m⟩ = .ok .next ⟨[x0, some (.val s.d), x2, x3', x4, x5, x6], m⟩
  | [], x0, x2, x3, x4, x5, x6, _ => ⟨x3, by simp [loopF]⟩
  | v :: ds, x0, x2, x3, x4, x5, x6, hv => by
    have hV := hv v (by simp)
    have e1 := v41 k s m h v hV.1 (val_hl hV)
    have e2 := v45 (k + 2) s m h v hV.1 (val_hl hV)
    obtain ⟨x3', e3⟩ := loop46 k m s h ds x0 x2 (some (.val v)) x4 x5 x6 fun y hy => hv y (by simp [hy])
    refine ⟨x3', ?_⟩
    rw [loop_next (s' := ⟨[x0, some (.val s.d), x2, some (.val v), x4, x5, x6], m⟩)]
    · exact e3
    · simp only [asg, setV, List.length_cons, List.length_nil, Nat.zero_add, Nat.reduceAdd, Nat.reduceLT, if_true, opt_some, bind_ok, List.set_cons_succ, List.set_cons_zero]
      generalize s.d = X at *
      generalize shownM (tw s) v = b at *
      unfold l46_0
      simp [runB, evSs, evS, ev, evs, evo, evit, tst, rdv, peek, peekR, rderef, biD, isTy, truth, cmD, isVar, seqOf, itemsOf, idxD, atI, ixN, sizeLine_eq, setV, asg, asgs, DL.isNon, lseqOf, blsOf, EF, e1, e2, repr_bl, eq_str]
theorem fine2 {s : Stt} (h : Fine s) : Fine2 s := ⟨h.good, h.wide⟩
/-- what stands behind a told middle -/
abbrev moreV (i j : Int) (ds : List D) : List D := [.tup [.tup ds, .int j, .int i], .lst [.int i, .int j, .tup ds], .tup [.int i, .int j]] ++ [.tup [.int (i + 1), .int j, .tup ds], .tup [.int i, .int (j + 1), .tup ds]] ++
  [.tup [.int i, .int j, .tup (cutD ds none (some 1))], .tup [.int i, .int j, .tup (ds ++ cutD ds (some (-1)) none)], .tup [.int i, .int j, .tup ds.reverse]]
theorem more_val {i j : Int} {ds : List D} (i0 : 0 ≤ i) (i1 : i ≤ 100000) (j0 : 0 ≤ j) (j1 : j ≤ 100000) (hd : TI 4 (.tup ds)) (hl : ds.length ≤ 3) : ∀ v ∈ moreV i j ds, Val v := by
  have nI : ∀ (n : Nat) (x : Int), -1000000 ≤ x → x ≤ 1000000 → TI n (.int x) := fun n x h0 h1 => ti_int h0 h1
  have sub : ∀ es : List D, es.length ≤ 10 → (∀ x ∈ es, x ∈ ds) → TI 4 (.tup es) := fun es hl he => ⟨hl, fun x hx => hd.2 x (he x hx)⟩
  have t3 : ∀ (a b : Int) (es : List D), -1000000 ≤ a → a ≤ 1000000 → -1000000 ≤ b → b ≤ 1000000 → TI 4 (.tup es) → Val (.tup [.int a, .int b, .tup es]) := fun a b es a0 a1 b0 b1 he => ti_val (n := 5) ⟨by simp, fun x hx => by
    simp at hx
    rcases hx with rfl | rfl | rfl
    · exact nI 4 _ a0 a1
    · exact nI 4 _ b0 b1
    · exact he⟩ (by omega)
  intro v hv
  unfold moreV at hv
  simp only [List.cons_append, List.nil_append, List.mem_cons, List.not_mem_nil, or_false] at hv
  rcases hv with rfl | rfl | rfl | rfl | rfl | rfl | rfl | rfl
  · exact ti_val (n := 5) ⟨by simp, fun x hx => by
      simp at hx
      rcases hx with rfl | rfl | rfl
      · exact hd
      · exact nI 4 _ (by omega) (by omega)
      · exact nI 4 _ (by omega) (by omega)⟩ (by omega)
  · refine ⟨vok (n := 5) (fun x hx => ?_) (by omega), fun es e => by cases e⟩
    simp at hx
    rcases hx with rfl | rfl | rfl
    · exact ti_nice (nI 4 _ (by omega) (by omega))
    · exact ti_nice (nI 4 _ (by omega) (by omega))
    · exact ti_nice hd
  · exact ti_val (n := 5) ⟨by simp, fun x hx => by
      simp at hx
      rcases hx with rfl | rfl
      · exact nI 4 _ (by omega) (by omega)
      · exact nI 4 _ (by omega) (by omega)⟩ (by omega)
  · exact t3 _ _ _ (by omega) (by omega) (by omega) (by omega) hd
  · exact t3 _ _ _ (by omega) (by omega) (by omega) (by omega) hd
  · exact t3 _ _ _ (by omega) (by omega) (by omega) (by omega) (sub _ (Nat.le_trans (cut_len _ _ _) (by omega)) fun x hx => cut_mem hx)
  · refine t3 _ _ _ (by omega) (by omega) (by omega) (by omega) (sub _ ?_ fun x hx => ?_)
    · have := cut_len ds (some (-1)) none
      simp; omega
    · rcases List.mem_append.mp hx with hx | hx
      · exact hx
      · exact cut_mem hx
  · exact t3 _ _ _ (by omega) (by omega) (by omega) (by omega) (sub _ (by simp; omega) fun x hx => List.mem_reverse.mp hx)
theorem repr_non : reprD .non = some (Str.ofString "None") := rfl
theorem mid_val {s : Stt} {v due : D} (h : Mid s v due) : Val v := by
  rcases h.how with ⟨rfl, _⟩ | ⟨i, j, ds, rfl, _, ht, _⟩
  · exact ⟨.inl trivial, fun es e => by cases e⟩
  · exact ti_val ht (by omega)
abbrev V0 (v od v2 : D) : List D := [v, .non, .tup [], od, .tup [.int 1, .int 0, .tup []], .tup [.int 1, .int 0, .tup [.tup [.tup [.int 1, .int 1], .tup []]]], v2]
theorem v0_val {v od v2 : D} (h1 : Val v) (h2 : Val od) (h3 : Val v2) : ∀ x ∈ V0 v od v2, Val x := by
  intro x hx
  simp only [List.mem_cons, List.not_mem_nil, or_false] at hx
  have em : ∀ n, TI (n + 1) (.tup []) := fun n => ⟨by simp, fun x hx => by simp at hx⟩
  rcases hx with rfl | rfl | rfl | rfl | rfl | rfl | rfl
  · exact h1
  · exact ⟨.inl trivial, fun es e => by cases e⟩
  · exact ti_val (em 1) (by omega)
  · exact h2
  · refine ti_val (n := 5) ⟨by simp, fun x hx => ?_⟩ (by omega)
    simp at hx
    rcases hx with rfl | rfl | rfl
    · exact ti_int (by omega) (by omega)
    · exact ti_int (by omega) (by omega)
    · exact em 3
  · refine ti_val (n := 5) ⟨by simp, fun x hx => ?_⟩ (by omega)
    simp at hx
    rcases hx with rfl | rfl | rfl
    · exact ti_int (by omega) (by omega)
    · exact ti_int (by omega) (by omega)
    · refine ⟨by simp, fun x hx => ?_⟩
      simp at hx
      subst hx
      refine ⟨by simp, fun x hx => ?_⟩
      simp at hx
      rcases hx with rfl | rfl
      · refine ⟨by simp, fun x hx => ?_⟩
        simp at hx
        subst hx
        exact ti_int (by omega) (by omega)
      · exact em 1
  · exact h3
/-- _law_right -/
theorem v46 (k : Nat) (m : List (List D)) (j : Nat) (n : Int) (hP : Pot m j n) (hn : n < 800000) : ∃ m', F (k + 9) 46 [.ref j] m = .ok (.bl true) m' ∧ Pot m' j (n + 200) := by
  obtain ⟨s, m1, fs, e1, P1⟩ := v30 (k + 5) m j n 30 hP (by omega) (by omega) (by omega)
  obtain ⟨v, due, e2, e3, M⟩ := mid s (fine2 fs) k m1
  have e45 := v45 (k + 3) s m1 fs.good v (mid_val M).1 (val_hl (mid_val M))
  rw [M.shown] at e45
  obtain ⟨od, m2, e4, hod, P2⟩ := v26 (k + 5) m1 j (n + 8) P1 (by omega)
  obtain ⟨fa, m3, ff, e5, P3⟩ := v30 (k + 5) m2 j (n + 8 + 1) 9 P2 (by omega) (by omega) (by omega)
  obtain ⟨v2, due2, e6, _, M2⟩ := mid fa (fine2 ff) k m3
  have hv0 := v0_val (mid_val M) (odds_val hod) (mid_val M2)
  have hg := fs.good
  obtain ⟨zn, hzn⟩ : ∃ z, reprD .non = some z := ⟨_, repr_non⟩
  rw [show k + 9 = (k + 8) + 1 by omega, ff46]
  -- the loop at the end, over any list of values
  have fin : ∀ (L : List D) (M : List (List D)) (cc : Int), (∀ x ∈ L, Val x) → Pot M j cc → cc ≤ n + 200 → ∀ (x2 : Option Sl), x2 = some (.own L) →
      evSs (E (k + 8)) b46 ⟨[some (.val (.ref j)), none, none, none, none, none, none], m⟩ = evSs (E (k + 8)) (.cons (.forr (.nm 3) (.seq (.var 2)) l46_0) (.cons (.ret (.const (.bl true))) .nil)) ⟨[some (.val (.ref j)), some (.val s.d), x2, none, some (.val due), some (.val v), none], M⟩ →
      ∃ m', runB (E (k + 8)) 7 b46 [.ref j] m = .ok (.bl true) m' ∧ Pot m' j (n + 200) := fun L M cc hL hPM hcc x2 hx2 pre => by
    subst hx2
    obtain ⟨x3, f1⟩ := loop46 (k + 1) M s hg L (some (.val (.ref j))) (some (.val (.lst L))) none (some (.val due)) (some (.val v)) none hL
    refine ⟨M, ?_, hPM.mono hcc⟩
    refine runB_ret (s0 := ⟨[some (.val (.ref j)), none, none, none, none, none, none], m⟩) rfl (s := ⟨[some (.val (.ref j)), some (.val s.d), some (.val (.lst L)), x3, some (.val due), some (.val v), none], M⟩) (pre.trans ?_)
    refine (seq_next (s' := ⟨[some (.val (.ref j)), some (.val s.d), some (.val (.lst L)), x3, some (.val due), some (.val v), none], M⟩) ?_).trans (seq_ret (by simp [runB, evSs, evS, ev, evs, evo, evit, tst, rdv, peek, peekR, rderef, biD, isTy, truth, cmD, isVar, seqOf, itemsOf, idxD, atI, ixN, sizeLine_eq, setV, asg, asgs, DL.isNon, lseqOf, blsOf]))
    rw [evS]
    simp only [evit, ev, rdv, List.getElem?_cons_succ, List.getElem?_cons_zero, List.set_cons_succ, List.set_cons_zero, bind_ok, itemsOf, opt_some]
    exact f1
  rcases M.how with ⟨rfl, rfl⟩ | ⟨a, b, ds, rfl, rfl, ht, d0, d3, a0, a1, b0, b1, hd⟩
  · -- no middle
    refine fin (V0 .non od v2) m3 (n + 8 + 1 + 8) hv0 P3 (by omega) _ rfl ?_
    generalize s.d = X at *
    generalize fa.d = Y at *
    unfold b46
    refine (seq_next (s' := ⟨[some (.val (.ref j)), some (.val X), none, none, none, none, none], m1⟩) (by simp [runB, evSs, evS, ev, evs, evo, evit, tst, rdv, peek, peekR, rderef, biD, isTy, truth, cmD, isVar, seqOf, itemsOf, idxD, atI, ixN, sizeLine_eq, setV, asg, asgs, DL.isNon, lseqOf, blsOf, EF, e1])).trans ?_
    refine (seq_next (s' := ⟨[some (.val (.ref j)), some (.val X), none, none, some (.val .non), some (.val .non), none], m1⟩) (by simp [runB, evSs, evS, ev, evs, evo, evit, tst, rdv, peek, peekR, rderef, biD, isTy, truth, cmD, isVar, seqOf, itemsOf, idxD, atI, ixN, sizeLine_eq, setV, asg, asgs, DL.isNon, lseqOf, blsOf, EF, e2, e3])).trans ?_
    refine (seq_next (s' := ⟨[some (.val (.ref j)), some (.val X), none, none, some (.val .non), some (.val .non), none], m1⟩) (by simp [runB, evSs, evS, ev, evs, evo, evit, tst, rdv, peek, peekR, rderef, biD, isTy, truth, cmD, isVar, seqOf, itemsOf, idxD, atI, ixN, sizeLine_eq, setV, asg, asgs, DL.isNon, lseqOf, blsOf, EF, hzn, eq_str, e45])).trans ?_
    refine (seq_next (s' := ⟨[some (.val (.ref j)), some (.val X), some (.own (V0 .non od v2)), none, some (.val .non), some (.val .non), none], m3⟩) (by simp [runB, evSs, evS, ev, evs, evo, evit, tst, rdv, peek, peekR, rderef, biD, isTy, truth, cmD, isVar, seqOf, itemsOf, idxD, atI, ixN, sizeLine_eq, setV, asg, asgs, DL.isNon, lseqOf, blsOf, EF, e4, e5, e6, own1])).trans ?_
    exact (seq_next (s' := ⟨[some (.val (.ref j)), some (.val X), some (.own (V0 .non od v2)), none, some (.val .non), some (.val .non), none], m3⟩) (by simp [runB, evSs, evS, ev, evs, evo, evit, tst, rdv, peek, peekR, rderef, biD, isTy, truth, cmD, isVar, seqOf, itemsOf, idxD, atI, ixN, sizeLine_eq, setV, asg, asgs, DL.isNon, lseqOf, blsOf]))
  · -- a middle is told
    obtain ⟨z1, hz1⟩ := repr_tup (n := 2) (ds := [.int a, .int b]) ⟨by simp, fun x hx => by
      simp at hx
      rcases hx with rfl | rfl <;> exact ti_int (by omega) (by omega)⟩ (by omega)
    obtain ⟨ys, m4, b1', b2', b3', P4⟩ := compM (E := E (k + 8)) (i := 6) (it := .rng (.cons (.const (.int 6)) .nil)) (e := .call 27 (.cons (.var 0) (.cons (.var 5) .nil))) (Inv := fun c m => Pot m j c) (P := Val) (r := [some (.val (.ref j)), some (.val s.d), some (.own (V0 (.tup [.int a, .int b, .tup ds]) od v2 ++ moreV a b ds)), none, some (.val (.tup [.int a, .int b])), some (.val (.tup [.int a, .int b, .tup ds])), none]) (ds := [.int 0, .int 1, .int 2, .int 3, .int 4, .int 5]) (m := m3) (c := n + 8 + 1 + 8) 18 (by
        simp only [evit, evs, ev, bind_ok, int_d, rngD]
        rw [if_pos (by decide)]
        rfl) (by simp) (by simp [plainAt]) (by simp [sizeLine_eq]) P3 (fun d hd' c' m' hc hc2 hI => by
        obtain ⟨y, m5, e9, ny, sy, P5⟩ := v27 5 _ ht k m' j c' hI (by simp at hc2; omega) (by omega)
        have e9 : F (k + 8) 27 [.ref j, .tup [.int a, .int b, .tup ds]] m' = .ok y m5 := e9
        refine ⟨y, m5, ?_, ⟨vok ny (by omega), sy⟩, by simpa using P5.mono (by omega)⟩
        generalize s.d = X at *
        simp [runB, evSs, evS, ev, evs, evo, evit, tst, rdv, peek, peekR, rderef, biD, isTy, truth, cmD, isVar, seqOf, itemsOf, idxD, atI, ixN, sizeLine_eq, setV, asg, asgs, DL.isNon, lseqOf, blsOf, EF, e9]) (by omega)
    have hmv := more_val a0 a1 b0 b1 hd d3
    refine fin (V0 (.tup [.int a, .int b, .tup ds]) od v2 ++ moreV a b ds ++ ys) m4 _ (fun x hx => ?_) P4 (by simp; omega) _ rfl ?_
    · rcases List.mem_append.mp hx with hx | hx
      · rcases List.mem_append.mp hx with hx | hx
        · exact hv0 x hx
        · exact hmv x hx
      · exact b2' x hx
    have c1 : cutD [D.int a, D.int b, D.tup ds] none (some 2) = [.int a, .int b] := by simp [cutD, HT.sIx]
    have c2 : cutD [D.int a, D.int b, D.tup ds] (some 1) none = [.int b, .tup ds] := by simp [cutD, HT.sIx]
    have c3 : cutD [D.int a, D.int b, D.tup ds] none (some 1) = [.int a] := by simp [cutD, HT.sIx]
    have c4 : cutD [D.int a, D.int b, D.tup ds] (some 2) none = [.tup ds] := by simp [cutD, HT.sIx]
    have q1 := addt (a := [.int (a + 1)]) (b := [.int b, .tup ds]) (by simp)
    have q2 := addt (a := [.int a]) (b := [.int (b + 1)]) (by simp)
    have q3 := addt (a := [.int a, .int (b + 1)]) (b := [.tup ds]) (by simp)
    have q4 := fun es : List D => addt (a := [.int a, .int b]) (b := [.tup es]) (by simp)
    have q5 := addt (a := ds) (b := cutD ds (some (-1)) none) (by have := cut_len ds (some (-1)) none; omega)
    generalize s.d = X at *
    generalize fa.d = Y at *
    unfold b46
    refine (seq_next (s' := ⟨[some (.val (.ref j)), some (.val X), none, none, none, none, none], m1⟩) (by simp [runB, evSs, evS, ev, evs, evo, evit, tst, rdv, peek, peekR, rderef, biD, isTy, truth, cmD, isVar, seqOf, itemsOf, idxD, atI, ixN, sizeLine_eq, setV, asg, asgs, DL.isNon, lseqOf, blsOf, EF, e1])).trans ?_
    refine (seq_next (s' := ⟨[some (.val (.ref j)), some (.val X), none, none, some (.val (.tup [.int a, .int b])), some (.val (.tup [.int a, .int b, .tup ds])), none], m1⟩) (by simp [runB, evSs, evS, ev, evs, evo, evit, tst, rdv, peek, peekR, rderef, biD, isTy, truth, cmD, isVar, seqOf, itemsOf, idxD, atI, ixN, sizeLine_eq, setV, asg, asgs, DL.isNon, lseqOf, blsOf, EF, e2, e3])).trans ?_
    refine (seq_next (s' := ⟨[some (.val (.ref j)), some (.val X), none, none, some (.val (.tup [.int a, .int b])), some (.val (.tup [.int a, .int b, .tup ds])), none], m1⟩) (by simp [runB, evSs, evS, ev, evs, evo, evit, tst, rdv, peek, peekR, rderef, biD, isTy, truth, cmD, isVar, seqOf, itemsOf, idxD, atI, ixN, sizeLine_eq, setV, asg, asgs, DL.isNon, lseqOf, blsOf, EF, hz1, eq_str, e45, sliD, c1])).trans ?_
    refine (seq_next (s' := ⟨[some (.val (.ref j)), some (.val X), some (.own (V0 (.tup [.int a, .int b, .tup ds]) od v2)), none, some (.val (.tup [.int a, .int b])), some (.val (.tup [.int a, .int b, .tup ds])), none], m3⟩) (by simp [runB, evSs, evS, ev, evs, evo, evit, tst, rdv, peek, peekR, rderef, biD, isTy, truth, cmD, isVar, seqOf, itemsOf, idxD, atI, ixN, sizeLine_eq, setV, asg, asgs, DL.isNon, lseqOf, blsOf, EF, e4, e5, e6, own1])).trans ?_
    refine (seq_next (s' := ⟨[some (.val (.ref j)), some (.val X), some (.own (V0 (.tup [.int a, .int b, .tup ds]) od v2 ++ moreV a b ds ++ ys)), none, some (.val (.tup [.int a, .int b])), some (.val (.tup [.int a, .int b, .tup ds])), none], m4⟩) ?_)
    generalize hV : V0 (.tup [.int a, .int b, .tup ds]) od v2 = V at *
    have hVl : V.length = 7 := by rw [← hV]; rfl
    rw [evS]
    have ht1 : tst (E (k + 8)) (.tv (.cmp .isnot (.var 5) (.const .non))) ⟨[some (.val (.ref j)), some (.val X), some (.own V), none, some (.val (.tup [.int a, .int b])), some (.val (.tup [.int a, .int b, .tup ds])), none], m3⟩ = .ok true ⟨[some (.val (.ref j)), some (.val X), some (.own V), none, some (.val (.tup [.int a, .int b])), some (.val (.tup [.int a, .int b, .tup ds])), none], m3⟩ := by simp [runB, evSs, evS, ev, evs, evo, evit, tst, rdv, peek, peekR, rderef, biD, isTy, truth, cmD, isVar, seqOf, itemsOf, idxD, atI, ixN, sizeLine_eq, setV, asg, asgs, DL.isNon, lseqOf, blsOf]
    rw [ht1]
    simp only [bind_ok, if_true]
    refine (seq_next (s' := ⟨[some (.val (.ref j)), some (.val X), some (.own (V ++ [.tup [.tup ds, .int b, .int a], .lst [.int a, .int b, .tup ds], .tup [.int a, .int b]])), none, some (.val (.tup [.int a, .int b])), some (.val (.tup [.int a, .int b, .tup ds])), none], m3⟩) (by simp [runB, evSs, evS, ev, evs, evo, evit, tst, rdv, peek, peekR, rderef, biD, isTy, truth, cmD, isVar, seqOf, itemsOf, idxD, atI, ixN, sizeLine_eq, setV, asg, asgs, DL.isNon, lseqOf, blsOf, ownAt, sliD, c1, revD, hVl])).trans ?_
    refine (seq_next (s' := ⟨[some (.val (.ref j)), some (.val X), some (.own (V ++ [.tup [.tup ds, .int b, .int a], .lst [.int a, .int b, .tup ds], .tup [.int a, .int b]] ++ [.tup [.int (a + 1), .int b, .tup ds], .tup [.int a, .int (b + 1), .tup ds]])), none, some (.val (.tup [.int a, .int b])), some (.val (.tup [.int a, .int b, .tup ds])), none], m3⟩) (by simp [runB, evSs, evS, ev, evs, evo, evit, tst, rdv, peek, peekR, rderef, biD, isTy, truth, cmD, isVar, seqOf, itemsOf, idxD, atI, ixN, sizeLine_eq, setV, asg, asgs, DL.isNon, lseqOf, blsOf, ownAt, sliD, c2, c3, c4, q1, q2, q3, hVl])).trans ?_
    refine (seq_next (s' := ⟨[some (.val (.ref j)), some (.val X), some (.own (V ++ moreV a b ds)), none, some (.val (.tup [.int a, .int b])), some (.val (.tup [.int a, .int b, .tup ds])), none], m3⟩) (by simp [runB, evSs, evS, ev, evs, evo, evit, tst, rdv, peek, peekR, rderef, biD, isTy, truth, cmD, isVar, seqOf, itemsOf, idxD, atI, ixN, sizeLine_eq, setV, asg, asgs, DL.isNon, lseqOf, blsOf, ownAt, sliD, c1, c4, revD, q4, q5, hVl])).trans ?_
    have b1'' : ev (E (k + 8)) c46_0 ⟨[some (.val (.ref j)), some (.val X), some (.own (V ++ moreV a b ds)), none, some (.val (.tup [.int a, .int b])), some (.val (.tup [.int a, .int b, .tup ds])), none], m3⟩ = .ok (.lst ys) ⟨[some (.val (.ref j)), some (.val X), some (.own (V ++ moreV a b ds)), none, some (.val (.tup [.int a, .int b])), some (.val (.tup [.int a, .int b, .tup ds])), none], m4⟩ := b1'
    generalize hMV : moreV a b ds = MV at *
    have hMl : MV.length = 8 := by rw [← hMV]; rfl
    refine (seq_next (s' := ⟨[some (.val (.ref j)), some (.val X), some (.own (V ++ MV ++ ys)), none, some (.val (.tup [.int a, .int b])), some (.val (.tup [.int a, .int b, .tup ds])), none], m4⟩) ?_).trans (by rw [evSs])
    have hyl : ys.length = 6 := by simpa using b3'
    rw [evS]
    simp only [ownAt, List.getElem?_cons_succ, List.getElem?_cons_zero, Option.isSome_some, if_true]
    rw [b1'']
    simp only [bind_ok, opt_some, List.getElem?_cons_succ, List.getElem?_cons_zero]
    rw [if_pos (by rw [sizeLine_eq]; simp; omega)]
    simp
end K84
end

section
set_option Elab.async false
set_option linter.all false
set_option autoImplicit false
set_option maxRecDepth 100000
set_option maxHeartbeats 2000000
namespace K84
open PySem PySem.Spec L2 DL
theorem all_true : ∀ ys : List D, (∀ y ∈ ys, y = .bl true) → blsOf ys = some (ys.map fun _ => true)
  | [], _ => rfl
  | y :: ys, h => by
    have := h y (by simp)
    subst this
    simp [blsOf, all_true ys fun z hz => h z (by simp [hz])]
theorem loop47 (k : Nat) (ns : List Int) : ∀ (ps : List Nat) (m : List (List D)) (x1 x2 : Option Sl), (∀ i ∈ ps, i < 3) →
    ∃ x1' x2' m', loopF (fun d s => (opt (asg (.nm 1) d s) s).bind fun s _ => evSs (E (k + 9)) l47_0 s) (ps.map fun (i : Nat) => .int i) ⟨[some (.val (.klst (ns.map .int))), x1, x2, none], m⟩ = .ok .next ⟨[some (.val (.klst (ns.map .int))), x1', x2', none], m'⟩
  | [], m, x1, x2, _ => ⟨x1, x2, m, by simp [loopF]⟩
  | i :: ps, m, x1, x2, h => by
    obtain ⟨j, m1, e1, P1⟩ := v22 (k + 8) m ns i (h i (by simp))
    obtain ⟨ys, m2, c1, c2, c3, c4⟩ := compM (E := E (k + 9)) (i := 3) (it := .rng (.cons (.const (.int 6)) .nil)) (e := .call 46 (.cons (.var 2) .nil)) (Inv := fun c m => Pot m j c) (P := fun y => y = .bl true) (r := [some (.val (.klst (ns.map .int))), some (.val (.int i)), some (.val (.ref j)), none]) (ds := [.int 0, .int 1, .int 2, .int 3, .int 4, .int 5]) (m := m1) (c := 0) 200 (by
        simp only [evit, evs, ev, bind_ok, int_d, rngD]
        rw [if_pos (by decide)]
        rfl) (by simp) (by simp [plainAt]) (by simp [sizeLine_eq]) P1 (fun d hd c' m' hc hc2 hI => by
        obtain ⟨m3, e2, P2⟩ := v46 k m' j c' hI (by simp at hc2; omega)
        exact ⟨.bl true, m3, by simp [runB, evSs, evS, ev, evs, evo, evit, tst, rdv, peek, peekR, rderef, biD, isTy, truth, cmD, isVar, seqOf, itemsOf, idxD, atI, ixN, sizeLine_eq, setV, asg, asgs, DL.isNon, lseqOf, blsOf, EF, e2], rfl, P2⟩) (by omega)
    have c1' : ev (E (k + 9)) c47_0 ⟨[some (.val (.klst (ns.map .int))), some (.val (.int i)), some (.val (.ref j)), none], m1⟩ = .ok (.lst ys) ⟨[some (.val (.klst (ns.map .int))), some (.val (.int i)), some (.val (.ref j)), none], m2⟩ := c1
    obtain ⟨x1', x2', m', e3⟩ := loop47 k ns ps m2 (some (.val (.int i))) (some (.val (.ref j))) fun z hz => h z (by simp [hz])
    refine ⟨x1', x2', m', ?_⟩
    rw [List.map_cons]
    rw [loop_next (s' := ⟨[some (.val (.klst (ns.map .int))), some (.val (.int i)), some (.val (.ref j)), none], m2⟩)]
    · exact e3
    · have hb := all_true ys c2
      have ha : (ys.map fun _ => true).all id = true := by simp
      simp only [asg, setV, List.length_cons, List.length_nil, Nat.zero_add, Nat.reduceAdd, Nat.reduceLT, if_true, opt_some, bind_ok, List.set_cons_succ, List.set_cons_zero]
      unfold l47_0
      refine (seq_next (s' := ⟨[some (.val (.klst (ns.map .int))), some (.val (.int i)), some (.val (.ref j)), none], m1⟩) (by simp [runB, evSs, evS, ev, evs, evo, evit, tst, rdv, peek, peekR, rderef, biD, isTy, truth, cmD, isVar, seqOf, itemsOf, idxD, atI, ixN, sizeLine_eq, setV, asg, asgs, DL.isNon, lseqOf, blsOf, EF, e1])).trans ?_
      have e4 : ev (E (k + 9)) (.bi .all (.cons c47_0 .nil)) ⟨[some (.val (.klst (ns.map .int))), some (.val (.int i)), some (.val (.ref j)), none], m1⟩ = .ok (.bl true) ⟨[some (.val (.klst (ns.map .int))), some (.val (.int i)), some (.val (.ref j)), none], m2⟩ := by
        rw [lenArg_none rfl]
        simp only [evs, c1', bind_ok, biD, lseqOf, Option.bind_some, hb, Option.map_some, opt_some, ha]
      have hv : isVar (DX.bi .all (.cons c47_0 .nil)) = none := rfl
      generalize DX.bi .all (.cons c47_0 .nil) = CC at *
      simp [evSs, evS, tst, hv, e4, truth]
theorem fin (ns : List Int) : ∃ m, FF tab fc.ck 20 47 [.klst (ns.map .int)] [] = .ok (.bl true) m := by
  obtain ⟨ps, hp, hl, e1⟩ := v25 18 [] (ns.map D.int)
  obtain ⟨x1, x2, m', e2⟩ := loop47 10 ns ps [] none none hp
  refine ⟨m', ?_⟩
  show F (19 + 1) 47 _ _ = _
  rw [ff47]
  refine runB_ret (s0 := ⟨[some (.val (.klst (ns.map .int))), none, none, none], []⟩) rfl (s := ⟨[some (.val (.klst (ns.map .int))), x1, x2, none], m'⟩) ?_
  unfold b47
  refine (seq_next (s' := ⟨[some (.val (.klst (ns.map .int))), x1, x2, none], m'⟩) ?_).trans (seq_ret (by simp [runB, evSs, evS, ev, evs, evo, evit, tst, rdv, peek, peekR, rderef, biD, isTy, truth, cmD, isVar, seqOf, itemsOf, idxD, atI, ixN, sizeLine_eq, setV, asg, asgs, DL.isNon, lseqOf, blsOf]))
  rw [evS]
  have q : evit (E 19) (.seq (.call 25 (.cons (.var 0) (.cons (.const (.int 3)) .nil)))) ⟨[some (.val (.klst (ns.map .int))), none, none, none], []⟩ = .ok (ps.map fun (i : Nat) => .int i) ⟨[some (.val (.klst (ns.map .int))), none, none, none], []⟩ := by
    simp [runB, evSs, evS, ev, evs, evo, evit, tst, rdv, peek, peekR, rderef, biD, isTy, truth, cmD, isVar, seqOf, itemsOf, idxD, atI, ixN, sizeLine_eq, setV, asg, asgs, DL.isNon, lseqOf, blsOf, EF, e1]
  rw [q]
  simp only [bind_ok]
  exact e2
end K84
end

section
set_option Elab.async false
set_option linter.all false
set_option autoImplicit false
set_option maxRecDepth 100000
set_option maxHeartbeats 4000000
namespace K84
open PySem PySem.Spec L2 DL
open PyProof.Rows hiding St
def l0 : List Str := [("__name__" : Str), ("PictureError" : Str), ("BadStretch" : Str), ("BEYOND" : Str), ("NOTHING" : Str), ("ONE" : Str), ("is_integer" : Str), ("common" : Str), ("reduced" : Str), ("is_fraction" : Str), ("is_told_fraction" : Str), ("difference" : Str), ("product_of" : Str), ("quotient" : Str), ("is_less" : Str), ("floor_of" : Str), ("TWO" : Str), ("MOST_PARTS" : Str), ("is_stretch" : Str), ("check_stretch" : Str), ("is_inside" : Str), ("simplest_of" : Str), ("parents_of" : Str), ("with_parents" : Str), ("halves_of" : Str), ("twice" : Str), ("middle_told" : Str), ("middle_size" : Str), ("are_parents" : Str), ("is_simplest" : Str), ("are_beside" : Str), ("is_middle_told" : Str), ("shows_middle_size" : Str), ("_law_pot" : Str), ("_law_take" : Str), ("_law_of" : Str)]
def l1 : List Str := [("_law_cells" : Str), ("_law_odd" : Str), ("_law_bent" : Str), ("_law_cut" : Str), ("_law_is_in" : Str), ("_law_stretch" : Str), ("_law_is_whole" : Str), ("_law_is_paper" : Str), ("_law_twice" : Str), ("_law_middle" : Str), ("_law_halves" : Str), ("_law_is_shown" : Str), ("_law_right" : Str), ("law" : Str)]
def loose : List Str := l0 ++ l1
abbrev R : PySem.W.OpenRow := PySem.W.OpenLaw.row row
def ob (s : PySem.W.SharedT) : He.AlD := fc.obsG 4 (HandSHeadRun.getT s)
theorem ob_eq (s : PySem.W.SharedT) : ob s = (fc.hook 4).obs s.abs := Fc.obsG_eq (HandSHeadRun.getT_eq s)
theorem run (w : World) : HandSHeadRun.RunEqI R (PySem.W.view R.prog [0, 53]) (fc.hook 4) ob 2000 loose w := by
  delta HandSHeadRun.RunEqI
  kernel_rfl
end K84
end

section
set_option Elab.async false
set_option linter.all false
set_option maxRecDepth 100000
set_option maxHeartbeats 4000000
open PySem PySem.W PySem.Calls PyProof.Rows
theorem PySem.Challenge.cw_whatthepicturesays_k84_whole_middles_of_holds : PySem.Challenge.rw_whatthepicturesays_k84_whole_middles_of.Holds := by
  w_on; o_law
  refine HandSHeadRun.head_imp (r := OpenLaw.row PySem.Challenge.rw_whatthepicturesays_k84_whole_middles_of) (q := view (OpenLaw.row PySem.Challenge.rw_whatthepicturesays_k84_whole_middles_of).prog [0, 53]) (H := K84.fc.hook 4) (ob := K84.ob) (M := 2000) (loose := K84.loose) (d := HandSHeadRun.topDef (OpenLaw.row PySem.Challenge.rw_whatthepicturesays_k84_whole_middles_of).prog 53) (kwd := []) K84.ob_eq
    K84.run (by kernel_rfl) (by kernel_rfl) (by kernel_rfl) (by rfl) (by first | assumption | decide +kernel) (by decide +kernel) ⟨rfl, rfl, rfl, rfl, rfl, by decide +kernel⟩ ?hw ?hc
  case hw => w_witness2
  case hc =>
    exact DL.walk_tab (n := 63) (k := 20) (i := 47) (f := K84.f47) (t := K84.tab) (g := true) rfl (by decide) (by kernel_rfl) ⟨rfl, by decide, by decide⟩ K84.okt rfl (by kernel_rfl) rfl fun ns _ _ => K84.fin ns
end

